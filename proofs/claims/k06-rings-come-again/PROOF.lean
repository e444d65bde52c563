import PyProof.Rows.All
import Wide.All
import OpenK.AllK
import Wide.FinOn
import KE.KStateDown
import KE.OsRunLaw
import HandS.Head0
import HandS.Head1
import HandS.Head2
import HandS.ForExc
import HandS.Comp
import HandS.Iter
import HandS.Dict
import HandS.Wide
import HandS.WideBits
import HandS.IsInst
import HandS.TupAny
import HandS.Flow
import HandS.Zip
import HandS.Evl
import HandS.NoneIn
import PyProof.Rows.SeqMore
import HandS.ClsMeth
import HandS.ExcOwn
import HandS.ExcBuiltin
import HandS.TryOnly
import HandS.ExcIs
import HandS.Walk
import KE.GoesZip
import KE.GoesMore
import HandS.Deep
import PySem.Challenge.RW_chainparts_k06_rings_come_again
set_option Elab.async false
set_option linter.all false
set_option maxRecDepth 100000
set_option maxHeartbeats 4000000
namespace PLH
open PySem PySem.W PySem.Calls PyProof.Rows
def nm0 : List PySem.Str := ["PartError", "BadTree", "NoValue", "TooLong", "root_below", "Purse", "Reader", "Fixed", "Leaf", "Fraction", "Root", "Ruled", "root_of", "DEEPEST", "MOST_NUMBER", "MOST_PARTS", "MOST_POWER", "must", "need_numbers", "need_ruled", "need_eight", "need_tree", "ring_of", "below_all", "Four", "Eight", "TIMES", "opened", "reader", "first_parts"]
def nm1 : List PySem.Str := ["_law_row", "_law_taken", "_law_whole", "_law_list", "_law_signed", "_law_root", "_law_common", "_law_lowest", "_law_made", "_law_sum", "_law_product", "_law_quotient", "_law_below", "_law_parts", "_law_ring", "_law_why"]
def names : List PySem.Str := nm0 ++ nm1
theorem ob_eq (as : List Addr) (s : SharedT) : as.map (HandSHeadRun.getT s) = as.map s.abs.heap.get? := by rw [funext (HandSHeadRun.getT_eq s)]
local macro_rules | `(tactic| k_head) => `(tactic| k_headL)
local macro_rules | `(tactic| o_headL (kHook $k $a $p)) => `(tactic| refine HandSHeadRun.head_any (r := PySem.W.OpenLaw.row PySem.Challenge.rw_chainparts_k06_rings_come_again) (q := view (PySem.W.OpenLaw.row PySem.Challenge.rw_chainparts_k06_rings_come_again).prog [54]) (H := kHook $k $a $p) (ob := fun s => List.map (HandSHeadRun.getT s) $a) (M := 7000) (loose := names) (d := HandSHeadRun.topDef (PySem.W.OpenLaw.row PySem.Challenge.rw_chainparts_k06_rings_come_again).prog 54) (kwd := []) (fun s => ob_eq $a s) (by kernel_rfl) (fun s => by kernel_rfl) (fun w os => by kernel_rfl) (by kernel_rfl) (by kernel_rfl) (by kernel_rfl) (by rfl) (by first | assumption | decide +kernel) (by decide +kernel) ⟨rfl, rfl, rfl, rfl, rfl, by decide +kernel⟩ ?hw ?hc)
set_option maxRecDepth 100000 in
set_option maxHeartbeats 0 in
open_top hdTop for PySem.Challenge.rw_chainparts_k06_rings_come_again
end PLH
namespace PL
open PySem L2
/-- data; o a: an object of the abstract store -/
inductive D where
  | non | bl (b : Bool) | int (i : Int) | str (s : Str) | tup (xs : List D) | lst (xs : List D) | o (a : Addr)
mutual
inductive DV (K : PySem.W.Frag) (G : Hp) : V → D → Prop
  | non : DV K G .non .non
  | bl (b : Bool) : DV K G (.bl b) (.bl b)
  | int (i : Int) : DV K G (.int i) (.int i)
  | str (x : Str) : DV K G (.str x) (.str x)
  | o (a : Addr) : DV K G (.ref a) (.o a)
  | lst {a : Addr} {xs : List V} {ds : List D} : SqL K G a xs → DVs K G xs ds → DV K G (.ref a) (.lst ds)
  | tup {a : Addr} {xs : List V} {ds : List D} : SqT K G a xs → DVs K G xs ds → DV K G (.ref a) (.tup ds)
inductive DVs (K : PySem.W.Frag) (G : Hp) : List V → List D → Prop
  | nil : DVs K G [] []
  | cons {v : V} {vs : List V} {d : D} {ds : List D} : DV K G v d → DVs K G vs ds → DVs K G (v :: vs) (d :: ds)
end
theorem same_rd {H H' : Hp} (e : Same H H') {a : Addr} {u : HO} (h : Rd H a u) : Rd H' a u := by
  rcases h with h | ⟨o, h⟩
  · exact .inl (e _ _ h)
  · exact .inr ⟨o, e _ _ h⟩
theorem same_seqT {K : PySem.W.Frag} {H H' : Hp} {a : Addr} {xs : List V} (e : Same H H') (h : SqT K H a xs) : SqT K H' a xs := by
  rcases h with h | h
  · exact .inl (same_rd e h)
  · exact .inr h
mutual
theorem DV.mono {K : PySem.W.Frag} {G G' : Hp} (e : Same G G') : ∀ {v : V} {d : D}, DV K G v d → DV K G' v d
  | _, _, .non => .non
  | _, _, .bl b => .bl b
  | _, _, .int i => .int i
  | _, _, .str x => .str x
  | _, _, .o a => .o a
  | _, _, .lst h r => .lst (e.seq h) (DVs.mono e r)
  | _, _, .tup h r => .tup (same_seqT e h) (DVs.mono e r)
theorem DVs.mono {K : PySem.W.Frag} {G G' : Hp} (e : Same G G') : ∀ {v : List V} {d : List D}, DVs K G v d → DVs K G' v d
  | _, _, .nil => .nil
  | _, _, .cons h r => .cons (DV.mono e h) (DVs.mono e r)
end
section
variable {K : PySem.W.Frag} {G : Hp}
theorem DVs.length : ∀ {vs : List V} {ds : List D}, DVs K G vs ds → vs.length = ds.length
  | _, _, .nil => rfl
  | _, _, .cons _ r => by rw [List.length_cons, List.length_cons, DVs.length r]
theorem DVs.get : ∀ {vs : List V} {ds : List D} {i : Nat} {d : D}, DVs K G vs ds → ds[i]? = some d → ∃ v, vs[i]? = some v ∧ DV K G v d
  | _, _, _, _, .nil, e => by simp at e
  | _, _, 0, _, .cons h _, e => by simp at e; subst e; exact ⟨_, rfl, h⟩
  | _, _, i + 1, d, .cons _ r, e => by
    obtain ⟨v, h1, h2⟩ := DVs.get (i := i) (d := d) r (by simpa using e)
    exact ⟨v, by simpa using h1, h2⟩
theorem DVs.getV : ∀ {vs : List V} {ds : List D} {i : Nat} {v : V}, DVs K G vs ds → vs[i]? = some v → ∃ d, ds[i]? = some d ∧ DV K G v d
  | _, _, _, _, .nil, e => by simp at e
  | _, _, 0, _, .cons h _, e => by simp at e; subst e; exact ⟨_, rfl, h⟩
  | _, _, i + 1, v, .cons _ r, e => by
    obtain ⟨d, h1, h2⟩ := DVs.getV (i := i) (v := v) r (by simpa using e)
    exact ⟨d, by simpa using h1, h2⟩
theorem DVs.set {v : V} {d : D} (h : DV K G v d) : ∀ {vs : List V} {ds : List D} (i : Nat), DVs K G vs ds → DVs K G (vs.set i v) (ds.set i d)
  | _, _, _, .nil => .nil
  | _, _, 0, .cons _ r => .cons h r
  | _, _, i + 1, .cons q r => .cons q (DVs.set h i r)
theorem DVs.append : ∀ {xs ys : List V} {us ws : List D}, DVs K G xs us → DVs K G ys ws → DVs K G (xs ++ ys) (us ++ ws)
  | _, _, _, _, .nil, s => s
  | _, _, _, _, .cons r t, s => .cons r (DVs.append t s)
theorem DVs.take : ∀ {xs : List V} {us : List D} (n : Nat), DVs K G xs us → DVs K G (xs.take n) (us.take n)
  | _, _, 0, _ => .nil
  | _, _, _ + 1, .nil => .nil
  | _, _, n + 1, .cons r t => .cons r (DVs.take n t)
theorem DVs.drop : ∀ {xs : List V} {us : List D} (n : Nat), DVs K G xs us → DVs K G (xs.drop n) (us.drop n)
  | _, _, 0, r => r
  | _, _, _ + 1, .nil => .nil
  | _, _, n + 1, .cons _ t => DVs.drop n t
theorem DVs.ints {vs : List V} : ∀ {ns : List Int}, DVs K G vs (ns.map D.int) → vs = ns.map V.int := by
  induction vs with
  | nil => intro ns h; cases ns with
    | nil => rfl
    | cons n r => cases h
  | cons v vs ih => intro ns h; cases ns with
    | nil => cases h
    | cons n r =>
      cases h with
      | cons h1 h2 =>
        cases h1
        rw [ih h2, List.map_cons]
theorem DVs.of_ints : ∀ ns : List Int, DVs K G (ns.map V.int) (ns.map D.int)
  | [] => .nil
  | n :: r => .cons (.int n) (DVs.of_ints r)
end
/-- (left: nothing depends on it) -/
structure CA where
  none : Unit := ()
def iv (xs : List Int) : List V := xs.map V.int
/-- an object that never changes -/
def Imm : HO → Prop
  | .tup _ => True
  | .frz _ _ => True
  | _ => False
inductive AO where
  | row
  | lst (xs : List D)
  | dic (kvs : List (Key × D))
  | dit (kvs : List (List Key × D))
  | obj (c : Addr) (fs : List (Str × D))
abbrev Om := Addr → Option AO
abbrev En := List (Option D)
def oset (Ω : Om) (a : Addr) (o : AO) : Om := fun b => if b = a then some o else Ω b
def odel (Ω : Om) (a : Addr) : Om := fun b => if b = a then none else Ω b
theorem oset_same {Ω : Om} {a : Addr} {o : AO} : oset Ω a o a = some o := if_pos rfl
theorem oset_ne {Ω : Om} {a b : Addr} {o : AO} (h : b ≠ a) : oset Ω a o b = Ω b := if_neg h
theorem odel_ne {Ω : Om} {a b : Addr} (h : b ≠ a) : odel Ω a b = Ω b := if_neg h
theorem oset_oset {Ω : Om} {a : Addr} {o u : AO} : oset (oset Ω a o) a u = oset Ω a u := by
  funext b; unfold oset
  by_cases h : b = a
  · rw [if_pos h, if_pos h]
  · rw [if_neg h, if_neg h, if_neg h]
def KVs (K : PySem.W.Frag) (G : Hp) : List (Key × V) → List (Key × D) → Prop := Paired fun (p : Key × V) (q : Key × D) => p.1 = q.1 ∧ DV K G p.2 q.2
def KTs (K : PySem.W.Frag) (G : Hp) : List (List Key × V) → List (List Key × D) → Prop := Paired fun (p : List Key × V) (q : List Key × D) => p.1 = q.1 ∧ DV K G p.2 q.2
def FVs (K : PySem.W.Frag) (G : Hp) : List (Str × V) → List (Str × D) → Prop := Paired fun (p : Str × V) (q : Str × D) => p.1 = q.1 ∧ DV K G p.2 q.2
def AAt (K : PySem.W.Frag) (ca : CA) (G : Hp) (own : Addr → Option Addr) (H : Hp) (a : Addr) : AO → Prop
  | .row => own a = some a ∧ ∃ (p : Addr) (ns : List Int) (i c m : Int), H a = some (.lst [.ref p, .int i, .int c, .int m]) ∧ SqL K G p (iv ns) ∧ 0 ≤ i ∧ i ≤ ns.length ∧ 0 ≤ c
  | .lst xs => own a = some a ∧ ∃ vs, H a = some (.lst vs) ∧ DVs K G vs xs
  | .dic kvs => own a = some a ∧ ∃ kvs', H a = some (.dK kvs') ∧ KVs K G kvs' kvs
  | .dit kvs => own a = some a ∧ ∃ kvs', H a = some (.dT kvs') ∧ KTs K G kvs' kvs
  | .obj c fs => own a = some a ∧ Cls K c ∧ (fs.map (·.1)).Nodup ∧ (∀ x ∈ fs, NoAttr K c x.1) ∧ ∃ dx fs', H a = some (.ins c dx fs') ∧ FVs K G fs' fs
structure Rel (K : PySem.W.Frag) (ca : CA) (G : Hp) (own : Addr → Option Addr) (H : Hp) (Ω : Om) : Prop where
  sub : Same G H
  imm : ∀ b o, G b = some o → own b = none
  objs : ∀ a o, Ω a = some o → AAt K ca G own H a o
section
variable {K : PySem.W.Frag} {ca : CA} {G G' H H' : Hp} {own own' : Addr → Option Addr} {Ω : Om} {a p : Addr} {o : AO}
theorem KVs.mono {l : List (Key × V)} {m : List (Key × D)} (e : Same G G') (h : KVs K G l m) : KVs K G' l m := Paired.mapP h fun _ _ x => ⟨x.1, x.2.mono e⟩
theorem KTs.mono {l : List (List Key × V)} {m : List (List Key × D)} (e : Same G G') (h : KTs K G l m) : KTs K G' l m := Paired.mapP h fun _ _ x => ⟨x.1, x.2.mono e⟩
theorem FVs.mono {l : List (Str × V)} {m : List (Str × D)} (e : Same G G') (h : FVs K G l m) : FVs K G' l m := Paired.mapP h fun _ _ x => ⟨x.1, x.2.mono e⟩
theorem AAt.keep (x : AAt K ca G own H a o) (e : Same G G') (h : ∀ b u, H b = some u → own b = some a → H' b = some u ∧ own' b = some a) (t : ∀ b u, H b = some u → Imm u → H' b = some u) : AAt K ca G' own' H' a o := by
  cases o with
  | row =>
    obtain ⟨w, p, ns, i, c, m, hp, hs, r⟩ := x
    exact ⟨(h _ _ hp w).2, p, ns, i, c, m, (h _ _ hp w).1, e.seq hs, r⟩
  | lst xs =>
    obtain ⟨w, vs, hp, r⟩ := x
    exact ⟨(h _ _ hp w).2, vs, (h _ _ hp w).1, r.mono e⟩
  | dic kvs =>
    obtain ⟨w, vs, hp, r⟩ := x
    exact ⟨(h _ _ hp w).2, vs, (h _ _ hp w).1, r.mono e⟩
  | dit kvs =>
    obtain ⟨w, vs, hp, r⟩ := x
    exact ⟨(h _ _ hp w).2, vs, (h _ _ hp w).1, r.mono e⟩
  | obj c fs =>
    obtain ⟨w, cl, nd, na, dx, vs, hp, r⟩ := x
    exact ⟨(h _ _ hp w).2, cl, nd, na, dx, vs, (h _ _ hp w).1, r.mono e⟩
/-- an object of the store is there, and may change -/
theorem AAt.there (x : AAt K ca G own H a o) : own a = some a ∧ ∃ u, H a = some u ∧ ¬ Imm u := by
  cases o with
  | row => obtain ⟨w, p, ns, i, c, m, hp, _⟩ := x; exact ⟨w, _, hp, fun z => z⟩
  | lst xs => obtain ⟨w, vs, hp, _⟩ := x; exact ⟨w, _, hp, fun z => z⟩
  | dic xs => obtain ⟨w, vs, hp, _⟩ := x; exact ⟨w, _, hp, fun z => z⟩
  | dit xs => obtain ⟨w, vs, hp, _⟩ := x; exact ⟨w, _, hp, fun z => z⟩
  | obj c fs => obtain ⟨w, _, _, _, dx, vs, hp, _⟩ := x; exact ⟨w, _, hp, fun z => z⟩
def uown (own : Addr → Option Addr) (p : Addr) (x : Option Addr) : Addr → Option Addr := fun b => if b = p then x else own b
/-- a new object that never changes again -/
theorem Rel.data {u : HO} (r : Rel K ca G own H Ω) (h : H p = none) : Rel K ca (upd G p u) (uown own p none) (upd H p u) Ω ∧ Same G (upd G p u) := by
  have hg : G p = none := r.sub.free h
  have hs : Same G (upd G p u) := fun b v e => by rw [upd_ne (ne_of_none e hg)]; exact e
  refine ⟨⟨fun b v e => ?_, fun b v e => ?_, fun b v e => ?_⟩, hs⟩
  · by_cases hb : b = p
    · subst hb; rw [upd_same] at e ⊢; exact e
    · rw [upd_ne hb] at e ⊢; exact r.sub _ _ e
  · unfold uown
    by_cases hb : b = p
    · rw [if_pos hb]
    · rw [upd_ne hb] at e; rw [if_neg hb]; exact r.imm _ _ e
  · refine (r.objs b v e).keep hs (fun c w hc ho => ?_) fun c w hc _ => by rw [upd_ne (ne_of_none hc h)]; exact hc
    refine ⟨by rw [upd_ne (ne_of_none hc h)]; exact hc, ?_⟩
    unfold uown
    rw [if_neg (ne_of_none hc h)]
    exact ho
/-- a new list that may change -/
theorem Rel.newLst {vs : List V} {xs : List D} (r : Rel K ca G own H Ω) (h : H p = none) (d : DVs K G vs xs) : Rel K ca G (uown own p (some p)) (upd H p (.lst vs)) (oset Ω p (.lst xs)) := by
  have hg : G p = none := r.sub.free h
  refine ⟨fun b v e => ?_, fun b v e => ?_, fun b v e => ?_⟩
  · rw [upd_ne (ne_of_none e hg)]; exact r.sub _ _ e
  · unfold uown; rw [if_neg (ne_of_none e hg)]; exact r.imm _ _ e
  · by_cases hb : b = p
    · subst hb
      rw [oset_same] at e
      cases e
      exact ⟨if_pos rfl, vs, upd_same, d⟩
    · rw [oset_ne hb] at e
      refine (r.objs b v e).keep (Same.refl G) (fun c w hc ho => ⟨by rw [upd_ne (ne_of_none hc h)]; exact hc, ?_⟩) fun c w hc _ => by rw [upd_ne (ne_of_none hc h)]; exact hc
      unfold uown
      rw [if_neg (ne_of_none hc h)]
      exact ho
/-- no object but a's own is changed -/
theorem Rel.turn {o' : AO} (r : Rel K ca G own H Ω) (h : ∀ b u, H b = some u → own b ≠ some a → H' b = some u) (t : ∀ b u, H b = some u → Imm u → H' b = some u) (x : AAt K ca G own H' a o') : Rel K ca G own H' (oset Ω a o') := by
  refine ⟨fun b v e => h b v (r.sub _ _ e) (by rw [r.imm _ _ e]; exact fun z => by cases z), r.imm, fun b v e => ?_⟩
  by_cases hb : b = a
  · subst hb; rw [oset_same] at e; cases e; exact x
  · rw [oset_ne hb] at e
    exact (r.objs b v e).keep (Same.refl G) (fun c w hc ho => ⟨h c w hc (by rw [ho]; exact fun z => hb (Option.some.inj z)), ho⟩) t
theorem Rel.setLst {vs : List V} {xs ys : List D} (r : Rel K ca G own H Ω) (e : Ω a = some (.lst xs)) (d : DVs K G vs ys) : Rel K ca G own (upd H a (.lst vs)) (oset Ω a (.lst ys)) := by
  obtain ⟨w, u, hu, nu⟩ := (r.objs a _ e).there
  refine r.turn (fun b v hb ho => ?_) (fun b v hb hi => ?_) ⟨w, vs, upd_same, d⟩
  · rw [upd_ne (fun z => ho (by rw [z]; exact w))]; exact hb
  · rw [upd_ne (fun z => by rw [z, hu] at hb; cases hb; exact nu hi)]; exact hb
/-- a list is frozen into data -/
theorem Rel.freeze {xs : List D} (r : Rel K ca G own H Ω) (e : Ω a = some (.lst xs)) : ∃ G' own', Same G G' ∧ (∀ b, own b = none → G b = none → own' b = none ∧ G' b = none) ∧ Rel K ca G' own' H (odel Ω a) ∧ DV K G' (.ref a) (.lst xs) := by
  obtain ⟨w, vs, hp, d⟩ := r.objs a _ e
  have hg : G a = none := by
    cases q : G a with
    | none => rfl
    | some u => rw [r.imm _ _ q] at w; cases w
  have hs : Same G (upd G a (.lst vs)) := fun b v q => by rw [upd_ne (ne_of_none q hg)]; exact q
  refine ⟨upd G a (.lst vs), uown own a none, hs, fun b n g => ⟨by unfold uown; split; rfl; exact n, by rw [upd_ne (fun z => by rw [z, w] at n; cases n)]; exact g⟩, ⟨fun b v q => ?_, fun b v q => ?_, fun b v q => ?_⟩, .lst (SqL.of upd_same) (d.mono hs)⟩
  · by_cases hb : b = a
    · subst hb; rw [upd_same] at q; cases q; exact hp
    · rw [upd_ne hb] at q; exact r.sub _ _ q
  · unfold uown
    by_cases hb : b = a
    · rw [if_pos hb]
    · rw [upd_ne hb] at q; rw [if_neg hb]; exact r.imm _ _ q
  · have hb : b ≠ a := fun z => by rw [z] at q; unfold odel at q; rw [if_pos rfl] at q; cases q
    rw [odel_ne hb] at q
    refine (r.objs b v q).keep hs (fun c x hc ho => ⟨hc, ?_⟩) fun c x hc _ => hc
    unfold uown
    rw [if_neg (fun z => by rw [z, w] at ho; exact hb (Option.some.inj ho).symm)]
    exact ho
theorem Rel.fresh (r : Rel K ca G own H Ω) (h : H p = none) : Ω p = none := by
  cases q : Ω p with
  | none => rfl
  | some o =>
    obtain ⟨_, u, hu, _⟩ := (r.objs p o q).there
    rw [h] at hu; cases hu
end
/-- a step: data stays; what is nobody's stays nobody's, as it is -/
structure Stp (G : Hp) (own : Addr → Option Addr) (H : Hp) (G' : Hp) (own' : Addr → Option Addr) (H' : Hp) : Prop where
  same : Same G G'
  fr : ∀ b u, H b = some u → own b = none → G b = none → H' b = some u ∧ own' b = none ∧ G' b = none
theorem Stp.refl {G H : Hp} {own : Addr → Option Addr} : Stp G own H G own H := ⟨Same.refl _, fun _ _ h n g => ⟨h, n, g⟩⟩
theorem Stp.trans {G G1 G2 H H1 H2 : Hp} {own own1 own2 : Addr → Option Addr} (a : Stp G own H G1 own1 H1) (b : Stp G1 own1 H1 G2 own2 H2) : Stp G own H G2 own2 H2 :=
  ⟨a.same.trans b.same, fun c u h n g => b.fr c u (a.fr c u h n g).1 (a.fr c u h n g).2.1 (a.fr c u h n g).2.2⟩
theorem stp_new {G H : Hp} {own : Addr → Option Addr} {p : Addr} {u : HO} {x : Option Addr} (h : H p = none) : Stp G own H G (uown own p x) (upd H p u) :=
  ⟨Same.refl _, fun b v hb n g => ⟨by rw [upd_ne (ne_of_none hb h)]; exact hb, by unfold uown; rw [if_neg (ne_of_none hb h)]; exact n, g⟩⟩
theorem stp_data {G H : Hp} {own : Addr → Option Addr} {p : Addr} {u w : HO} (e : Same G (upd G p w)) (h : H p = none) : Stp G own H (upd G p w) (uown own p none) (upd H p u) :=
  ⟨e, fun b v hb n g => ⟨by rw [upd_ne (ne_of_none hb h)]; exact hb, by unfold uown; rw [if_neg (ne_of_none hb h)]; exact n, by rw [upd_ne (ne_of_none hb h)]; exact g⟩⟩
theorem stp_own {G H : Hp} {own : Addr → Option Addr} {p a : Addr} {u : HO} (w : own p = some a) : Stp G own H G own (upd H p u) :=
  ⟨Same.refl _, fun b v hb n g => ⟨by rw [upd_ne (fun z => by rw [z, w] at n; cases n)]; exact hb, n, g⟩⟩
/-- a private object is laid; it changes -/
theorem Rel.priv {K : PySem.W.Frag} {ca : CA} {G H : Hp} {own : Addr → Option Addr} {Ω : Om} {p : Addr} {u : HO} (r : Rel K ca G own H Ω) (h : H p = none) : Rel K ca G (uown own p none) (upd H p u) Ω := by
  have hg : G p = none := r.sub.free h
  refine ⟨fun b v e => ?_, fun b v e => ?_, fun b v e => ?_⟩
  · rw [upd_ne (ne_of_none e hg)]; exact r.sub _ _ e
  · unfold uown; rw [if_neg (ne_of_none e hg)]; exact r.imm _ _ e
  · refine (r.objs b v e).keep (Same.refl G) (fun c w hc ho => ?_) fun c w hc _ => by rw [upd_ne (ne_of_none hc h)]; exact hc
    refine ⟨by rw [upd_ne (ne_of_none hc h)]; exact hc, ?_⟩
    unfold uown
    rw [if_neg (ne_of_none hc h)]
    exact ho
theorem Rel.privSet {K : PySem.W.Frag} {ca : CA} {G H : Hp} {own : Addr → Option Addr} {Ω : Om} {p : Addr} {u v : HO} (r : Rel K ca G own H Ω) (h : H p = some v) (hi : ¬ Imm v) (hg : G p = none) (ho : own p = none) : Rel K ca G own (upd H p u) Ω := by
  refine ⟨fun b w e => ?_, r.imm, fun b w e => ?_⟩
  · rw [upd_ne (ne_of_none e hg)]; exact r.sub _ _ e
  · refine (r.objs b w e).keep (Same.refl G) (fun c x hc hw => ⟨?_, hw⟩) fun c x hc hx => ?_
    · rw [upd_ne (fun z => by rw [z, ho] at hw; cases hw)]; exact hc
    · rw [upd_ne (fun z => by rw [z, h] at hc; cases hc; exact hi hx)]; exact hc
/-- a private object becomes data -/
theorem Rel.privData {K : PySem.W.Frag} {ca : CA} {G H : Hp} {own : Addr → Option Addr} {Ω : Om} {p : Addr} {v : HO} (r : Rel K ca G own H Ω) (h : H p = some v) (hg : G p = none) (ho : own p = none) : Rel K ca (upd G p v) own H Ω ∧ Same G (upd G p v) := by
  have hs : Same G (upd G p v) := fun b w e => by rw [upd_ne (ne_of_none e hg)]; exact e
  refine ⟨⟨fun b w e => ?_, fun b w e => ?_, fun b w e => (r.objs b w e).keep hs (fun c x hc hw => ⟨hc, hw⟩) fun c x hc _ => hc⟩, hs⟩
  · by_cases hb : b = p
    · subst hb; rw [upd_same] at e; cases e; exact h
    · rw [upd_ne hb] at e; exact r.sub _ _ e
  · by_cases hb : b = p
    · subst hb; exact ho
    · rw [upd_ne hb] at e; exact r.imm _ _ e
/-- the slots -/
structure SR (K : PySem.W.Frag) (G : Hp) (σ : St) (ρ : En) : Prop where
  len : σ.length = ρ.length
  get : ∀ (i : Nat) d, ρ[i]? = some (some d) → ∃ v, σ[i]? = some (some v) ∧ DV K G v d
section
variable {K : PySem.W.Frag} {G G' : Hp} {σ : St} {ρ : En}
theorem SR.mono (e : Same G G') (s : SR K G σ ρ) : SR K G' σ ρ := ⟨s.len, fun i d h => let ⟨v, a, b⟩ := s.get i d h; ⟨v, a, b.mono e⟩⟩
theorem SR.set {v : V} {d : D} (s : SR K G σ ρ) (i : Nat) (h : DV K G v d) : SR K G (σ.set i (some v)) (ρ.set i (some d)) := by
  refine ⟨by rw [List.length_set, List.length_set, s.len], fun j e hj => ?_⟩
  by_cases hi : j = i
  · subst hi
    have hl : j < ρ.length := by
      have := (List.getElem?_eq_some_iff.mp hj).1
      rwa [List.length_set] at this
    rw [List.getElem?_set_self hl] at hj
    cases hj
    exact ⟨v, List.getElem?_set_self (by rw [s.len]; exact hl), h⟩
  · rw [List.getElem?_set_ne (Ne.symm hi)] at hj ⊢
    exact s.get j e hj
theorem SR.drop (s : SR K G σ ρ) (i : Nat) (x : Option V) : SR K G (σ.set i x) (ρ.set i none) := by
  refine ⟨by rw [List.length_set, List.length_set, s.len], fun j e hj => ?_⟩
  by_cases hi : j = i
  · subst hi
    have hl : j < ρ.length := by
      have := (List.getElem?_eq_some_iff.mp hj).1
      rwa [List.length_set] at this
    rw [List.getElem?_set_self hl] at hj
    cases hj
  · rw [List.getElem?_set_ne (Ne.symm hi)] at hj ⊢
    exact s.get j e hj
end
end PL
namespace PL
open PySem L2
abbrev AW := Value → En → Om → Prop
abbrev AQ := D → Om → Prop
abbrev ATE := AW → En → Om → AQ → Prop
abbrev ATT := AW → En → Om → (Bool → Om → Prop) → Prop
abbrev ATA := AW → En → Om → (List D → Om → Prop) → Prop
structure AEnds where
  nx : En → Om → Prop
  rt : D → Om → Prop
  bk : En → Om → Prop := fun _ _ => False
  ct : En → Om → Prop := fun _ _ => False
abbrev ATS := AW → AEnds → En → Om → Prop
section
variable (K : PySem.W.Frag) (ca : CA) (W : WX)
def KX (G : Hp) (own : Addr → Option Addr) (H : Hp) (σ : St) (ρ : En) (Wa : AW) : Prop := ∀ cls H' G' own' Ω', Stp G own H G' own' H' → Rel K ca G' own' H' Ω' → Wa cls ρ Ω' → W cls none σ H'
def SimE (te : TE) (ta : ATE) : Prop := ∀ (σ : St) (H : Hp) (G : Hp) (own : Addr → Option Addr) (ρ : En) (Ω : Om) (Wa : AW) (Qa : AQ) (Qc : VK), Rel K ca G own H Ω → SR K G σ ρ → ta Wa ρ Ω Qa →
  (∀ v H' G' own' d Ω', Stp G own H G' own' H' → Rel K ca G' own' H' Ω' → DV K G' v d → Qa d Ω' → Qc v H') → KX K ca W G own H σ ρ Wa → te σ H Qc
def SimT (te : TT) (ta : ATT) : Prop := ∀ (σ : St) (H : Hp) (G : Hp) (own : Addr → Option Addr) (ρ : En) (Ω : Om) (Wa : AW) (Qa : Bool → Om → Prop) (Qc : Bool → Hp → Prop), Rel K ca G own H Ω → SR K G σ ρ → ta Wa ρ Ω Qa →
  (∀ b H' G' own' Ω', Stp G own H G' own' H' → Rel K ca G' own' H' Ω' → Qa b Ω' → Qc b H') → KX K ca W G own H σ ρ Wa → te σ H Qc
def SimA (te : TA) (ta : ATA) : Prop := ∀ (σ : St) (H : Hp) (G : Hp) (own : Addr → Option Addr) (ρ : En) (Ω : Om) (Wa : AW) (Qa : List D → Om → Prop) (Qc : List V → Hp → Prop), Rel K ca G own H Ω → SR K G σ ρ → ta Wa ρ Ω Qa →
  (∀ v H' G' own' d Ω', Stp G own H G' own' H' → Rel K ca G' own' H' Ω' → DVs K G' v d → Qa d Ω' → Qc v H') → KX K ca W G own H σ ρ Wa → te σ H Qc
/-- the ends of a statement -/
structure KE (G : Hp) (own : Addr → Option Addr) (H : Hp) (Da : AEnds) (Dc : Ends) (Wa : AW) : Prop where
  nx : ∀ σ' H' G' own' ρ' Ω', Stp G own H G' own' H' → Rel K ca G' own' H' Ω' → SR K G' σ' ρ' → Da.nx ρ' Ω' → Dc.nx σ' H'
  rt : ∀ v H' G' own' d Ω', Stp G own H G' own' H' → Rel K ca G' own' H' Ω' → DV K G' v d → Da.rt d Ω' → Dc.rt v H'
  bk : ∀ σ' H' G' own' ρ' Ω', Stp G own H G' own' H' → Rel K ca G' own' H' Ω' → SR K G' σ' ρ' → Da.bk ρ' Ω' → Dc.bk σ' H'
  ct : ∀ σ' H' G' own' ρ' Ω', Stp G own H G' own' H' → Rel K ca G' own' H' Ω' → SR K G' σ' ρ' → Da.ct ρ' Ω' → Dc.ct σ' H'
  ex : ∀ cls σ' H' G' own' ρ' Ω', Stp G own H G' own' H' → Rel K ca G' own' H' Ω' → SR K G' σ' ρ' → Wa cls ρ' Ω' → W cls none σ' H'
def SimS (ts : TS) (ta : ATS) : Prop := ∀ (σ : St) (H : Hp) (G : Hp) (own : Addr → Option Addr) (ρ : En) (Ω : Om) (Wa : AW) (Da : AEnds) (Dc : Ends), Rel K ca G own H Ω → SR K G σ ρ → ta Wa Da ρ Ω → KE K ca W G own H Da Dc Wa → ts Dc σ H
end
structure AE (X : Cx) (ca : CA) (W : WX) (e : Expr) (te : TE) (ta : ATE) : Prop where
  pe : PE X e te
  sim : SimE X.K ca W te ta
structure AT (X : Cx) (ca : CA) (W : WX) (e : Expr) (te : TT) (ta : ATT) : Prop where
  pe : PT X e te
  sim : SimT X.K ca W te ta
structure AWt (X : Cx) (ca : CA) (W : WX) (e : Expr) (te : TT) (ta : ATT) : Prop where
  pe : PW X e te
  sim : SimT X.K ca W te ta
structure AA (X : Cx) (ca : CA) (W : WX) (e : List Expr) (te : TA) (ta : ATA) : Prop where
  pe : PA X e te
  sim : SimA X.K ca W te ta
structure AS (X : Cx) (ca : CA) (W : WX) (s : Stmt) (ts : TS) (ta : ATS) : Prop where
  pe : PS X s ts
  sim : SimS X.K ca W ts ta
structure ASs (X : Cx) (ca : CA) (W : WX) (s : List Stmt) (ts : TS) (ta : ATS) : Prop where
  pe : PSs X s ts
  sim : SimS X.K ca W ts ta
theorem KX.mono {K : PySem.W.Frag} {ca : CA} {W : WX} {G G' H H' : Hp} {own own' : Addr → Option Addr} {σ : St} {ρ : En} {Wa : AW} (k : KX K ca W G own H σ ρ Wa) (e : Stp G own H G' own' H') : KX K ca W G' own' H' σ ρ Wa := fun cls H' G2 own' Ω' e2 r w => k cls H' G2 own' Ω' (e.trans e2) r w
theorem KE.mono {K : PySem.W.Frag} {ca : CA} {W : WX} {G G' H H' : Hp} {own own' : Addr → Option Addr} {Da : AEnds} {Dc : Ends} {Wa : AW} (k : KE K ca W G own H Da Dc Wa) (e : Stp G own H G' own' H') : KE K ca W G' own' H' Da Dc Wa :=
  ⟨fun _ _ _ _ _ _ e2 => k.nx _ _ _ _ _ _ (e.trans e2), fun _ _ _ _ _ _ e2 => k.rt _ _ _ _ _ _ (e.trans e2), fun _ _ _ _ _ _ e2 => k.bk _ _ _ _ _ _ (e.trans e2), fun _ _ _ _ _ _ e2 => k.ct _ _ _ _ _ _ (e.trans e2), fun _ _ _ _ _ _ _ e2 => k.ex _ _ _ _ _ _ _ (e.trans e2)⟩
theorem KE.kx {K : PySem.W.Frag} {ca : CA} {W : WX} {G H : Hp} {own : Addr → Option Addr} {Da : AEnds} {Dc : Ends} {Wa : AW} (k : KE K ca W G own H Da Dc Wa) {σ : St} {ρ : En} (s : SR K G σ ρ) : KX K ca W G own H σ ρ Wa :=
  fun cls H' G' own' Ω' e r w => k.ex _ _ _ _ _ _ _ e r (s.mono e.same) w
section
variable {X : Cx} {ca : CA} {W : WX} {a b e : Expr} {ta tb te : TE} {ra rb re : ATE} {pos : Pos}
def aVar (i : Nat) : ATE := fun _ ρ Ω Q => ∃ d, ρ[i]? = some (some d) ∧ Q d Ω
def aC (d : D) : ATE := fun _ _ Ω Q => Q d Ω
theorem ae_var (i : Nat) {x : Str} (hN : X.N[i]? = some x := by rfl) (hv : Vis X.env.scope x := by first | exact Or.inl rfl | exact Or.inr (Or.inl rfl) | exact Or.inr (Or.inr rfl)) (hd : (x == ("__debug__" : Str)) = false := by decide)
    (hcd : (x == ("__classdict__" : Str)) = false := by decide) : AE X ca W (.Name x pos) (tVar i) (aVar i) := by
  refine ⟨pe_var hN hv hd hcd, fun σ H G own ρ Ω Wa Qa Qc r s h k _ => ?_⟩
  obtain ⟨d, hd, q⟩ := h
  obtain ⟨v, hv, dv⟩ := s.get i d hd
  exact ⟨v, hv, k _ _ _ _ _ _ Stp.refl r dv q⟩
/-- a list object of ours, taken as data from here on -/
def aTake (i : Nat) : ATE := fun _ ρ Ω Q => ∃ a xs, ρ[i]? = some (some (.o a)) ∧ Ω a = some (.lst xs) ∧ Q (.lst xs) (odel Ω a)
theorem sim_c {K : PySem.W.Frag} {v : V} {d : D} (h : ∀ G, DV K G v d) : SimE K ca W (tC v) (aC d) := fun σ H G own ρ Ω Wa Qa Qc r s h' k _ => k _ _ _ _ _ _ Stp.refl r (h G) h'
theorem ae_int {i j} : AE X ca W (.Constant (.int i) j pos) (tC (.int i)) (aC (.int i)) := ⟨pe_int, sim_c fun _ => .int i⟩
theorem ae_bl {i j} : AE X ca W (.Constant (.bool i) j pos) (tC (.bl i)) (aC (.bl i)) := ⟨pe_bl, sim_c fun _ => .bl i⟩
theorem ae_non {j} : AE X ca W (.Constant .none j pos) (tC .non) (aC .non) := ⟨pe_non, sim_c fun _ => .non⟩
theorem ae_str {i j} : AE X ca W (.Constant (.str i) j pos) (tC (.str i)) (aC (.str i)) := ⟨pe_str, sim_c fun _ => .str i⟩
theorem ae_globI {x : Str} {i : Int} {t : Tok} (hg : Gl X x) (hm : X.mg x = some (.int i t)) (hd : (x == ("__debug__" : Str)) = false := by decide) : AE X ca W (.Name x pos) (tC (.int i)) (aC (.int i)) := ⟨pe_glob hg hm ⟨_, rfl⟩ hd, sim_c fun _ => .int i⟩
def aOp (f : D → D → Om → AQ → Prop) (ra rb : ATE) : ATE := fun Wa ρ Ω Q => ra Wa ρ Ω fun x Ω1 => rb Wa ρ Ω1 fun y Ω2 => f x y Ω2 Q
/-- an operator's reading by values -/
def SimR (K : PySem.W.Frag) (ca : CA) (r : R2) (f : D → D → Om → AQ → Prop) : Prop := ∀ (H G : Hp) own Ω x y v w (Qa : AQ) (Qc : VK), Rel K ca G own H Ω → DV K G v x → DV K G w y → f x y Ω Qa →
  (∀ v H' G' own' d Ω', Stp G own H G' own' H' → Rel K ca G' own' H' Ω' → DV K G' v d → Qa d Ω' → Qc v H') → r v w H Qc
theorem sim_op {K : PySem.W.Frag} {r : R2} {f : D → D → Om → AQ → Prop} (h : SimR K ca r f) (sa : SimE K ca W ta ra) (sb : SimE K ca W tb rb) : SimE K ca W (tOp r ta tb) (aOp f ra rb) := fun σ H G own ρ Ω Wa Qa Qc r s h' k kx =>
  sa σ H G own ρ Ω Wa _ _ r s h' (fun v H1 G1 own1 d Ω1 e1 r1 dv1 q1 => sb σ H1 G1 own1 ρ Ω1 Wa _ _ r1 (s.mono e1.same) q1 (fun w H2 G2 own2 d2 Ω2 e2 r2 dv2 q2 =>
    h H2 G2 own2 Ω2 d d2 v w Qa Qc r2 (dv1.mono e2.same) dv2 q2 fun v3 H3 G3 own3 d3 Ω3 e3 => k v3 H3 G3 own3 d3 Ω3 ((e1.trans e2).trans e3)) (kx.mono e1)) kx
def fI (C : Int → Int → Prop) (g : Int → Int → Int) : D → D → Om → AQ → Prop := fun x y Ω Q => ∃ i j, x = .int i ∧ y = .int j ∧ C i j ∧ Q (.int (g i j)) Ω
def fB (g : Int → Int → Bool) : D → D → Om → AQ → Prop := fun x y Ω Q => ∃ i j, x = .int i ∧ y = .int j ∧ Q (.bl (g i j)) Ω
theorem simr_I {K : PySem.W.Frag} {C : Int → Int → Prop} {g : Int → Int → Int} : SimR K ca (rI C fun i j => .int (g i j)) (fI C g) := by
  intro H G own Ω x y v w Qa Qc r dx dy h k
  obtain ⟨i, j, rfl, rfl, c, q⟩ := h
  cases dx
  cases dy
  exact ⟨i, j, rfl, rfl, c, k _ _ _ _ _ _ Stp.refl r (.int _) q⟩
theorem simr_I0 {K : PySem.W.Frag} {g : Int → Int → Int} : SimR K ca (rI0 fun i j => .int (g i j)) (fI (fun _ _ => True) g) := by
  intro H G own Ω x y v w Qa Qc r dx dy h k
  obtain ⟨i, j, rfl, rfl, _, q⟩ := h
  cases dx
  cases dy
  exact ⟨i, j, rfl, rfl, k _ _ _ _ _ _ Stp.refl r (.int _) q⟩
theorem simr_B {K : PySem.W.Frag} {g : Int → Int → Bool} : SimR K ca (rI0 fun i j => .bl (g i j)) (fB g) := by
  intro H G own Ω x y v w Qa Qc r dx dy h k
  obtain ⟨i, j, rfl, rfl, q⟩ := h
  cases dx
  cases dy
  exact ⟨i, j, rfl, rfl, k _ _ _ _ _ _ Stp.refl r (.bl _) q⟩
def TT2 : Int → Int → Prop := fun _ _ => True
def aAdd := aOp (fI TT2 fun i j => i + j)
def aSub := aOp (fI TT2 fun i j => i - j)
def aMul := aOp (fI IntMulOk fun i j => i * j)
def NoPy (_ j : Int) : Prop := j ≠ 0
/-- nobody looks on, and there is room: where a wide division may go by a module of its own -/
class Seer (P : Program) (base : Heap) : Prop where
  no : base.NoSeer
  tree : P.given.tree = none
structure Div (X : Cx) : Prop where
  no : X.base.NoSeer
  tree : X.prog.given.tree = none
  top : ∃ env l, X.stack = env :: l ∧ env.scope.isGenerator = false ∧ env.scope.isCoroutine = false ∧ env.builtins = builtinsNs ∧ env.globals = mainGlobals
  dp : X.A.depth + 100 < recursionLimit
def aFdv := aOp (fI NoPy fun i j => i.fdiv j)
def aMod := aOp (fI (fun _ j => j ≠ 0) fun i j => i.fmod j)
def aPow := aOp (fI CPow fun i j => i ^ j.toNat)
theorem ae_add (ha : AE X ca W a ta ra) (hb : AE X ca W b tb rb) : AE X ca W (.BinOp a .Add b pos) (tOp (rI0 fun i j => .int (i + j)) ta tb) (aAdd ra rb) := ⟨pe_op op_add ha.pe hb.pe, sim_op simr_I0 ha.sim hb.sim⟩
theorem ae_sub (ha : AE X ca W a ta ra) (hb : AE X ca W b tb rb) : AE X ca W (.BinOp a .Sub b pos) (tOp (rI0 fun i j => .int (i - j)) ta tb) (aSub ra rb) := ⟨pe_op op_sub ha.pe hb.pe, sim_op simr_I0 ha.sim hb.sim⟩
theorem op_mulM : OpR X (binaryOp .Mult) (rI IntMulOk fun i j => .int (i * j)) := opI fun _ _ _ _ _ _ _ hc q => PyProof.Rows.mul_int q hc
theorem op_fdvP (d : Div X) : OpR X (binaryOp .FloorDiv) (rI NoPy fun i j => .int (i.fdiv j)) := by
  intro pins s σ H x y v u Q I rx ry hh
  obtain ⟨i, j, rfl, rfl, hc, q⟩ := hh
  obtain ⟨t1, rfl⟩ := rx
  obtain ⟨t2, rfl⟩ := ry
  obtain ⟨env, l, e, g1, g2, g3, g4⟩ := d.top
  refine PyProof.Rows.floordiv_int hc ⟨.int (i.fdiv j), H, I.tok _, ⟨_, rfl⟩, q⟩ (.inr (PySem.PylongRoom.of I.nolimit d.dp (PySem.SeerAt.of (env := env) (l := l) (d.no.keeps I.bk) d.tree (by rw [I.ok.frames, e]) g1 g2 g3 g4)))
theorem ae_mul (ha : AE X ca W a ta ra) (hb : AE X ca W b tb rb) : AE X ca W (.BinOp a .Mult b pos) (tOp (rI IntMulOk fun i j => .int (i * j)) ta tb) (aMul ra rb) := ⟨pe_op op_mulM ha.pe hb.pe, sim_op simr_I ha.sim hb.sim⟩
theorem ae_fdv (d : Div X) (ha : AE X ca W a ta ra) (hb : AE X ca W b tb rb) : AE X ca W (.BinOp a .FloorDiv b pos) (tOp (rI NoPy fun i j => .int (i.fdiv j)) ta tb) (aFdv ra rb) := ⟨pe_op (op_fdvP d) ha.pe hb.pe, sim_op simr_I ha.sim hb.sim⟩
theorem ae_mod (ha : AE X ca W a ta ra) (hb : AE X ca W b tb rb) : AE X ca W (.BinOp a .Mod b pos) (tOp (rI (fun _ j => j ≠ 0) fun i j => .int (i.fmod j)) ta tb) (aMod ra rb) := ⟨pe_op op_modN ha.pe hb.pe, sim_op simr_I ha.sim hb.sim⟩
def aShl1 := aOp (fun x y Ω Q => ∃ k : Nat, x = .int 1 ∧ y = .int k ∧ k ≤ 134217727 ∧ Q (.int (2 ^ k)) Ω)
theorem ae_shl1 (ha : AE X ca W a ta ra) (hb : AE X ca W b tb rb) : AE X ca W (.BinOp a .LShift b pos) (tOp (fun x y H Q => ∃ k : Nat, x = .int 1 ∧ y = .int (k : Int) ∧ k ≤ 134217727 ∧ Q (.int (2 ^ k)) H) ta tb) (aShl1 ra rb) := ⟨pe_op op_oneShl ha.pe hb.pe, sim_op (by
  intro H G own Ω x y v w Qa Qc r dx dy h k
  obtain ⟨n, rfl, rfl, c, q⟩ := h
  cases dx
  cases dy
  exact ⟨n, rfl, rfl, c, k _ _ _ _ _ _ Stp.refl r (.int _) q⟩) ha.sim hb.sim⟩
def aLt := aOp (fB fun i j => decide (i < j))
def aLe := aOp (fB fun i j => decide (i ≤ j))
def aGt := aOp (fB fun i j => decide (j < i))
def aGe := aOp (fB fun i j => decide (j ≤ i))
theorem ae_lt (ha : AE X ca W a ta ra) (hb : AE X ca W b tb rb) : AE X ca W (.Compare a [.Lt] [b] pos) (tOp (rI0 fun i j => .bl (decide (i < j))) ta tb) (aLt ra rb) := ⟨pe_cmpR op_lt ha.pe hb.pe (nomark _), sim_op simr_B ha.sim hb.sim⟩
theorem ae_le (ha : AE X ca W a ta ra) (hb : AE X ca W b tb rb) : AE X ca W (.Compare a [.LtE] [b] pos) (tOp (rI0 fun i j => .bl (decide (i ≤ j))) ta tb) (aLe ra rb) := ⟨pe_cmpR op_le ha.pe hb.pe (nomark _), sim_op simr_B ha.sim hb.sim⟩
theorem ae_gt (ha : AE X ca W a ta ra) (hb : AE X ca W b tb rb) : AE X ca W (.Compare a [.Gt] [b] pos) (tOp (rI0 fun i j => .bl (decide (j < i))) ta tb) (aGt ra rb) := ⟨pe_cmpR op_gt ha.pe hb.pe (nomark _), sim_op simr_B ha.sim hb.sim⟩
theorem ae_ge (ha : AE X ca W a ta ra) (hb : AE X ca W b tb rb) : AE X ca W (.Compare a [.GtE] [b] pos) (tOp (rI0 fun i j => .bl (decide (j ≤ i))) ta tb) (aGe ra rb) := ⟨pe_cmpR op_ge ha.pe hb.pe (nomark _), sim_op simr_B ha.sim hb.sim⟩
mutual
def D.py : D → Option PyData
  | .non => some .none
  | .bl b => some (.bool b)
  | .int i => some (.int i)
  | .str x => some (.str x)
  | .tup xs => (D.pys xs).map .tuple
  | .lst xs => (D.pys xs).map .list
  | .o _ => none
def D.pys : List D → Option (List PyData)
  | [] => some []
  | x :: xs => match D.py x, D.pys xs with
    | some p, some ps => some (p :: ps)
    | _, _ => none
end
mutual
theorem DV.dp {K : PySem.W.Frag} {G H : Hp} (e : Same G H) : ∀ {d : D} {v : V} {p : PyData}, DV K G v d → D.py d = some p → Dp K H v p
  | .non, _, _, h, q => by cases h; simp only [D.py, Option.some.injEq] at q; subst q; exact .non
  | .bl _, _, _, h, q => by cases h; simp only [D.py, Option.some.injEq] at q; subst q; exact .bl _
  | .int _, _, _, h, q => by cases h; simp only [D.py, Option.some.injEq] at q; subst q; exact .int _
  | .str _, _, _, h, q => by cases h; simp only [D.py, Option.some.injEq] at q; subst q; exact .str _
  | .o _, _, _, h, q => by simp [D.py] at q
  | .tup xs, _, _, h, q => by
    cases h with
    | tup a b =>
      simp only [D.py, Option.map_eq_some_iff] at q
      obtain ⟨ps, e1, rfl⟩ := q
      exact .tup (same_seqT e a) (DVs.dp e b e1)
  | .lst xs, _, _, h, q => by
    cases h with
    | lst a b =>
      simp only [D.py, Option.map_eq_some_iff] at q
      obtain ⟨ps, e1, rfl⟩ := q
      exact .lst (e.seq a) (DVs.dp e b e1)
theorem DVs.dp {K : PySem.W.Frag} {G H : Hp} (e : Same G H) : ∀ {d : List D} {v : List V} {p : List PyData}, DVs K G v d → D.pys d = some p → DpAll K H v p
  | [], _, _, h, q => by cases h; simp only [D.pys, Option.some.injEq] at q; subst q; exact .nil
  | x :: xs, _, _, h, q => by
    cases h with
    | cons h1 h2 =>
      simp only [D.pys] at q
      cases e1 : D.py x with
      | none => rw [e1] at q; cases q
      | some p =>
        cases e2 : D.pys xs with
        | none => rw [e1, e2] at q; cases q
        | some ps =>
          rw [e1, e2] at q
          simp only [Option.some.injEq] at q
          subst q
          exact .cons (DV.dp e h1 e1) (DVs.dp e h2 e2)
end
def fEq (neg : Bool) : D → D → Om → AQ → Prop := fun x y Ω Q => ∃ p q, x.py = some p ∧ y.py = some q ∧ SeqAt.shaped p = true ∧ SeqAt.shaped q = true ∧ Q (.bl (if neg then !PyData.eqv p q else PyData.eqv p q)) Ω
theorem simr_eqD {K : PySem.W.Frag} : SimR K ca (rEqD K) (fEq false) := by
  intro H G own Ω x y v w Qa Qc r dx dy h k
  obtain ⟨p, q, e1, e2, s1, s2, h⟩ := h
  exact ⟨p, q, dx.dp r.sub e1, dy.dp r.sub e2, s1, s2, k _ _ _ _ _ _ Stp.refl r (.bl _) h⟩
def aEqD := aOp (fEq false)
def aNeD := aOp (fEq true)
theorem ae_eqD (hu : X.A.units + 64 < cLine) (ha : AE X ca W a ta ra) (hb : AE X ca W b tb rb) : AE X ca W (.Compare a [.Eq] [b] pos) (tOp (rEqD X.K) ta tb) (aEqD ra rb) := ⟨pe_cmpR (op_eqD hu) ha.pe hb.pe (nomark _), sim_op simr_eqD ha.sim hb.sim⟩
/-- == and != of two ints -/
def aEqI := aOp (fB fun i j => decide (i = j))
def aNeI := aOp (fB fun i j => !decide (i = j))
theorem simr_eqI {K : PySem.W.Frag} : SimR K ca rEq (fB fun i j => decide (i = j)) := by
  intro H G own Ω x y v w Qa Qc r dx dy h k
  obtain ⟨i, j, rfl, rfl, q⟩ := h
  cases dx
  cases dy
  have e : decide (V.int i = V.int j) = decide (i = j) := by simp
  exact ⟨rfl, k _ _ _ _ (.bl (decide (i = j))) _ Stp.refl r (e ▸ .bl _) q⟩
theorem simr_neI {K : PySem.W.Frag} : SimR K ca rNe (fB fun i j => !decide (i = j)) := by
  intro H G own Ω x y v w Qa Qc r dx dy h k
  obtain ⟨i, j, rfl, rfl, q⟩ := h
  cases dx
  cases dy
  have e : decide (V.int i = V.int j) = decide (i = j) := by simp
  exact ⟨rfl, k _ _ _ _ (.bl (!decide (i = j))) _ Stp.refl r (e ▸ .bl _) q⟩
theorem ae_eqI (ha : AE X ca W a ta ra) (hb : AE X ca W b tb rb) : AE X ca W (.Compare a [.Eq] [b] pos) (tOp rEq ta tb) (aEqI ra rb) := ⟨pe_cmpR op_eq ha.pe hb.pe (nomark _), sim_op simr_eqI ha.sim hb.sim⟩
theorem ae_neI (ha : AE X ca W a ta ra) (hb : AE X ca W b tb rb) : AE X ca W (.Compare a [.NotEq] [b] pos) (tOp rNe ta tb) (aNeI ra rb) := ⟨pe_cmpR op_ne ha.pe hb.pe (nomark _), sim_op simr_neI ha.sim hb.sim⟩
/-- == of two texts -/
def aEqS := aOp (fun x y Ω Q => ∃ i j, x = .str i ∧ y = .str j ∧ Q (.bl (decide (i = j))) Ω)
def aNeS := aOp (fun x y Ω Q => ∃ i j, x = .str i ∧ y = .str j ∧ Q (.bl (!decide (i = j))) Ω)
theorem ae_eqS (ha : AE X ca W a ta ra) (hb : AE X ca W b tb rb) : AE X ca W (.Compare a [.Eq] [b] pos) (tOp rEq ta tb) (aEqS ra rb) := ⟨pe_cmpR op_eq ha.pe hb.pe (nomark _), sim_op (by
  intro H G own Ω x y v w Qa Qc r dx dy h k
  obtain ⟨i, j, rfl, rfl, q⟩ := h
  cases dx
  cases dy
  have e : decide (V.str i = V.str j) = decide (i = j) := by simp
  exact ⟨rfl, k _ _ _ _ (.bl (decide (i = j))) _ Stp.refl r (e ▸ .bl _) q⟩) ha.sim hb.sim⟩
theorem ae_neS (ha : AE X ca W a ta ra) (hb : AE X ca W b tb rb) : AE X ca W (.Compare a [.NotEq] [b] pos) (tOp rNe ta tb) (aNeS ra rb) := ⟨pe_cmpR op_ne ha.pe hb.pe (nomark _), sim_op (by
  intro H G own Ω x y v w Qa Qc r dx dy h k
  obtain ⟨i, j, rfl, rfl, q⟩ := h
  cases dx
  cases dy
  have e : decide (V.str i = V.str j) = decide (i = j) := by simp
  exact ⟨rfl, k _ _ _ _ (.bl (!decide (i = j))) _ Stp.refl r (e ▸ .bl _) q⟩) ha.sim hb.sim⟩
/-- is None, is not None -/
def D.isNon : D → Bool
  | .non => true
  | _ => false
theorem DV.isNon {K : PySem.W.Frag} {G : Hp} {v : V} {d : D} (h : DV K G v d) : decide (v = .non) = d.isNon := by cases h <;> simp [D.isNon]
def aIsN (ra : ATE) : ATE := fun Wa ρ Ω Q => ra Wa ρ Ω fun x Ω1 => Q (.bl x.isNon) Ω1
def aNotN (ra : ATE) : ATE := fun Wa ρ Ω Q => ra Wa ρ Ω fun x Ω1 => Q (.bl (!x.isNon)) Ω1
def aB (ra : ATE) : ATT := fun Wa ρ Ω Q => ra Wa ρ Ω fun x Ω1 => ∃ c, x = .bl c ∧ Q c Ω1
theorem at_val (ha : AE X ca W e te re) (he : ∀ whole, isTrue e X.env whole = (do let v ← whole; standAt e.pos; holding [v] (truthy v)) := by intro _; rfl) : AT X ca W e (tB te) (aB re) := ⟨pt_val ha.pe he, fun σ H G own ρ Ω Wa Qa Qc r s h k kx => ha.sim σ H G own ρ Ω Wa _ _ r s h (fun v H1 G1 own1 d Ω1 e1 r1 dv1 q1 => by
  obtain ⟨c, rfl, q⟩ := q1
  cases dv1
  exact ⟨c, rfl, k _ _ _ _ _ e1 r1 q⟩) kx⟩
/-- a comparison as a test, by its rule -/
theorem at_cmp {op : CmpOp} {r : R2} {f : D → D → Om → AQ → Prop} (ho : OpR X (compareOp op) r) (hf : SimR X.K ca r f) (ha : AE X ca W a ta ra) (hb : AE X ca W b tb rb) (hm : behindInMarks op b = false) : AT X ca W (.Compare a [op] [b] pos) (tTest (tOp r ta tb)) (aB (aOp f ra rb)) :=
  ⟨pt_cmpR ho ha.pe hb.pe hm, fun σ H G own ρ Ω Wa Qa Qc r s h k kx => sim_op hf ha.sim hb.sim σ H G own ρ Ω Wa _ _ r s h (fun v H1 G1 own1 d Ω1 e1 r1 dv1 q1 => by
  obtain ⟨c, rfl, q⟩ := q1
  cases dv1
  exact ⟨c, rfl, k _ _ _ _ _ e1 r1 q⟩) kx⟩
theorem at_lt (ha : AE X ca W a ta ra) (hb : AE X ca W b tb rb) : AT X ca W (.Compare a [.Lt] [b] pos) (tTest (tOp (rI0 fun i j => .bl (decide (i < j))) ta tb)) (aB (aLt ra rb)) := at_cmp op_lt simr_B ha hb (nomark _)
theorem at_le (ha : AE X ca W a ta ra) (hb : AE X ca W b tb rb) : AT X ca W (.Compare a [.LtE] [b] pos) (tTest (tOp (rI0 fun i j => .bl (decide (i ≤ j))) ta tb)) (aB (aLe ra rb)) := at_cmp op_le simr_B ha hb (nomark _)
theorem at_gt (ha : AE X ca W a ta ra) (hb : AE X ca W b tb rb) : AT X ca W (.Compare a [.Gt] [b] pos) (tTest (tOp (rI0 fun i j => .bl (decide (j < i))) ta tb)) (aB (aGt ra rb)) := at_cmp op_gt simr_B ha hb (nomark _)
theorem at_ge (ha : AE X ca W a ta ra) (hb : AE X ca W b tb rb) : AT X ca W (.Compare a [.GtE] [b] pos) (tTest (tOp (rI0 fun i j => .bl (decide (j ≤ i))) ta tb)) (aB (aGe ra rb)) := at_cmp op_ge simr_B ha hb (nomark _)
theorem at_eqI (ha : AE X ca W a ta ra) (hb : AE X ca W b tb rb) : AT X ca W (.Compare a [.Eq] [b] pos) (tTest (tOp rEq ta tb)) (aB (aEqI ra rb)) := at_cmp op_eq simr_eqI ha hb (nomark _)
theorem at_neI (ha : AE X ca W a ta ra) (hb : AE X ca W b tb rb) : AT X ca W (.Compare a [.NotEq] [b] pos) (tTest (tOp rNe ta tb)) (aB (aNeI ra rb)) := at_cmp op_ne simr_neI ha hb (nomark _)
theorem at_eqD (hu : X.A.units + 64 < cLine) (ha : AE X ca W a ta ra) (hb : AE X ca W b tb rb) : AT X ca W (.Compare a [.Eq] [b] pos) (tTest (tOp (rEqD X.K) ta tb)) (aB (aEqD ra rb)) := at_cmp (op_eqD hu) simr_eqD ha hb (nomark _)
theorem at_isN {j pos'} (ha : AE X ca W a ta ra) : AT X ca W (.Compare a [.Is] [.Constant .none j pos'] pos) (tB (tIsN ta)) (aB (aIsN ra)) := ⟨pt_cmp (pc_isN ha.pe) (nomark _), fun σ H G own ρ Ω Wa Qa Qc r s h k kx => ha.sim σ H G own ρ Ω Wa _ _ r s h (fun v H1 G1 own1 d Ω1 e1 r1 dv1 q1 => by
  obtain ⟨c, e, q⟩ := q1
  cases e
  exact ⟨d.isNon, by rw [dv1.isNon], k _ _ _ _ _ e1 r1 q⟩) kx⟩
theorem at_notN {j pos'} (ha : AE X ca W a ta ra) : AT X ca W (.Compare a [.IsNot] [.Constant .none j pos'] pos) (tB (tNotN ta)) (aB (aNotN ra)) := ⟨pt_cmp (pc_notN ha.pe) (nomark _), fun σ H G own ρ Ω Wa Qa Qc r s h k kx => ha.sim σ H G own ρ Ω Wa _ _ r s h (fun v H1 G1 own1 d Ω1 e1 r1 dv1 q1 => by
  obtain ⟨c, e, q⟩ := q1
  cases e
  exact ⟨!d.isNon, by rw [dv1.isNon], k _ _ _ _ _ e1 r1 q⟩) kx⟩
variable {tt tu : TT} {rt ru : ATT} {rest : List Expr}
def aAnd (t u : ATT) : ATT := fun Wa ρ Ω Q => t Wa ρ Ω fun c Ω1 => if c = true then u Wa ρ Ω1 Q else Q false Ω1
def aOr (t u : ATT) : ATT := fun Wa ρ Ω Q => t Wa ρ Ω fun c Ω1 => if c = true then Q true Ω1 else u Wa ρ Ω1 Q
def aNot (t : ATT) : ATT := fun Wa ρ Ω Q => t Wa ρ Ω fun c Ω1 => Q (!c) Ω1
theorem sim_and {K : PySem.W.Frag} (h1 : SimT K ca W tt rt) (h2 : SimT K ca W tu ru) : SimT K ca W (tAnd tt tu) (aAnd rt ru) := fun σ H G own ρ Ω Wa Qa Qc r s h k kx => h1 σ H G own ρ Ω Wa _ _ r s h (fun c H1 G1 own1 Ω1 e1 r1 q1 => by
  cases c with
  | true => exact h2 σ H1 G1 own1 ρ Ω1 Wa _ _ r1 (s.mono e1.same) q1 (fun c H2 G2 own2 Ω2 e2 => k c H2 G2 own2 Ω2 (e1.trans e2)) (kx.mono e1)
  | false => exact k _ _ _ _ _ e1 r1 q1) kx
theorem sim_or {K : PySem.W.Frag} (h1 : SimT K ca W tt rt) (h2 : SimT K ca W tu ru) : SimT K ca W (tOr tt tu) (aOr rt ru) := fun σ H G own ρ Ω Wa Qa Qc r s h k kx => h1 σ H G own ρ Ω Wa _ _ r s h (fun c H1 G1 own1 Ω1 e1 r1 q1 => by
  cases c with
  | false => exact h2 σ H1 G1 own1 ρ Ω1 Wa _ _ r1 (s.mono e1.same) q1 (fun c H2 G2 own2 Ω2 e2 => k c H2 G2 own2 Ω2 (e1.trans e2)) (kx.mono e1)
  | true => exact k _ _ _ _ _ e1 r1 q1) kx
theorem aw_and1 (ha : AT X ca W a tt rt) : AWt X ca W (.BoolOp .And [a] pos) tt rt := ⟨pw_and1 ha.pe, ha.sim⟩
theorem aw_or1 (ha : AT X ca W a tt rt) : AWt X ca W (.BoolOp .Or [a] pos) tt rt := ⟨pw_or1 ha.pe, ha.sim⟩
theorem aw_and (ha : AT X ca W a tt rt) (hb : AWt X ca W (.BoolOp .And (b :: rest) pos) tu ru) : AWt X ca W (.BoolOp .And (a :: b :: rest) pos) (tAnd tt tu) (aAnd rt ru) := ⟨pw_and ha.pe hb.pe, sim_and ha.sim hb.sim⟩
theorem aw_or (ha : AT X ca W a tt rt) (hb : AWt X ca W (.BoolOp .Or (b :: rest) pos) tu ru) : AWt X ca W (.BoolOp .Or (a :: b :: rest) pos) (tOr tt tu) (aOr rt ru) := ⟨pw_or ha.pe hb.pe, sim_or ha.sim hb.sim⟩
theorem AWt.at_ (h : AWt X ca W a tt rt) : AT X ca W a tt rt := ⟨h.pe.pt, h.sim⟩
theorem at_not (ha : AT X ca W a tt rt) : AT X ca W (.UnaryOp .Not a pos) (tNot tt) (aNot rt) := ⟨pt_not ha.pe, fun σ H G own ρ Ω Wa Qa Qc r s h k kx => ha.sim σ H G own ρ Ω Wa _ _ r s h (fun c H1 G1 own1 Ω1 e1 r1 q1 => k _ _ _ _ _ e1 r1 q1) kx⟩
/-- .. as values -/
def aAndV (ra rb : ATE) : ATE := fun Wa ρ Ω Q => ra Wa ρ Ω fun x Ω1 => ∃ c, x = .bl c ∧ if c = true then rb Wa ρ Ω1 Q else Q (.bl false) Ω1
def aOrV (ra rb : ATE) : ATE := fun Wa ρ Ω Q => ra Wa ρ Ω fun x Ω1 => ∃ c, x = .bl c ∧ if c = true then Q (.bl true) Ω1 else rb Wa ρ Ω1 Q
def aNotV (ra : ATE) : ATE := fun Wa ρ Ω Q => ra Wa ρ Ω fun x Ω1 => ∃ c, x = .bl c ∧ Q (.bl (!c)) Ω1
theorem ae_one {op} (ha : AE X ca W a ta ra) : AE X ca W (.BoolOp op [a] pos) ta ra := ⟨pe_one ha.pe, ha.sim⟩
theorem ae_and (ha : AE X ca W a ta ra) (hb : AE X ca W (.BoolOp .And (b :: rest) pos) tb rb) : AE X ca W (.BoolOp .And (a :: b :: rest) pos) (tAndV ta tb) (aAndV ra rb) := ⟨pe_and ha.pe hb.pe, fun σ H G own ρ Ω Wa Qa Qc r s h k kx => ha.sim σ H G own ρ Ω Wa _ _ r s h (fun v H1 G1 own1 d Ω1 e1 r1 dv1 q1 => by
  obtain ⟨c, rfl, q⟩ := q1
  cases dv1
  refine ⟨c, rfl, ?_⟩
  cases c with
  | true => exact hb.sim σ H1 G1 own1 ρ Ω1 Wa _ _ r1 (s.mono e1.same) q (fun v H2 G2 own2 d Ω2 e2 => k v H2 G2 own2 d Ω2 (e1.trans e2)) (kx.mono e1)
  | false => exact k _ _ _ _ _ _ e1 r1 (.bl _) q) kx⟩
theorem ae_or (ha : AE X ca W a ta ra) (hb : AE X ca W (.BoolOp .Or (b :: rest) pos) tb rb) : AE X ca W (.BoolOp .Or (a :: b :: rest) pos) (tOrV ta tb) (aOrV ra rb) := ⟨pe_or ha.pe hb.pe, fun σ H G own ρ Ω Wa Qa Qc r s h k kx => ha.sim σ H G own ρ Ω Wa _ _ r s h (fun v H1 G1 own1 d Ω1 e1 r1 dv1 q1 => by
  obtain ⟨c, rfl, q⟩ := q1
  cases dv1
  refine ⟨c, rfl, ?_⟩
  cases c with
  | false => exact hb.sim σ H1 G1 own1 ρ Ω1 Wa _ _ r1 (s.mono e1.same) q (fun v H2 G2 own2 d Ω2 e2 => k v H2 G2 own2 d Ω2 (e1.trans e2)) (kx.mono e1)
  | true => exact k _ _ _ _ _ _ e1 r1 (.bl _) q) kx⟩
theorem ae_notV (ha : AE X ca W a ta ra) : AE X ca W (.UnaryOp .Not a pos) (tNotV ta) (aNotV ra) := ⟨pe_not ha.pe, fun σ H G own ρ Ω Wa Qa Qc r s h k kx => ha.sim σ H G own ρ Ω Wa _ _ r s h (fun v H1 G1 own1 d Ω1 e1 r1 dv1 q1 => by
  obtain ⟨c, rfl, q⟩ := q1
  cases dv1
  exact ⟨c, rfl, k _ _ _ _ _ _ e1 r1 (.bl _) q⟩) kx⟩
def aIf (t : ATT) (ra rb : ATE) : ATE := fun Wa ρ Ω Q => t Wa ρ Ω fun c Ω1 => if c = true then ra Wa ρ Ω1 Q else rb Wa ρ Ω1 Q
variable {es : List Expr} {tr : TA} {rr : ATA}
def aNil : ATA := fun _ _ Ω Q => Q [] Ω
def aCons (ra : ATE) (rr : ATA) : ATA := fun Wa ρ Ω Q => ra Wa ρ Ω fun x Ω1 => rr Wa ρ Ω1 fun xs Ω2 => Q (x :: xs) Ω2
theorem aa_nil : AA X ca W [] tNil aNil := ⟨pa_nil, fun σ H G own ρ Ω Wa Qa Qc r s h k kx => k _ _ _ _ _ _ Stp.refl r .nil h⟩
theorem aa_cons (ha : AE X ca W e te re) (hr : AA X ca W es tr rr) (hs : starEach (e :: es) X.env = (false, eval e X.env) :: starEach es X.env := by rfl) : AA X ca W (e :: es) (tCons te tr) (aCons re rr) := ⟨pa_cons ha.pe hr.pe hs, fun σ H G own ρ Ω Wa Qa Qc r s h k kx =>
  ha.sim σ H G own ρ Ω Wa _ _ r s h (fun v H1 G1 own1 d Ω1 e1 r1 dv1 q1 => hr.sim σ H1 G1 own1 ρ Ω1 Wa _ _ r1 (s.mono e1.same) q1 (fun vs H2 G2 own2 ds Ω2 e2 r2 dv2 q2 => k _ _ _ _ _ _ (e1.trans e2) r2 (.cons (dv1.mono e2.same) dv2) q2) (kx.mono e1)) kx⟩
def aTup (rr : ATA) : ATE := fun Wa ρ Ω Q => rr Wa ρ Ω fun xs Ω1 => xs.length ≤ sizeLine ∧ Q (.tup xs) Ω1
def aLst (rr : ATA) : ATE := fun Wa ρ Ω Q => rr Wa ρ Ω fun xs Ω1 => xs.length ≤ sizeLine ∧ Q (.lst xs) Ω1
def aLstO (rr : ATA) : ATE := fun Wa ρ Ω Q => rr Wa ρ Ω fun xs Ω1 => xs.length ≤ sizeLine ∧ ∀ p, Ω1 p = none → Q (.o p) (oset Ω1 p (.lst xs))
theorem ae_tup {x1} (h : AA X ca W es tr rr) : AE X ca W (.Tuple es x1 pos) (tTup tr) (aTup rr) := ⟨pe_tup h.pe, fun σ H G own ρ Ω Wa Qa Qc r s h' k kx => h.sim σ H G own ρ Ω Wa _ _ r s h' (fun v H1 G1 own1 d Ω1 e1 r1 dv1 q1 => by
  refine ⟨by rw [dv1.length]; exact q1.1, fun p hp => ?_⟩
  obtain ⟨r2, e2⟩ := r1.data (u := .tup v) hp
  exact k _ _ _ _ _ _ (e1.trans (stp_data e2 hp)) r2 (.tup (SqT.of upd_same) (dv1.mono e2)) q1.2) kx⟩
theorem ae_lst (h : AA X ca W es tr rr) : AE X ca W (.List es pos) (tLst tr) (aLst rr) := ⟨pe_lst h.pe, fun σ H G own ρ Ω Wa Qa Qc r s h' k kx => h.sim σ H G own ρ Ω Wa _ _ r s h' (fun v H1 G1 own1 d Ω1 e1 r1 dv1 q1 => by
  refine ⟨by rw [dv1.length]; exact q1.1, fun p hp => ?_⟩
  obtain ⟨r2, e2⟩ := r1.data (u := .lst v) hp
  exact k _ _ _ _ _ _ (e1.trans (stp_data e2 hp)) r2 (.lst (SqL.of upd_same) (dv1.mono e2)) q1.2) kx⟩
theorem ae_lstO (h : AA X ca W es tr rr) : AE X ca W (.List es pos) (tLst tr) (aLstO rr) := ⟨pe_lst h.pe, fun σ H G own ρ Ω Wa Qa Qc r s h' k kx => h.sim σ H G own ρ Ω Wa _ _ r s h' (fun v H1 G1 own1 d Ω1 e1 r1 dv1 q1 => by
  refine ⟨by rw [dv1.length]; exact q1.1, fun p hp => ?_⟩
  exact k _ _ _ _ _ _ (e1.trans (stp_new hp)) (r1.newLst hp dv1) (.o p) (q1.2 p (r1.fresh hp))) kx⟩
end
end PL
namespace PL
open PySem L2
section
variable {X : Cx} {ca : CA} {W : WX} {a b e : Expr} {es : List Expr} {ta tb te : TE} {ra rb re : ATE} {tr : TA} {rr : ATA} {pos : Pos}
/-- the items of data, or of a list of ours -/
def D.seq (Ω : Om) : D → Option (List D)
  | .lst xs => some xs
  | .tup xs => some xs
  | .o a => match Ω a with
    | some (.lst xs) => some xs
    | _ => none
  | _ => none
def fIx : D → D → Om → AQ → Prop := fun x y Ω Q => ∃ xs i d, x.seq Ω = some xs ∧ y = .int i ∧ atI xs i = some d ∧ Q d Ω
theorem atI_dv {K : PySem.W.Frag} {G : Hp} {vs : List V} {ds : List D} {i : Int} {d : D} (h : DVs K G vs ds) (e : atI ds i = some d) : ∃ v, atI vs i = some v ∧ DV K G v d := by
  unfold atI at e ⊢
  rw [h.length]
  cases q : ixN ds.length i with
  | none => rw [q] at e; cases e
  | some j => rw [q] at e; exact h.get (i := j) e
theorem Rel.lstAt {K : PySem.W.Frag} {G H : Hp} {own : Addr → Option Addr} {Ω : Om} {p : Addr} {xs : List D} (r : Rel K ca G own H Ω) (e : Ω p = some (.lst xs)) : ∃ vs, H p = some (.lst vs) ∧ DVs K G vs xs := (r.objs p _ e).2
/-- a sequence is read -/
theorem seq_of {K : PySem.W.Frag} {G H : Hp} {own : Addr → Option Addr} {Ω : Om} {v : V} {x : D} {xs : List D} (r : Rel K ca G own H Ω) (dv : DV K G v x) (h : x.seq Ω = some xs) : ∃ p vs, v = .ref p ∧ DVs K G vs xs ∧ (SqL K H p vs ∨ SqT K H p vs) := by
  cases dv with
  | lst a b => simp only [D.seq, Option.some.injEq] at h; subst h; exact ⟨_, _, rfl, b, .inl (r.sub.seq a)⟩
  | tup a b => simp only [D.seq, Option.some.injEq] at h; subst h; exact ⟨_, _, rfl, b, .inr (same_seqT r.sub a)⟩
  | o a =>
    cases q : Ω a with
    | none => simp only [D.seq, q] at h; cases h
    | some u =>
      cases u with
      | lst ys =>
        simp only [D.seq, q, Option.some.injEq] at h; subst h
        obtain ⟨vs, hv, dv⟩ := r.lstAt q
        exact ⟨_, vs, rfl, dv, .inl (SqL.of hv)⟩
      | row => simp only [D.seq, q] at h; cases h
      | dic _ => simp only [D.seq, q] at h; cases h
      | dit _ => simp only [D.seq, q] at h; cases h
      | obj _ _ => simp only [D.seq, q] at h; cases h
  | _ => simp [D.seq] at h
def rIx2 (K : PySem.W.Frag) : R2 := fun x y H Q => rIxL K x y H Q ∨ rIxT K x y H Q
theorem ix_two : IxR X (rIx2 X.K) := ix_list.or ix_tup
theorem simr_ix {K : PySem.W.Frag} : SimR K ca (rIx2 K) fIx := by
  intro H G own Ω x y v w Qa Qc r dx dy h k
  obtain ⟨xs, i, d, hs, rfl, ha, q⟩ := h
  cases dy
  obtain ⟨p, vs, rfl, ds, hv⟩ := seq_of r dx hs
  obtain ⟨u, hu, du⟩ := atI_dv ds ha
  rcases hv with hv | hv
  · exact .inl ⟨p, vs, i, u, rfl, rfl, hv, hu, k _ _ _ _ _ _ Stp.refl r du q⟩
  · exact .inr ⟨p, vs, i, u, rfl, rfl, hv, hu, k _ _ _ _ _ _ Stp.refl r du q⟩
def aIx := aOp fIx
theorem ae_ix (ha : AE X ca W a ta ra) (hb : AE X ca W b tb rb) (hs : PlainIx b := by exact fun _ _ => rfl) : AE X ca W (.Subscript a b pos) (tOp (rIx2 X.K) ta tb) (aIx ra rb) := ⟨pe_ix ix_two ha.pe hb.pe hs, sim_op simr_ix ha.sim hb.sim⟩
abbrev ATO := AW → En → Om → (Option Int → Om → Prop) → Prop
structure AO' (X : Cx) (ca : CA) (W : WX) (e : Option Expr) (te : TO) (ta : ATO) : Prop where
  pe : PO X e te
  sim : ∀ (σ : St) (H : Hp) (G : Hp) (own : Addr → Option Addr) (ρ : En) (Ω : Om) (Wa : AW) (Qa : Option Int → Om → Prop) (Qc : Option Int → Hp → Prop), Rel X.K ca G own H Ω → SR X.K G σ ρ → ta Wa ρ Ω Qa →
    (∀ i H' G' own' Ω', Stp G own H G' own' H' → Rel X.K ca G' own' H' Ω' → Qa i Ω' → Qc i H') → KX X.K ca W G own H σ ρ Wa → te σ H Qc
def aNoPart : ATO := fun _ _ Ω Q => Q none Ω
def aPart (ra : ATE) : ATO := fun Wa ρ Ω Q => ra Wa ρ Ω fun x Ω1 => ∃ i, x = .int i ∧ Q (some i) Ω1
theorem ao_none : AO' X ca W none tNoPart aNoPart := ⟨po_none, fun σ H G own ρ Ω Wa Qa Qc r s h k _ => k _ _ _ _ _ Stp.refl r h⟩
theorem ao_some (ha : AE X ca W e te re) : AO' X ca W (some e) (tPart te) (aPart re) := ⟨po_some ha.pe, fun σ H G own ρ Ω Wa Qa Qc r s h k kx => ha.sim σ H G own ρ Ω Wa _ _ r s h (fun v H1 G1 own1 d Ω1 e1 r1 dv1 q1 => by
  obtain ⟨i, rfl, q⟩ := q1
  cases dv1
  exact ⟨i, rfl, k _ _ _ _ _ e1 r1 q⟩) kx⟩
def cutD (xs : List D) (lo hi : Option Int) : List D := (xs.drop (HT.sIx xs.length 0 lo)).take (HT.sIx xs.length xs.length hi - HT.sIx xs.length 0 lo)
theorem DVs.cut {K : PySem.W.Frag} {G : Hp} {vs : List V} {ds : List D} (h : DVs K G vs ds) (lo hi : Option Int) : DVs K G (cutV vs lo hi) (cutD ds lo hi) := by
  unfold cutV cutD
  rw [h.length]
  exact (h.drop _).take _
/-- a part of a list, as data; of a tuple -/
def aSl (ra : ATE) (rl rh : ATO) : ATE := fun Wa ρ Ω Q => ra Wa ρ Ω fun x Ω1 => rl Wa ρ Ω1 fun lo Ω2 => rh Wa ρ Ω2 fun hi Ω3 => (∃ xs, (x = .lst xs ∨ ∃ a, x = .o a ∧ Ω3 a = some (.lst xs)) ∧ Q (.lst (cutD xs lo hi)) Ω3) ∨ ∃ xs, x = .tup xs ∧ Q (.tup (cutD xs lo hi)) Ω3
def rSl2 (K : PySem.W.Frag) : V → Option Int → Option Int → Hp → VK → Prop := fun x lo hi H Q => rSlL K x lo hi H Q ∨ rSlA K x lo hi H Q
theorem sl_two : SlR X (rSl2 X.K) := sl_list.or sl_tupA
theorem cut_all {α : Type} {xs : List α} {lo hi : Option Int} (h : HT.sIx xs.length 0 lo = 0 ∧ HT.sIx xs.length xs.length hi = xs.length) : (xs.drop (HT.sIx xs.length 0 lo)).take (HT.sIx xs.length xs.length hi - HT.sIx xs.length 0 lo) = xs := by
  rw [h.1, h.2, List.drop_zero, Nat.sub_zero, List.take_length]
theorem ae_sl {lo hi : Option Expr} {p2 : Pos} {tl th : TO} {rl rh : ATO} (ha : AE X ca W e te re) (hl : AO' X ca W lo tl rl) (hh : AO' X ca W hi th rh) : AE X ca W (.Subscript e (.Slice lo hi none p2) pos) (tSl (rSl2 X.K) te tl th) (aSl re rl rh) :=
  ⟨pe_slice sl_two ha.pe hl.pe hh.pe, fun σ H G own ρ Ω Wa Qa Qc r s h k kx => ha.sim σ H G own ρ Ω Wa _ _ r s h (fun v H1 G1 own1 d Ω1 e1 r1 dv1 q1 =>
    hl.sim σ H1 G1 own1 ρ Ω1 Wa _ _ r1 (s.mono e1.same) q1 (fun i H2 G2 own2 Ω2 e2 r2 q2 => hh.sim σ H2 G2 own2 ρ Ω2 Wa _ _ r2 (s.mono (e1.trans e2).same) q2 (fun j H3 G3 own3 Ω3 e3 r3 q3 => by
      have e23 := e2.trans e3
      have e123 := e1.trans e23
      rcases q3 with ⟨xs, hx, q⟩ | ⟨xs, rfl, q⟩
      · obtain ⟨p, vs, rfl, ds, hv⟩ : ∃ p vs, v = .ref p ∧ DVs X.K G3 vs xs ∧ SqL X.K H3 p vs := by
          rcases hx with rfl | ⟨a, rfl, ha⟩
          · cases dv1 with
            | lst a b => exact ⟨_, _, rfl, b.mono e23.same, r3.sub.seq (e23.same.seq a)⟩
          · cases dv1
            obtain ⟨vs, hv, dv⟩ := r3.lstAt ha
            exact ⟨_, vs, rfl, dv, SqL.of hv⟩
        refine .inl ⟨p, vs, rfl, hv, fun q' hq => ?_⟩
        obtain ⟨r4, e4⟩ := r3.data (u := .lst (cutV vs i j)) hq
        exact k _ _ _ _ _ _ (e123.trans (stp_data e4 hq)) r4 (.lst (SqL.of upd_same) ((ds.cut i j).mono e4)) q
      · cases dv1 with
        | tup a b =>
          rename_i p vs
          refine .inr ⟨p, vs, rfl, same_seqT r3.sub (same_seqT e23.same a), fun hw => ?_, fun hw q' hq => ?_⟩
          · have hl := b.length
            rw [hl] at hw
            have e : cutD xs i j = xs := cut_all hw
            rw [e] at q
            exact k _ _ _ _ _ _ e123 r3 (.tup (same_seqT e23.same a) (b.mono e23.same)) q
          · obtain ⟨r4, e4⟩ := r3.data (u := .tup (cutV vs i j)) hq
            exact k _ _ _ _ _ _ (e123.trans (stp_data e4 hq)) r4 (.tup (SqT.of upd_same) (((b.mono e23.same).cut i j).mono e4)) q) ((kx.mono e1).mono e2)) (kx.mono e1)) kx⟩
def SimC (K : PySem.W.Frag) (ca : CA) (r : List V → Hp → VK → Prop) (f : List D → Om → AQ → Prop) : Prop := ∀ (H G : Hp) own Ω xs vs (Qa : AQ) (Qc : VK), Rel K ca G own H Ω → DVs K G vs xs → f xs Ω Qa →
  (∀ v H' G' own' d Ω', Stp G own H G' own' H' → Rel K ca G' own' H' Ω' → DV K G' v d → Qa d Ω' → Qc v H') → r vs H Qc
def aCall (f : List D → Om → AQ → Prop) (rr : ATA) : ATE := fun Wa ρ Ω Q => rr Wa ρ Ω fun xs Ω1 => f xs Ω1 Q
theorem sim_call {K : PySem.W.Frag} {r : List V → Hp → VK → Prop} {f : List D → Om → AQ → Prop} (h : SimC K ca r f) (sa : SimA K ca W tr rr) : SimE K ca W (tCB r tr) (aCall f rr) := fun σ H G own ρ Ω Wa Qa Qc r s h' k kx =>
  sa σ H G own ρ Ω Wa _ _ r s h' (fun v H1 G1 own1 d Ω1 e1 r1 dv1 q1 => h H1 G1 own1 Ω1 d v Qa Qc r1 dv1 q1 fun v3 H3 G3 own3 d3 Ω3 e3 => k v3 H3 G3 own3 d3 Ω3 (e1.trans e3)) kx
theorem ae_callB {id : String} {x : Str} {r : List V → Hp → VK → Prop} {f : List D → Om → AQ → Prop} {p : Pos} (hc : CallR X (.builtin id) r) (hf : SimC X.K ca r f) (hg : Gl X x) (hm : X.mg x = none) (hv : bootBuiltins x = some (.builtin id)) (ha : AA X ca W (e :: es) tr rr) (hn : x ≠ "__name__" := by decide) (hdb : (x == ("__debug__" : Str)) = false := by decide)
    (he : starEach (e :: es) X.env = (false, eval e X.env) :: starEach es X.env := by rfl) (hpl : (backTo pos (starEach es X.env)).any (·.1) = false := by rfl) : AE X ca W (.Call (.Name x p) (e :: es) [] pos) (tCB r tr) (aCall f rr) := ⟨pe_callB hc hg hm hv ha.pe hn hdb he hpl, sim_call hf ha.sim⟩
theorem ae_callTy {T : String} {x : Str} {r : List V → Hp → VK → Prop} {f : List D → Om → AQ → Prop} {p : Pos} (hc : CallR X (.type T) r) (hf : SimC X.K ca r f) (hg : Gl X x) (hm : X.mg x = none) (hv : bootBuiltins x = some (.type T)) (ha : AA X ca W (e :: es) tr rr) (hn : x ≠ "__name__" := by decide) (hdb : (x == ("__debug__" : Str)) = false := by decide)
    (he : starEach (e :: es) X.env = (false, eval e X.env) :: starEach es X.env := by rfl) (hpl : (backTo pos (starEach es X.env)).any (·.1) = false := by rfl) : AE X ca W (.Call (.Name x p) (e :: es) [] pos) (tCB r tr) (aCall f rr) := ⟨pe_callTy hc hg hm hv ha.pe hn hdb he hpl, sim_call hf ha.sim⟩
theorem dv1 {K : PySem.W.Frag} {G : Hp} {vs : List V} {x : D} (h : DVs K G vs [x]) : ∃ v, vs = [v] ∧ DV K G v x := by
  cases h with
  | cons a b => cases b; exact ⟨_, rfl, a⟩
theorem dv2 {K : PySem.W.Frag} {G : Hp} {vs : List V} {x y : D} (h : DVs K G vs [x, y]) : ∃ v w, vs = [v, w] ∧ DV K G v x ∧ DV K G w y := by
  cases h with
  | cons a b =>
    obtain ⟨w, rfl, c⟩ := dv1 b
    exact ⟨_, w, rfl, a, c⟩
/-- abs(i) -/
def fAbs : List D → Om → AQ → Prop := fun xs Ω Q => ∃ i : Int, xs = [.int i] ∧ Q (.int (if i < 0 then -i else i)) Ω
theorem simc_abs {K : PySem.W.Frag} : SimC K ca (fun xs H Q => ∃ i, xs = [.int i] ∧ Q (.int (if i < 0 then -i else i)) H) fAbs := by
  intro H G own Ω xs vs Qa Qc r d h k
  obtain ⟨i, rfl, q⟩ := h
  obtain ⟨v, rfl, dv⟩ := dv1 d
  cases dv
  exact ⟨i, rfl, k _ _ _ _ _ _ Stp.refl r (.int _) q⟩
theorem boot_abs' : bootBuiltins "abs" = some (.builtin "abs") := by decide +kernel
theorem ae_abs {p : Pos} (hg : Gl X "abs") (hm : X.mg "abs" = none) (ha : AE X ca W e te re) (hs : starEach [e] X.env = (false, eval e X.env) :: starEach [] X.env := by rfl) : AE X ca W (.Call (.Name "abs" p) [e] [] pos) (tCB (fun xs H Q => ∃ i, xs = [.int i] ∧ Q (.int (if i < 0 then -i else i)) H) (tCons te tNil)) (aCall fAbs (aCons re aNil)) :=
  ae_callB call_abs simc_abs hg hm boot_abs' (aa_cons ha aa_nil hs) (by decide) (by decide) hs
/-- int(flag) -/
def fIntB : List D → Om → AQ → Prop := fun xs Ω Q => ∃ k : Bool, xs = [.bl k] ∧ Q (.int (if k then 1 else 0)) Ω
def rInt1 : List V → Hp → VK → Prop := fun xs H Q => (∃ i, xs = [.int i] ∧ Q (.int i) H) ∨ ∃ k, xs = [.bl k] ∧ Q (.int (if k then 1 else 0)) H
theorem boot_int' : bootBuiltins "int" = some (.type "int") := by decide +kernel
theorem ae_intB {p : Pos} (hg : Gl X "int") (hm : X.mg "int" = none) (ha : AE X ca W e te re) (hs : starEach [e] X.env = (false, eval e X.env) :: starEach [] X.env := by rfl) : AE X ca W (.Call (.Name "int" p) [e] [] pos) (tCB rInt1 (tCons te tNil)) (aCall fIntB (aCons re aNil)) :=
  ae_callTy call_int1 (by
    intro H G own Ω xs vs Qa Qc r d h k
    obtain ⟨i, rfl, q⟩ := h
    obtain ⟨v, rfl, dv⟩ := dv1 d
    cases dv
    exact .inr ⟨i, rfl, k _ _ _ _ _ _ Stp.refl r (.int _) q⟩) hg hm boot_int' (aa_cons ha aa_nil hs) (by decide) (by decide) hs
/-- len of data, or of a list of ours -/
def fLen : List D → Om → AQ → Prop := fun xs Ω Q => ∃ x ys, xs = [x] ∧ x.seq Ω = some ys ∧ Q (.int (ys.length : Int)) Ω
theorem boot_len' : bootBuiltins "len" = some (.builtin "len") := by decide +kernel
theorem ae_len {p : Pos} (hg : Gl X "len") (hm : X.mg "len" = none) (ha : AE X ca W e te re) (hs : starEach [e] X.env = (false, eval e X.env) :: starEach [] X.env := by rfl) : AE X ca W (.Call (.Name "len" p) [e] [] pos) (tCB (Evl.rLenS X.K) (tCons te tNil)) (aCall fLen (aCons re aNil)) :=
  ae_callB call_len_seq (by
    intro H G own Ω xs vs Qa Qc r d h k
    obtain ⟨x, ys, rfl, hs, q⟩ := h
    obtain ⟨v, rfl, dv⟩ := dv1 d
    obtain ⟨p, vs, rfl, ds, hv⟩ := seq_of r dv hs
    refine ⟨p, vs, rfl, hv, k _ _ _ _ (.int (ys.length : Int)) _ Stp.refl r ?_ q⟩
    rw [ds.length]
    exact .int _) hg hm boot_len' (aa_cons ha aa_nil hs) (by decide) (by decide) hs
/-- list(x): data; a list of ours -/
def fListD : List D → Om → AQ → Prop := fun xs Ω Q => ∃ x ys, xs = [x] ∧ x.seq Ω = some ys ∧ Q (.lst ys) Ω
def fListO : List D → Om → AQ → Prop := fun xs Ω Q => ∃ x ys, xs = [x] ∧ x.seq Ω = some ys ∧ ∀ p, Ω p = none → Q (.o p) (oset Ω p (.lst ys))
/-- tuple(x) -/
def fTuple : List D → Om → AQ → Prop := fun xs Ω Q => ∃ x ys, xs = [x] ∧ x.seq Ω = some ys ∧ Q (.tup ys) Ω
def rTupleS (K : PySem.W.Frag) : List V → Hp → VK → Prop := fun xs H Q => ∃ p ys, xs = [.ref p] ∧ ((SqL K H p ys ∧ ∀ l, H l = none → Q (.ref l) (upd H l (.tup ys))) ∨ (SqT K H p ys ∧ Q (.ref p) H))
theorem boot_tuple' : bootBuiltins "tuple" = some (.type "tuple") := by decide +kernel
theorem ae_tuple {p : Pos} (hg : Gl X "tuple") (hm : X.mg "tuple" = none) (ha : AE X ca W e te re) (hs : starEach [e] X.env = (false, eval e X.env) :: starEach [] X.env := by rfl) : AE X ca W (.Call (.Name "tuple" p) [e] [] pos) (tCB (rTupleS X.K) (tCons te tNil)) (aCall fTuple (aCons re aNil)) :=
  ae_callTy call_tuple_of (by
    intro H G own Ω xs vs Qa Qc r d h k
    obtain ⟨x, ys, rfl, hs, q⟩ := h
    obtain ⟨v, rfl, dv⟩ := dv1 d
    by_cases ht : ∃ zs, x = .tup zs
    · obtain ⟨zs, rfl⟩ := ht
      simp only [D.seq, Option.some.injEq] at hs
      subst hs
      cases dv with
      | tup a b => exact ⟨_, _, rfl, .inr ⟨same_seqT r.sub a, k _ _ _ _ _ _ Stp.refl r (.tup a b) q⟩⟩
    · obtain ⟨p, vs, rfl, ds, hv⟩ : ∃ p vs, v = .ref p ∧ DVs X.K G vs ys ∧ SqL X.K H p vs := by
        cases dv with
        | lst a b => simp only [D.seq, Option.some.injEq] at hs; subst hs; exact ⟨_, _, rfl, b, r.sub.seq a⟩
        | tup a b => exact (ht ⟨_, rfl⟩).elim
        | o a =>
          cases qq : Ω a with
          | none => simp only [D.seq, qq] at hs; cases hs
          | some u =>
            cases u with
            | lst zs =>
              simp only [D.seq, qq, Option.some.injEq] at hs; subst hs
              obtain ⟨vs, hv, dv⟩ := r.lstAt qq
              exact ⟨_, vs, rfl, dv, SqL.of hv⟩
            | row => simp only [D.seq, qq] at hs; cases hs
            | dic _ => simp only [D.seq, qq] at hs; cases hs
            | dit _ => simp only [D.seq, qq] at hs; cases hs
            | obj _ _ => simp only [D.seq, qq] at hs; cases hs
        | _ => simp [D.seq] at hs
      refine ⟨p, vs, rfl, .inl ⟨hv, fun l hl => ?_⟩⟩
      obtain ⟨r4, e4⟩ := r.data (u := .tup vs) hl
      exact k _ _ _ _ _ _ (stp_data e4 hl) r4 (.tup (SqT.of upd_same) (ds.mono e4)) q) hg hm boot_tuple' (aa_cons ha aa_nil hs) (by decide) (by decide) hs
/-- x.bit_length() -/
def aBits (ra : ATE) : ATE := fun Wa ρ Ω Q => ra Wa ρ Ω fun x Ω1 => ∃ i, x = .int i ∧ Q (.int (Builtin.Int.intBits i : Nat)) Ω1
theorem ae_bits {apos : Pos} (ha : AE X ca W e te re) (hbase : attributeBase e "bit_length" X.env (eval e X.env) = eval e X.env := by rfl) (hline : (apos.endLine == pos.line) = true := by rfl) : AE X ca W (.Call (.Attribute e "bit_length" apos) [] [] pos) (tBits te) (aBits re) :=
  ⟨pe_bits ha.pe hbase hline, fun σ H G own ρ Ω Wa Qa Qc r s h k kx => ha.sim σ H G own ρ Ω Wa _ _ r s h (fun v H1 G1 own1 d Ω1 e1 r1 dv1 q1 => by
  obtain ⟨i, rfl, q⟩ := q1
  cases dv1
  exact ⟨i, rfl, k _ _ _ _ _ _ e1 r1 (.int _) q⟩) kx⟩
/-- the class of data, of a list of ours -/
def D.ty (Ω : Om) : D → Option String
  | .non => some "NoneType"
  | .bl _ => some "bool"
  | .int _ => some "int"
  | .str _ => some "str"
  | .tup _ => some "tuple"
  | .lst _ => some "list"
  | .o a => match Ω a with
    | some (.lst _) => some "list"
    | _ => none
theorem ty_of {K : PySem.W.Frag} {G H : Hp} {own : Addr → Option Addr} {Ω : Om} {v : V} {x : D} {t : String} (r : Rel K ca G own H Ω) (dv : DV K G v x) (h : x.ty Ω = some t) : TyX K H v (.type t) := by
  cases dv with
  | non => cases h; exact .base .non
  | bl b => cases h; exact .base (.bl b)
  | int b => cases h; exact .base (.int b)
  | str b => cases h; exact .base (.str b)
  | lst a b =>
    cases h
    rcases r.sub.seq a with (z | ⟨o, z⟩) | ⟨o, its, n, z, c, _⟩
    · exact .base (.lst z)
    · exact .base (.frz z)
    · exact .kList z c
  | tup a b =>
    cases h
    rcases same_seqT r.sub a with (z | ⟨o, z⟩) | ⟨o, its, n, z, c, _⟩
    · exact .base (.tup z)
    · exact .fTuple z
    · exact .kTuple z c
  | o a =>
    cases qq : Ω a with
    | none => simp only [D.ty, qq] at h; cases h
    | some u =>
      cases u with
      | lst zs =>
        simp only [D.ty, qq, Option.some.injEq] at h; subst h
        obtain ⟨vs, hv, dv⟩ := r.lstAt qq
        exact .base (.lst hv)
      | row => simp only [D.ty, qq] at h; cases h
      | dic _ => simp only [D.ty, qq] at h; cases h
      | dit _ => simp only [D.ty, qq] at h; cases h
      | obj _ _ => simp only [D.ty, qq] at h; cases h
def isT (t T : String) : Option Bool := L2.kitB t T
def aIsi (T : String) (ra : ATE) : ATE := fun Wa ρ Ω Q => ra Wa ρ Ω fun x Ω1 => ∃ t b, x.ty Ω1 = some t ∧ isT t T = some b ∧ Q (.bl b) Ω1
theorem boot_isi : bootBuiltins "isinstance" = some (.builtin "isinstance") := by decide +kernel
theorem ae_isi {p p2 : Pos} {T : Str} {Tn : String} (hg : Gl X "isinstance") (hm : X.mg "isinstance" = none) (hT : Gl X T) (hmT : X.mg T = none) (hv : bootBuiltins T = some (.type Tn)) (ha : AE X ca W e te re)
    (hs : starEach [e, .Name T p2] X.env = (false, eval e X.env) :: starEach [.Name T p2] X.env := by rfl) (hpl : (backTo pos (starEach [.Name T p2] X.env)).any (·.1) = false := by rfl) (hs2 : starEach [.Name T p2] X.env = (false, eval (.Name T p2) X.env) :: starEach [] X.env := by rfl) (hn : T ≠ "__name__" := by decide) (hd : (T == ("__debug__" : Str)) = false := by decide) :
    AE X ca W (.Call (.Name "isinstance" p) [e, .Name T p2] [] pos) (tCB (rIsi X.K) (tCons te (tCons (tC (.ty Tn)) tNil))) (aIsi Tn re) :=
  ⟨pe_callB call_isi hg hm boot_isi (pa_cons ha.pe (pa_cons (pe_bltn hT hmT hv rfl hn hd) pa_nil hs2) hs) (by decide) (by decide) hs hpl, fun σ H G own ρ Ω Wa Qa Qc r s h k kx => ha.sim σ H G own ρ Ω Wa _ _ r s h (fun v H1 G1 own1 d Ω1 e1 r1 dv1 q1 => by
    obtain ⟨t, b, ht, hb, q⟩ := q1
    exact ⟨v, .ty Tn, .type t, .type Tn, b, rfl, .ty Tn, ty_of r1 dv1 ht, kit_ty hb, k _ _ _ _ _ _ e1 r1 (.bl b) q⟩) kx⟩
abbrev AF := List D → Om → AQ → (Value → Om → Prop) → Prop
def spA (K : PySem.W.Frag) (ca : CA) (F : AF) : Sp := fun vs H Q E => ∃ (G : Hp) (own : Addr → Option Addr) (Ω : Om) (ds : List D) (Qa : AQ) (Ea : Value → Om → Prop), Rel K ca G own H Ω ∧ DVs K G vs ds ∧ F ds Ω Qa Ea ∧
  (∀ v H' G' own' d Ω', Stp G own H G' own' H' → Rel K ca G' own' H' Ω' → DV K G' v d → Qa d Ω' → Q v H') ∧ (∀ cls H' G' own' Ω', Stp G own H G' own' H' → Rel K ca G' own' H' Ω' → Ea cls Ω' → E cls none H')
def aFn (F : AF) (rr : ATA) : ATE := fun Wa ρ Ω Q => rr Wa ρ Ω fun ds Ω1 => F ds Ω1 Q fun cls Ω' => Wa cls ρ Ω'
theorem sim_fn {K : PySem.W.Frag} {F : AF} (sa : SimA K ca W tr rr) : SimE K ca W (tCallS (spA K ca F) (WE W) tr) (aFn F rr) := fun σ H G own ρ Ω Wa Qa Qc r s h' k kx =>
  sa σ H G own ρ Ω Wa _ _ r s h' (fun v H1 G1 own1 d Ω1 e1 r1 dv1 q1 => ⟨G1, own1, Ω1, d, Qa, fun cls Ω' => Wa cls ρ Ω', r1, dv1, q1, fun v2 H2 G2 own2 d2 Ω2 e2 => k v2 H2 G2 own2 d2 Ω2 (e1.trans e2), fun cls H2 G2 own2 Ω2 e2 => kx cls H2 G2 own2 Ω2 (e1.trans e2)⟩) kx
theorem ae_fn {k : Nat} {f : Addr} {fd : FuncData} {ps : List Str} {x : Str} {p : Pos} {F : AF} (G : FnOk X.prog X.w X.K X.mg X.base (L2.CX X.prog X.w) k f fd ps (spA X.K ca F)) (hr : Room k X.A) (hm : X.mg x = some (.ref f)) (hk : PySem.W.keepIn X.K (.ref f) = true) (hb : Binds X.K fd ps []) (tk : Takes X W)
    (ha : AA X ca W (e :: es) tr rr) (hg : Gl X x := by rfl) (hdb : (x == ("__debug__" : Str)) = false := by decide) (he : starEach (e :: es) X.env = (false, eval e X.env) :: starEach es X.env := by rfl) (hpl : (backTo pos (starEach es X.env)).any (·.1) = false := by rfl) :
    AE X ca W (.Call (.Name x p) (e :: es) [] pos) (tCallS (spA X.K ca F) (WE W) tr) (aFn F rr) := ⟨pe_callS G hr hg hm hk hb (fun σ => passAt tk σ) ha.pe hdb he hpl, sim_fn ha.sim⟩
variable {st : Stmt} {rest : List Stmt} {ts tu : TS} {rs ru : ATS}
def aNext : ATS := fun _ Da ρ Ω => Da.nx ρ Ω
def aSeq (t u : ATS) : ATS := fun Wa Da ρ Ω => t Wa { Da with nx := u Wa Da } ρ Ω
theorem ass_nil : ASs X ca W [] tNext aNext := ⟨pss_nil, fun σ H G own ρ Ω Wa Da Dc r s h k => k.nx _ _ _ _ _ _ Stp.refl r s h⟩
theorem ass_cons (h1 : AS X ca W st ts rs) (h2 : ASs X ca W rest tu ru) : ASs X ca W (st :: rest) (tSeq ts tu) (aSeq rs ru) := ⟨pss_cons h1.pe h2.pe, fun σ H G own ρ Ω Wa Da Dc r s h k =>
  h1.sim σ H G own ρ Ω Wa { Da with nx := ru Wa Da } { Dc with nx := tu Dc } r s h ⟨fun σ' H' G' own' ρ' Ω' e r' s' q => h2.sim σ' H' G' own' ρ' Ω' Wa Da Dc r' s' q (k.mono e), k.rt, k.bk, k.ct, k.ex⟩⟩
theorem ass_one (h1 : AS X ca W st ts rs) : ASs X ca W [st] ts rs := ⟨pss_one h1.pe, h1.sim⟩
def aDrop (re : ATE) : ATS := fun Wa Da ρ Ω => re Wa ρ Ω fun _ Ω1 => Da.nx ρ Ω1
theorem as_expr (ha : AE X ca W e te re) (hs : swapsWith e none pos.line X.env = pure false := by rfl) : AS X ca W (.Expr e pos) (tDrop te) (aDrop re) := ⟨ps_expr ha.pe hs, fun σ H G own ρ Ω Wa Da Dc r s h k => ha.sim σ H G own ρ Ω Wa _ _ r s h (fun v H1 G1 own1 d Ω1 e1 r1 dv1 q1 => k.nx _ _ _ _ _ _ e1 r1 (s.mono e1.same) q1) (k.kx s)⟩
def aRet (re : ATE) : ATS := fun Wa Da ρ Ω => re Wa ρ Ω Da.rt
theorem as_ret (ha : AE X ca W e te re) : AS X ca W (.Return (some e) pos) (tRet te) (aRet re) := ⟨ps_ret ha.pe, fun σ H G own ρ Ω Wa Da Dc r s h k => ha.sim σ H G own ρ Ω Wa _ _ r s h (fun v H1 G1 own1 d Ω1 e1 r1 dv1 q1 => k.rt _ _ _ _ _ _ e1 r1 dv1 q1) (k.kx s)⟩
def aRetN : ATS := fun _ Da _ Ω => Da.rt .non Ω
def aIfS (c : ATT) (t u : ATS) : ATS := fun Wa Da ρ Ω => c Wa ρ Ω fun b Ω1 => if b = true then t Wa Da ρ Ω1 else u Wa Da ρ Ω1
theorem as_if {c : Expr} {l m : List Stmt} {tc : TT} {rc : ATT} (hc : AT X ca W c tc rc) (h1 : ASs X ca W l ts rs) (h2 : ASs X ca W m tu ru) : AS X ca W (.If c l m pos) (tIfS tc ts tu) (aIfS rc rs ru) := ⟨ps_if hc.pe h1.pe h2.pe, fun σ H G own ρ Ω Wa Da Dc r s h k =>
  hc.sim σ H G own ρ Ω Wa _ _ r s h (fun b H1 G1 own1 Ω1 e1 r1 q1 => by
    cases b with
    | true => exact h1.sim σ H1 G1 own1 ρ Ω1 Wa Da Dc r1 (s.mono e1.same) q1 (k.mono e1)
    | false => exact h2.sim σ H1 G1 own1 ρ Ω1 Wa Da Dc r1 (s.mono e1.same) q1 (k.mono e1)) (k.kx s)⟩
/-- targets -/
abbrev AG := D → En → Om → (En → Om → Prop) → Prop
def SimG (K : PySem.W.Frag) (ca : CA) (g : TG) (ag : AG) : Prop := ∀ (σ : St) (H G : Hp) own ρ Ω v d (Qa : En → Om → Prop) (Qc : St → Hp → Prop), Rel K ca G own H Ω → SR K G σ ρ → DV K G v d → ag d ρ Ω Qa →
  (∀ σ' H' G' own' ρ' Ω', Stp G own H G' own' H' → Rel K ca G' own' H' Ω' → SR K G' σ' ρ' → Qa ρ' Ω' → Qc σ' H') → g v σ H Qc
structure AGt (X : Cx) (ca : CA) (e : Expr) (g : TG) (ag : AG) : Prop where
  pe : PG X e g
  sim : SimG X.K ca g ag
def agName (i : Nat) : AG := fun d ρ Ω Q => Q (ρ.set i (some d)) Ω
theorem simg_name {K : PySem.W.Frag} {i : Nat} : SimG K ca (gName i) (agName i) := fun σ H G own ρ Ω v d Qa Qc r s dv h k => k _ _ _ _ _ _ Stp.refl r (s.set i dv) h
theorem ag_name {i : Nat} {x : Str} (hN : X.N.Nodup) (hi : X.N[i]? = some x) (hx : Loc X.env.scope x) (hf : X.fn x = true ∨ X.env.scope.names.lookup x = some .local := by first | exact .inl rfl | exact .inr rfl | assumption) : AGt X ca (.Name x pos) (gName i) (agName i) := ⟨pg_name hN hi hx hf, simg_name⟩
/-- several names -/
def setAll (ρ : En) : List Nat → List D → En
  | i :: is, d :: ds => setAll (ρ.set i (some d)) is ds
  | _, _ => ρ
def gNames : List Nat → TGs
  | [] => gNil
  | i :: is => gCons (gName i) (gNames is)
structure AGs (X : Cx) (es : List Expr) (is : List Nat) : Prop where
  pe : PGs X es (gNames is)
theorem ags_nil : AGs X [] [] := ⟨pgs_nil⟩
theorem ags_cons {i : Nat} {is : List Nat} {x : Str} {p : Pos} (hN : X.N.Nodup) (hi : X.N[i]? = some x) (hx : Loc X.env.scope x) (hr : AGs X es is) (hf : X.fn x = true ∨ X.env.scope.names.lookup x = some .local := by first | exact .inl rfl | exact .inr rfl | assumption)
    (hs : (assignEach (.Name x p :: es) X.env).map (·.2) = assign (.Name x p) X.env :: (assignEach es X.env).map (·.2) := by rfl) : AGs X (.Name x p :: es) (i :: is) := ⟨pgs_cons (pg_name hN hi hx hf) hr.pe hs⟩
def agTup (n : Nat) (is : List Nat) : AG := fun d ρ Ω Q => ∃ xs, d = .tup xs ∧ xs.length = n ∧ is.length = n ∧ Q (setAll ρ is xs) Ω
theorem gnames_run : ∀ {is : List Nat} {K : PySem.W.Frag} {G : Hp} {vs : List V} {xs : List D} {σ : St} {ρ : En} {H : Hp} {Qc : St → Hp → Prop}, is.length = xs.length → SR K G σ ρ → DVs K G vs xs → (∀ σ', SR K G σ' (setAll ρ is xs) → Qc σ' H) → gNames is vs σ H Qc
  | [], K, G, vs, xs, σ, ρ, H, Qc, hl, s, dv, k => by
    cases xs with
    | nil => cases dv; exact ⟨rfl, k _ s⟩
    | cons a b => simp at hl
  | i :: is, K, G, vs, xs, σ, ρ, H, Qc, hl, s, dv, k => by
    cases xs with
    | nil => simp at hl
    | cons a b =>
      cases dv with
      | cons h1 h2 =>
        refine ⟨_, _, rfl, ?_⟩
        exact gnames_run (by simpa using hl) (s.set i h1) h2 k
theorem ag_tup {k n : Nat} {is : List Nat} (hc : X.calm = true) (h : AGs X es is) (hn : (assignEach es X.env).length = n := by rfl) (hst : (assignEach es X.env).findIdx? (·.1) = none := by rfl) : AGt X ca (.Tuple es k pos) (gTup X.K n (gNames is)) (agTup n is) := ⟨pg_tup hc h.pe hn hst, fun σ H G own ρ Ω v d Qa Qc r s dv h k => by
  obtain ⟨xs, rfl, hl, hi, q⟩ := h
  cases dv with
  | tup a b =>
    exact ⟨_, _, rfl, same_seqT r.sub a, by rw [b.length]; exact hl, gnames_run (by rw [hi, hl]) s b fun σ' s' => k _ _ _ _ _ _ Stp.refl r s' q⟩⟩
def aAsg (re : ATE) (g : AG) : ATS := fun Wa Da ρ Ω => re Wa ρ Ω fun d Ω1 => g d ρ Ω1 Da.nx
theorem sim_asg {K : PySem.W.Frag} {g : TG} {ag : AG} (ha : SimE K ca W te re) (hg : SimG K ca g ag) : SimS K ca W (tAsg te g) (aAsg re ag) := fun σ H G own ρ Ω Wa Da Dc r s h k =>
  ha σ H G own ρ Ω Wa _ _ r s h (fun v H1 G1 own1 d Ω1 e1 r1 dv1 q1 => hg σ H1 G1 own1 ρ Ω1 v d _ _ r1 (s.mono e1.same) dv1 q1 fun σ' H' G' own' ρ' Ω' e2 => k.nx _ _ _ _ _ _ (e1.trans e2)) (k.kx s)
theorem as_asg {tg : Expr} {g : TG} {ag : AG} (ha : AE X ca W e te re) (hg : AGt X ca tg g ag) (hs : swapsWithSole [tg] e pos.line X.env = pure false := by rfl) (hw : swappedStores [tg] e X.env = pure none := by rfl)
    (h1 : (assignEach [tg] X.env).map (·.2) = [assign tg X.env] := by rfl) : AS X ca W (.Assign [tg] e pos) (tAsg te g) (aAsg re ag) := ⟨ps_asg ha.pe hg.pe hs hw h1, sim_asg ha.sim hg.sim⟩
def aSet (i : Nat) (re : ATE) : ATS := aAsg re (agName i)
theorem as_set (i : Nat) {x : Str} {pos' : Pos} (hN : X.N.Nodup) (ha : AE X ca W e te re) (hi : X.N[i]? = some x := by rfl) (hx : Loc X.env.scope x := by first | exact Or.inl rfl | exact Or.inr rfl) (hs : swapsWith e (some (.Name x pos')) pos.line X.env = pure false := by rfl) (hf : X.fn x = true ∨ X.env.scope.names.lookup x = some .local := by first | exact .inl rfl | exact .inr rfl | assumption) :
    AS X ca W (.Assign [.Name x pos'] e pos) (tAsg te (gName i)) (aSet i re) := ⟨ps_set hN hi hx ha.pe hs hf, sim_asg ha.sim simg_name⟩
def aPar (i j : Nat) (ra rb : ATE) : ATS := fun Wa Da ρ Ω => ra Wa ρ Ω fun v Ω1 => rb Wa ρ Ω1 fun w Ω2 => Da.nx ((ρ.set i (some v)).set j (some w)) Ω2
theorem as_par (i j : Nat) {x y : Str} {px py pt : Pos} {kt k2 pt2} (hc : X.calm = true) (hN : X.N.Nodup) (ha : AE X ca W a ta ra) (hb : AE X ca W b tb rb) (hi : X.N[i]? = some x := by rfl) (hj : X.N[j]? = some y := by rfl) (hij : i ≠ j := by decide)
    (hx : X.env.scope.names.lookup x = some .local := by rfl) (hy : X.env.scope.names.lookup y = some .local := by rfl)
    (hw : swappedStores [.Tuple [.Name x px, .Name y py] kt pt] (.Tuple [a, b] k2 pt2) X.env = pure (some [x, y]) := by rfl)
    (hs : swapsWithSole [.Tuple [.Name x px, .Name y py] kt pt] (.Tuple [a, b] k2 pt2) pos.line X.env = pure false := by rfl)
    (s1 : starEach [a, b] X.env = (false, eval a X.env) :: starEach [b] X.env := by rfl) (s2 : starEach [b] X.env = (false, eval b X.env) :: starEach [] X.env := by rfl) :
    AS X ca W (.Assign [.Tuple [.Name x px, .Name y py] kt pt] (.Tuple [a, b] k2 pt2) pos) (tPar i j (tCons ta (tCons tb tNil))) (aPar i j ra rb) := ⟨ps_par hc hN hi hj hij hx hy (pa_cons ha.pe (pa_cons hb.pe pa_nil s2) s1) hw hs, fun σ H G own ρ Ω Wa Da Dc r s h k =>
  ha.sim σ H G own ρ Ω Wa _ _ r s h (fun v1 H1 G1 own1 d1 Ω1 e1 r1 dv1 q1 => hb.sim σ H1 G1 own1 ρ Ω1 Wa _ _ r1 (s.mono e1.same) q1 (fun v2 H2 G2 own2 d2 Ω2 e2 r2 dv2 q2 =>
    ⟨v1, v2, rfl, k.nx _ _ _ _ _ _ (e1.trans e2) r2 (((s.mono (e1.trans e2).same).set i (dv1.mono e2.same)).set j dv2) q2⟩) ((k.kx s).mono e1)) (k.kx s)⟩
/-- x.append(e), x[i] = e: a list of ours -/
def IsLst (x : D) (Ω : Om) : Prop := ∃ a xs, x = .o a ∧ Ω a = some (.lst xs)
def aApp (ra re : ATE) : ATE := fun Wa ρ Ω Q => ra Wa ρ Ω fun x Ω1 => IsLst x Ω1 ∧ re Wa ρ Ω1 fun y Ω2 => ∃ a xs, x = .o a ∧ Ω2 a = some (.lst xs) ∧ xs.length < sizeLine ∧ Q .non (oset Ω2 a (.lst (xs ++ [y])))
theorem ae_app {apos : Pos} (ho : AE X ca W a ta ra) (ha : AE X ca W e te re) (hbase : attributeBase a "append" X.env (eval a X.env) = eval a X.env := by rfl)
    (hfew : ((backTo pos (starEach [e] X.env)).all (fun x => !x.1) && (backToKw pos (keywordEach [] X.env)).all (fun x => x.1.isSome)
      && decide (([e] : List Expr).length + ([] : List Keyword).length + (if ([] : List Keyword).isEmpty then 0 else 1) < 30)) = true := by rfl)
    (hline : (apos.endLine == pos.line) = true := by rfl) (hs : starEach [e] X.env = (false, eval e X.env) :: starEach [] X.env := by rfl) :
    AE X ca W (.Call (.Attribute a "append" apos) [e] [] pos) (tBM X.K "list" rAppend ta (tCons te tNil)) (aApp ra re) :=
  ⟨pe_bm PySem.F.plainAttrs_list PySem.F.slot_list_append PySem.F.type_list_append mt_append ho.pe (pa_cons ha.pe pa_nil hs) hbase hfew hline hs rfl, fun σ H G own ρ Ω Wa Qa Qc r s h k kx => ho.sim σ H G own ρ Ω Wa _ _ r s h (fun v H1 G1 own1 d Ω1 e1 r1 dv1 q1 => by
    obtain ⟨⟨l, xs, rfl, hl⟩, q⟩ := q1
    cases dv1
    obtain ⟨vs, hv, dvs⟩ := r1.lstAt hl
    refine ⟨.inl ⟨rfl, _, SqL.of hv⟩, ?_⟩
    refine ha.sim σ H1 G1 own1 ρ Ω1 Wa _ _ r1 (s.mono e1.same) q (fun w H2 G2 own2 y Ω2 e2 r2 dv2 q2 => ?_) (kx.mono e1)
    obtain ⟨l', ys, e, hl2, hz, q3⟩ := q2
    cases e
    obtain ⟨vs2, hv2, dvs2⟩ := r2.lstAt hl2
    have hd : DVs X.K G2 (vs2 ++ [w]) (ys ++ [y]) := dvs2.append (.cons dv2 .nil)
    exact ⟨l, vs2, w, rfl, rfl, hv2, by rw [dvs2.length]; exact hz, k _ _ _ _ _ _ ((e1.trans e2).trans (stp_own (r2.objs _ _ hl2).1)) (r2.setLst hl2 hd) .non q3⟩) kx⟩
def aSetIx (rv ro ri : ATE) : ATS := fun Wa Da ρ Ω => rv Wa ρ Ω fun y Ω1 => ro Wa ρ Ω1 fun x Ω2 => ri Wa ρ Ω2 fun i Ω3 => ∃ a xs k j, x = .o a ∧ Ω3 a = some (.lst xs) ∧ i = .int k ∧ ixN xs.length k = some j ∧ Da.nx ρ (oset Ω3 a (.lst (xs.set j y)))
theorem as_setIx {o i v : Expr} {to ti tv : TE} {ro ri rv : ATE} {spos : Pos} (hv : AE X ca W v tv rv) (ho : AE X ca W o to ro) (hi : AE X ca W i ti ri)
    (ha : ∀ v, assign (.Subscript o i spos) X.env v = (do
      let ov ← holding [v] (eval o X.env)
      let iv ← holding [v, ov] (eval i X.env)
      standAt spos
      holding [v, ov, iv] (setItem ov iv v)
      release [v, ov, iv] []) := by intro _; rfl) (hs : swapsWithSole [.Subscript o i spos] v pos.line X.env = pure false := by rfl) (hw : swappedStores [.Subscript o i spos] v X.env = pure none := by rfl)
    (h1 : (assignEach [.Subscript o i spos] X.env).map (·.2) = [assign (.Subscript o i spos) X.env] := by rfl) :
    AS X ca W (.Assign [.Subscript o i spos] v pos) (tAsg tv (gSub to ti rSetL)) (aSetIx rv ro ri) := ⟨ps_asg hv.pe (pg_sub ho.pe hi.pe set_list ha) hs hw h1, fun σ H G own ρ Ω Wa Da Dc r s h k =>
  hv.sim σ H G own ρ Ω Wa _ _ r s h (fun v1 H1 G1 own1 d1 Ω1 e1 r1 dv1 q1 => ho.sim σ H1 G1 own1 ρ Ω1 Wa _ _ r1 (s.mono e1.same) q1 (fun v2 H2 G2 own2 d2 Ω2 e2 r2 dv2 q2 =>
    hi.sim σ H2 G2 own2 ρ Ω2 Wa _ _ r2 (s.mono (e1.trans e2).same) q2 (fun v3 H3 G3 own3 d3 Ω3 e3 r3 dv3 q3 => by
      obtain ⟨l, xs, z, j, rfl, hl, rfl, hj, q⟩ := q3
      cases dv2
      cases dv3
      obtain ⟨vs, hvs, dvs⟩ := r3.lstAt hl
      exact ⟨l, vs, z, j, rfl, rfl, hvs, by rw [dvs.length]; exact hj, k.nx _ _ _ _ _ _ (((e1.trans e2).trans e3).trans (stp_own (r3.objs _ _ hl).1)) (r3.setLst hl (dvs.set (dv1.mono (e2.trans e3).same) j)) (s.mono ((e1.trans e2).trans e3).same) q⟩) (((k.kx s).mono e1).mono e2)) ((k.kx s).mono e1)) (k.kx s)⟩
/-- while -/
def aWhile (c : ATT) (b : ATS) : ATS := fun Wa Da ρ Ω => ∃ Wn : Nat → En → Om → Prop, (∃ m, Wn m ρ Ω) ∧ ∀ m ρ Ω, Wn m ρ Ω → c Wa ρ Ω fun k Ω1 =>
  if k = true then b Wa { Da with nx := fun ρ' Ω' => ∃ m', m' < m ∧ Wn m' ρ' Ω', ct := fun ρ' Ω' => ∃ m', m' < m ∧ Wn m' ρ' Ω', bk := Da.nx } ρ Ω1 else Da.nx ρ Ω1
theorem as_while {c : Expr} {l : List Stmt} {tc : TT} {rc : ATT} (hp : PassesOwn (model X.prog X.w) X.A X.env X.xe) (hc : AT X ca W c tc rc) (hb : ASs X ca W l ts rs) : AS X ca W (.While c l [] pos) (tWhile tc ts) (aWhile rc rs) := ⟨ps_while hp hc.pe hb.pe, fun σ H G own ρ Ω Wa Da Dc r s h k => by
  obtain ⟨Wn, ⟨m0, w0⟩, turn⟩ := h
  refine ⟨fun m σ' H' => ∃ G' own' ρ' Ω', Stp G own H G' own' H' ∧ Rel X.K ca G' own' H' Ω' ∧ SR X.K G' σ' ρ' ∧ Wn m ρ' Ω', ⟨m0, G, own, ρ, Ω, Stp.refl, r, s, w0⟩, ?_⟩
  rintro m σ1 H1 ⟨G1, own1, ρ1, Ω1, e1, r1, s1, w1⟩
  refine hc.sim σ1 H1 G1 own1 ρ1 Ω1 Wa _ _ r1 s1 (turn m ρ1 Ω1 w1) (fun b H2 G2 own2 Ω2 e2 r2 q2 => ?_) ((k.mono e1).kx s1)
  cases b with
  | true =>
    rw [if_pos rfl] at q2 ⊢
    refine ⟨_, fun _ _ n => n, hb.sim σ1 H2 G2 own2 ρ1 Ω2 Wa _ _ r2 (s1.mono e2.same) q2 ⟨?_, fun _ _ _ _ _ _ e3 => k.rt _ _ _ _ _ _ ((e1.trans e2).trans e3), fun _ _ _ _ _ _ e3 => k.nx _ _ _ _ _ _ ((e1.trans e2).trans e3), ?_, fun _ _ _ _ _ _ _ e3 => k.ex _ _ _ _ _ _ _ ((e1.trans e2).trans e3)⟩⟩
    · rintro σ3 H3 G3 own3 ρ3 Ω3 e3 r3 s3 ⟨m', hm, w3⟩
      exact ⟨m', hm, G3, own3, ρ3, Ω3, (e1.trans e2).trans e3, r3, s3, w3⟩
    · rintro σ3 H3 G3 own3 ρ3 Ω3 e3 r3 s3 ⟨m', hm, w3⟩
      exact ⟨m', hm, G3, own3, ρ3, Ω3, (e1.trans e2).trans e3, r3, s3, w3⟩
  | false =>
    rw [if_neg Bool.false_ne_true] at q2 ⊢
    exact k.nx _ _ _ _ _ _ (e1.trans e2) r2 (s1.mono e2.same) q2⟩
/-- for over items that stand -/
def forL (g : AG) (b : ATS) : List D → ATS
  | [], _, Da, ρ, Ω => Da.nx ρ Ω
  | x :: xs, Wa, Da, ρ, Ω => g x ρ Ω fun ρ1 Ω1 => b Wa { Da with nx := forL g b xs Wa Da, ct := forL g b xs Wa Da, bk := Da.nx } ρ1 Ω1
def aFor (ra : ATE) (g : AG) (b : ATS) : ATS := fun Wa Da ρ Ω => ra Wa ρ Ω fun d Ω1 => ∃ xs, d = .lst xs ∧ forL g b xs Wa Da ρ Ω1
def aForT (ra : ATE) (g : AG) (b : ATS) : ATS := fun Wa Da ρ Ω => ra Wa ρ Ω fun d Ω1 => ∃ xs, d = .tup xs ∧ forL g b xs Wa Da ρ Ω1
/-- the invariant of a walk through data -/
def ForI (K : PySem.W.Frag) (ca : CA) (g : AG) (b : ATS) (xs : List D) (Wa : AW) (Da : AEnds) (G : Hp) (own : Addr → Option Addr) (H : Hp) (i : Nat) (σ' : St) (H' : Hp) : Prop :=
  ∃ G' own' ρ' Ω', Stp G own H G' own' H' ∧ Rel K ca G' own' H' Ω' ∧ SR K G' σ' ρ' ∧ forL g b (xs.drop i) Wa Da ρ' Ω'
theorem forI_turn {K : PySem.W.Frag} {G H H' : Hp} {own : Addr → Option Addr} {g : TG} {ag : AG} {xs : List D} {Wa : AW} {Da : AEnds} {Dc : Ends} {i : Nat} {x : D} {v : V} {σ' : St} (hg : SimG K ca g ag) (hb : SimS K ca W ts rs) (k : KE K ca W G own H Da Dc Wa) (hx : xs[i]? = some x) (dv : DV K G v x)
    (p : ForI K ca ag rs xs Wa Da G own H i σ' H') : g v σ' H' fun σ2 H2 => ts { Dc with nx := ForI K ca ag rs xs Wa Da G own H (i + 1), ct := ForI K ca ag rs xs Wa Da G own H (i + 1), bk := Dc.nx } σ2 H2 := by
  obtain ⟨G1, own1, ρ1, Ω1, e1, r1, s1, q⟩ := p
  have hlt : i < xs.length := (List.getElem?_eq_some_iff.mp hx).1
  have hd : xs.drop i = x :: xs.drop (i + 1) := by
    rw [List.drop_eq_getElem_cons hlt]
    rw [(List.getElem?_eq_some_iff.mp hx).2]
  rw [hd] at q
  refine hg σ' H' G1 own1 ρ1 Ω1 v x _ _ r1 s1 (dv.mono e1.same) q fun σ2 H2 G2 own2 ρ2 Ω2 e2 r2 s2 q2 => ?_
  have e12 := e1.trans e2
  exact hb σ2 H2 G2 own2 ρ2 Ω2 Wa _ _ r2 s2 q2 ⟨fun σ3 H3 G3 own3 ρ3 Ω3 e3 r3 s3 q3 => ⟨G3, own3, ρ3, Ω3, e12.trans e3, r3, s3, q3⟩, fun _ _ _ _ _ _ e3 => k.rt _ _ _ _ _ _ (e12.trans e3), fun _ _ _ _ _ _ e3 => k.nx _ _ _ _ _ _ (e12.trans e3),
    fun σ3 H3 G3 own3 ρ3 Ω3 e3 r3 s3 q3 => ⟨G3, own3, ρ3, Ω3, e12.trans e3, r3, s3, q3⟩, fun _ _ _ _ _ _ _ e3 => k.ex _ _ _ _ _ _ _ (e12.trans e3)⟩
theorem forI_end {K : PySem.W.Frag} {G H H' : Hp} {own : Addr → Option Addr} {ag : AG} {xs : List D} {Wa : AW} {Da : AEnds} {Dc : Ends} {σ' : St} {n : Nat} (hn : n = xs.length) (k : KE K ca W G own H Da Dc Wa)
    (p : ForI K ca ag rs xs Wa Da G own H n σ' H') : Dc.nx σ' H' := by
  obtain ⟨G1, own1, ρ1, Ω1, e1, r1, s1, q⟩ := p
  rw [hn, List.drop_length] at q
  exact k.nx _ _ _ _ _ _ e1 r1 s1 q
theorem as_for {iter tg : Expr} {l : List Stmt} {g : TG} {ag : AG} (hp : PassesOwn (model X.prog X.w) X.A X.env X.xe) (hc : X.calm = true) (ha : AE X ca W iter te re) (hg : AGt X ca tg g ag) (hb : ASs X ca W l ts rs) (hs : ∀ x, foldedSetIterable iter X.env x = pure x := by intro _; rfl) :
    AS X ca W (.For tg iter l [] pos) (tFor (iList X.K te) g ts) (aFor re ag rs) := ⟨ps_for hp hc (pi_list ha.pe) hg.pe hb.pe hs, fun σ H G own ρ Ω Wa Da Dc r s h k => by
  refine ha.sim σ H G own ρ Ω Wa _ _ r s h (fun v H1 G1 own1 d Ω1 e1 r1 dv1 q1 => ?_) (k.kx s)
  obtain ⟨xs, rfl, q⟩ := q1
  cases dv1 with
  | lst hq ds =>
    rename_i a vs
    have k1 := k.mono e1
    refine ⟨a, rfl, ⟨vs, r1.sub.seq hq⟩, for_list (K := X.K) (a := a) (xs := vs) (ForI X.K ca ag rs xs Wa Da G1 own1 H1) ⟨G1, own1, ρ, Ω1, Stp.refl, r1, s.mono e1.same, q⟩ (fun i σ' H' _ p => ?_) (fun i x σ' H' hx p => ?_) (fun σ' H' p => forI_end ds.length k1 p)⟩
    · obtain ⟨G2, own2, ρ2, Ω2, e2, r2, _⟩ := p
      exact r2.sub.seq (e2.same.seq hq)
    · obtain ⟨d, hd, dv⟩ := ds.getV hx
      exact forI_turn hg.sim hb.sim k1 hd dv p⟩
theorem as_forT {iter tg : Expr} {l : List Stmt} {g : TG} {ag : AG} (hp : PassesOwn (model X.prog X.w) X.A X.env X.xe) (hc : X.calm = true) (ha : AE X ca W iter te re) (hg : AGt X ca tg g ag) (hb : ASs X ca W l ts rs) (hs : ∀ x, foldedSetIterable iter X.env x = pure x := by intro _; rfl) :
    AS X ca W (.For tg iter l [] pos) (tFor (iTup X.K te) g ts) (aForT re ag rs) := ⟨ps_for hp hc (pi_tup ha.pe) hg.pe hb.pe hs, fun σ H G own ρ Ω Wa Da Dc r s h k => by
  refine ha.sim σ H G own ρ Ω Wa _ _ r s h (fun v H1 G1 own1 d Ω1 e1 r1 dv1 q1 => ?_) (k.kx s)
  obtain ⟨xs, rfl, q⟩ := q1
  cases dv1 with
  | tup hq ds =>
    rename_i a vs
    have k1 := k.mono e1
    refine ⟨a, rfl, ⟨vs, same_seqT r1.sub hq⟩, for_tup (K := X.K) (a := a) (xs := vs) (ForI X.K ca ag rs xs Wa Da G1 own1 H1) ⟨G1, own1, ρ, Ω1, Stp.refl, r1, s.mono e1.same, q⟩ (fun i σ' H' _ p => ?_) (fun i x σ' H' hx p => ?_) (fun σ' H' p => forI_end ds.length k1 p)⟩
    · obtain ⟨G2, own2, ρ2, Ω2, e2, r2, _⟩ := p
      exact same_seqT r2.sub (same_seqT e2.same hq)
    · obtain ⟨d, hd, dv⟩ := ds.getV hx
      exact forI_turn hg.sim hb.sim k1 hd dv p⟩
/-- the numbers from lo on, n of them -/
def rngD (lo : Int) (n : Nat) : List D := (List.range n).map fun i => .int (lo + (i : Nat))
def aForR1 (ra : ATE) (g : AG) (b : ATS) : ATS := fun Wa Da ρ Ω => ra Wa ρ Ω fun d Ω1 => ∃ j : Int, d = .int j ∧ -(2 ^ 62) ≤ j ∧ j < 2 ^ 62 ∧ forL g b (rngD 0 j.toNat) Wa Da ρ Ω1
theorem rngD_get {lo : Int} {n i : Nat} (h : i < n) : (rngD lo n)[i]? = some (.int (lo + (i : Nat))) := by
  unfold rngD
  rw [List.getElem?_map, List.getElem?_range h]
  rfl
theorem rngD_length {lo : Int} {n : Nat} : (rngD lo n).length = n := by unfold rngD; rw [List.length_map, List.length_range]
theorem as_forR1 {tg : Expr} {l : List Stmt} {g : TG} {ag : AG} {p p2 : Pos} (hp : PassesOwn (model X.prog X.w) X.A X.env X.xe) (hc : X.calm = true) (hgl : Gl X "range") (hm : X.mg "range" = none) (ha : AE X ca W a ta ra) (hg : AGt X ca tg g ag) (hb : ASs X ca W l ts rs)
    (hs1 : starEach [a] X.env = (false, eval a X.env) :: starEach [] X.env := by rfl) (hs2 : starEach [a] X.env = [(false, eval a X.env)] := by rfl) (hs : ∀ x, foldedSetIterable (.Call (.Name "range" p) [a] [] p2) X.env x = pure x := by intro _; rfl) :
    AS X ca W (.For tg (.Call (.Name "range" p) [a] [] p2) l [] pos) (tFor (iRng1 (tCons ta tNil)) g ts) (aForR1 ra ag rs) := ⟨ps_for hp hc (pi_range1 hgl hm (pa_cons ha.pe pa_nil hs1) hs2) hg.pe hb.pe hs, fun σ H G own ρ Ω Wa Da Dc r s h k => by
  refine ha.sim σ H G own ρ Ω Wa _ _ r s h (fun v H1 G1 own1 d Ω1 e1 r1 dv1 q1 => ?_) (k.kx s)
  obtain ⟨j, rfl, h1, h2, q⟩ := q1
  cases dv1
  have k1 := k.mono e1
  refine ⟨j, rfl, h1, h2, for_range (lo := 0) (n := j.toNat) (ForI X.K ca ag rs (rngD 0 j.toNat) Wa Da G1 own1 H1) ⟨G1, own1, ρ, Ω1, Stp.refl, r1, s.mono e1.same, q⟩ (fun i σ' H' hi p => ?_) (fun σ' H' p => forI_end rngD_length.symm k1 p)⟩
  exact forI_turn hg.sim hb.sim k1 (rngD_get hi) (.int _) p⟩
def aForR2 (ra rb : ATE) (g : AG) (b : ATS) : ATS := fun Wa Da ρ Ω => ra Wa ρ Ω fun d Ω1 => rb Wa ρ Ω1 fun d2 Ω2 => ∃ i j : Int, d = .int i ∧ d2 = .int j ∧ (-(2 ^ 62) ≤ i ∧ i < 2 ^ 62 ∧ -(2 ^ 62) ≤ j ∧ j < 2 ^ 62) ∧ forL g b (rngD i (j - i).toNat) Wa Da ρ Ω2
end
def astart (N : List Str) (ds : List D) : En := ds.map some ++ List.replicate (N.length - ds.length) none
theorem sr_start {K : PySem.W.Frag} {G : Hp} {N : List Str} {vs : List V} {ds : List D} (h : DVs K G vs ds) : SR K G (L2.start N vs) (astart N ds) := by
  refine ⟨by unfold L2.start astart; rw [List.length_append, List.length_append, List.length_map, List.length_map, List.length_replicate, List.length_replicate, h.length], fun i d hd => ?_⟩
  unfold astart at hd
  by_cases hi : i < (ds.map some).length
  · rw [List.getElem?_append_left hi, List.getElem?_map] at hd
    rw [List.length_map] at hi
    cases e : ds[i]? with
    | none => rw [e] at hd; cases hd
    | some x =>
      rw [e] at hd
      cases hd
      obtain ⟨v, hv, dv⟩ := h.get e
      refine ⟨v, ?_, dv⟩
      unfold L2.start
      rw [List.getElem?_append_left (by rw [List.length_map, h.length]; exact hi), List.getElem?_map, hv]
      rfl
  · rw [List.getElem?_append_right (by omega), List.getElem?_replicate] at hd
    split at hd <;> cases hd
section
variable {P : Program} {w : World} {K : PySem.W.Frag} {mg : Str → Option Value} {base : Heap} {ca : CA}
abbrev WD (E : XK) : WX := fun cls d _ H => E cls d H
theorem okA {x qual : Str} {st : Stmt} {f : Addr} {fd : FuncData} {N ps : List Str} {k : Nat} {Fa : AF} (F : Fun K x qual st f fd) (S : FnScope N ps (defScope st)) (len : ∀ ds Ω Q E, Fa ds Ω Q E → ds.length = ps.length)
    (h : ∀ (cdv : Value) (A : Around) (outer : List Env) (s : Shared) (H : Hp) (E : XK), Room k (A.deeper (PyProof.Rows.envOfC qual (defScope st) s.heap.objs.size f cdv)) →
      ∃ ts ta, ASs (cxOf (L2.CX P w) P w K mg base N qual (defScope st) f cdv A outer s H E) ca (WD E) (defBody st) ts ta ∧
        ∀ ds Ω Qa Ea, Fa ds Ω Qa Ea → ta (fun cls _ Ω' => Ea cls Ω') { nx := fun _ Ω' => Qa .non Ω', rt := Qa } (astart N ds) Ω) : FnOk P w K mg base (L2.CX P w) (k + 1) f fd ps (spA K ca Fa) := by
  refine F.okX S (fun vs H Q E hsp => ?_) (fun cdv A outer s H vs Q E hr hsp => ?_)
  · obtain ⟨G, own, Ω, ds, Qa, Ea, r, dv, hF, _⟩ := hsp
    rw [dv.length]
    exact len _ _ _ _ hF
  · obtain ⟨ts, ta, hA, hq⟩ := h cdv A outer s H E hr
    obtain ⟨G, own, Ω, ds, Qa, Ea, r, dv, hF, k1, k2⟩ := hsp
    exact ⟨ts, hA.pe, hA.sim _ _ G own (astart N ds) Ω (fun cls _ Ω' => Ea cls Ω') _ _ r (sr_start dv) (hq ds Ω Qa Ea hF)
      ⟨fun σ' H' G' own' ρ' Ω' e r' s' q => k1 _ _ _ _ .non _ e r' .non q, fun v H' G' own' d Ω' e r' dv' q => k1 _ _ _ _ _ _ e r' dv' q, fun _ _ _ _ _ _ _ _ _ q => q.elim, fun _ _ _ _ _ _ _ _ _ q => q.elim, fun cls σ' H' G' own' ρ' Ω' e r' s' q => k2 _ _ _ _ _ e r' q⟩⟩
end
end PL
namespace PL
open PySem L2
section
variable {X : Cx} {ca : CA} {W : WX} {a b e : Expr} {es : List Expr} {ta tb te : TE} {ra rb re : ATE} {tr : TA} {rr : ATA} {pos : Pos}
def CPowB (i j : Int) : Prop := 0 ≤ j ∧ (Builtin.Int.intBits i : Int) * j ≤ 2 ^ 27
def aPowB := aOp (fI CPowB fun i j => i ^ j.toNat)
theorem op_powB : OpR X (binaryOp .Pow) (rI CPowB fun i j => .int (i ^ j.toNat)) := opI fun _ _ _ _ _ _ _ hc q => PyProof.Rows.pow_int hc.1 hc.2 q
theorem ae_powB (ha : AE X ca W a ta ra) (hb : AE X ca W b tb rb) : AE X ca W (.BinOp a .Pow b pos) (tOp (rI CPowB fun i j => .int (i ^ j.toNat)) ta tb) (aPowB ra rb) := ⟨pe_op op_powB ha.pe hb.pe, sim_op simr_I ha.sim hb.sim⟩
theorem ae_neg (ha : AE X ca W a ta ra) : AE X ca W (.UnaryOp .USub a pos) (tUn (rU fun i => .int (-i)) ta) (fun Wa ρ Ω Q => ra Wa ρ Ω fun x Ω1 => ∃ i : Int, x = .int i ∧ Q (.int (-i)) Ω1) := ⟨pe_un un_neg ha.pe, fun σ H G own ρ Ω Wa Qa Qc r s h k kx => ha.sim σ H G own ρ Ω Wa _ _ r s h (fun v H1 G1 own1 d Ω1 e1 r1 dv1 q1 => by
  obtain ⟨i, rfl, q⟩ := q1
  cases dv1
  exact ⟨i, rfl, k _ _ _ _ _ _ e1 r1 (.int _) q⟩) kx⟩
def rowD (ns : List Int) (i c m : Int) : List D := [.lst (ns.map D.int), .int i, .int c, .int m]
theorem Rel.toRow {K : PySem.W.Frag} {G H : Hp} {own : Addr → Option Addr} {Ω : Om} {p : Addr} {ns : List Int} {i c m : Int} (r : Rel K ca G own H Ω) (e : Ω p = some (.lst (rowD ns i c m))) (h0 : 0 ≤ i) (h1 : i ≤ ns.length) (h2 : 0 ≤ c) : Rel K ca G own H (oset Ω p .row) := by
  obtain ⟨w, vs, hv, dv⟩ := r.objs p _ e
  unfold rowD at dv
  cases dv with
  | cons d1 dv =>
    cases dv with
    | cons d2 dv =>
      cases dv with
      | cons d3 dv =>
        cases dv with
        | cons d4 dv =>
          cases dv
          cases d2
          cases d3
          cases d4
          cases d1 with
          | lst q ds =>
            rw [ds.ints] at q
            exact r.turn (fun b u hb _ => hb) (fun b u hb _ => hb) ⟨w, _, ns, i, c, m, hv, q, h0, h1, h2⟩
theorem Rel.ofRow {K : PySem.W.Frag} {G H : Hp} {own : Addr → Option Addr} {Ω : Om} {p : Addr} (r : Rel K ca G own H Ω) (e : Ω p = some .row) : ∃ ns i c m, 0 ≤ i ∧ i ≤ (ns.length : Int) ∧ 0 ≤ c ∧ Rel K ca G own H (oset Ω p (.lst (rowD ns i c m))) := by
  obtain ⟨w, q, ns, i, c, m, hv, hs, h0, h1, h2⟩ := r.objs p _ e
  refine ⟨ns, i, c, m, h0, h1, h2, r.turn (fun b u hb _ => hb) (fun b u hb _ => hb) ⟨w, _, hv, ?_⟩⟩
  exact .cons (.lst hs (DVs.of_ints ns)) (.cons (.int i) (.cons (.int c) (.cons (.int m) .nil)))
def aAsRow (re : ATE) : ATE := fun Wa ρ Ω Q => re Wa ρ Ω fun x Ω1 => ∃ a ns i c m, x = .o a ∧ Ω1 a = some (.lst (rowD ns i c m)) ∧ 0 ≤ i ∧ i ≤ ns.length ∧ 0 ≤ c ∧ Q (.o a) (oset Ω1 a .row)
theorem ae_asRow (ha : AE X ca W e te re) : AE X ca W e te (aAsRow re) := ⟨ha.pe, fun σ H G own ρ Ω Wa Qa Qc r s h k kx => ha.sim σ H G own ρ Ω Wa _ _ r s h (fun v H1 G1 own1 d Ω1 e1 r1 dv1 q1 => by
  obtain ⟨p, ns, i, c, m, rfl, ho, h0, h1, h2, q⟩ := q1
  cases dv1
  exact k _ _ _ _ _ _ e1 (r1.toRow ho h0 h1 h2) (.o p) q) kx⟩
def wipeA (ρ : En) : List Nat → En
  | [] => ρ
  | v :: vs => (wipeA ρ vs).set v none
theorem SR.wipe {K : PySem.W.Frag} {G : Hp} {σ : St} {ρ : En} (s : SR K G σ ρ) : ∀ vs : List Nat, SR K G (wipe σ vs) (wipeA ρ vs)
  | [] => s
  | v :: vs => by
    have h := s.wipe vs
    unfold L2.wipe wipeA
    exact h.drop v none
/-- what the block makes of each item, one after the other; acc: what is made so far -/
def compL (g : AG) (c : ATT) (re : ATE) (vs : List Nat) : List D → List D → AW → En → Om → AQ → Prop
  | [], acc, _, _, Ω, Q => Q (.lst acc) Ω
  | x :: xs, acc, Wa, ρ, Ω, Q => g x (wipeA ρ vs) Ω fun ρ1 Ω1 => c Wa ρ1 Ω1 fun k Ω2 => if k = true then re Wa ρ1 Ω2 fun y Ω3 => acc.length < sizeLine ∧ compL g c re vs xs (acc ++ [y]) Wa ρ Ω3 Q else compL g c re vs xs acc Wa ρ Ω2 Q
abbrev W0 : WX := fun _ _ _ _ => False
abbrev Wa0 : AW := fun _ _ _ => False
/-- the block's step, from the state around -/
def CompI (K : PySem.W.Frag) (ca : CA) (ag : AG) (rc : ATT) (re : ATE) (vs : List Nat) (xs : List D) (ρ : En) (G : Hp) (own : Addr → Option Addr) (H : Hp) (D0 : Addr) (Q : AQ) (i : Nat) (H' : Hp) : Prop :=
  ∃ (G' : Hp) (own' : Addr → Option Addr) (Ω' : Om) (us : List V) (acc : List D), Stp G own H G' own' H' ∧ Rel K ca G' own' H' Ω' ∧ H' D0 = some (.lst us) ∧ own' D0 = none ∧ G' D0 = none ∧ DVs K G' us acc ∧ compL ag rc re vs (xs.drop i) acc Wa0 ρ Ω' Q
def Wip (g : TG) (vs : List Nat) : Prop := ∀ σ v H Q, g v (wipe σ vs) H Q → g v (wipe σ vs) H fun σ2 H2 => wipe σ2 vs = wipe σ vs ∧ Q σ2 H2
theorem wipe_set {y : Option V} : ∀ {vs : List Nat} {σ : St} {i : Nat}, wipe (σ.set i y) vs = if i ∈ vs then wipe σ vs else (wipe σ vs).set i y
  | [], σ, i => by simp [L2.wipe]
  | v :: vs, σ, i => by
    show (wipe (σ.set i y) vs).set v none = if i ∈ v :: vs then (wipe σ vs).set v none else ((wipe σ vs).set v none).set i y
    rw [wipe_set]
    by_cases h : i ∈ vs
    · rw [if_pos h, if_pos (List.mem_cons_of_mem _ h)]
    · rw [if_neg h]
      by_cases hv : i = v
      · subst hv
        rw [if_pos List.mem_cons_self, List.set_set]
      · rw [if_neg (by simp [hv, h]), List.set_comm _ _ hv]
theorem wipe_wipe : ∀ {vs ws : List Nat} {σ : St}, (∀ v ∈ vs, v ∈ ws) → wipe (wipe σ vs) ws = wipe σ ws
  | [], ws, σ, _ => rfl
  | v :: vs, ws, σ, h => by
    show wipe ((wipe σ vs).set v none) ws = wipe σ ws
    rw [wipe_set, if_pos (h v List.mem_cons_self)]
    exact wipe_wipe fun w hw => h w (List.mem_cons_of_mem _ hw)
theorem wip_name {i : Nat} {vs : List Nat} (h : i ∈ vs) : Wip (gName i) vs := fun σ v H Q q => ⟨by rw [wipe_set, if_pos h, wipe_wipe fun _ hv => hv], q⟩
theorem wip_names {vs : List Nat} {σ0 : St} : ∀ {is : List Nat}, (∀ i ∈ is, i ∈ vs) → ∀ σ xs H Q, wipe σ vs = σ0 → gNames is xs σ H Q → gNames is xs σ H fun σ2 H2 => wipe σ2 vs = σ0 ∧ Q σ2 H2
  | [], _, σ, xs, H, Q, e, h => ⟨h.1, e, h.2⟩
  | i :: is, hi, σ, xs, H, Q, e, h => by
    obtain ⟨v, r, ex, q⟩ := h
    refine ⟨v, r, ex, ?_⟩
    exact wip_names (is := is) (fun j hj => hi j (List.mem_cons_of_mem _ hj)) (σ.set i (some v)) r H Q (by rw [wipe_set, if_pos (hi i List.mem_cons_self)]; exact e) q
theorem wip_tup {K : PySem.W.Frag} {n : Nat} {is vs : List Nat} (h : ∀ i ∈ is, i ∈ vs) : Wip (gTup K n (gNames is)) vs := fun σ v H Q q => by
  obtain ⟨a, xs, e, hs, hl, q⟩ := q
  exact ⟨a, xs, e, hs, hl, wip_names h _ _ _ _ (wipe_wipe fun _ hv => hv) q⟩
theorem compI_turn {K : PySem.W.Frag} {ca : CA} {g : TG} {ag : AG} {tt : TT} {rc : ATT} {te : TE} {re : ATE} {vs : List Nat} {xs : List D} {ρ : En} {G H H' : Hp} {own : Addr → Option Addr} {σ : St} {D0 : Addr} {Q : AQ} {i : Nat} {x : D} {v : V}
    (hg : SimG K ca g ag) (hw : Wip g vs) (hc : SimT K ca W0 tt rc) (he : SimE K ca W0 te re) (s : SR K G σ ρ) (h0 : H D0 = none) (hx : xs[i]? = some x) (dv : DV K G v x) (p : CompI K ca ag rc re vs xs ρ G own H D0 Q i H') :
    g v (wipe σ vs) H' fun σ2 H2 => wipe σ2 vs = wipe σ vs ∧ tt σ2 H2 fun b H3 =>
      if b = true then te σ2 H3 fun y H4 => ∃ acc, H4 D0 = some (.lst acc) ∧ acc.length < sizeLine ∧ CompI K ca ag rc re vs xs ρ G own H D0 Q (i + 1) (upd H4 D0 (.lst (acc ++ [y]))) else CompI K ca ag rc re vs xs ρ G own H D0 Q (i + 1) H3 := by
  obtain ⟨G1, own1, Ω1, us, acc, e1, r1, h1, w1, g1, d1, q⟩ := p
  have hlt : i < xs.length := (List.getElem?_eq_some_iff.mp hx).1
  have hd : xs.drop i = x :: xs.drop (i + 1) := by
    rw [List.drop_eq_getElem_cons hlt]
    rw [(List.getElem?_eq_some_iff.mp hx).2]
  rw [hd] at q
  refine hw σ v H' _ (hg (wipe σ vs) H' G1 own1 (wipeA ρ vs) Ω1 v x _ _ r1 ((s.mono e1.same).wipe vs) (dv.mono e1.same) q fun σ2 H2 G2 own2 ρ2 Ω2 e2 r2 s2 q2 => ?_)
  have f2 := e2.fr D0 _ h1 w1 g1
  refine hc σ2 H2 G2 own2 ρ2 Ω2 Wa0 _ _ r2 s2 q2 (fun b H3 G3 own3 Ω3 e3 r3 q3 => ?_) fun _ _ _ _ _ _ _ z => z
  have f3 := e3.fr D0 _ f2.1 f2.2.1 f2.2.2
  cases b with
  | false =>
    rw [if_neg Bool.false_ne_true] at q3 ⊢
    exact ⟨G3, own3, Ω3, us, acc, (e1.trans e2).trans e3, r3, f3.1, f3.2.1, f3.2.2, d1.mono (e2.trans e3).same, q3⟩
  | true =>
    rw [if_pos rfl] at q3 ⊢
    refine he σ2 H3 G3 own3 ρ2 Ω3 Wa0 _ _ r3 (s2.mono e3.same) q3 (fun y H4 G4 own4 d Ω4 e4 r4 dv4 q4 => ?_) fun _ _ _ _ _ _ _ z => z
    have f4 := e4.fr D0 _ f3.1 f3.2.1 f3.2.2
    have ee := e2.trans (e3.trans e4)
    refine ⟨us, f4.1, by rw [d1.length]; exact q4.1, G4, own4, Ω4, us ++ [y], acc ++ [d], ?_, r4.privSet f4.1 (fun z => z) f4.2.2 f4.2.1, upd_same, f4.2.1, f4.2.2, (d1.mono ee.same).append (.cons dv4 .nil), q4.2⟩
    have e5 := e1.trans ee
    refine ⟨e5.same, fun b w hb n g => ?_⟩
    obtain ⟨z1, z2, z3⟩ := e5.fr b w hb n g
    exact ⟨by rw [upd_ne (ne_of_none hb h0)]; exact z1, z2, z3⟩
theorem compI_end {K : PySem.W.Frag} {ca : CA} {ag : AG} {rc : ATT} {re : ATE} {vs : List Nat} {xs : List D} {ρ : En} {G H H' : Hp} {own : Addr → Option Addr} {D0 : Addr} {Qa : AQ} {Qc : VK} {n : Nat} (hn : n = xs.length) (h0 : H D0 = none)
    (k : ∀ v H' G' own' d Ω', Stp G own H G' own' H' → Rel K ca G' own' H' Ω' → DV K G' v d → Qa d Ω' → Qc v H') (p : CompI K ca ag rc re vs xs ρ G own H D0 Qa n H') : Qc (.ref D0) H' := by
  obtain ⟨G1, own1, Ω1, us, acc, e1, r1, h1, w1, g1, d1, q⟩ := p
  rw [hn, List.drop_length] at q
  obtain ⟨r2, e2⟩ := r1.privData h1 g1 w1
  refine k _ _ _ _ _ _ ⟨e1.same.trans e2, fun b w hb n g => ?_⟩ r2 (.lst (SqL.of upd_same) (d1.mono e2)) q
  obtain ⟨z1, z2, z3⟩ := e1.fr b w hb n g
  exact ⟨z1, z2, by rw [upd_ne (ne_of_none hb h0)]; exact z3⟩
theorem compI_start {K : PySem.W.Frag} {ca : CA} {ag : AG} {rc : ATT} {re : ATE} {vs : List Nat} {xs : List D} {ρ : En} {G H : Hp} {own : Addr → Option Addr} {Ω : Om} {D0 : Addr} {Qa : AQ} (r : Rel K ca G own H Ω) (h0 : H D0 = none) (q : compL ag rc re vs xs [] Wa0 ρ Ω Qa) :
    CompI K ca ag rc re vs xs ρ G own H D0 Qa 0 (upd H D0 (.lst [])) :=
  ⟨G, uown own D0 none, Ω, [], [], stp_new h0, r.priv h0, upd_same, if_pos rfl, r.sub.free h0, .nil, q⟩
def aYes : ATT := fun _ _ Ω Q => Q true Ω
theorem sim_yes {K : PySem.W.Frag} {ca : CA} {W : WX} : SimT K ca W tYes aYes := fun σ H G own ρ Ω Wa Qa Qc r s h k _ => k _ _ _ _ _ Stp.refl r h
/-- [elt for tg in xs if ..], xs data -/
def aLc (ri : ATE) (g : AG) (c : ATT) (re : ATE) (vs : List Nat) : ATE := fun Wa ρ Ω Q => ri Wa ρ Ω fun d Ω1 => ∃ xs, d = .lst xs ∧ compL g c re vs xs [] Wa0 ρ Ω1 Q
theorem sim_lc {ti : TE} {ri : ATE} {g : TG} {ag : AG} {tt : TT} {rc : ATT} {K : PySem.W.Frag} {vs : List Nat} (hi : SimE K ca W ti ri) (hg : SimG K ca g ag) (hw : Wip g vs) (hc : SimT K ca W0 tt rc) (he : SimE K ca W0 te re) : SimE K ca W (tLc (iList K ti) g tt te vs) (aLc ri ag rc re vs) := fun σ H G own ρ Ω Wa Qa Qc r s h k kx =>
  hi σ H G own ρ Ω Wa _ _ r s h (fun v H1 G1 own1 d Ω1 e1 r1 dv1 q1 => by
    obtain ⟨xs, rfl, q⟩ := q1
    cases dv1 with
    | lst hq ds =>
      rename_i a us
      refine ⟨a, rfl, ⟨us, r1.sub.seq hq⟩, fun D0 h0 => lc_list (K := K) (a := a) (xs := us) (CompI K ca ag rc re vs xs ρ G1 own1 H1 D0 Qa) (compI_start r1 h0 q) (fun i H' _ p => ?_) (fun i x H' hx p => ?_) (fun H' p => compI_end ds.length h0 (fun v H' G' own' d Ω' e => k v H' G' own' d Ω' (e1.trans e)) p)⟩
      · obtain ⟨G2, own2, Ω2, _, _, e2, r2, _⟩ := p
        exact r2.sub.seq (e2.same.seq hq)
      · obtain ⟨d, hd, dv⟩ := ds.getV hx
        exact compI_turn hg hw hc he (s.mono e1.same) h0 hd dv p) kx
/-- over range(n) -/
def aLcR (ri : ATE) (g : AG) (c : ATT) (re : ATE) (vs : List Nat) : ATE := fun Wa ρ Ω Q => ri Wa ρ Ω fun d Ω1 => ∃ j : Int, d = .int j ∧ -(2 ^ 62) ≤ j ∧ j < 2 ^ 62 ∧ compL g c re vs (rngD 0 j.toNat) [] Wa0 ρ Ω1 Q
theorem sim_lcR {ti : TE} {ri : ATE} {g : TG} {ag : AG} {tt : TT} {rc : ATT} {K : PySem.W.Frag} {vs : List Nat} (hi : SimE K ca W ti ri) (hg : SimG K ca g ag) (hw : Wip g vs) (hc : SimT K ca W0 tt rc) (he : SimE K ca W0 te re) : SimE K ca W (tLc (iRng1 (tCons ti tNil)) g tt te vs) (aLcR ri ag rc re vs) := fun σ H G own ρ Ω Wa Qa Qc r s h k kx =>
  hi σ H G own ρ Ω Wa _ _ r s h (fun v H1 G1 own1 d Ω1 e1 r1 dv1 q1 => by
    obtain ⟨j, rfl, h1, h2, q⟩ := q1
    cases dv1
    exact ⟨j, rfl, h1, h2, fun D0 h0 => lc_range (lo := 0) (n := j.toNat) (CompI K ca ag rc re vs (rngD 0 j.toNat) ρ G1 own1 H1 D0 Qa) (compI_start r1 h0 q) (fun i H' hi' p => compI_turn hg hw hc he (s.mono e1.same) h0 (rngD_get hi') (.int _) p)
      (fun H' p => compI_end rngD_length.symm h0 (fun v H' G' own' d Ω' e => k v H' G' own' d Ω' (e1.trans e)) p)⟩) kx
variable {elt iter tg : Expr} {ifs : List Expr} {scope : Scope} {ownn : List (Str × Nat)} {ti : TE} {ri : ATE} {g : TG} {ag : AG} {tt : TT} {rc : ATT}
abbrev Blk (X : Cx) (scope : Scope) (s : Shared) (H : Hp) (C : Addr) (cl : List (Str × Addr)) (fp : List Addr) : Cx := X.blk s H scope (compEnvC scope cl C X.env) fp
theorem ae_lc (hc : X.calm = true) (hN : X.N.Nodup) (hi : AE X ca W iter ti ri) (ok : BlkOk X.N X.env.scope scope ownn) (hw : Wip g (ownn.map (·.2)))
    (hg : ∀ s H C cl fp, AGt (Blk X scope s H C cl fp) ca tg g ag) (he : ∀ s H C cl fp, AE (Blk X scope s H C cl fp) ca W0 elt te re) (hs : ∀ x, foldedSetIterable iter X.env x = pure x := by intro _; rfl) :
    AE X ca W (.ListComp elt [⟨tg, iter, [], 0⟩] scope pos) (tLc (iList X.K ti) g tYes te (ownn.map (·.2))) (aLc ri ag aYes re (ownn.map (·.2))) :=
  ⟨pe_lc hc hN (pi_list hi.pe) ok (fun s H C cl fp => (hg s H C cl fp).pe) (fun s H C cl fp => pts_nil) (fun s H C cl fp => (he s H C cl fp).pe) hs,
    sim_lc hi.sim (hg X.s_0 (fun _ => none) 0 [] []).sim hw sim_yes (he X.s_0 (fun _ => none) 0 [] []).sim⟩
end
structure Dfn (K : PySem.W.Frag) (mg : Str → Option Value) (x qual : Str) (st : Stmt) (ps : List Str) : Prop where
  ex : ∃ f fd, Fun K x qual st f fd ∧ mg x = some (.ref f) ∧ Binds K fd ps []
abbrev Rm (k : Nat) (A : Around) : Prop := Room (k + 32) A
structure Clb (P : Program) (w : World) (K : PySem.W.Frag) (mg : Str → Option Value) (base : Heap) (ca : CA) (k : Nat) (x : Str) (F : AF) : Prop where
  ex : ∃ f fd ps, FnOk P w K mg base (L2.CX P w) (k + 32) f fd ps (spA K ca F) ∧ mg x = some (.ref f) ∧ PySem.W.keepIn K (.ref f) = true ∧ Binds K fd ps []
section
variable {P : Program} {w : World} {K : PySem.W.Frag} {mg : Str → Option Value} {base : Heap} {ca : CA}
theorem clb {x qual : Str} {st : Stmt} {N ps : List Str} {k : Nat} {Fa : AF} (d : Dfn K mg x qual st ps) (S : FnScope N ps (defScope st)) (len : ∀ ds Ω Q E, Fa ds Ω Q E → ds.length = ps.length)
    (h : ∀ (f : Addr) (cdv : Value) (A : Around) (outer : List Env) (s : Shared) (H : Hp) (E : XK), Rm k (A.deeper (PyProof.Rows.envOfC qual (defScope st) s.heap.objs.size f cdv)) →
      ∃ ts ta, ASs (cxOf (L2.CX P w) P w K mg base N qual (defScope st) f cdv A outer s H E) ca (WD E) (defBody st) ts ta ∧
        ∀ ds Ω Qa Ea, Fa ds Ω Qa Ea → ta (fun cls _ Ω' => Ea cls Ω') { nx := fun _ Ω' => Qa .non Ω', rt := Qa } (astart N ds) Ω) : Clb P w K mg base ca (k + 1) x Fa := by
  obtain ⟨f, fd, F, m, b⟩ := d.ex
  exact ⟨f, fd, ps, (okA F S len (h f)).mono (by omega), m, F.kp, b⟩
theorem Clb.imp {k : Nat} {x : Str} {F F' : AF} (c : Clb P w K mg base ca k x F) (h : ∀ vs H Q E, spA K ca F' vs H Q E → spA K ca F vs H Q E) : Clb P w K mg base ca k x F' := by
  obtain ⟨f, fd, ps, G, r⟩ := c.ex
  exact ⟨f, fd, ps, G.imp h, r⟩
theorem Clb.mono {j k : Nat} {x : Str} {F : AF} (c : Clb P w K mg base ca j x F) (h : j ≤ k) : Clb P w K mg base ca k x F := by
  obtain ⟨f, fd, ps, G, r⟩ := c.ex
  exact ⟨f, fd, ps, G.mono (Nat.add_le_add_right h 32), r⟩
/-- a stronger wish -/
theorem spA_imp {F F' : AF} (h : ∀ ds Ω Q E, F' ds Ω Q E → F ds Ω Q E) : ∀ vs H Q E, spA K ca F' vs H Q E → spA K ca F vs H Q E := fun vs H Q E ⟨G, own, Ω, ds, Qa, Ea, r, dv, f, k1, k2⟩ => ⟨G, own, Ω, ds, Qa, Ea, r, dv, h _ _ _ _ f, k1, k2⟩
end
theorem ae_call {X : Cx} {ca : CA} {W : WX} {e : Expr} {es : List Expr} {tr : TA} {rr : ATA} {pos p : Pos} {k j : Nat} {x : Str} {F : AF} (c : Clb X.prog X.w X.K X.mg X.base ca k x F) (hr : Rm j X.A) (tk : Takes X W) (hk : k ≤ j) (ha : AA X ca W (e :: es) tr rr)
    (hg : Gl X x := by rfl) (hdb : (x == ("__debug__" : Str)) = false := by decide) (he : starEach (e :: es) X.env = (false, eval e X.env) :: starEach es X.env := by rfl) (hpl : (backTo pos (starEach es X.env)).any (·.1) = false := by rfl) :
    AE X ca W (.Call (.Name x p) (e :: es) [] pos) (tCallS (spA X.K ca F) (WE W) tr) (aFn F rr) := by
  obtain ⟨f, fd, ps, G, m, kp, b⟩ := c.ex
  exact ae_fn G (Room.mono hr (Nat.add_le_add_right hk 32)) m kp b tk ha hg hdb he hpl
/-- a word between a statement and the rest -/
def aCut (t u : ATS) : ATS := fun Wa Da ρ Ω => ∃ Mid : En → Om → Prop, t Wa { Da with nx := Mid } ρ Ω ∧ ∀ ρ' Ω', Mid ρ' Ω' → u Wa Da ρ' Ω'
theorem ass_cut {X : Cx} {ca : CA} {W : WX} {st : Stmt} {rest : List Stmt} {ts tu : TS} {rs ru : ATS} (h1 : AS X ca W st ts rs) (h2 : ASs X ca W rest tu ru) : ASs X ca W (st :: rest) (Evl.tCut ts tu) (aCut rs ru) := ⟨Evl.pss_cut h1.pe h2.pe, fun σ H G own ρ Ω Wa Da Dc r s h k => by
  obtain ⟨Mid, m1, m2⟩ := h
  refine ⟨fun σ' H' => ∃ G' own' ρ' Ω', Stp G own H G' own' H' ∧ Rel X.K ca G' own' H' Ω' ∧ SR X.K G' σ' ρ' ∧ Mid ρ' Ω', ?_, ?_⟩
  · exact h1.sim σ H G own ρ Ω Wa _ _ r s m1 ⟨fun σ' H' G' own' ρ' Ω' e r' s' q => ⟨G', own', ρ', Ω', e, r', s', q⟩, k.rt, k.bk, k.ct, k.ex⟩
  · rintro σ' H' ⟨G', own', ρ', Ω', e, r', s', q⟩
    exact h2.sim σ' H' G' own' ρ' Ω' Wa Da Dc r' s' (m2 ρ' Ω' q) (k.mono e)⟩
theorem dfn {K : PySem.W.Frag} {h : Heap} {mg : Str → Option Value} {x : Str} {st : Stmt} {ps : List Str} {f : Addr} {oc : Value} {od an : Option Addr} {osl : Array (Option Value)} {kV doc pm cdv ct : Value} (X : K.In h) (G : h.Ns mainGlobals mg)
    (a : PySem.W.nsIn K mainGlobals x = some (some (.ref f))) (l : K.lookup f = some ⟨oc, od, .func (PySem.W.fnOf x x (defArgs st) (defBody st) (defScope st) .none kV doc pm an cdv ct), osl⟩) (c : PySem.W.codeIn K cdv x = true) (k : PySem.W.keepIn K (.ref f) = true)
    (hb : ∀ (kV doc pm : Value) (an : Option Addr) (cdv ct : Value) (us : List Value), us.length = ps.length → bindArgs (PySem.W.fnOf x x (defArgs st) (defBody st) (defScope st) .none kV doc pm an cdv ct) ⟨us, []⟩ = pure (ps.zip us)) : Dfn K mg x x st ps :=
  ⟨f, _, fun_mk (st := st) l c k, PySem.W.mg_of X G a, (fun_mk (st := st) l c k).binds hb⟩
def F_law : AF := fun ds Ω Q _ => ∃ ns : List Int, ds = [.lst (ns.map D.int)] ∧ ns.length ≤ 63 ∧ ∀ Ω', Q (.bl true) Ω'
theorem law_len : ∀ ds Ω Q E, F_law ds Ω Q E → ds.length = (["_law_script"] : List Str).length := by
  rintro ds Ω Q E ⟨ns, rfl, _⟩
  rfl
theorem only_rel {K : PySem.W.Frag} {ca : CA} {H : Hp} : Rel K ca H (fun _ => none) H (fun _ => none) := ⟨Same.refl _, fun _ _ _ => rfl, fun _ _ e => by cases e⟩
theorem atI_eq {α : Type} {xs : List α} (n : Nat) : atI xs (n : Int) = xs[n]? := by
  cases h : xs[n]? with
  | some v => exact atI_nat h
  | none =>
    have hl : xs.length ≤ n := List.getElem?_eq_none_iff.mp h
    unfold atI ixN
    rw [if_pos (by omega), if_neg (by omega)]
    rfl
theorem at_0 {α : Type} {xs : List α} : atI xs 0 = xs[0]? := atI_eq 0
theorem at_1 {α : Type} {xs : List α} : atI xs 1 = xs[1]? := atI_eq 1
theorem at_2 {α : Type} {xs : List α} : atI xs 2 = xs[2]? := atI_eq 2
theorem at_3 {α : Type} {xs : List α} : atI xs 3 = xs[3]? := atI_eq 3
theorem at_l {α : Type} {xs : List α} : atI xs (-1) = xs.getLast? := by
  rcases List.eq_nil_or_concat xs with rfl | ⟨ys, y, rfl⟩
  · rfl
  · rw [List.concat_eq_append, atI_last, List.getLast?_concat]
theorem ix_40 : ixN 4 0 = some 0 := by decide
theorem ix_41 : ixN 4 1 = some 1 := by decide
theorem ix_42 : ixN 4 2 = some 2 := by decide
theorem ix_43 : ixN 4 3 = some 3 := by decide
theorem atI_int {ns : List Int} {i : Int} (h0 : 0 ≤ i) (h : i < ns.length) : ∃ v, v ∈ ns ∧ atI (ns.map D.int) i = some (.int v) := by
  obtain ⟨n, rfl⟩ := Int.eq_ofNat_of_zero_le h0
  have hl : n < ns.length := by omega
  refine ⟨ns[n], List.getElem_mem hl, ?_⟩
  rw [atI_eq, List.getElem?_map, List.getElem?_eq_getElem hl]
  rfl
theorem seq_lst {Ω : Om} {xs : List D} : (D.lst xs).seq Ω = some xs := rfl
theorem seq_tup {Ω : Om} {xs : List D} : (D.tup xs).seq Ω = some xs := rfl
theorem seq_o {Ω : Om} {a : Addr} {xs : List D} (h : Ω a = some (.lst xs)) : (D.o a).seq Ω = some xs := by simp only [D.seq, h]
theorem ty_int {Ω : Om} {i : Int} : (D.int i).ty Ω = some "int" := rfl
theorem ty_bl {Ω : Om} {i : Bool} : (D.bl i).ty Ω = some "bool" := rfl
theorem ty_str {Ω : Om} {i : Str} : (D.str i).ty Ω = some "str" := rfl
theorem ty_tup {Ω : Om} {i : List D} : (D.tup i).ty Ω = some "tuple" := rfl
theorem ty_lst {Ω : Om} {i : List D} : (D.lst i).ty Ω = some "list" := rfl
theorem ty_non {Ω : Om} : D.non.ty Ω = some "NoneType" := rfl
theorem isT_ii : isT "int" "int" = some true := by decide +kernel
theorem isT_ib : isT "int" "bool" = some false := by decide +kernel
theorem isT_bi : isT "bool" "int" = some true := by decide +kernel
theorem isT_bb : isT "bool" "bool" = some true := by decide +kernel
theorem isT_tt : isT "tuple" "tuple" = some true := by decide +kernel
theorem isT_ss : isT "str" "str" = some true := by decide +kernel
theorem isT_ll : isT "list" "list" = some true := by decide +kernel
theorem nopy {i j : Int} (h : j ≠ 0) (_ : j.natAbs < 2 ^ 8000) : NoPy i j := h
theorem mulok {i j : Int} {a b : Nat} (hi : i.natAbs < 2 ^ a) (hj : j.natAbs < 2 ^ b) (h : a + b ≤ 900000) : IntMulOk i j :=
  (wide_mul (a := a + 1) (b := b + 1) (Nat.lt_of_lt_of_le hi (Nat.pow_le_pow_right (by decide) (by omega))) (Nat.lt_of_lt_of_le hj (Nat.pow_le_pow_right (by decide) (by omega))) (by omega) (by omega) (by omega)).ok
theorem mulok_r {i j : Int} (h1 : -(2 ^ 64) < j) (h2 : j < 2 ^ 64) : IntMulOk i j := .of_right (intBits_le_64 h1 h2)
theorem mulok_l {i j : Int} (h1 : -(2 ^ 64) < i) (h2 : i < 2 ^ 64) : IntMulOk i j := .of_left (intBits_le_64 h1 h2)
theorem bits_le {n : Int} {b : Nat} (h : n.natAbs < 2 ^ b) : Builtin.Int.intBits n ≤ b := by
  unfold Builtin.Int.intBits
  split
  · omega
  · rename_i h0
    have : n.natAbs.log2 < b := (Nat.log2_lt (by simpa using h0)).mpr h
    omega
theorem lt_bits {n : Int} : n.natAbs < 2 ^ Builtin.Int.intBits n := by
  unfold Builtin.Int.intBits
  split
  · rename_i h0
    have : n = 0 := by simpa using h0
    subst this
    decide
  · exact Nat.lt_log2_self
end PL
namespace PL
open PySem L2
section
variable {X : Cx} {ca : CA} {W : WX} {a b c e : Expr} {es : List Expr} {ta tb tc te : TE} {ra rb rc re : ATE} {tr : TA} {rr : ATA} {pos : Pos} {st : Stmt} {ts : TS} {rs : ATS}
def rCatL (K : PySem.W.Frag) : R2 := fun x y H Q => ∃ l b xs zs, x = .ref l ∧ y = .ref b ∧ SqL K H l xs ∧ SqL K H b zs ∧ xs.length + zs.length ≤ sizeLine ∧ ∀ p, H p = none → Q (.ref p) (upd H p (.lst (xs ++ zs)))
theorem op_catL : OpR X (binaryOp .Add) (rCatL X.K) := by
  intro pins s σ H x y v u Q I rx ry h
  obtain ⟨l, b, xs, zs, rfl, rfl, hH, hB, hz, q⟩ := h
  cases rx
  cases ry
  obtain ⟨its, r, p1, _⟩ := I.list hH
  obtain ⟨its2, r2, p2, _⟩ := I.list hB
  obtain ⟨⟨cls, dd, data, sl⟩, n, ho, hc, _, hd⟩ := p1
  obtain ⟨⟨cls2, dd2, data2, sl2⟩, n2, ho2, hc2, _, hd2⟩ := p2
  simp only at hc hd hc2 hd2
  subst hc hd hc2 hd2
  have hl := r.length
  have hl2 := r2.length
  have ea : its.toArray ++ its2.toArray = (its ++ its2).toArray := by simp
  refine PySem.concat_meets ⟨_, ho, rfl⟩ ⟨_, ho2, rfl⟩ noFill_list_add seq_list_add PySem.F.slot_list_add PySem.F.entry_list_add (PySem.F.args_list_add_2 _ _) (PyProof.Rows.list_addW l b its.toArray its2.toArray n n2 dd dd2 sl sl2 (by rw [List.size_toArray, List.size_toArray]; omega)) ⟨ho, ho2, ?_⟩
  rw [ea]
  exact ⟨.ref _, _, I.lnew (t' := s.toks) (r.append r2) (by rw [List.length_append]; omega), rfl, q _ I.fresh⟩
/-- the items of a list: data, or ours -/
def D.lseq (Ω : Om) : D → Option (List D)
  | .lst xs => some xs
  | .o a => match Ω a with
    | some (.lst xs) => some xs
    | _ => none
  | _ => none
theorem lseq_lst {Ω : Om} {xs : List D} : (D.lst xs).lseq Ω = some xs := rfl
theorem lseq_o {Ω : Om} {a : Addr} {xs : List D} (h : Ω a = some (.lst xs)) : (D.o a).lseq Ω = some xs := by simp only [D.lseq, h]
theorem lseq_of {K : PySem.W.Frag} {G H : Hp} {own : Addr → Option Addr} {Ω : Om} {v : V} {x : D} {xs : List D} (r : Rel K ca G own H Ω) (dv : DV K G v x) (h : x.lseq Ω = some xs) : ∃ p vs, v = .ref p ∧ DVs K G vs xs ∧ SqL K H p vs := by
  cases dv with
  | lst a b => simp only [D.lseq, Option.some.injEq] at h; subst h; exact ⟨_, _, rfl, b, r.sub.seq a⟩
  | o a =>
    cases q : Ω a with
    | none => simp only [D.lseq, q] at h; cases h
    | some u =>
      cases u with
      | lst ys =>
        simp only [D.lseq, q, Option.some.injEq] at h; subst h
        obtain ⟨vs, hv, dv⟩ := r.lstAt q
        exact ⟨_, vs, rfl, dv, SqL.of hv⟩
      | row => simp only [D.lseq, q] at h; cases h
      | dic _ => simp only [D.lseq, q] at h; cases h
      | dit _ => simp only [D.lseq, q] at h; cases h
      | obj _ _ => simp only [D.lseq, q] at h; cases h
  | _ => simp [D.lseq] at h
def fCatL : D → D → Om → AQ → Prop := fun x y Ω Q => ∃ xs ys, x.lseq Ω = some xs ∧ y.lseq Ω = some ys ∧ xs.length + ys.length ≤ sizeLine ∧ Q (.lst (xs ++ ys)) Ω
def fCatO : D → D → Om → AQ → Prop := fun x y Ω Q => ∃ xs ys, x.lseq Ω = some xs ∧ y.lseq Ω = some ys ∧ xs.length + ys.length ≤ sizeLine ∧ ∀ p, Ω p = none → Q (.o p) (oset Ω p (.lst (xs ++ ys)))
def fCatT : D → D → Om → AQ → Prop := fun x y Ω Q => ∃ xs ys, x = .tup xs ∧ y = .tup ys ∧ xs.length + ys.length ≤ sizeLine ∧ Q (.tup (xs ++ ys)) Ω
theorem simr_catL {K : PySem.W.Frag} : SimR K ca (rCatL K) fCatL := by
  intro H G own Ω x y v w Qa Qc r dx dy h k
  obtain ⟨xs, ys, hx, hy, hz, q⟩ := h
  obtain ⟨p1, vs, rfl, d1, s1⟩ := lseq_of r dx hx
  obtain ⟨p2, us, rfl, d2, s2⟩ := lseq_of r dy hy
  refine ⟨p1, p2, vs, us, rfl, rfl, s1, s2, by rw [d1.length, d2.length]; exact hz, fun p hp => ?_⟩
  obtain ⟨r4, e4⟩ := r.data (u := .lst (vs ++ us)) hp
  exact k _ _ _ _ _ _ (stp_data e4 hp) r4 (.lst (SqL.of upd_same) ((d1.append d2).mono e4)) q
theorem DVs.nil_iff {K : PySem.W.Frag} {G : Hp} {vs : List V} {ds : List D} (h : DVs K G vs ds) : vs = [] ↔ ds = [] := by
  cases h with
  | nil => simp
  | cons _ _ => simp
theorem simr_catT {K : PySem.W.Frag} : SimR K ca (rCatA K) fCatT := by
  intro H G own Ω x y v w Qa Qc r dx dy h k
  obtain ⟨xs, ys, rfl, rfl, hz, q⟩ := h
  cases dx with
  | tup a1 b1 =>
    cases dy with
    | tup a2 b2 =>
      refine ⟨_, _, _, _, rfl, rfl, same_seqT r.sub a1, same_seqT r.sub a2, by rw [b1.length, b2.length]; exact hz, fun e => ?_, fun _ e => ?_, fun _ _ p hp => ?_⟩
      · have e' := b1.nil_iff.mp e
        subst e'
        exact k _ _ _ _ _ _ Stp.refl r (.tup a2 b2) q
      · have e' := b2.nil_iff.mp e
        subst e'
        rw [List.append_nil] at q
        exact k _ _ _ _ _ _ Stp.refl r (.tup a1 b1) q
      · obtain ⟨r4, e4⟩ := r.data (u := .tup _) hp
        exact k _ _ _ _ _ _ (stp_data e4 hp) r4 (.tup (SqT.of upd_same) ((b1.append b2).mono e4)) q
def aCatL := aOp fCatL
def aCatO := aOp fCatO
def aCatT := aOp fCatT
theorem ae_catL (ha : AE X ca W a ta ra) (hb : AE X ca W b tb rb) : AE X ca W (.BinOp a .Add b pos) (tOp (rCatL X.K) ta tb) (aCatL ra rb) := ⟨pe_op op_catL ha.pe hb.pe, sim_op simr_catL ha.sim hb.sim⟩
theorem ae_catT (ha : AE X ca W a ta ra) (hb : AE X ca W b tb rb) : AE X ca W (.BinOp a .Add b pos) (tOp (rCatA X.K) ta tb) (aCatT ra rb) := ⟨pe_op op_catA ha.pe hb.pe, sim_op simr_catT ha.sim hb.sim⟩
def aFrz (i : Nat) (rs : ATS) : ATS := fun Wa Da ρ Ω => ∃ a xs, ρ[i]? = some (some (.o a)) ∧ Ω a = some (.lst xs) ∧ rs Wa Da (ρ.set i (some (.lst xs))) (odel Ω a)
theorem as_frz (i : Nat) (h : AS X ca W st ts rs) : AS X ca W st ts (aFrz i rs) := ⟨h.pe, fun σ H G own ρ Ω Wa Da Dc r s h' k => by
  obtain ⟨a, xs, hi, ho, q⟩ := h'
  obtain ⟨v, hv, dv⟩ := s.get i _ hi
  cases dv
  obtain ⟨G', own', e, en, r', dv'⟩ := r.freeze ho
  have e' : Stp G own H G' own' H := ⟨e, fun b u hb n g => ⟨hb, en b n g⟩⟩
  have s' : SR X.K G' σ (ρ.set i (some (.lst xs))) := by
    have z := (s.mono e).set i dv'
    rwa [show σ.set i (some (V.ref a)) = σ from by
      obtain ⟨h1, h2⟩ := List.getElem?_eq_some_iff.mp hv
      rw [← h2]
      exact List.set_getElem_self h1] at z
  exact h.sim σ H G' own' _ _ Wa Da Dc r' s' q (k.mono e')⟩
def aForRev (re : ATE) (g : AG) (b : ATS) : ATS := fun Wa Da ρ Ω => re Wa ρ Ω fun d Ω1 => ∃ xs, d = .lst xs ∧ forL g b xs.reverse Wa Da ρ Ω1
def aChain (f f' : D → D → Om → AQ → Prop) (ra rb rc : ATE) : ATE := fun Wa ρ Ω Q => ra Wa ρ Ω fun x Ω1 => rb Wa ρ Ω1 fun y Ω2 => f x y Ω2 fun z Ω3 => ∃ k, z = .bl k ∧ (if k = true then rc Wa ρ Ω3 fun w Ω4 => f' y w Ω4 Q else Q (.bl false) Ω3)
theorem sim_chain {K : PySem.W.Frag} {r r' : R2} {f f' : D → D → Om → AQ → Prop} (hf : SimR K ca r f) (hf' : SimR K ca r' f') (sa : SimE K ca W ta ra) (sb : SimE K ca W tb rb) (sc : SimE K ca W tc rc) : SimE K ca W (tChain r r' ta tb tc) (aChain f f' ra rb rc) := fun σ H G own ρ Ω Wa Qa Qc r s h' k kx =>
  sa σ H G own ρ Ω Wa _ _ r s h' (fun v H1 G1 own1 d Ω1 e1 r1 dv1 q1 => sb σ H1 G1 own1 ρ Ω1 Wa _ _ r1 (s.mono e1.same) q1 (fun w H2 G2 own2 d2 Ω2 e2 r2 dv2 q2 =>
    hf H2 G2 own2 Ω2 d d2 v w _ _ r2 (dv1.mono e2.same) dv2 q2 fun z H3 G3 own3 d3 Ω3 e3 r3 dv3 q3 => by
      obtain ⟨b, rfl, q⟩ := q3
      cases dv3
      refine ⟨b, rfl, ?_⟩
      cases b with
      | true => exact sc σ H3 G3 own3 ρ Ω3 Wa _ _ r3 (s.mono ((e1.trans e2).trans e3).same) q (fun u H4 G4 own4 d4 Ω4 e4 r4 dv4 q4 => hf' H4 G4 own4 Ω4 d2 d4 w u Qa Qc r4 (dv2.mono (e3.trans e4).same) dv4 q4 fun v5 H5 G5 own5 d5 Ω5 e5 => k v5 H5 G5 own5 d5 Ω5 ((((e1.trans e2).trans e3).trans e4).trans e5)) (((kx.mono e1).mono e2).mono e3)
      | false => exact k _ _ _ _ _ _ ((e1.trans e2).trans e3) r3 (.bl _) q) (kx.mono e1)) kx
def fLt := fB fun i j => decide (i < j)
def fLe := fB fun i j => decide (i ≤ j)
theorem ae_leLe (ha : AE X ca W a ta ra) (hb : AE X ca W b tb rb) (hc : AE X ca W c tc rc) (hm : lastMarks [.LtE, .LtE] [b, c] = false := by with_unfolding_all rfl) : AE X ca W (.Compare a [.LtE, .LtE] [b, c] pos) (tChain (rI0 fun i j => .bl (decide (i ≤ j))) (rI0 fun i j => .bl (decide (i ≤ j))) ta tb tc) (aChain fLe fLe ra rb rc) := ⟨pe_chain op_le op_le ha.pe hb.pe hc.pe hm, sim_chain simr_B simr_B ha.sim hb.sim hc.sim⟩
variable {elt iter tg : Expr} {scope : Scope} {ownn : List (Str × Nat)} {ti : TE} {ri : ATE} {g : TG} {ag : AG} {tt : TT} {rt : ATT}
theorem as_setLcR {i : Nat} {y : Str} {py spos p p2 : Pos} (hc : X.calm = true) (hN : X.N.Nodup) (hy : X.N[i]? = some y) (hyl : X.env.scope.names.lookup y = some .local)
    (hsw : swapsWith (.ListComp elt [⟨tg, .Call (.Name "range" p) [a] [] p2, [], 0⟩] scope pos) (some (.Name y py)) spos.line X.env = pure true) (hgl : Gl X "range") (hm : X.mg "range" = none) (hi : AE X ca W a ti ri) (ok : BlkOk X.N X.env.scope scope ownn) (hw : Wip g (ownn.map (·.2)))
    (hg : ∀ s H C cl fp, AGt (Blk X scope s H C cl fp) ca tg g ag) (he : ∀ s H C cl fp, AE (Blk X scope s H C cl fp) ca W0 elt te re)
    (hs1 : starEach [a] X.env = (false, eval a X.env) :: starEach [] X.env := by rfl) (hs2 : starEach [a] X.env = [(false, eval a X.env)] := by rfl) (hs : ∀ x, foldedSetIterable (.Call (.Name "range" p) [a] [] p2) X.env x = pure x := by intro _; rfl) :
    AS X ca W (.Assign [.Name y py] (.ListComp elt [⟨tg, .Call (.Name "range" p) [a] [] p2, [], 0⟩] scope pos) spos) (tAsg (tLc (iRng1 (tCons ti tNil)) g tYes te (ownn.map (·.2))) (gName i)) (aSet i (aLcR ri ag aYes re (ownn.map (·.2)))) :=
  ⟨ps_setLc hc hN hy hyl hsw (pi_range1 hgl hm (pa_cons hi.pe pa_nil hs1) hs2) ok (fun s H C cl fp => (hg s H C cl fp).pe) (fun s H C cl fp => pts_nil) (fun s H C cl fp => (he s H C cl fp).pe) hs,
    sim_asg (sim_lcR hi.sim (hg X.s_0 (fun _ => none) 0 [] []).sim hw sim_yes (he X.s_0 (fun _ => none) 0 [] []).sim) simg_name⟩
theorem boot_min' : bootBuiltins "min" = some (.builtin "min") := by decide +kernel
def fMin : List D → Om → AQ → Prop := fun xs Ω Q => ∃ ns : List Int, xs = [.lst (ns.map D.int)] ∧ 0 < ns.length ∧ ∀ m, m ∈ ns → (∀ y, y ∈ ns → m ≤ y) → Q (.int m) Ω
theorem ae_min {p : Pos} (hg : Gl X "min") (hm : X.mg "min" = none) (hc : X.calm = true) (ha : AE X ca W e te re) (hs : starEach [e] X.env = (false, eval e X.env) :: starEach [] X.env := by rfl) : AE X ca W (.Call (.Name "min" p) [e] [] pos) (tCB (rMin X.K) (tCons te tNil)) (aCall fMin (aCons re aNil)) :=
  ae_callB (cr_min hc) (by
    intro H G own Ω xs vs Qa Qc r d h k
    obtain ⟨ns, rfl, hn, q⟩ := h
    obtain ⟨v, rfl, dv⟩ := dv1 d
    cases dv with
    | lst a b =>
      rw [b.ints] at a
      exact ⟨_, ns, rfl, r.sub.seq a, hn, fun m h1 h2 => k _ _ _ _ _ _ Stp.refl r (.int m) (q m h1 h2)⟩) hg hm boot_min' (aa_cons ha aa_nil hs) (by decide) (by decide) hs
end
end PL
namespace PL
open PySem L2
theorem small1000' {n : Nat} (h : n ≤ 100000) : n < sizeLine := Nat.lt_of_le_of_lt h (show 100000 < sizeLine by rw [sizeLine_eq]; decide)
end PL
namespace PL
open PySem L2
mutual
def D.fits : Nat → D → Bool
  | _, .non => true
  | _, .bl _ => true
  | _, .int _ => true
  | _, .str x => (PyData.str x).canLay0
  | 0, .tup _ => false
  | n + 1, .tup xs => D.fitsAll n xs
  | 0, .lst _ => false
  | n + 1, .lst xs => D.fitsAll n xs
  | _, .o _ => false
def D.fitsAll : Nat → List D → Bool
  | _, [] => true
  | n, x :: xs => D.fits n x && D.fitsAll n xs
end
mutual
theorem D.fits_py : ∀ (n : Nat) (d : D), D.fits n d = true → ∃ p, D.py d = some p ∧ PyData.eqv p p = true ∧ p.canLay0 = true ∧ p.depth ≤ n
  | _, .non, _ => ⟨_, rfl, by simp [PyData.eqv], rfl, by simp [PyData.depth]⟩
  | _, .bl _, _ => ⟨_, rfl, by simp [PyData.eqv], rfl, by simp [PyData.depth]⟩
  | _, .int _, _ => ⟨_, rfl, by simp [PyData.eqv], rfl, by simp [PyData.depth]⟩
  | _, .str _, h => ⟨_, rfl, by simp [PyData.eqv], by simpa only [D.fits] using h, by simp [PyData.depth]⟩
  | 0, .tup _, h => nomatch h
  | n + 1, .tup xs, h => by
    obtain ⟨ps, e1, e2, e3, e4⟩ := D.fitsAll_py n xs (by simpa only [D.fits] using h)
    exact ⟨.tuple ps, by simp only [D.py, e1, Option.map_some], by simp only [PyData.eqv, e2], by simp only [PyData.canLay0, e3], by simp only [PyData.depth]; omega⟩
  | 0, .lst _, h => nomatch h
  | n + 1, .lst xs, h => by
    obtain ⟨ps, e1, e2, e3, e4⟩ := D.fitsAll_py n xs (by simpa only [D.fits] using h)
    exact ⟨.list ps, by simp only [D.py, e1, Option.map_some], by simp only [PyData.eqv, e2], by simp only [PyData.canLay0, e3], by simp only [PyData.depth]; omega⟩
  | _, .o _, h => nomatch h
theorem D.fitsAll_py : ∀ (n : Nat) (ds : List D), D.fitsAll n ds = true → ∃ ps, D.pys ds = some ps ∧ PyData.eqvAll ps ps = true ∧ PyData.canLayAll0 ps = true ∧ PyData.depthAll ps ≤ n
  | _, [], _ => ⟨[], rfl, by simp [PyData.eqvAll], rfl, by simp [PyData.depthAll]⟩
  | n, x :: xs, h => by
    simp only [D.fitsAll, Bool.and_eq_true] at h
    obtain ⟨p, e1, e2, e3, e4⟩ := D.fits_py n x h.1
    obtain ⟨ps, f1, f2, f3, f4⟩ := D.fitsAll_py n xs h.2
    exact ⟨p :: ps, by simp only [D.pys, e1, f1], by simp only [PyData.eqvAll, e2, f2, Bool.and_self], by simp only [PyData.canLayAll0, e3, f3, Bool.and_self], by simp only [PyData.depthAll]; omega⟩
end
theorem fEq_refl {neg : Bool} {d : D} {Ω : Om} {Q : AQ} (h : D.fits 60 d = true) (k : Q (.bl (!neg)) Ω) : fEq neg d d Ω Q := by
  obtain ⟨p, e1, e2, e3, e4⟩ := D.fits_py _ _ h
  have s : SeqAt.shaped p = true := by
    unfold SeqAt.shaped
    rw [e3, Bool.true_and]
    exact decide_eq_true (by omega)
  refine ⟨p, p, e1, e1, s, s, ?_⟩
  cases neg
  · simp only [Bool.false_eq_true, if_false, e2]; exact k
  · simp only [if_true, e2]; exact k
theorem fits_map {α : Type} {f : α → D} {n : Nat} (h : ∀ x, D.fits n (f x) = true) : ∀ xs : List α, D.fitsAll n (xs.map f) = true
  | [] => rfl
  | x :: xs => by rw [List.map_cons, D.fitsAll, h x, fits_map h xs]; rfl
theorem fits_ints {n : Nat} {xs : List Int} : D.fits (n + 1) (.lst (xs.map D.int)) = true := by
  simp only [D.fits]
  exact fits_map (fun _ => by simp only [D.fits]) xs
/-- a loop over a list, by induction over what is left -/
theorem forL_ind {g : AG} {b : ATS} {Wa : AW} {Da : AEnds} {xs : List D} {ρ : En} {Ω : Om} (P : List D → En → Om → Prop) (h : P xs ρ Ω) (hn : ∀ ρ Ω, P [] ρ Ω → Da.nx ρ Ω)
    (hc : ∀ x us ρ Ω (De : AEnds), De.rt = Da.rt → (∀ ρ' Ω', P us ρ' Ω' → De.nx ρ' Ω') → (∀ ρ' Ω', P us ρ' Ω' → De.ct ρ' Ω') → De.bk = Da.nx → P (x :: us) ρ Ω → g x ρ Ω fun ρ1 Ω1 => b Wa De ρ1 Ω1) : forL g b xs Wa Da ρ Ω := by
  induction xs generalizing ρ Ω with
  | nil => exact hn _ _ h
  | cons x us ih => exact hc x us ρ Ω _ rfl (fun ρ' Ω' p => ih p) (fun ρ' Ω' p => ih p) rfl h
theorem AE.cast {X : Cx} {ca : CA} {W : WX} {e : Expr} {te te' : TE} {re : ATE} (h : AE X ca W e te' re) (h1 : te' = te) : AE X ca W e te re := h1 ▸ h
end PL
namespace PL
theorem fmod_neg' {t b : Int} (h : b < 0) : b < t.fmod b ∧ t.fmod b ≤ 0 := by
  have e := Int.mul_fdiv_add_fmod t b
  have e' := Int.mul_fdiv_add_fmod (-t) (-b)
  have e1 : (-t).fdiv (-b) = t.fdiv b := by simp
  rw [e1, Int.neg_mul] at e'
  have h2 : (-t).fmod (-b) < -b := Int.fmod_lt_of_pos _ (by omega)
  have h3 : 0 ≤ (-t).fmod (-b) := Int.fmod_nonneg_of_pos _ (by omega)
  omega
theorem fdiv_le {t b : Int} : (t.fdiv b).natAbs ≤ t.natAbs := by
  by_cases hb : b = 0
  · subst hb; simp
  · rcases Int.lt_or_gt_of_ne hb with h | h
    · have h1 := Int.mul_fdiv_add_fmod t b
      have h2 : b < t.fmod b := (fmod_neg' h).1
      have h3 : t.fmod b ≤ 0 := (fmod_neg' h).2
      generalize t.fdiv b = q at h1 ⊢
      generalize t.fmod b = r at h1 h2 h3
      rcases Int.le_total 0 q with hq | hq
      · have : b * q ≤ (-1) * q := Int.mul_le_mul_of_nonneg_right (by omega) hq
        omega
      · have : (-q) ≤ (-b) * (-q) := by
          have := Int.mul_le_mul_of_nonneg_right (show (1 : Int) ≤ -b by omega) (show 0 ≤ -q by omega)
          omega
        rw [Int.neg_mul_neg] at this
        by_cases hq0 : q = 0
        · omega
        · have h4 : b * q + b < t := by omega
          have h5 : b * (q + 1) < t := by rw [Int.mul_add, Int.mul_one]; exact h4
          have h6 : (-b) * (-(q + 1)) ≥ -(q + 1) := by
            have := Int.mul_le_mul_of_nonneg_right (show (1 : Int) ≤ -b by omega) (show 0 ≤ -(q + 1) by omega)
            omega
          rw [Int.neg_mul_neg] at h6
          omega
    · have h1 := Int.mul_fdiv_add_fmod t b
      have h2 : t.fmod b < b := Int.fmod_lt_of_pos _ h
      have h3 : 0 ≤ t.fmod b := Int.fmod_nonneg_of_pos _ h
      generalize t.fdiv b = q at h1 ⊢
      generalize t.fmod b = r at h1 h2 h3
      rcases Int.le_total 0 q with hq | hq
      · have : 1 * q ≤ b * q := Int.mul_le_mul_of_nonneg_right (by omega) hq
        omega
      · by_cases hq0 : q = 0
        · omega
        · have h5 : t < b * (q + 1) := by rw [Int.mul_add, Int.mul_one]; omega
          have h6 : b * (-(q + 1)) ≥ -(q + 1) := by
            have := Int.mul_le_mul_of_nonneg_right (show (1 : Int) ≤ b by omega) (show 0 ≤ -(q + 1) by omega)
            omega
          rw [Int.mul_neg] at h6
          omega
theorem fmod_lt {t b : Int} (hb : b ≠ 0) : (t.fmod b).natAbs < b.natAbs := by
  rcases Int.lt_or_gt_of_ne hb with h | h
  · have h2 : b < t.fmod b := (fmod_neg' h).1
    have h3 : t.fmod b ≤ 0 := (fmod_neg' h).2
    omega
  · have h2 : t.fmod b < b := Int.fmod_lt_of_pos _ h
    have h3 : 0 ≤ t.fmod b := Int.fmod_nonneg_of_pos _ h
    omega
theorem sub_fdiv {t b : Int} : t - t.fdiv b * b = t.fmod b := by
  have h1 := Int.mul_fdiv_add_fmod t b
  rw [Int.mul_comm] at h1
  omega
/-- Euclid -/
theorem gcd_step {x y : Int} : Int.gcd y (x.fmod y) = Int.gcd x y := by
  have h1 := Int.mul_fdiv_add_fmod x y
  have : Int.gcd y (x.fmod y + y * x.fdiv y) = Int.gcd y (x.fmod y) := Int.gcd_add_mul_left_right ..
  rw [← this, Int.add_comm, h1, Int.gcd_comm]
/-- parts put together -/
def cfold : List Int → Int × Int
  | [] => (1, 0)
  | p :: ps => (p * (cfold ps).1 + (cfold ps).2, (cfold ps).1)
/-- parts as a chain has them, behind the first -/
def Tail (ps : List Int) : Prop := (∀ p ∈ ps, 1 ≤ p) ∧ (ps ≠ [] → ∀ p, ps.getLast? = some p → 2 ≤ p)
theorem tail_cons {p : Int} {ps : List Int} (h : Tail (p :: ps)) : Tail ps ∧ 1 ≤ p ∧ (ps = [] → 2 ≤ p) := by
  refine ⟨⟨fun q hq => h.1 q (List.mem_cons_of_mem _ hq), fun hne q hq => h.2 (by simp) q ?_⟩, h.1 p List.mem_cons_self, fun e => h.2 (by simp) p (by subst e; rfl)⟩
  rw [List.getLast?_cons_of_ne_nil hne]
  exact hq
end PL
namespace PL
open PySem L2 PySem.Spec PyProof.Rows
section
variable {K : PySem.W.Frag} {G : Hp}
theorem lookup_at {f : Str} {v : V} : ∀ {fs : List (Str × V)} {i : Nat}, (fs.map (·.1)).Nodup → fs[i]? = some (f, v) → fs.lookup f = some v
  | [], _, _, h => by simp at h
  | (g, x) :: r, 0, _, h => by
    simp at h
    obtain ⟨rfl, rfl⟩ := h
    simp [List.lookup]
  | (g, x) :: r, i + 1, nd, h => by
    rw [List.map_cons, List.nodup_cons] at nd
    have h' : r[i]? = some (f, v) := by simpa using h
    have hm : f ∈ r.map (·.1) := List.mem_map.mpr ⟨(f, v), List.mem_of_getElem? h', rfl⟩
    have ne : (f == g) = false := by
      cases q : f == g with
      | false => rfl
      | true => exact absurd (by rw [← eq_of_beq q]; exact hm) nd.1
    rw [List.lookup_cons, ne]
    exact lookup_at nd.2 h'
theorem lookup_out {f : Str} : ∀ {fs : List (Str × V)}, f ∉ fs.map (·.1) → fs.lookup f = none
  | [], _ => rfl
  | (g, x) :: r, h => by
    rw [List.map_cons, List.mem_cons, not_or] at h
    have ne : (f == g) = false := by
      cases q : f == g with
      | false => rfl
      | true => exact absurd (eq_of_beq q) h.1
    rw [List.lookup_cons, ne]
    exact lookup_out h.2
theorem putF_at {f : Str} {v y : V} : ∀ {fs : List (Str × V)} {i : Nat}, (fs.map (·.1)).Nodup → fs[i]? = some (f, v) → putF f y fs = fs.set i (f, y)
  | [], _, _, h => by simp at h
  | (g, x) :: r, 0, _, h => by
    simp at h
    obtain ⟨rfl, rfl⟩ := h
    simp [putF]
  | (g, x) :: r, i + 1, nd, h => by
    rw [List.map_cons, List.nodup_cons] at nd
    have h' : r[i]? = some (f, v) := by simpa using h
    have hm : f ∈ r.map (·.1) := List.mem_map.mpr ⟨(f, v), List.mem_of_getElem? h', rfl⟩
    have ne : g ≠ f := fun q => nd.1 (by rw [q]; exact hm)
    rw [putF, if_neg ne, List.set_cons_succ, putF_at nd.2 h']
theorem putF_out {f : Str} {y : V} : ∀ {fs : List (Str × V)}, f ∉ fs.map (·.1) → putF f y fs = fs ++ [(f, y)]
  | [], _ => rfl
  | (g, x) :: r, h => by
    rw [List.map_cons, List.mem_cons, not_or] at h
    rw [putF, if_neg (Ne.symm h.1), putF_out h.2]
    rfl
theorem FVs.names {l : List (Str × V)} {m : List (Str × D)} (h : FVs K G l m) : l.map (·.1) = m.map (·.1) := by
  induction h with
  | nil => rfl
  | cons h1 _ ih => rw [List.map_cons, List.map_cons, h1.1, ih]
theorem FVs.length {l : List (Str × V)} {m : List (Str × D)} (h : FVs K G l m) : l.length = m.length := by
  have := congrArg List.length h.names
  rwa [List.length_map, List.length_map] at this
theorem FVs.get {l : List (Str × V)} {m : List (Str × D)} (h : FVs K G l m) : ∀ {i : Nat} {f : Str} {d : D}, m[i]? = some (f, d) → ∃ v, l[i]? = some (f, v) ∧ DV K G v d := by
  induction h with
  | nil => intro i f d e; simp at e
  | @cons p q _ _ h1 _ ih =>
    intro i f d e
    cases i with
    | zero =>
      simp at e
      obtain ⟨p1, p2⟩ := p
      subst e
      exact ⟨p2, by simp [show p1 = f from h1.1], h1.2⟩
    | succ i =>
      obtain ⟨v, e1, e2⟩ := ih (i := i) (by simpa using e)
      exact ⟨v, by simpa using e1, e2⟩
theorem FVs.set {l : List (Str × V)} {m : List (Str × D)} {f : Str} {v : V} {d : D} (dv : DV K G v d) (h : FVs K G l m) : ∀ i, FVs K G (l.set i (f, v)) (m.set i (f, d)) := by
  induction h with
  | nil => intro i; exact .nil
  | cons h1 h2 ih =>
    intro i
    cases i with
    | zero => exact .cons ⟨rfl, dv⟩ h2
    | succ i => exact .cons h1 (ih i)
theorem FVs.snoc {l : List (Str × V)} {m : List (Str × D)} {f : Str} {v : V} {d : D} (dv : DV K G v d) (h : FVs K G l m) : FVs K G (l ++ [(f, v)]) (m ++ [(f, d)]) := by
  induction h with
  | nil => exact .cons ⟨rfl, dv⟩ .nil
  | cons h1 _ ih => exact .cons h1 ih
end
section
variable {K : PySem.W.Frag} {ca : CA} {G G' H H' : Hp} {own own' : Addr → Option Addr} {Ω : Om} {a p : Addr}
theorem Rel.objAt {c : Addr} {fs : List (Str × D)} (r : Rel K ca G own H Ω) (e : Ω a = some (.obj c fs)) : Cls K c ∧ (fs.map (·.1)).Nodup ∧ (∀ x ∈ fs, NoAttr K c x.1) ∧ ∃ dx fs', H a = some (.ins c dx fs') ∧ FVs K G fs' fs := (r.objs a _ e).2
theorem Rel.setObj {c dx : Addr} {fs fs2 : List (Str × D)} {fs' : List (Str × V)} (r : Rel K ca G own H Ω) (e : Ω a = some (.obj c fs)) (cl : Cls K c) (nd : (fs2.map (·.1)).Nodup) (na : ∀ x ∈ fs2, NoAttr K c x.1) (d : FVs K G fs' fs2) :
    Rel K ca G own (upd H a (.ins c dx fs')) (oset Ω a (.obj c fs2)) := by
  obtain ⟨w, u, hu, nu⟩ := (r.objs a _ e).there
  refine r.turn (fun b v hb ho => ?_) (fun b v hb hi => ?_) ⟨w, cl, nd, na, dx, fs', upd_same, d⟩
  · rw [upd_ne (fun z => ho (by rw [z]; exact w))]; exact hb
  · rw [upd_ne (fun z => by rw [z, hu] at hb; cases hb; exact nu hi)]; exact hb
theorem Rel.own_ne {o : AO} (r : Rel K ca G own H Ω) (e : Ω a = some o) : own a = some a := (r.objs a _ e).there.1
theorem stp_obj {u : HO} (w : own a = some a) : Stp G own H G own (upd H a u) := ⟨Same.refl G, fun b v hb n g => ⟨by rw [upd_ne (fun z => by rw [z, w] at n; cases n)]; exact hb, n, g⟩⟩
theorem Rel.newObj {c dx : Addr} (r : Rel K ca G own H Ω) (cl : Cls K c) (hp : H p = none) (hd : H dx = none) (ne : dx ≠ p) :
    Rel K ca G (uown (uown own dx none) p (some p)) (upd (upd H dx (.own p)) p (.ins c dx [])) (oset Ω p (.obj c [])) ∧ Stp G own H G (uown (uown own dx none) p (some p)) (upd (upd H dx (.own p)) p (.ins c dx [])) := by
  have hk : ∀ b v, H b = some v → upd (upd H dx (.own p)) p (.ins c dx []) b = some v := fun b v e => by
    rw [upd_ne (ne_of_none e hp), upd_ne (ne_of_none e hd)]; exact e
  have ho : ∀ b v, H b = some v → uown (uown own dx none) p (some p) b = own b := fun b v e => by
    unfold uown
    rw [if_neg (ne_of_none e hp), if_neg (ne_of_none e hd)]
  refine ⟨⟨fun b v e => hk b v (r.sub _ _ e), fun b v e => ?_, fun b v e => ?_⟩, Same.refl G, fun b v hb n g => ⟨hk b v hb, by rw [ho b v hb]; exact n, g⟩⟩
  · rw [ho b v (r.sub _ _ e)]; exact r.imm _ _ e
  · by_cases hb : b = p
    · subst hb
      rw [oset_same] at e
      cases e
      exact ⟨if_pos rfl, cl, List.nodup_nil, fun x hx => by simp at hx, dx, [], upd_same, .nil⟩
    · rw [oset_ne hb] at e
      exact (r.objs b v e).keep (Same.refl G) (fun c w hc o => ⟨hk c w hc, by rw [ho c w hc]; exact o⟩) fun c w hc _ => hk c w hc
end
section
variable {X : Cx} {ca : CA} {W : WX} {a b e o : Expr} {es : List Expr} {ta tb te to : TE} {ra rb re ro : ATE} {tr : TA} {rr : ATA} {pos apos p : Pos}
def aFld (i : Nat) (f : Str) (re : ATE) : ATE := fun Wa ρ Ω Q => re Wa ρ Ω fun x Ω1 => ∃ a c fs d, x = .o a ∧ Ω1 a = some (.obj c fs) ∧ fs[i]? = some (f, d) ∧ Q d Ω1
theorem ae_fld (i : Nat) {f : Str} (ha : AE X ca W e te re) (hb : attributeBase e f X.env (eval e X.env) = eval e X.env := by rfl) : AE X ca W (.Attribute e f pos) (tFld X.K te f) (aFld i f re) :=
  ⟨pe_fld ha.pe hb, fun σ H G own ρ Ω Wa Qa Qc r s h k kx => ha.sim σ H G own ρ Ω Wa _ _ r s h (fun v H1 G1 own1 d Ω1 e1 r1 dv1 q1 => by
    obtain ⟨a, c, fs, d', rfl, ho, hi, q⟩ := q1
    cases dv1
    obtain ⟨cl, nd, na, dx, fs', hp, fv⟩ := r1.objAt ho
    obtain ⟨v, hv, dv⟩ := fv.get hi
    exact ⟨a, c, dx, fs', v, rfl, hp, cl, na (f, d') (List.mem_of_getElem? hi), lookup_at (by rw [fv.names]; exact nd) hv, k _ _ _ _ _ _ e1 r1 dv q⟩) kx⟩
/-- o.f as a target -/
def gFld (K : PySem.W.Frag) (to : TE) (f : Str) : TG := fun v σ H Q => to σ H fun x H1 => ∃ a C dx fs, x = .ref a ∧ H1 a = some (.ins C dx fs) ∧ Cls K C ∧ NoAttr K C f ∧ fs.length < 1000 ∧ Q σ (upd H1 a (.ins C dx (putF f v fs)))
theorem pg_fld {f : Str} (ho : PE X o to) : PG X (.Attribute o f pos) (gFld X.K to f) := by
  refine ⟨fun pins s σ H v u Q I r h => ?_⟩
  rw [assign_Attribute]
  refine wpAny_bind (wpAny_holding (thn (ho.run pins s σ H _ I h) fun ov s1 ⟨x, H1, I1, r1, a, C, dx, fs, ex, ea, c, n, l, q⟩ => ?_))
  subst ex
  obtain rfl : ov = Value.ref a := r1
  refine wpAny_bind (wpAny_standAt (wpAny_bind (wpAny_holding (setattr_ok I1 ea c n l r fun s3 I3 => ?_))))
  exact wpAny_release ⟨σ, _, I3, q⟩
abbrev Wf : AW := fun _ _ _ => False
/-- o.f = v where f is the i-th attribute -/
def agFld (i : Nat) (f : Str) (ro : ATE) : AG := fun d ρ Ω Q => ro Wf ρ Ω fun x Ω1 => ∃ a c fs d0, x = .o a ∧ Ω1 a = some (.obj c fs) ∧ fs[i]? = some (f, d0) ∧ fs.length < 1000 ∧ Q ρ (oset Ω1 a (.obj c (fs.set i (f, d))))
/-- .. a new one -/
def agNew (K : PySem.W.Frag) (f : Str) (ro : ATE) : AG := fun d ρ Ω Q => ro Wf ρ Ω fun x Ω1 => ∃ a c fs, x = .o a ∧ Ω1 a = some (.obj c fs) ∧ f ∉ fs.map (·.1) ∧ NoAttr K c f ∧ fs.length < 1000 ∧ Q ρ (oset Ω1 a (.obj c (fs ++ [(f, d)])))
abbrev W0' : WX := fun _ _ _ _ => False
theorem simg_fld {K : PySem.W.Frag} {i : Nat} {f : Str} (so : SimE K ca W0' to ro) : SimG K ca (gFld K to f) (agFld i f ro) := fun σ H G own ρ Ω v d Qa Qc r s dv h k =>
  so σ H G own ρ Ω Wf _ _ r s h (fun v1 H1 G1 own1 d1 Ω1 e1 r1 dv1 q1 => by
    obtain ⟨a, c, fs, d', rfl, ho, hi, hl, q⟩ := q1
    cases dv1
    obtain ⟨cl, nd, na, dx, fs', hp, fv⟩ := r1.objAt ho
    obtain ⟨v', hv, dv'⟩ := fv.get hi
    refine ⟨a, c, dx, fs', rfl, hp, cl, na (f, d') (List.mem_of_getElem? hi), by rw [fv.length]; exact hl, ?_⟩
    rw [putF_at (by rw [fv.names]; exact nd) hv]
    have hn : (fs.set i (f, d)).map (·.1) = fs.map (·.1) := by
      rw [List.map_set]
      have hi' : (fs.map (·.1))[i]? = some f := by rw [List.getElem?_map, hi]; rfl
      obtain ⟨h1, h2⟩ := List.getElem?_eq_some_iff.mp hi'
      conv => lhs; rw [← h2]
      exact List.set_getElem_self h1
    refine k _ _ _ _ _ _ (e1.trans (stp_obj (r1.own_ne ho))) (r1.setObj ho cl (by rw [hn]; exact nd) (fun x hx => ?_) (fv.set (dv.mono e1.same) i)) (s.mono e1.same) q
    have : x.1 ∈ fs.map (·.1) := by rw [← hn]; exact List.mem_map_of_mem hx
    obtain ⟨y, hy, ey⟩ := List.mem_map.mp this
    rw [← ey]
    exact na y hy) (fun _ _ _ _ _ _ _ z => z.elim)
theorem simg_new {K : PySem.W.Frag} {f : Str} (so : SimE K ca W0' to ro) : SimG K ca (gFld K to f) (agNew K f ro) := fun σ H G own ρ Ω v d Qa Qc r s dv h k =>
  so σ H G own ρ Ω Wf _ _ r s h (fun v1 H1 G1 own1 d1 Ω1 e1 r1 dv1 q1 => by
    obtain ⟨a, c, fs, rfl, ho, hi, nf, hl, q⟩ := q1
    cases dv1
    obtain ⟨cl, nd, na, dx, fs', hp, fv⟩ := r1.objAt ho
    refine ⟨a, c, dx, fs', rfl, hp, cl, nf, by rw [fv.length]; exact hl, ?_⟩
    rw [putF_out (by rw [fv.names]; exact hi)]
    refine k _ _ _ _ _ _ (e1.trans (stp_obj (r1.own_ne ho))) (r1.setObj ho cl ?_ (fun x hx => ?_) (fv.snoc (dv.mono e1.same))) (s.mono e1.same) q
    · rw [List.map_append, List.nodup_append]
      exact ⟨nd, by simp, fun x hx y hy e => hi (by simp at hy; rw [← hy, ← e]; exact hx)⟩
    · rcases List.mem_append.mp hx with hx | hx
      · exact na x hx
      · rw [List.mem_singleton.mp hx]; exact nf) (fun _ _ _ _ _ _ _ z => z.elim)
theorem ag_fld (i : Nat) {f : Str} (ho : AE X ca W0' o to ro) : AGt X ca (.Attribute o f pos) (gFld X.K to f) (agFld i f ro) := ⟨pg_fld ho.pe, simg_fld ho.sim⟩
theorem ag_new {f : Str} (ho : AE X ca W0' o to ro) : AGt X ca (.Attribute o f pos) (gFld X.K to f) (agNew X.K f ro) := ⟨pg_fld ho.pe, simg_new ho.sim⟩
/-- several targets -/
abbrev AGL := List D → En → Om → (En → Om → Prop) → Prop
def glNil : AGL := fun ds ρ Ω Q => ds = [] ∧ Q ρ Ω
def glCons (g : AG) (l : AGL) : AGL := fun ds ρ Ω Q => ∃ d r, ds = d :: r ∧ g d ρ Ω fun ρ1 Ω1 => l r ρ1 Ω1 Q
def SimGs (K : PySem.W.Frag) (ca : CA) (g : TGs) (ag : AGL) : Prop := ∀ (σ : L2.St) (H G : Hp) own ρ Ω v d (Qa : En → Om → Prop) (Qc : L2.St → Hp → Prop), Rel K ca G own H Ω → SR K G σ ρ → DVs K G v d → ag d ρ Ω Qa →
  (∀ σ' H' G' own' ρ' Ω', Stp G own H G' own' H' → Rel K ca G' own' H' Ω' → SR K G' σ' ρ' → Qa ρ' Ω' → Qc σ' H') → g v σ H Qc
structure AGls (X : Cx) (ca : CA) (es : List Expr) (g : TGs) (ag : AGL) : Prop where
  pe : PGs X es g
  sim : SimGs X.K ca g ag
theorem agl_nil : AGls X ca [] gNil glNil := ⟨pgs_nil, fun σ H G own ρ Ω v d Qa Qc r s dv h k => by
  obtain ⟨rfl, q⟩ := h
  cases dv
  exact ⟨rfl, k _ _ _ _ _ _ Stp.refl r s q⟩⟩
theorem agl_cons {g : TG} {ag : AG} {gs : TGs} {l : AGL} (h1 : AGt X ca e g ag) (h2 : AGls X ca es gs l) (hs : (assignEach (e :: es) X.env).map (·.2) = assign e X.env :: (assignEach es X.env).map (·.2) := by rfl) : AGls X ca (e :: es) (gCons g gs) (glCons ag l) :=
  ⟨pgs_cons h1.pe h2.pe hs, fun σ H G own ρ Ω v d Qa Qc r s dv h k => by
    obtain ⟨x, xs, rfl, q⟩ := h
    cases dv with
    | cons d1 d2 => exact ⟨_, _, rfl, h1.sim σ H G own ρ Ω _ _ _ _ r s d1 q fun σ1 H1 G1 own1 ρ1 Ω1 e1 r1 s1 q1 => h2.sim σ1 H1 G1 own1 ρ1 Ω1 _ _ _ _ r1 s1 (d2.mono e1.same) q1 fun σ2 H2 G2 own2 ρ2 Ω2 e2 => k σ2 H2 G2 own2 ρ2 Ω2 (e1.trans e2)⟩⟩
def agTupG (n : Nat) (l : AGL) : AG := fun d ρ Ω Q => ∃ xs, d = .tup xs ∧ xs.length = n ∧ l xs ρ Ω Q
theorem ag_tupG {k : Nat} {gs : TGs} {l : AGL} {n : Nat} (hc : X.calm = true) (h : AGls X ca es gs l) (hn : (assignEach es X.env).length = n := by rfl) (hst : (assignEach es X.env).findIdx? (·.1) = none := by rfl) : AGt X ca (.Tuple es k pos) (gTup X.K n gs) (agTupG n l) :=
  ⟨pg_tup hc h.pe hn hst, fun σ H G own ρ Ω v d Qa Qc r s dv h' k => by
    obtain ⟨xs, rfl, hl, q⟩ := h'
    cases dv with
    | tup hq ds => exact ⟨_, _, rfl, same_seqT r.sub hq, by rw [ds.length]; exact hl, h.sim σ H G own ρ Ω _ _ _ _ r s ds q k⟩⟩
/-- a method of the class at C, by its promise -/
structure Mth (P : Program) (w : World) (K : PySem.W.Frag) (mg : Str → Option Value) (base : Heap) (ca : CA) (k : Nat) (C : Addr) (m : Str) (F : AF) : Prop where
  ex : ∃ f fd ps, Meth K C m f ∧ FnOk P w K mg base (L2.CX P w) (k + 32) f fd ps (spA K ca F) ∧ Binds K fd ps []
theorem Mth.mono {P : Program} {w : World} {K : PySem.W.Frag} {mg : Str → Option Value} {base : Heap} {ca : CA} {j k : Nat} {C : Addr} {m : Str} {F : AF} (c : Mth P w K mg base ca j C m F) (h : j ≤ k) : Mth P w K mg base ca k C m F := by
  obtain ⟨f, fd, ps, M, G, b⟩ := c.ex
  exact ⟨f, fd, ps, M, G.mono (Nat.add_le_add_right h 32), b⟩
abbrev MthX (X : Cx) (ca : CA) (k : Nat) := Mth X.prog X.w X.K X.mg X.base ca k
/-- o.m(..), the class known when o is -/
def tMethD (X : Cx) (ca : CA) (k : Nat) (m : Str) (E : L2.St → XK) (ta : TE) (t : TA) : TE := fun σ H Q => ta σ H fun x H1 => ∃ a C dx fs F, x = .ref a ∧ H1 a = some (.ins C dx fs) ∧ fs.lookup m = none ∧ Cls X.K C ∧ MthX X ca k C m F ∧
  t σ H1 fun vs H2 => spA X.K ca F (x :: vs) H2 Q (E σ)
theorem pe_methD {k j : Nat} {m : Str} {E : L2.St → XK} {pl : Sem Bool} (he : PE X o ta) (hr : Rm j X.A) (hk : k ≤ j) (hx : ∀ σ, PassesAt (L2.CX X.prog X.w) X σ (E σ)) (ha : PA X (e :: es) tr)
    (hst : starEach (e :: es) X.env = (false, eval e X.env) :: starEach es X.env := by rfl) (hpl : (backTo pos (starEach es X.env)).any (·.1) = false := by rfl)
    (ht : eval (.Call (.Attribute o m apos) (e :: es) [] pos) X.env = (do
      let ov ← eval o X.env
      standAt apos.atName
      let (f, first) ← holding [ov] (getMethod ov m pl)
      callWith pos f first (backTo pos (starEach (e :: es) X.env)) (backToKw pos (keywordEach [] X.env))) := by rfl) :
    PE X (.Call (.Attribute o m apos) (e :: es) [] pos) (tMethD X ca k m E ta tr) := by
  refine ⟨fun pins s σ H Q I h => ?_⟩
  refine PySem.W.methodCall_KW (pl := pl) (thn (he.run pins s σ H _ I h) fun u s1 ⟨x, H1, I1, rx, a, C, dx, fs, F, ex, ea, l, c, M, q⟩ => ?_) ht
  subst ex
  obtain rfl : u = Value.ref a := rx
  obtain ⟨f, fd, ps, hm, Fk, hb⟩ := M.ex
  refine getmeth_ok I1 ea c hm l ?_
  refine PySem.W.callWith_K (first := [.ref a]) (h₀ := X.base) I.ok.mod.kin hm.kp (thn (ha.run pos pins s1 σ H1 _ I1 q) fun us s2 ⟨vs, H2, I2, r, q2⟩ => ⟨I2.kIn, ?_⟩) hst hpl
  exact run_fnS (us := .ref a :: us) (vs := .ref a :: vs) Fk (Room.mono hr (Nat.add_le_add_right hk 32)) hb (hx σ) I2 (.cons rfl r) q2
theorem pe_methD0 {k j : Nat} {m : Str} {E : L2.St → XK} {pl : Sem Bool} (he : PE X o ta) (hr : Rm j X.A) (hk : k ≤ j) (hx : ∀ σ, PassesAt (L2.CX X.prog X.w) X σ (E σ))
    (ht : eval (.Call (.Attribute o m apos) [] [] pos) X.env = (do
      let ov ← eval o X.env
      standAt apos.atName
      let (f, first) ← holding [ov] (getMethod ov m pl)
      callWith pos f first (backTo pos (starEach [] X.env)) (backToKw pos (keywordEach [] X.env))) := by rfl) :
    PE X (.Call (.Attribute o m apos) [] [] pos) (tMethD X ca k m E ta tNil) := by
  refine ⟨fun pins s σ H Q I h => ?_⟩
  refine PySem.W.methodCall_KW (pl := pl) (thn (he.run pins s σ H _ I h) fun u s1 ⟨x, H1, I1, rx, a, C, dx, fs, F, ex, ea, l, c, M, q⟩ => ?_) ht
  subst ex
  obtain rfl : u = Value.ref a := rx
  obtain ⟨f, fd, ps, hm, Fk, hb⟩ := M.ex
  refine getmeth_ok I1 ea c hm l ?_
  exact PySem.W.callWith_K0 (first := [.ref a]) I1.kIn hm.kp (run_fnS (us := [.ref a]) (vs := [.ref a]) Fk (Room.mono hr (Nat.add_le_add_right hk 32)) hb (hx σ) I1 (.cons rfl .nil) q)
/-- o.m(..) by the abstract store -/
def aMeth (M : Addr → Str → AF → Prop) (m : Str) (re : ATE) (rr : ATA) : ATE := fun Wa ρ Ω Q => re Wa ρ Ω fun x Ω1 => ∃ a c fs F, x = .o a ∧ Ω1 a = some (.obj c fs) ∧ m ∉ fs.map (·.1) ∧ M c m F ∧ rr Wa ρ Ω1 fun ds Ω2 => F (x :: ds) Ω2 Q fun cls Ω' => Wa cls ρ Ω'
theorem sim_meth {k : Nat} {m : Str} (se : SimE X.K ca W te re) (sa : SimA X.K ca W tr rr) : SimE X.K ca W (tMethD X ca k m (WE W) te tr) (aMeth (MthX X ca k) m re rr) := fun σ H G own ρ Ω Wa Qa Qc r s h' k' kx =>
  se σ H G own ρ Ω Wa _ _ r s h' (fun v H1 G1 own1 d Ω1 e1 r1 dv1 q1 => by
    obtain ⟨a, c, fs, F, rfl, ho, hm, M, q⟩ := q1
    cases dv1
    obtain ⟨cl, nd, na, dx, fs', hp, fv⟩ := r1.objAt ho
    refine ⟨a, c, dx, fs', F, rfl, hp, lookup_out (by rw [fv.names]; exact hm), cl, M, ?_⟩
    exact sa σ H1 G1 own1 ρ Ω1 Wa _ _ r1 (s.mono e1.same) q (fun vs H2 G2 own2 ds Ω2 e2 r2 dv2 q2 => ⟨G2, own2, Ω2, _, Qa, fun cls Ω' => Wa cls ρ Ω', r2, .cons (.o a) dv2, q2, fun v3 H3 G3 own3 d3 Ω3 e3 => k' v3 H3 G3 own3 d3 Ω3 ((e1.trans e2).trans e3), fun cls H3 G3 own3 Ω3 e3 => kx cls H3 G3 own3 Ω3 ((e1.trans e2).trans e3)⟩) (kx.mono e1)) kx
theorem ae_meth {k j : Nat} {m : Str} {pl : Sem Bool} (hr : Rm j X.A) (tk : Takes X W) (hk : k ≤ j) (ho : AE X ca W o te re) (ha : AA X ca W (e :: es) tr rr)
    (hst : starEach (e :: es) X.env = (false, eval e X.env) :: starEach es X.env := by rfl) (hpl : (backTo pos (starEach es X.env)).any (·.1) = false := by rfl)
    (ht : eval (.Call (.Attribute o m apos) (e :: es) [] pos) X.env = (do
      let ov ← eval o X.env
      standAt apos.atName
      let (f, first) ← holding [ov] (getMethod ov m pl)
      callWith pos f first (backTo pos (starEach (e :: es) X.env)) (backToKw pos (keywordEach [] X.env))) := by rfl) :
    AE X ca W (.Call (.Attribute o m apos) (e :: es) [] pos) (tMethD X ca k m (WE W) te tr) (aMeth (MthX X ca k) m re rr) := ⟨pe_methD ho.pe hr hk (fun σ => passAt tk σ) ha.pe hst hpl ht, sim_meth ho.sim ha.sim⟩
theorem ae_meth0 {k j : Nat} {m : Str} {pl : Sem Bool} (hr : Rm j X.A) (tk : Takes X W) (hk : k ≤ j) (ho : AE X ca W o te re)
    (ht : eval (.Call (.Attribute o m apos) [] [] pos) X.env = (do
      let ov ← eval o X.env
      standAt apos.atName
      let (f, first) ← holding [ov] (getMethod ov m pl)
      callWith pos f first (backTo pos (starEach [] X.env)) (backToKw pos (keywordEach [] X.env))) := by rfl) :
    AE X ca W (.Call (.Attribute o m apos) [] [] pos) (tMethD X ca k m (WE W) te tNil) (aMeth (MthX X ca k) m re aNil) := ⟨pe_methD0 ho.pe hr hk (fun σ => passAt tk σ) ht, sim_meth ho.sim aa_nil.sim⟩
structure CFn (K : PySem.W.Frag) (C : Addr) (mc : Value) (m : Str) (f : Addr) : Prop where
  rd : ClX.CRead K C mc
  at_ : PySem.W.findCls K (.ref C) mc m = some (.val (.ref f))
  kp : PySem.W.keepIn K (.ref f) = true
theorem pe_ccall {k j : Nat} {C f : Addr} {mc : Value} {x m : Str} {fd : FuncData} {ps : List Str} {sp : Sp} {E : L2.St → XK} {pl : Sem Bool} {p1 : Pos} (c : CFn X.K C mc m f) (F : FnOk X.prog X.w X.K X.mg X.base (L2.CX X.prog X.w) (k + 32) f fd ps sp) (hr : Rm j X.A) (hk : k ≤ j) (hb : Binds X.K fd ps []) (hx : ∀ σ, PassesAt (L2.CX X.prog X.w) X σ (E σ))
    (hg : Gl X x) (hm : X.mg x = some (.ref C)) (ha : PA X (e :: es) tr) (hdb : (x == ("__debug__" : Str)) = false := by decide)
    (hst : starEach (e :: es) X.env = (false, eval e X.env) :: starEach es X.env := by rfl) (hpl : (backTo pos (starEach es X.env)).any (·.1) = false := by rfl)
    (ht : eval (.Call (.Attribute (.Name x p1) m apos) (e :: es) [] pos) X.env = (do
      let ov ← eval (.Name x p1) X.env
      standAt apos.atName
      let (f, first) ← holding [ov] (getMethod ov m pl)
      callWith pos f first (backTo pos (starEach (e :: es) X.env)) (backToKw pos (keywordEach [] X.env))) := by rfl) :
    PE X (.Call (.Attribute (.Name x p1) m apos) (e :: es) [] pos) (tCallS sp E tr) := by
  refine ⟨fun pins s σ H Q I h => ?_⟩
  refine PySem.W.methodCall_KW (pl := pl) (ld_glob I hg hm ?_ hdb) ht
  refine PySem.W.method_cls I.kIn c.rd.ga (PySem.W.cls_value I.kIn c.rd.rd c.at_ rfl ?_)
  refine PySem.W.callWith_K (first := []) (h₀ := X.base) I.ok.mod.kin c.kp (thn (ha.run pos pins _ σ H _ (I.tok _) h) fun us s2 ⟨vs, H2, I2, r, q2⟩ => ⟨I2.kIn, ?_⟩) hst hpl
  exact run_fnS F (Room.mono hr (Nat.add_le_add_right hk 32)) hb (hx σ) I2 r q2
structure Cfn (P : Program) (w : World) (K : PySem.W.Frag) (mg : Str → Option Value) (base : Heap) (ca : CA) (k : Nat) (x m : Str) (F : AF) : Prop where
  ex : ∃ C mc f fd ps, CFn K C mc m f ∧ mg x = some (.ref C) ∧ FnOk P w K mg base (L2.CX P w) (k + 32) f fd ps (spA K ca F) ∧ Binds K fd ps []
theorem ae_ccall {k j : Nat} {x m : Str} {F : AF} {pl : Sem Bool} {p1 : Pos} (c : Cfn X.prog X.w X.K X.mg X.base ca k x m F) (hr : Rm j X.A) (tk : Takes X W) (hk : k ≤ j) (ha : AA X ca W (e :: es) tr rr) (hg : Gl X x := by rfl) (hdb : (x == ("__debug__" : Str)) = false := by decide)
    (hst : starEach (e :: es) X.env = (false, eval e X.env) :: starEach es X.env := by rfl) (hpl : (backTo pos (starEach es X.env)).any (·.1) = false := by rfl)
    (ht : eval (.Call (.Attribute (.Name x p1) m apos) (e :: es) [] pos) X.env = (do
      let ov ← eval (.Name x p1) X.env
      standAt apos.atName
      let (f, first) ← holding [ov] (getMethod ov m pl)
      callWith pos f first (backTo pos (starEach (e :: es) X.env)) (backToKw pos (keywordEach [] X.env))) := by rfl) :
    AE X ca W (.Call (.Attribute (.Name x p1) m apos) (e :: es) [] pos) (tCallS (spA X.K ca F) (WE W) tr) (aFn F rr) := by
  obtain ⟨C, mc, f, fd, ps, M, hm, Fk, hb⟩ := c.ex
  exact ⟨pe_ccall M Fk hr hk hb (fun σ => passAt tk σ) hg hm ha.pe hdb hst hpl ht, sim_fn ha.sim⟩
theorem run_makeS {k : Nat} {f C : Addr} {fd : FuncData} {ps : List Str} {sp : Sp} {E : L2.St → XK} {pins : List (Addr × Obj)} {σ : L2.St} {H : Hp} {s : Shared} {Q : VK} {us : List Value} {vs : List V} (M : Mk X.K C f) (F : FnOk X.prog X.w X.K X.mg X.base (L2.CX X.prog X.w) k f fd ps sp) (hr : Room (k + 1) X.A) (hb : Binds X.K fd ps [])
    (hx : ∀ σ, PassesAt (L2.CX X.prog X.w) X σ (E σ)) (I : Inv X pins σ H s) (r : Vals vs us)
    (h : ∀ x dx, H x = none → H dx = none → dx ≠ x → sp (.ref x :: vs) (upd (upd H dx (.own x)) x (.ins C dx [])) (fun v H2 => v = .non ∧ Q (.ref x) H2) (E σ)) :
    wpAny (model X.prog X.w) X.A (call (.ref C) us) (EP X pins σ Q) X.xe s := by
  have hq := h (s.heap.objs.size + 1) s.heap.objs.size (I.hok.fresh (Nat.le_succ _)) (I.hok.fresh (Nat.le_refl _)) (Nat.ne_of_lt (Nat.lt_succ_self _))
  have I2 := Inv.made (C := C) I
  have r2 : Vals (V.ref (s.heap.objs.size + 1) :: vs) (Value.ref (s.heap.objs.size + 1) :: us) := .cons rfl r
  have hl : (Value.ref (s.heap.objs.size + 1) :: us).length = ps.length := by
    have e := r2.length
    rw [F.len _ _ _ _ hq] at e
    exact e.symm
  have b := hb { s with heap := (s.heap.push PySem.W.emptyDict).push (PySem.W.instObj C s.heap.objs.size) } (Value.ref (s.heap.objs.size + 1) :: us) I2.kIn (by rw [List.append_nil]; exact hl)
  rw [List.append_nil] at b
  refine wpAny_call (make_map (f := f) I.kIn M.makes M.init (beq_iff_eq.mp M.fn) (codeAny_mono (F.run _ X.stack _ _ ⟨Value.ref (s.heap.objs.size + 1) :: us, []⟩ (Value.ref (s.heap.objs.size + 1) :: us) _ _ (E σ) (hr.make C us [])
    (I2.env0.make C us []) b r2 hq) fun r s' hq' => ?_))
  cases r with
  | error e => exact hx σ pins _ _ e s' I2 hq'
  | ok fl =>
    cases fl with
    | ret u =>
      obtain ⟨v, H', I3, rv, ev, q3⟩ := I2.after hq'
      subst ev
      exact ⟨rv, ⟨V.ref (s.heap.objs.size + 1), H', I3, rfl, q3⟩⟩
    | next => exact False.elim hq'
    | brk => exact False.elim hq'
    | cont => exact False.elim hq'
def tMakeS (C : Addr) (sp : Sp) (E : L2.St → XK) (t : TA) : TE := fun σ H Q => t σ H fun vs H1 => ∀ x dx, H1 x = none → H1 dx = none → dx ≠ x →
  sp (.ref x :: vs) (upd (upd H1 dx (.own x)) x (.ins C dx [])) (fun v H2 => v = .non ∧ Q (.ref x) H2) (E σ)
theorem pe_makeS {k : Nat} {f C : Addr} {x : Str} {fd : FuncData} {ps : List Str} {sp : Sp} {E : L2.St → XK} (M : Mk X.K C f) (F : FnOk X.prog X.w X.K X.mg X.base (L2.CX X.prog X.w) k f fd ps sp) (hr : Room (k + 1) X.A) (hg : Gl X x) (hm : X.mg x = some (.ref C)) (hb : Binds X.K fd ps []) (hx : ∀ σ, PassesAt (L2.CX X.prog X.w) X σ (E σ))
    (ha : PA X (e :: es) tr) (hdb : (x == ("__debug__" : Str)) = false := by decide) (he : starEach (e :: es) X.env = (false, eval e X.env) :: starEach es X.env := by rfl) (hpl : (backTo pos (starEach es X.env)).any (·.1) = false := by rfl) :
    PE X (.Call (.Name x p) (e :: es) [] pos) (tMakeS C sp E tr) := by
  refine ⟨fun pins s σ H Q I h => ?_⟩
  refine wpAny_Call_Name_kw (ld_glob I hg hm ?_ hdb)
  refine PySem.W.callWith_K (h₀ := X.base) I.ok.mod.kin M.kp (thn (ha.run pos pins s σ H _ I h) fun us s1 ⟨vs, H1, I1, r, q⟩ => ⟨I1.kIn, ?_⟩) he hpl
  exact run_makeS M F hr hb hx I1 r q
structure Mkc (P : Program) (w : World) (K : PySem.W.Frag) (mg : Str → Option Value) (base : Heap) (ca : CA) (k : Nat) (x : Str) (C : Addr) (F : AF) : Prop where
  ex : ∃ f fd ps, Mk K C f ∧ Cls K C ∧ mg x = some (.ref C) ∧ FnOk P w K mg base (L2.CX P w) (k + 32) f fd ps (spA K ca F) ∧ Binds K fd ps []
def aMake (C : Addr) (F : AF) (rr : ATA) : ATE := fun Wa ρ Ω Q => rr Wa ρ Ω fun ds Ω1 => ∀ p, Ω1 p = none → F (.o p :: ds) (oset Ω1 p (.obj C [])) (fun d Ω2 => d = .non ∧ Q (.o p) Ω2) fun cls Ω' => Wa cls ρ Ω'
theorem ae_make {k j : Nat} {x : Str} {C : Addr} {F : AF} (c : Mkc X.prog X.w X.K X.mg X.base ca k x C F) (hr : Rm j X.A) (tk : Takes X W) (hk : k + 1 ≤ j) (ha : AA X ca W (e :: es) tr rr)
    (hg : Gl X x := by rfl) (hdb : (x == ("__debug__" : Str)) = false := by decide) (he : starEach (e :: es) X.env = (false, eval e X.env) :: starEach es X.env := by rfl) (hpl : (backTo pos (starEach es X.env)).any (·.1) = false := by rfl) :
    AE X ca W (.Call (.Name x p) (e :: es) [] pos) (tMakeS C (spA X.K ca F) (WE W) tr) (aMake C F rr) := by
  obtain ⟨f, fd, ps, M, cl, hm, Fk, hb⟩ := c.ex
  refine ⟨pe_makeS M Fk (Room.mono hr (by omega)) hg hm hb (fun σ => passAt tk σ) ha.pe hdb he hpl, fun σ H G own ρ Ω Wa Qa Qc r s h' k' kx => ?_⟩
  refine ha.sim σ H G own ρ Ω Wa _ _ r s h' (fun vs H1 G1 own1 ds Ω1 e1 r1 dv1 q1 => fun x dx hx hd ne => ?_) kx
  obtain ⟨r2, e2⟩ := r1.newObj cl hx hd ne
  refine ⟨_, _, _, _, _, _, r2, .cons (.o x) dv1, q1 x (r1.fresh hx), ?_, ?_⟩
  · rintro v3 H3 G3 own3 d3 Ω3 e3 r3 dv3 ⟨rfl, q3⟩
    cases dv3
    exact ⟨rfl, k' _ _ _ _ _ _ ((e1.trans e2).trans e3) r3 (.o x) q3⟩
  · intro cls H3 G3 own3 Ω3 e3
    exact kx cls H3 G3 own3 Ω3 ((e1.trans e2).trans e3)
structure Xcl (K : PySem.W.Frag) (mg : Str → Option Value) (x : Str) (C : Addr) : Prop where
  xf : PySem.W.excIn K C [.type "ValueError", .type "Exception", .type "BaseException", .type "object"] "ValueError.__new__" = true
  gc : mg x = some (.ref C)
  kp : PySem.W.keepIn K (.ref C) = true
  sb : PySem.W.subIn K (.ref C) (.type "BaseException") = some true
  ty : PySem.W.typeIn K (.ref C) = some (.type "type")
def aRaise (C : Addr) : ATS := fun Wa _ ρ Ω => Wa (.ref C) ρ Ω
theorem as_raise {x m : Str} {C : Addr} {j : Nat} {p2 : Pos} (hc : X.calm = true) (tk : Takes X W) (c : Xcl X.K X.mg x C) (hg : Gl X x := by rfl) (hdb : (x == ("__debug__" : Str)) = false := by decide) :
    AS X ca W (.Raise (some (.Call (.Name x p) [.Constant (.str m) j p2] [] apos)) none pos) (fun _ σ H => W (.ref C) none σ H) (aRaise C) :=
  ⟨ps_raise hc tk (pmk_own PySem.F.excBase_ValueError c.xf c.gc c.kp (raises_own c.sb c.ty) hg hdb), fun σ H G own ρ Ω Wa Da Dc r s h k => k.ex _ _ _ _ _ _ _ Stp.refl r s h⟩
end
end PL
namespace PL
open PySem L2
/-- a method's def, and the classes that have it -/
structure Mdf (K : PySem.W.Frag) (Cs : List Addr) (m qual : Str) (st : Stmt) (ps : List Str) : Prop where
  ex : ∃ f fd, Fun K m qual st f fd ∧ Binds K fd ps [] ∧ ∀ C ∈ Cs, Meth K C m f
/-- a class and its __init__ -/
structure Mki (K : PySem.W.Frag) (mg : Str → Option Value) (x : Str) (C : Addr) (qual : Str) (st : Stmt) (ps : List Str) : Prop where
  ex : ∃ f fd, Fun K "__init__" qual st f fd ∧ Binds K fd ps [] ∧ Mk K C f ∧ Cls K C ∧ mg x = some (.ref C)
/-- C.m as a def -/
structure Cdf (K : PySem.W.Frag) (mg : Str → Option Value) (x m qual : Str) (st : Stmt) (ps : List Str) : Prop where
  ex : ∃ C mc f fd, Fun K m qual st f fd ∧ Binds K fd ps [] ∧ CFn K C mc m f ∧ mg x = some (.ref C)
section
variable {P : Program} {w : World} {K : PySem.W.Frag} {mg : Str → Option Value} {base : Heap} {ca : CA} {x m qual : Str} {st : Stmt} {N ps : List Str} {k : Nat} {Fa : AF} {C : Addr} {Cs : List Addr}
abbrev Body (P : Program) (w : World) (K : PySem.W.Frag) (mg : Str → Option Value) (base : Heap) (ca : CA) (qual : Str) (st : Stmt) (N : List Str) (k : Nat) (Fa : AF) : Prop :=
  ∀ (f : Addr) (cdv : Value) (A : Around) (outer : List Env) (s : Shared) (H : Hp) (E : XK), Rm k (A.deeper (PyProof.Rows.envOfC qual (defScope st) s.heap.objs.size f cdv)) →
      ∃ ts ta, ASs (cxOf (L2.CX P w) P w K mg base N qual (defScope st) f cdv A outer s H E) ca (WD E) (defBody st) ts ta ∧
        ∀ ds Ω Qa Ea, Fa ds Ω Qa Ea → ta (fun cls _ Ω' => Ea cls Ω') { nx := fun _ Ω' => Qa .non Ω', rt := Qa } (astart N ds) Ω
theorem mth (d : Mdf K Cs m qual st ps) (S : FnScope N ps (defScope st)) (len : ∀ ds Ω Q E, Fa ds Ω Q E → ds.length = ps.length) (h : Body P w K mg base ca qual st N k Fa) : ∀ C ∈ Cs, Mth P w K mg base ca (k + 1) C m Fa := fun C hC => by
  obtain ⟨f, fd, F, b, M⟩ := d.ex
  exact ⟨f, fd, ps, M C hC, (okA F S len (h f)).mono (by omega), b⟩
theorem mth_none (d : Mdf K Cs m qual st ps) (h : ∀ ds Ω Q E, ¬ Fa ds Ω Q E) : ∀ C ∈ Cs, Mth P w K mg base ca k C m Fa := fun C hC => by
  obtain ⟨f, fd, F, b, M⟩ := d.ex
  exact ⟨f, fd, ps, M C hC, ⟨fun vs H Q E ⟨_, _, _, _, _, _, _, _, z, _⟩ => (h _ _ _ _ z).elim, fun _ _ _ _ _ _ _ _ _ _ _ _ _ ⟨_, _, _, _, _, _, _, _, z, _⟩ => (h _ _ _ _ z).elim⟩, b⟩
theorem mkc (d : Mki K mg x C qual st ps) (S : FnScope N ps (defScope st)) (len : ∀ ds Ω Q E, Fa ds Ω Q E → ds.length = ps.length) (h : Body P w K mg base ca qual st N k Fa) : Mkc P w K mg base ca (k + 1) x C Fa := by
  obtain ⟨f, fd, F, b, M, cl, g⟩ := d.ex
  exact ⟨f, fd, ps, M, cl, g, (okA F S len (h f)).mono (by omega), b⟩
theorem cfn (d : Cdf K mg x m qual st ps) (S : FnScope N ps (defScope st)) (len : ∀ ds Ω Q E, Fa ds Ω Q E → ds.length = ps.length) (h : Body P w K mg base ca qual st N k Fa) : Cfn P w K mg base ca (k + 1) x m Fa := by
  obtain ⟨C, mc, f, fd, F, b, M, g⟩ := d.ex
  exact ⟨C, mc, f, fd, ps, M, g, (okA F S len (h f)).mono (by omega), b⟩
end
section
variable {X : Cx} {ca : CA} {W : WX} {a b e : Expr} {es : List Expr} {ta tb te : TE} {ra rb re : ATE} {tr : TA} {rr : ATA} {pos p : Pos}
theorem ae_globE {x : Str} {i : Int} (hg : Gl X x) (hm : ∃ t, X.mg x = some (.int i t)) (hd : (x == ("__debug__" : Str)) = false := by decide) : AE X ca W (.Name x pos) (tC (.int i)) (aC (.int i)) := by
  obtain ⟨t, hm⟩ := hm
  exact ae_globI hg hm hd
/-- a tuple of ints at the text's top -/
structure TupK (K : PySem.W.Frag) (mg : Str → Option Value) (x : Str) (a : Addr) (ns : List Int) : Prop where
  mg_ : mg x = some (.ref a)
  at_ : ∀ H, SqT K H a (iv ns)
theorem ae_globT {x : Str} {a : Addr} {ns : List Int} (hg : Gl X x) (h : TupK X.K X.mg x a ns) (hd : (x == ("__debug__" : Str)) = false := by decide) : AE X ca W (.Name x pos) (tC (.ref a)) (aC (.tup (ns.map D.int))) :=
  ⟨pe_glob hg h.mg_ rfl hd, sim_c fun G => .tup (h.at_ G) (DVs.of_ints ns)⟩
/-- an int among ints -/
def fInI (neg : Bool) : D → D → Om → AQ → Prop := fun x y Ω Q => ∃ (i : Int) (ns : List Int), x = .int i ∧ y.seq Ω = some (ns.map D.int) ∧ Q (.bl (if neg then !decide (i ∈ ns) else decide (i ∈ ns))) Ω
theorem inV_ints {i : Int} : ∀ ns : List Int, inV (.int i) (ns.map V.int) = decide (i ∈ ns)
  | [] => rfl
  | n :: r => by
    have ih := inV_ints (i := i) r
    unfold inV at ih ⊢
    rw [List.map_cons, List.any_cons, ih]
    show ((n == i) || decide (i ∈ r)) = decide (i ∈ n :: r)
    rw [Bool.eq_iff_iff]
    simp only [Bool.or_eq_true, beq_iff_eq, decide_eq_true_eq, List.mem_cons]
    constructor
    · rintro (h | h)
      · exact .inl h.symm
      · exact .inr h
    · rintro (h | h)
      · exact .inl h.symm
      · exact .inr h
theorem all_flat : ∀ ns : List Int, (ns.map V.int).all flatV = true
  | [] => rfl
  | n :: r => by rw [List.map_cons, List.all_cons, all_flat r]; rfl
theorem simr_inI {K : PySem.W.Frag} {neg : Bool} : SimR K ca (rIn K neg) (fInI neg) := by
  intro H G own Ω x y v w Qa Qc r dx dy h k
  obtain ⟨i, ns, rfl, hs, q⟩ := h
  cases dx
  obtain ⟨p, vs, rfl, ds, hv⟩ := seq_of r dy hs
  rw [ds.ints] at hv
  exact ⟨p, _, rfl, hv, rfl, all_flat ns, by rw [inV_ints]; exact k _ _ _ _ _ _ Stp.refl r (.bl _) q⟩
theorem at_inI (ha : AE X ca W a ta ra) (hb : AE X ca W b tb rb) (hm : behindInMarks .In b = false := by rfl) : AT X ca W (.Compare a [.In] [b] pos) (tTest (tOp (rIn X.K false) ta tb)) (aB (aOp (fInI false) ra rb)) := at_cmp op_in_seq simr_inI ha hb hm
/-- what the proof never comes to -/
def aNever : ATS := fun _ _ _ _ => False
end
end PL
namespace PL
open PySem L2
structure CT where
  c_Purse : Addr := 0
  c_Fixed : Addr := 0
  c_Fraction : Addr := 0
  c_Root : Addr := 0
  c_Ruled : Addr := 0
  c_Four : Addr := 0
  c_Eight : Addr := 0
  c_NoValue : Addr := 0
  c_BadTree : Addr := 0
  c_TooLong : Addr := 0
  c_PartError : Addr := 0
  a_TIMES : Addr := 0
inductive R where
  | fixed (t b : Int) (g : Bool)
  | frac (k : Nat) (t b : Int)
  | root (k : Nat) (t s b f : Int)
  | ruled (k : Nat) (ps ring steps : List Int)
  | four (a b c d : Int) (rdy bg : Bool) (x : R)
  | fourX (x : R) (t b : Int) (g : Bool)
  | eight (a b c d e f g h : Int) (m0 m1 : Nat) (bg : Bool) (x y : R)
  | eightX (x y : R) (t b : Int) (g : Bool)
  | eightF (w : Bool) (dead fr : R)
inductive Kd where
  | fixed | leaf | four | eight
def R.kd : R → Kd
  | .fixed .. => .fixed
  | .frac .. => .leaf
  | .root .. => .leaf
  | .ruled .. => .leaf
  | .four .. => .four
  | .fourX .. => .four
  | .eight .. => .eight
  | .eightX .. => .eight
  | .eightF .. => .eight
/-- how deep its calls go -/
def R.lv : R → Nat
  | .fixed .. => 1
  | .frac .. => 3
  | .root .. => 3
  | .ruled .. => 3
  | .four _ _ _ _ _ _ x => max x.lv 3 + 1
  | .fourX x _ _ _ => max x.lv 3 + 1
  | .eight _ _ _ _ _ _ _ _ _ _ _ x y => max (max x.lv y.lv) 3 + 2
  | .eightX x y _ _ _ => max (max x.lv y.lv) 3 + 2
  | .eightF _ dead fr => max (max dead.lv fr.lv) 3 + 1
def dtup (ns : List Int) : D := .tup (ns.map D.int)
abbrev oPurse (C : CT) (m : Int) : AO := .obj C.c_Purse [("left", .int m)]
abbrev oFixed (C : CT) (t b : Int) (g : Bool) : AO := .obj C.c_Fixed [("top", .int t), ("below", .int b), ("begun", .bl g)]
abbrev oFrac (C : CT) (k t b : Int) : AO := .obj C.c_Fraction [("many", .int k), ("top", .int t), ("below", .int b)]
abbrev oRoot (C : CT) (k t s b f : Int) : AO := .obj C.c_Root [("many", .int k), ("top", .int t), ("square", .int s), ("below", .int b), ("floor", .int f)]
abbrev oRuled (C : CT) (k : Int) (ps ring steps : List Int) : AO := .obj C.c_Ruled [("many", .int k), ("first", .tup (ps.map D.int)), ("ring", .tup (ring.map D.int)), ("steps", .tup (steps.map D.int))]
abbrev oFour (C : CT) (ns : List D) (z : Addr) (rdy bg : Bool) (f : D) : AO := .obj C.c_Four [("numbers", .tup ns), ("inner", .o z), ("ready", .bl rdy), ("begun", .bl bg), ("fixed", f)]
abbrev oEight (C : CT) (ns : List D) (z1 z2 k : Addr) (bg : Bool) (f : D) : AO := .obj C.c_Eight [("numbers", .tup ns), ("inners", .lst [.o z1, .o z2]), ("many", .o k), ("begun", .bl bg), ("rest", f)]
/-- the object at p holds r; S: its own objects -/
inductive RdO (C : CT) (Ω : Om) : Addr → R → List Addr → Prop
  | fixed {p : Addr} {t b : Int} {g : Bool} : Ω p = some (oFixed C t b g) → RdO C Ω p (.fixed t b g) [p]
  | frac {p : Addr} {k : Nat} {t b : Int} : Ω p = some (oFrac C k t b) → RdO C Ω p (.frac k t b) [p]
  | root {p : Addr} {k : Nat} {t s b f : Int} : Ω p = some (oRoot C k t s b f) → RdO C Ω p (.root k t s b f) [p]
  | ruled {p : Addr} {k : Nat} {ps ring steps : List Int} : Ω p = some (oRuled C k ps ring steps) → RdO C Ω p (.ruled k ps ring steps) [p]
  | four {p z : Addr} {a b c d : Int} {rdy bg : Bool} {x : R} {S : List Addr} : Ω p = some (oFour C [.int a, .int b, .int c, .int d] z rdy bg .non) → RdO C Ω z x S → p ∉ S → RdO C Ω p (.four a b c d rdy bg x) (p :: S)
  | fourX {p z f : Addr} {ns : List D} {t b : Int} {g rdy bg : Bool} {x : R} {S : List Addr} : Ω p = some (oFour C ns z rdy bg (.o f)) → Ω f = some (oFixed C t b g) → RdO C Ω z x S → p ∉ S → f ∉ S → p ≠ f → RdO C Ω p (.fourX x t b g) (p :: f :: S)
  | eight {p z1 z2 k : Addr} {a b c d e f g h : Int} {m0 m1 : Nat} {bg : Bool} {x y : R} {S1 S2 : List Addr} : Ω p = some (oEight C [.int a, .int b, .int c, .int d, .int e, .int f, .int g, .int h] z1 z2 k bg .non) → Ω k = some (.lst [.int m0, .int m1]) →
      RdO C Ω z1 x S1 → RdO C Ω z2 y S2 → p ≠ k → p ∉ S1 → p ∉ S2 → k ∉ S1 → k ∉ S2 → (∀ b ∈ S1, b ∉ S2) → RdO C Ω p (.eight a b c d e f g h m0 m1 bg x y) (p :: k :: (S1 ++ S2))
  | eightX {p z1 z2 k q : Addr} {ns : List D} {t b : Int} {g bg : Bool} {x y : R} {S1 S2 : List Addr} : Ω p = some (oEight C ns z1 z2 k bg (.o q)) → Ω q = some (oFixed C t b g) →
      RdO C Ω z1 x S1 → RdO C Ω z2 y S2 → p ≠ q → p ∉ S1 → p ∉ S2 → q ∉ S1 → q ∉ S2 → (∀ b ∈ S1, b ∉ S2) → RdO C Ω p (.eightX x y t b g) (p :: q :: (S1 ++ S2))
  | eightF {p z1 z2 k q c : Addr} {ns : List D} {fs : List (Str × D)} {bg w : Bool} {dead fr : R} {S1 S2 : List Addr} : Ω p = some (oEight C ns z1 z2 k bg (.o q)) → Ω q = some (.obj c fs) → fs[1]? = some (("inner" : Str), D.o (if w then z1 else z2)) →
      RdO C Ω (if w then z2 else z1) dead S1 → RdO C Ω q fr S2 → fr.kd = .four → p ∉ S1 → p ∉ S2 → (∀ b ∈ S1, b ∉ S2) → RdO C Ω p (.eightF w dead fr) (p :: (S1 ++ S2))
section
variable {C : CT} {Ω Ω' : Om} {p : Addr} {r : R} {S : List Addr}
theorem RdO.keep (x : RdO C Ω p r S) (h : ∀ b ∈ S, Ω' b = Ω b) : RdO C Ω' p r S := by
  induction x with
  | fixed e => exact .fixed ((h _ (by simp)).trans e)
  | frac e => exact .frac ((h _ (by simp)).trans e)
  | root e => exact .root ((h _ (by simp)).trans e)
  | ruled e => exact .ruled ((h _ (by simp)).trans e)
  | four e x n ih => exact .four ((h _ (by simp)).trans e) (ih fun b hb => h b (by simp [hb])) n
  | fourX e e2 x n1 n2 n3 ih => exact .fourX ((h _ (by simp)).trans e) ((h _ (by simp)).trans e2) (ih fun b hb => h b (by simp [hb])) n1 n2 n3
  | eight e e2 x y n1 n2 n3 n4 n5 n6 ih1 ih2 => exact .eight ((h _ (by simp)).trans e) ((h _ (by simp)).trans e2) (ih1 fun b hb => h b (by simp [hb])) (ih2 fun b hb => h b (by simp [hb])) n1 n2 n3 n4 n5 n6
  | eightX e e2 x y n1 n2 n3 n4 n5 n6 ih1 ih2 => exact .eightX ((h _ (by simp)).trans e) ((h _ (by simp)).trans e2) (ih1 fun b hb => h b (by simp [hb])) (ih2 fun b hb => h b (by simp [hb])) n1 n2 n3 n4 n5 n6
  | eightF e e2 l x y kd n1 n2 n3 ih1 ih2 =>
    have hm : ∀ {q r S}, RdO C Ω q r S → q ∈ S := fun z => by cases z <;> simp
    exact .eightF ((h _ (by simp)).trans e) ((h _ (by simp [hm y])).trans e2) l (ih1 fun b hb => h b (by simp [hb])) (ih2 fun b hb => h b (by simp [hb])) kd n1 n2 n3
theorem RdO.there (x : RdO C Ω p r S) : ∀ b ∈ S, Ω b ≠ none := by
  induction x with
  | fixed e => intro b hb; simp at hb; subst hb; rw [e]; simp
  | frac e => intro b hb; simp at hb; subst hb; rw [e]; simp
  | root e => intro b hb; simp at hb; subst hb; rw [e]; simp
  | ruled e => intro b hb; simp at hb; subst hb; rw [e]; simp
  | four e x n ih => intro b hb; simp at hb; rcases hb with rfl | hb; rw [e]; simp; exact ih b hb
  | fourX e e2 x n1 n2 n3 ih => intro b hb; simp at hb; rcases hb with rfl | rfl | hb; rw [e]; simp; rw [e2]; simp; exact ih b hb
  | eight e e2 x y n1 n2 n3 n4 n5 n6 ih1 ih2 => intro b hb; simp at hb; rcases hb with rfl | rfl | hb | hb; rw [e]; simp; rw [e2]; simp; exact ih1 b hb; exact ih2 b hb
  | eightX e e2 x y n1 n2 n3 n4 n5 n6 ih1 ih2 => intro b hb; simp at hb; rcases hb with rfl | rfl | hb | hb; rw [e]; simp; rw [e2]; simp; exact ih1 b hb; exact ih2 b hb
  | eightF e e2 l x y kd n1 n2 n3 ih1 ih2 => intro b hb; simp at hb; rcases hb with rfl | hb | hb; rw [e]; simp; exact ih1 b hb; exact ih2 b hb
end
inductive Ans where
  | part (n : Int) | fin | waits | none
def Ans.d : Ans → D
  | .part n => .tup [.str "part", .int n]
  | .fin => .tup [.str "end"]
  | .waits => .tup [.str "waits"]
  | .none => .non
/-- how a call ends -/
def Ans.ok (C : CT) (a : Ans) (Q : AQ) (E : Value → Om → Prop) (Ω : Om) : Prop := match a with
  | .none => E (.ref C.c_NoValue) Ω
  | a => Q a.d Ω
/-- small enough for all that is reckoned -/
def Sm (x : Int) : Prop := x.natAbs < 2 ^ 290000
def ruV (k : Nat) (ps ring steps : List Int) : Int := if k < ps.length then ps.getD k 0 else ring.getD ((k - ps.length) % ring.length) 0 + ((k - ps.length) / ring.length : Nat) * steps.getD ((k - ps.length) % ring.length) 0
def belowRest (least : Int) (c0 : Int × Int) : List (Int × Int) → Option Int
  | [] => some least
  | (t, b) :: r => if 0 < (t - (least + 1) * b) * b ∨ ((t - (least + 1) * b) * b = 0 ∧ t * c0.2 = c0.1 * b) then none else belowRest least c0 r
/-- the mirror of below_all -/
def belowAll (cs : List (Int × Int)) : Option Int := match cs with
  | [] => none
  | c0 :: r => if cs.any (fun c => decide (c.2 * c0.2 ≤ 0)) then none else
    let least := (r.map fun c => c.1.fdiv c.2).foldl min (c0.1.fdiv c0.2)
    belowRest least c0 cs
def sure4 (rdy : Bool) (a b c d : Int) : Option Int := if rdy then belowAll [(a, c), (a + b, c + d)] else none
def sure8 (m0 m1 : Nat) (a b c d e f g h : Int) : Option Int := if 0 < m0 ∧ 0 < m1 then belowAll [(a, e), (a + b, e + f), (a + c, e + g), (a + b + c + d, e + f + g + h)] else none
def Sm8 (a b c d e f g h : Int) : Prop := Sm a ∧ Sm b ∧ Sm c ∧ Sm d ∧ Sm e ∧ Sm f ∧ Sm g ∧ Sm h
/-- r with purse m answers ans, and is r' with purse m' behind it; n: parts taken by the outermost loop -/
inductive Told : Nat → R → Int → R → Int → Ans → Prop
  | fxEnd {t m} : Told 0 (.fixed t 0 true) m (.fixed t 0 true) m .fin
  | fxNo {t m} : Told 0 (.fixed t 0 false) m (.fixed t 0 false) m .none
  | fxPart {t b g m} : b ≠ 0 → Sm t → Sm b → Told 0 (.fixed t b g) m (.fixed b (t - t.fdiv b * b) true) m (.part (t.fdiv b))
  | frEnd {k t m} : Told 0 (.frac k t 0) m (.frac k t 0) m .fin
  | frWait {k t b} : b ≠ 0 → Told 0 (.frac k t b) 0 (.frac k t b) 0 .waits
  | frPart {k t b m} : b ≠ 0 → m ≠ 0 → Sm t → Sm b → Told 0 (.frac k t b) m (.frac (k + 1) b (t - t.fdiv b * b)) (m - 1) (.part (t.fdiv b))
  | rtWait {k t s b f} : Told 0 (.root k t s b f) 0 (.root k t s b f) 0 .waits
  | rtPart {k t s b f m q t'} : m ≠ 0 → b ≠ 0 → Sm t → Sm s → Sm b → Sm f → q = (t + f + (if b < 0 then 1 else 0)).fdiv b → t' = q * b - t → Sm t' → Told 0 (.root k t s b f) m (.root (k + 1) t' s ((s - t' * t').fdiv b) f) (m - 1) (.part q)
  | ruEnd {k ps steps m} : ps.length ≤ k → Told 0 (.ruled k ps [] steps) m (.ruled k ps [] steps) m .fin
  | ruWait {k ps ring steps} : (ring = [] → k < ps.length) → Told 0 (.ruled k ps ring steps) 0 (.ruled k ps ring steps) 0 .waits
  | ruPart {k ps ring steps m} : (ring = [] → k < ps.length) → m ≠ 0 → steps.length = ring.length → k < 2 ^ 60 → ps.length < 2 ^ 60 → ring.length < 2 ^ 60 → (∀ n ∈ ring ++ steps, Sm n) → Told 0 (.ruled k ps ring steps) m (.ruled (k + 1) ps ring steps) (m - 1) (.part (ruV k ps ring steps))
  | foTell {a b c d rdy bg x m q} : Sm a → Sm b → Sm c → Sm d → sure4 rdy a b c d = some q → Told 0 (.four a b c d rdy bg x) m (.four c d (a - q * c) (b - q * d) rdy true x) m (.part q)
  | foWait {a b c d rdy bg x m i x' m'} : Sm a → Sm b → Sm c → Sm d → sure4 rdy a b c d = none → Told i x m x' m' .waits → Told 0 (.four a b c d rdy bg x) m (.four a b c d rdy bg x') m' .waits
  | foNo {a b c d rdy bg x m i x' m'} : Sm a → Sm b → Sm c → Sm d → sure4 rdy a b c d = none → Told i x m x' m' .none → Told 0 (.four a b c d rdy bg x) m (.four a b c d rdy bg x') m' .none
  | foEnd {a b c d rdy bg x m i x' m1 t' b' g' m' ans} : Sm a → Sm b → Sm c → Sm d → sure4 rdy a b c d = none → Told i x m x' m1 .fin → Told 0 (.fixed a c bg) m1 (.fixed t' b' g') m' ans → Told 0 (.four a b c d rdy bg x) m (.fourX x' t' b' g') m' ans
  | foIn {a b c d rdy bg x m i x' m1 q n r' m' ans} : Sm a → Sm b → Sm c → Sm d → sure4 rdy a b c d = none → Told i x m x' m1 (.part q) → Sm q → Told n (.four (a * q + b) a (c * q + d) c true bg x') m1 r' m' ans → Told (n + 1) (.four a b c d rdy bg x) m r' m' ans
  | fxX {x t b g m t' b' g' m' ans} : Told 0 (.fixed t b g) m (.fixed t' b' g') m' ans → Told 0 (.fourX x t b g) m (.fourX x t' b' g') m' ans
  | etTell {a b c d e f g h m0 m1 bg x y m q} : Sm8 a b c d e f g h → sure8 m0 m1 a b c d e f g h = some q → Told 0 (.eight a b c d e f g h m0 m1 bg x y) m (.eight e f g h (a - q * e) (b - q * f) (c - q * g) (d - q * h) m0 m1 true x y) m (.part q)
  | etWait {a b c d e f g h m0 m1 bg x y m w i z m'} : Sm8 a b c d e f g h → sure8 m0 m1 a b c d e f g h = none → w = decide (m1 < m0) → Told i (cond w y x) m z m' .waits → Told 0 (.eight a b c d e f g h m0 m1 bg x y) m (.eight a b c d e f g h m0 m1 bg (cond w x z) (cond w z y)) m' .waits
  | etNo {a b c d e f g h m0 m1 bg x y m w i z m'} : Sm8 a b c d e f g h → sure8 m0 m1 a b c d e f g h = none → w = decide (m1 < m0) → Told i (cond w y x) m z m' .none → Told 0 (.eight a b c d e f g h m0 m1 bg x y) m (.eight a b c d e f g h m0 m1 bg (cond w x z) (cond w z y)) m' .none
  | etFour {a b c d e f g h m0 m1 bg x y m w i z m2 n fr m' ans} : Sm8 a b c d e f g h → sure8 m0 m1 a b c d e f g h = none → w = decide (m1 < m0) → Told i (cond w y x) m z m2 .fin → a * cond w g f ≠ cond w c b * e →
      Told n (.four a (cond w c b) e (cond w g f) (decide (0 < cond w m0 m1)) bg (cond w x y)) m2 fr m' ans → Told 0 (.eight a b c d e f g h m0 m1 bg x y) m (.eightF w z fr) m' ans
  | etFix {a b c d e f g h m0 m1 bg x y m w i z m2 t0 b0 t' b' g' m' ans} : Sm8 a b c d e f g h → sure8 m0 m1 a b c d e f g h = none → w = decide (m1 < m0) → Told i (cond w y x) m z m2 .fin → a * cond w g f = cond w c b * e →
      (t0, b0) = (if a = 0 ∧ e = 0 then (cond w c b, cond w g f) else (a, e)) → Told 0 (.fixed t0 b0 bg) m2 (.fixed t' b' g') m' ans → Told 0 (.eight a b c d e f g h m0 m1 bg x y) m (.eightX (cond w x z) (cond w z y) t' b' g') m' ans
  | etIn0 {a b c d e f g h m0 m1 bg x y m i z m2 q n r' m' ans} : Sm8 a b c d e f g h → sure8 m0 m1 a b c d e f g h = none → ¬ m1 < m0 → Told i x m z m2 (.part q) → Sm q → Told n (.eight (a * q + c) (b * q + d) a b (e * q + g) (f * q + h) e f (m0 + 1) m1 bg z y) m2 r' m' ans → Told (n + 1) (.eight a b c d e f g h m0 m1 bg x y) m r' m' ans
  | etIn1 {a b c d e f g h m0 m1 bg x y m i z m2 q n r' m' ans} : Sm8 a b c d e f g h → sure8 m0 m1 a b c d e f g h = none → m1 < m0 → Told i y m z m2 (.part q) → Sm q → Told n (.eight (a * q + b) a (c * q + d) c (e * q + f) e (g * q + h) g m0 (m1 + 1) bg x z) m2 r' m' ans → Told (n + 1) (.eight a b c d e f g h m0 m1 bg x y) m r' m' ans
  | exX {x y t b g m t' b' g' m' ans} : Told 0 (.fixed t b g) m (.fixed t' b' g') m' ans → Told 0 (.eightX x y t b g) m (.eightX x y t' b' g') m' ans
  | exF {w dead fr m n fr' m' ans} : fr.kd = .four → Told n fr m fr' m' ans → Told 0 (.eightF w dead fr) m (.eightF w dead fr') m' ans
theorem Told.kd {n : Nat} {r r' : R} {m m' : Int} {ans : Ans} (h : Told n r m r' m' ans) : r'.kd = r.kd := by
  induction h <;> first | rfl | (simp only [R.kd]; done) | assumption
theorem Told.lv {n : Nat} {r r' : R} {m m' : Int} {ans : Ans} (h : Told n r m r' m' ans) : r'.lv ≤ r.lv := by
  induction h with
  | @etWait a b c d e f g h m0 m1 bg x y m w i z m' _ _ _ _ ih =>
    cases w <;> simp only [cond, R.lv] at * <;> omega
  | @etNo a b c d e f g h m0 m1 bg x y m w i z m' _ _ _ _ ih =>
    cases w <;> simp only [cond, R.lv] at * <;> omega
  | @etFour a b c d e f g h m0 m1 bg x y m w i z m2 n fr m' ans _ _ _ _ _ _ ih1 ih2 =>
    cases w <;> simp only [cond, R.lv] at * <;> omega
  | @etFix a b c d e f g h m0 m1 bg x y m w i z m2 t0 b0 t' b' g' m' ans _ _ _ _ _ _ _ ih1 ih2 =>
    cases w <;> simp only [cond, R.lv] at * <;> omega
  | _ => simp only [R.lv] at * <;> omega
theorem foldl_min_mem : ∀ (l : List Int) (a : Int), l.foldl min a ∈ a :: l ∧ ∀ y ∈ a :: l, l.foldl min a ≤ y
  | [], a => by simp
  | b :: l, a => by
    rw [List.foldl_cons]
    obtain ⟨h1, h2⟩ := foldl_min_mem l (min a b)
    have h3 := h2 (min a b) (by simp)
    refine ⟨?_, fun y hy => ?_⟩
    · rcases List.mem_cons.mp h1 with h | h
      · rw [h]
        rcases Int.le_total a b with g | g
        · rw [Int.min_eq_left g]; simp
        · rw [Int.min_eq_right g]; simp
      · simp [h]
    · rcases List.mem_cons.mp hy with rfl | hy
      · omega
      · rcases List.mem_cons.mp hy with rfl | hy
        · omega
        · exact h2 y (by simp [hy])
theorem min_spec : ∀ (l : List Int) (a m : Int), m ∈ a :: l → (∀ y ∈ a :: l, m ≤ y) → l.foldl min a = m := fun l a m h hm => by
  obtain ⟨h1, h2⟩ := foldl_min_mem l a
  have := hm _ h1
  have := h2 _ h
  omega
theorem belowRest_spec {l : Int} {c0 : Int × Int} {q : Int} : ∀ {cs : List (Int × Int)}, belowRest l c0 cs = some q ↔ q = l ∧ ∀ c ∈ cs, ¬ (0 < (c.1 - (l + 1) * c.2) * c.2 ∨ ((c.1 - (l + 1) * c.2) * c.2 = 0 ∧ c.1 * c0.2 = c0.1 * c.2))
  | [] => by simp [belowRest, eq_comm]
  | (t, b) :: r => by
    unfold belowRest
    split
    · rename_i h
      constructor
      · intro z; cases z
      · intro z; exact absurd h (z.2 (t, b) (by simp))
    · rename_i h
      rw [belowRest_spec (cs := r)]
      constructor
      · rintro ⟨e, z⟩
        exact ⟨e, fun c hc => by
          rcases List.mem_cons.mp hc with rfl | hc
          · exact h
          · exact z c hc⟩
      · rintro ⟨e, z⟩
        exact ⟨e, fun c hc => z c (List.mem_cons_of_mem _ hc)⟩
theorem belowAll_spec {c0 : Int × Int} {r : List (Int × Int)} {q : Int} : belowAll (c0 :: r) = some q ↔ (∀ c ∈ c0 :: r, 0 < c.2 * c0.2) ∧ (∃ c ∈ c0 :: r, q = c.1.fdiv c.2) ∧ (∀ c ∈ c0 :: r, q ≤ c.1.fdiv c.2) ∧
    ∀ c ∈ c0 :: r, ¬ (0 < (c.1 - (q + 1) * c.2) * c.2 ∨ ((c.1 - (q + 1) * c.2) * c.2 = 0 ∧ c.1 * c0.2 = c0.1 * c.2)) := by
  unfold belowAll
  simp only
  obtain ⟨h1, h2⟩ := foldl_min_mem (r.map fun c => c.1.fdiv c.2) (c0.1.fdiv c0.2)
  split
  · rename_i h
    obtain ⟨c, hc, e⟩ := List.any_eq_true.mp h
    have := of_decide_eq_true e
    constructor
    · intro z; cases z
    · intro z; have := z.1 c hc; omega
  · rename_i h
    rw [belowRest_spec]
    have hp : ∀ c ∈ c0 :: r, 0 < c.2 * c0.2 := fun c hc => by
      rcases Int.lt_or_le 0 (c.2 * c0.2) with z | z
      · exact z
      · exact absurd (List.any_eq_true.mpr ⟨c, hc, by simpa using z⟩) h
    rw [← List.map_cons (f := fun c : Int × Int => c.1.fdiv c.2)] at h1 h2
    constructor
    · rintro ⟨rfl, z⟩
      refine ⟨hp, ?_, fun c hc => h2 _ (List.mem_map.mpr ⟨c, hc, rfl⟩), z⟩
      obtain ⟨c, hc, e⟩ := List.mem_map.mp h1
      exact ⟨c, hc, e.symm⟩
    · rintro ⟨_, ⟨c, hc, e⟩, z2, z3⟩
      have e2 : q = (r.map fun c => c.1.fdiv c.2).foldl min (c0.1.fdiv c0.2) := by
        refine (min_spec _ _ _ ?_ fun y hy => ?_).symm
        · rw [← List.map_cons (f := fun c : Int × Int => c.1.fdiv c.2)]
          exact List.mem_map.mpr ⟨c, hc, e.symm⟩
        · rw [← List.map_cons (f := fun c : Int × Int => c.1.fdiv c.2)] at hy
          obtain ⟨c, hc, rfl⟩ := List.mem_map.mp hy
          exact z2 c hc
      exact ⟨e2, by rw [← e2]; exact z3⟩
theorem fEq_nil {neg : Bool} {xs : List Int} {Ω : Om} {Q : AQ} (k : Q (.bl (if neg then !decide (xs = []) else decide (xs = []))) Ω) : fEq neg (.tup (xs.map D.int)) (.tup []) Ω Q := by
  obtain ⟨p, e1, e2, e3, e4⟩ := D.fits_py 1 (.tup (xs.map D.int)) (by simp only [D.fits]; exact fits_map (fun _ => by simp only [D.fits]) xs)
  have s : SeqAt.shaped p = true := by
    unfold SeqAt.shaped
    rw [e3, Bool.true_and]
    exact decide_eq_true (by omega)
  refine ⟨p, .tuple [], e1, rfl, s, rfl, ?_⟩
  have e : PyData.eqv p (.tuple []) = decide (xs = []) := by
    simp only [D.py, Option.map_eq_some_iff] at e1
    obtain ⟨ps, h, rfl⟩ := e1
    cases xs with
    | nil => simp only [List.map_nil, D.pys, Option.some.injEq] at h; subst h; simp [PyData.eqv, PyData.eqvAll]
    | cons x r =>
      simp only [List.map_cons, D.pys, D.py] at h
      cases q : D.pys (r.map D.int) with
      | none => rw [q] at h; cases h
      | some qs => rw [q] at h; simp only [Option.some.injEq] at h; subst h; simp [PyData.eqv, PyData.eqvAll]
  rw [e]
  exact k
theorem getD_at {xs : List Int} {i : Nat} (h : i < xs.length) {n : Int} (e : n = i) : atI (xs.map D.int) n = some (.int (xs.getD i 0)) := by
  subst e
  rw [atI_eq, List.getElem?_map, List.getElem?_eq_getElem h, List.getD_eq_getElem?_getD, List.getElem?_eq_getElem h]
  rfl
theorem getD_mem {xs : List Int} {i : Nat} (h : i < xs.length) : xs.getD i 0 ∈ xs := by
  rw [List.getD_eq_getElem?_getD, List.getElem?_eq_getElem h]
  exact List.getElem_mem h
inductive Tr where
  | frac (t b : Int)
  | root (t s b : Int)
  | ruled (ps ring steps : List Int)
  | four (a b c d : Int) (x : Tr)
  | eight (a b c d e f g h : Int) (x y : Tr)
  | power (x : Tr) (n : Int)
def Tr.d : Tr → D
  | .frac t b => .tup [.str "fraction", .int t, .int b]
  | .root t s b => .tup [.str "root", .int t, .int s, .int b]
  | .ruled ps ring steps => .tup [.str "ruled", dtup ps, dtup ring, dtup steps]
  | .four a b c d x => .tup [.str "four", dtup [a, b, c, d], x.d]
  | .eight a b c d e f g h x y => .tup [.str "eight", dtup [a, b, c, d, e, f, g, h], x.d, y.d]
  | .power x n => .tup [.str "power", x.d, .int n]
def Few (x : Int) : Prop := x.natAbs ≤ 10 ^ 12
/-- a tree as need_tree wants it, no deeper -/
def Tr.good : Nat → Tr → Prop
  | 0, _ => False
  | _ + 1, .frac t b => Few t ∧ Few b ∧ b ≠ 0
  | _ + 1, .root t s b => Few t ∧ Few s ∧ Few b ∧ 0 ≤ s ∧ b ≠ 0
  | _ + 1, .ruled ps ring steps => 1 ≤ ps.length ∧ ps.length ≤ 12 ∧ ring.length ≤ 12 ∧ ring.length = steps.length ∧ (∀ n ∈ ps ++ ring ++ steps, Few n) ∧ (∀ n ∈ ps.drop 1 ++ ring, 1 ≤ n) ∧ (∀ n ∈ steps, 0 ≤ n) ∧ (ring = [] → 1 < ps.length → ∀ n, ps.getLast? = some n → 2 ≤ n)
  | k + 1, .four a b c d x => Few a ∧ Few b ∧ Few c ∧ Few d ∧ a * d ≠ b * c ∧ Tr.good k x
  | k + 1, .eight a b c d e f g h x y => (∀ n ∈ [a, b, c, d, e, f, g, h], Few n) ∧ (b * e ≠ a * f ∨ c * e ≠ a * g ∨ c * f ≠ b * g ∨ d * e ≠ a * h ∨ d * f ≠ b * h ∨ d * g ≠ c * h) ∧ Tr.good k x ∧ Tr.good k y
  | k + 1, .power x n => 1 ≤ n ∧ n ≤ 4 ∧ Tr.good k x
def pows (x : R) : Nat → R
  | 0 => x
  | n + 1 => .eight 1 0 0 0 0 0 0 1 0 0 false x (pows x n)
def abI (b : Int) : Int := if b < 0 then -b else b
/-- how a tree's reader begins -/
inductive Opened : Tr → R → Prop
  | frac {t b} : Opened (.frac t b) (.frac 0 t b)
  | rootF {t s b f} : 0 ≤ f → f * f = s → Opened (.root t s b) (.frac 0 (t + f) b)
  | rootR {t s b f f'} : 0 ≤ f → f * f < s → s < (f + 1) * (f + 1) → 0 ≤ f' → f' * f' ≤ s * abI b * abI b → s * abI b * abI b < (f' + 1) * (f' + 1) → Opened (.root t s b) (.root 0 (t * abI b) (s * abI b * abI b) (b * abI b) f')
  | ruled {ps ring steps} : Opened (.ruled ps ring steps) (.ruled 0 ps ring steps)
  | four {a b c d x r} : Opened x r → Opened (.four a b c d x) (.four a b c d false false r)
  | eight {a b c d e f g h x y r q} : Opened x r → Opened y q → Opened (.eight a b c d e f g h x y) (.eight a b c d e f g h 0 0 false r q)
  | power {x n r} : Opened x r → Opened (.power x n) (pows r (n - 1).toNat)
/-- where a reader stands in its class -/
def CT.cls (C : CT) : Kd → List Addr
  | .fixed => [C.c_Fixed]
  | .leaf => [C.c_Fraction, C.c_Root, C.c_Ruled]
  | .four => [C.c_Four]
  | .eight => [C.c_Eight]
theorem RdO.obj {C : CT} {Ω : Om} {p : Addr} {r : R} {S : List Addr} (x : RdO C Ω p r S) : ∃ c fs, Ω p = some (.obj c fs) ∧ (∀ m, m = ("told" : Str) ∨ m = ("part" : Str) ∨ m = ("took" : Str) → m ∉ fs.map (·.1)) ∧ c ∈ C.cls r.kd := by
  cases x with
  | fixed e => exact ⟨_, _, e, fun m hm z => by simp only [List.map_cons, List.map_nil, List.mem_cons, List.not_mem_nil, or_false] at z; rcases hm with rfl | rfl | rfl <;> revert z <;> decide, by simp [CT.cls, R.kd]⟩
  | frac e => exact ⟨_, _, e, fun m hm z => by simp only [List.map_cons, List.map_nil, List.mem_cons, List.not_mem_nil, or_false] at z; rcases hm with rfl | rfl | rfl <;> revert z <;> decide, by simp [CT.cls, R.kd]⟩
  | root e => exact ⟨_, _, e, fun m hm z => by simp only [List.map_cons, List.map_nil, List.mem_cons, List.not_mem_nil, or_false] at z; rcases hm with rfl | rfl | rfl <;> revert z <;> decide, by simp [CT.cls, R.kd]⟩
  | ruled e => exact ⟨_, _, e, fun m hm z => by simp only [List.map_cons, List.map_nil, List.mem_cons, List.not_mem_nil, or_false] at z; rcases hm with rfl | rfl | rfl <;> revert z <;> decide, by simp [CT.cls, R.kd]⟩
  | four e => exact ⟨_, _, e, fun m hm z => by simp only [List.map_cons, List.map_nil, List.mem_cons, List.not_mem_nil, or_false] at z; rcases hm with rfl | rfl | rfl <;> revert z <;> decide, by simp [CT.cls, R.kd]⟩
  | fourX e => exact ⟨_, _, e, fun m hm z => by simp only [List.map_cons, List.map_nil, List.mem_cons, List.not_mem_nil, or_false] at z; rcases hm with rfl | rfl | rfl <;> revert z <;> decide, by simp [CT.cls, R.kd]⟩
  | eight e => exact ⟨_, _, e, fun m hm z => by simp only [List.map_cons, List.map_nil, List.mem_cons, List.not_mem_nil, or_false] at z; rcases hm with rfl | rfl | rfl <;> revert z <;> decide, by simp [CT.cls, R.kd]⟩
  | eightX e => exact ⟨_, _, e, fun m hm z => by simp only [List.map_cons, List.map_nil, List.mem_cons, List.not_mem_nil, or_false] at z; rcases hm with rfl | rfl | rfl <;> revert z <;> decide, by simp [CT.cls, R.kd]⟩
  | eightF e => exact ⟨_, _, e, fun m hm z => by simp only [List.map_cons, List.map_nil, List.mem_cons, List.not_mem_nil, or_false] at z; rcases hm with rfl | rfl | rfl <;> revert z <;> decide, by simp [CT.cls, R.kd]⟩
/-- parts taken of leaves -/
def R.tk : R → Nat
  | .fixed .. => 0
  | .frac k _ _ => k
  | .root k _ _ _ _ => k
  | .ruled k _ _ _ => k
  | .four _ _ _ _ _ _ x => x.tk
  | .fourX x _ _ _ => x.tk
  | .eight _ _ _ _ _ _ _ _ _ _ _ x y => x.tk + y.tk
  | .eightX x y _ _ _ => x.tk + y.tk
  | .eightF _ dead fr => dead.tk + fr.tk
theorem R.lv_leaf {r : R} (h : r.kd = .leaf) : r.lv = 3 := by cases r <;> first | rfl | cases h
theorem R.lv_fixed {r : R} (h : r.kd = .fixed) : r.lv = 1 := by cases r <;> first | rfl | cases h
theorem R.lv_four {r : R} (h : r.kd = .four) : 4 ≤ r.lv := by cases r <;> first | (simp only [R.lv]; omega) | cases h
theorem R.lv_eight {r : R} (h : r.kd = .eight) : 4 ≤ r.lv := by cases r <;> first | (simp only [R.lv]; omega) | cases h
theorem Mth.imp {P : Program} {w : World} {K : PySem.W.Frag} {mg : Str → Option Value} {base : Heap} {ca : CA} {k : Nat} {C : Addr} {m : Str} {F F' : AF} (c : Mth P w K mg base ca k C m F) (h : ∀ ds Ω Q E, F' ds Ω Q E → F ds Ω Q E) : Mth P w K mg base ca k C m F' := by
  obtain ⟨f, fd, ps, M, G, b⟩ := c.ex
  exact ⟨f, fd, ps, M, G.imp (spA_imp h), b⟩
theorem cut_from {xs : List D} (k : Nat) : cutD xs (some (k : Int)) none = xs.drop k := by
  unfold cutD
  rw [HT.sIx_nat, HT.sIx_none]
  by_cases h : k ≤ xs.length
  · rw [Nat.min_eq_left h, List.take_of_length_le (by rw [List.length_drop]; omega)]
  · rw [Nat.min_eq_right (by omega), List.drop_length, List.drop_eq_nil_of_le (by omega)]
    simp
theorem cut_1 {xs : List D} : cutD xs (some 1) none = xs.drop 1 := cut_from 1
theorem cut_4 {xs : List D} : cutD xs (some 4) none = xs.drop 4 := cut_from 4
theorem at_of {X : Cx} {ca : CA} {W : WX} {op : CmpOp} {a b : Expr} {ta tb : TE} {ra rb : ATE} {pos : Pos} {r : R2} {f : D → D → Om → AQ → Prop} (ho : OpR X (compareOp op) r) (ha : AE X ca W a ta ra) (hb : AE X ca W b tb rb) (hm : behindInMarks op b = false) (he : AE X ca W (.Compare a [op] [b] pos) (tOp r ta tb) (aOp f ra rb)) :
    AT X ca W (.Compare a [op] [b] pos) (tTest (tOp r ta tb)) (aB (aOp f ra rb)) :=
  ⟨pt_cmpR ho ha.pe hb.pe hm, fun σ H G own ρ Ω Wa Qa Qc r s h k kx => he.sim σ H G own ρ Ω Wa _ _ r s h (fun v H1 G1 own1 d Ω1 e1 r1 dv1 q1 => by
    obtain ⟨c, rfl, q⟩ := q1
    cases dv1
    exact ⟨c, rfl, k _ _ _ _ _ e1 r1 q⟩) kx⟩
theorem at_eqS {X : Cx} {ca : CA} {W : WX} {a b : Expr} {ta tb : TE} {ra rb : ATE} {pos : Pos} (ha : AE X ca W a ta ra) (hb : AE X ca W b tb rb) : AT X ca W (.Compare a [.Eq] [b] pos) (tTest (tOp rEq ta tb)) (aB (aEqS ra rb)) := at_of op_eq ha hb (nomark _) (ae_eqS ha hb)
theorem at_neS {X : Cx} {ca : CA} {W : WX} {a b : Expr} {ta tb : TE} {ra rb : ATE} {pos : Pos} (ha : AE X ca W a ta ra) (hb : AE X ca W b tb rb) : AT X ca W (.Compare a [.NotEq] [b] pos) (tTest (tOp rNe ta tb)) (aB (aNeS ra rb)) := at_of op_ne ha hb (nomark _) (ae_neS ha hb)
theorem rngD_succ {n : Int} {k : Nat} : rngD n (k + 1) = .int n :: rngD (n + 1) k := by
  unfold rngD
  rw [List.range_succ_eq_map, List.map_cons, List.map_map]
  congr 1
  · simp
  · refine List.map_congr_left fun i _ => ?_
    simp only [Function.comp]
    congr 1
    omega
end PL
namespace PL
open PySem PySem.Spec PyProof.Rows L2
theorem div_of {P : Program} {w : World} {K : PySem.W.Frag} {mg : Str → Option Value} {base : Heap} {N : List Str} {qual : Str} {scope : Scope} {f : Addr} {cdv : Value} {A : Around} {outer : List Env} {s : Shared} {H : Hp} {E : XK} {k : Nat} [sr : Seer P base]
    (hr : Rm k (A.deeper (PyProof.Rows.envOfC qual scope s.heap.objs.size f cdv))) (hg : scope.isGenerator = false := by rfl) (hc : scope.isCoroutine = false := by rfl) : Div (cxOf (L2.CX P w) P w K mg base N qual scope f cdv A outer s H E) :=
  ⟨sr.no, sr.tree, ⟨_, _, rfl, hg, hc, rfl, rfl⟩, by have := hr.dp; show (A.deeper (PyProof.Rows.envOfC qual scope s.heap.objs.size f cdv)).depth + 100 < recursionLimit; omega⟩
instance seer_cx {CX : CXT} {P : Program} {w : World} {K : PySem.W.Frag} {mg : Str → Option Value} {base : Heap} {N : List Str} {qual : Str} {scope : Scope} {f : Addr} {cdv : Value} {A : Around} {outer : List Env} {s : Shared} {H : Hp} {E : XK} [sr : Seer P base] : Seer (cxOf CX P w K mg base N qual scope f cdv A outer s H E).prog (cxOf CX P w K mg base N qual scope f cdv A outer s H E).base := sr
instance seer_blk {X : Cx} {scope : Scope} {s : Shared} {H : Hp} {C : Addr} {cl : List (Str × Addr)} {fp : List Addr} [sr : Seer X.prog X.base] : Seer (Blk X scope s H C cl fp).prog (Blk X scope s H C cl fp).base := sr
theorem div_blk {X : Cx} {scope : Scope} {s : Shared} {H : Hp} {C : Addr} {cl : List (Str × Addr)} {fp : List Addr} (d : Div X) : Div (Blk X scope s H C cl fp) := ⟨d.no, d.tree, d.top, d.dp⟩
section
variable {P : Program} {w : World} {K : PySem.W.Frag} {mg mb : Str → Option Value} {CX : CXT} {k : Nat} {fa a : Addr} {fd : FuncData} {x : Str} {sp : Sp} {s : Shared} {vs : List Value} {ns : List Int}
/-- what is hidden holds no namespace, no module and no record of the text's own -/
theorem hid_ns {H : Hp} (hl : ∀ b u, H b = some u → ∃ o, s.heap.get? b = some o ∧ ∃ us n, o.data = .seq us n) {b : Addr} {m : Str → Option Value} (h : s.heap.Ns b m) : (hidT s.heap H).Ns b m := by
  obtain ⟨o, es, ep, e, d, r⟩ := h
  refine ⟨o, es, ep, hidT_get e ?_, d, r⟩
  cases q : H b with
  | none => rfl
  | some u =>
    obtain ⟨o', e', us, n, d'⟩ := hl b u q
    rw [e] at e'
    cases e'
    rw [d] at d'
    cases d'
theorem hid_seer {H : Hp} (hl : ∀ b u, H b = some u → ∃ o, s.heap.get? b = some o ∧ o.cls = .type "list" ∧ ∃ us n, o.data = .seq us n) (h : s.heap.NoSeer) : (hidT s.heap H).NoSeer := by
  have hl' : ∀ b u, H b = some u → ∃ o, s.heap.get? b = some o ∧ ∃ us n, o.data = .seq us n := fun b u q => by
    obtain ⟨o, e, _, r⟩ := hl b u q
    exact ⟨o, e, r⟩
  obtain ⟨⟨mc, c1, c2⟩, ⟨mm, m1, m2⟩, ⟨mb, b1, b2⟩, ⟨mg, bm, ob, g1, g2, g3, g4, g5⟩⟩ := h
  refine ⟨⟨mc, hid_ns hl' c1, c2⟩, ⟨mm, hid_ns hl' m1, m2⟩, ⟨mb, hid_ns hl' b1, b2⟩, ⟨mg, bm, ob, hid_ns hl' g1, g2, hidT_get g3 ?_, g4, g5⟩⟩
  cases q : H bm with
  | none => rfl
  | some u =>
    obtain ⟨o', e', c', _⟩ := hl bm u q
    rw [g3] at e'
    cases e'
    rw [g4] at c'
    exact absurd c' (by simp)
/-- the heap in which the script alone may be followed -/
def scriptH (K : PySem.W.Frag) (a : Addr) (u : HO) : Hp := fun b => if b = a ∧ K.lookup a = none then some u else none
theorem scriptH_at {K : PySem.W.Frag} {a b : Addr} {u v : HO} (h : scriptH K a u b = some v) : b = a ∧ K.lookup a = none ∧ v = u := by
  unfold scriptH at h
  split at h
  · rename_i z
    cases h
    exact ⟨z.1, z.2, rfl⟩
  · cases h
theorem seer_call (KX : K.In s.heap) (hns : s.heap.Ns mainGlobals mg) (hb : s.heap.Ns builtinsNs mb) (hbb : ∀ y : Str, y ≠ "__name__" → mb y = bootBuiltins y) (hlim : s.heap.NoLimit) (hse : s.heap.NoSeer) (hg : s.gens = #[])
    (ha : s.heap.get? a = some { cls := .type "list", data := .seq vs.toArray }) (hi : IntsAre vs ns) (hl : ns.length ≤ sizeLine) (hr : Room k callerA)
    (F : ∀ base : Heap, K.In base → base.Ns mainGlobals mg → base.NoSeer → FnOk P w K mg base CX k fa fd [x] sp) (hbind : ∀ (s : Shared) (u : Value), BindsTo s fd ⟨[u], []⟩ [(x, u)])
    (hsp : ∀ H : Hp, Only H → SqL K H a (ns.map V.int) → sp [.ref a] H (fun v _ => v = .bl true) fun _ _ _ => False) (hCX : ∀ H e s', CX [] H s (fun _ _ _ => False) e s' → False) :
    codeAny (model P w) callerA (.call (.ref fa) ⟨[.ref a], []⟩) (fun r s' => r = .ok (.ret (.bool true)) ∧ PySem.OldK s.heap s'.heap ∧ s'.os = s.os ∧ AllBare s'.gens) s := by
  let so : Obj := { cls := .type "list", data := .seq vs.toArray }
  let U : HO := .frz so (.lst (ns.map V.int))
  let H := scriptH K a U
  have rv := vals_ints hi
  have at_ : ∀ {b u}, H b = some u → b = a ∧ K.lookup a = none ∧ u = U := fun q => scriptH_at q
  have hlist : ∀ b u, H b = some u → ∃ o, s.heap.get? b = some o ∧ o.cls = .type "list" ∧ ∃ us n, o.data = .seq us n := fun b u q => by
    obtain ⟨rfl, _, _⟩ := at_ q
    exact ⟨_, ha, rfl, _, _, rfl⟩
  have hlist' : ∀ b u, H b = some u → ∃ o, s.heap.get? b = some o ∧ ∃ us n, o.data = .seq us n := fun b u q => by
    obtain ⟨rfl, _, _⟩ := at_ q
    exact ⟨_, ha, _, _, rfl⟩
  have only : Only H := fun b => by
    cases q : H b with
    | none => exact .inl rfl
    | some u =>
      obtain ⟨_, _, rfl⟩ := at_ q
      exact .inr ⟨so, _, rfl⟩
  have seq : SqL K H a (ns.map V.int) := by
    cases q : K.lookup a with
    | none => exact .inl (.inr ⟨so, if_pos ⟨rfl, q⟩⟩)
    | some o =>
      have e := KX a o q
      rw [ha] at e
      cases e
      exact .inr ⟨_, vs.toArray, _, q, rfl, rfl, rfl, by rw [List.size_toArray, hi.length]; exact hl, by simpa using rv⟩
  have ok : HOk P w H s.heap := fun b u q => by
    obtain ⟨rfl, _, rfl⟩ := at_ q
    exact ⟨ha, by rw [List.length_map]; exact hl, vs, _, rv, ha⟩
  have kin : K.In (hidT s.heap H) := fun b o e => hidT_get (KX b o e) (by
    cases q : H b with
    | none => rfl
    | some u =>
      obtain ⟨rfl, z, _⟩ := at_ q
      rw [z] at e
      cases e)
  have lim : (hidT s.heap H).NoLimit := by
    obtain ⟨mc, h1, h2⟩ := hlim
    exact ⟨mc, hid_ns hlist' h1, h2⟩
  have e0 : Env0 P w K mg (hidT s.heap H) callerA [] s H := { frames := rfl, mod := ⟨kin, hid_ns hlist' hns, ⟨mb, hid_ns hlist' hb, hbb⟩, lim⟩, bs := fun b o e => of_hidT e, bsz := Nat.le_of_eq (hidT_size _ _), funs := trivial, frf := fun b z => absurd z (by simp [frs]), hok := ok, bare := .of_eq hg }
  have run := (F (hidT s.heap H) kin (hid_ns hlist' hns) (hid_seer hlist hse)).run callerA [] s H ⟨[.ref a], []⟩ [.ref a] [.ref a] (fun v _ => v = .bl true) (fun _ _ _ => False) hr e0 (hbind s _) (.cons rfl .nil) (hsp H only seq)
  refine codeAny_mono run fun r s' q => ?_
  match r, q with
  | .error e, q => exact (hCX H e s' q).elim
  | .ok .next, q => exact q.elim
  | .ok .brk, q => exact q.elim
  | .ok .cont, q => exact q.elim
  | .ok (.ret u), q =>
    obtain ⟨v, H', os, bare, un, ok', rr, rfl⟩ := q
    obtain rfl : u = Value.bool true := rr
    refine ⟨rfl, PySem.OldK.of_keep fun b o e => ?_, os, bare⟩
    cases q : H b with
    | none => exact un.keep b o e q (by simp [frs]) (by simp)
    | some u =>
      obtain ⟨rfl, _, rfl⟩ := at_ q
      obtain ⟨z1, _⟩ := ok _ _ q
      obtain ⟨z2, _⟩ := ok' _ _ (un.frzs _ so _ q)
      rw [e] at z1
      cases z1
      exact z2
end
theorem pl_walkS {l : PySem.W.OpenLaw} {k : Nat} {q : Program} {loose : List Str} {XP : (Str → Option Value) → Heap → Prop} {YP : World → Heap → Prop} {d : DefRec} {K : Params → PySem.W.Frag} (ca : PySem.W.Frag → CA)
    (hn : l.most = some 63) (hdf : d.params.defaults = []) (hr : Room k callerA) (hq : importsNone q = true) (ht : l.prog.given.tree = none) (hY : ∀ (w : World) (h : Heap), YP w h → (K w.params).In h)
    (F : ∀ (w : World) (mg : Str → Option Value) (fa : Addr) (h : Heap), (K w.params).In h → h.Ns mainGlobals mg → mg d.name = some (.ref fa) →
      ∃ fd : FuncData, (∀ (s : Shared) (u : Value), BindsTo s fd ⟨[u], []⟩ [("_law_script", u)]) ∧
        ∀ base : Heap, (K w.params).In base → base.Ns mainGlobals mg → Seer l.prog base → FnOk l.prog w (K w.params) mg base (L2.CX l.prog w) k fa fd ["_law_script"] (spA (K w.params) (ca (K w.params)) F_law)) :
    PySem.W.WalkO q loose XP YP l.row.toRowW d [] (fun f vs => PySem.call f vs) := by
  refine Att.attach_call hn hdf fun w s₀ s1 mg mb fa o pm cd doc a vs ns G Y ho hd hcd hmg hobj hints hlen hg => ?_
  have KX := hY w _ Y
  obtain ⟨fd, hb, hF⟩ := F w mg fa _ KX G.T.g hmg
  refine seer_call KX G.T.g G.T.b G.T.builtins G.T.nolimit (G.T.seer hq) hg hobj hints (Nat.le_trans hlen (show 63 ≤ sizeLine by rw [sizeLine_eq]; decide)) hr (fun base h1 h2 h3 => hF base h1 h2 ⟨h3, ht⟩) hb (fun H hO hS => ?_) fun H e s' z => ?_
  · refine ⟨H, fun _ => none, fun _ => none, [.lst (ns.map D.int)], fun d _ => d = .bl true, fun _ _ => False, only_rel, .cons (.lst hS (DVs.of_ints ns)) .nil, ⟨ns, rfl, hlen, fun _ => rfl⟩, ?_, fun _ _ _ _ _ _ _ z => z⟩
    rintro v H' G' own' d Ω' e r dv rfl
    cases dv
    rfl
  · obtain ⟨_, _, _, _, _, _, _, _, _, _, _, _, z⟩ := z
    exact z
end PL
namespace PL
/-- a seminorm of (top, below) -/
def Ls (k1 k0 : Nat) (t b : Int) : Nat := k1 * t.natAbs + k0 * b.natAbs
theorem Ls_add {k1 k0 : Nat} {t b t' b' : Int} : Ls k1 k0 (t + t') (b + b') ≤ Ls k1 k0 t b + Ls k1 k0 t' b' := by
  unfold Ls
  have h1 := Nat.mul_le_mul_left k1 (Int.natAbs_add_le t t')
  have h2 := Nat.mul_le_mul_left k0 (Int.natAbs_add_le b b')
  rw [Nat.mul_add] at h1 h2
  omega
theorem Ls_mul {k1 k0 : Nat} {t b q : Int} : Ls k1 k0 (t * q) (b * q) = q.natAbs * Ls k1 k0 t b := by
  unfold Ls
  rw [Int.natAbs_mul, Int.natAbs_mul]
  generalize t.natAbs = x
  generalize b.natAbs = y
  generalize q.natAbs = z
  grind
/-- what was told, in short: ahead of the first part (1, 4) -/
def gs (bg : Bool) (k1 k0 : Nat) (q : Int) : Nat × Nat := if bg = true then (k1 * q.toNat + k0, k1) else if 1 ≤ q then (q.toNat + 4, 1) else (q.natAbs + 2, 1)
theorem abs_split {t b r q : Int} (hq : 1 ≤ q) (h : t = q * b + r) (hr : 0 ≤ r * b) (hb : b ≠ 0) : t.natAbs = q.toNat * b.natAbs + r.natAbs := by
  rcases Int.lt_or_gt_of_ne hb with z | z
  · have hr0 : r ≤ 0 := by
      rcases Int.lt_or_le 0 r with g | g
      · have := Int.mul_neg_of_pos_of_neg g z
        omega
      · exact g
    have h1 : q * b ≤ 0 := Int.mul_nonpos_of_nonneg_of_nonpos (by omega) (by omega)
    have h2 : (q * b).natAbs = q.toNat * b.natAbs := by rw [Int.natAbs_mul]; congr 1; omega
    omega
  · have hr0 : 0 ≤ r := by
      rcases Int.lt_or_le r 0 with g | g
      · have := Int.mul_neg_of_neg_of_pos g z
        omega
      · exact g
    have h1 : 0 ≤ q * b := Int.mul_nonneg (by omega) (by omega)
    have h2 : (q * b).natAbs = q.toNat * b.natAbs := by rw [Int.natAbs_mul]; congr 1; omega
    omega
/-- a corner behind a part -/
structure Rem (t b q : Int) : Prop where
  b0 : b ≠ 0
  lo : 0 ≤ (t - q * b) * b
  hi : (t - q * b) * b ≤ b * b
theorem Rem.le {t b q : Int} (h : Rem t b q) : (t - q * b).natAbs ≤ b.natAbs := by
  obtain ⟨b0, lo, hi⟩ := h
  generalize t - q * b = r at lo hi ⊢
  rcases Int.lt_or_gt_of_ne b0 with z | z
  · have h1 : r ≤ 0 := by
      rcases Int.lt_or_le 0 r with g | g
      · have := Int.mul_neg_of_pos_of_neg g z
        omega
      · exact g
    have h2 : b ≤ r := by
      rcases Int.lt_or_le r b with g | g
      · have := Int.mul_lt_mul_of_neg_right g z
        omega
      · exact g
    omega
  · have h1 : 0 ≤ r := by
      rcases Int.lt_or_le r 0 with g | g
      · have := Int.mul_neg_of_neg_of_pos g z
        omega
      · exact g
    have h2 : r ≤ b := by
      rcases Int.lt_or_le b r with g | g
      · have := Int.mul_lt_mul_of_pos_right g z
        omega
      · exact g
    omega
theorem gs_first {t b q : Int} (h : Rem t b q) : Ls (gs false 1 4 q).1 (gs false 1 4 q).2 b (t - q * b) ≤ Ls 1 4 t b := by
  have hle := h.le
  obtain ⟨b0, lo, hi⟩ := h
  unfold gs Ls
  simp only [Bool.false_eq_true, if_false]
  by_cases hq : 1 ≤ q
  · rw [if_pos hq]
    have := abs_split hq (t := t) (b := b) (r := t - q * b) (by omega) lo b0
    simp only [Nat.add_mul]
    omega
  · rw [if_neg hq]
    simp only [Nat.add_mul]
    have h1 : (q * b).natAbs = q.natAbs * b.natAbs := Int.natAbs_mul ..
    have h2 : t.natAbs + (t - q * b).natAbs ≥ (q * b).natAbs := by omega
    rw [h1] at h2
    omega
theorem gs_next {k1 k0 : Nat} {t b q : Int} (hq : 1 ≤ q) (h : Rem t b q) : Ls (gs true k1 k0 q).1 (gs true k1 k0 q).2 b (t - q * b) = Ls k1 k0 t b := by
  have := abs_split hq (t := t) (b := b) (r := t - q * b) (by omega) h.lo h.b0
  unfold gs Ls
  simp only [if_true]
  rw [this]
  generalize q.toNat = x
  generalize b.natAbs = y
  generalize (t - q * b).natAbs = z
  grind
/-- begun: tops and belows on one side -/
structure Bgn (s t b : Int) : Prop where
  lo : 0 ≤ s * b
  hi : s * b ≤ s * t
  ps : 0 < s * t
def Sg (s : Int) : Prop := s = 1 ∨ s = -1
theorem Bgn.muladd {s t b t' b' q : Int} (hq : 0 ≤ q) (h : Bgn s t b) (h' : Bgn s t' b') : Bgn s (t * q + t') (b * q + b') := by
  obtain ⟨h1, h2, h3⟩ := h
  obtain ⟨g1, g2, g3⟩ := h'
  have e1 : s * (t * q + t') = s * t * q + s * t' := by grind
  have e2 : s * (b * q + b') = s * b * q + s * b' := by grind
  have e3 := Int.mul_nonneg h1 hq
  have e4 := Int.mul_le_mul_of_nonneg_right h2 hq
  refine ⟨?_, ?_, ?_⟩
  · rw [e2]; omega
  · rw [e1, e2]; omega
  · rw [e1]; omega
/-- the side behind a part -/
theorem Rem.bgn {t b q : Int} (h : Rem t b q) {s : Int} (hs : Sg s) (hb : 0 < s * b) : Bgn s b (t - q * b) := by
  obtain ⟨b0, lo, hi⟩ := h
  generalize t - q * b = r at lo hi ⊢
  rcases hs with rfl | rfl
  · simp only [Int.one_mul] at *
    refine ⟨?_, ?_, ?_⟩ <;> simp only [Int.one_mul]
    · rcases Int.lt_or_le r 0 with g | g
      · have := Int.mul_neg_of_neg_of_pos g hb
        omega
      · exact g
    · rcases Int.lt_or_le b r with g | g
      · have := Int.mul_lt_mul_of_pos_right g hb
        omega
      · exact g
    · exact hb
  · have hb' : b < 0 := by omega
    refine ⟨?_, ?_, ?_⟩
    · rcases Int.lt_or_le 0 r with g | g
      · have := Int.mul_neg_of_pos_of_neg g hb'
        omega
      · omega
    · rcases Int.lt_or_le r b with g | g
      · have := Int.mul_lt_mul_of_neg_right g hb'
        omega
      · omega
    · omega
theorem Bgn.floor {s t b : Int} (hs : Sg s) (h : Bgn s t b) (b0 : b ≠ 0) : 1 ≤ t.fdiv b := by
  obtain ⟨h1, h2, h3⟩ := h
  have e1 := Int.mul_fdiv_add_fmod t b
  have e2 := fmod_lt (t := t) b0
  generalize t.fdiv b = d at e1 ⊢
  rcases Int.lt_or_le 0 d with z | z
  · exact z
  · exfalso
    rcases hs with rfl | rfl
    · have hb : 0 < b := by omega
      have e3 : t.fmod b < b := Int.fmod_lt_of_pos _ hb
      have e4 := Int.mul_nonpos_of_nonneg_of_nonpos (a := b) (b := d) (by omega) (by omega)
      omega
    · have hb : b < 0 := by omega
      have e3 := (fmod_neg' (t := t) hb).1
      have e4 := Int.mul_nonneg_of_nonpos_of_nonpos (a := b) (b := d) (by omega) (by omega)
      omega
/-- a root behind its first part: the next part is 1 or more -/
def RtB (t b f : Int) : Prop := (0 < b ∧ b ≤ t + f) ∨ (b < 0 ∧ t + f + 1 ≤ b)
structure RtI (t s b f : Int) : Prop where
  f0 : 0 ≤ f
  lo : f * f < s
  hi : s < (f + 1) * (f + 1)
  b0 : b ≠ 0
  dv : ∃ e, b * e = s - t * t
theorem rt_part (t b f : Int) (b0 : b ≠ 0) : ∃ ρ : Int, t + f + (if b < 0 then 1 else 0) = (t + f + (if b < 0 then 1 else 0)).fdiv b * b + ρ ∧ (0 < b → 0 ≤ ρ ∧ ρ < b) ∧ (b < 0 → ρ ≤ 0 ∧ b < ρ) := by
  refine ⟨(t + f + (if b < 0 then 1 else 0)).fmod b, ?_, fun h => ⟨Int.fmod_nonneg_of_pos _ h, Int.fmod_lt_of_pos _ h⟩, fun h => ⟨(fmod_neg' h).2, (fmod_neg' h).1⟩⟩
  have := Int.mul_fdiv_add_fmod (t + f + (if b < 0 then 1 else 0)) b
  rw [Int.mul_comm] at this
  exact this.symm
theorem rt_next {t s b f q t' b' : Int} (h : RtI t s b f) (hq : q = (t + f + (if b < 0 then 1 else 0)).fdiv b) (ht : t' = q * b - t) (hb : b' = (s - t' * t').fdiv b) :
    RtI t' s b' f ∧ RtB t' b' f ∧ b * b' = s - t' * t' ∧ t'.natAbs ≤ f.toNat + 1 + b.natAbs ∧ b'.natAbs ≤ 2 * f.toNat + 2 + b.natAbs := by
  obtain ⟨f0, lo, hi, b0, e, he⟩ := h
  obtain ⟨ρ, h1, h2, h3⟩ := rt_part t b f b0
  rw [← hq] at h1
  -- b divides
  have hd : b * b' = s - t' * t' := by
    have hx : s - t' * t' = b * (e - q * (q * b - 2 * t)) := by rw [ht]; grind
    rw [hb, hx, Int.mul_fdiv_cancel_left _ b0]
  have tl : t'.natAbs ≤ f.toNat + 1 + b.natAbs := by
    rcases Int.lt_or_gt_of_ne b0 with z | z
    · rw [if_pos z] at h1
      have := h3 z
      omega
    · rw [if_neg (by omega)] at h1
      have := h2 z
      omega
  have key : RtB t' b' f ∧ b'.natAbs ≤ 2 * f.toNat + 2 + b.natAbs := by
    rcases Int.lt_or_gt_of_ne b0 with z | z
    · -- below nought
      rw [if_pos z] at h1
      obtain ⟨r1, r2⟩ := h3 z
      have e1 : t' = f + 1 - ρ := by omega
      have x1 : (-b) * b' = t' * t' - s := by rw [Int.neg_mul]; omega
      have x2 : t' * t' - s < (1 - ρ) * (t' + f) := by
        have : (1 - ρ) * (t' + f) = t' * t' - f * f := by rw [e1]; grind
        omega
      have x3 : (1 - ρ) * (t' + f) ≤ (-b) * (t' + f) := Int.mul_le_mul_of_nonneg_right (by omega) (by omega)
      have x4 : (-b) * b' < (-b) * (t' + f) := by omega
      have x5 : b' < t' + f := Int.lt_of_mul_lt_mul_left x4 (by omega)
      have x6 : 0 < (-b) * b' := by
        have : (f + 1) * (f + 1) ≤ t' * t' := Int.mul_le_mul (by omega) (by omega) (by omega) (by omega)
        omega
      have x7 : 0 < b' := Int.pos_of_mul_pos_right x6 (by omega)
      exact ⟨.inl ⟨x7, by omega⟩, by omega⟩
    · rw [if_neg (by omega)] at h1
      obtain ⟨r1, r2⟩ := h2 z
      have e1 : t' = f - ρ := by omega
      rcases Int.lt_or_le (t' + f) 0 with g | g
      · have x2 : t' * t' - s < ((-t') - f) * ρ := by
          have : ((-t') - f) * ρ = t' * t' - f * f := by
            have : ρ = f - t' := by omega
            rw [this]; grind
          omega
        have x3 : ((-t') - f) * ρ ≤ ((-t') - f) * b := Int.mul_le_mul_of_nonneg_left (by omega) (by omega)
        have x4 : b * (-b') < b * ((-t') - f) := by
          have : b * (-b') = t' * t' - s := by rw [Int.mul_neg]; omega
          have : b * ((-t') - f) = ((-t') - f) * b := Int.mul_comm ..
          omega
        have x5 : (-b') < (-t') - f := Int.lt_of_mul_lt_mul_left x4 (by omega)
        have x6 : 0 < b * (-b') := by
          have h5 : (f + 1) * (f + 1) ≤ (-t') * (-t') := Int.mul_le_mul (by omega) (by omega) (by omega) (by omega)
          have : b * (-b') = t' * t' - s := by rw [Int.mul_neg]; omega
          have : (-t') * (-t') = t' * t' := by grind
          omega
        have x7 : 0 < -b' := Int.pos_of_mul_pos_right x6 (by omega)
        exact ⟨.inr ⟨by omega, by omega⟩, by omega⟩
      · have x1 : t' ≤ f := by omega
        have x2 : s - t' * t' < (ρ + 1) * (f + 1 + t') := by
          have : (ρ + 1) * (f + 1 + t') = (f + 1) * (f + 1) - t' * t' := by
            have : ρ = f - t' := by omega
            rw [this]; grind
          omega
        have x3 : (ρ + 1) * (f + 1 + t') ≤ b * (f + 1 + t') := Int.mul_le_mul_of_nonneg_right (by omega) (by omega)
        have x4 : b * b' < b * (f + 1 + t') := by omega
        have x5 : b' < f + 1 + t' := Int.lt_of_mul_lt_mul_left x4 (by omega)
        have x6 : 0 < b * b' := by
          have : t' * t' ≤ f * f := by
            rcases Int.le_total 0 t' with y | y
            · exact Int.mul_le_mul x1 x1 y f0
            · have : (-t') * (-t') ≤ f * f := Int.mul_le_mul (by omega) (by omega) (by omega) f0
              have : (-t') * (-t') = t' * t' := by grind
              omega
          omega
        have x7 : 0 < b' := Int.pos_of_mul_pos_right x6 (by omega)
        exact ⟨.inl ⟨x7, by omega⟩, by omega⟩
  have nb : b' ≠ 0 := by
    rcases key.1 with ⟨z, _⟩ | ⟨z, _⟩ <;> omega
  exact ⟨⟨f0, lo, hi, nb, b, by rw [Int.mul_comm]; exact hd⟩, key.1, hd, tl, key.2⟩
/-- a leaf, its parts short of P bits, for KM parts -/
def LfI (P KM : Nat) : R → Prop
  | .frac k t b => t.natAbs + 2 ≤ 2 ^ P ∧ b.natAbs + 2 ≤ 2 ^ P ∧ (k = 0 → b ≠ 0) ∧ (0 < k → ∃ s, Sg s ∧ Bgn s t b)
  | .root k t s b f => RtI t s b f ∧ (0 < k → RtB t b f) ∧ Sm s ∧ ∃ W, b.natAbs + (KM - k) * (2 * f.toNat + 2) ≤ W ∧ t.natAbs ≤ W ∧ 2 * W + 2 * f.toNat + 4 ≤ 2 ^ P
  | .ruled _ ps ring steps => 1 ≤ ps.length ∧ ps.length < 2 ^ 60 ∧ ring.length < 2 ^ 60 ∧ steps.length = ring.length ∧ (∀ n ∈ ps.drop 1 ++ ring, 1 ≤ n) ∧ (∀ n ∈ steps, 0 ≤ n) ∧ (∀ n ∈ ps ++ ring, n.natAbs + 2 ≤ 2 ^ P) ∧ ∀ n ∈ ring, ∀ m ∈ steps, n.natAbs + KM * m.natAbs + 2 ≤ 2 ^ P
  | _ => False
theorem LfI.kd {P KM : Nat} {r : R} (h : LfI P KM r) : r.kd = .leaf := by cases r <;> first | rfl | exact h.elim
structure Bgn4 (s a b c d : Int) : Prop where
  sg : Sg s
  i : Bgn s a c
  o : Bgn s (a + b) (c + d)
structure Bgn8 (s a b c d e f g h : Int) : Prop where
  sg : Sg s
  ii : Bgn s a e
  io : Bgn s (a + b) (e + f)
  oi : Bgn s (a + c) (e + g)
  oo : Bgn s (a + b + c + d) (e + f + g + h)
/-- r within bounds: whether it has told parts, what it told in short, how many bits it adds to P for each part of a leaf -/
inductive Gd (P KM : Nat) : R → Bool → Nat → Nat → Nat → Prop
  | fixed {t b bg k1 k0 β} : 2 * Ls k1 k0 t b + 8 ≤ 2 ^ β → 1 ≤ k1 → 1 ≤ k0 → k1 + k0 ≤ 2 ^ β → (bg = false → k1 = 1 ∧ k0 = 4) → (bg = true → ∃ s, Sg s ∧ Bgn s t b) → Gd P KM (.fixed t b bg) bg k1 k0 β
  | leaf {r bg k1 k0} : LfI P KM r → bg = decide (0 < r.tk) → 1 ≤ k1 → 1 ≤ k0 → k1 + k0 ≤ 2 ^ (P * r.tk + 3) → (bg = false → k1 = 1 ∧ k0 = 4) → Gd P KM r bg k1 k0 3
  | four {a b c d rdy bg x k1 k0 x1 x0 N ν β} : Gd P KM x rdy x1 x0 β → N < 2 ^ ν → 1 ≤ N → a * d ≠ b * c → 1 ≤ k1 → 1 ≤ k0 → (bg = false → k1 = 1 ∧ k0 = 4) → (rdy = false → bg = false ∧ Ls k1 k0 a c ≤ N ∧ Ls k1 k0 b d ≤ N) → (rdy = true → Ls k1 k0 a c ≤ N * x1 ∧ Ls k1 k0 (a + b) (c + d) ≤ N * (x1 + x0)) →
      (bg = true → k1 ≤ N * x1 ∧ k0 ≤ N * x1 + 1 ∧ ∃ s, Bgn4 s a b c d) → Gd P KM (.four a b c d rdy bg x) bg k1 k0 (β + ν + 3)
  | fourX {x t b bg k1 k0 β} : 2 * Ls k1 k0 t b + 8 ≤ 2 ^ (P * x.tk + β) → 3 ≤ β → 1 ≤ k1 → 1 ≤ k0 → k1 + k0 ≤ 2 ^ (P * x.tk + β) → (bg = false → k1 = 1 ∧ k0 = 4) → (bg = true → ∃ s, Sg s ∧ Bgn s t b) → Gd P KM (.fourX x t b bg) bg k1 k0 β
  | eight {a b c d e f g h m0 m1 bg x y k1 k0 x1 x0 y1 y0 N ν β γ} : Gd P KM x (decide (0 < m0)) x1 x0 β → Gd P KM y (decide (0 < m1)) y1 y0 γ → N < 2 ^ ν → 1 ≤ N → m1 ≤ m0 → m0 ≤ m1 + 1 → 1 ≤ k1 → 1 ≤ k0 → (bg = false → k1 = 1 ∧ k0 = 4) → (m1 = 0 → bg = false) →
      (m0 = 0 → Ls k1 k0 a e ≤ N ∧ Ls k1 k0 b f ≤ N ∧ Ls k1 k0 c g ≤ N ∧ Ls k1 k0 d h ≤ N) →
      (0 < m0 → m1 = 0 → Ls k1 k0 a e ≤ N * x1 ∧ Ls k1 k0 b f ≤ N * x1 ∧ Ls k1 k0 (a + c) (e + g) ≤ N * (x1 + x0) ∧ Ls k1 k0 (b + d) (f + h) ≤ N * (x1 + x0)) →
      (0 < m1 → Ls k1 k0 a e ≤ N * x1 * y1 ∧ Ls k1 k0 (a + b) (e + f) ≤ N * x1 * (y1 + y0) ∧ Ls k1 k0 (a + c) (e + g) ≤ N * (x1 + x0) * y1 ∧ Ls k1 k0 (a + b + c + d) (e + f + g + h) ≤ N * (x1 + x0) * (y1 + y0)) →
      (bg = true → k1 ≤ N * x1 * y1 ∧ k0 ≤ N * x1 * y1 + 1 ∧ ∃ s, Bgn8 s a b c d e f g h) → Gd P KM (.eight a b c d e f g h m0 m1 bg x y) bg k1 k0 (β + γ + ν + 3)
  | eightX {x y t b bg k1 k0 β} : 2 * Ls k1 k0 t b + 8 ≤ 2 ^ (P * (x.tk + y.tk) + β) → 3 ≤ β → 1 ≤ k1 → 1 ≤ k0 → k1 + k0 ≤ 2 ^ (P * (x.tk + y.tk) + β) → (bg = false → k1 = 1 ∧ k0 = 4) → (bg = true → ∃ s, Sg s ∧ Bgn s t b) → Gd P KM (.eightX x y t b bg) bg k1 k0 β
  | eightF {w dead fr bg k1 k0 β} : fr.kd = .four → 3 ≤ β → Gd P KM fr bg k1 k0 (P * dead.tk + β) → Gd P KM (.eightF w dead fr) bg k1 k0 β
theorem sm_of {x : Int} {e : Nat} (h : x.natAbs ≤ 2 ^ e) (he : e < 290000) : Sm x := by
  have : 2 ^ e < 2 ^ 290000 := Nat.pow_lt_pow_right (by decide) he
  unfold Sm
  omega
theorem Ls_top {k1 k0 : Nat} {t b : Int} {n : Nat} (h : Ls k1 k0 t b ≤ n) (h1 : 1 ≤ k1) (h2 : 1 ≤ k0) : t.natAbs ≤ n ∧ b.natAbs ≤ n := by
  unfold Ls at h
  have e1 := Nat.mul_le_mul_right t.natAbs h1
  have e2 := Nat.mul_le_mul_right b.natAbs h2
  omega
theorem gs_pos {bg : Bool} {k1 k0 : Nat} {q : Int} (h1 : 1 ≤ k1) (h0 : 1 ≤ k0) (hq : bg = true → 1 ≤ q) : 1 ≤ (gs bg k1 k0 q).1 ∧ 1 ≤ (gs bg k1 k0 q).2 := by
  unfold gs
  cases bg with
  | true =>
    have h := hq rfl
    simp only [if_true]
    have := Nat.le_mul_of_pos_right k1 (show 0 < q.toNat by omega)
    omega
  | false =>
    simp only [Bool.false_eq_true, if_false]
    split <;> simp only <;> omega
/-- what a part leaves of a corner, in short -/
theorem gs_rem {bg : Bool} {k1 k0 : Nat} {t b q : Int} (hb : bg = false → k1 = 1 ∧ k0 = 4) (hq : bg = true → 1 ≤ q) (h : Rem t b q) : Ls (gs bg k1 k0 q).1 (gs bg k1 k0 q).2 b (t - q * b) ≤ Ls k1 k0 t b := by
  cases bg with
  | true => exact Nat.le_of_eq (gs_next (hq rfl) h)
  | false =>
    obtain ⟨rfl, rfl⟩ := hb rfl
    exact gs_first h
theorem gs_k {bg : Bool} {k1 k0 n : Nat} {t b q : Int} (h1 : 1 ≤ k1) (h0 : 1 ≤ k0) (hq : bg = true → 1 ≤ q) (h : Ls (gs bg k1 k0 q).1 (gs bg k1 k0 q).2 b (t - q * b) ≤ n) (b0 : b ≠ 0) (hk : bg = true → k1 ≤ n) : (gs bg k1 k0 q).1 ≤ n ∧ (gs bg k1 k0 q).2 ≤ n + 1 := by
  obtain ⟨g1, g2⟩ := gs_pos h1 h0 hq
  unfold Ls at h
  have := Nat.le_mul_of_pos_right (gs bg k1 k0 q).1 (show 0 < b.natAbs by omega)
  refine ⟨by omega, ?_⟩
  cases bg with
  | true => unfold gs; simp only [if_true]; have := hk rfl; omega
  | false => unfold gs; simp only [Bool.false_eq_true, if_false]; split <;> simp only <;> omega
theorem sg_of {b : Int} (h : b ≠ 0) : ∃ s, Sg s ∧ 0 < s * b := by
  rcases Int.lt_or_gt_of_ne h with z | z
  · exact ⟨-1, .inr rfl, by omega⟩
  · exact ⟨1, .inl rfl, by omega⟩
theorem Rem.lt {t b q : Int} (h : Rem t b q) (hq : 1 ≤ q) : (t - q * b).natAbs < t.natAbs := by
  have e := abs_split hq (t := t) (b := b) (r := t - q * b) (by omega) h.lo h.b0
  have h0 := h.b0
  have := Nat.le_mul_of_pos_left b.natAbs (show 0 < q.toNat by omega)
  omega
theorem Ls_lin {k1 k0 : Nat} {t b t' b' p : Int} {n m : Nat} (hp : 0 ≤ p) (h : Ls k1 k0 t b ≤ n) (h' : Ls k1 k0 t' b' ≤ m) : Ls k1 k0 (t * p + t') (b * p + b') ≤ p.toNat * n + m := by
  have h1 := Ls_add (k1 := k1) (k0 := k0) (t := t * p) (b := b * p) (t' := t') (b' := b')
  rw [Ls_mul] at h1
  have h2 := Nat.mul_le_mul_left p.natAbs h
  have : p.natAbs = p.toNat := by omega
  rw [this] at h1 h2
  omega
theorem Ls_lin' {k1 k0 : Nat} {t b t' b' p : Int} {n m : Nat} (h : Ls k1 k0 t b ≤ n) (h' : Ls k1 k0 t' b' ≤ m) : Ls k1 k0 (t * p + t') (b * p + b') ≤ p.natAbs * n + m := by
  have h1 := Ls_add (k1 := k1) (k0 := k0) (t := t * p) (b := b * p) (t' := t') (b' := b')
  rw [Ls_mul] at h1
  have h2 := Nat.mul_le_mul_left p.natAbs h
  omega
/-- the two corners in one chain's direction, behind a part of it -/
theorem two_in {k1 k0 M x1 x0 : Nat} {t b t' b' p : Int} (hp : 1 ≤ p) (h : Ls k1 k0 t b ≤ M * x1) (h' : Ls k1 k0 (t + t') (b + b') ≤ M * (x1 + x0)) :
    Ls k1 k0 (t * p + t') (b * p + b') ≤ M * (x1 * p.toNat + x0) ∧ Ls k1 k0 (t * p + t' + t) (b * p + b' + b) ≤ M * (x1 * p.toNat + x0 + x1) := by
  have e1 : t * p + t' = t * (p - 1) + (t + t') := by grind
  have e2 : b * p + b' = b * (p - 1) + (b + b') := by grind
  have e3 : t * p + t' + t = t * p + (t + t') := by grind
  have e4 : b * p + b' + b = b * p + (b + b') := by grind
  obtain ⟨n, rfl⟩ : ∃ n : Nat, p = (n : Int) + 1 := ⟨(p - 1).toNat, by omega⟩
  have q1 := Ls_lin (p := (n : Int) + 1 - 1) (by omega) h h'
  have q2 := Ls_lin (p := (n : Int) + 1) (by omega) h h'
  have t1 : ((n : Int) + 1 - 1).toNat = n := by omega
  have t2 : ((n : Int) + 1).toNat = n + 1 := by omega
  rw [t1] at q1
  rw [t2] at q2
  rw [e3, e4, e1, e2, t2]
  refine ⟨Nat.le_trans q1 (Nat.le_of_eq ?_), Nat.le_trans q2 (Nat.le_of_eq ?_)⟩ <;> grind
/-- .. the first part -/
theorem two_first {k1 k0 M : Nat} {t b t' b' p : Int} (h : Ls k1 k0 t b ≤ M) (h' : Ls k1 k0 t' b' ≤ M) : Ls k1 k0 (t * p + t') (b * p + b') ≤ M * (gs false 1 4 p).1 ∧ Ls k1 k0 (t * p + t' + t) (b * p + b' + b) ≤ M * ((gs false 1 4 p).1 + (gs false 1 4 p).2) := by
  have q1 := Ls_lin' (p := p) h h'
  have q2 := Ls_add (k1 := k1) (k0 := k0) (t := t * p + t') (b := b * p + b') (t' := t) (b' := b)
  have g1 : p.natAbs + 1 ≤ (gs false 1 4 p).1 := by unfold gs; simp only [Bool.false_eq_true, if_false]; split <;> simp only <;> omega
  have g2 : (gs false 1 4 p).2 = 1 := by unfold gs; simp only [Bool.false_eq_true, if_false]; split <;> rfl
  rw [g2]
  have g3 := Nat.mul_le_mul_left M g1
  have g4 : M * (p.natAbs + 1) = p.natAbs * M + M := by grind
  have g5 : M * ((gs false 1 4 p).1 + 1) = M * (gs false 1 4 p).1 + M := by grind
  omega
theorem gs_up {x1 x0 : Nat} {p : Int} (hp : 1 ≤ p) : (gs true x1 x0 p).1 = x1 * p.toNat + x0 ∧ (gs true x1 x0 p).2 = x1 ∧ x1 ≤ x1 * p.toNat + x0 := by
  refine ⟨by unfold gs; simp, by unfold gs; simp, ?_⟩
  have := Nat.le_mul_of_pos_right x1 (show 0 < p.toNat by omega)
  omega
/-- a four with the bounds of its inner reader in sight -/
structure G4 (a b c d : Int) (rdy bg : Bool) (k1 k0 x1 x0 N : Nat) : Prop where
  det : a * d ≠ b * c
  p1 : 1 ≤ k1
  p0 : 1 ≤ k0
  n1 : 1 ≤ N
  fst : bg = false → k1 = 1 ∧ k0 = 4
  off : rdy = false → bg = false ∧ Ls k1 k0 a c ≤ N ∧ Ls k1 k0 b d ≤ N
  on : rdy = true → Ls k1 k0 a c ≤ N * x1 ∧ Ls k1 k0 (a + b) (c + d) ≤ N * (x1 + x0)
  bgn : bg = true → k1 ≤ N * x1 ∧ k0 ≤ N * x1 + 1 ∧ ∃ s, Bgn4 s a b c d
theorem G4.take {a b c d p : Int} {rdy bg : Bool} {k1 k0 x1 x0 N : Nat} (g : G4 a b c d rdy bg k1 k0 x1 x0 N) (hp : rdy = true → 1 ≤ p) (hx : rdy = false → x1 = 1 ∧ x0 = 4) : G4 (a * p + b) a (c * p + d) c true bg k1 k0 (gs rdy x1 x0 p).1 (gs rdy x1 x0 p).2 N := by
  obtain ⟨det, p1, p0, n1, fst, off, on, bgn⟩ := g
  have hdet : (a * p + b) * c ≠ a * (c * p + d) := by
    have : (a * p + b) * c - a * (c * p + d) = -(a * d - b * c) := by grind
    omega
  cases rdy with
  | false =>
    obtain ⟨hb, o1, o2⟩ := off rfl
    obtain ⟨e1, e2⟩ := hx rfl
    subst e1 e2
    obtain ⟨q1, q2⟩ := two_first (p := p) o1 o2
    exact ⟨hdet, p1, p0, n1, fst, fun z => (by cases z), fun _ => ⟨q1, q2⟩, fun z => by rw [hb] at z; cases z⟩
  | true =>
    obtain ⟨o1, o2⟩ := on rfl
    have hp1 := hp rfl
    obtain ⟨u1, u2, u3⟩ := gs_up (x1 := x1) (x0 := x0) hp1
    rw [u1, u2]
    obtain ⟨q1, q2⟩ := two_in hp1 o1 o2
    refine ⟨hdet, p1, p0, n1, fst, fun z => (by cases z), fun _ => ⟨q1, q2⟩, fun z => ?_⟩
    obtain ⟨b1, b2, s, b3⟩ := bgn z
    have := Nat.mul_le_mul_left N u3
    refine ⟨by omega, by omega, s, b3.sg, ?_, ?_⟩
    · have e1 : a * p + b = a * (p - 1) + (a + b) := by grind
      have e2 : c * p + d = c * (p - 1) + (c + d) := by grind
      rw [e1, e2]
      exact Bgn.muladd (by omega) b3.i b3.o
    · have e3 : a * p + b + a = a * p + (a + b) := by grind
      have e4 : c * p + d + c = c * p + (c + d) := by grind
      rw [e3, e4]
      exact Bgn.muladd (by omega) b3.i b3.o
end PL
namespace PL
section
variable {P KM : Nat}
/-- a plain fraction's next part -/
structure Fx (t b : Int) (bg : Bool) (k1 k0 E : Nat) : Prop where
  sz : 2 * Ls k1 k0 t b + 8 ≤ E
  p1 : 1 ≤ k1
  p0 : 1 ≤ k0
  ks : k1 + k0 ≤ E
  fst : bg = false → k1 = 1 ∧ k0 = 4
  bgn : bg = true → ∃ s, Sg s ∧ Bgn s t b
theorem Fx.rem {t b : Int} (b0 : b ≠ 0) : Rem t b (t.fdiv b) := by
  refine ⟨b0, ?_, ?_⟩ <;> rw [sub_fdiv]
  · rcases Int.lt_or_gt_of_ne b0 with z | z
    · exact Int.mul_nonneg_of_nonpos_of_nonpos (fmod_neg' z).2 (by omega)
    · exact Int.mul_nonneg (Int.fmod_nonneg_of_pos _ z) (by omega)
  · rcases Int.lt_or_gt_of_ne b0 with z | z
    · exact Int.mul_le_mul_of_nonpos_right (by have := (fmod_neg' (t := t) z).1; omega) (by omega)
    · exact Int.mul_le_mul_of_nonneg_right (by have := Int.fmod_lt_of_pos t z; omega) (by omega)
theorem Fx.next {t b : Int} {bg : Bool} {k1 k0 E : Nat} (h : Fx t b bg k1 k0 E) (b0 : b ≠ 0) : (bg = true → 1 ≤ t.fdiv b) ∧ Fx b (t - t.fdiv b * b) true (gs bg k1 k0 (t.fdiv b)).1 (gs bg k1 k0 (t.fdiv b)).2 E := by
  obtain ⟨sz, p1, p0, ks, fst, bgn⟩ := h
  have rm := Fx.rem (t := t) b0
  have hq : bg = true → 1 ≤ t.fdiv b := fun z => by
    obtain ⟨s, hs, hb⟩ := bgn z
    exact hb.floor hs b0
  have l1 := gs_rem fst hq rm
  have hk : bg = true → k1 ≤ Ls k1 k0 t b := fun z => by
    obtain ⟨s, hs, hb⟩ := bgn z
    have h3 := hb.ps
    have : t ≠ 0 := fun e => by rw [e, Int.mul_zero] at h3; omega
    unfold Ls
    have := Nat.le_mul_of_pos_right k1 (show 0 < t.natAbs by omega)
    omega
  obtain ⟨q1, q2⟩ := gs_k p1 p0 hq l1 b0 hk
  obtain ⟨q3, q4⟩ := gs_pos p1 p0 hq
  refine ⟨hq, by omega, q3, q4, by omega, (fun z => by cases z), fun _ => ?_⟩
  obtain ⟨s, hs, hp⟩ := sg_of b0
  exact ⟨s, hs, rm.bgn hs hp⟩
theorem Fx.sm {t b : Int} {bg : Bool} {k1 k0 e : Nat} (h : Fx t b bg k1 k0 (2 ^ e)) (he : e < 290000) : Sm t ∧ Sm b := by
  have := Ls_top (Nat.le_refl _) h.p1 h.p0 (t := t) (b := b)
  have := h.sz
  exact ⟨sm_of (e := e) (by omega) he, sm_of (e := e) (by omega) he⟩
/-- one asking, and what holds behind a part -/
inductive On (P KM : Nat) (S : R → Nat → Nat → Nat → Prop) : R → Bool → Nat → Nat → Nat → Nat → Prop
  | part {n r r' bg k1 k0 β q} {m m' : Nat} : Told n r m r' m' (.part q) → (bg = true → 1 ≤ q) → Gd P KM r' true (gs bg k1 k0 q).1 (gs bg k1 k0 q).2 β → S r' (gs bg k1 k0 q).1 (gs bg k1 k0 q).2 m' → r'.tk + m' = r.tk + m → On P KM S r bg k1 k0 β m
  | waits {n r r' bg k1 k0 β} {m : Nat} : Told n r m r' 0 .waits → Gd P KM r' bg k1 k0 β → r'.tk = r.tk + m → On P KM S r bg k1 k0 β m
  | fin {n r r' bg k1 k0 β} {m m' : Nat} : bg = true → Told n r m r' m' .fin → Gd P KM r' bg k1 k0 β → r'.tk + m' = r.tk + m → On P KM S r bg k1 k0 β m
  | none {n r r' bg k1 k0 β} {m m' : Nat} : bg = false → Told n r m r' m' .none → Gd P KM r' bg k1 k0 β → r'.tk + m' = r.tk + m → On P KM S r bg k1 k0 β m
theorem On.imp {S S' : R → Nat → Nat → Nat → Prop} {r : R} {bg : Bool} {k1 k0 β m : Nat} (o : On P KM S r bg k1 k0 β m) (h : ∀ r' a b m', S r' a b m' → S' r' a b m') : On P KM S' r bg k1 k0 β m := by
  cases o with
  | part h1 h2 h3 h4 h5 => exact .part h1 h2 h3 (h _ _ _ _ h4) h5
  | waits h1 h2 h3 => exact .waits h1 h2 h3
  | fin h0 h1 h2 h3 => exact .fin h0 h1 h2 h3
  | none h0 h1 h2 h3 => exact .none h0 h1 h2 h3
end
end PL
namespace PL
theorem pows_lv {r : R} : ∀ n, (pows r n).lv ≤ max r.lv 3 + 2 * n
  | 0 => by simp only [pows]; omega
  | n + 1 => by
    have := pows_lv (r := r) n
    simp only [pows, R.lv]
    omega
theorem opened_lv : ∀ (k : Nat) (tr : Tr) (r : R), tr.good k → Opened tr r → r.lv ≤ 3 + 6 * k
  | 0, tr, r, h, _ => by cases tr <;> exact h.elim
  | k + 1, tr, r, h, o => by
    cases o with
    | four ho =>
      have := opened_lv k _ _ h.2.2.2.2.2 ho
      simp only [R.lv]; omega
    | eight ho ho2 =>
      have := opened_lv k _ _ h.2.2.1 ho
      have := opened_lv k _ _ h.2.2.2 ho2
      simp only [R.lv]; omega
    | @power x n r0 ho =>
      obtain ⟨h1, h2, h3⟩ := h
      have := opened_lv k _ _ h3 ho
      have := pows_lv (r := r0) (n - 1).toNat
      omega
    | _ => simp only [R.lv]; omega
end PL
namespace PL
open PySem PySem.Spec PyProof.Rows L2
section
variable {X : Cx} {ca : CA} {W : WX} {pos pos' np : Pos} {x n : Str} {cv : Value} {body suite : List Stmt} {b0 : Stmt} {tb : WX → TS} {rb : ATS} {tsu : TS} {rsu : ATS}
/-- a wish of an exception that nothing is asked of -/
theorem any_takes (hs : X.stack = X.env :: X.outer) (hf : X.env.frame = some X.env.locals) (W : WX) : ∃ xe, Takes (X.tr [] xe) W ∧ PassesOwn (model X.prog X.w) X.A X.env xe := by
  refine ⟨fun e s => wpAny (model X.prog X.w) X.A (noteFrame e X.env) (fun _ s2 => wpAny (model X.prog X.w) X.A (setFlight e none) (fun _ _ => True) (fun _ _ => True) s2) (fun _ _ => True) s, fun u s' xx => ?_, PassesOwn.looking⟩
  obtain ⟨a, B, sI, pins', σ', H', cls, d, rfl, J', nb, up, sky, na, os, ag, w⟩ := xx
  have hfr : X.A.frames = some (X.env :: X.outer) := by rw [J'.ok.frames.symm.symm]; exact congrArg some hs
  have sky' : Sky B (X.env :: X.outer) a (Zc cls d) X.env.locals s'.heap := by rw [← hs]; exact sky
  show wpAny (model X.prog X.w) X.A (noteFrame (.ref a) X.env) (fun _ s2 => wpAny (model X.prog X.w) X.A (setFlight (.ref a) none) (fun _ _ => True) (fun _ _ => True) s2) (fun _ _ => True) s'
  refine Sky.land Zc.steady hfr hf sky' fun h3 fl3 up3 => ?_
  exact True.intro
def aTry (c : Value → Option Bool) (b h : ATS) : ATS := fun Wa Da ρ Ω => b (fun cls ρ' Ω' => ∃ k, c cls = some k ∧ if k = true then h Wa Da ρ' Ω' else Wa cls ρ' Ω') Da ρ Ω
end
end PL
namespace PL
open PySem L2
section
variable {X : Cx} {ca : CA} {W : WX} {a b e : Expr} {ta tb te : TE} {ra rb re : ATE} {pos p p2 : Pos} {ts : TS} {rs : ATS}
def pairD (xs ys : List D) : List D := List.zipWith (fun x y => .tup [x, y]) xs ys
def aForZip (ra rb : ATE) (g : AG) (b : ATS) : ATS := fun Wa Da ρ Ω => ra Wa ρ Ω fun d Ω1 => rb Wa ρ Ω1 fun d2 Ω2 => ∃ xs ys, d = .lst xs ∧ d2 = .lst ys ∧ xs.length = ys.length ∧ forL g b (pairD xs ys) Wa Da ρ Ω2
/-- [elt for (..) in zip(xs, ys)] -/
def aLcZip (ra rb : ATE) (g : AG) (re : ATE) (vs : List Nat) : ATE := fun Wa ρ Ω Q => ra Wa ρ Ω fun d Ω1 => rb Wa ρ Ω1 fun d2 Ω2 => ∃ xs ys, d = .lst xs ∧ d2 = .lst ys ∧ xs.length = ys.length ∧ compL g aYes re vs (pairD xs ys) [] Wa0 ρ Ω2 Q
end
end PL
namespace PL
open PySem L2
theorem ASs.cast {X : Cx} {ca : CA} {W : WX} {l : List Stmt} {ts ts' : TS} {rs rs' : ATS} (h : ASs X ca W l ts' rs') (h1 : ts' = ts) (h2 : rs' = rs) : ASs X ca W l ts rs := h2 ▸ h1 ▸ h
instance seer_tr {X : Cx} {pn : List (Addr × Obj)} {xe : Value → Shared → Prop} [sr : Seer X.prog X.base] : Seer (X.tr pn xe).prog (X.tr pn xe).base := sr
end PL
namespace PL
open PySem L2
def forO (a : Addr) (ns : List Int) (g : AG) (b : ATS) : List Int → ATS
  | [], _, Da, ρ, Ω => Ω a = some (.lst (ns.map D.int)) ∧ Da.nx ρ Ω
  | x :: xs, Wa, Da, ρ, Ω => Ω a = some (.lst (ns.map D.int)) ∧ g (.int x) ρ Ω fun ρ1 Ω1 => b Wa { Da with nx := forO a ns g b xs Wa Da, ct := forO a ns g b xs Wa Da, bk := Da.nx } ρ1 Ω1
def aForO (ra : ATE) (g : AG) (b : ATS) : ATS := fun Wa Da ρ Ω => ra Wa ρ Ω fun d Ω1 => ∃ a ns, d = .o a ∧ forO a ns g b ns Wa Da ρ Ω1
end PL
namespace PL
open PySem PySem.Spec PyProof.Rows L2
section
variable {X : Cx} {ca : CA} {W : WX} {a b e : Expr} {ta tb te : TE} {ra rb re : ATE} {pos p p2 : Pos} {ts : TS} {rs : ATS}
/-- for x, y in zip(a tuple, a list) -/
def aForZipM (ra rb : ATE) (g : AG) (b : ATS) : ATS := fun Wa Da ρ Ω => ra Wa ρ Ω fun d Ω1 => rb Wa ρ Ω1 fun d2 Ω2 => ∃ xs ys, d = .tup xs ∧ d2 = .lst ys ∧ xs.length = ys.length ∧ forL g b (pairD xs ys) Wa Da ρ Ω2
end
section
variable {X : Cx} {ca : CA} {W : WX} {a b : Expr} {ta tb : TE} {ra rb : ATE} {pos : Pos}
def fInD (neg : Bool) : D → D → Om → AQ → Prop := fun x y Ω Q => ∃ (ys : List D) (p : PyData) (ps : List PyData), y = .lst ys ∧ x.py = some p ∧ D.pys ys = some ps ∧ SeqAt.shaped p = true ∧ SeqAt.shaped (.list ps) = true ∧ Q (.bl (if neg then !(ps.any fun z => PyData.eqv z p) else ps.any fun z => PyData.eqv z p)) Ω
def aInD := aOp (fInD false)
def aNotInD := aOp (fInD true)
end
theorem u65 {k : Nat} {A : Around} (r : Room k A) : A.units + 65 < cLine := by have := r.un; omega
end PL
namespace PySem.W
open PySem
theorem kit_ref {K : Frag} {R C : Addr} {b : Bool} (h : subIn K (.ref R) (.ref C) = some b) (hs : subIn K (.ref R) (.ref R) = some true) (hd : hasDictIn K C = true) (ty : typeIn K (.ref C) = some (.type "type")) : kitOne K (.ref R) (.ref C) = some b := by
  obtain ⟨cd, hc, _⟩ := any_some hd
  unfold kitOne
  by_cases e : (Value.ref R == Value.ref C) = true
  · rw [if_pos e]
    have e' : R = C := Value.ref.inj (beq_iff_eq.mp e)
    subst e'
    rw [hs] at h
    exact h
  · rw [if_neg e]
    have e2 : ((clsIn K C).isSome && typeIn K (.ref C) == some (.type "type")) = true := by rw [hc, ty] <;> rfl
    show (if ((clsIn K C).isSome && typeIn K (.ref C) == some (.type "type")) = true then subIn K (.ref R) (.ref C) else none) = some b
    rw [if_pos e2]
    exact h
theorem kit_typ {K : Frag} {R : Addr} {T : String} {b : Bool} (h : subIn K (.ref R) (.type T) = some b) (hm : kitMeta T = true) : kitOne K (.ref R) (.type T) = some b := by
  unfold kitOne
  have e : ¬ (Value.ref R == Value.type T) = true := by intro z; have := beq_iff_eq.mp z; cases this
  rw [if_neg e]
  show (if kitMeta T = true then subIn K (.ref R) (.type T) else none) = some b
  rw [if_pos hm]
  exact h
end PySem.W
namespace PL
open PySem PySem.Spec PyProof.Rows L2
theorem boot_ty_ValueError : bootBuiltins "ValueError" = some (.type "ValueError") := by decide +kernel
theorem meta_ValueError : PySem.W.kitMeta "ValueError" = true := by decide +kernel
theorem pe_gR {X : Cx} {x : Str} {i : Addr} {pos : Pos} (hg : Gl X x) (hm : X.mg x = some (.ref i)) (hd : (x == ("__debug__" : Str)) = false := by decide) : PE X (.Name x pos) (tC (.ref i)) := pe_glob hg hm rfl hd
theorem pe_gT {X : Cx} {x : Str} {Tn : String} {pos : Pos} (hg : Gl X x) (hm : X.mg x = none) (hv : bootBuiltins x = some (.type Tn)) (hn : x ≠ "__name__" := by decide) (hd : (x == ("__debug__" : Str)) = false := by decide) : PE X (.Name x pos) (tC (.ty Tn)) := pe_bltn hg hm hv rfl hn hd
section
variable {X : Cx} {ca : CA} {W : WX} {pos pos' np p p2 : Pos} {a : Addr} {oe : Obj} {cls : Value} {pn : List (Addr × Obj)} {e e1 e2 : Expr} {te : TE} {re : ATE}
def rE1 (K : PySem.W.Frag) (cls : Value) (a : Addr) : List V → Hp → VK → Prop := fun xs H Q => ∃ D, cls = .ref D ∧ ExcC K D ∧ rIsE K D a xs H Q
theorem call_E1 (hz : Zc cls none oe) (hf : ∃ vs, oe.data = .fields vs) : CallR (X.suite a ((a, oe) :: pn)) (.builtin "isinstance") (rE1 X.K cls a) := by
  intro pins s σ H xs us Q I r h
  obtain ⟨D, rfl, C, h⟩ := h
  exact call_isE C hz hf pins s σ H xs us Q I r h
def aIsE (K : PySem.W.Frag) (cls : Value) (a : Addr) (cv : Value) (re : ATE) : ATE := fun Wa ρ Ω Q => re Wa ρ Ω fun x Ω1 => x = .o a ∧ ∃ D b, cls = .ref D ∧ ExcC K D ∧ PySem.W.kitOne K (.ref D) cv = some b ∧ Q (.bl b) Ω1
def aIsET (K : PySem.W.Frag) (cls : Value) (a : Addr) (cvs : List Value) (re : ATE) : ATE := fun Wa ρ Ω Q => re Wa ρ Ω fun x Ω1 => x = .o a ∧ ∃ D b, cls = .ref D ∧ ExcC K D ∧ PySem.W.kitAny K (.ref D) cvs = some b ∧ Q (.bl b) Ω1
theorem ae_isE {vc : V} {cv : Value} (hz : Zc cls none oe) (hf : ∃ vs, oe.data = .fields vs) (hg : Gl (X.suite a ((a, oe) :: pn)) "isinstance") (hm : X.mg "isinstance" = none) (ha : AE (X.suite a ((a, oe) :: pn)) ca W e te re) (hc : PE (X.suite a ((a, oe) :: pn)) e2 (tC vc)) (kc : ClsV vc cv)
    (hs : starEach [e, e2] (X.suite a ((a, oe) :: pn)).env = (false, eval e (X.suite a ((a, oe) :: pn)).env) :: starEach [e2] (X.suite a ((a, oe) :: pn)).env := by rfl) (hpl : (backTo pos (starEach [e2] (X.suite a ((a, oe) :: pn)).env)).any (·.1) = false := by rfl) (hs2 : starEach [e2] (X.suite a ((a, oe) :: pn)).env = (false, eval e2 (X.suite a ((a, oe) :: pn)).env) :: starEach [] (X.suite a ((a, oe) :: pn)).env := by rfl) :
    AE (X.suite a ((a, oe) :: pn)) ca W (.Call (.Name "isinstance" p) [e, e2] [] pos) (tCB (rE1 X.K cls a) (tCons te (tCons (tC vc) tNil))) (aIsE X.K cls a cv re) :=
  ⟨pe_callB (call_E1 hz hf) hg hm boot_isi (pa_cons ha.pe (pa_cons hc pa_nil hs2) hs) (by decide) (by decide) hs hpl, fun σ H G own ρ Ω Wa Qa Qc r s h k kx => ha.sim σ H G own ρ Ω Wa _ _ r s h (fun v H1 G1 own1 d Ω1 e1 r1 dv1 q1 => by
    obtain ⟨rfl, D, b, rfl, C, hb, q⟩ := q1
    cases dv1
    exact ⟨D, rfl, C, vc, cv, b, rfl, fun u hu => kc.eq hu, hb, k _ _ _ _ _ _ e1 r1 (.bl b) q⟩) kx⟩
end
section
variable {X : Cx} {ca : CA} {W : WX} {pos pos' np : Pos} {x n : Str} {cv : Value} {i : Nat} {body suite : List Stmt} {b0 : Stmt} {tb : WX → TS} {rb : ATS} {tsu : Addr → Value → TS} {rsu : Addr → Value → ATS}
def aTryAs (c : Value → Option Bool) (i : Nat) (b : ATS) (h : Addr → Value → ATS) : ATS := fun Wa Da ρ Ω => b (fun cls ρ' Ω' => ∃ k, c cls = some k ∧ if k = true then (∀ a, Ω' a = none → h a cls Wa ⟨fun ρ Ω => Da.nx (ρ.set i none) Ω, Da.rt, fun ρ Ω => Da.bk (ρ.set i none) Ω, fun ρ Ω => Da.ct (ρ.set i none) Ω⟩ (ρ'.set i (some (.o a))) Ω') else Wa cls ρ' Ω') Da ρ Ω
theorem as_tryAs (hs : X.stack = X.env :: X.outer) (hf : X.env.frame = some X.env.locals) (hN : X.N.Nodup) (hi : X.N[i]? = some n) (hln : X.env.kindOf n = some .local) (hc : Names X x cv) (tk : Takes X W)
    (hb : ∀ (W' : WX) (pn : List (Addr × Obj)) (xe : Value → Shared → Prop), Takes (X.tr pn xe) W' → PassesOwn (model X.prog X.w) X.A X.env xe → ASs (X.tr pn xe) ca W' body (tb W') rb)
    (hsu : ∀ (a : Addr) (oe : Obj) (cls : Value) (pn : List (Addr × Obj)), Zc cls none oe → (∃ vs, oe.data = .fields vs) → ASs (X.suite a ((a, oe) :: pn)) ca W (b0 :: suite) (tsu a cls) (rsu a cls)) :
    AS X ca W (.Try body [.ExceptHandler (some (.Name x np)) (some n) (b0 :: suite) pos'] [] [] pos) (fun D σ H => tb (wAs X.K cv i (fun a cls d D σ H => d = none ∧ tsu a cls D σ H) W D) D σ H) (aTryAs (fun cls => PySem.W.exmOne X.K cls cv) i rb rsu) := by
  refine ⟨ps_try_as hs hf hN hi hln hc tk (fun W' pn xe h1 h2 => (hb W' pn xe h1 h2).pe) (fun a oe cls d pn hz hd => ⟨fun pins s σ H D I h => ?_⟩), fun σ H G own ρ Ω Wa Da Dc r s h k => ?_⟩
  · obtain ⟨rfl, h⟩ := h
    exact (hsu a oe cls pn hz hd).pe.run pins s σ H D I h
  obtain ⟨xe, h1, h2⟩ := any_takes (W := wAs X.K cv i (fun a cls d D σ H => d = none ∧ tsu a cls D σ H) W Dc) hs hf
  refine (hb _ [] xe h1 h2).sim σ H G own ρ Ω _ Da Dc r s h ⟨k.nx, k.rt, k.bk, k.ct, fun cls σ' H' G' own' ρ' Ω' e r' s' q => ?_⟩
  obtain ⟨b, hb', q⟩ := q
  refine ⟨b, hb', fun e1 a ha => ?_, fun e1 => ?_⟩
  · subst e1
    refine ⟨rfl, ?_⟩
    exact (hsu a ⟨cls, none, .fields #[], #[]⟩ cls [] ⟨rfl, rfl⟩ ⟨_, rfl⟩).sim (σ'.set i (some (.ref a))) H' G' own' (ρ'.set i (some (.o a))) Ω' Wa _ _ r' (s'.set i (.o a)) (q a (r'.fresh ha))
      ⟨fun σ2 H2 G2 own2 ρ2 Ω2 e2 r2 s2 q2 => k.nx _ _ _ _ _ _ (e.trans e2) r2 (s2.drop i none) q2, fun _ _ _ _ _ _ e2 => k.rt _ _ _ _ _ _ (e.trans e2),
        fun σ2 H2 G2 own2 ρ2 Ω2 e2 r2 s2 q2 => k.bk _ _ _ _ _ _ (e.trans e2) r2 (s2.drop i none) q2, fun σ2 H2 G2 own2 ρ2 Ω2 e2 r2 s2 q2 => k.ct _ _ _ _ _ _ (e.trans e2) r2 (s2.drop i none) q2,
        fun _ _ _ _ _ _ _ e2 => k.ex _ _ _ _ _ _ _ (e.trans e2)⟩
  · subst e1
    exact k.ex _ _ _ _ _ _ _ e r' s' q
end
section
variable {X : Cx} {ca : CA} {es : List Expr} {pos : Pos}
def agTupL (n : Nat) (is : List Nat) : AG := fun d ρ Ω Q => ∃ xs, d = .lst xs ∧ xs.length = n ∧ is.length = n ∧ Q (setAll ρ is xs) Ω
end
end PL
namespace PL
open PySem L2
def valD : List (Key × D) → Key → Option D
  | [], _ => none
  | p :: r, k => if p.1 = k then some p.2 else valD r k
def putD : List (Key × D) → Key → D → List (Key × D)
  | [], k, v => [(k, v)]
  | p :: r, k, v => if p.1 = k then (p.1, v) :: r.map (fun kv => if kv.1 = k then (kv.1, v) else kv) else p :: putD r k v
section
variable {K : PySem.W.Frag} {G : Hp}
theorem KVs.len {l : List (Key × V)} {m : List (Key × D)} (h : KVs K G l m) : l.length = m.length := Paired.length h
theorem KVs.val {l : List (Key × V)} {m : List (Key × D)} (h : KVs K G l m) {k : Key} {d : D} (e : valD m k = some d) : ∃ v, valV l k = some v ∧ DV K G v d := by
  unfold KVs at h
  induction h with
  | nil => cases e
  | @cons p q l m h t ih =>
    simp only [valD] at e
    by_cases c : q.1 = k
    · rw [if_pos c] at e
      cases e
      exact ⟨p.2, valV_pos (h.1.trans c), h.2⟩
    · rw [if_neg c] at e
      obtain ⟨v, h1, h2⟩ := ih e
      exact ⟨v, by rw [valV_neg (fun z => c (h.1.symm.trans z))]; exact h1, h2⟩
end
section
variable {X : Cx} {ca : CA} {W : WX} {o i e v : Expr} {pos pos' : Pos} {td ty tv : TE} {rd ry rv : ATE}
/-- d[k] -/
def aDGet (rd ry : ATE) : ATE := fun Wa ρ Ω Q => rd Wa ρ Ω fun x Ω1 => ry Wa ρ Ω1 fun y Ω2 => ∃ a m k d, x = .o a ∧ Ω2 a = some (.dic m) ∧ y = .str k ∧ valD m (.inr k) = some d ∧ Q d Ω2
/-- d[k] = v -/
def aDPut (rd ry rv : ATE) : ATS := fun Wa Da ρ Ω => rv Wa ρ Ω fun z Ω1 => rd Wa ρ Ω1 fun x Ω2 => ry Wa ρ Ω2 fun y Ω3 => ∃ a m k, x = .o a ∧ Ω3 a = some (.dic m) ∧ y = .str k ∧ m.length < 1000 ∧ Da.nx ρ (oset Ω3 a (.dic (putD m (.inr k) z)))
def aDisp (ks : List Str) (rr : ATA) : ATE := fun Wa ρ Ω Q => rr Wa ρ Ω fun ds Ω1 => ∀ p, Ω1 p = none → Q (.o p) (oset Ω1 p (.dic ((ks.map Sum.inr).zip ds)))
end
end PL
namespace PL
open PySem L2
def kI (i j : Int) : List Key := [.inl i, .inl j]
theorem kI_inj {i j i' j' : Int} (h : kI i j = kI i' j') : i = i' ∧ j = j' := by
  unfold kI at h
  injection h with h1 h2
  injection h2 with h2 _
  exact ⟨Sum.inl.inj h1, Sum.inl.inj h2⟩
def valT : List (List Key × D) → List Key → Option D
  | [], _ => none
  | p :: r, k => if p.1 = k then some p.2 else valT r k
section
variable {K : PySem.W.Frag} {ca : CA} {G H : Hp} {own : Addr → Option Addr} {Ω : Om} {a p : Addr}
theorem KTs.len {l : List (List Key × V)} {m : List (List Key × D)} (h : KTs K G l m) : l.length = m.length := Paired.length h
theorem KTs.val {l : List (List Key × V)} {m : List (List Key × D)} (h : KTs K G l m) {k : List Key} {d : D} (e : valT m k = some d) : ∃ v, valV l k = some v ∧ DV K G v d := by
  unfold KTs at h
  induction h with
  | nil => cases e
  | @cons p q l m h t ih =>
    simp only [valT] at e
    by_cases c : q.1 = k
    · rw [if_pos c] at e
      cases e
      exact ⟨p.2, valV_pos (h.1.trans c), h.2⟩
    · rw [if_neg c] at e
      obtain ⟨v, h1, h2⟩ := ih e
      exact ⟨v, by rw [valV_neg (fun z => c (h.1.symm.trans z))]; exact h1, h2⟩
theorem KTs.some_ {l : List (List Key × V)} {m : List (List Key × D)} (h : KTs K G l m) {k : List Key} : (valV l k).isSome = (valT m k).isSome := by
  unfold KTs at h
  induction h with
  | nil => rfl
  | @cons p q l m h t ih =>
    simp only [valT]
    by_cases c : q.1 = k
    · rw [if_pos c, valV_pos (h.1.trans c)]; rfl
    · rw [if_neg c, valV_neg (fun z => c (h.1.symm.trans z))]
      exact ih
theorem KTs.snoc {l : List (List Key × V)} {m : List (List Key × D)} (h : KTs K G l m) {k : List Key} {v : V} {d : D} (hv : DV K G v d) : KTs K G (l ++ [(k, v)]) (m ++ [(k, d)]) := by
  unfold KTs at *
  induction h with
  | nil => exact .cons ⟨rfl, hv⟩ .nil
  | @cons p q l m h t ih => exact .cons h ih
theorem Rel.ditAt {kvs : List (List Key × D)} (r : Rel K ca G own H Ω) (e : Ω a = some (.dit kvs)) : own a = some a ∧ ∃ l, H a = some (.dT l) ∧ KTs K G l kvs := r.objs a _ e
theorem Rel.setDit {l : List (List Key × V)} {m m' : List (List Key × D)} (r : Rel K ca G own H Ω) (e : Ω a = some (.dit m)) (d : KTs K G l m') : Rel K ca G own (upd H a (.dT l)) (oset Ω a (.dit m')) := by
  obtain ⟨w, u, hu, nu⟩ := (r.objs a _ e).there
  refine r.turn (fun b v hb ho => ?_) (fun b v hb hi => ?_) ⟨w, l, upd_same, d⟩
  · rw [upd_ne (fun z => ho (by rw [z]; exact w))]; exact hb
  · rw [upd_ne (fun z => by rw [z, hu] at hb; cases hb; exact nu hi)]; exact hb
theorem Rel.newDit (r : Rel K ca G own H Ω) (h : H p = none) : Rel K ca G (uown own p (some p)) (upd H p (.dT [])) (oset Ω p (.dit [])) := by
  have hg : G p = none := r.sub.free h
  refine ⟨fun b v e => ?_, fun b v e => ?_, fun b v e => ?_⟩
  · rw [upd_ne (ne_of_none e hg)]; exact r.sub _ _ e
  · unfold uown; rw [if_neg (ne_of_none e hg)]; exact r.imm _ _ e
  · by_cases hb : b = p
    · subst hb
      rw [oset_same] at e
      cases e
      exact ⟨if_pos rfl, [], upd_same, .nil⟩
    · rw [oset_ne hb] at e
      refine (r.objs b v e).keep (Same.refl G) (fun c w hc ho => ⟨by rw [upd_ne (ne_of_none hc h)]; exact hc, ?_⟩) fun c w hc _ => by rw [upd_ne (ne_of_none hc h)]; exact hc
      unfold uown
      rw [if_neg (ne_of_none hc h)]
      exact ho
end
section
variable {X : Cx} {ca : CA} {W : WX} {o v e1 e2 : Expr} {es : List Expr} {pos pos' pt : Pos} {tr : TA} {td tv t1 t2 : TE} {rd rv r1 r2 : ATE}
def aDNewT : ATE := fun _ _ Ω Q => ∀ p, Ω p = none → Q (.o p) (oset Ω p (.dit []))
theorem ae_dnewT : AE X ca W (.Dict [] [] pos) tDNewT aDNewT :=
  ⟨pe_dnewT, fun σ H G own ρ Ω Wa Qa Qc r s h k kx => fun p hp => k _ _ _ _ _ _ (stp_new hp) (r.newDit hp) (.o p) (h p (r.fresh hp))⟩
/-- d[(e1, e2)] -/
def aTGet (rd : ATE) (rr : ATA) : ATE := fun Wa ρ Ω Q => rd Wa ρ Ω fun x Ω1 => rr Wa ρ Ω1 fun ds Ω2 => ∃ a m i j d, x = .o a ∧ Ω2 a = some (.dit m) ∧ ds = [.int i, .int j] ∧ valT m (kI i j) = some d ∧ Q d Ω2
theorem two_ints {K : PySem.W.Frag} {G : Hp} {vs : List V} {i j : Int} (h : DVs K G vs [.int i, .int j]) : vs = (kI i j).map kV := by
  have := DVs.ints (ns := [i, j]) h
  rw [this]; rfl
theorem ae_tget {rr : ATA} (hu : X.A.units + 64 < cLine) (ho : AE X ca W o td rd) (hi : AA X ca W es tr rr) {n1 : Nat} (hs : NoSl (.Tuple es n1 pt) := by intro _ _; rfl) : AE X ca W (.Subscript o (.Tuple es n1 pt) pos) (tDGet td (tTup tr)) (aTGet rd rr) :=
  ⟨pe_dget (by omega) ho.pe (pe_tup hi.pe) hs, fun σ H G own ρ Ω Wa Qa Qc r s h k kx => ho.sim σ H G own ρ Ω Wa _ _ r s h (fun x1 H1 G1 own1 d1 Ω1 e1 r1 dv1 q1 => hi.sim σ H1 G1 own1 ρ Ω1 Wa _ _ r1 (s.mono e1.same) q1 (fun vs H2 G2 own2 ds Ω2 e2 r2 dv2 q2 => by
    obtain ⟨a, m, i, j, d, rfl, ha, rfl, hv, q⟩ := q2
    cases dv1
    have ev := two_ints dv2
    subst ev
    refine ⟨by show 2 ≤ sizeLine; rw [sizeLine_eq]; decide, fun p hp => ?_⟩
    obtain ⟨r3, e3⟩ := r2.data (u := .tup ((kI i j).map kV)) hp
    obtain ⟨_, l, hl, kv⟩ := r3.ditAt ha
    obtain ⟨w, hw, dw⟩ := kv.val hv
    refine ⟨a, w, rfl, ?_, k _ _ _ _ _ _ ((e1.trans e2).trans (stp_data e3 hp)) r3 dw q⟩
    rw [← hw]
    exact DGet.t (k := kI i j) hl upd_same) (kx.mono e1)) kx⟩
/-- (e1, e2) not in d -/
def aTNotIn (rr : ATA) (rd : ATE) : ATE := fun Wa ρ Ω Q => rr Wa ρ Ω fun ds Ω1 => ∃ i j, ds = [.int i, .int j] ∧ rd Wa ρ Ω1 fun x Ω2 => ∃ a m, x = .o a ∧ Ω2 a = some (.dit m) ∧ Q (.bl (!(valT m (kI i j)).isSome)) Ω2
theorem ae_tnotin {rr : ATA} (hu : X.A.units + 64 < cLine) (hi : AA X ca W es tr rr) (ho : AE X ca W o td rd) {n1 : Nat} (hb : behindInMarks .NotIn o = false := by rfl) : AE X ca W (.Compare (.Tuple es n1 pt) [.NotIn] [o] pos) (tDNotIn (tTup tr) td) (aTNotIn rr rd) :=
  ⟨pe_cmp (pc_dnotin (by omega) (pe_tup hi.pe) ho.pe) hb, fun σ H G own ρ Ω Wa Qa Qc r s h k kx => hi.sim σ H G own ρ Ω Wa _ _ r s h (fun vs H1 G1 own1 ds Ω1 e1 r1 dv1 q1 => by
    obtain ⟨i, j, rfl, q1⟩ := q1
    have ev := two_ints dv1
    subst ev
    refine ⟨by show 2 ≤ sizeLine; rw [sizeLine_eq]; decide, fun p hp => ?_⟩
    obtain ⟨r2, e2⟩ := r1.data (u := .tup ((kI i j).map kV)) hp
    have st := stp_data (own := own1) (u := .tup ((kI i j).map kV)) e2 hp
    refine ho.sim σ _ _ _ ρ Ω1 Wa _ _ r2 (s.mono (e1.trans st).same) q1 (fun x1 H3 G3 own3 d3 Ω3 e3 r3 dv3 q3 => ?_) (kx.mono (e1.trans st))
    obtain ⟨a, m, rfl, ha, q⟩ := q3
    cases dv3
    obtain ⟨_, l, hl, kv⟩ := r3.ditAt ha
    refine ⟨a, _, rfl, DGet.t (k := kI i j) hl ?_, ?_⟩
    · exact r3.sub _ _ (e3.same _ _ upd_same)
    · rw [kv.some_]
      exact k _ _ _ _ _ _ ((e1.trans st).trans e3) r3 (.bl _) q) kx⟩
theorem at_tnotin {rr : ATA} (hu : X.A.units + 64 < cLine) (hi : AA X ca W es tr rr) (ho : AE X ca W o td rd) {n1 : Nat} (hb : behindInMarks .NotIn o = false := by rfl) : AT X ca W (.Compare (.Tuple es n1 pt) [.NotIn] [o] pos) (tB (tDNotIn (tTup tr) td)) (aB (aTNotIn rr rd)) :=
  ⟨pt_cmp (pc_dnotin (by omega) (pe_tup hi.pe) ho.pe) hb, fun σ H G own ρ Ω Wa Qa Qc r s h k kx => (ae_tnotin (pos := pos) (n1 := n1) (pt := pt) hu hi ho hb).sim σ H G own ρ Ω Wa _ _ r s h (fun v H1 G1 own1 d Ω1 e1 r1 dv1 q1 => by
    obtain ⟨c, rfl, q⟩ := q1
    cases dv1
    exact ⟨c, rfl, k _ _ _ _ _ e1 r1 q⟩) kx⟩
/-- d[(e1, e2)] = v, a key that is new -/
def aTPut (rd : ATE) (rr : ATA) (rv : ATE) : ATS := fun Wa Da ρ Ω => rv Wa ρ Ω fun z Ω1 => rd Wa ρ Ω1 fun x Ω2 => rr Wa ρ Ω2 fun ds Ω3 => ∃ a m i j, x = .o a ∧ Ω3 a = some (.dit m) ∧ ds = [.int i, .int j] ∧ valT m (kI i j) = none ∧ m.length < 1000000 ∧ Da.nx ρ (oset Ω3 a (.dit (m ++ [(kI i j, z)])))
theorem as_tput {rr : ATA} {n1 : Nat} (hu : X.A.units + 64 < cLine) (hv : AE X ca W v tv rv) (ho : AE X ca W o td rd) (hi : AA X ca W es tr rr) (hs : swapsWith v (some (.Subscript o (.Tuple es n1 pt) pos')) pos.line X.env = pure false := by rfl) :
    AS X ca W (.Assign [.Subscript o (.Tuple es n1 pt) pos'] v pos) (sDPut td (tTup tr) tv) (aTPut rd rr rv) :=
  ⟨ps_dput (by omega) ho.pe (pe_tup hi.pe) hv.pe hs, fun σ H G own ρ Ω Wa Da Dc r s h k => hv.sim σ H G own ρ Ω Wa _ _ r s h (fun z1 H1 G1 own1 d1 Ω1 e1 r1 dv1 q1 => ho.sim σ H1 G1 own1 ρ Ω1 Wa _ _ r1 (s.mono e1.same) q1 (fun x1 H2 G2 own2 d2 Ω2 e2 r2 dv2 q2 => hi.sim σ H2 G2 own2 ρ Ω2 Wa _ _ r2 (s.mono (e1.trans e2).same) q2 (fun vs H3 G3 own3 ds Ω3 e3 r3 dv3 q3 => by
    obtain ⟨a, m, i, j, rfl, ha, rfl, hn, hl, q⟩ := q3
    cases dv2
    have ev := two_ints dv3
    subst ev
    refine ⟨by show 2 ≤ sizeLine; rw [sizeLine_eq]; decide, fun p hp => ?_⟩
    obtain ⟨r4, e4⟩ := r3.data (u := .tup ((kI i j).map kV)) hp
    have st := stp_data (own := own3) (u := .tup ((kI i j).map kV)) e4 hp
    obtain ⟨w, l, hla, kv⟩ := r4.ditAt ha
    have e13 := (e1.trans e2).trans e3
    have e14 := e13.trans st
    have hnone : valV l (kI i j) = none := by
      have := kv.some_ (k := kI i j)
      rw [hn] at this
      cases q : valV l (kI i j) with
      | none => rfl
      | some _ => rw [q] at this; cases this
    refine ⟨a, _, rfl, DPut.t (k := kI i j) (v := z1) hla upd_same ?_, ?_⟩
    · rw [kv.len, sizeLine_eq]; omega
    · rw [putK_new _ hnone]
      exact k.nx _ _ _ _ _ _ (e14.trans (stp_own w)) (r4.setDit ha (kv.snoc (dv1.mono ((e2.trans e3).trans st).same))) (s.mono e14.same) q) ((k.kx s).mono (e1.trans e2))) ((k.kx s).mono e1)) (k.kx s)⟩
end
end PL
namespace PL
open PySem PySem.Spec PyProof.Rows L2
section
variable {X : Cx}
def rCountD (K : PySem.W.Frag) : V → List V → Hp → VK → Prop := fun x xs H Q => ∃ (a : Addr) (y : V) (d : PyData) (ds : List PyData), x = V.ref a ∧ xs = [y] ∧ Dp K H (V.ref a) (.list ds) ∧ Dp K H y d ∧
  SeqAt.shaped (.list ds) = true ∧ SeqAt.shaped d = true ∧ Q (.int ((ds.countP fun z => PyData.eqv z d : Nat) : Int)) H
theorem mt_countD (hu : X.A.units + 65 < cLine) : MtR X "list.count" (rCountD X.K) := by
  intro pins s σ H x xs v us Q I rx rxs h
  obtain ⟨a, y, d, ds, rfl, rfl, hl, hy, sl, sd, q⟩ := h
  cases rx
  cases rxs with
  | cons ry rt =>
    rename_i uy ut
    cases rt
    obtain ⟨bs, r1⟩ := Dp.reads I d y uy hy ry
    have hxs : PyData.canLayAll0 ds = true := SeqAt.canLay_of_shaped sl
    have hroom : X.A.units + 1 + min (PyData.depthAll ds) d.depth < cLine := room_in_shaped sd hu
    cases hl with
    | lst hs ha =>
      obtain ⟨its, rv, ⟨⟨cls, dd, data, sls⟩, n, ho, hc, hdn, hdt⟩, hlen⟩ := I.list hs
      simp only at hc hdt
      subst hc hdt
      obtain ⟨as, h4⟩ := Dp.readsAll I ds _ its ha rv
      have hmap : its.map (SeqAt.readOf s.heap) = ds := SeqAt.readsAll_map ds its as hxs h4
      refine call_meets PySem.F.slot_list_count ⟨_, ho, rfl⟩ PySem.F.entry_list_count (PySem.F.args_list_count_2 _ _)
        (SeqAt.list_countAt a its.toArray n dd sls uy (fun u => PyData.eqv (SeqAt.readOf s.heap u) d)) ⟨ho, SeqAt.items_eqAt (vs := its.toArray) (show ReadsAll s.heap its.toArray.toList ds as from h4) r1 hxs (SeqAt.canLay_of_shaped sd) hroom, ?_⟩
      have e : its.toArray.toList.countP (fun u => PyData.eqv (SeqAt.readOf s.heap u) d) = ds.countP fun z => PyData.eqv z d := by
        rw [← hmap, List.countP_map]
        rfl
      rw [e]
      exact ⟨.int _, H, I.tok _, ⟨_, rfl⟩, q⟩
end
def LsD (Ω : Om) (y : D) (xs : List D) : Prop := y = .lst xs ∨ ∃ a, y = .o a ∧ Ω a = some (.lst xs)
theorem LsD.seq {K : PySem.W.Frag} {ca : CA} {G H : Hp} {own : Addr → Option Addr} {Ω : Om} {v : V} {y : D} {xs : List D} (h : LsD Ω y xs) (r : Rel K ca G own H Ω) (dv : DV K G v y) : ∃ p vs, v = .ref p ∧ DVs K G vs xs ∧ SqL K H p vs := by
  rcases h with rfl | ⟨a, rfl, ha⟩
  · cases dv with
    | lst a b => exact ⟨_, _, rfl, b, r.sub.seq a⟩
  · cases dv
    obtain ⟨vs, hv, d⟩ := r.lstAt ha
    exact ⟨_, vs, rfl, d, SqL.of hv⟩
theorem LsD.dp {K : PySem.W.Frag} {ca : CA} {G H : Hp} {own : Addr → Option Addr} {Ω : Om} {v : V} {y : D} {xs : List D} {ps : List PyData} (h : LsD Ω y xs) (r : Rel K ca G own H Ω) (dv : DV K G v y) (e : D.pys xs = some ps) : Dp K H v (.list ps) := by
  obtain ⟨p, vs, rfl, d, hs⟩ := h.seq r dv
  exact .lst hs (DVs.dp r.sub d e)
section
variable {X : Cx} {ca : CA} {W : WX} {a b o e : Expr} {es : List Expr} {ta tb to : TE} {ra rb ro : ATE} {tr : TA} {rr : ATA} {pos apos cpos : Pos}
def fNotInO : D → D → Om → AQ → Prop := fun x y Ω Q => ∃ (ys : List D) (p : PyData) (ps : List PyData), LsD Ω y ys ∧ x.py = some p ∧ D.pys ys = some ps ∧ SeqAt.shaped p = true ∧ SeqAt.shaped (.list ps) = true ∧ Q (.bl (!(ps.any fun z => PyData.eqv z p))) Ω
theorem simr_notInO {K : PySem.W.Frag} : SimR K ca (rNotInD K) fNotInO := by
  intro H G own Ω x y v w Qa Qc r dx dy h k
  obtain ⟨ys, p, ps, hl, e1, e2, s1, s2, h⟩ := h
  exact ⟨p, ps, dx.dp r.sub e1, hl.dp r dy e2, s1, s2, k _ _ _ _ _ _ Stp.refl r (.bl _) h⟩
theorem at_notInO (hu : X.A.units + 65 < cLine) (ha : AE X ca W a ta ra) (hb : AE X ca W b tb rb) (hm : behindInMarks .NotIn b = false := by rfl) : AT X ca W (.Compare a [.NotIn] [b] pos) (tTest (tOp (rNotInD X.K) ta tb)) (aB (aOp fNotInO ra rb)) := at_cmp (op_notInD hu) simr_notInO ha hb hm
def aIdx (ro : ATE) (rr : ATA) : ATE := fun Wa ρ Ω Q => ro Wa ρ Ω fun y Ω1 => (∃ ys, LsD Ω1 y ys) ∧ rr Wa ρ Ω1 fun ds Ω2 => ∃ (x : D) (xs : List D) (p : PyData) (ps : List PyData) (j : Nat) (z : PyData), ds = [x] ∧ LsD Ω2 y xs ∧ x.py = some p ∧ D.pys xs = some ps ∧ SeqAt.shaped (.list ps) = true ∧ SeqAt.shaped p = true ∧
  ps[j]? = some z ∧ PyData.eqv z p = true ∧ (∀ (m : Nat) (z' : PyData), m < j → ps[m]? = some z' → PyData.eqv z' p = false) ∧ Q (.int (j : Nat)) Ω2
theorem ae_index (hu : X.A.units + 65 < cLine) (ho : AE X ca W o to ro) (hi : AA X ca W (e :: es) tr rr)
    (hbase : attributeBase o "index" X.env (eval o X.env) = eval o X.env := by rfl)
    (hfew : ((backTo cpos (starEach (e :: es) X.env)).all (fun x => !x.1) && (backToKw cpos (keywordEach [] X.env)).all (fun x => x.1.isSome)
      && decide ((e :: es).length + ([] : List Keyword).length + (if ([] : List Keyword).isEmpty then 0 else 1) < 30)) = true := by rfl)
    (hline : (apos.endLine == cpos.line) = true := by rfl) (hs : starEach (e :: es) X.env = (false, eval e X.env) :: starEach es X.env := by rfl) (hplain : (backTo cpos (starEach es X.env)).any (·.1) = false := by rfl) :
    AE X ca W (.Call (.Attribute o "index" apos) (e :: es) [] cpos) (tBM X.K "list" (rIndexD X.K) to tr) (aIdx ro rr) :=
  ⟨pe_bm PySem.F.plainAttrs_list PySem.F.slot_list_index PySem.F.type_list_index (mt_indexD hu) ho.pe hi.pe hbase hfew hline hs hplain, fun σ H G own ρ Ω Wa Qa Qc r s h k kx => ho.sim σ H G own ρ Ω Wa _ _ r s h (fun v1 H1 G1 own1 d1 Ω1 e1 r1 dv1 q1 => by
    obtain ⟨⟨ys, hy⟩, q1⟩ := q1
    obtain ⟨p1, vs1, rfl, _, hs1⟩ := hy.seq r1 dv1
    refine ⟨.inl ⟨rfl, vs1, hs1⟩, hi.sim σ H1 G1 own1 ρ Ω1 Wa _ _ r1 (s.mono e1.same) q1 (fun ws H2 G2 own2 ds Ω2 e2 r2 dv2 q2 => ?_) (kx.mono e1)⟩
    obtain ⟨x, xs, p, ps, j, z, rfl, hl, hp, hps, s1, s2, h1, h2, h3, q⟩ := q2
    obtain ⟨w, rfl, dw⟩ := PL.dv1 dv2
    exact ⟨p1, w, p, ps, j, z, rfl, rfl, hl.dp r2 (dv1.mono e2.same) hps, dw.dp r2.sub hp, s1, s2, h1, h2, h3, k _ _ _ _ _ _ (e1.trans e2) r2 (.int _) q⟩) kx⟩
def aCntD (ro : ATE) (rr : ATA) : ATE := fun Wa ρ Ω Q => ro Wa ρ Ω fun y Ω1 => (∃ ys, LsD Ω1 y ys) ∧ rr Wa ρ Ω1 fun ds Ω2 => ∃ (x : D) (xs : List D) (p : PyData) (ps : List PyData), ds = [x] ∧ LsD Ω2 y xs ∧ x.py = some p ∧ D.pys xs = some ps ∧ SeqAt.shaped (.list ps) = true ∧ SeqAt.shaped p = true ∧
  Q (.int ((ps.countP fun z => PyData.eqv z p : Nat) : Int)) Ω2
theorem ae_count (hu : X.A.units + 65 < cLine) (ho : AE X ca W o to ro) (hi : AA X ca W (e :: es) tr rr)
    (hbase : attributeBase o "count" X.env (eval o X.env) = eval o X.env := by rfl)
    (hfew : ((backTo cpos (starEach (e :: es) X.env)).all (fun x => !x.1) && (backToKw cpos (keywordEach [] X.env)).all (fun x => x.1.isSome)
      && decide ((e :: es).length + ([] : List Keyword).length + (if ([] : List Keyword).isEmpty then 0 else 1) < 30)) = true := by rfl)
    (hline : (apos.endLine == cpos.line) = true := by rfl) (hs : starEach (e :: es) X.env = (false, eval e X.env) :: starEach es X.env := by rfl) (hplain : (backTo cpos (starEach es X.env)).any (·.1) = false := by rfl) :
    AE X ca W (.Call (.Attribute o "count" apos) (e :: es) [] cpos) (tBM X.K "list" (rCountD X.K) to tr) (aCntD ro rr) :=
  ⟨pe_bm PySem.F.plainAttrs_list PySem.F.slot_list_count PySem.F.type_list_count (mt_countD hu) ho.pe hi.pe hbase hfew hline hs hplain, fun σ H G own ρ Ω Wa Qa Qc r s h k kx => ho.sim σ H G own ρ Ω Wa _ _ r s h (fun v1 H1 G1 own1 d1 Ω1 e1 r1 dv1 q1 => by
    obtain ⟨⟨ys, hy⟩, q1⟩ := q1
    obtain ⟨p1, vs1, rfl, _, hs1⟩ := hy.seq r1 dv1
    refine ⟨.inl ⟨rfl, vs1, hs1⟩, hi.sim σ H1 G1 own1 ρ Ω1 Wa _ _ r1 (s.mono e1.same) q1 (fun ws H2 G2 own2 ds Ω2 e2 r2 dv2 q2 => ?_) (kx.mono e1)⟩
    obtain ⟨x, xs, p, ps, rfl, hl, hp, hps, s1, s2, q⟩ := q2
    obtain ⟨w, rfl, dw⟩ := PL.dv1 dv2
    exact ⟨p1, w, p, ps, rfl, rfl, hl.dp r2 (dv1.mono e2.same) hps, dw.dp r2.sub hp, s1, s2, k _ _ _ _ _ _ (e1.trans e2) r2 (.int _) q⟩) kx⟩
end
end PL
namespace PL
abbrev T3 := Int × Int × Int
theorem sqNN (x : Int) : 0 ≤ x * x := by
  rcases Int.le_total 0 x with h | h
  · exact Int.mul_nonneg h h
  · exact Int.mul_nonneg_of_nonpos_of_nonpos h h
/-- the greatest whole number whose square is no greater -/
def isqN : Nat → Nat
  | 0 => 0
  | n + 1 => if (isqN n + 1) * (isqN n + 1) ≤ n + 1 then isqN n + 1 else isqN n
def isq (n : Int) : Int := (isqN n.toNat : Nat)
theorem isqN_spec : ∀ n : Nat, isqN n * isqN n ≤ n ∧ n < (isqN n + 1) * (isqN n + 1)
  | 0 => by simp [isqN]
  | n + 1 => by
    obtain ⟨h1, h2⟩ := isqN_spec n
    unfold isqN
    split
    · rename_i h
      refine ⟨h, ?_⟩
      have : (isqN n + 1 + 1) * (isqN n + 1 + 1) = (isqN n + 1) * (isqN n + 1) + 2 * isqN n + 3 := by grind
      omega
    · omega
theorem isq_spec {n : Int} (h : 0 ≤ n) : 0 ≤ isq n ∧ isq n * isq n ≤ n ∧ n < (isq n + 1) * (isq n + 1) := by
  obtain ⟨m, rfl⟩ := Int.eq_ofNat_of_zero_le h
  obtain ⟨h1, h2⟩ := isqN_spec m
  unfold isq
  rw [Int.toNat_natCast]
  refine ⟨by omega, ?_, ?_⟩
  · exact_mod_cast h1
  · exact_mod_cast h2
/-- x no greater than a root of s -/
theorem le_isq {s g : Int} (h0 : 0 ≤ g) (h1 : g * g ≤ s) (h2 : s < (g + 1) * (g + 1)) (z : Int) : z ≤ g ↔ z ≤ 0 ∨ z * z ≤ s := by
  constructor
  · intro h
    rcases Int.lt_or_le 0 z with w | w
    · have : z * z ≤ g * g := Int.mul_le_mul h h (by omega) h0
      exact .inr (by omega)
    · exact .inl w
  · rintro (h | h)
    · omega
    · rcases Int.lt_or_le g z with w | w
      · have : (g + 1) * (g + 1) ≤ z * z := Int.mul_le_mul (by omega) (by omega) (by omega) (by omega)
        omega
      · exact w
theorem isq_uniq {s g : Int} (h0 : 0 ≤ g) (h1 : g * g ≤ s) (h2 : s < (g + 1) * (g + 1)) : isq s = g := by
  have hs : 0 ≤ s := by have := Int.mul_nonneg h0 h0; omega
  obtain ⟨k0, k1, k2⟩ := isq_spec hs
  have a1 := (le_isq h0 h1 h2 (isq s)).mpr (.inr k1)
  have a2 := (le_isq k0 k1 k2 g).mpr (.inr h1)
  omega
theorem isq_scale {s g f k : Int} (hk : 0 < k) (g0 : 0 ≤ g) (g1 : g * g ≤ s) (g2 : s < (g + 1) * (g + 1)) (f0 : 0 ≤ f) (f1 : f * f ≤ k * k * s) (f2 : k * k * s < (f + 1) * (f + 1)) (z : Int) : z ≤ g ↔ k * z ≤ f := by
  rw [le_isq g0 g1 g2, le_isq f0 f1 f2]
  have e : k * z * (k * z) = k * k * (z * z) := by grind
  have hkk : 0 < k * k := Int.mul_pos hk hk
  rw [e]
  constructor
  · rintro (h | h)
    · exact .inl (Int.mul_nonpos_of_nonneg_of_nonpos (Int.le_of_lt hk) h)
    · exact .inr (Int.mul_le_mul_of_nonneg_left h (Int.le_of_lt hkk))
  · rintro (h | h)
    · left
      rcases Int.lt_or_le 0 z with w | w
      · have := Int.mul_pos hk w; omega
      · exact w
    · exact .inr (Int.le_of_mul_le_mul_left h hkk)
theorem le_fdiv_pos {x c y : Int} (hc : 0 < c) : y ≤ x.fdiv c ↔ y * c ≤ x := by
  have e := Int.mul_fdiv_add_fmod x c
  have h1 := Int.fmod_nonneg_of_pos x hc
  have h2 := Int.fmod_lt_of_pos x hc
  generalize x.fdiv c = q at *
  constructor
  · intro h
    have := Int.mul_le_mul_of_nonneg_right h (Int.le_of_lt hc)
    have e2 : q * c = c * q := Int.mul_comm ..
    omega
  · intro h
    rcases Int.lt_or_le q y with w | w
    · have := Int.mul_le_mul_of_nonneg_right (show q + 1 ≤ y by omega) (Int.le_of_lt hc)
      have e2 : (q + 1) * c = c * q + c := by grind
      omega
    · exact w
theorem le_fdiv_neg {x c y : Int} (hc : c < 0) : y ≤ x.fdiv c ↔ x ≤ y * c := by
  have e := Int.mul_fdiv_add_fmod x c
  obtain ⟨h1, h2⟩ := fmod_neg' (t := x) hc
  generalize x.fdiv c = q at *
  constructor
  · intro h
    have := Int.mul_le_mul_of_nonpos_right h (Int.le_of_lt hc)
    have e2 : q * c = c * q := Int.mul_comm ..
    omega
  · intro h
    rcases Int.lt_or_le q y with w | w
    · have := Int.mul_le_mul_of_nonpos_right (show q + 1 ≤ y by omega) (Int.le_of_lt hc)
      have e2 : (q + 1) * c = c * q + c := by grind
      omega
    · exact w
def gcd3 (x y z : Int) : Nat := Int.gcd ((Int.gcd x y : Nat) : Int) z
def madeT (x y z : Int) : T3 := (x.fdiv (if z < 0 then 0 - (gcd3 x y z : Int) else gcd3 x y z), y.fdiv (if z < 0 then 0 - (gcd3 x y z : Int) else gcd3 x y z), z.fdiv (if z < 0 then 0 - (gcd3 x y z : Int) else gcd3 x y z))
structure Nm (p : T3) : Prop where
  pos : 0 < p.2.2
  one : gcd3 p.1 p.2.1 p.2.2 = 1
theorem gcd3_mul (k a b c : Int) : gcd3 (k * a) (k * b) (k * c) = k.natAbs * gcd3 a b c := by
  unfold gcd3
  rw [Int.gcd_mul_left]
  have e : ((k.natAbs * Int.gcd a b : Nat) : Int) = (k.natAbs : Int) * (Int.gcd a b : Nat) := by simp
  have e2 : Int.gcd ((k.natAbs : Int) * (Int.gcd a b : Nat)) (k * c) = Int.gcd (k * (Int.gcd a b : Nat)) (k * c) := by
    rcases Int.natAbs_eq k with h | h
    · conv => lhs; rw [show ((k.natAbs : Int)) = k from h.symm]
    · have : (k.natAbs : Int) = -k := by omega
      rw [this, Int.neg_mul, Int.neg_gcd]
  rw [e, e2, Int.gcd_mul_left]
theorem gcd3_dvd (x y z : Int) : ((gcd3 x y z : Nat) : Int) ∣ x ∧ ((gcd3 x y z : Nat) : Int) ∣ y ∧ ((gcd3 x y z : Nat) : Int) ∣ z := by
  unfold gcd3
  have h1 : ((Int.gcd ((Int.gcd x y : Nat) : Int) z : Nat) : Int) ∣ ((Int.gcd x y : Nat) : Int) := Int.gcd_dvd_left ..
  exact ⟨Int.dvd_trans h1 (Int.gcd_dvd_left ..), Int.dvd_trans h1 (Int.gcd_dvd_right ..), Int.gcd_dvd_right ..⟩
theorem dvd_gcd3 {c x y z : Int} (h1 : c ∣ x) (h2 : c ∣ y) (h3 : c ∣ z) : c ∣ (gcd3 x y z : Nat) := by
  unfold gcd3
  exact Int.dvd_coe_gcd (Int.dvd_coe_gcd h1 h2) h3
theorem madeT_spec {x y z : Int} (hz : z ≠ 0) : ∃ g : Int, g ≠ 0 ∧ x = g * (madeT x y z).1 ∧ y = g * (madeT x y z).2.1 ∧ z = g * (madeT x y z).2.2 ∧ Nm (madeT x y z) := by
  obtain ⟨⟨a, ha⟩, ⟨b, hb⟩, ⟨c, hc⟩⟩ := gcd3_dvd x y z
  have g0 : 0 < gcd3 x y z := Int.gcd_pos_of_ne_zero_right _ hz
  have hg : gcd3 x y z = (gcd3 x y z) * gcd3 a b c := by
    have := gcd3_mul (gcd3 x y z) a b c
    rw [← ha, ← hb, ← hc] at this
    simpa using this
  have one : gcd3 a b c = 1 := Nat.eq_of_mul_eq_mul_left g0 (by rw [← hg, Nat.mul_one])
  unfold madeT
  generalize gcd3 x y z = g at *
  by_cases e : z < 0
  · rw [if_pos e]
    have hcn : c < 0 := by
      rcases Int.lt_or_le c 0 with w | w
      · exact w
      · have := Int.mul_nonneg (show (0 : Int) ≤ g by omega) w; omega
    have f : ∀ u v : Int, u = (g : Int) * v → u.fdiv (0 - (g : Int)) = -v := fun u v h => by
      rw [h, show (g : Int) * v = (0 - (g : Int)) * (-v) by grind, Int.mul_fdiv_cancel_left _ (by omega)]
    rw [f x a ha, f y b hb, f z c hc]
    refine ⟨-(g : Int), by omega, by simp only; grind, by simp only; grind, by simp only; grind, ⟨by simp only; omega, ?_⟩⟩
    have := gcd3_mul (-1) a b c
    simp only [Int.neg_mul, Int.one_mul] at this
    simp only
    rw [this, one]
    rfl
  · rw [if_neg e]
    have hcp : 0 < c := by
      rcases Int.lt_trichotomy c 0 with w | w | w
      · have := Int.mul_neg_of_pos_of_neg (show (0 : Int) < g by omega) w; omega
      · rw [w, Int.mul_zero] at hc; exact absurd hc hz
      · exact w
    have f : ∀ u v : Int, u = (g : Int) * v → u.fdiv (g : Int) = v := fun u v h => by rw [h, Int.mul_fdiv_cancel_left _ (by omega)]
    rw [f x a ha, f y b hb, f z c hc]
    exact ⟨(g : Int), by omega, ha, hb, hc, ⟨hcp, one⟩⟩
/-- the same number, told by t, m and β -/
structure Px (p : T3) (t m β : Int) : Prop where
  one : p.1 * β = t * p.2.2
  two : p.2.1 * β = m * p.2.2
  ne : β ≠ 0
theorem Px.k {p : T3} {t m β : Int} (hp : Nm p) (h : Px p t m β) : ∃ k : Int, k ≠ 0 ∧ t = k * p.1 ∧ m = k * p.2.1 ∧ β = k * p.2.2 := by
  obtain ⟨h1, h2, h3⟩ := h
  obtain ⟨hc, hg⟩ := hp
  obtain ⟨a, b, c⟩ := p
  simp only at *
  have d1 : c ∣ (gcd3 (β * a) (β * b) (β * c) : Nat) := dvd_gcd3 ⟨t, by grind⟩ ⟨m, by grind⟩ ⟨β, by grind⟩
  rw [gcd3_mul, hg, Nat.mul_one] at d1
  have d2 : c ∣ β := by
    rcases Int.natAbs_eq β with w | w
    · rw [w]; exact d1
    · rw [w]; exact Int.dvd_neg.mpr d1
  obtain ⟨k, hk⟩ := d2
  have hcc : c ≠ 0 := by omega
  refine ⟨k, fun z => by rw [z, Int.mul_zero] at hk; exact h3 hk, ?_, ?_, by rw [hk]; grind⟩
  · refine Int.eq_of_mul_eq_mul_right hcc ?_
    rw [← h1, hk]; grind
  · refine Int.eq_of_mul_eq_mul_right hcc ?_
    rw [← h2, hk]; grind
theorem Px.le {p : T3} {t m β : Int} (hp : Nm p) (h : Px p t m β) : p.1.natAbs ≤ t.natAbs ∧ p.2.1.natAbs ≤ m.natAbs ∧ p.2.2.natAbs ≤ β.natAbs := by
  obtain ⟨k, k0, h1, h2, h3⟩ := h.k hp
  rw [h1, h2, h3, Int.natAbs_mul, Int.natAbs_mul, Int.natAbs_mul]
  exact ⟨Nat.le_mul_of_pos_left _ (by omega), Nat.le_mul_of_pos_left _ (by omega), Nat.le_mul_of_pos_left _ (by omega)⟩
theorem madeT_px {x y z : Int} (hz : z ≠ 0) : Px (madeT x y z) x y z ∧ Nm (madeT x y z) := by
  obtain ⟨g, g0, h1, h2, h3, h4⟩ := madeT_spec (x := x) (y := y) hz
  generalize madeT x y z = p at *
  exact ⟨⟨by rw [h1, h3]; grind, by rw [h2, h3]; grind, hz⟩, h4⟩
def sumT (p q : T3) (k : Int) : T3 := madeT (p.1 * q.2.2 + k * q.1 * p.2.2) (p.2.1 * q.2.2 + k * q.2.1 * p.2.2) (p.2.2 * q.2.2)
def prodT (p q : T3) (d : Int) : T3 := madeT (p.1 * q.1 + d * p.2.1 * q.2.1) (p.1 * q.2.1 + p.2.1 * q.1) (p.2.2 * q.2.2)
def quotT (p q : T3) (d : Int) : Option T3 := if q.1 = 0 ∧ q.2.1 = 0 then none else some (prodT p (madeT (q.2.2 * q.1) (0 - q.2.2 * q.2.1) (q.1 * q.1 - d * q.2.1 * q.2.1)) d)
def rootT (p : T3) (d : Int) : Int := if p.2.1 < 0 then 0 - isq (p.2.1 * p.2.1 * d) - (if isq (p.2.1 * p.2.1 * d) * isq (p.2.1 * p.2.1 * d) < p.2.1 * p.2.1 * d then 1 else 0) else isq (p.2.1 * p.2.1 * d)
def belowT (p : T3) (d : Int) : Int := (p.1 + rootT p d).fdiv p.2.2
def nextT (p : T3) (d : Int) : Option T3 := quotT (1, 0, 1) (sumT p (belowT p d, 0, 1) (-1)) d
/-- d is no square -/
def NSq (d : Int) : Prop := 0 < d ∧ ∀ x y : Int, y ≠ 0 → x * x ≠ d * y * y
theorem alg_q {a b c d q z1 z2 z3 a1 b1 c1 a2 b2 c2 a3 b3 c3 : Int} (u1 : a + -1 * q * c = z1 * a1) (u2 : b = z1 * b1) (u3 : c = z1 * c1) (v1 : c1 * a1 = z2 * a2) (v2 : 0 - c1 * b1 = z2 * b2) (v3 : a1 * a1 - d * b1 * b1 = z2 * c2) (w1 : a2 = z3 * a3) (w2 : b2 = z3 * b3) (w3 : c2 = z3 * c3) :
    z1 * z1 * z2 * z3 * a3 = c * (a - q * c) ∧ z1 * z1 * z2 * z3 * b3 = - (c * b) ∧ z1 * z1 * z2 * z3 * c3 = (a - q * c) * (a - q * c) - d * b * b := by
  have e1 : a - q * c = z1 * a1 := by rw [← u1]; grind
  rw [e1]
  subst w1 w2 w3 u2 u3
  refine ⟨?_, ?_, ?_⟩
  · have : z1 * z1 * z2 * z3 * a3 = z1 * z1 * (z2 * (z3 * a3)) := by grind
    rw [this, ← v1]; grind
  · have : z1 * z1 * z2 * z3 * b3 = z1 * z1 * (z2 * (z3 * b3)) := by grind
    rw [this, ← v2]; grind
  · have : z1 * z1 * z2 * z3 * c3 = z1 * z1 * (z2 * (z3 * c3)) := by grind
    rw [this, ← v3]; grind
theorem alg_r {a b c d q k t m β s : Int} (ht : t = k * a) (hmk : m = k * b) (hβ : β = k * c) (hs : s = d * m * m) :
    c * (a - q * c) * (s - (q * β - t) * (q * β - t)) = ((a - q * c) * (a - q * c) - d * b * b) * (β * (q * β - t)) ∧
    -(c * b) * (s - (q * β - t) * (q * β - t)) = ((a - q * c) * (a - q * c) - d * b * b) * (β * m) := by
  subst ht hmk hβ hs
  constructor <;> grind
/-- the next number, of a root's -/
theorem stepQ {d : Int} (hd : NSq d) {p : T3} (hp : Nm p) {t m s β f : Int} (hm : 0 < m) (hs : s = d * m * m) (R : RtI t s β f) (P : Px p t m β) :
    belowT p d = (t + f + (if β < 0 then 1 else 0)).fdiv β ∧ ∃ p', nextT p d = some p' ∧ Nm p' ∧ Px p' (belowT p d * β - t) m ((s - (belowT p d * β - t) * (belowT p d * β - t)).fdiv β) := by
  obtain ⟨k, k0, ht, hmk, hβ⟩ := P.k hp
  have hc := hp.pos
  have R' := R
  obtain ⟨f0, lo, hi, b0, e, he⟩ := R
  obtain ⟨hd0, hns⟩ := hd
  obtain ⟨a, b, c⟩ := p
  simp only at *
  have hb0 : b ≠ 0 := fun z => by rw [z, Int.mul_zero] at hmk; omega
  have hS : 0 ≤ b * b * d := Int.mul_nonneg (sqNN b) (Int.le_of_lt hd0)
  obtain ⟨g0, g1, g2⟩ := isq_spec hS
  have hne : isq (b * b * d) * isq (b * b * d) ≠ b * b * d := fun z => hns (isq (b * b * d)) b hb0 (by rw [z]; grind)
  have hsk : s = k * k * (b * b * d) := by rw [hs, hmk]; grind
  have hq : belowT (a, b, c) d = (t + f + (if β < 0 then 1 else 0)).fdiv β := by
    unfold belowT rootT
    simp only
    generalize hg : isq (b * b * d) = g at *
    rcases Int.lt_or_gt_of_ne k0 with hk | hk
    · have hbn : b < 0 := by
        rcases Int.lt_or_le b 0 with w | w
        · exact w
        · have := Int.mul_nonpos_of_nonpos_of_nonneg (Int.le_of_lt hk) w; omega
      have hβn : β < 0 := by rw [hβ]; exact Int.mul_neg_of_neg_of_pos hk hc
      rw [if_pos hbn, if_pos (by omega), if_pos hβn]
      have key : ∀ y : Int, y ≤ (a + (0 - g - 1)).fdiv c ↔ y ≤ (t + f + 1).fdiv β := fun y => by
        rw [le_fdiv_pos hc, le_fdiv_neg hβn]
        have hsc := isq_scale (s := b * b * d) (g := g) (f := f) (k := -k) (by omega) g0 g1 g2 f0 (by rw [show -k * -k = k * k by grind, ← hsk]; omega) (by rw [show -k * -k = k * k by grind, ← hsk]; exact hi) (a - y * c)
        have e1 : -k * (a - y * c) = y * β - t := by rw [hβ, ht]; grind
        rw [e1] at hsc
        constructor
        · intro h
          rcases Int.lt_or_le (y * β) (t + f + 1) with w | w
          · have := hsc.mpr (by omega); omega
          · exact w
        · intro h
          rcases Int.lt_or_le (a + (0 - g - 1)) (y * c) with w | w
          · have := hsc.mp (by omega); omega
          · exact w
      have a1 := (key _).mp (Int.le_refl _)
      have a2 := (key _).mpr (Int.le_refl _)
      omega
    · have hbp : ¬ b < 0 := fun w => by
        have := Int.mul_neg_of_pos_of_neg hk w; omega
      have hβp : 0 < β := by rw [hβ]; exact Int.mul_pos hk hc
      rw [if_neg hbp, if_neg (by omega), Int.add_zero]
      have key : ∀ y : Int, y ≤ (a + g).fdiv c ↔ y ≤ (t + f).fdiv β := fun y => by
        rw [le_fdiv_pos hc, le_fdiv_pos hβp]
        have hsc := isq_scale (s := b * b * d) (g := g) (f := f) (k := k) hk g0 g1 g2 f0 (by rw [← hsk]; omega) (by rw [← hsk]; exact hi) (y * c - a)
        have e1 : k * (y * c - a) = y * β - t := by rw [hβ, ht]; grind
        rw [e1] at hsc
        constructor
        · intro h; have := hsc.mp (by omega); omega
        · intro h; have := hsc.mpr (by omega); omega
      have a1 := (key _).mp (Int.le_refl _)
      have a2 := (key _).mpr (Int.le_refl _)
      omega
  refine ⟨hq, ?_⟩
  obtain ⟨R2, _, hbb, _, _⟩ := rt_next R' hq rfl rfl
  generalize hqq : belowT (a, b, c) d = q at *
  generalize hb' : (s - (q * β - t) * (q * β - t)).fdiv β = β' at *
  unfold nextT
  rw [hqq]
  unfold sumT
  simp only [Int.mul_one, Int.mul_zero, Int.zero_mul, Int.add_zero]
  obtain ⟨z1, z10, u1, u2, u3, u4⟩ := madeT_spec (x := a + -1 * q * c) (y := b) (z := c) (by omega)
  generalize madeT (a + -1 * q * c) b c = p1 at *
  obtain ⟨a1, b1, c1⟩ := p1
  simp only at *
  have b10 : b1 ≠ 0 := fun w => by rw [w, Int.mul_zero] at u2; exact hb0 u2
  unfold quotT
  simp only
  rw [if_neg (fun w => b10 w.2)]
  have hsz : a1 * a1 - d * b1 * b1 ≠ 0 := fun w => hns a1 b1 b10 (by omega)
  obtain ⟨z2, z20, v1, v2, v3, v4⟩ := madeT_spec (x := c1 * a1) (y := 0 - c1 * b1) hsz
  generalize madeT (c1 * a1) (0 - c1 * b1) (a1 * a1 - d * b1 * b1) = p2 at *
  obtain ⟨a2, b2, c2⟩ := p2
  simp only at *
  unfold prodT
  simp only [Int.one_mul, Int.mul_zero, Int.zero_mul, Int.add_zero]
  obtain ⟨z3, z30, w1, w2, w3, w4⟩ := madeT_spec (x := a2) (y := b2) (z := c2) (Int.ne_of_gt v4.pos)
  refine ⟨_, rfl, w4, ?_⟩
  generalize madeT a2 b2 c2 = p3 at *
  obtain ⟨a3, b3, c3⟩ := p3
  simp only at *
  have hG : z1 * z1 * z2 * z3 * β ≠ 0 := Int.mul_ne_zero (Int.mul_ne_zero (Int.mul_ne_zero (Int.mul_ne_zero z10 z10) z20) z30) b0
  obtain ⟨x1, x2, x3⟩ := alg_q (q := q) (d := d) u1 u2 u3 v1 v2 v3 w1 w2 w3
  obtain ⟨y1, y2⟩ := alg_r (q := q) (d := d) (a := a) (b := b) (c := c) ht hmk hβ hs
  refine ⟨?_, ?_, R2.b0⟩
  · refine Int.eq_of_mul_eq_mul_left hG ?_
    have e1 : z1 * z1 * z2 * z3 * β * (a3 * β') = (z1 * z1 * z2 * z3 * a3) * (β * β') := by
      generalize z1 * z1 * z2 * z3 = G
      rw [Int.mul_assoc, Int.mul_left_comm β a3, ← Int.mul_assoc]
    have e2 : z1 * z1 * z2 * z3 * β * ((q * β - t) * c3) = (z1 * z1 * z2 * z3 * c3) * (β * (q * β - t)) := by
      generalize z1 * z1 * z2 * z3 = G
      generalize q * β - t = T
      rw [Int.mul_assoc, Int.mul_comm T c3, Int.mul_left_comm β c3, ← Int.mul_assoc]
    simp only
    rw [e1, x1, hbb, e2, x3]
    exact y1
  · refine Int.eq_of_mul_eq_mul_left hG ?_
    have e1 : z1 * z1 * z2 * z3 * β * (b3 * β') = (z1 * z1 * z2 * z3 * b3) * (β * β') := by
      generalize z1 * z1 * z2 * z3 = G
      rw [Int.mul_assoc, Int.mul_left_comm β b3, ← Int.mul_assoc]
    have e2 : z1 * z1 * z2 * z3 * β * (m * c3) = (z1 * z1 * z2 * z3 * c3) * (β * m) := by
      generalize z1 * z1 * z2 * z3 = G
      rw [Int.mul_assoc, Int.mul_comm m c3, Int.mul_left_comm β c3, ← Int.mul_assoc]
    simp only
    rw [e1, x2, hbb, e2, x3]
    exact y2
theorem nsq_desc {d f : Int} (f0 : 0 ≤ f) (h1 : f * f < d) (h2 : d < (f + 1) * (f + 1)) : ∀ n : Nat, ∀ x y : Int, 0 ≤ x → 0 < y → y.toNat = n → x * x ≠ d * y * y := by
  intro n
  induction n using Nat.strongRecOn with
  | ind n ih =>
    intro x y x0 y0 hn he
    have a1 : f * y < x := by
      rcases Int.lt_or_le (f * y) x with w | w
      · exact w
      · have k1 : x * x ≤ (f * y) * (f * y) := Int.mul_le_mul w w x0 (Int.mul_nonneg f0 (Int.le_of_lt y0))
        have k2 : (f * y) * (f * y) = f * f * (y * y) := by grind
        have k3 : f * f * (y * y) < d * (y * y) := Int.mul_lt_mul_of_pos_right h1 (Int.mul_pos y0 y0)
        have k4 : d * y * y = d * (y * y) := Int.mul_assoc ..
        omega
    have a2 : x < (f + 1) * y := by
      rcases Int.lt_or_le x ((f + 1) * y) with w | w
      · exact w
      · have k1 : ((f + 1) * y) * ((f + 1) * y) ≤ x * x := Int.mul_le_mul w w (Int.mul_nonneg (by omega) (Int.le_of_lt y0)) x0
        have k2 : ((f + 1) * y) * ((f + 1) * y) = (f + 1) * (f + 1) * (y * y) := by grind
        have k3 : d * (y * y) < (f + 1) * (f + 1) * (y * y) := Int.mul_lt_mul_of_pos_right h2 (Int.mul_pos y0 y0)
        have k4 : d * y * y = d * (y * y) := Int.mul_assoc ..
        omega
    have e1 : (f + 1) * y = f * y + y := by grind
    have b1 : 0 ≤ d * y - f * x := by
      have k1 : y * (d * y - f * x) = x * (x - f * y) := by
        have : y * (d * y - f * x) = d * y * y - f * x * y := by grind
        rw [this, ← he]; grind
      have k2 : 0 ≤ x * (x - f * y) := Int.mul_nonneg x0 (by omega)
      rw [← k1] at k2
      rcases Int.lt_or_le (d * y - f * x) 0 with w | w
      · have := Int.mul_neg_of_pos_of_neg y0 w; omega
      · exact w
    refine ih (x - f * y).toNat (by omega) (d * y - f * x) (x - f * y) b1 (by omega) rfl ?_
    have : (d * y - f * x) * (d * y - f * x) - d * (x - f * y) * (x - f * y) = (x * x - d * y * y) * (f * f - d) := by grind
    rw [he, Int.sub_self, Int.zero_mul] at this
    omega
theorem nsq_of {d f : Int} (f0 : 0 ≤ f) (h1 : f * f < d) (h2 : d < (f + 1) * (f + 1)) : NSq d := by
  refine ⟨by have := Int.mul_nonneg f0 f0; omega, fun x y hy he => ?_⟩
  refine nsq_desc f0 h1 h2 _ (if x < 0 then -x else x) (if y < 0 then -y else y) (by split <;> omega) (by split <;> omega) rfl ?_
  split <;> split <;> grind
theorem fdiv_k {a c k : Int} (hc : 0 < c) (hk : k ≠ 0) : a.fdiv c = (k * a).fdiv (k * c) := by
  have key : ∀ y, y ≤ a.fdiv c ↔ y ≤ (k * a).fdiv (k * c) := fun y => by
    have e : y * (k * c) = k * (y * c) := by grind
    rcases Int.lt_or_gt_of_ne hk with h | h
    · rw [le_fdiv_pos hc, le_fdiv_neg (Int.mul_neg_of_neg_of_pos h hc), e]
      constructor
      · intro w; exact Int.mul_le_mul_of_nonpos_left (Int.le_of_lt h) w
      · intro w
        rcases Int.lt_or_le a (y * c) with z | z
        · have := Int.mul_lt_mul_of_neg_left z h; omega
        · exact z
    · rw [le_fdiv_pos hc, le_fdiv_pos (Int.mul_pos h hc), e]
      constructor
      · intro w; exact Int.mul_le_mul_of_nonneg_left w (Int.le_of_lt h)
      · intro w; exact Int.le_of_mul_le_mul_left w h
  have a1 := (key _).mp (Int.le_refl _)
  have a2 := (key _).mpr (Int.le_refl _)
  omega
/-- the next number, of a fraction's -/
theorem stepF {d : Int} {p : T3} (hp : Nm p) {t b : Int} (P : Px p t 0 b) :
    belowT p d = t.fdiv b ∧ ((t - t.fdiv b * b = 0 ∧ nextT p d = none) ∨ (t - t.fdiv b * b ≠ 0 ∧ ∃ p', nextT p d = some p' ∧ Nm p' ∧ Px p' b 0 (t - t.fdiv b * b))) := by
  obtain ⟨k, k0, ht, hm, hb⟩ := P.k hp
  have hc := hp.pos
  have hb0 := P.ne
  obtain ⟨a, z, c⟩ := p
  simp only at *
  have hz : z = 0 := by
    rcases Int.mul_eq_zero.mp hm.symm with w | w
    · exact absurd w k0
    · exact w
  subst hz
  have hq : belowT (a, 0, c) d = t.fdiv b := by
    unfold belowT rootT
    simp only [Int.lt_irrefl, if_false, Int.mul_zero, Int.zero_mul]
    rw [show isq 0 = 0 from rfl, Int.add_zero, ht, hb]
    exact fdiv_k hc k0
  refine ⟨hq, ?_⟩
  generalize t.fdiv b = q at *
  have hr : t - q * b = k * (a - q * c) := by rw [ht, hb]; grind
  unfold nextT
  rw [hq]
  unfold sumT
  simp only [Int.mul_one, Int.mul_zero, Int.zero_mul, Int.add_zero]
  obtain ⟨z1, z10, u1, u2, u3, u4⟩ := madeT_spec (x := a + -1 * q * c) (y := 0) (z := c) (by omega)
  generalize madeT (a + -1 * q * c) 0 c = p1 at *
  obtain ⟨a1, b1, c1⟩ := p1
  simp only at *
  have b10 : b1 = 0 := by
    rcases Int.mul_eq_zero.mp u2.symm with w | w
    · exact absurd w z10
    · exact w
  subst b10
  have e1 : a - q * c = z1 * a1 := by rw [← u1]; grind
  rw [hr, e1]
  unfold quotT
  simp only [and_true]
  by_cases h1 : a1 = 0
  · subst h1
    rw [if_pos rfl]
    exact .inl ⟨by simp, rfl⟩
  · rw [if_neg h1]
    refine .inr ⟨Int.mul_ne_zero k0 (Int.mul_ne_zero z10 h1), ?_⟩
    simp only [Int.mul_zero, Int.sub_zero, Int.zero_mul]
    obtain ⟨z2, z20, v1, v2, v3, v4⟩ := madeT_spec (x := c1 * a1) (y := 0) (z := a1 * a1) (Int.mul_ne_zero h1 h1)
    generalize madeT (c1 * a1) 0 (a1 * a1) = p2 at *
    obtain ⟨a2, b2, c2⟩ := p2
    simp only at *
    have b20 : b2 = 0 := by
      rcases Int.mul_eq_zero.mp v2.symm with w | w
      · exact absurd w z20
      · exact w
    subst b20
    unfold prodT
    simp only [Int.one_mul, Int.mul_zero, Int.zero_mul, Int.add_zero]
    obtain ⟨z3, z30, w1, w2, w3, w4⟩ := madeT_spec (x := a2) (y := 0) (z := c2) (Int.ne_of_gt v4.pos)
    refine ⟨_, rfl, w4, ?_⟩
    generalize madeT a2 0 c2 = p3 at *
    obtain ⟨a3, b3, c3⟩ := p3
    simp only at *
    have b30 : b3 = 0 := by
      rcases Int.mul_eq_zero.mp w2.symm with w | w
      · exact absurd w z30
      · exact w
    subst b30
    refine ⟨?_, by simp only [Int.zero_mul], Int.mul_ne_zero k0 (Int.mul_ne_zero z10 h1)⟩
    simp only
    -- a3 * (k z1 a1) = k c1 z1 * c3, with z2 z3 a3 = c1 a1 and z2 z3 c3 = a1 a1
    refine Int.eq_of_mul_eq_mul_left (a := z2 * z3) (Int.mul_ne_zero z20 z30) ?_
    have x1 : z2 * z3 * a3 = c1 * a1 := by rw [v1, w1, Int.mul_assoc]
    have x3 : z2 * z3 * c3 = a1 * a1 := by rw [v3, w3, Int.mul_assoc]
    rw [← Int.mul_assoc, x1, hb, u3]
    have : z2 * z3 * (k * (z1 * c1) * c3) = (z2 * z3 * c3) * (k * (z1 * c1)) := by
      generalize z2 * z3 = G
      generalize k * (z1 * c1) = L
      rw [Int.mul_comm L c3, Int.mul_assoc]
    rw [this, x3]
    grind
def Ht (B : Nat) (p : T3) : Prop := p.1.natAbs < 2 ^ B ∧ p.2.1.natAbs < 2 ^ B ∧ p.2.2.natAbs < 2 ^ B
/-- a quotient's own square is no nought -/
def Sz (d : Int) (s : T3) : Prop := (s.1 = 0 ∧ s.2.1 = 0) ∨ s.1 * s.1 - d * s.2.1 * s.2.1 ≠ 0
theorem sz_of {d : Int} {s : T3} (h : NSq d ∨ s.2.1 = 0) : Sz d s := by
  by_cases hz : s.2.1 = 0
  · by_cases h1 : s.1 = 0
    · exact .inl ⟨h1, hz⟩
    · right
      rw [hz, Int.mul_zero, Int.sub_zero]
      exact Int.mul_ne_zero h1 h1
  · rcases h with h | h
    · exact .inr fun e => h.2 s.1 s.2.1 hz (by omega)
    · exact absurd h hz
/-- a triple's number beside a leaf's -/
inductive QR (d : Int) : Option T3 → R → Prop
  | root {p : T3} {k : Nat} {t m s β f : Int} : NSq d → Nm p → 0 < m → s = d * m * m → RtI t s β f → Px p t m β → QR d (some p) (.root k t s β f)
  | frac {p : T3} {k : Nat} {t b : Int} : Nm p → Px p t 0 b → QR d (some p) (.frac k t b)
  | done {k : Nat} {t : Int} : QR d none (.frac k t 0)
theorem QR.part {d : Int} {p : T3} {r r' : R} {n : Nat} {m m' : Int} {ans : Ans} (h : QR d (some p) r) (hm : m ≠ 0) (ht : Told n r m r' m' ans) : ans = .part (belowT p d) ∧ QR d (nextT p d) r' ∧ r'.tk = r.tk + 1 ∧ m' = m - 1 := by
  cases h with
  | root h1 h2 h3 h4 h5 h6 =>
    obtain ⟨e1, p', e2, e3, e4⟩ := stepQ h1 h2 h3 h4 h5 h6
    cases ht with
    | rtWait => exact absurd rfl hm
    | rtPart _ _ _ _ _ _ hq ht' _ =>
      subst hq ht'
      rw [← e1]
      refine ⟨rfl, ?_, rfl, rfl⟩
      rw [e2]
      obtain ⟨R', _⟩ := rt_next h5 e1 rfl rfl
      exact .root h1 e3 h3 h4 R' e4
  | frac h1 h2 =>
    obtain ⟨e1, e2⟩ := stepF (d := d) h1 h2
    cases ht with
    | frEnd => exact absurd rfl h2.ne
    | frWait => exact absurd rfl hm
    | frPart _ _ _ _ =>
      rw [← e1]
      refine ⟨rfl, ?_, rfl, rfl⟩
      rw [e1]
      rcases e2 with ⟨z, hn⟩ | ⟨z, p', hn, h3, h4⟩
      · rw [hn, z]; exact .done
      · rw [hn]; exact .frac h3 h4
theorem QR.fin {d : Int} {r r' : R} {n : Nat} {m m' : Int} {ans : Ans} (h : QR d none r) (ht : Told n r m r' m' ans) : ans = .fin ∧ r' = r ∧ m' = m := by
  cases h with
  | done =>
    cases ht with
    | frEnd => exact ⟨rfl, rfl, rfl⟩
    | frWait h => exact absurd rfl h
    | frPart h => exact absurd rfl h
theorem Px.scale {p : T3} {t m β k : Int} (h : Px p t m β) (hk : k ≠ 0) : Px p (t * k) (m * k) (β * k) := by
  obtain ⟨h1, h2, h3⟩ := h
  refine ⟨?_, ?_, Int.mul_ne_zero h3 hk⟩
  · have : p.1 * (β * k) = p.1 * β * k := (Int.mul_assoc ..).symm
    rw [this, h1]; grind
  · have : p.2.1 * (β * k) = p.2.1 * β * k := (Int.mul_assoc ..).symm
    rw [this, h2]; grind
/-- how a root's reader begins -/
theorem rt_start {top d b g : Int} (b0 : b ≠ 0) (hd : NSq d) (g0 : 0 ≤ g) (g1 : g * g ≤ d * abI b * abI b) (g2 : d * abI b * abI b < (g + 1) * (g + 1)) : RtI (top * abI b) (d * abI b * abI b) (b * abI b) g ∧ 0 < abI b := by
  have ha : 0 < abI b ∧ ∃ e : Int, e * e = 1 ∧ b = e * abI b := by
    unfold abI
    split
    · exact ⟨by omega, -1, by decide, by omega⟩
    · exact ⟨by omega, 1, by decide, by omega⟩
  obtain ⟨a0, e, he, hb⟩ := ha
  refine ⟨⟨g0, ?_, g2, Int.mul_ne_zero b0 (by omega), (d - top * top) * e, ?_⟩, a0⟩
  · have := hd.2 g (abI b) (by omega)
    omega
  · generalize abI b = u at *
    rw [hb]
    have : e * u * u * ((d - top * top) * e) = (e * e) * (u * u * (d - top * top)) := by grind
    rw [this, he]
    grind
end PL
namespace PL
@[ext] structure Zd (d : Int) where
  x : Int
  y : Int
class NS (d : Int) : Prop where
  nsq : NSq d
namespace Zd
variable {d : Int}
instance : Add (Zd d) := ⟨fun a b => ⟨a.x + b.x, a.y + b.y⟩⟩
instance : Sub (Zd d) := ⟨fun a b => ⟨a.x - b.x, a.y - b.y⟩⟩
instance : Neg (Zd d) := ⟨fun a => ⟨-a.x, -a.y⟩⟩
instance : Mul (Zd d) := ⟨fun a b => ⟨a.x * b.x + d * a.y * b.y, a.x * b.y + a.y * b.x⟩⟩
instance : NatCast (Zd d) := ⟨fun n => ⟨n, 0⟩⟩
instance : IntCast (Zd d) := ⟨fun n => ⟨n, 0⟩⟩
instance (n : Nat) : OfNat (Zd d) n := ⟨⟨n, 0⟩⟩
def pow (a : Zd d) : Nat → Zd d
  | 0 => ⟨1, 0⟩
  | n + 1 => pow a n * a
instance : HPow (Zd d) Nat (Zd d) := ⟨pow⟩
instance : SMul Nat (Zd d) := ⟨fun n a => (⟨n, 0⟩ : Zd d) * a⟩
instance : SMul Int (Zd d) := ⟨fun n a => (⟨n, 0⟩ : Zd d) * a⟩
theorem add_x (a b : Zd d) : (a + b).x = a.x + b.x := rfl
theorem add_y (a b : Zd d) : (a + b).y = a.y + b.y := rfl
theorem sub_x (a b : Zd d) : (a - b).x = a.x - b.x := rfl
theorem sub_y (a b : Zd d) : (a - b).y = a.y - b.y := rfl
theorem neg_x (a : Zd d) : (-a).x = -a.x := rfl
theorem neg_y (a : Zd d) : (-a).y = -a.y := rfl
theorem mul_x (a b : Zd d) : (a * b).x = a.x * b.x + d * a.y * b.y := rfl
theorem mul_y (a b : Zd d) : (a * b).y = a.x * b.y + a.y * b.x := rfl
theorem zero_x : (0 : Zd d).x = 0 := rfl
theorem zero_y : (0 : Zd d).y = 0 := rfl
theorem one_x : (1 : Zd d).x = 1 := rfl
theorem one_y : (1 : Zd d).y = 0 := rfl
instance : Lean.Grind.CommRing (Zd d) where
  add_zero a := by ext <;> simp [add_x, add_y, zero_x, zero_y]
  add_comm a b := by ext <;> simp [add_x, add_y, Int.add_comm]
  add_assoc a b c := by ext <;> simp [add_x, add_y, Int.add_assoc]
  mul_assoc a b c := by ext <;> simp only [mul_x, mul_y] <;> grind
  mul_one a := by ext <;> simp [mul_x, mul_y, one_x, one_y]
  left_distrib a b c := by ext <;> simp only [mul_x, mul_y, add_x, add_y] <;> grind
  right_distrib a b c := by ext <;> simp only [mul_x, mul_y, add_x, add_y] <;> grind
  zero_mul a := by ext <;> simp [mul_x, mul_y, zero_x, zero_y]
  one_mul a := by ext <;> simp [mul_x, mul_y, one_x, one_y]
  mul_zero a := by ext <;> simp [mul_x, mul_y, zero_x, zero_y]
  mul_comm a b := by ext <;> simp only [mul_x, mul_y] <;> grind
  pow_zero a := rfl
  pow_succ a n := rfl
  neg_add_cancel a := by ext <;> simp [add_x, add_y, neg_x, neg_y, zero_x, zero_y] <;> omega
  sub_eq_add_neg a b := by ext <;> simp only [sub_x, sub_y, add_x, add_y, neg_x, neg_y] <;> omega
  neg_zsmul i a := by
    show (⟨-i, 0⟩ : Zd d) * a = -((⟨i, 0⟩ : Zd d) * a)
    ext <;> simp only [mul_x, mul_y, neg_x, neg_y] <;> grind
  intCast_neg i := by
    show (⟨-i, 0⟩ : Zd d) = -(⟨i, 0⟩ : Zd d)
    ext <;> simp [neg_x, neg_y]
def rt (d N : Int) : Int := isq (d * N * N)
/-- no less than nought -/
def nn (z : Zd d) : Prop := ∃ c : Int, ∀ N : Int, 1 ≤ N → -c ≤ N * z.x + z.y * rt d N
theorem rt_spec (hd : 0 < d) {N : Int} (hN : 1 ≤ N) : 0 ≤ rt d N ∧ rt d N * rt d N ≤ d * N * N ∧ d * N * N ≤ rt d N * rt d N + 2 * rt d N ∧ rt d N ≤ d * N := by
  have h0 : 0 ≤ d * N * N := Int.mul_nonneg (Int.mul_nonneg (Int.le_of_lt hd) (by omega)) (by omega)
  obtain ⟨a, b, c⟩ := isq_spec h0
  have e : (isq (d * N * N) + 1) * (isq (d * N * N) + 1) = isq (d * N * N) * isq (d * N * N) + 2 * isq (d * N * N) + 1 := by grind
  refine ⟨a, b, by unfold rt; omega, ?_⟩
  unfold rt
  rcases Int.lt_or_le (d * N) (isq (d * N * N)) with w | w
  · exfalso
    have hp : 0 < d * N := Int.mul_pos hd (by omega)
    have k1 : d * N * (d * N) < isq (d * N * N) * isq (d * N * N) := Int.lt_of_lt_of_le (Int.mul_lt_mul_of_pos_left w hp) (Int.mul_le_mul_of_nonneg_right (Int.le_of_lt w) a)
    have k2 : d * N * N ≤ d * N * (d * N) := Int.mul_le_mul_of_nonneg_left (by
      have := Int.mul_le_mul_of_nonneg_right (show (1 : Int) ≤ d by omega) (show 0 ≤ N by omega)
      omega) (Int.le_of_lt hp)
    omega
  · exact w
theorem nn_add {a b : Zd d} (ha : nn a) (hb : nn b) : nn (a + b) := by
  obtain ⟨c1, h1⟩ := ha
  obtain ⟨c2, h2⟩ := hb
  refine ⟨c1 + c2, fun N hN => ?_⟩
  have e1 := h1 N hN
  have e2 := h2 N hN
  rw [add_x, add_y, Int.mul_add, Int.add_mul]
  omega
theorem nn_int {n : Int} (h : 0 ≤ n) : nn (⟨n, 0⟩ : Zd d) := ⟨0, fun N hN => by
  have := Int.mul_nonneg (show 0 ≤ N by omega) h
  simp only [Int.zero_mul]
  omega⟩
theorem nn_total [hs : NS d] (z : Zd d) : nn z ∨ nn (-z) := by
  obtain ⟨hd, hns⟩ := hs.nsq
  -- x against a root of d * y * y
  have big : ∀ x y : Int, 0 ≤ x → 0 ≤ y → d * y * y ≤ x * x → ∀ N, 1 ≤ N → y * rt d N ≤ N * x := fun x y hx hy h N hN => by
    obtain ⟨r0, r1, _, _⟩ := rt_spec hd hN
    rcases Int.lt_or_le (N * x) (y * rt d N) with w | w
    · exfalso
      have n0 : 0 ≤ N * x := Int.mul_nonneg (by omega) hx
      have k1 : N * x * (N * x) < y * rt d N * (y * rt d N) := Int.lt_of_le_of_lt (Int.mul_le_mul_of_nonneg_left (Int.le_of_lt w) n0) (Int.mul_lt_mul_of_pos_right w (by omega))
      have k2 : y * rt d N * (y * rt d N) = y * y * (rt d N * rt d N) := by grind
      have k3 : y * y * (rt d N * rt d N) ≤ y * y * (d * N * N) := Int.mul_le_mul_of_nonneg_left r1 (sqNN y)
      have k4 : N * x * (N * x) = N * N * (x * x) := by grind
      have k5 : N * N * (d * y * y) ≤ N * N * (x * x) := Int.mul_le_mul_of_nonneg_left h (sqNN N)
      have k6 : y * y * (d * N * N) = N * N * (d * y * y) := by grind
      omega
    · exact w
  have small : ∀ x y : Int, 0 ≤ x → 0 ≤ y → x * x ≤ d * y * y → ∀ N, 1 ≤ N → N * x ≤ y * rt d N + y := fun x y hx hy h N hN => by
    obtain ⟨r0, _, r2, _⟩ := rt_spec hd hN
    rcases Int.lt_or_le (y * rt d N + y) (N * x) with w | w
    · exfalso
      have e0 : y * rt d N + y = y * (rt d N + 1) := by grind
      rw [e0] at w
      have n0 : 0 ≤ y * (rt d N + 1) := Int.mul_nonneg hy (by omega)
      have k1 : y * (rt d N + 1) * (y * (rt d N + 1)) < N * x * (N * x) := Int.lt_of_le_of_lt (Int.mul_le_mul_of_nonneg_left (Int.le_of_lt w) n0) (Int.mul_lt_mul_of_pos_right w (by omega))
      have k2 : y * (rt d N + 1) * (y * (rt d N + 1)) = y * y * (rt d N * rt d N + 2 * rt d N + 1) := by grind
      have k3 : y * y * (d * N * N) ≤ y * y * (rt d N * rt d N + 2 * rt d N + 1) := Int.mul_le_mul_of_nonneg_left (by omega) (sqNN y)
      have k4 : N * x * (N * x) = N * N * (x * x) := by grind
      have k5 : N * N * (x * x) ≤ N * N * (d * y * y) := Int.mul_le_mul_of_nonneg_left h (sqNN N)
      have k6 : y * y * (d * N * N) = N * N * (d * y * y) := by grind
      omega
    · exact w
  obtain ⟨x, y⟩ := z
  rcases Int.le_total 0 x with hx | hx <;> rcases Int.le_total 0 y with hy | hy
  · left
    refine ⟨0, fun N hN => ?_⟩
    obtain ⟨r0, _⟩ := rt_spec hd hN
    have := Int.mul_nonneg (show 0 ≤ N by omega) hx
    have := Int.mul_nonneg hy r0
    simp only; omega
  · rcases Int.le_total (d * -y * -y) (x * x) with h | h
    · left
      refine ⟨0, fun N hN => ?_⟩
      have := big x (-y) hx (by omega) h N hN
      rw [Int.neg_mul] at this
      simp only; omega
    · right
      refine ⟨-y, fun N hN => ?_⟩
      have := small x (-y) hx (by omega) h N hN
      simp only [neg_x, neg_y]
      rw [Int.mul_neg]
      omega
  · rcases Int.le_total (d * y * y) (-x * -x) with h | h
    · right
      refine ⟨0, fun N hN => ?_⟩
      have := big (-x) y (by omega) hy h N hN
      simp only [neg_x, neg_y]
      rw [Int.neg_mul]
      omega
    · left
      refine ⟨y, fun N hN => ?_⟩
      have := small (-x) y (by omega) hy h N hN
      rw [Int.mul_neg] at this
      simp only; omega
  · right
    refine ⟨0, fun N hN => ?_⟩
    obtain ⟨r0, _⟩ := rt_spec hd hN
    have := Int.mul_nonneg (show 0 ≤ N by omega) (show 0 ≤ -x by omega)
    have := Int.mul_nonneg (show 0 ≤ -y by omega) r0
    simp only [neg_x, neg_y]; omega
theorem nn_anti [hs : NS d] {z : Zd d} (h1 : nn z) (h2 : nn (-z)) : z = 0 := by
  obtain ⟨hd, hns⟩ := hs.nsq
  obtain ⟨c1, g1⟩ := h1
  obtain ⟨c2, g2⟩ := h2
  obtain ⟨x, y⟩ := z
  simp only [neg_x, neg_y] at g1 g2
  rcases Classical.em (x * x = d * y * y) with hz | hz
  · have y0 : y = 0 := Decidable.not_not.mp fun w => hns x y w hz
    subst y0
    have x0 : x = 0 := by
      rw [Int.mul_zero] at hz
      rcases Int.mul_eq_zero.mp hz with w | w <;> exact w
    subst x0
    rfl
  · exfalso
    -- bounds
    obtain ⟨c, hc⟩ : ∃ c : Int, c = c1.natAbs + c2.natAbs := ⟨_, rfl⟩
    obtain ⟨K, hK⟩ : ∃ K : Int, K = c * (x.natAbs + y.natAbs * d) + y * y * (2 * d) + 1 := ⟨_, rfl⟩
    have c0 : 0 ≤ c := by omega
    have hdn : 0 ≤ (y.natAbs : Int) * d := Int.mul_nonneg (by omega) (Int.le_of_lt hd)
    have p1 : 0 ≤ c * (x.natAbs + y.natAbs * d) := Int.mul_nonneg c0 (by omega)
    have p2 : 0 ≤ y * y * (2 * d) := Int.mul_nonneg (sqNN y) (by omega)
    have hN : 1 ≤ K := by omega
    obtain ⟨r0, r1, r2, r3⟩ := rt_spec hd hN
    have a1 := g1 K hN
    have a2 := g2 K hN
    rw [Int.mul_neg, Int.neg_mul] at a2
    generalize rt d K = r at *
    obtain ⟨A, hA⟩ : ∃ A : Int, A = K * x + y * r := ⟨_, rfl⟩
    have hAc : A.natAbs ≤ c.toNat := by omega
    obtain ⟨B, hB⟩ : ∃ B : Int, B = K * x - y * r := ⟨_, rfl⟩
    have hBc : (B.natAbs : Int) ≤ K * (x.natAbs + y.natAbs * d) := by
      have b1 : (B.natAbs : Int) ≤ (K * x).natAbs + (y * r).natAbs := by rw [hB]; omega
      have b2 : ((K * x).natAbs : Int) = K * x.natAbs := by rw [Int.natAbs_mul]; have : (K.natAbs : Int) = K := by omega
                                                            rw [Int.natCast_mul, this]
      have b3 : ((y * r).natAbs : Int) = y.natAbs * r := by rw [Int.natAbs_mul]; have : (r.natAbs : Int) = r := by omega
                                                            rw [Int.natCast_mul, this]
      have b4 : (y.natAbs : Int) * r ≤ y.natAbs * (d * K) := Int.mul_le_mul_of_nonneg_left r3 (by omega)
      have b5 : K * ((x.natAbs : Int) + y.natAbs * d) = K * x.natAbs + y.natAbs * (d * K) := by grind
      omega
    have hAB : ((A * B).natAbs : Int) ≤ c * (K * (x.natAbs + y.natAbs * d)) := by
      rw [Int.natAbs_mul, Int.natCast_mul]
      exact Int.mul_le_mul (by omega) hBc (by omega) c0
    have hid : A * B = K * K * (x * x - d * y * y) + y * y * (d * K * K - r * r) := by rw [hA, hB]; grind
    have q1 : 0 ≤ y * y * (d * K * K - r * r) := Int.mul_nonneg (sqNN y) (by omega)
    have q2 : y * y * (d * K * K - r * r) ≤ y * y * (2 * (d * K)) := Int.mul_le_mul_of_nonneg_left (by omega) (sqNN y)
    have q3 : K * K ≤ (K * K * (x * x - d * y * y)).natAbs := by
      have hne : x * x - d * y * y ≠ 0 := fun w => hz (by omega)
      have k0 : 0 ≤ K * K := sqNN K
      rcases Int.lt_or_gt_of_ne hne with w | w
      · have := Int.mul_le_mul_of_nonneg_left (show x * x - d * y * y ≤ -1 by omega) k0
        omega
      · have := Int.mul_le_mul_of_nonneg_left (show (1 : Int) ≤ x * x - d * y * y by omega) k0
        omega
    have q4 : K * K = K * (c * (x.natAbs + y.natAbs * d)) + K * (y * y * (2 * d)) + K := by
      conv => lhs; rw [show K * K = K * (c * (x.natAbs + y.natAbs * d) + y * y * (2 * d) + 1) by rw [← hK]]
      grind
    have q5 : c * (K * (x.natAbs + y.natAbs * d)) = K * (c * (x.natAbs + y.natAbs * d)) := by grind
    have q6 : y * y * (2 * (d * K)) = K * (y * y * (2 * d)) := by grind
    omega
theorem nn_mul (hd : 0 < d) {a b : Zd d} (ha : nn a) (hb : nn b) : nn (a * b) := by
  obtain ⟨c1, g1⟩ := ha
  obtain ⟨c2, g2⟩ := hb
  obtain ⟨x1, y1⟩ := a
  obtain ⟨x2, y2⟩ := b
  simp only at g1 g2
  obtain ⟨k1, hk1⟩ : ∃ k : Int, k = x1.natAbs + y1.natAbs * d := ⟨_, rfl⟩
  obtain ⟨k2, hk2⟩ : ∃ k : Int, k = x2.natAbs + y2.natAbs * d := ⟨_, rfl⟩
  refine ⟨c1.natAbs * k2 + c2.natAbs * k1 + (y1 * y2).natAbs * (2 * d), fun N hN => ?_⟩
  simp only [mul_x, mul_y]
  obtain ⟨r0, r1, r2, r3⟩ := rt_spec hd hN
  have a1 := g1 N hN
  have a2 := g2 N hN
  generalize rt d N = r at *
  have bnd : ∀ x y : Int, ((N * x + y * r).natAbs : Int) ≤ N * (x.natAbs + y.natAbs * d) := fun x y => by
    have b1 : ((N * x + y * r).natAbs : Int) ≤ (N * x).natAbs + (y * r).natAbs := by omega
    have b2 : ((N * x).natAbs : Int) = N * x.natAbs := by rw [Int.natAbs_mul, Int.natCast_mul, show (N.natAbs : Int) = N by omega]
    have b3 : ((y * r).natAbs : Int) = y.natAbs * r := by rw [Int.natAbs_mul, Int.natCast_mul, show (r.natAbs : Int) = r by omega]
    have b4 : (y.natAbs : Int) * r ≤ y.natAbs * (d * N) := Int.mul_le_mul_of_nonneg_left r3 (by omega)
    have b5 : N * ((x.natAbs : Int) + y.natAbs * d) = N * x.natAbs + y.natAbs * (d * N) := by grind
    omega
  have u1 := bnd x1 y1
  have u2 := bnd x2 y2
  rw [← hk1] at u1
  rw [← hk2] at u2
  have hid : N * (N * (x1 * x2 + d * y1 * y2) + (x1 * y2 + y1 * x2) * r) = (N * x1 + y1 * r) * (N * x2 + y2 * r) + y1 * y2 * (d * N * N - r * r) := by grind
  generalize N * x1 + y1 * r = A at *
  generalize N * x2 + y2 * r = B at *
  have n1 : (0 : Int) ≤ N * k1 := by omega
  have n2 : (0 : Int) ≤ N * k2 := by omega
  have m1 : 0 ≤ (c1.natAbs : Int) * (N * k2) := Int.mul_nonneg (by omega) n2
  have m2 : 0 ≤ (c2.natAbs : Int) * (N * k1) := Int.mul_nonneg (by omega) n1
  have hAB : -(c1.natAbs * (N * k2) + c2.natAbs * (N * k1)) ≤ A * B := by
    rcases Int.le_total 0 A with p | p <;> rcases Int.le_total 0 B with q | q
    · have := Int.mul_nonneg p q; omega
    · have e : A * (-B) ≤ N * k1 * c2.natAbs := Int.mul_le_mul (by omega) (by omega) (by omega) n1
      rw [Int.mul_neg, Int.mul_comm (N * k1)] at e
      omega
    · have e : (-A) * B ≤ c1.natAbs * (N * k2) := Int.mul_le_mul (by omega) (by omega) q (by omega)
      rw [Int.neg_mul] at e
      omega
    · have := Int.mul_nonneg_of_nonpos_of_nonpos p q; omega
  have hy : -((y1 * y2).natAbs * (2 * (d * N))) ≤ y1 * y2 * (d * N * N - r * r) := by
    have e0 : 0 ≤ d * N * N - r * r := by omega
    have e1 : ((y1 * y2).natAbs : Int) * (d * N * N - r * r) ≤ (y1 * y2).natAbs * (2 * (d * N)) := Int.mul_le_mul_of_nonneg_left (by omega) (by omega)
    have e2 : -((y1 * y2).natAbs : Int) * (d * N * N - r * r) ≤ y1 * y2 * (d * N * N - r * r) := Int.mul_le_mul_of_nonneg_right (by omega) e0
    rw [Int.neg_mul] at e2
    omega
  have fin : N * -(c1.natAbs * k2 + c2.natAbs * k1 + (y1 * y2).natAbs * (2 * d)) ≤ N * (N * (x1 * x2 + d * y1 * y2) + (x1 * y2 + y1 * x2) * r) := by
    rw [hid]
    have : N * -(c1.natAbs * k2 + c2.natAbs * k1 + (y1 * y2).natAbs * (2 * d)) = -(c1.natAbs * (N * k2) + c2.natAbs * (N * k1)) + -((y1 * y2).natAbs * (2 * (d * N))) := by grind
    rw [this]
    omega
  exact Int.le_of_mul_le_mul_left fin (by omega)
instance : LE (Zd d) := ⟨fun a b => nn (b - a)⟩
instance : LT (Zd d) := ⟨fun a b => nn (b - a) ∧ ¬ nn (a - b)⟩
theorem le_def (a b : Zd d) : a ≤ b ↔ nn (b - a) := Iff.rfl
instance : Std.LawfulOrderLT (Zd d) := ⟨fun _ _ => Iff.rfl⟩
instance [NS d] : Std.IsLinearOrder (Zd d) where
  le_refl a := by
    rw [le_def]
    have : a - a = (⟨0, 0⟩ : Zd d) := by ext <;> simp [sub_x, sub_y]
    rw [this]
    exact nn_int (Int.le_refl 0)
  le_trans a b c h1 h2 := by
    rw [le_def] at *
    have : c - a = (c - b) + (b - a) := by grind
    rw [this]
    exact nn_add h2 h1
  le_antisymm a b h1 h2 := by
    rw [le_def] at *
    have e : a - b = -(b - a) := by grind
    rw [e] at h2
    have := nn_anti h1 h2
    grind
  le_total a b := by
    rw [le_def, le_def]
    have e : a - b = -(b - a) := by grind
    rw [e]
    exact nn_total _
theorem no_zero [hs : NS d] {a b : Zd d} (h : a * b = 0) : a = 0 ∨ b = 0 := by
  obtain ⟨hd, hns⟩ := hs.nsq
  obtain ⟨x1, y1⟩ := a
  obtain ⟨x2, y2⟩ := b
  have hx := congrArg Zd.x h
  have hy := congrArg Zd.y h
  simp only [mul_x, mul_y, zero_x, zero_y] at hx hy
  have key : (x1 * x1 - d * y1 * y1) * (x2 * x2 - d * y2 * y2) = 0 := by
    have : (x1 * x1 - d * y1 * y1) * (x2 * x2 - d * y2 * y2) = (x1 * x2 + d * y1 * y2) * (x1 * x2 + d * y1 * y2) - d * ((x1 * y2 + y1 * x2) * (x1 * y2 + y1 * x2)) := by grind
    rw [this, hx, hy]; simp
  have zz : ∀ x y : Int, x * x - d * y * y = 0 → (⟨x, y⟩ : Zd d) = 0 := fun x y e => by
    have y0 : y = 0 := Decidable.not_not.mp fun w => hns x y w (by omega)
    subst y0
    rw [Int.mul_zero, Int.sub_zero] at e
    have : x = 0 := by rcases Int.mul_eq_zero.mp e with w | w <;> exact w
    subst this
    rfl
  rcases Int.mul_eq_zero.mp key with e | e
  · exact .inl (zz _ _ e)
  · exact .inr (zz _ _ e)
theorem mul_lt [hs : NS d] {a b c : Zd d} (h : a < b) (hc : 0 < c) : c * a < c * b := by
  have hd := hs.nsq.1
  obtain ⟨h1, h2⟩ := h
  obtain ⟨g1, g2⟩ := hc
  have e1 : c * b - c * a = (c - 0) * (b - a) := by grind
  refine ⟨by rw [e1]; exact nn_mul hd g1 h1, fun w => ?_⟩
  have e2 : c * a - c * b = -((c - 0) * (b - a)) := by grind
  rw [e2] at w
  have z := nn_anti (nn_mul hd g1 h1) w
  rcases no_zero z with q | q
  · apply g2
    have : (0 : Zd d) - c = -(c - 0) := by grind
    rw [this, q]
    exact nn_int (d := d) (n := 0) (Int.le_refl 0)
  · apply h2
    have : a - b = -(b - a) := by grind
    rw [this, q]
    exact nn_int (d := d) (n := 0) (Int.le_refl 0)
instance [hs : NS d] : Lean.Grind.OrderedRing (Zd d) where
  add_le_left_iff {a b} c := by
    rw [le_def, le_def]
    have : b + c - (a + c) = b - a := by grind
    rw [this]
  zero_lt_one := by
    refine ⟨nn_int (d := d) (n := 1) (by decide), fun w => ?_⟩
    have := nn_anti (d := d) (z := ⟨1, 0⟩) (nn_int (by decide)) w
    have := congrArg Zd.x this
    simp [zero_x] at this
  mul_lt_mul_of_pos_left h hc := mul_lt h hc
  mul_lt_mul_of_pos_right {a b c} h hc := by
    have := mul_lt h hc
    have e1 : a * c = c * a := by grind
    have e2 : b * c = c * b := by grind
    rw [e1, e2]
    exact this
end Zd
end PL
namespace PL
open Lean.Grind
instance (priority := low) intc {A : Type} [Lean.Grind.Ring A] : IntCast A := Lean.Grind.Ring.intCast
section
variable {A : Type} [CommRing A] [LE A] [LT A] [Std.LawfulOrderLT A] [Std.IsLinearOrder A] [OrderedRing A]
theorem lt_or (a b : A) : a < b ∨ a = b ∨ b < a := by grind
theorem mul_pp {a b : A} (ha : 0 < a) (hb : 0 < b) : 0 < a * b := OrderedRing.mul_pos ha hb
theorem mul_nn {a b : A} (ha : 0 ≤ a) (hb : 0 ≤ b) : 0 ≤ a * b := OrderedRing.mul_nonneg ha hb
theorem mul_nz {a b : A} (ha : a ≠ 0) (hb : b ≠ 0) : a * b ≠ 0 := by
  rcases lt_or a 0 with h | h | h
  · rcases lt_or b 0 with g | g | g
    · have := mul_pp (a := -a) (b := -b) (by grind) (by grind)
      grind
    · exact absurd g hb
    · have := mul_pp (a := -a) (b := b) (by grind) (by grind)
      grind
  · exact absurd h ha
  · rcases lt_or b 0 with g | g | g
    · have := mul_pp (a := a) (b := -b) (by grind) (by grind)
      grind
    · exact absurd g hb
    · have := mul_pp (a := a) (b := b) (by grind) (by grind)
      grind
theorem sq_pos {a : A} (ha : a ≠ 0) : 0 < a * a := by
  rcases lt_or a 0 with h | h | h
  · have := mul_pp (a := -a) (b := -a) (by grind) (by grind)
    grind
  · exact absurd h ha
  · exact mul_pp h h
theorem pos_of_mul {a b : A} (h : 0 < a * b) (hb : 0 < b) : 0 < a := by
  rcases lt_or a 0 with g | g | g
  · have := mul_pp (a := -a) (b := b) (by grind) hb
    grind
  · subst g; grind
  · exact g
theorem nn_of_mul {a b : A} (h : 0 ≤ a * b) (hb : 0 < b) : 0 ≤ a := by
  rcases lt_or a 0 with g | g | g
  · have := mul_pp (a := -a) (b := b) (by grind) hb
    grind
  · grind
  · grind
theorem cancel {a b c : A} (hc : c ≠ 0) (h : a * c = b * c) : a = b := by
  rcases lt_or (a - b) 0 with g | g | g
  · have := mul_nz (a := a - b) (b := c) (by grind) hc
    grind
  · grind
  · have := mul_nz (a := a - b) (b := c) (by grind) hc
    grind
theorem zero_mul_or {a b : A} (h : a * b = 0) : a = 0 ∨ b = 0 := by
  rcases Classical.em (a = 0) with z | z
  · exact .inl z
  · right
    rcases Classical.em (b = 0) with w | w
    · exact w
    · exact absurd h (mul_nz z w)
theorem cast_pos {n : Int} (h : 0 < n) : (0 : A) < (n : A) := OrderedRing.pos_intCast_of_pos n h
theorem cast_nn {n : Int} (h : 0 ≤ n) : (0 : A) ≤ (n : A) := OrderedRing.nonneg_intCast_of_nonneg n h
theorem cast_add (a b : Int) : ((a + b : Int) : A) = (a : A) + b := Ring.intCast_add a b
theorem cast_sub (a b : Int) : ((a - b : Int) : A) = (a : A) - b := Ring.intCast_sub a b
theorem cast_mul (a b : Int) : ((a * b : Int) : A) = (a : A) * b := Ring.intCast_mul a b
theorem cast_neg (a : Int) : ((-a : Int) : A) = -(a : A) := Ring.intCast_neg a
theorem cast_one : ((1 : Int) : A) = 1 := Ring.intCast_one
theorem cast_ne {n : Int} (h : n ≠ 0) : (n : A) ≠ 0 := by
  rcases Int.lt_or_gt_of_ne h with w | w
  · have := cast_pos (A := A) (n := -n) (by omega)
    rw [cast_neg] at this
    grind
  · have := cast_pos (A := A) w
    grind
theorem cast_lt {a b : Int} (h : a < b) : (a : A) < b := by
  have := cast_pos (A := A) (n := b - a) (by omega)
  rw [cast_sub] at this
  grind
theorem cast_le {a b : Int} (h : a ≤ b) : (a : A) ≤ b := by
  have := cast_nn (A := A) (n := b - a) (by omega)
  rw [cast_sub] at this
  grind
/-- not both nought -/
def Nz (u v : A) : Prop := ¬ (u = 0 ∧ v = 0)
/-- the same number -/
structure Pr (u v s t : A) : Prop where
  cross : u * t = v * s
  nz : Nz u v
  nz2 : Nz s t
theorem Pr.refl {u v : A} (h : Nz u v) : Pr u v u v := ⟨by grind, h, h⟩
theorem Pr.symm {u v s t : A} (h : Pr u v s t) : Pr s t u v := ⟨by have := h.cross; grind, h.nz2, h.nz⟩
theorem Pr.trans {u v s t a b : A} (h : Pr u v s t) (g : Pr s t a b) : Pr u v a b := by
  refine ⟨?_, h.nz, g.nz2⟩
  have h1 := h.cross
  have h2 := g.cross
  rcases Classical.em (t = 0) with z | z
  · subst z
    have s0 : s ≠ 0 := fun w => h.nz2 ⟨w, rfl⟩
    have v0 : v = 0 := by
      rcases zero_mul_or (a := v) (b := s) (by grind) with w | w
      · exact w
      · exact absurd w s0
    have b0 : b = 0 := by
      rcases zero_mul_or (a := s) (b := b) (by grind) with w | w
      · exact absurd w s0
      · exact w
    rw [v0, b0]; grind
  · refine cancel z ?_
    grind
theorem Pr.zero {u v s t : A} (h : Pr u v s t) : v = 0 ↔ t = 0 := by
  have h1 := h.cross
  constructor
  · rintro rfl
    have u0 : u ≠ 0 := fun w => h.nz ⟨w, rfl⟩
    rcases zero_mul_or (a := u) (b := t) (by grind) with w | w
    · exact absurd w u0
    · exact w
  · rintro rfl
    have s0 : s ≠ 0 := fun w => h.nz2 ⟨w, rfl⟩
    rcases zero_mul_or (a := v) (b := s) (by grind) with w | w
    · exact w
    · exact absurd w s0
theorem Pr.next {u v s t q : A} (h : Pr u v s t) : Pr v (u - q * v) t (s - q * t) := by
  have h1 := h.cross
  refine ⟨by grind, fun w => h.nz ?_, fun w => h.nz2 ?_⟩
  · obtain ⟨a, b⟩ := w; subst a; exact ⟨by grind, rfl⟩
  · obtain ⟨a, b⟩ := w; subst a; exact ⟨by grind, rfl⟩
/-- q is the first part of u over v -/
structure IsPart (q : Int) (u v : A) : Prop where
  lo : 0 ≤ (u - q * v) * v
  hi : (u - q * v) * v < v * v
theorem IsPart.ne {q : Int} {u v : A} (h : IsPart q u v) : v ≠ 0 := by
  rintro rfl
  have := h.hi
  grind
theorem IsPart.of_pr {q : Int} {u v s t : A} (h : IsPart q s t) (p : Pr u v s t) : IsPart q u v := by
  have h1 := p.cross
  have t0 := h.ne
  have v0 : v ≠ 0 := fun w => t0 (p.zero.mp w)
  have tt := sq_pos t0
  have vv := sq_pos v0
  obtain ⟨lo, hi⟩ := h
  have e : (u - q * v) * v * (t * t) = (s - q * t) * t * (v * v) := by
    have : (u - q * v) * v * (t * t) = (u * t - q * v * t) * (v * t) := by grind
    rw [this, h1]; grind
  refine ⟨nn_of_mul (b := t * t) ?_ tt, ?_⟩
  · rw [e]; exact mul_nn lo (by grind)
  · have g := mul_pp (a := t * t - (s - q * t) * t) (b := v * v) (by grind) vv
    have : 0 < (v * v - (u - q * v) * v) * (t * t) := by
      have : (v * v - (u - q * v) * v) * (t * t) = (t * t - (s - q * t) * t) * (v * v) := by
        have : (v * v - (u - q * v) * v) * (t * t) = v * v * (t * t) - (u - q * v) * v * (t * t) := by grind
        rw [this, e]; grind
      rw [this]; exact g
    have := pos_of_mul this tt
    grind
theorem IsPart.uniq {q q' : Int} {u v : A} (h : IsPart q u v) (g : IsPart q' u v) : q = q' := by
  have key : ∀ {q q' : Int}, IsPart q u v → IsPart q' u v → ¬ q < q' := fun {q q'} h g w => by
    have vv := sq_pos h.ne
    have c := cast_le (A := A) (a := 1) (b := q' - q) (by omega)
    rw [cast_sub, cast_one] at c
    have := mul_nn (a := ((q' : A) - q) - 1) (b := v * v) (by grind) (by grind)
    have h1 := h.hi
    have g1 := g.lo
    have e : (u - q * v) * v - (u - q' * v) * v = ((q' : A) - q) * (v * v) := by grind
    grind
  have a := key h g
  have b := key g h
  omega
/-- above one, or without bound -/
def BgV (u v : A) : Prop := (v = 0 ∧ u ≠ 0) ∨ 0 < (u - v) * v
theorem BgV.of_pr {u v s t : A} (h : BgV s t) (p : Pr u v s t) : BgV u v := by
  have h1 := p.cross
  rcases h with ⟨t0, _⟩ | h
  · have v0 := p.zero.mpr t0
    exact .inl ⟨v0, fun w => p.nz ⟨w, v0⟩⟩
  · right
    have t0 : t ≠ 0 := by rintro rfl; grind
    have v0 : v ≠ 0 := fun w => t0 (p.zero.mp w)
    have tt := sq_pos t0
    have g := mul_pp h (sq_pos v0)
    have e : (u - v) * v * (t * t) = (s - t) * t * (v * v) := by
      have : (u - v) * v * (t * t) = (u * t - v * t) * (v * t) := by grind
      rw [this, h1]; grind
    exact pos_of_mul (b := t * t) (by rw [e]; exact g) tt
end
end PL
namespace PL
open Lean.Grind
/-- a row of parts as a chain that ends has them -/
structure Gl (l : List Int) : Prop where
  one : ∀ n ∈ l.drop 1, 1 ≤ n
  two : ∀ n, (l.drop 1).getLast? = some n → 2 ≤ n
theorem cf_pos : ∀ {ps : List Int}, (∀ n ∈ ps, 1 ≤ n) → 1 ≤ (cfold ps).1 ∧ 0 ≤ (cfold ps).2
  | [], _ => by simp [cfold]
  | p :: ps, h => by
    obtain ⟨h1, h2⟩ := cf_pos (ps := ps) fun n hn => h n (List.mem_cons_of_mem _ hn)
    have hp := h p List.mem_cons_self
    have := Int.mul_le_mul hp h1 (by decide) (by omega)
    simp only [cfold]
    omega
section
variable {A : Type} [CommRing A] [LE A] [LT A] [Std.LawfulOrderLT A] [Std.IsLinearOrder A] [OrderedRing A]
/-- u over v is what is left of the reader's number; bb: parts of it were told -/
def Sem (A : Type) [CommRing A] [LE A] [LT A] [Std.LawfulOrderLT A] [Std.IsLinearOrder A] [OrderedRing A] : Bool → R → A → A → Prop
  | bb, .fixed t b g, u, v => g = bb ∧ (bb = false → v ≠ 0) ∧ Pr u v (t : A) b
  | bb, .frac k t b, u, v => bb = decide (0 < k) ∧ (bb = false → v ≠ 0) ∧ Pr u v (t : A) b
  | bb, .root k t s b f, u, v => bb = decide (0 < k) ∧ (bb = false → v ≠ 0) ∧ ∃ ρ : A, 0 ≤ ρ ∧ ρ * ρ = (s : A) ∧ RtI t s b f ∧ Pr u v ((t : A) + ρ) b
  | bb, .ruled k ps ring _, u, v => bb = decide (0 < k) ∧ (bb = false → v ≠ 0) ∧ ring = [] ∧ k ≤ ps.length ∧ Gl (ps.drop k) ∧ Pr u v ((cfold (ps.drop k)).1 : A) (cfold (ps.drop k)).2
  | bb, .four a b c d rdy bg x, u, v => bg = bb ∧ (bb = false → v ≠ 0) ∧ ∃ ux vx, Sem A rdy x ux vx ∧ (rdy = true → BgV ux vx) ∧ Pr u v ((a : A) * ux + b * vx) ((c : A) * ux + d * vx)
  | bb, .fourX _ t b g, u, v => g = bb ∧ (bb = false → v ≠ 0) ∧ Pr u v (t : A) b
  | bb, .eight a b c d e f g h m0 m1 bg x y, u, v => bg = bb ∧ (bb = false → v ≠ 0) ∧ ∃ ux vx uy vy, Sem A (decide (0 < m0)) x ux vx ∧ Sem A (decide (0 < m1)) y uy vy ∧ (0 < m0 → BgV ux vx) ∧ (0 < m1 → BgV uy vy) ∧
      Pr u v ((a : A) * ux * uy + b * ux * vy + c * vx * uy + d * vx * vy) ((e : A) * ux * uy + f * ux * vy + g * vx * uy + h * vx * vy)
  | bb, .eightX _ _ t b g, u, v => g = bb ∧ (bb = false → v ≠ 0) ∧ Pr u v (t : A) b
  | bb, .eightF _ _ fr, u, v => Sem A bb fr u v
theorem Sem.nz : ∀ {bb : Bool} {r : R} {u v : A}, Sem A bb r u v → Nz u v ∧ (bb = false → v ≠ 0)
  | _, .fixed .., _, _, ⟨_, g, h⟩ => ⟨h.nz, g⟩
  | _, .frac .., _, _, ⟨_, g, h⟩ => ⟨h.nz, g⟩
  | _, .root .., _, _, ⟨_, g, _, _, _, _, h⟩ => ⟨h.nz, g⟩
  | _, .ruled .., _, _, ⟨_, g, _, _, _, h⟩ => ⟨h.nz, g⟩
  | _, .four .., _, _, ⟨_, g, _, _, _, _, h⟩ => ⟨h.nz, g⟩
  | _, .fourX .., _, _, ⟨_, g, h⟩ => ⟨h.nz, g⟩
  | _, .eight .., _, _, ⟨_, g, _, _, _, _, _, _, _, _, h⟩ => ⟨h.nz, g⟩
  | _, .eightX .., _, _, ⟨_, g, h⟩ => ⟨h.nz, g⟩
  | _, .eightF _ _ fr, _, _, h => Sem.nz (r := fr) h
theorem rem_sg {t b : Int} (hb : b ≠ 0) : 0 ≤ (t - t.fdiv b * b) * b ∧ (t - t.fdiv b * b) * b < b * b := by
  have e := Int.mul_fdiv_add_fmod t b
  have e2 : t - t.fdiv b * b = t.fmod b := by rw [Int.mul_comm] at e; omega
  rw [e2]
  rcases Int.lt_or_gt_of_ne hb with z | z
  · obtain ⟨h1, h2⟩ := fmod_neg' (t := t) z
    exact ⟨Int.mul_nonneg_of_nonpos_of_nonpos h2 (Int.le_of_lt z), Int.mul_lt_mul_of_neg_right h1 z⟩
  · have h1 := Int.fmod_nonneg_of_pos t z
    have h2 := Int.fmod_lt_of_pos t z
    exact ⟨Int.mul_nonneg h1 (Int.le_of_lt z), Int.mul_lt_mul_of_pos_right h2 z⟩
/-- floor division's part -/
theorem part_fdiv {t b : Int} (hb : b ≠ 0) {u v : A} (h : Pr u v (t : A) b) : IsPart (t.fdiv b) u v ∧ Pr v (u - (t.fdiv b : Int) * v) (b : A) ((t - t.fdiv b * b : Int) : A) := by
  refine ⟨IsPart.of_pr ?_ h, ?_⟩
  · obtain ⟨h1, h2⟩ := rem_sg (t := t) hb
    generalize t.fdiv b = q at *
    refine ⟨?_, ?_⟩
    · have := cast_nn (A := A) h1
      rwa [cast_mul, cast_sub, cast_mul] at this
    · have := cast_lt (A := A) h2
      rwa [cast_mul, cast_sub, cast_mul, cast_mul] at this
  · rw [cast_sub, cast_mul]
    exact h.next
theorem sqr_lt {x y : A} (hx : 0 ≤ x) (hy : 0 ≤ y) (h : x * x < y * y) : x < y := by
  rcases lt_or x y with g | g | g
  · exact g
  · subst g; grind
  · have := mul_nn (a := x - y) (b := x) (by grind) hx
    have := mul_nn (a := x - y) (b := y) (by grind) hy
    grind
theorem part_root {t s b f q : Int} {ρ u v : A} (R : RtI t s b f) (r0 : 0 ≤ ρ) (rr : ρ * ρ = (s : A)) (hq : q = (t + f + (if b < 0 then 1 else 0)).fdiv b) (h : Pr u v ((t : A) + ρ) b) :
    IsPart q u v ∧ Pr v (u - q * v) (((q * b - t : Int) : A) + ρ) (((s - (q * b - t) * (q * b - t)).fdiv b : Int) : A) := by
  obtain ⟨f0, lo, hi, b0, _⟩ := R
  have lo' : (f : A) < ρ := sqr_lt (cast_nn f0) r0 (by rw [rr, ← cast_mul]; exact cast_lt lo)
  have hi' : ρ < (f : A) + 1 := by
    have : ρ < ((f + 1 : Int) : A) := sqr_lt r0 (cast_nn (by omega)) (by rw [rr, ← cast_mul]; exact cast_lt hi)
    rwa [cast_add, cast_one] at this
  obtain ⟨R', _, hbb, _, _⟩ := rt_next ⟨f0, lo, hi, b0, by assumption⟩ hq rfl rfl
  generalize (s - (q * b - t) * (q * b - t)).fdiv b = b' at *
  have hbz := cast_ne (A := A) b0
  have part : IsPart q ((t : A) + ρ) (b : A) := by
    rcases Int.lt_or_gt_of_ne b0 with z | z
    · rw [if_pos z] at hq
      have k1 := (le_fdiv_neg (x := t + f + 1) (y := q) z).mp (by omega)
      have k2 : ¬ t + f + 1 ≤ (q + 1) * b := fun w => by have := (le_fdiv_neg (x := t + f + 1) (y := q + 1) z).mpr w; omega
      have k1 := cast_le (A := A) k1
      have k2 := cast_le (A := A) (show (q + 1) * b ≤ t + f by omega)
      have zb := cast_pos (A := A) (n := -b) (by omega)
      rw [cast_add, cast_add, cast_mul, cast_one] at k1
      rw [cast_mul, cast_add, cast_add, cast_one] at k2
      rw [cast_neg] at zb
      refine ⟨?_, ?_⟩
      · have := mul_pp (a := (q : A) * b - (t + ρ)) (b := -b) (by grind) zb
        grind
      · have := mul_pp (a := (t : A) + ρ - q * b - b) (b := -b) (by grind) zb
        grind
    · rw [if_neg (by omega), Int.add_zero] at hq
      have k1 := (le_fdiv_pos (x := t + f) (y := q) z).mp (by omega)
      have k2 : ¬ (q + 1) * b ≤ t + f := fun w => by have := (le_fdiv_pos (x := t + f) (y := q + 1) z).mpr w; omega
      have k1 := cast_le (A := A) k1
      have k2 := cast_le (A := A) (show t + f + 1 ≤ (q + 1) * b by omega)
      have zb := cast_pos (A := A) z
      rw [cast_mul, cast_add] at k1
      rw [cast_mul, cast_add, cast_add, cast_add, cast_one] at k2
      refine ⟨?_, ?_⟩
      · have := mul_nn (a := (t : A) + ρ - q * b) (b := b) (by grind) (Std.le_of_lt zb)
        grind
      · have := mul_pp (a := (b : A) - (t + ρ - q * b)) (b := b) (by grind) zb
        grind
  refine ⟨part.of_pr h, ?_⟩
  have g := h.next (q := (q : A))
  refine g.trans ⟨?_, g.nz2, fun w => ?_⟩
  · rw [cast_sub, cast_mul]
    have e : ((b * b' : Int) : A) = ((s - (q * b - t) * (q * b - t) : Int) : A) := by rw [hbb]
    rw [cast_mul, cast_sub, cast_mul, cast_sub, cast_mul, ← rr] at e
    rw [e]
    grind
  · exact cast_ne (A := A) R'.b0 w.2
end
end PL
namespace PL
open Lean.Grind
section
variable {d : Int}
def vu (p : T3) : Zd d := ⟨p.1, p.2.1⟩
def vv (p : T3) : Zd d := ⟨p.2.2, 0⟩
/-- p tells the number of u over v -/
abbrev Va (p : T3) (u v : Zd d) : Prop := Pr u v (vu p) (vv p)
theorem zd_int (n : Int) : ((n : Int) : Zd d) = ⟨n, 0⟩ := rfl
theorem vv_ne {p : T3} (h : p.2.2 ≠ 0) : (vv p : Zd d) ≠ 0 := fun w => h (congrArg Zd.x w)
theorem vv_nz {p : T3} (h : p.2.2 ≠ 0) : Nz (vu p : Zd d) (vv p) := fun w => vv_ne h w.2
variable [hs : NS d]
theorem made_va {x y z : Int} (hz : z ≠ 0) : Va (madeT x y z) (⟨x, y⟩ : Zd d) ⟨z, 0⟩ ∧ Nm (madeT x y z) := by
  obtain ⟨⟨h1, h2, _⟩, hn⟩ := madeT_px (x := x) (y := y) hz
  generalize madeT x y z = p at *
  refine ⟨⟨?_, fun w => hz (congrArg Zd.x w.2), vv_nz (Int.ne_of_gt hn.pos)⟩, hn⟩
  ext
  · simp only [Zd.mul_x, vv, vu, Int.mul_zero, Int.zero_mul, Int.add_zero]
    rw [← h1]; grind
  · simp only [Zd.mul_y, vv, vu, Int.mul_zero, Int.zero_mul, Int.zero_add, Int.add_zero]
    rw [← h2]; grind
theorem pr_mul {u v s t a b x y : Zd d} (h : Pr u v s t) (g : Pr a b x y) (n1 : Nz (u * a) (v * b)) (n2 : Nz (s * x) (t * y)) : Pr (u * a) (v * b) (s * x) (t * y) := by
  refine ⟨?_, n1, n2⟩
  have h1 := h.cross
  have h2 := g.cross
  have : u * a * (t * y) = (u * t) * (a * y) := by grind
  rw [this, h1, h2]; grind
theorem sum_va {p q : T3} {k : Int} {u v s t : Zd d} (hp : p.2.2 ≠ 0) (hq : q.2.2 ≠ 0) (h : Va p u v) (g : Va q s t) (v0 : v ≠ 0) (t0 : t ≠ 0) : Va (sumT p q k) (u * t + ((k : Int) : Zd d) * s * v) (v * t) ∧ Nm (sumT p q k) := by
  obtain ⟨m, n⟩ := made_va (d := d) (x := p.1 * q.2.2 + k * q.1 * p.2.2) (y := p.2.1 * q.2.2 + k * q.2.1 * p.2.2) (Int.mul_ne_zero hp hq)
  refine ⟨Pr.trans ?_ m, n⟩
  have e1 : (⟨p.1 * q.2.2 + k * q.1 * p.2.2, p.2.1 * q.2.2 + k * q.2.1 * p.2.2⟩ : Zd d) = vu p * vv q + ((k : Int) : Zd d) * vu q * vv p := by
    ext
    · simp only [Zd.add_x, Zd.mul_x, Zd.mul_y, vu, vv, zd_int, Int.mul_zero, Int.zero_mul, Int.add_zero]
    · simp only [Zd.add_y, Zd.mul_y, Zd.mul_x, vu, vv, zd_int, Int.mul_zero, Int.zero_mul, Int.add_zero, Int.zero_add]
  have e2 : (⟨p.2.2 * q.2.2, 0⟩ : Zd d) = vv p * vv q := by
    ext <;> simp [Zd.mul_x, Zd.mul_y, vv]
  rw [e1, e2]
  have h1 := h.cross
  have h2 := g.cross
  refine ⟨?_, fun w => mul_nz v0 t0 w.2, fun w => mul_nz (vv_ne hp) (vv_ne hq) w.2⟩
  generalize vu p = a at *
  generalize vv p = b at *
  generalize vu q = a' at *
  generalize vv q = b' at *
  have x1 : (u * t + ((k : Int) : Zd d) * s * v) * (b * b') = (u * b) * (t * b') + ((k : Int) : Zd d) * (s * b') * (v * b) := by grind
  rw [x1, h1, h2]
  grind
theorem prod_va {p q : T3} {u v s t : Zd d} (hp : p.2.2 ≠ 0) (hq : q.2.2 ≠ 0) (h : Va p u v) (g : Va q s t) (v0 : v ≠ 0) (t0 : t ≠ 0) : Va (prodT p q d) (u * s) (v * t) ∧ Nm (prodT p q d) := by
  obtain ⟨m, n⟩ := made_va (d := d) (x := p.1 * q.1 + d * p.2.1 * q.2.1) (y := p.1 * q.2.1 + p.2.1 * q.1) (Int.mul_ne_zero hp hq)
  refine ⟨Pr.trans ?_ m, n⟩
  have e1 : (⟨p.1 * q.1 + d * p.2.1 * q.2.1, p.1 * q.2.1 + p.2.1 * q.1⟩ : Zd d) = vu p * vu q := rfl
  have e2 : (⟨p.2.2 * q.2.2, 0⟩ : Zd d) = vv p * vv q := by
    ext <;> simp [Zd.mul_x, Zd.mul_y, vv]
  rw [e1, e2]
  exact pr_mul h g (fun w => mul_nz v0 t0 w.2) (fun w => mul_nz (vv_ne hp) (vv_ne hq) w.2)
theorem va_ne {p : T3} {u v : Zd d} (hp : p.2.2 ≠ 0) (h : Va p u v) : v ≠ 0 := fun w => vv_ne hp (h.zero.mp w)
theorem quot_va {p q r : T3} {u v s t : Zd d} (hp : p.2.2 ≠ 0) (hq : q.2.2 ≠ 0) (h : Va p u v) (g : Va q s t) (hr : quotT p q d = some r) : Va r (u * t) (v * s) ∧ Nm r ∧ s ≠ 0 := by
  unfold quotT at hr
  have v0 := va_ne hp h
  have t0 := va_ne hq g
  by_cases hz : q.1 = 0 ∧ q.2.1 = 0
  · rw [if_pos hz] at hr; cases hr
  · rw [if_neg hz, Option.some.injEq] at hr
    have hsz : q.1 * q.1 - d * q.2.1 * q.2.1 ≠ 0 := by
      rcases sz_of (s := q) (.inl hs.nsq) with w | w
      · exact absurd w hz
      · exact w
    have s0 : s ≠ 0 := fun w => by
      have h1 := g.cross
      rw [w] at h1
      have : vu q = (0 : Zd d) := by
        rcases zero_mul_or (a := t) (b := (vu q : Zd d)) (by grind) with z | z
        · exact absurd z t0
        · exact z
      exact hz ⟨congrArg Zd.x this, congrArg Zd.y this⟩
    obtain ⟨m, n⟩ := made_va (d := d) (x := q.2.2 * q.1) (y := 0 - q.2.2 * q.2.1) hsz
    have inv : Va (madeT (q.2.2 * q.1) (0 - q.2.2 * q.2.1) (q.1 * q.1 - d * q.2.1 * q.2.1)) t s := by
      refine Pr.trans (s := (⟨q.2.2 * q.1, 0 - q.2.2 * q.2.1⟩ : Zd d)) (t := ⟨q.1 * q.1 - d * q.2.1 * q.2.1, 0⟩) ⟨?_, fun w => s0 w.2, fun w => hsz (congrArg Zd.x w.2)⟩ m
      have h1 := g.cross
      refine cancel (vv_ne (d := d) hq) ?_
      have x1 : (⟨q.2.2 * q.1, 0 - q.2.2 * q.2.1⟩ : Zd d) = vv q * ⟨q.1, -q.2.1⟩ := by
        ext
        · simp [Zd.mul_x, Zd.mul_y, vv]
        · simp only [Zd.mul_y, vv]; grind
      have x2 : (⟨q.1 * q.1 - d * q.2.1 * q.2.1, 0⟩ : Zd d) = vu q * ⟨q.1, -q.2.1⟩ := by
        ext
        · simp only [Zd.mul_x, vu]; grind
        · simp only [Zd.mul_y, vu]; grind
      rw [x1, x2]
      generalize (⟨q.1, -q.2.1⟩ : Zd d) = cj at *
      have : s * (vv q * cj) * vv q = (s * vv q) * (cj * vv q) := by grind
      rw [this, h1]
      grind
    obtain ⟨k1, k2⟩ := prod_va hp (Int.ne_of_gt n.pos) h inv v0 s0
    rw [hr] at k1 k2
    exact ⟨k1, k2, s0⟩
theorem quot_none {p q : T3} {s t : Zd d} (hq : q.2.2 ≠ 0) (g : Va q s t) : quotT p q d = none ↔ s = 0 := by
  unfold quotT
  have t0 := va_ne hq g
  have h1 := g.cross
  constructor
  · intro h
    by_cases hz : q.1 = 0 ∧ q.2.1 = 0
    · have : vu q = (0 : Zd d) := by ext; exact hz.1; exact hz.2
      rw [this] at h1
      rcases zero_mul_or (a := s) (b := (vv q : Zd d)) (by grind) with z | z
      · exact z
      · exact absurd z (vv_ne hq)
    · rw [if_neg hz] at h; cases h
  · rintro rfl
    have : vu q = (0 : Zd d) := by
      rcases zero_mul_or (a := t) (b := (vu q : Zd d)) (by grind) with z | z
      · exact absurd z t0
      · exact z
    rw [if_pos ⟨congrArg Zd.x this, congrArg Zd.y this⟩]
/-- the first part of a triple -/
theorem below_part {p : T3} (hp : Nm p) : IsPart (belowT p d) (vu p : Zd d) (vv p) := by
  obtain ⟨hd, hns⟩ := hs.nsq
  by_cases hb : p.2.1 = 0
  · have P : Px p p.1 0 p.2.2 := ⟨rfl, by rw [hb], Int.ne_of_gt hp.pos⟩
    obtain ⟨e, _⟩ := stepF (d := d) hp P
    rw [e]
    have h1 : Pr (vu p : Zd d) (vv p) ((p.1 : Int) : Zd d) ((p.2.2 : Int) : Zd d) := by
      have : (vu p : Zd d) = ((p.1 : Int) : Zd d) := by ext; rfl; exact hb
      rw [← this]
      exact Pr.refl (vv_nz (Int.ne_of_gt hp.pos))
    exact (part_fdiv (Int.ne_of_gt hp.pos) h1).1
  · -- as a root's reader
    obtain ⟨e, he, hbe⟩ : ∃ e : Int, e * e = 1 ∧ 0 < p.2.1 * e := by
      rcases Int.lt_or_gt_of_ne hb with w | w
      · exact ⟨-1, by decide, by omega⟩
      · exact ⟨1, by decide, by omega⟩
    have e0 : e ≠ 0 := fun w => by rw [w] at he; simp at he
    obtain ⟨k, hk⟩ : ∃ k : Int, k = p.2.2 * e := ⟨_, rfl⟩
    have k0 : k ≠ 0 := by rw [hk]; exact Int.mul_ne_zero (Int.ne_of_gt hp.pos) e0
    have hm : 0 < k * p.2.1 := by
      have : k * p.2.1 = p.2.2 * (p.2.1 * e) := by rw [hk]; grind
      rw [this]; exact Int.mul_pos hp.pos hbe
    have P : Px p (k * p.1) (k * p.2.1) (k * p.2.2) := ⟨by grind, by grind, Int.mul_ne_zero k0 (Int.ne_of_gt hp.pos)⟩
    have hS : 0 ≤ d * (k * p.2.1) * (k * p.2.1) := Int.mul_nonneg (Int.mul_nonneg (Int.le_of_lt hd) (Int.le_of_lt hm)) (Int.le_of_lt hm)
    obtain ⟨f0, f1, f2⟩ := isq_spec hS
    have R : RtI (k * p.1) (d * (k * p.2.1) * (k * p.2.1)) (k * p.2.2) (isq (d * (k * p.2.1) * (k * p.2.1))) := by
      refine ⟨f0, ?_, f2, P.ne, e * (d * p.2.1 * p.2.1 - p.1 * p.1) , ?_⟩
      · have := hns (isq (d * (k * p.2.1) * (k * p.2.1))) (k * p.2.1) (by omega)
        omega
      · have e1 : k * p.2.2 * (e * (d * p.2.1 * p.2.1 - p.1 * p.1)) = (k * (p.2.2 * e)) * (d * p.2.1 * p.2.1 - p.1 * p.1) := by grind
        rw [e1, ← hk]; grind
    obtain ⟨hq, _⟩ := stepQ hs.nsq hp hm rfl R P
    have r0 : (0 : Zd d) ≤ ⟨0, k * p.2.1⟩ := by
      show Zd.nn _
      refine ⟨0, fun N hN => ?_⟩
      have := (Zd.rt_spec hd hN).1
      have := Int.mul_nonneg (Int.le_of_lt hm) this
      simp only [Zd.sub_x, Zd.sub_y, Zd.zero_x, Zd.zero_y]
      simp
      exact this
    have rr : (⟨0, k * p.2.1⟩ : Zd d) * ⟨0, k * p.2.1⟩ = ((d * (k * p.2.1) * (k * p.2.1) : Int) : Zd d) := by
      ext
      · simp [Zd.mul_x, zd_int]
      · simp [Zd.mul_y, zd_int]
    have h1 : Pr (vu p : Zd d) (vv p) (((k * p.1 : Int) : Zd d) + ⟨0, k * p.2.1⟩) ((k * p.2.2 : Int) : Zd d) := by
      refine ⟨?_, vv_nz (Int.ne_of_gt hp.pos), fun w => P.ne (congrArg Zd.x w.2)⟩
      ext
      · simp only [Zd.mul_x, Zd.mul_y, Zd.add_x, Zd.add_y, vu, vv, zd_int]; grind
      · simp only [Zd.mul_x, Zd.mul_y, Zd.add_x, Zd.add_y, vu, vv, zd_int]; grind
    exact (part_root R r0 rr hq h1).1
/-- what a value's next triple stands for; none behind the end -/
def VO (o : Option T3) (u v : Zd d) : Prop := match o with
  | some p => Nm p ∧ Va p u v
  | none => v = 0
theorem VO.next {p : T3} {u v : Zd d} (h : VO (some p) u v) : IsPart (belowT p d) u v ∧ VO (nextT p d) v (u - (belowT p d : Int) * v) := by
  obtain ⟨hn, h⟩ := h
  have c0 := Int.ne_of_gt hn.pos
  have hp := (below_part hn).of_pr h
  refine ⟨hp, ?_⟩
  have v0 := va_ne c0 h
  obtain ⟨q, hq⟩ : ∃ q, q = belowT p d := ⟨_, rfl⟩
  have one : Va (q, 0, 1) ((q : Int) : Zd d) 1 := by
    have : (vu (q, 0, 1) : Zd d) = ((q : Int) : Zd d) := rfl
    have e2 : (vv (q, 0, 1) : Zd d) = 1 := rfl
    show Pr _ _ _ _
    rw [this, e2]
    exact Pr.refl fun w => by have := congrArg Zd.x w.2; simp [Zd.one_x, Zd.zero_x] at this
  have one0 : (1 : Zd d) ≠ 0 := fun w => by have := congrArg Zd.x w; simp [Zd.one_x, Zd.zero_x] at this
  obtain ⟨g1, g2⟩ := sum_va (k := -1) c0 (show (1 : Int) ≠ 0 by decide) h one v0 one0
  have e1 : u * 1 + ((-1 : Int) : Zd d) * ((q : Int) : Zd d) * v = u - (q : Int) * v := by
    have : ((-1 : Int) : Zd d) = -1 := rfl
    rw [this]; grind
  have e2 : v * 1 = v := by grind
  rw [e1, e2] at g1
  rw [← hq]
  have hnx : nextT p d = quotT (1, 0, 1) (sumT p (q, 0, 1) (-1)) d := by unfold nextT; rw [← hq]
  rw [hnx]
  have o1 : Va (1, 0, 1) (1 : Zd d) 1 := Pr.refl fun w => one0 w.2
  cases hr : quotT (1, 0, 1) (sumT p (q, 0, 1) (-1)) d with
  | none => exact (quot_none (Int.ne_of_gt g2.pos) g1).mp hr
  | some r =>
    obtain ⟨k1, k2, k3⟩ := quot_va (show ((1, 0, 1) : T3).2.2 ≠ 0 by decide) (Int.ne_of_gt g2.pos) o1 g1 hr
    refine ⟨k2, ?_⟩
    have e3 : (1 : Zd d) * v = v := by grind
    have e4 : (1 : Zd d) * (u - (q : Int) * v) = u - (q : Int) * v := by grind
    rw [e3, e4] at k1
    exact k1
/-- a part that is the number's is the law's -/
theorem VO.part {o : Option T3} {u v : Zd d} {q : Int} (h : VO o u v) (hq : IsPart q u v) : ∃ p, o = some p ∧ q = belowT p d ∧ VO (nextT p d) v (u - (q : Int) * v) := by
  cases o with
  | none => exact absurd h hq.ne
  | some p =>
    obtain ⟨h1, h2⟩ := h.next
    have e := hq.uniq h1
    subst e
    exact ⟨p, rfl, rfl, h2⟩
theorem VO.fin {o : Option T3} {u v : Zd d} (h : VO o u v) (hv : v = 0) : o = none := by
  cases o with
  | none => rfl
  | some p => exact absurd hv (va_ne (Int.ne_of_gt h.1.pos) h.2)
end
end PL
namespace PL
open Lean.Grind
def mixL : T3 → List Int → List T3 → T3
  | acc, n :: ns, p :: ps => mixL (sumT acc p n) ns ps
  | acc, _, _ => acc
def somes : List (Option T3) → Option (List T3)
  | [] => some []
  | none :: _ => none
  | some p :: r => (somes r).map (p :: ·)
def boxL (d : Int) (ns : List Int) (os : List (Option T3)) : Option T3 := match somes os with
  | none => none
  | some ps => quotT (mixL (0, 0, 1) (ns.take os.length) ps) (mixL (0, 0, 1) (ns.drop os.length) ps) d
def powT (d : Int) (p : T3) : Nat → T3
  | 0 => p
  | k + 1 => prodT (powT d p k) p d
def box8 (d : Int) (ns : List Int) (o1 o2 : Option T3) : Option T3 := match o1, o2 with
  | some p, some q => boxL d ns [some (prodT p q d), some p, some q, some (1, 0, 1)]
  | _, _ => none
inductive TV (d : Int) : Nat → Tr → Option T3 → Prop
  | frac {k : Nat} {t b : Int} : b ≠ 0 → t.natAbs ≤ 9 → b.natAbs ≤ 9 → TV d k (.frac t b) (some (madeT t 0 b))
  | root {k : Nat} {t m b : Int} : b ≠ 0 → 1 ≤ m → m ≤ 3 → t.natAbs ≤ 5 → b.natAbs ≤ 3 → TV d k (.root t (d * m * m) b) (some (madeT t m b))
  | ruled {k : Nat} {p : Int} {ps : List Int} : Gl (p :: ps) → ps.length ≤ 3 → p.natAbs ≤ 4 → (∀ n ∈ ps, n.natAbs ≤ 6) → TV d k (.ruled (p :: ps) [] []) (some (madeT (cfold (p :: ps)).1 0 (cfold (p :: ps)).2))
  | four {k : Nat} {a b c e : Int} {x : Tr} {o : Option T3} : (∀ n ∈ [a, b, c, e], n.natAbs ≤ 4) → a * e ≠ b * c → TV d k x o → TV d (k + 1) (.four a b c e x) (boxL d [a, b, c, e] [o, some (1, 0, 1)])
  | power {k : Nat} {x : Tr} {n : Int} {o : Option T3} : 1 ≤ n → n ≤ 4 → TV d k x o → TV d (k + 1) (.power x n) (o.map fun p => powT d p (n - 1).toNat)
  | eight {k : Nat} {a b c e a' b' c' e' : Int} {x y : Tr} {o1 o2 : Option T3} : (∀ n ∈ [a, b, c, e, a', b', c', e'], n.natAbs ≤ 2) → (b * a' ≠ a * b' ∨ c * a' ≠ a * c' ∨ c * b' ≠ b * c' ∨ e * a' ≠ a * e' ∨ e * b' ≠ b * e' ∨ e * c' ≠ c * e') →
      TV d k x o1 → TV d k y o2 → TV d (k + 1) (.eight a b c e a' b' c' e' x y) (box8 d [a, b, c, e, a', b', c', e'] o1 o2)
def NN : Nat → Nat
  | 0 => 14
  | k + 1 => 12 * NN k + 109
theorem fewLe {n : Int} {b : Nat} (h : n.natAbs ≤ b) (hb : b ≤ 10 ^ 12) : Few n := Nat.le_trans h hb
theorem TV.good {d : Int} (hd0 : 0 < d) (hd : d ≤ 1000) {k : Nat} {tr : Tr} {o : Option T3} (h : TV d k tr o) : tr.good (k + 1) := by
  induction h with
  | frac h1 h2 h3 => exact ⟨fewLe h2 (by decide), fewLe h3 (by decide), h1⟩
  | @root k t m b h1 h2 h3 h4 h5 =>
    have e1 : d * m ≤ 1000 * 3 := Int.mul_le_mul hd h3 (by omega) (by decide)
    have e2 : d * m * m ≤ 1000 * 3 * 3 := Int.mul_le_mul e1 h3 (by omega) (by decide)
    have e3 : 0 ≤ d * m * m := Int.mul_nonneg (Int.mul_nonneg (Int.le_of_lt hd0) (by omega)) (by omega)
    exact ⟨fewLe h4 (by decide), by unfold Few; omega, fewLe h5 (by decide), e3, h1⟩
  | @ruled k p ps h1 h2 h3 h4 =>
    refine ⟨by simp, by simp only [List.length_cons]; omega, by simp, rfl, fun n hn => ?_, fun n hn => ?_, by simp, fun _ hl n hn => h1.two n ?_⟩
    · simp only [List.append_nil, List.mem_cons] at hn
      rcases hn with rfl | hn
      · exact fewLe h3 (by decide)
      · exact fewLe (h4 n hn) (by decide)
    · rw [List.append_nil] at hn
      exact h1.one n hn
    · rw [List.drop_one, List.tail_cons]
      cases ps with
      | nil => simp at hl
      | cons y ys => rw [List.getLast?_cons_cons] at hn; exact hn
  | four h1 h2 _ ih => exact ⟨fewLe (h1 _ (by simp)) (by decide), fewLe (h1 _ (by simp)) (by decide), fewLe (h1 _ (by simp)) (by decide), fewLe (h1 _ (by simp)) (by decide), h2, ih⟩
  | power h1 h2 _ ih => exact ⟨h1, h2, ih⟩
  | eight h1 h2 _ _ ih1 ih2 => exact ⟨fun n hn => fewLe (h1 n hn) (by decide), h2, ih1, ih2⟩
section
variable {d : Int} [hs : NS d]
theorem zd_one0 : (1 : Zd d) ≠ 0 := fun w => by have := congrArg Zd.x w; simp [Zd.one_x, Zd.zero_x] at this
theorem va_one : Va (1, 0, 1) (1 : Zd d) 1 := Pr.refl fun w => zd_one0 w.2
theorem va_zero : Va (0, 0, 1) (0 : Zd d) 1 := Pr.refl fun w => zd_one0 w.2
theorem mul_ne {a b : Zd d} (ha : a ≠ 0) (hb : b ≠ 0) : a * b ≠ 0 := mul_nz ha hb
theorem nm_ne {p : T3} (h : Nm p) : p.2.2 ≠ 0 := Int.ne_of_gt h.pos
/-- two values mixed -/
theorem mix2_va {a b : Int} {p : T3} {u v : Zd d} (hp : Nm p) (h : Va p u v) : Va (mixL (0, 0, 1) [a, b] [p, (1, 0, 1)]) (((a : Int) : Zd d) * u + ((b : Int) : Zd d) * v) v ∧ Nm (mixL (0, 0, 1) [a, b] [p, (1, 0, 1)]) := by
  have v0 := va_ne (nm_ne hp) h
  obtain ⟨g1, n1⟩ := sum_va (k := a) (show ((0, 0, 1) : T3).2.2 ≠ 0 by decide) (nm_ne hp) va_zero h zd_one0 v0
  obtain ⟨g2, n2⟩ := sum_va (k := b) (nm_ne n1) (show ((1, 0, 1) : T3).2.2 ≠ 0 by decide) g1 va_one (mul_ne zd_one0 v0) zd_one0
  refine ⟨?_, n2⟩
  have e1 : ((0 : Zd d) * v + ((a : Int) : Zd d) * u * 1) * 1 + ((b : Int) : Zd d) * 1 * (1 * v) = ((a : Int) : Zd d) * u + ((b : Int) : Zd d) * v := by grind
  have e2 : (1 : Zd d) * v * 1 = v := by grind
  rw [e1, e2] at g2
  exact g2
theorem mix4_va {a b c e : Int} {pq p q : T3} {u v s t : Zd d} (hpq : Nm pq) (hp : Nm p) (hq : Nm q) (h0 : Va pq (u * s) (v * t)) (h : Va p u v) (g : Va q s t) :
    ∃ k : Zd d, k ≠ 0 ∧ Va (mixL (0, 0, 1) [a, b, c, e] [pq, p, q, (1, 0, 1)]) ((((a : Int) : Zd d) * u * s + ((b : Int) : Zd d) * u * t + ((c : Int) : Zd d) * v * s + ((e : Int) : Zd d) * v * t) * k) (v * t * k) ∧ Nm (mixL (0, 0, 1) [a, b, c, e] [pq, p, q, (1, 0, 1)]) := by
  have v0 := va_ne (nm_ne hp) h
  have t0 := va_ne (nm_ne hq) g
  have vt := mul_ne v0 t0
  obtain ⟨g1, n1⟩ := sum_va (k := a) (show ((0, 0, 1) : T3).2.2 ≠ 0 by decide) (nm_ne hpq) va_zero h0 zd_one0 vt
  obtain ⟨g2, n2⟩ := sum_va (k := b) (nm_ne n1) (nm_ne hp) g1 h (mul_ne zd_one0 vt) v0
  obtain ⟨g3, n3⟩ := sum_va (k := c) (nm_ne n2) (nm_ne hq) g2 g (mul_ne (mul_ne zd_one0 vt) v0) t0
  obtain ⟨g4, n4⟩ := sum_va (k := e) (nm_ne n3) (show ((1, 0, 1) : T3).2.2 ≠ 0 by decide) g3 va_one (mul_ne (mul_ne (mul_ne zd_one0 vt) v0) t0) zd_one0
  refine ⟨v * t, vt, ?_, n4⟩
  have e1 : (((((0 : Zd d) * (v * t) + ((a : Int) : Zd d) * (u * s) * 1) * v + ((b : Int) : Zd d) * u * (1 * (v * t))) * t + ((c : Int) : Zd d) * s * (1 * (v * t) * v)) * 1 + ((e : Int) : Zd d) * 1 * (1 * (v * t) * v * t)) =
      (((a : Int) : Zd d) * u * s + ((b : Int) : Zd d) * u * t + ((c : Int) : Zd d) * v * s + ((e : Int) : Zd d) * v * t) * (v * t) := by grind
  have e2 : (1 : Zd d) * (v * t) * v * t * 1 = v * t * (v * t) := by grind
  rw [e1, e2] at g4
  exact g4
/-- what the law's value of a tree stands for -/
theorem TV.nm {k : Nat} {tr : Tr} {o : Option T3} (h : TV d k tr o) : ∀ p, o = some p → Nm p := by
  induction h with
  | frac h1 => intro p e; cases e; exact (madeT_px h1).2
  | root h1 => intro p e; cases e; exact (madeT_px h1).2
  | ruled h1 =>
    intro p e
    cases e
    refine (madeT_px ?_).2
    have := (cf_pos (ps := _) fun n hn => h1.one n (by rw [List.drop_one, List.tail_cons]; exact hn)).1
    simp only [cfold]
    omega
  | @four k a b c e x o _ _ _ ih =>
    intro p hp
    cases o with
    | none => cases hp
    | some q =>
      have nq := ih q rfl
      have hv : Va q (vu q : Zd d) (vv q) := Pr.refl (vv_nz (nm_ne nq))
      obtain ⟨g1, n1⟩ := mix2_va (a := a) (b := b) nq hv
      obtain ⟨g2, n2⟩ := mix2_va (a := c) (b := e) nq hv
      exact (quot_va (nm_ne n1) (nm_ne n2) g1 g2 hp).2.1
  | @power k x n o _ _ _ ih =>
    intro p hp
    cases o with
    | none => cases hp
    | some q =>
      have nq := ih q rfl
      simp only [Option.map_some, Option.some.injEq] at hp
      subst hp
      have key : ∀ j, Nm (powT d q j) := fun j => by
        induction j with
        | zero => exact nq
        | succ j ihj => exact (prod_va (u := (vu (powT d q j) : Zd d)) (s := (vu q : Zd d)) (nm_ne ihj) (nm_ne nq) (Pr.refl (vv_nz (nm_ne ihj))) (Pr.refl (vv_nz (nm_ne nq))) (vv_ne (nm_ne ihj)) (vv_ne (nm_ne nq))).2
      exact key _
  | @eight k a b c e a' b' c' e' x y o1 o2 _ _ _ _ ih1 ih2 =>
    intro r hr
    cases o1 with
    | none => cases hr
    | some p =>
    cases o2 with
    | none => cases hr
    | some q =>
      have np := ih1 p rfl
      have nq := ih2 q rfl
      have hp : Va p (vu p : Zd d) (vv p) := Pr.refl (vv_nz (nm_ne np))
      have hq : Va q (vu q : Zd d) (vv q) := Pr.refl (vv_nz (nm_ne nq))
      obtain ⟨g0, n0⟩ := prod_va (nm_ne np) (nm_ne nq) hp hq (vv_ne (nm_ne np)) (vv_ne (nm_ne nq))
      obtain ⟨k1, _, g1, n1⟩ := mix4_va (a := a) (b := b) (c := c) (e := e) n0 np nq g0 hp hq
      obtain ⟨k2, _, g2, n2⟩ := mix4_va (a := a') (b := b') (c := c') (e := e') n0 np nq g0 hp hq
      exact (quot_va (nm_ne n1) (nm_ne n2) g1 g2 hr).2.1
end
end PL
namespace PL
theorem nM {i j : Int} {a b : Nat} (hi : i.natAbs < 2 ^ a) (hj : j.natAbs < 2 ^ b) : (i * j).natAbs < 2 ^ (a + b) := by
  rw [Int.natAbs_mul, Nat.pow_add]
  exact Nat.mul_lt_mul_of_lt_of_le hi (Nat.le_of_lt hj) (Nat.pow_pos (by decide))
theorem nA {i j : Int} {a : Nat} (hi : i.natAbs < 2 ^ a) (hj : j.natAbs < 2 ^ a) : (i + j).natAbs < 2 ^ (a + 1) := by
  rw [Nat.pow_succ]; omega
theorem nS {i j : Int} {a : Nat} (hi : i.natAbs < 2 ^ a) (hj : j.natAbs < 2 ^ a) : (i - j).natAbs < 2 ^ (a + 1) := by
  rw [Nat.pow_succ]; omega
theorem nU {i : Int} {a : Nat} {b : Nat} (hi : i.natAbs < 2 ^ a) (h : a ≤ b) : i.natAbs < 2 ^ b := Nat.lt_of_lt_of_le hi (Nat.pow_le_pow_right (by decide) h)
theorem Ht.up {B C : Nat} {p : T3} (h : Ht B p) (hc : B ≤ C) : Ht C p := ⟨nU h.1 hc, nU h.2.1 hc, nU h.2.2 hc⟩
theorem madeHt {x y z : Int} {B : Nat} (hz : z ≠ 0) (h1 : x.natAbs < 2 ^ B) (h2 : y.natAbs < 2 ^ B) (h3 : z.natAbs < 2 ^ B) : Ht B (madeT x y z) := by
  obtain ⟨P, N⟩ := madeT_px (x := x) (y := y) hz
  obtain ⟨l1, l2, l3⟩ := P.le N
  exact ⟨Nat.lt_of_le_of_lt l1 h1, Nat.lt_of_le_of_lt l2 h2, Nat.lt_of_le_of_lt l3 h3⟩
theorem sumHt {B C : Nat} {p q : T3} {k : Int} (hp : Ht B p) (hq : Ht C q) (hk : k.natAbs < 2 ^ 3) (p0 : p.2.2 ≠ 0) (q0 : q.2.2 ≠ 0) : Ht (B + C + 4) (sumT p q k) := by
  unfold sumT
  refine madeHt (Int.mul_ne_zero p0 q0) ?_ ?_ ?_
  · exact nU (nA (a := B + C + 3) (nU (nM hp.1 hq.2.2) (by omega)) (nU (nM (nM hk hq.1) hp.2.2) (by omega))) (by omega)
  · exact nU (nA (a := B + C + 3) (nU (nM hp.2.1 hq.2.2) (by omega)) (nU (nM (nM hk hq.2.1) hp.2.2) (by omega))) (by omega)
  · exact nU (nM hp.2.2 hq.2.2) (by omega)
theorem prodHt {B C : Nat} {p q : T3} {d : Int} (hp : Ht B p) (hq : Ht C q) (hd : d.natAbs < 2 ^ 10) (p0 : p.2.2 ≠ 0) (q0 : q.2.2 ≠ 0) : Ht (B + C + 11) (prodT p q d) := by
  unfold prodT
  refine madeHt (Int.mul_ne_zero p0 q0) ?_ ?_ ?_
  · exact nU (nA (a := B + C + 10) (nU (nM hp.1 hq.1) (by omega)) (nU (nM (nM hd hp.2.1) hq.2.1) (by omega))) (by omega)
  · exact nU (nA (a := B + C + 10) (nU (nM hp.1 hq.2.1) (by omega)) (nU (nM hp.2.1 hq.1) (by omega))) (by omega)
  · exact nU (nM hp.2.2 hq.2.2) (by omega)
theorem quotHt {B C : Nat} {p q r : T3} {d : Int} (hp : Ht B p) (hq : Ht C q) (hd : d.natAbs < 2 ^ 10) (p0 : p.2.2 ≠ 0) (hs : Sz d q) (hr : quotT p q d = some r) : Ht (B + 2 * C + 22) r := by
  unfold quotT at hr
  by_cases hz : q.1 = 0 ∧ q.2.1 = 0
  · rw [if_pos hz] at hr; cases hr
  · rw [if_neg hz, Option.some.injEq] at hr
    have hsz : q.1 * q.1 - d * q.2.1 * q.2.1 ≠ 0 := by
      rcases hs with w | w
      · exact absurd w hz
      · exact w
    have k1 : (q.2.2 * q.1).natAbs < 2 ^ (2 * C + 11) := nU (nM hq.2.2 hq.1) (by omega)
    have k2 : (0 - q.2.2 * q.2.1).natAbs < 2 ^ (2 * C + 11) := by
      rw [Int.zero_sub, Int.natAbs_neg]
      exact nU (nM hq.2.2 hq.2.1) (by omega)
    have k3 : (q.1 * q.1 - d * q.2.1 * q.2.1).natAbs < 2 ^ (2 * C + 11) := nU (nS (a := 2 * C + 10) (nU (nM hq.1 hq.1) (by omega)) (nU (nM (nM hd hq.2.1) hq.2.1) (by omega))) (by omega)
    have := prodHt hp (madeHt hsz k1 k2 k3) hd p0 (Int.ne_of_gt (madeT_px (x := q.2.2 * q.1) (y := 0 - q.2.2 * q.2.1) hsz).2.pos)
    rw [hr] at this
    exact this.up (by omega)
/-- what the walk of a mix wants -/
def MB : T3 → List Int → List T3 → Prop
  | acc, n :: ns, p :: ps => Ht 200000 acc ∧ Ht 200000 p ∧ n.natAbs < 2 ^ 1000 ∧ acc.2.2 ≠ 0 ∧ p.2.2 ≠ 0 ∧ MB (sumT acc p n) ns ps
  | _, _, _ => True
theorem ht0 : Ht 1 (0, 0, 1) := ⟨by decide, by decide, by decide⟩
theorem ht1 : Ht 1 (1, 0, 1) := ⟨by decide, by decide, by decide⟩
theorem sum3 {p q : T3} {k : Int} (p0 : p.2.2 ≠ 0) (q0 : q.2.2 ≠ 0) : (sumT p q k).2.2 ≠ 0 := Int.ne_of_gt (madeT_px (Int.mul_ne_zero p0 q0)).2.pos
theorem prod3 {p q : T3} {d : Int} (p0 : p.2.2 ≠ 0) (q0 : q.2.2 ≠ 0) : (prodT p q d).2.2 ≠ 0 := Int.ne_of_gt (madeT_px (Int.mul_ne_zero p0 q0)).2.pos
theorem mb2 {a b : Int} {N : Nat} {p : T3} (hN : N ≤ 20000) (hp : Ht N p) (p0 : p.2.2 ≠ 0) (ha : a.natAbs < 2 ^ 3) (hb : b.natAbs < 2 ^ 3) : MB (0, 0, 1) [a, b] [p, (1, 0, 1)] ∧ Ht (N + 10) (mixL (0, 0, 1) [a, b] [p, (1, 0, 1)]) ∧ (mixL (0, 0, 1) [a, b] [p, (1, 0, 1)]).2.2 ≠ 0 := by
  have z1 : ((0, 0, 1) : T3).2.2 ≠ 0 := by decide
  have z2 : ((1, 0, 1) : T3).2.2 ≠ 0 := by decide
  have g1 := sumHt ht0 hp ha z1 p0
  have g2 := sumHt g1 ht1 hb (sum3 z1 p0) z2
  exact ⟨⟨ht0.up (by omega), hp.up (by omega), nU ha (by decide), z1, p0, g1.up (by omega), ht1.up (by decide), nU hb (by decide), sum3 z1 p0, z2, True.intro⟩, g2.up (by omega), sum3 (sum3 z1 p0) z2⟩
theorem mb4 {a b c e : Int} {N : Nat} {pq p q : T3} (hN : N ≤ 20000) (hpq : Ht (2 * N + 11) pq) (hp : Ht N p) (hq : Ht N q) (pq0 : pq.2.2 ≠ 0) (p0 : p.2.2 ≠ 0) (q0 : q.2.2 ≠ 0) (ha : a.natAbs < 2 ^ 3) (hb : b.natAbs < 2 ^ 3) (hc : c.natAbs < 2 ^ 3) (he : e.natAbs < 2 ^ 3) :
    MB (0, 0, 1) [a, b, c, e] [pq, p, q, (1, 0, 1)] ∧ Ht (4 * N + 29) (mixL (0, 0, 1) [a, b, c, e] [pq, p, q, (1, 0, 1)]) ∧ (mixL (0, 0, 1) [a, b, c, e] [pq, p, q, (1, 0, 1)]).2.2 ≠ 0 := by
  have z1 : ((0, 0, 1) : T3).2.2 ≠ 0 := by decide
  have z2 : ((1, 0, 1) : T3).2.2 ≠ 0 := by decide
  have g1 := sumHt ht0 hpq ha z1 pq0
  have y1 := sum3 (k := a) z1 pq0
  have g2 := sumHt g1 hp hb y1 p0
  have y2 := sum3 (k := b) y1 p0
  have g3 := sumHt g2 hq hc y2 q0
  have y3 := sum3 (k := c) y2 q0
  have g4 := sumHt g3 ht1 he y3 z2
  exact ⟨⟨ht0.up (by omega), hpq.up (by omega), nU ha (by decide), z1, pq0, g1.up (by omega), hp.up (by omega), nU hb (by decide), y1, p0, g2.up (by omega), hq.up (by omega), nU hc (by decide), y2, q0, g3.up (by omega), ht1.up (by decide), nU he (by decide), y3, z2, True.intro⟩, g4.up (by omega), sum3 y3 z2⟩
section
variable {d : Int} [hs : NS d]
theorem boxL_ht4 {a b c e : Int} {N : Nat} {p r : T3} (hd : d.natAbs < 2 ^ 10) (hN : N ≤ 20000) (hp : Ht N p) (p0 : p.2.2 ≠ 0) (h : ∀ n ∈ [a, b, c, e], n.natAbs ≤ 4) (hr : boxL d [a, b, c, e] [some p, some (1, 0, 1)] = some r) : Ht (12 * N + 109) r := by
  have hh : ∀ n ∈ [a, b, c, e], n.natAbs < 2 ^ 3 := fun n hn => Nat.lt_of_le_of_lt (h n hn) (by decide)
  obtain ⟨m1, h1, z1⟩ := mb2 hN hp p0 (hh a (by simp)) (hh b (by simp))
  obtain ⟨m2, h2, z2⟩ := mb2 hN hp p0 (hh c (by simp)) (hh e (by simp))
  exact (quotHt h1 h2 hd z1 (sz_of (.inl hs.nsq)) hr).up (by omega)
theorem boxL_ht8 {a b c e a' b' c' e' : Int} {N : Nat} {p q r : T3} (hd : d.natAbs < 2 ^ 10) (hN : N ≤ 20000) (hp : Ht N p) (hq : Ht N q) (p0 : p.2.2 ≠ 0) (q0 : q.2.2 ≠ 0) (h : ∀ n ∈ [a, b, c, e, a', b', c', e'], n.natAbs ≤ 4)
    (hr : boxL d [a, b, c, e, a', b', c', e'] [some (prodT p q d), some p, some q, some (1, 0, 1)] = some r) : Ht (12 * N + 109) r := by
  have hh : ∀ n ∈ [a, b, c, e, a', b', c', e'], n.natAbs < 2 ^ 3 := fun n hn => Nat.lt_of_le_of_lt (h n hn) (by decide)
  have hpq := (prodHt hp hq hd p0 q0).up (C := 2 * N + 11) (by omega)
  have pq0 := prod3 (d := d) p0 q0
  obtain ⟨m1, h1, z1⟩ := mb4 hN hpq hp hq pq0 p0 q0 (hh a (by simp)) (hh b (by simp)) (hh c (by simp)) (hh e (by simp))
  obtain ⟨m2, h2, z2⟩ := mb4 hN hpq hp hq pq0 p0 q0 (hh a' (by simp)) (hh b' (by simp)) (hh c' (by simp)) (hh e' (by simp))
  exact (quotHt h1 h2 hd z1 (sz_of (.inl hs.nsq)) hr).up (by omega)
theorem powHt {N : Nat} {p : T3} (hd : d.natAbs < 2 ^ 10) (hp : Ht N p) (p0 : p.2.2 ≠ 0) : ∀ j, Ht ((j + 1) * (N + 11)) (powT d p j) ∧ (powT d p j).2.2 ≠ 0
  | 0 => ⟨hp.up (by omega), p0⟩
  | j + 1 => by
    obtain ⟨h1, h2⟩ := powHt hd hp p0 j
    refine ⟨(prodHt h1 hp hd h2 p0).up ?_, prod3 h2 p0⟩
    rw [Nat.succ_mul (j + 1)]
    omega
theorem NN_mono {k : Nat} : NN k ≤ NN (k + 1) := by
  show NN k ≤ 12 * NN k + 109
  omega
theorem NN_14 : ∀ k, 14 ≤ NN k
  | 0 => Nat.le_refl _
  | k + 1 => Nat.le_trans (NN_14 k) NN_mono
theorem TV.ht {k : Nat} {tr : Tr} {o : Option T3} (hd : d.natAbs < 2 ^ 10) (h : TV d k tr o) (hk : k ≤ 3) : ∀ p, o = some p → Ht (NN k) p := by
  induction h with
  | @frac k t b h1 h2 h3 =>
    intro p e
    cases e
    exact (madeHt (B := 14) h1 (Nat.lt_of_le_of_lt h2 (by decide)) (by decide) (Nat.lt_of_le_of_lt h3 (by decide))).up (NN_14 k)
  | @root k t m b h1 h2 h3 h4 h5 =>
    intro p e
    cases e
    exact (madeHt (B := 14) h1 (Nat.lt_of_le_of_lt h4 (by decide)) (by omega) (Nat.lt_of_le_of_lt h5 (by decide))).up (NN_14 k)
  | @ruled k p ps h1 h2 h3 h4 =>
    intro q e
    cases e
    have hpos := cf_pos (ps := ps) fun n hn => h1.one n (by rw [List.drop_one, List.tail_cons]; exact hn)
    have e2 : (cfold (p :: ps)).2 = (cfold ps).1 := rfl
    have e1 : (cfold (p :: ps)).1 = p * (cfold ps).1 + (cfold ps).2 := rfl
    -- parts to 6, three of them
    have bnd : ∀ l : List Int, l.length ≤ 3 → (∀ n ∈ l, n.natAbs ≤ 6) → (cfold l).1.natAbs ≤ 300 ∧ (cfold l).2.natAbs ≤ 300 := by
      intro l hl hm
      have mul6 : ∀ (x y : Int) (b : Nat), x.natAbs ≤ 6 → y.natAbs ≤ b → (x * y).natAbs ≤ 6 * b := fun x y b h1 h2 => by rw [Int.natAbs_mul]; exact Nat.mul_le_mul h1 h2
      match l, hl with
      | [], _ => simp [cfold]
      | [a], _ => have := hm a (by simp); simp only [cfold]; omega
      | [a, b], _ =>
        have ha := hm a (by simp)
        have hb := hm b (by simp)
        have := mul6 a b 6 ha hb
        simp only [cfold, Int.mul_one, Int.add_zero]; omega
      | [a, b, c], _ =>
        have ha := hm a (by simp)
        have hb := hm b (by simp)
        have hc := hm c (by simp)
        have k1 := mul6 b c 6 hb hc
        have k2 := mul6 a (b * c + 1) 37 ha (by omega)
        simp only [cfold, Int.mul_one, Int.add_zero]; omega
    obtain ⟨b1, b2⟩ := bnd ps h2 h4
    have k3 : (p * (cfold ps).1).natAbs ≤ 4 * 300 := by rw [Int.natAbs_mul]; exact Nat.mul_le_mul h3 b1
    exact (madeHt (B := 14) (by rw [e2]; omega) (by rw [e1]; omega) (by decide) (by rw [e2]; omega)).up (NN_14 k)
  | @four k a b c e x o h1 h2 hx ih =>
    intro r hr
    cases o with
    | none => cases hr
    | some q =>
      have hq := ih (by omega) q rfl
      have hN : NN k ≤ 20000 := by
        have : k = 0 ∨ k = 1 ∨ k = 2 := by omega
        rcases this with rfl | rfl | rfl <;> decide
      exact boxL_ht4 hd hN hq (nm_ne (hx.nm q rfl)) h1 hr
  | @power k x n o h1 h2 hx ih =>
    intro r hr
    cases o with
    | none => cases hr
    | some q =>
      have hq := ih (by omega) q rfl
      simp only [Option.map_some, Option.some.injEq] at hr
      subst hr
      refine ((powHt hd hq (nm_ne (hx.nm q rfl)) (n - 1).toNat).1).up ?_
      have : ((n - 1).toNat + 1) * (NN k + 11) ≤ 4 * (NN k + 11) := Nat.mul_le_mul_right _ (by omega)
      show _ ≤ 12 * NN k + 109
      omega
  | @eight k a b c e a' b' c' e' x y o1 o2 h1 h2 hx hy ih1 ih2 =>
    intro r hr
    cases o1 with
    | none => cases hr
    | some p =>
    cases o2 with
    | none => cases hr
    | some q =>
      have hp := ih1 (by omega) p rfl
      have hq := ih2 (by omega) q rfl
      have hN : NN k ≤ 20000 := by
        have : k = 0 ∨ k = 1 ∨ k = 2 := by omega
        rcases this with rfl | rfl | rfl <;> decide
      exact boxL_ht8 hd hN hp hq (nm_ne (hx.nm p rfl)) (nm_ne (hy.nm q rfl)) (fun n hn => Nat.le_trans (h1 n hn) (by decide)) hr
end
end PL
namespace PL
/-- with more to take, the same is told -/
theorem Told.mono {k : Int} (hk : 0 ≤ k) {n : Nat} {r r1 : R} {m m1 : Int} {a1 : Ans} (h : Told n r m r1 m1 a1) : 0 ≤ m → 0 ≤ m1 ∧ (a1 ≠ .waits → Told n r (m + k) r1 (m1 + k) a1) := by
  have sh : ∀ m : Int, m - 1 + k = m + k - 1 := fun m => by omega
  induction h with
  | fxEnd => exact fun h => ⟨h, fun _ => .fxEnd⟩
  | fxNo => exact fun h => ⟨h, fun _ => .fxNo⟩
  | fxPart h1 h2 h3 => exact fun h => ⟨h, fun _ => .fxPart h1 h2 h3⟩
  | frEnd => exact fun h => ⟨h, fun _ => .frEnd⟩
  | frWait => exact fun h => ⟨h, fun z => absurd rfl z⟩
  | frPart h1 h2 h3 h4 => exact fun h => ⟨by omega, fun _ => by rw [sh]; exact .frPart h1 (by omega) h3 h4⟩
  | rtWait => exact fun h => ⟨h, fun z => absurd rfl z⟩
  | rtPart h1 h2 h3 h4 h5 h6 h7 h8 h9 => exact fun h => ⟨by omega, fun _ => by rw [sh]; exact .rtPart (by omega) h2 h3 h4 h5 h6 h7 h8 h9⟩
  | ruEnd h1 => exact fun h => ⟨h, fun _ => .ruEnd h1⟩
  | ruWait => exact fun h => ⟨h, fun z => absurd rfl z⟩
  | ruPart h1 h2 h3 h4 h5 h6 h7 => exact fun h => ⟨by omega, fun _ => by rw [sh]; exact .ruPart h1 (by omega) h3 h4 h5 h6 h7⟩
  | foTell h1 h2 h3 h4 h5 => exact fun h => ⟨h, fun _ => .foTell h1 h2 h3 h4 h5⟩
  | foWait h1 h2 h3 h4 h5 _ ih => exact fun h => ⟨(ih h).1, fun z => absurd rfl z⟩
  | foNo h1 h2 h3 h4 h5 _ ih => exact fun h => ⟨(ih h).1, fun _ => .foNo h1 h2 h3 h4 h5 ((ih h).2 (by simp))⟩
  | foEnd h1 h2 h3 h4 h5 _ _ ih1 ih2 => exact fun h => ⟨(ih2 (ih1 h).1).1, fun z => .foEnd h1 h2 h3 h4 h5 ((ih1 h).2 (by simp)) ((ih2 (ih1 h).1).2 z)⟩
  | foIn h1 h2 h3 h4 h5 _ h6 _ ih1 ih2 => exact fun h => ⟨(ih2 (ih1 h).1).1, fun z => .foIn h1 h2 h3 h4 h5 ((ih1 h).2 (by simp)) h6 ((ih2 (ih1 h).1).2 z)⟩
  | fxX _ ih => exact fun h => ⟨(ih h).1, fun z => .fxX ((ih h).2 z)⟩
  | exX _ ih => exact fun h => ⟨(ih h).1, fun z => .exX ((ih h).2 z)⟩
  | exF hf _ ih => exact fun h => ⟨(ih h).1, fun z => .exF hf ((ih h).2 z)⟩
  | etTell h1 h2 => exact fun h => ⟨h, fun _ => .etTell h1 h2⟩
  | etWait h1 h2 h3 _ ih => exact fun h => ⟨(ih h).1, fun z => absurd rfl z⟩
  | etNo h1 h2 h3 _ ih => exact fun h => ⟨(ih h).1, fun _ => .etNo h1 h2 h3 ((ih h).2 (by simp))⟩
  | etFour h1 h2 h3 _ h4 _ ih1 ih2 => exact fun h => ⟨(ih2 (ih1 h).1).1, fun z => .etFour h1 h2 h3 ((ih1 h).2 (by simp)) h4 ((ih2 (ih1 h).1).2 z)⟩
  | etFix h1 h2 h3 _ h4 h5 _ ih1 ih2 => exact fun h => ⟨(ih2 (ih1 h).1).1, fun z => .etFix h1 h2 h3 ((ih1 h).2 (by simp)) h4 h5 ((ih2 (ih1 h).1).2 z)⟩
  | etIn0 h1 h2 h3 _ h4 _ ih1 ih2 => exact fun h => ⟨(ih2 (ih1 h).1).1, fun z => .etIn0 h1 h2 h3 ((ih1 h).2 (by simp)) h4 ((ih2 (ih1 h).1).2 z)⟩
  | etIn1 h1 h2 h3 _ h4 _ ih1 ih2 => exact fun h => ⟨(ih2 (ih1 h).1).1, fun z => .etIn1 h1 h2 h3 ((ih1 h).2 (by simp)) h4 ((ih2 (ih1 h).1).2 z)⟩
end PL
namespace PL
def qOf (f : Int) (x : Int × Int) : Int := (x.1 + f + (if x.2 < 0 then 1 else 0)).fdiv x.2
def stOf (s f : Int) (x : Int × Int) : Int × Int := (qOf f x * x.2 - x.1, (s - (qOf f x * x.2 - x.1) * (qOf f x * x.2 - x.1)).fdiv x.2)
def itOf (s f : Int) (x : Int × Int) : Nat → Int × Int
  | 0 => x
  | n + 1 => stOf s f (itOf s f x n)
/-- within bounds -/
structure BoxR (M f T : Int) (x : Int × Int) : Prop where
  p : 0 < x.2 → x.2 ≤ M + 2 * f + 1
  n : x.2 < 0 → -x.2 ≤ M
  t : x.1.natAbs ≤ T
theorem rti_step {s f t b : Int} (h : RtI t s b f) {t' b' : Int} (ht : (t', b') = stOf s f (t, b)) : RtI t' s b' f ∧ b * b' = s - t' * t' ∧ (0 < b → t' ≤ f ∧ f + 1 ≤ t' + b) ∧ (b < 0 → f + 1 ≤ t' ∧ t' + b ≤ f) := by
  obtain ⟨f0, lo, hi, b0, e, he⟩ := h
  obtain ⟨ρ, h1, h2, h3⟩ := rt_part t b f b0
  have et : t' = qOf f (t, b) * b - t := congrArg Prod.fst ht
  have eb : b' = (s - t' * t').fdiv b := by rw [et]; exact congrArg Prod.snd ht
  have hq : qOf f (t, b) = (t + f + (if b < 0 then 1 else 0)).fdiv b := rfl
  rw [← hq] at h1
  generalize qOf f (t, b) = q at *
  have dv : s - t' * t' = b * (e + 2 * q * t - q * q * b) := by rw [et]; grind
  have eb2 : b' = e + 2 * q * t - q * q * b := by rw [eb, dv, Int.mul_fdiv_cancel_left _ b0]
  have hbb : b * b' = s - t' * t' := by rw [dv, eb2]
  have nsq : s - t' * t' ≠ 0 := fun z => by
    have e1 : t' * t' = s := by omega
    have hn : (t'.natAbs : Int) * t'.natAbs = s := by rw [← e1]; exact Int.natAbs_mul_self
    rcases Int.lt_or_le (t'.natAbs : Int) (f + 1) with w | w
    · have := Int.mul_le_mul (show (t'.natAbs : Int) ≤ f by omega) (show (t'.natAbs : Int) ≤ f by omega) (by omega) f0
      omega
    · have := Int.mul_le_mul w w (by omega) (by omega)
      omega
  refine ⟨⟨f0, lo, hi, fun z => nsq (by rw [← hbb, z]; simp), b, by rw [Int.mul_comm]; exact hbb⟩, hbb, fun hb => ?_, fun hb => ?_⟩
  · obtain ⟨k1, k2⟩ := h2 hb
    rw [if_neg (by omega)] at h1
    omega
  · obtain ⟨k1, k2⟩ := h3 hb
    rw [if_pos hb] at h1
    omega
theorem box_step {s f M T : Int} {x : Int × Int} (h : RtI x.1 s x.2 f) (hb : BoxR M f T x) (hT : M + 3 * f + 2 ≤ T) (hM : 0 ≤ M) : BoxR M f T (stOf s f x) ∧ RtI (stOf s f x).1 s (stOf s f x).2 f := by
  obtain ⟨t, b⟩ := x
  obtain ⟨⟨t', b'⟩, ht⟩ : ∃ y, y = stOf s f (t, b) := ⟨_, rfl⟩
  rw [← ht]
  have h : RtI t s b f := h
  obtain ⟨k, kb, k1, k2⟩ := rti_step h ht
  obtain ⟨f0, lo, hi, b0, _⟩ := h
  refine ⟨?_, k⟩
  have p1 := hb.p
  have n1 := hb.n
  simp only at p1 n1 b0
  have e1 : (f + 1 - t') * (f + 1 + t') = (f + 1) * (f + 1) - t' * t' := by grind
  have e2 : (t' - f) * (t' + f) = t' * t' - f * f := by grind
  rcases Int.lt_or_gt_of_ne b0 with hn | hp
  · obtain ⟨a1, a2⟩ := k2 hn
    have n2 := n1 hn
    -- b' is above nought
    have hpos : 0 < b' := by
      rcases Int.lt_or_le 0 b' with z | z
      · exact z
      · exfalso
        have m1 := Int.mul_nonneg_of_nonpos_of_nonpos (Int.le_of_lt hn) z
        have m2 := Int.mul_le_mul a1 a1 (by omega) (by omega)
        omega
    refine ⟨fun _ => ?_, fun z => by simp only at z; omega, by simp only; omega⟩
    -- |b| b' = t'^2 - s < (t' - f)(t' + f) ≤ |b| (t' + f)
    have m3 := Int.mul_le_mul_of_nonneg_right (show t' - f ≤ -b by omega) (show 0 ≤ t' + f by omega)
    have m4 : (-b) * b' < (-b) * (t' + f) := by
      rw [Int.neg_mul]
      omega
    have := Int.lt_of_mul_lt_mul_left m4 (by omega)
    simp only
    omega
  · obtain ⟨a1, a2⟩ := k1 hp
    have p2 := p1 hp
    rcases Int.lt_or_le t' (-f) with w | w
    · -- b' is below nought
      have m2 := Int.mul_le_mul (show f + 1 ≤ -t' by omega) (show f + 1 ≤ -t' by omega) (by omega) (by omega)
      have m2' : (-t') * (-t') = t' * t' := by grind
      have hneg : b' < 0 := by
        rcases Int.lt_or_le b' 0 with z | z
        · exact z
        · exfalso
          have := Int.mul_nonneg (Int.le_of_lt hp) z
          omega
      refine ⟨fun z => by simp only at z; omega, fun _ => ?_, by simp only; omega⟩
      have e3 : (-t' - f) * (f - t') = t' * t' - f * f := by grind
      have m3 := Int.mul_le_mul_of_nonneg_left (show f - t' ≤ b by omega) (show 0 ≤ -t' - f by omega)
      have m4 : b * (-b') < b * (-t' - f) := by
        have m5 : b * (-b') = -(b * b') := by rw [Int.mul_neg]
        have m6 : b * (-t' - f) = (-t' - f) * b := Int.mul_comm ..
        omega
      have := Int.lt_of_mul_lt_mul_left m4 (by omega)
      simp only
      omega
    · have hpos : b' < f + 1 + t' := by
        have m3 := Int.mul_le_mul_of_nonneg_right (show f + 1 - t' ≤ b by omega) (show 0 ≤ f + 1 + t' by omega)
        have m4 : b * b' < b * (f + 1 + t') := by omega
        exact Int.lt_of_mul_lt_mul_left m4 (by omega)
      have hnn : 0 ≤ b' := by
        rcases Int.lt_or_le b' 0 with z | z
        · exfalso
          have m5 := Int.mul_le_mul_of_nonneg_left (show b' ≤ -1 by omega) (Int.le_of_lt hp)
          have : t'.natAbs ≤ f.natAbs := by omega
          have m6 : (t'.natAbs : Int) * t'.natAbs ≤ f * f := Int.mul_le_mul (by omega) (by omega) (by omega) f0
          rw [Int.natAbs_mul_self'] at m6
          omega
        · exact z
      refine ⟨fun _ => ?_, fun z => by simp only at z; omega, by simp only; omega⟩
      simp only
      omega
theorem box_all {s f M T : Int} {x : Int × Int} (h : RtI x.1 s x.2 f) (hb : BoxR M f T x) (hT : M + 3 * f + 2 ≤ T) (hM : 0 ≤ M) : ∀ n, BoxR M f T (itOf s f x n) ∧ RtI (itOf s f x n).1 s (itOf s f x n).2 f
  | 0 => ⟨hb, h⟩
  | n + 1 => by
    obtain ⟨a, b⟩ := box_all h hb hT hM n
    exact box_step b a hT hM
/-- pigeons -/
theorem pigeon : ∀ (N : Nat) (g : Nat → Nat), (∀ i, i ≤ N → g i < N) → ∃ i j, i < j ∧ j ≤ N ∧ g i = g j
  | 0, g, h => absurd (h 0 (Nat.le_refl _)) (by omega)
  | N + 1, g, h => by
    by_cases e : ∃ i, i ≤ N ∧ g i = g (N + 1)
    · obtain ⟨i, hi, hg⟩ := e
      exact ⟨i, N + 1, by omega, Nat.le_refl _, hg⟩
    · have ne : ∀ i, i ≤ N → g i ≠ g (N + 1) := fun i hi hg => e ⟨i, hi, hg⟩
      obtain ⟨i, j, hij, hj, hg⟩ := pigeon N (fun i => if g i < g (N + 1) then g i else g i - 1) fun i hi => by
        have h1 := h i (by omega)
        have h2 := h (N + 1) (Nat.le_refl _)
        have h3 := ne i hi
        show (if g i < g (N + 1) then g i else g i - 1) < N
        split <;> omega
      refine ⟨i, j, hij, by omega, ?_⟩
      have h1 := ne i (by omega)
      have h2 := ne j hj
      have hg : (if g i < g (N + 1) then g i else g i - 1) = (if g j < g (N + 1) then g j else g j - 1) := hg
      split at hg <;> split at hg <;> omega
theorem least {P : Nat → Prop} : ∀ n, P n → ∃ m, m ≤ n ∧ P m ∧ ∀ j, j < m → ¬ P j := by
  intro n
  induction n using Nat.strongRecOn with
  | ind n ih =>
    intro h
    by_cases e : ∃ j, j < n ∧ P j
    · obtain ⟨j, hj, hp⟩ := e
      obtain ⟨m, h1, h2, h3⟩ := ih j hj hp
      exact ⟨m, by omega, h2, h3⟩
    · exact ⟨n, Nat.le_refl _, h, fun j hj hp => e ⟨j, hj, hp⟩⟩
/-- the first state that was there before, and where -/
structure RingAt (s f : Int) (x : Int × Int) (a n : Nat) : Prop where
  lt : a < n
  eq : itOf s f x a = itOf s f x n
  new : ∀ j, j < n → ∀ i, i < j → itOf s f x i ≠ itOf s f x j
theorem ring_ex {s f M T : Int} {x : Int × Int} (h : RtI x.1 s x.2 f) (hb : BoxR M f T x) (hT : M + 3 * f + 2 ≤ T) (hM : 0 ≤ M) : ∃ a n, RingAt s f x a n ∧ (n : Int) ≤ (2 * T + 1) * (2 * T + 1) := by
  have all := box_all h hb hT hM
  have T0 : 0 ≤ T := by have := h.f0; omega
  have key : ∀ n, ((itOf s f x n).1 + T).toNat * (2 * T + 1).toNat + ((itOf s f x n).2 + T).toNat < (2 * T + 1).toNat * (2 * T + 1).toNat := fun n => by
    obtain ⟨bx, rt⟩ := all n
    have h1 := bx.t
    have h2 := bx.p
    have h3 := bx.n
    have h4 := rt.b0
    have f0 := h.f0
    have a1 : ((itOf s f x n).1 + T).toNat ≤ (2 * T).toNat := by omega
    have a2 : ((itOf s f x n).2 + T).toNat ≤ (2 * T).toNat := by omega
    have a3 : (2 * T + 1).toNat = (2 * T).toNat + 1 := by omega
    have a4 := Nat.mul_le_mul_right (2 * T + 1).toNat a1
    rw [a3] at a4 ⊢
    have a5 : ((2 * T).toNat + 1) * ((2 * T).toNat + 1) = (2 * T).toNat * ((2 * T).toNat + 1) + ((2 * T).toNat + 1) := by rw [Nat.add_mul, Nat.one_mul]
    omega
  obtain ⟨i, j, hij, hj, hg⟩ := pigeon ((2 * T + 1).toNat * (2 * T + 1).toNat) (fun n => ((itOf s f x n).1 + T).toNat * (2 * T + 1).toNat + ((itOf s f x n).2 + T).toNat) fun i _ => key i
  have inj : itOf s f x i = itOf s f x j := by
    have bi := (all i).1
    have bj := (all j).1
    have ri := (all i).2.b0
    have rj := (all j).2.b0
    have f0 := h.f0
    have i1 := bi.t
    have i2 := bi.p
    have i3 := bi.n
    have j1 := bj.t
    have j2 := bj.p
    have j3 := bj.n
    have c1 : ((itOf s f x i).2 + T).toNat < (2 * T + 1).toNat := by omega
    have c2 : ((itOf s f x j).2 + T).toNat < (2 * T + 1).toNat := by omega
    have d1 := congrArg (· / (2 * T + 1).toNat) hg
    have d2 := congrArg (· % (2 * T + 1).toNat) hg
    have d1 : (((itOf s f x i).1 + T).toNat * (2 * T + 1).toNat + ((itOf s f x i).2 + T).toNat) / (2 * T + 1).toNat = (((itOf s f x j).1 + T).toNat * (2 * T + 1).toNat + ((itOf s f x j).2 + T).toNat) / (2 * T + 1).toNat := d1
    have d2 : (((itOf s f x i).1 + T).toNat * (2 * T + 1).toNat + ((itOf s f x i).2 + T).toNat) % (2 * T + 1).toNat = (((itOf s f x j).1 + T).toNat * (2 * T + 1).toNat + ((itOf s f x j).2 + T).toNat) % (2 * T + 1).toNat := d2
    have p0 : 0 < (2 * T + 1).toNat := by omega
    rw [Nat.mul_comm, Nat.mul_add_div p0, Nat.div_eq_of_lt c1, Nat.mul_comm, Nat.mul_add_div p0, Nat.div_eq_of_lt c2] at d1
    rw [Nat.mul_comm, Nat.mul_add_mod, Nat.mod_eq_of_lt c1, Nat.mul_comm, Nat.mul_add_mod, Nat.mod_eq_of_lt c2] at d2
    exact Prod.ext (by omega) (by omega)
  obtain ⟨n, h1, ⟨a, ha, he⟩, h3⟩ := least (P := fun n => ∃ a, a < n ∧ itOf s f x a = itOf s f x n) j ⟨i, hij, inj⟩
  refine ⟨a, n, ⟨ha, he, fun j hj i hi e => h3 j hj ⟨i, hi, e⟩⟩, ?_⟩
  have : (((2 * T + 1).toNat * (2 * T + 1).toNat : Nat) : Int) = (2 * T + 1) * (2 * T + 1) := by
    rw [Int.natCast_mul, Int.toNat_of_nonneg (by omega)]
  omega
/-- behind the ring's end all is as at its beginning -/
theorem RingAt.turn {s f : Int} {x : Int × Int} {a n : Nat} (h : RingAt s f x a n) : ∀ k, itOf s f x (a + k) = itOf s f x (n + k)
  | 0 => h.eq
  | k + 1 => by
    show stOf s f (itOf s f x (a + k)) = stOf s f (itOf s f x (n + k))
    rw [h.turn k]
end PL
namespace PL
theorem px_inj {p : T3} {t m β t' β' : Int} (hp : Nm p) (hm : 0 < m) (h : Px p t m β) (h' : Px p t' m β') : t = t' ∧ β = β' := by
  have hc := hp.pos
  have h1 := h.one
  have h2 := h.two
  have k1 := h'.one
  have k2 := h'.two
  have p2 : p.2.1 ≠ 0 := fun z => by
    rw [z, Int.zero_mul] at h2
    have := Int.mul_pos hm hc
    omega
  have eb : β = β' := Int.eq_of_mul_eq_mul_left p2 (h2.trans k2.symm)
  subst eb
  exact ⟨Int.eq_of_mul_eq_mul_right (Int.ne_of_gt hc) (h1.symm.trans k1), rfl⟩
theorem px_uniq {p p' : T3} {t m β : Int} (hp : Nm p) (hp' : Nm p') (h : Px p t m β) (h' : Px p' t m β) : p = p' := by
  obtain ⟨k, k0, a1, a2, a3⟩ := h.k hp
  obtain ⟨j, j0, b1, b2, b3⟩ := h'.k hp'
  have hc := hp.pos
  have hc' := hp'.pos
  have g : k.natAbs = j.natAbs := by
    have e1 : gcd3 t m β = k.natAbs := by
      rw [a1, a2, a3]
      have := hp.one
      unfold gcd3 at this ⊢
      rw [Int.gcd_mul_left]
      have e : ((k.natAbs * Int.gcd p.1 p.2.1 : Nat) : Int) = (k.natAbs : Int) * (Int.gcd p.1 p.2.1 : Nat) := by rw [Int.natCast_mul]
      rw [e]
      have e2 : Int.gcd ((k.natAbs : Int) * (Int.gcd p.1 p.2.1 : Nat)) (k * p.2.2) = Int.gcd ((k.natAbs : Int) * (Int.gcd p.1 p.2.1 : Nat)) ((k.natAbs : Int) * p.2.2) := by
        rcases Int.natAbs_eq k with z | z
        · rw [← z]
        · have z2 : k * p.2.2 = -((k.natAbs : Int) * p.2.2) := by
            rw [← Int.neg_mul, ← z]
          rw [z2, Int.gcd_neg]
      rw [e2, Int.gcd_mul_left, this]
      simp
    have e2 : gcd3 t m β = j.natAbs := by
      rw [b1, b2, b3]
      have := hp'.one
      unfold gcd3 at this ⊢
      rw [Int.gcd_mul_left]
      have e : ((j.natAbs * Int.gcd p'.1 p'.2.1 : Nat) : Int) = (j.natAbs : Int) * (Int.gcd p'.1 p'.2.1 : Nat) := by rw [Int.natCast_mul]
      rw [e]
      have e2 : Int.gcd ((j.natAbs : Int) * (Int.gcd p'.1 p'.2.1 : Nat)) (j * p'.2.2) = Int.gcd ((j.natAbs : Int) * (Int.gcd p'.1 p'.2.1 : Nat)) ((j.natAbs : Int) * p'.2.2) := by
        rcases Int.natAbs_eq j with z | z
        · rw [← z]
        · have z2 : j * p'.2.2 = -((j.natAbs : Int) * p'.2.2) := by
            rw [← Int.neg_mul, ← z]
          rw [z2, Int.gcd_neg]
      rw [e2, Int.gcd_mul_left, this]
      simp
    omega
  have kj : k = j := by
    rcases Int.natAbs_eq_natAbs_iff.mp g with z | z
    · exact z
    · exfalso
      rw [z] at a3
      have := b3.symm.trans a3
      rw [Int.neg_mul] at this
      have e3 : j * (p'.2.2 + p.2.2) = 0 := by rw [Int.mul_add]; omega
      rcases Int.mul_eq_zero.mp e3 with y | y <;> omega
  subst kj
  have c1 : p.1 = p'.1 := Int.eq_of_mul_eq_mul_left k0 (a1.symm.trans b1)
  have c2 : p.2.1 = p'.2.1 := Int.eq_of_mul_eq_mul_left k0 (a2.symm.trans b2)
  have c3 : p.2.2 = p'.2.2 := Int.eq_of_mul_eq_mul_left k0 (a3.symm.trans b3)
  exact Prod.ext c1 (Prod.ext c2 c3)
/-- the law's numbers, one after the other -/
def ltOf (d : Int) (p : T3) : Nat → Option T3
  | 0 => some p
  | n + 1 => (ltOf d p n).bind fun q => nextT q d
structure SeqR (d : Int) (p : T3) (s f m : Int) (x : Int × Int) : Prop where
  hd : NSq d
  hm : 0 < m
  hs : s = d * m * m
  hp : Nm p
  px : Px p x.1 m x.2
  rt : RtI x.1 s x.2 f
theorem SeqR.all {d s f m : Int} {p : T3} {x : Int × Int} (h : SeqR d p s f m x) : ∀ n, ∃ q, ltOf d p n = some q ∧ Nm q ∧ Px q (itOf s f x n).1 m (itOf s f x n).2 ∧ belowT q d = qOf f (itOf s f x n) ∧ RtI (itOf s f x n).1 s (itOf s f x n).2 f
  | 0 => ⟨p, rfl, h.hp, h.px, (stepQ h.hd h.hp h.hm h.hs h.rt h.px).1, h.rt⟩
  | n + 1 => by
    obtain ⟨q, e, hq, pq, bq, rq⟩ := h.all n
    obtain ⟨k1, p', k2, k3, k4⟩ := stepQ h.hd hq h.hm h.hs rq pq
    rw [bq] at k4
    have px2 : Px p' (itOf s f x (n + 1)).1 m (itOf s f x (n + 1)).2 := k4
    have rt2 : RtI (itOf s f x (n + 1)).1 s (itOf s f x (n + 1)).2 f := (rti_step rq rfl).1
    refine ⟨p', ?_, k3, px2, (stepQ h.hd k3 h.hm h.hs rt2 px2).1, rt2⟩
    show (ltOf d p n).bind _ = _
    rw [e]
    exact k2
theorem SeqR.same {d s f m : Int} {p : T3} {x : Int × Int} (h : SeqR d p s f m x) {i j : Nat} : ltOf d p i = ltOf d p j ↔ itOf s f x i = itOf s f x j := by
  obtain ⟨q, e, hq, pq, _⟩ := h.all i
  obtain ⟨q', e', hq', pq', _⟩ := h.all j
  rw [e, e', Option.some.injEq]
  constructor
  · intro z
    subst z
    obtain ⟨a, b⟩ := px_inj hq h.hm pq pq'
    exact Prod.ext a b
  · intro z
    rw [z] at pq
    exact px_uniq hq hq' pq pq'
end PL
namespace PL
open PySem L2
local macro_rules | `(tactic| walk_at "pl") => `(tactic| try simp only [aSeq, aSet, aAsg, agName, agTup, setAll, aVar, aC, aOp, aAdd, aSub, aMul, aFdv, aMod, aPow, aPowB, aShl1, aLt, aLe, aGt, aGe, aEqI, aNeI, aEqD, aNeD, aEqS, aNeS, fI, fB, aIfS, aNext, aRet, aRetN, aDrop, aB, aAnd, aOr, aNot,
  aAndV, aOrV, aNotV, aIf, aCons, aNil, aTup, aLst, aLstO, aCall, fAbs, fIntB, fLen, fListD, fListO, fTuple, aFn, aIx, fIx, aBits, aIsi, aIsN, aNotN, TT2, aSetIx, aApp, aFor, aForT, aForR1, aForR2, aLc, aLcR, aCatL, fCatL, aCatO, fCatO, aCatT, fCatT, aForRev, aForO, aForZipM, aInD, aNotInD, aForZip, aLcZip, aTry, aTryAs, aIsE, aIsET, agTupL, aDGet, aDPut, aDisp, aChain, fLe, fLt, lseq_lst, lseq_o, aFrz, aTake, aFld, agFld, agNew, aMeth, aMake, agTupG, glNil, glCons, aRaise, fInI, aNever, Prod.mk.injEq, AO.obj.injEq, and_assoc, aSl, aPart, aNoPart, reduceCtorEq, false_and, and_false, exists_false, or_false, false_or, exists_const, aPar, astart, seq_lst, seq_tup, seq_o, ty_int, ty_bl, isT_ii, isT_ib, isT_bi, isT_bb, isT_tt, isT_ss, isT_ll, ty_tup, ty_str, ty_lst, ty_non, at_0, at_1, at_2, at_3, at_l, ix_40, ix_41, ix_42, ix_43, aAsRow, oset_same, oset_oset, AO.lst.injEq, List.cons.injEq,
  List.map_cons, List.map_nil, List.length_cons, List.length_nil, List.replicate, Nat.sub_self, Nat.zero_add, Nat.reduceSub, Nat.reduceAdd, List.cons_append, List.nil_append, List.append_nil, List.set_cons_zero, List.set_cons_succ, List.getElem?_cons_zero, List.getElem?_cons_succ,
  Option.some.injEq, D.int.injEq, D.bl.injEq, D.str.injEq, D.o.injEq, D.lst.injEq, D.tup.injEq, exists_and_left, exists_eq_left', exists_eq_left, true_and, and_true, decide_eq_true_eq, Bool.true_eq_false, Bool.false_eq_true, if_true, if_false, Int.toNat_natCast])
local macro_rules | `(tactic| walk_at "nm") => `(tactic| (intro z; simp only [List.map_cons, List.map_nil, List.mem_cons, List.not_mem_nil, or_false] at z; try (revert z; decide)))
theorem boot_ty_int : bootBuiltins "int" = some (.type "int") := by decide +kernel
theorem boot_ty_bool : bootBuiltins "bool" = some (.type "bool") := by decide +kernel
theorem boot_ty_tuple : bootBuiltins "tuple" = some (.type "tuple") := by decide +kernel
theorem boot_ty_list : bootBuiltins "list" = some (.type "list") := by decide +kernel
theorem sq_nn (x : Int) : 0 ≤ x * x := by
  rcases Int.le_total 0 x with h | h
  · exact Int.mul_nonneg h h
  · exact Int.mul_nonneg_of_nonpos_of_nonpos h h
def topS (i : Nat) : Stmt := PySem.Challenge.pw_chainparts_k06_rings_come_again.main.body.getD i (.Pass ⟨0, 0, 0, 0⟩)
abbrev s_root_below : Stmt := topS 6
theorem sc_root_below : FnScope ["number", "found"] ["number"] (defScope s_root_below) := ⟨rfl, rfl, rfl, by decide +kernel, rfl, by decide +kernel, by decide +kernel⟩
abbrev s_Purse___init__ : Stmt := inClass (topS 8) 0
theorem sc_Purse___init__ : FnScope ["self", "left"] ["self", "left"] (defScope s_Purse___init__) := ⟨rfl, rfl, rfl, by decide +kernel, rfl, by decide +kernel, by decide +kernel⟩
abbrev s_Reader_part : Stmt := inClass (topS 9) 0
theorem sc_Reader_part : FnScope ["self", "most"] ["self", "most"] (defScope s_Reader_part) := ⟨rfl, rfl, rfl, by decide +kernel, rfl, by decide +kernel, by decide +kernel⟩
abbrev s_Reader_took : Stmt := inClass (topS 9) 2
theorem sc_Reader_took : FnScope ["self"] ["self"] (defScope s_Reader_took) := ⟨rfl, rfl, rfl, by decide +kernel, rfl, by decide +kernel, by decide +kernel⟩
abbrev s_Fixed___init__ : Stmt := inClass (topS 10) 0
theorem sc_Fixed___init__ : FnScope ["self", "top", "below", "begun"] ["self", "top", "below", "begun"] (defScope s_Fixed___init__) := ⟨rfl, rfl, rfl, by decide +kernel, rfl, by decide +kernel, by decide +kernel⟩
abbrev s_Fixed_told : Stmt := inClass (topS 10) 1
theorem sc_Fixed_told : FnScope ["self", "purse", "found"] ["self", "purse"] (defScope s_Fixed_told) := ⟨rfl, rfl, rfl, by decide +kernel, rfl, by decide +kernel, by decide +kernel⟩
abbrev s_Leaf___init__ : Stmt := inClass (topS 11) 0
theorem sc_Leaf___init__ : FnScope ["self"] ["self"] (defScope s_Leaf___init__) := ⟨rfl, rfl, rfl, by decide +kernel, rfl, by decide +kernel, by decide +kernel⟩
abbrev s_Leaf_told : Stmt := inClass (topS 11) 1
theorem sc_Leaf_told : FnScope ["self", "purse"] ["self", "purse"] (defScope s_Leaf_told) := ⟨rfl, rfl, rfl, by decide +kernel, rfl, by decide +kernel, by decide +kernel⟩
abbrev s_Leaf_at_end : Stmt := inClass (topS 11) 2
theorem sc_Leaf_at_end : FnScope ["self"] ["self"] (defScope s_Leaf_at_end) := ⟨rfl, rfl, rfl, by decide +kernel, rfl, by decide +kernel, by decide +kernel⟩
abbrev s_Leaf_took : Stmt := inClass (topS 11) 4
theorem sc_Leaf_took : FnScope ["self"] ["self"] (defScope s_Leaf_took) := ⟨rfl, rfl, rfl, by decide +kernel, rfl, by decide +kernel, by decide +kernel⟩
abbrev s_Fraction___init__ : Stmt := inClass (topS 12) 0
theorem sc_Fraction___init__ : FnScope ["self", "top", "below"] ["self", "top", "below"] (defScope s_Fraction___init__) := ⟨rfl, rfl, rfl, by decide +kernel, rfl, by decide +kernel, by decide +kernel⟩
abbrev s_Fraction_at_end : Stmt := inClass (topS 12) 1
theorem sc_Fraction_at_end : FnScope ["self"] ["self"] (defScope s_Fraction_at_end) := ⟨rfl, rfl, rfl, by decide +kernel, rfl, by decide +kernel, by decide +kernel⟩
abbrev s_Fraction_following : Stmt := inClass (topS 12) 2
theorem sc_Fraction_following : FnScope ["self", "found"] ["self"] (defScope s_Fraction_following) := ⟨rfl, rfl, rfl, by decide +kernel, rfl, by decide +kernel, by decide +kernel⟩
abbrev s_Root___init__ : Stmt := inClass (topS 13) 0
theorem sc_Root___init__ : FnScope ["self", "top", "square", "below"] ["self", "top", "square", "below"] (defScope s_Root___init__) := ⟨rfl, rfl, rfl, by decide +kernel, rfl, by decide +kernel, by decide +kernel⟩
abbrev s_Root_following : Stmt := inClass (topS 13) 1
theorem sc_Root_following : FnScope ["self", "found"] ["self"] (defScope s_Root_following) := ⟨rfl, rfl, rfl, by decide +kernel, rfl, by decide +kernel, by decide +kernel⟩
abbrev s_Ruled___init__ : Stmt := inClass (topS 14) 0
theorem sc_Ruled___init__ : FnScope ["self", "parts", "ring", "steps"] ["self", "parts", "ring", "steps"] (defScope s_Ruled___init__) := ⟨rfl, rfl, rfl, by decide +kernel, rfl, by decide +kernel, by decide +kernel⟩
abbrev s_Ruled_at_end : Stmt := inClass (topS 14) 1
theorem sc_Ruled_at_end : FnScope ["self"] ["self"] (defScope s_Ruled_at_end) := ⟨rfl, rfl, rfl, by decide +kernel, rfl, by decide +kernel, by decide +kernel⟩
abbrev s_Ruled_following : Stmt := inClass (topS 14) 2
theorem sc_Ruled_following : FnScope ["self", "at", "turn"] ["self"] (defScope s_Ruled_following) := ⟨rfl, rfl, rfl, by decide +kernel, rfl, by decide +kernel, by decide +kernel⟩
abbrev s_root_of : Stmt := topS 15
theorem sc_root_of : FnScope ["top", "square", "below", "floor", "size"] ["top", "square", "below"] (defScope s_root_of) := ⟨rfl, rfl, rfl, by decide +kernel, rfl, by decide +kernel, by decide +kernel⟩
abbrev s_must : Stmt := topS 21
theorem sc_must : FnScope ["good"] ["good"] (defScope s_must) := ⟨rfl, rfl, rfl, by decide +kernel, rfl, by decide +kernel, by decide +kernel⟩
abbrev s_need_numbers : Stmt := topS 22
theorem sc_need_numbers : FnScope ["numbers", "number"] ["numbers"] (defScope s_need_numbers) := ⟨rfl, rfl, rfl, by decide +kernel, rfl, by decide +kernel, by decide +kernel⟩
abbrev s_need_ruled : Stmt := topS 23
theorem sc_need_ruled : FnScope ["parts", "ring", "steps", "part", "step"] ["parts", "ring", "steps"] (defScope s_need_ruled) := ⟨rfl, rfl, rfl, by decide +kernel, rfl, by decide +kernel, by decide +kernel⟩
abbrev s_need_eight : Stmt := topS 24
theorem sc_need_eight : FnScope ["numbers", "apart", "i", "j"] ["numbers"] (defScope s_need_eight) := ⟨rfl, rfl, rfl, by decide +kernel, rfl, by decide +kernel, by decide +kernel⟩
abbrev s_need_tree : Stmt := topS 25
theorem sc_need_tree : FnScope ["tree", "deep", "kind"] ["tree", "deep"] (defScope s_need_tree) := ⟨rfl, rfl, rfl, by decide +kernel, rfl, by decide +kernel, by decide +kernel⟩
abbrev s_ring_of : Stmt := topS 27
theorem sc_ring_of : FnScope ["top", "square", "below", "most", "made", "seen", "parts", "first"] ["top", "square", "below", "most"] (defScope s_ring_of) := ⟨rfl, rfl, rfl, by decide +kernel, rfl, by decide +kernel, by decide +kernel⟩
abbrev s_below_all : Stmt := topS 29
theorem sc_below_all : FnScope ["corners", "top", "below", "least", "rest"] ["corners"] (defScope s_below_all) := ⟨rfl, rfl, rfl, by decide +kernel, rfl, by decide +kernel, by decide +kernel⟩
abbrev s_Four___init__ : Stmt := inClass (topS 30) 0
theorem sc_Four___init__ : FnScope ["self", "numbers", "inner", "ready", "begun"] ["self", "numbers", "inner", "ready", "begun"] (defScope s_Four___init__) := ⟨rfl, rfl, rfl, by decide +kernel, rfl, by decide +kernel, by decide +kernel⟩
abbrev s_Four_took : Stmt := inClass (topS 30) 1
theorem sc_Four_took : FnScope ["self"] ["self"] (defScope s_Four_took) := ⟨rfl, rfl, rfl, by decide +kernel, rfl, by decide +kernel, by decide +kernel⟩
abbrev s_Four_sure : Stmt := inClass (topS 30) 2
theorem sc_Four_sure : FnScope ["self", "a", "b", "c", "d"] ["self"] (defScope s_Four_sure) := ⟨rfl, rfl, rfl, by decide +kernel, rfl, by decide +kernel, by decide +kernel⟩
abbrev s_Four_told : Stmt := inClass (topS 30) 3
theorem sc_Four_told : FnScope ["self", "purse", "a", "b", "c", "d", "found", "got"] ["self", "purse"] (defScope s_Four_told) := ⟨rfl, rfl, rfl, by decide +kernel, rfl, by decide +kernel, by decide +kernel⟩
abbrev s_Eight___init__ : Stmt := inClass (topS 31) 0
theorem sc_Eight___init__ : FnScope ["self", "numbers", "one", "other"] ["self", "numbers", "one", "other"] (defScope s_Eight___init__) := ⟨rfl, rfl, rfl, by decide +kernel, rfl, by decide +kernel, by decide +kernel⟩
abbrev s_Eight_took : Stmt := inClass (topS 31) 1
theorem sc_Eight_took : FnScope ["self"] ["self"] (defScope s_Eight_took) := ⟨rfl, rfl, rfl, by decide +kernel, rfl, by decide +kernel, by decide +kernel⟩
abbrev s_Eight_sure : Stmt := inClass (topS 31) 2
theorem sc_Eight_sure : FnScope ["self", "a", "b", "c", "d", "e", "f", "g", "h"] ["self"] (defScope s_Eight_sure) := ⟨rfl, rfl, rfl, by decide +kernel, rfl, by decide +kernel, by decide +kernel⟩
abbrev s_Eight_told : Stmt := inClass (topS 31) 3
theorem sc_Eight_told : FnScope ["self", "purse", "found", "rows", "which", "got", "k"] ["self", "purse"] (defScope s_Eight_told) := ⟨rfl, rfl, rfl, by decide +kernel, rfl, by decide +kernel, by decide +kernel⟩
abbrev s_Eight_take : Stmt := inClass (topS 31) 4
theorem sc_Eight_take : FnScope ["self", "which", "part", "a", "b", "c", "d", "e", "f", "g", "h"] ["self", "which", "part"] (defScope s_Eight_take) := ⟨rfl, rfl, rfl, by decide +kernel, rfl, by decide +kernel, by decide +kernel⟩
abbrev s_Eight_left_of : Stmt := inClass (topS 31) 5
theorem sc_Eight_left_of : FnScope ["self", "which", "a", "b", "c", "d", "e", "f", "g", "h", "four"] ["self", "which"] (defScope s_Eight_left_of) := ⟨rfl, rfl, rfl, by decide +kernel, rfl, by decide +kernel, by decide +kernel⟩
abbrev s_opened : Stmt := topS 34
theorem sc_opened : FnScope ["tree", "kind", "made", "k"] ["tree"] (defScope s_opened) := ⟨rfl, rfl, rfl, by decide +kernel, rfl, by decide +kernel, by decide +kernel⟩
abbrev s_reader : Stmt := topS 35
theorem sc_reader : FnScope ["tree"] ["tree"] (defScope s_reader) := ⟨rfl, rfl, rfl, by decide +kernel, rfl, by decide +kernel, by decide +kernel⟩
abbrev s_first_parts : Stmt := topS 36
theorem sc_first_parts : FnScope ["tree", "many", "most", "made", "found", "got"] ["tree", "many", "most"] (defScope s_first_parts) := ⟨rfl, rfl, rfl, by decide +kernel, rfl, by decide +kernel, by decide +kernel⟩
abbrev s__law_row : Stmt := topS 38
theorem sc__law_row : FnScope ["_law_script", "_law_mixed", "_law_cell"] ["_law_script"] (defScope s__law_row) := ⟨rfl, rfl, rfl, by decide +kernel, rfl, by decide +kernel, by decide +kernel⟩
abbrev s__law_taken : Stmt := topS 39
theorem sc__law_taken : FnScope ["_law_row_here", "_law_many", "_law_found", "_law_cell"] ["_law_row_here", "_law_many"] (defScope s__law_taken) := ⟨rfl, rfl, rfl, by decide +kernel, rfl, by decide +kernel, by decide +kernel⟩
abbrev s__law_whole : Stmt := topS 40
theorem sc__law_whole : FnScope ["_law_found"] ["_law_found"] (defScope s__law_whole) := ⟨rfl, rfl, rfl, by decide +kernel, rfl, by decide +kernel, by decide +kernel⟩
abbrev s__law_list : Stmt := topS 41
theorem sc__law_list : FnScope ["_law_found", "_law_due", "_law_number"] ["_law_found", "_law_due"] (defScope s__law_list) := ⟨rfl, rfl, rfl, by decide +kernel, rfl, by decide +kernel, by decide +kernel⟩
abbrev s__law_signed : Stmt := topS 42
theorem sc__law_signed : FnScope ["_law_row_here", "_law_most"] ["_law_row_here", "_law_most"] (defScope s__law_signed) := ⟨rfl, rfl, rfl, by decide +kernel, rfl, by decide +kernel, by decide +kernel⟩
abbrev s__law_root : Stmt := topS 43
theorem sc__law_root : FnScope ["_law_number", "_law_low", "_law_high", "_law_middle"] ["_law_number"] (defScope s__law_root) := ⟨rfl, rfl, rfl, by decide +kernel, rfl, by decide +kernel, by decide +kernel⟩
abbrev s__law_common : Stmt := topS 44
theorem sc__law_common : FnScope ["_law_one", "_law_other"] ["_law_one", "_law_other"] (defScope s__law_common) := ⟨rfl, rfl, rfl, by decide +kernel, rfl, by decide +kernel, by decide +kernel⟩
abbrev s__law_made : Stmt := topS 46
theorem sc__law_made : FnScope ["_law_a", "_law_b", "_law_c", "_law_part"] ["_law_a", "_law_b", "_law_c"] (defScope s__law_made) := ⟨rfl, rfl, rfl, by decide +kernel, rfl, by decide +kernel, by decide +kernel⟩
abbrev s__law_sum : Stmt := topS 47
theorem sc__law_sum : FnScope ["_law_one", "_law_other", "_law_by", "_law_a"] ["_law_one", "_law_other", "_law_by"] (defScope s__law_sum) := ⟨rfl, rfl, rfl, by decide +kernel, rfl, by decide +kernel, by decide +kernel⟩
abbrev s__law_product : Stmt := topS 48
theorem sc__law_product : FnScope ["_law_one", "_law_other", "_law_d", "_law_a"] ["_law_one", "_law_other", "_law_d"] (defScope s__law_product) := ⟨rfl, rfl, rfl, by decide +kernel, rfl, by decide +kernel, by decide +kernel⟩
abbrev s__law_quotient : Stmt := topS 49
theorem sc__law_quotient : FnScope ["_law_one", "_law_other", "_law_d", "_law_size"] ["_law_one", "_law_other", "_law_d"] (defScope s__law_quotient) := ⟨rfl, rfl, rfl, by decide +kernel, rfl, by decide +kernel, by decide +kernel⟩
abbrev s__law_below : Stmt := topS 50
theorem sc__law_below : FnScope ["_law_one", "_law_d", "_law_size", "_law_root_here"] ["_law_one", "_law_d"] (defScope s__law_below) := ⟨rfl, rfl, rfl, by decide +kernel, rfl, by decide +kernel, by decide +kernel⟩
abbrev s__law_ring : Stmt := topS 52
theorem sc__law_ring : FnScope ["_law_one", "_law_d", "_law_seen", "_law_parts_here", "_law_part", "_law_first"] ["_law_one", "_law_d"] (defScope s__law_ring) := ⟨rfl, rfl, rfl, by decide +kernel, rfl, by decide +kernel, by decide +kernel⟩
abbrev s__law_why : Stmt := topS 53
theorem sc__law_why : FnScope ["_law_top", "_law_d", "_law_below_here", "_law_most", "e", "_law_kinds"] ["_law_top", "_law_d", "_law_below_here", "_law_most"] (defScope s__law_why) := ⟨rfl, rfl, rfl, by decide +kernel, rfl, by decide +kernel, by decide +kernel⟩
abbrev s_law : Stmt := topS 54
theorem sc_law : FnScope ["_law_script", "_law_row_here", "_law_top", "_law_d", "_law_below_here", "_law_way", "_law_root_here", "_law_due", "_law_many", "_law_found", "_law_parts_here", "_law_told"] ["_law_script"] (defScope s_law) := ⟨rfl, rfl, rfl, by decide +kernel, rfl, by decide +kernel, by decide +kernel⟩
structure Txt (K : PySem.W.Frag) (mg : Str → Option Value) (C : CT) : Prop where
  d_root_below : Dfn K mg "root_below" "root_below" s_root_below ["number"]
  d_root_of : Dfn K mg "root_of" "root_of" s_root_of ["top", "square", "below"]
  d_must : Dfn K mg "must" "must" s_must ["good"]
  d_need_numbers : Dfn K mg "need_numbers" "need_numbers" s_need_numbers ["numbers"]
  d_need_ruled : Dfn K mg "need_ruled" "need_ruled" s_need_ruled ["parts", "ring", "steps"]
  d_need_eight : Dfn K mg "need_eight" "need_eight" s_need_eight ["numbers"]
  d_need_tree : Dfn K mg "need_tree" "need_tree" s_need_tree ["tree", "deep"]
  d_ring_of : Dfn K mg "ring_of" "ring_of" s_ring_of ["top", "square", "below", "most"]
  d_below_all : Dfn K mg "below_all" "below_all" s_below_all ["corners"]
  d_opened : Dfn K mg "opened" "opened" s_opened ["tree"]
  d_reader : Dfn K mg "reader" "reader" s_reader ["tree"]
  d_first_parts : Dfn K mg "first_parts" "first_parts" s_first_parts ["tree", "many", "most"]
  d_law_row : Dfn K mg "_law_row" "_law_row" s__law_row ["_law_script"]
  d_law_taken : Dfn K mg "_law_taken" "_law_taken" s__law_taken ["_law_row_here", "_law_many"]
  d_law_whole : Dfn K mg "_law_whole" "_law_whole" s__law_whole ["_law_found"]
  d_law_list : Dfn K mg "_law_list" "_law_list" s__law_list ["_law_found", "_law_due"]
  d_law_signed : Dfn K mg "_law_signed" "_law_signed" s__law_signed ["_law_row_here", "_law_most"]
  d_law_root : Dfn K mg "_law_root" "_law_root" s__law_root ["_law_number"]
  d_law_common : Dfn K mg "_law_common" "_law_common" s__law_common ["_law_one", "_law_other"]
  d_law_made : Dfn K mg "_law_made" "_law_made" s__law_made ["_law_a", "_law_b", "_law_c"]
  d_law_sum : Dfn K mg "_law_sum" "_law_sum" s__law_sum ["_law_one", "_law_other", "_law_by"]
  d_law_product : Dfn K mg "_law_product" "_law_product" s__law_product ["_law_one", "_law_other", "_law_d"]
  d_law_quotient : Dfn K mg "_law_quotient" "_law_quotient" s__law_quotient ["_law_one", "_law_other", "_law_d"]
  d_law_below : Dfn K mg "_law_below" "_law_below" s__law_below ["_law_one", "_law_d"]
  d_law_ring : Dfn K mg "_law_ring" "_law_ring" s__law_ring ["_law_one", "_law_d"]
  d_law_why : Dfn K mg "_law_why" "_law_why" s__law_why ["_law_top", "_law_d", "_law_below_here", "_law_most"]
  d_law : Dfn K mg "law" "law" s_law ["_law_script"]
  k_Purse : Mki K mg "Purse" C.c_Purse "Purse.__init__" s_Purse___init__ ["self", "left"]
  m_Reader_part : Mdf K [C.c_Fixed, C.c_Fraction, C.c_Root, C.c_Ruled, C.c_Four, C.c_Eight] "part" "Reader.part" s_Reader_part ["self", "most"]
  m_Reader_took : Mdf K [C.c_Fixed] "took" "Reader.took" s_Reader_took ["self"]
  k_Fixed : Mki K mg "Fixed" C.c_Fixed "Fixed.__init__" s_Fixed___init__ ["self", "top", "below", "begun"]
  m_Fixed_told : Mdf K [C.c_Fixed] "told" "Fixed.told" s_Fixed_told ["self", "purse"]
  i_Leaf : Cdf K mg "Leaf" "__init__" "Leaf.__init__" s_Leaf___init__ ["self"]
  m_Leaf_told : Mdf K [C.c_Fraction, C.c_Root, C.c_Ruled] "told" "Leaf.told" s_Leaf_told ["self", "purse"]
  m_Leaf_at_end : Mdf K [C.c_Root] "at_end" "Leaf.at_end" s_Leaf_at_end ["self"]
  m_Leaf_took : Mdf K [C.c_Fraction, C.c_Root, C.c_Ruled] "took" "Leaf.took" s_Leaf_took ["self"]
  k_Fraction : Mki K mg "Fraction" C.c_Fraction "Fraction.__init__" s_Fraction___init__ ["self", "top", "below"]
  m_Fraction_at_end : Mdf K [C.c_Fraction] "at_end" "Fraction.at_end" s_Fraction_at_end ["self"]
  m_Fraction_following : Mdf K [C.c_Fraction] "following" "Fraction.following" s_Fraction_following ["self"]
  k_Root : Mki K mg "Root" C.c_Root "Root.__init__" s_Root___init__ ["self", "top", "square", "below"]
  m_Root_following : Mdf K [C.c_Root] "following" "Root.following" s_Root_following ["self"]
  k_Ruled : Mki K mg "Ruled" C.c_Ruled "Ruled.__init__" s_Ruled___init__ ["self", "parts", "ring", "steps"]
  m_Ruled_at_end : Mdf K [C.c_Ruled] "at_end" "Ruled.at_end" s_Ruled_at_end ["self"]
  m_Ruled_following : Mdf K [C.c_Ruled] "following" "Ruled.following" s_Ruled_following ["self"]
  k_Four : Mki K mg "Four" C.c_Four "Four.__init__" s_Four___init__ ["self", "numbers", "inner", "ready", "begun"]
  m_Four_took : Mdf K [C.c_Four] "took" "Four.took" s_Four_took ["self"]
  m_Four_sure : Mdf K [C.c_Four] "sure" "Four.sure" s_Four_sure ["self"]
  m_Four_told : Mdf K [C.c_Four] "told" "Four.told" s_Four_told ["self", "purse"]
  k_Eight : Mki K mg "Eight" C.c_Eight "Eight.__init__" s_Eight___init__ ["self", "numbers", "one", "other"]
  m_Eight_took : Mdf K [C.c_Eight] "took" "Eight.took" s_Eight_took ["self"]
  m_Eight_sure : Mdf K [C.c_Eight] "sure" "Eight.sure" s_Eight_sure ["self"]
  m_Eight_told : Mdf K [C.c_Eight] "told" "Eight.told" s_Eight_told ["self", "purse"]
  m_Eight_take : Mdf K [C.c_Eight] "take" "Eight.take" s_Eight_take ["self", "which", "part"]
  m_Eight_left_of : Mdf K [C.c_Eight] "left_of" "Eight.left_of" s_Eight_left_of ["self", "which"]
  n_Purse_left : NoAttr K C.c_Purse "left"
  n_Fixed_top : NoAttr K C.c_Fixed "top"
  n_Fixed_below : NoAttr K C.c_Fixed "below"
  n_Fixed_begun : NoAttr K C.c_Fixed "begun"
  n_Fraction_many : NoAttr K C.c_Fraction "many"
  n_Fraction_top : NoAttr K C.c_Fraction "top"
  n_Fraction_below : NoAttr K C.c_Fraction "below"
  n_Root_many : NoAttr K C.c_Root "many"
  n_Root_top : NoAttr K C.c_Root "top"
  n_Root_square : NoAttr K C.c_Root "square"
  n_Root_below : NoAttr K C.c_Root "below"
  n_Root_floor : NoAttr K C.c_Root "floor"
  n_Ruled_many : NoAttr K C.c_Ruled "many"
  n_Ruled_first : NoAttr K C.c_Ruled "first"
  n_Ruled_ring : NoAttr K C.c_Ruled "ring"
  n_Ruled_steps : NoAttr K C.c_Ruled "steps"
  n_Four_numbers : NoAttr K C.c_Four "numbers"
  n_Four_inner : NoAttr K C.c_Four "inner"
  n_Four_ready : NoAttr K C.c_Four "ready"
  n_Four_begun : NoAttr K C.c_Four "begun"
  n_Four_fixed : NoAttr K C.c_Four "fixed"
  n_Eight_numbers : NoAttr K C.c_Eight "numbers"
  n_Eight_inners : NoAttr K C.c_Eight "inners"
  n_Eight_many : NoAttr K C.c_Eight "many"
  n_Eight_begun : NoAttr K C.c_Eight "begun"
  n_Eight_rest : NoAttr K C.c_Eight "rest"
  x_BadTree : Xcl K mg "BadTree" C.c_BadTree
  x_NoValue : Xcl K mg "NoValue" C.c_NoValue
  x_TooLong : Xcl K mg "TooLong" C.c_TooLong
  y_PartError : mg "PartError" = some (.ref C.c_PartError)
  e_BadTree_PartError : PySem.W.exmOne K (.ref C.c_BadTree) (.ref C.c_PartError) = some true
  e_NoValue_PartError : PySem.W.exmOne K (.ref C.c_NoValue) (.ref C.c_PartError) = some true
  e_TooLong_PartError : PySem.W.exmOne K (.ref C.c_TooLong) (.ref C.c_PartError) = some true
  y_BadTree : mg "BadTree" = some (.ref C.c_BadTree)
  i_BadTree_BadTree : PySem.W.kitOne K (.ref C.c_BadTree) (.ref C.c_BadTree) = some true
  i_NoValue_BadTree : PySem.W.kitOne K (.ref C.c_NoValue) (.ref C.c_BadTree) = some false
  i_TooLong_BadTree : PySem.W.kitOne K (.ref C.c_TooLong) (.ref C.c_BadTree) = some false
  y_TooLong : mg "TooLong" = some (.ref C.c_TooLong)
  i_BadTree_TooLong : PySem.W.kitOne K (.ref C.c_BadTree) (.ref C.c_TooLong) = some false
  i_NoValue_TooLong : PySem.W.kitOne K (.ref C.c_NoValue) (.ref C.c_TooLong) = some false
  i_TooLong_TooLong : PySem.W.kitOne K (.ref C.c_TooLong) (.ref C.c_TooLong) = some true
  y_NoValue : mg "NoValue" = some (.ref C.c_NoValue)
  i_BadTree_NoValue : PySem.W.kitOne K (.ref C.c_BadTree) (.ref C.c_NoValue) = some false
  i_NoValue_NoValue : PySem.W.kitOne K (.ref C.c_NoValue) (.ref C.c_NoValue) = some true
  i_TooLong_NoValue : PySem.W.kitOne K (.ref C.c_TooLong) (.ref C.c_NoValue) = some false
  b_ValueError : mg "ValueError" = none
  i_BadTree_ValueError : PySem.W.kitOne K (.ref C.c_BadTree) (.type "ValueError") = some true
  i_NoValue_ValueError : PySem.W.kitOne K (.ref C.c_NoValue) (.type "ValueError") = some true
  i_TooLong_ValueError : PySem.W.kitOne K (.ref C.c_TooLong) (.type "ValueError") = some true
  z_BadTree : ExcC K C.c_BadTree
  z_NoValue : ExcC K C.c_NoValue
  z_TooLong : ExcC K C.c_TooLong
  g_DEEPEST : ∃ t, mg "DEEPEST" = some (.int 5 t)
  g_MOST_NUMBER : ∃ t, mg "MOST_NUMBER" = some (.int 1000000000000 t)
  g_MOST_PARTS : ∃ t, mg "MOST_PARTS" = some (.int 12 t)
  g_MOST_POWER : ∃ t, mg "MOST_POWER" = some (.int 4 t)
  t_TIMES : TupK K mg "TIMES" C.a_TIMES [1, 0, 0, 0, 0, 0, 0, 1]
  b_divmod : mg "divmod" = none
  b_abs : mg "abs" = none
  b_bool : mg "bool" = none
  b_int : mg "int" = none
  b_isinstance : mg "isinstance" = none
  b_len : mg "len" = none
  b_list : mg "list" = none
  b_max : mg "max" = none
  b_min : mg "min" = none
  b_range : mg "range" = none
  b_reversed : mg "reversed" = none
  b_str : mg "str" = none
  b_sum : mg "sum" = none
  b_tuple : mg "tuple" = none
  b_zip : mg "zip" = none
def caOf (_ : PySem.W.Frag) : CA := {}
theorem newton1 {n f q g : Int} (hf : 0 < f) (hq : n < (q + 1) * f) (hg : f + q + 1 ≤ 2 * (g + 1)) (hg0 : 0 ≤ f + q + 1) : n < (g + 1) * (g + 1) := by
  have h1 := sq_nn (f - (q + 1))
  have h2 : (f + q + 1) * (f + q + 1) ≤ (2 * (g + 1)) * (2 * (g + 1)) := Int.mul_le_mul hg hg hg0 (by omega)
  grind
theorem newton2 {n f q g : Int} (hf : 0 < f) (h : n < f * f) (hq : q * f ≤ n) (hg : 2 * g ≤ f + q) : g < f := by
  have : q < f := by
    rcases Int.lt_or_le q f with h' | h'
    · exact h'
    · have := Int.mul_le_mul_of_nonneg_right h' (Int.le_of_lt hf)
      omega
  omega
theorem root_start {n : Int} (h0 : 0 ≤ n) : n < ((2 : Int) ^ ((Builtin.Int.intBits n + 1) / 2) + 1) * (2 ^ ((Builtin.Int.intBits n + 1) / 2) + 1) := by
  have h1 := lt_bits (n := n)
  have h2 : Builtin.Int.intBits n ≤ (Builtin.Int.intBits n + 1) / 2 + (Builtin.Int.intBits n + 1) / 2 := by omega
  have h3 : 2 ^ Builtin.Int.intBits n ≤ 2 ^ ((Builtin.Int.intBits n + 1) / 2) * 2 ^ ((Builtin.Int.intBits n + 1) / 2) := by
    rw [← Nat.pow_add]
    exact Nat.pow_le_pow_right (by decide) h2
  generalize hb : (2 : Nat) ^ ((Builtin.Int.intBits n + 1) / 2) = x at h3
  have e : ((2 : Int) ^ ((Builtin.Int.intBits n + 1) / 2)) = (x : Int) := by rw [← hb]; simp
  rw [e]
  have h4 : n.natAbs < x * x := Nat.lt_of_lt_of_le h1 h3
  have h5 : n < ((x * x : Nat) : Int) := by omega
  rw [Int.natCast_mul] at h5
  have h6 : (x : Int) * x ≤ (x + 1) * (x + 1) := Int.mul_le_mul (by omega) (by omega) (by omega) (by omega)
  omega
section
variable {P : Program} {w : World} {K : PySem.W.Frag} {mg : Str → Option Value} {base : Heap} {ca : CA} {C : CT} [Seer P base]
def F_root : AF := fun ds Ω Q _ => ∃ n : Int, ds = [.int n] ∧ 0 ≤ n ∧ n < 2 ^ 300 ∧ ∀ r, 0 ≤ r → r * r ≤ n → n < (r + 1) * (r + 1) → Q (.int r) Ω
theorem c_root_below (T : Txt K mg C) : Clb P w K mg base ca 1 "root_below" F_root := by
  refine clb T.d_root_below sc_root_below (fun ds Ω Q E h => ?_) (fun f cdv A outer s H E hr => ⟨_, _, (ass_cons (as_if (at_eqI (ae_var 0) ae_int) (ass_one (as_ret ae_int)) ass_nil)
      (ass_cons (as_set 1 sc_root_below.nd (ae_shl1 ae_int (ae_fdv (div_of hr) (ae_add (ae_bits (ae_var 0)) ae_int) ae_int)))
      (ass_cons (as_while (passes_of rfl) (at_gt (ae_mul (ae_var 1) (ae_var 1)) (ae_var 0)) (ass_one (as_set 1 sc_root_below.nd (ae_fdv (div_of hr) (ae_add (ae_var 1) (ae_fdv (div_of hr) (ae_var 0) (ae_var 1))) ae_int))))
      (ass_one (as_ret (ae_var 1)))))), fun ds Ω Qa Ea h => ?_⟩)
  · obtain ⟨n, rfl, _⟩ := h
    rfl
  · obtain ⟨n, rfl, h0, h1, k⟩ := h
    walk_at "pl"
    refine ite2 (fun e => k 0 (by omega) (by omega) (by omega)) (fun e => ⟨nopy (by decide) (by decide), (Builtin.Int.intBits n + 1) / 2, ?_, ?_, ?_⟩)
    · rw [Int.fdiv_eq_ediv_of_nonneg _ (by decide)]
      omega
    · have := bits_le (n := n) (b := 300) (by omega)
      omega
    · refine ⟨fun m ρ Ω' => ∃ g : Int, ρ = [some (.int n), some (.int g)] ∧ Ω' = Ω ∧ 0 < g ∧ g < 2 ^ 400 ∧ n < (g + 1) * (g + 1) ∧ m = g.toNat, ⟨_, _, rfl, rfl, Int.pow_pos (by decide), ?_, ?_, rfl⟩, ?_⟩
      · have h2 := bits_le (n := n) (b := 300) (by omega)
        exact Int.ofNat_lt.mpr (Nat.pow_lt_pow_right (by decide) (by omega) : 2 ^ ((Builtin.Int.intBits n + 1) / 2) < 2 ^ 400)
      · exact root_start h0
      · rintro m ρ Ω' ⟨g, rfl, rfl, g0, g1, g2, rfl⟩
        walk_at "pl"
        refine ⟨mulok (a := 400) (b := 400) (by omega) (by omega) (by decide), ?_⟩
        have q1 : n.fdiv g = n / g := Int.fdiv_eq_ediv_of_nonneg _ (by omega)
        have q2 : n / g * g ≤ n := Int.ediv_mul_le _ (by omega)
        have q3 : n < (n / g + 1) * g := Int.lt_ediv_add_one_mul_self _ g0
        have q4 : 0 ≤ n / g := Int.ediv_nonneg h0 (by omega)
        refine ite2 (fun e => ⟨nopy (by omega) (by omega), nopy (by decide) (by decide), ?_⟩) (fun e => k g (by omega) (by omega) g2)
        rw [q1]
        have q5 : (g + n / g).fdiv 2 = (g + n / g) / 2 := Int.fdiv_eq_ediv_of_nonneg _ (by decide)
        rw [q5]
        have q6 : (g + n / g) / 2 < g := newton2 g0 (by omega) q2 (by omega)
        have q7 : 2 ≤ g + n / g := by
          by_cases z : 1 ≤ n / g
          · omega
          · have z' : n / g = 0 := by omega
            rw [z'] at q3
            have : 1 < g := by omega
            omega
        exact ⟨((g + n / g) / 2).toNat, by omega, by omega, by omega, newton1 g0 q3 (by omega) (by omega), rfl⟩
def F_purse (C : CT) : AF := fun ds Ω Q _ => ∃ (p : Addr) (m : Int), ds = [.o p, .int m] ∧ Ω p = some (.obj C.c_Purse []) ∧ Q .non (oset Ω p (oPurse C m))
theorem mk_Purse (T : Txt K mg C) : Mkc P w K mg base ca 1 "Purse" C.c_Purse (F_purse C) := by
  refine mkc T.k_Purse sc_Purse___init__ (fun ds Ω Q E h => ?_) (fun f cdv A outer s H E hr => ⟨_, _, (ass_one (as_asg (ae_var 1) (ag_new (ae_var 0)))), fun ds Ω Qa Ea h => ?_⟩)
  · obtain ⟨_, _, rfl, _⟩ := h
    rfl
  · obtain ⟨p, m, rfl, ho, k⟩ := h
    walk_at "pl"
    exact ⟨_, _, ho, by walk_at "nm", T.n_Purse_left, by decide, k⟩
def F_fixed (C : CT) : AF := fun ds Ω Q _ => ∃ (p : Addr) (t b : Int) (g : Bool), ds = [.o p, .int t, .int b, .bl g] ∧ Ω p = some (.obj C.c_Fixed []) ∧ Q .non (oset Ω p (oFixed C t b g))
theorem mk_Fixed (T : Txt K mg C) : Mkc P w K mg base ca 1 "Fixed" C.c_Fixed (F_fixed C) := by
  refine mkc T.k_Fixed sc_Fixed___init__ (fun ds Ω Q E h => ?_) (fun f cdv A outer s H E hr => ⟨_, _, (ass_cons (as_asg (ae_var 1) (ag_new (ae_var 0)))
      (ass_cons (as_asg (ae_var 2) (ag_new (ae_var 0)))
      (ass_one (as_asg (ae_var 3) (ag_new (ae_var 0)))))), fun ds Ω Qa Ea h => ?_⟩)
  · obtain ⟨_, _, _, _, rfl, _⟩ := h
    rfl
  · obtain ⟨p, t, b, g, rfl, ho, k⟩ := h
    walk_at "pl"
    refine ⟨_, _, ho, by walk_at "nm", T.n_Fixed_top, by decide, ?_⟩
    walk_at "pl"
    refine ⟨by walk_at "nm", T.n_Fixed_below, by decide, ?_⟩
    walk_at "pl"
    exact ⟨by walk_at "nm", T.n_Fixed_begun, by decide, k⟩
def F_leafInit (K : PySem.W.Frag) : AF := fun ds Ω Q _ => ∃ (p c : Addr), ds = [.o p] ∧ Ω p = some (.obj c []) ∧ NoAttr K c "many" ∧ Q .non (oset Ω p (.obj c [("many", .int 0)]))
theorem cf_Leaf (T : Txt K mg C) : Cfn P w K mg base ca 1 "Leaf" "__init__" (F_leafInit K) := by
  refine cfn T.i_Leaf sc_Leaf___init__ (fun ds Ω Q E h => ?_) (fun f cdv A outer s H E hr => ⟨_, _, (ass_one (as_asg ae_int (ag_new (ae_var 0)))), fun ds Ω Qa Ea h => ?_⟩)
  · obtain ⟨_, _, rfl, _⟩ := h
    rfl
  · obtain ⟨p, c, rfl, ho, na, k⟩ := h
    walk_at "pl"
    exact ⟨_, _, ho, by walk_at "nm", na, by decide, k⟩
def F_frac (C : CT) : AF := fun ds Ω Q _ => ∃ (p : Addr) (t b : Int), ds = [.o p, .int t, .int b] ∧ Ω p = some (.obj C.c_Fraction []) ∧ Q .non (oset Ω p (oFrac C 0 t b))
theorem mk_Fraction (T : Txt K mg C) : Mkc P w K mg base ca 2 "Fraction" C.c_Fraction (F_frac C) := by
  refine mkc T.k_Fraction sc_Fraction___init__ (fun ds Ω Q E h => ?_) (fun f cdv A outer s H E hr => ⟨_, _, (ass_cons (as_expr (ae_ccall (cf_Leaf T) hr (takes_of rfl rfl rfl rfl) (by omega) (aa_cons (ae_var 0) aa_nil)))
      (ass_cons (as_asg (ae_var 1) (ag_new (ae_var 0)))
      (ass_one (as_asg (ae_var 2) (ag_new (ae_var 0)))))), fun ds Ω Qa Ea h => ?_⟩)
  · obtain ⟨_, _, _, rfl, _⟩ := h
    rfl
  · obtain ⟨p, t, b, rfl, ho, k⟩ := h
    walk_at "pl"
    refine ⟨p, _, rfl, ho, T.n_Fraction_many, ?_⟩
    walk_at "pl"
    refine ⟨by walk_at "nm", T.n_Fraction_top, by decide, ?_⟩
    walk_at "pl"
    exact ⟨by walk_at "nm", T.n_Fraction_below, by decide, k⟩
def F_rootI (C : CT) : AF := fun ds Ω Q _ => ∃ (p : Addr) (t s b : Int), ds = [.o p, .int t, .int s, .int b] ∧ Ω p = some (.obj C.c_Root []) ∧ 0 ≤ s ∧ s < 2 ^ 300 ∧ ∀ f, 0 ≤ f → f * f ≤ s → s < (f + 1) * (f + 1) → Q .non (oset Ω p (oRoot C 0 t s b f))
theorem mk_Root (T : Txt K mg C) : Mkc P w K mg base ca 2 "Root" C.c_Root (F_rootI C) := by
  refine mkc T.k_Root sc_Root___init__ (fun ds Ω Q E h => ?_) (fun f cdv A outer s H E hr => ⟨_, _, (ass_cons (as_expr (ae_ccall (cf_Leaf T) hr (takes_of rfl rfl rfl rfl) (by omega) (aa_cons (ae_var 0) aa_nil)))
      (ass_cons (as_asg (ae_var 1) (ag_new (ae_var 0)))
      (ass_cons (as_asg (ae_var 2) (ag_new (ae_var 0)))
      (ass_cons (as_asg (ae_var 3) (ag_new (ae_var 0)))
      (ass_one (as_asg (ae_call (c_root_below T) hr (takes_of rfl rfl rfl rfl) (by omega) (aa_cons (ae_var 2) aa_nil)) (ag_new (ae_var 0)))))))), fun ds Ω Qa Ea h => ?_⟩)
  · obtain ⟨_, _, _, _, rfl, _⟩ := h
    rfl
  · obtain ⟨p, t, s, b, rfl, ho, s0, s1, k⟩ := h
    walk_at "pl"
    refine ⟨p, _, rfl, ho, T.n_Root_many, ?_⟩
    walk_at "pl"
    refine ⟨by walk_at "nm", T.n_Root_top, by decide, ?_⟩
    walk_at "pl"
    refine ⟨by walk_at "nm", T.n_Root_square, by decide, ?_⟩
    walk_at "pl"
    refine ⟨by walk_at "nm", T.n_Root_below, by decide, ?_⟩
    refine ⟨s, rfl, s0, s1, fun f f0 f1 f2 => ?_⟩
    walk_at "pl"
    exact ⟨by walk_at "nm", T.n_Root_floor, by decide, k f f0 f1 f2⟩
def F_ruledI (C : CT) : AF := fun ds Ω Q _ => ∃ (p : Addr) (ps ring steps : List Int), ds = [.o p, dtup ps, dtup ring, dtup steps] ∧ Ω p = some (.obj C.c_Ruled []) ∧ Q .non (oset Ω p (oRuled C 0 ps ring steps))
theorem mk_Ruled (T : Txt K mg C) : Mkc P w K mg base ca 2 "Ruled" C.c_Ruled (F_ruledI C) := by
  refine mkc T.k_Ruled sc_Ruled___init__ (fun ds Ω Q E h => ?_) (fun f cdv A outer s H E hr => ⟨_, _, (ass_cons (as_expr (ae_ccall (cf_Leaf T) hr (takes_of rfl rfl rfl rfl) (by omega) (aa_cons (ae_var 0) aa_nil)))
      (ass_cons (as_asg (ae_var 1) (ag_new (ae_var 0)))
      (ass_cons (as_asg (ae_var 2) (ag_new (ae_var 0)))
      (ass_one (as_asg (ae_var 3) (ag_new (ae_var 0))))))), fun ds Ω Qa Ea h => ?_⟩)
  · obtain ⟨_, _, _, _, rfl, _⟩ := h
    rfl
  · obtain ⟨p, ps, ring, steps, rfl, ho, k⟩ := h
    walk_at "pl"
    refine ⟨p, _, rfl, ho, T.n_Ruled_many, ?_⟩
    walk_at "pl"
    refine ⟨by walk_at "nm", T.n_Ruled_first, by decide, ?_⟩
    walk_at "pl"
    refine ⟨by walk_at "nm", T.n_Ruled_ring, by decide, ?_⟩
    walk_at "pl"
    exact ⟨by walk_at "nm", T.n_Ruled_steps, by decide, k⟩
def F_fracEnd (C : CT) : AF := fun ds Ω Q _ => ∃ (p : Addr) (k t b : Int), ds = [.o p] ∧ Ω p = some (oFrac C k t b) ∧ Q (.bl (decide (b = 0))) Ω
theorem m_fracEnd (T : Txt K mg C) : ∀ D ∈ [C.c_Fraction], Mth P w K mg base ca 1 D "at_end" (F_fracEnd C) := by
  refine mth T.m_Fraction_at_end sc_Fraction_at_end (fun ds Ω Q E h => ?_) (fun f cdv A outer s H E hr => ⟨_, _, (ass_one (as_ret (ae_eqI (ae_fld 2 (ae_var 0)) ae_int))), fun ds Ω Qa Ea h => ?_⟩)
  · obtain ⟨_, _, _, _, rfl, _⟩ := h
    rfl
  · obtain ⟨p, k, t, b, rfl, ho, q⟩ := h
    walk_at "pl"
    simp only [ho]
    walk_at "pl"
    exact q
def F_noEnd : AF := fun ds Ω Q _ => ∃ p : Addr, ds = [.o p] ∧ Q (.bl false) Ω
theorem m_rootEnd (T : Txt K mg C) : ∀ D ∈ [C.c_Root], Mth P w K mg base ca 1 D "at_end" F_noEnd := by
  refine mth T.m_Leaf_at_end sc_Leaf_at_end (fun ds Ω Q E h => ?_) (fun f cdv A outer s H E hr => ⟨_, _, (ass_one (as_ret ae_bl)), fun ds Ω Qa Ea h => ?_⟩)
  · obtain ⟨_, rfl, _⟩ := h
    rfl
  · obtain ⟨p, rfl, q⟩ := h
    walk_at "pl"
    exact q
def F_fracNext (C : CT) : AF := fun ds Ω Q _ => ∃ (p : Addr) (k t b : Int), ds = [.o p] ∧ Ω p = some (oFrac C k t b) ∧ b ≠ 0 ∧ Sm t ∧ Sm b ∧ Q (.int (t.fdiv b)) (oset Ω p (oFrac C k b (t - t.fdiv b * b)))
theorem sm_nopy {i j : Int} (h : j ≠ 0) (_ : Sm j) : NoPy i j := h
theorem sm_mul {i j : Int} (h : Sm i) (hj : Sm j) : IntMulOk i j := mulok h hj (by decide)
theorem sm_fdiv {i j : Int} (h : Sm i) : Sm (i.fdiv j) := Nat.lt_of_le_of_lt fdiv_le h
theorem m_fracNext (T : Txt K mg C) : ∀ D ∈ [C.c_Fraction], Mth P w K mg base ca 1 D "following" (F_fracNext C) := by
  refine mth T.m_Fraction_following sc_Fraction_following (fun ds Ω Q E h => ?_) (fun f cdv A outer s H E hr => ⟨_, _, (ass_cons (as_set 1 sc_Fraction_following.nd (ae_fdv (div_of hr) (ae_fld 1 (ae_var 0)) (ae_fld 2 (ae_var 0))))
      (ass_cons (as_asg (ae_tup (aa_cons (ae_fld 2 (ae_var 0)) (aa_cons (ae_sub (ae_fld 1 (ae_var 0)) (ae_mul (ae_var 1) (ae_fld 2 (ae_var 0)))) aa_nil))) (ag_tupG (n := 2) rfl (agl_cons (ag_fld 1 (ae_var 0)) (agl_cons (ag_fld 2 (ae_var 0)) agl_nil))))
      (ass_one (as_ret (ae_var 1))))), fun ds Ω Qa Ea h => ?_⟩)
  · obtain ⟨_, _, _, _, rfl, _⟩ := h
    rfl
  · obtain ⟨p, k, t, b, rfl, ho, b0, ht, hb, q⟩ := h
    walk_at "pl"
    simp only [ho]
    walk_at "pl"
    exact ⟨sm_nopy b0 hb, sm_mul (sm_fdiv ht) hb, by decide, by decide, by decide, q⟩
def F_rootNext (C : CT) : AF := fun ds Ω Q _ => ∃ (p : Addr) (k t s b f q t' : Int), ds = [.o p] ∧ Ω p = some (oRoot C k t s b f) ∧ b ≠ 0 ∧ Sm t ∧ Sm s ∧ Sm b ∧ Sm f ∧ q = (t + f + (if b < 0 then 1 else 0)).fdiv b ∧ t' = q * b - t ∧ Sm t' ∧ Q (.int q) (oset Ω p (oRoot C k t' s ((s - t' * t').fdiv b) f))
theorem m_rootNext (T : Txt K mg C) : ∀ D ∈ [C.c_Root], Mth P w K mg base ca 1 D "following" (F_rootNext C) := by
  refine mth T.m_Root_following sc_Root_following (fun ds Ω Q E h => ?_) (fun f cdv A outer s H E hr => ⟨_, _, (ass_cons (as_set 1 sc_Root_following.nd (ae_fdv (div_of hr) (ae_add (ae_add (ae_fld 1 (ae_var 0)) (ae_fld 4 (ae_var 0))) (ae_intB rfl T.b_int (ae_lt (ae_fld 3 (ae_var 0)) ae_int))) (ae_fld 3 (ae_var 0))))
      (ass_cons (as_asg (ae_sub (ae_mul (ae_var 1) (ae_fld 3 (ae_var 0))) (ae_fld 1 (ae_var 0))) (ag_fld 1 (ae_var 0)))
      (ass_cons (as_asg (ae_fdv (div_of hr) (ae_sub (ae_fld 2 (ae_var 0)) (ae_mul (ae_fld 1 (ae_var 0)) (ae_fld 1 (ae_var 0)))) (ae_fld 3 (ae_var 0))) (ag_fld 3 (ae_var 0)))
      (ass_one (as_ret (ae_var 1)))))), fun ds Ω Qa Ea h => ?_⟩)
  · obtain ⟨_, _, _, _, _, _, _, _, rfl, _⟩ := h
    rfl
  · obtain ⟨p, k, t, s, b, f, q, t', rfl, ho, b0, ht, hs, hb, hf, eq, et, ht', kk⟩ := h
    walk_at "pl"
    simp only [ho]
    walk_at "pl"
    rw [← eq, ← et]
    have hq : q.natAbs < 2 ^ 290002 := by
      have h1 : q.natAbs ≤ (t + f + (if b < 0 then 1 else 0)).natAbs := by rw [eq]; exact fdiv_le
      have h2 : t.natAbs < 2 ^ 290000 := ht
      have h3 : f.natAbs < 2 ^ 290000 := hf
      have h4 : (2 : Nat) ^ 290002 = 2 ^ 290000 * 4 := by rw [show 290002 = 290000 + 2 from rfl, Nat.pow_add]
      generalize (2 : Nat) ^ 290002 = X at h4 ⊢
      generalize (2 : Nat) ^ 290000 = Y at h2 h3 h4
      split at h1 <;> omega
    exact ⟨sm_nopy b0 hb, mulok hq hb (by decide), by decide, sm_mul ht' ht', sm_nopy b0 hb, by decide, kk⟩
def F_ruEnd (C : CT) : AF := fun ds Ω Q _ => ∃ (p : Addr) (k : Int) (ps ring steps : List Int), ds = [.o p] ∧ Ω p = some (oRuled C k ps ring steps) ∧ Q (.bl (decide (ring = [] ∧ ps.length ≤ k))) Ω
theorem m_ruEnd (T : Txt K mg C) : ∀ D ∈ [C.c_Ruled], Mth P w K mg base ca 1 D "at_end" (F_ruEnd C) := by
  refine mth T.m_Ruled_at_end sc_Ruled_at_end (fun ds Ω Q E h => ?_) (fun f cdv A outer s H E hr => ⟨_, _, (ass_one (as_ret (ae_and (ae_eqD hr.units (ae_fld 2 (ae_var 0)) (ae_tup aa_nil)) (ae_one (ae_ge (ae_fld 0 (ae_var 0)) (ae_len rfl T.b_len (ae_fld 1 (ae_var 0)))))))), fun ds Ω Qa Ea h => ?_⟩)
  · obtain ⟨_, _, _, _, _, rfl, _⟩ := h
    rfl
  · obtain ⟨p, k, ps, ring, steps, rfl, ho, kk⟩ := h
    walk_at "pl"
    simp only [ho]
    walk_at "pl"
    refine ⟨Nat.zero_le _, fEq_nil ⟨_, rfl, ?_⟩⟩
    simp only [Bool.false_eq_true, if_false]
    by_cases hr : ring = []
    · rw [decide_eq_true hr, if_pos rfl]
      simp only [ho]
      walk_at "pl"
      rw [List.length_map]
      have e : (decide (ring = [] ∧ (ps.length : Int) ≤ k)) = decide ((ps.length : Int) ≤ k) := by simp only [hr, true_and]
      rw [e] at kk
      exact kk
    · rw [decide_eq_false hr, if_neg (by decide)]
      have e : (decide (ring = [] ∧ (ps.length : Int) ≤ k)) = false := by simp only [hr, false_and]; rfl
      rw [e] at kk
      exact kk
def F_ruNext (C : CT) : AF := fun ds Ω Q _ => ∃ (p : Addr) (k : Nat) (ps ring steps : List Int), ds = [.o p] ∧ Ω p = some (oRuled C ((k : Int) + 1) ps ring steps) ∧ (ring = [] → k < ps.length) ∧ steps.length = ring.length ∧ k < 2 ^ 60 ∧ ps.length < 2 ^ 60 ∧ ring.length < 2 ^ 60 ∧ (∀ n ∈ ring ++ steps, Sm n) ∧ Q (.int (ruV k ps ring steps)) Ω
theorem m_ruNext (T : Txt K mg C) : ∀ D ∈ [C.c_Ruled], Mth P w K mg base ca 1 D "following" (F_ruNext C) := by
  refine mth T.m_Ruled_following sc_Ruled_following (fun ds Ω Q E h => ?_) (fun f cdv A outer s H E hr => ⟨_, _, (ass_cons (as_set 1 sc_Ruled_following.nd (ae_sub (ae_fld 0 (ae_var 0)) ae_int))
      (ass_cons (as_if (at_lt (ae_var 1) (ae_len rfl T.b_len (ae_fld 1 (ae_var 0)))) (ass_one (as_ret (ae_ix (ae_fld 1 (ae_var 0)) (ae_var 1)))) ass_nil)
      (ass_cons (as_set 1 sc_Ruled_following.nd (ae_sub (ae_var 1) (ae_len rfl T.b_len (ae_fld 1 (ae_var 0)))))
      (ass_cons (as_set 2 sc_Ruled_following.nd (ae_fdv (div_of hr) (ae_var 1) (ae_len rfl T.b_len (ae_fld 2 (ae_var 0)))))
      (ass_one (as_ret (ae_add (ae_ix (ae_fld 2 (ae_var 0)) (ae_mod (ae_var 1) (ae_len rfl T.b_len (ae_fld 2 (ae_var 0))))) (ae_mul (ae_var 2) (ae_ix (ae_fld 3 (ae_var 0)) (ae_mod (ae_var 1) (ae_len rfl T.b_len (ae_fld 2 (ae_var 0))))))))))))), fun ds Ω Qa Ea h => ?_⟩)
  · obtain ⟨_, _, _, _, _, rfl, _⟩ := h
    rfl
  · obtain ⟨p, k, ps, ring, steps, rfl, ho, h1, h2, h3, h4, h5, h6, kk⟩ := h
    walk_at "pl"
    simp only [ho]
    walk_at "pl"
    simp only [List.length_map]
    unfold ruV at kk
    have e0 : (k : Int) + 1 - 1 = k := by omega
    rw [e0]
    refine ite2 (fun e => ?_) (fun e => ?_)
    · have e' : k < ps.length := by omega
      rw [if_pos e'] at kk
      exact ⟨_, getD_at e' rfl, kk⟩
    · have e' : ¬ k < ps.length := by omega
      rw [if_neg e'] at kk
      have hr : 0 < ring.length := List.length_pos_iff.mpr fun z => e' (h1 z)
      have e1 : (k : Int) - ps.length = ((k - ps.length : Nat) : Int) := by omega
      have hm : (k - ps.length) % ring.length < ring.length := Nat.mod_lt _ hr
      have f1 : ((k - ps.length : Nat) : Int).fmod (ring.length : Int) = (((k - ps.length) % ring.length : Nat) : Int) := by rw [Int.fmod_eq_emod_of_nonneg _ (by omega)]; rfl
      have f2 : ((k - ps.length : Nat) : Int).fdiv (ring.length : Int) = (((k - ps.length) / ring.length : Nat) : Int) := by rw [Int.fdiv_eq_ediv_of_nonneg _ (by omega)]; rfl
      rw [e1, f1, f2]
      have hs : Sm (steps.getD ((k - ps.length) % ring.length) 0) := h6 _ (List.mem_append_right _ (getD_mem (by rw [h2]; exact hm)))
      have hd : (k - ps.length) / ring.length ≤ k - ps.length := Nat.div_le_self _ _
      generalize (k - ps.length) / ring.length = qq at hd kk ⊢
      exact ⟨nopy (by omega) (Nat.lt_of_lt_of_le (m := 2 ^ 60) (by omega) (Nat.pow_le_pow_right (by decide) (by decide))), by omega, _, getD_at hm rfl, by omega, _, getD_at (by rw [h2]; exact hm) rfl, _, rfl, mulok_l (by omega) (by omega), _, rfl, kk⟩
/-- all but S and pu stand -/
def Fr (S : List Addr) (pu : Addr) (Ω Ω' : Om) : Prop := ∀ b, b ∉ S → b ≠ pu → Ω b ≠ none → Ω' b = Ω b
/-- a four keeps its inner reader -/
def Inn (kd : Kd) (p : Addr) (Ω Ω' : Om) : Prop := kd = .four → ∃ c fs c' fs', Ω p = some (.obj c fs) ∧ Ω' p = some (.obj c' fs') ∧ fs'[1]? = fs[1]?
def F_told (C : CT) (kd : Kd) (L : Nat) : AF := fun ds Ω Q E => ∃ (p pu : Addr) (r : R) (S : List Addr) (n : Nat) (m : Int) (r' : R) (m' : Int) (ans : Ans), ds = [.o p, .o pu] ∧ r.kd = kd ∧ r.lv ≤ L ∧ RdO C Ω p r S ∧ Ω pu = some (oPurse C m) ∧ pu ∉ S ∧ Told n r m r' m' ans ∧
  ∀ (Ω' : Om) (S' : List Addr), RdO C Ω' p r' S' → Ω' pu = some (oPurse C m') → Fr S pu Ω Ω' → (∀ b ∈ S', b ∈ S ∨ Ω b = none) → Inn kd p Ω Ω' → ans.ok C Q E Ω'
theorem told_len {C : CT} {kd : Kd} {L : Nat} : ∀ ds Ω Q E, F_told C kd L ds Ω Q E → ds.length = (["self", "purse"] : List Str).length := by
  rintro ds Ω Q E ⟨_, _, _, _, _, _, _, _, _, rfl, _⟩
  rfl
theorem fr_set {S : List Addr} {pu p : Addr} {Ω : Om} {o : AO} (h : p ∈ S) : Fr S pu Ω (oset Ω p o) := fun b hb _ _ => oset_ne fun e => hb (e ▸ h)
theorem fr_refl {S : List Addr} {pu : Addr} {Ω : Om} : Fr S pu Ω Ω := fun _ _ _ _ => rfl
theorem m_fixedTold (T : Txt K mg C) : ∀ D ∈ [C.c_Fixed], Mth P w K mg base ca 1 D "told" (F_told C .fixed 1) := by
  refine mth T.m_Fixed_told sc_Fixed_told told_len (fun f cdv A outer s H E hr => ⟨_, _, (ass_cons (as_if (at_eqI (ae_fld 1 (ae_var 0)) ae_int) (ass_cons (as_if (at_not (at_val (ae_fld 2 (ae_var 0)))) (ass_one (as_raise rfl (takes_of rfl rfl rfl rfl) T.x_NoValue)) ass_nil)
      (ass_one (as_ret (ae_tup (aa_cons ae_str aa_nil))))) ass_nil)
      (ass_cons (as_set 2 sc_Fixed_told.nd (ae_fdv (div_of hr) (ae_fld 0 (ae_var 0)) (ae_fld 1 (ae_var 0))))
      (ass_cons (as_asg ae_bl (ag_fld 2 (ae_var 0)))
      (ass_cons (as_asg (ae_tup (aa_cons (ae_fld 1 (ae_var 0)) (aa_cons (ae_sub (ae_fld 0 (ae_var 0)) (ae_mul (ae_var 2) (ae_fld 1 (ae_var 0)))) aa_nil))) (ag_tupG (n := 2) rfl (agl_cons (ag_fld 0 (ae_var 0)) (agl_cons (ag_fld 1 (ae_var 0)) agl_nil))))
      (ass_one (as_ret (ae_tup (aa_cons ae_str (aa_cons (ae_var 2) aa_nil))))))))), fun ds Ω Qa Ea h => ?_⟩)
  obtain ⟨p, pu, r, S, n, m, r', m', ans, rfl, hk, hl, hR, hp, hn, ht, k⟩ := h
  cases hR with
  | fixed ho =>
    rename_i t b g
    walk_at "pl"
    simp only [ho]
    walk_at "pl"
    cases ht with
    | fxEnd => exact ⟨by decide, k _ _ (.fixed ho) hp fr_refl (fun b hb => .inl hb) nofun⟩
    | fxNo => exact k _ _ (.fixed ho) hp fr_refl (fun b hb => .inl hb) nofun
    | fxPart b0 h1 h2 =>
      rw [if_neg b0]
      have hne : pu ≠ p := fun e => hn (by simp [e])
      exact ⟨sm_nopy b0 h2, by decide, sm_mul (sm_fdiv h1) h2, by decide, by decide, by decide, by decide, k _ _ (.fixed oset_same) ((oset_ne hne).trans hp) (fr_set (by simp)) (fun b hb => .inl hb) nofun⟩
  | _ => cases hk
theorem fr_two {S : List Addr} {pu p : Addr} {Ω : Om} {o u : AO} (h : p ∈ S) : Fr S pu Ω (oset (oset Ω pu u) p o) := fun b hb hp _ => by rw [oset_ne (fun e => hb (by rw [e]; exact h)), oset_ne hp]
theorem m_leafTold (T : Txt K mg C) : ∀ D ∈ [C.c_Fraction, C.c_Root, C.c_Ruled], Mth P w K mg base ca 2 D "told" (F_told C .leaf 3) := by
  refine mth T.m_Leaf_told sc_Leaf_told told_len (fun f cdv A outer s H E hr => ⟨_, _, (ass_cons (as_if (at_val (ae_meth0 (k := 1) hr (takes_of rfl rfl rfl rfl) (by omega) (ae_var 0))) (ass_one (as_ret (ae_tup (aa_cons ae_str aa_nil)))) ass_nil)
      (ass_cons (as_if (at_eqI (ae_fld 0 (ae_var 1)) ae_int) (ass_one (as_ret (ae_tup (aa_cons ae_str aa_nil)))) ass_nil)
      (ass_cons (as_asg (ae_sub (ae_fld 0 (ae_var 1)) ae_int) (ag_fld 0 (ae_var 1)))
      (ass_cons (as_asg (ae_add (ae_fld 0 (ae_var 0)) ae_int) (ag_fld 0 (ae_var 0)))
      (ass_one (as_ret (ae_tup (aa_cons ae_str (aa_cons (ae_meth0 (k := 1) hr (takes_of rfl rfl rfl rfl) (by omega) (ae_var 0)) aa_nil))))))))), fun ds Ω Qa Ea h => ?_⟩)
  obtain ⟨p, pu, r, S, n, m, r', m', ans, rfl, hk, hl, hR, hp, hn, ht, k⟩ := h
  cases hR with
  | frac ho =>
    rename_i kk t b
    have hne : pu ≠ p := fun e => hn (by simp [e])
    have hne' : p ≠ pu := Ne.symm hne
    walk_at "pl"
    refine ⟨_, _, ho, by walk_at "nm", F_fracEnd C, m_fracEnd T _ (by simp), p, kk, t, b, rfl, ho, _, rfl, ?_⟩
    cases ht with
    | frEnd => exact ⟨by decide, k _ _ (.frac ho) hp fr_refl (fun b hb => .inl hb) nofun⟩
    | frWait b0 =>
      rw [if_neg (by simp [b0])]
      simp only [hp]
      walk_at "pl"
      exact ⟨by decide, k _ _ (.frac ho) hp fr_refl (fun b hb => .inl hb) nofun⟩
    | frPart b0 m0 h1 h2 =>
      rw [if_neg (by simp [b0])]
      simp only [hp]
      walk_at "pl"
      rw [if_neg m0]
      refine ⟨by decide, ?_⟩
      simp only [oset_ne hne', ho]
      walk_at "pl"
      refine ⟨by decide, by decide, F_fracNext C, m_fracNext T _ (by simp), p, kk + 1, t, b, rfl, oset_same, b0, h1, h2, by decide, ?_⟩
      rw [oset_oset]
      exact k _ _ (.frac oset_same) ((oset_ne hne).trans oset_same) (fr_two (by simp)) (fun b hb => .inl hb) nofun
  | root ho =>
    rename_i kk t s' b f'
    have hne : pu ≠ p := fun e => hn (by simp [e])
    have hne' : p ≠ pu := Ne.symm hne
    walk_at "pl"
    refine ⟨_, _, ho, by walk_at "nm", F_noEnd, m_rootEnd T _ (by simp), p, rfl, _, rfl, ?_⟩
    rw [if_neg (by decide)]
    simp only [hp]
    walk_at "pl"
    cases ht with
    | rtWait => exact ⟨by decide, k _ _ (.root ho) hp fr_refl (fun b hb => .inl hb) nofun⟩
    | rtPart m0 b0 h1 h2 h3 h4 h5 h6 h7 =>
      rename_i q t'
      rw [if_neg m0]
      refine ⟨by decide, ?_⟩
      simp only [oset_ne hne', ho]
      walk_at "pl"
      refine ⟨by decide, by decide, F_rootNext C, m_rootNext T _ (by simp), p, kk + 1, t, s', b, f', q, t', rfl, oset_same, b0, h1, h2, h3, h4, h5, h6, h7, by decide, ?_⟩
      rw [oset_oset]
      exact k _ _ (.root oset_same) ((oset_ne hne).trans oset_same) (fr_two (by simp)) (fun b hb => .inl hb) nofun
  | ruled ho =>
    rename_i kk ps ring steps
    have hne : pu ≠ p := fun e => hn (by simp [e])
    have hne' : p ≠ pu := Ne.symm hne
    walk_at "pl"
    refine ⟨_, _, ho, by walk_at "nm", F_ruEnd C, m_ruEnd T _ (by simp), p, kk, ps, ring, steps, rfl, ho, _, rfl, ?_⟩
    cases ht with
    | ruEnd h1 =>
      rw [if_pos (by simp; omega)]
      exact ⟨by decide, k _ _ (.ruled ho) hp fr_refl (fun b hb => .inl hb) nofun⟩
    | ruWait h1 =>
      rw [if_neg (by simp; intro z; have := h1 z; omega)]
      simp only [hp]
      walk_at "pl"
      exact ⟨by decide, k _ _ (.ruled ho) hp fr_refl (fun b hb => .inl hb) nofun⟩
    | ruPart h1 m0 h2 h3 h4 h5 h6 =>
      rw [if_neg (by simp; intro z; have := h1 z; omega)]
      simp only [hp]
      walk_at "pl"
      rw [if_neg m0]
      refine ⟨by decide, ?_⟩
      simp only [oset_ne hne', ho]
      walk_at "pl"
      refine ⟨by decide, by decide, F_ruNext C, m_ruNext T _ (by simp), p, kk, ps, ring, steps, rfl, oset_same, h1, h2, h3, h4, h5, h6, by decide, ?_⟩
      exact k _ _ (.ruled oset_same) ((oset_ne hne).trans oset_same) (fr_two (by simp)) (fun b hb => .inl hb) nofun
  | _ => cases hk
structure Tolds (P : Program) (w : World) (K : PySem.W.Frag) (mg : Str → Option Value) (base : Heap) (ca : CA) (C : CT) (L : Nat) : Prop where
  all : ∀ kd, ∀ D ∈ C.cls kd, Mth P w K mg base ca L D "told" (F_told C kd L)
theorem F_told_leaf {C : CT} {L M : Nat} (hL : 3 ≤ L) : ∀ ds Ω Q E, F_told C .leaf M ds Ω Q E → F_told C .leaf L ds Ω Q E := by
  rintro ds Ω Q E ⟨p, pu, r, S, n, m, r', m', ans, e, hk, hl, z⟩
  exact ⟨p, pu, r, S, n, m, r', m', ans, e, hk, by rw [R.lv_leaf hk]; omega, z⟩
theorem F_told_fixed {C : CT} {L M : Nat} (hL : 1 ≤ L) : ∀ ds Ω Q E, F_told C .fixed M ds Ω Q E → F_told C .fixed L ds Ω Q E := by
  rintro ds Ω Q E ⟨p, pu, r, S, n, m, r', m', ans, e, hk, hl, z⟩
  exact ⟨p, pu, r, S, n, m, r', m', ans, e, hk, by rw [R.lv_fixed hk]; omega, z⟩
theorem tolds3 (T : Txt K mg C) : Tolds P w K mg base ca C 3 := by
  refine ⟨fun kd D hD => ?_⟩
  cases kd with
  | fixed => exact ((m_fixedTold T D hD).imp (F_told_fixed (by decide))).mono (by decide)
  | leaf => exact ((m_leafTold T D hD).imp (F_told_leaf (by decide))).mono (by decide)
  | four => exact mth_none T.m_Four_told (fun ds Ω Q E ⟨p, pu, r, S, n, m, r', m', ans, e, hk, hl, z⟩ => by have := R.lv_four hk; omega) D hD
  | eight => exact mth_none T.m_Eight_told (fun ds Ω Q E ⟨p, pu, r, S, n, m, r', m', ans, e, hk, hl, z⟩ => by have := R.lv_eight hk; omega) D hD
def F_part (C : CT) (L : Nat) : AF := fun ds Ω Q E => ∃ (p : Addr) (r : R) (S : List Addr) (n : Nat) (m : Int) (r' : R) (m' : Int) (ans : Ans), ds = [.o p, .int m] ∧ r.lv ≤ L ∧ RdO C Ω p r S ∧ Told n r m r' m' ans ∧
  ∀ (Ω' : Om) (S' : List Addr), RdO C Ω' p r' S' → (∀ b, b ∉ S → Ω b ≠ none → Ω' b = Ω b) → (∀ b ∈ S', b ∈ S ∨ Ω b = none) → ans.ok C Q E Ω'
theorem m_part (T : Txt K mg C) {L : Nat} (tl : Tolds P w K mg base ca C L) : ∀ D ∈ [C.c_Fixed, C.c_Fraction, C.c_Root, C.c_Ruled, C.c_Four, C.c_Eight], Mth P w K mg base ca (L + 2 + 1) D "part" (F_part C L) := by
  refine mth T.m_Reader_part sc_Reader_part (fun ds Ω Q E h => ?_) (fun f cdv A outer s H E hr => ⟨_, _, (ass_one (as_ret (ae_meth (k := L) hr (takes_of rfl rfl rfl rfl) (by omega) (ae_var 0) (aa_cons (ae_make (mk_Purse T) hr (takes_of rfl rfl rfl rfl) (by omega) (aa_cons (ae_var 1) aa_nil)) aa_nil)))), fun ds Ω Qa Ea h => ?_⟩)
  · obtain ⟨_, _, _, _, _, _, _, _, rfl, _⟩ := h
    rfl
  · obtain ⟨p, r, S, n, m, r', m', ans, rfl, hl, hR, ht, k⟩ := h
    obtain ⟨c, fs, ho, hm, hc⟩ := hR.obj
    walk_at "pl"
    refine ⟨c, fs, ho, hm _ (.inl rfl), F_told C r.kd L, tl.all r.kd c hc, fun pu hpu => ⟨pu, m, rfl, oset_same, rfl, ?_⟩⟩
    have hS : ∀ b ∈ S, b ≠ pu := fun b hb e => hR.there b hb (by rw [e]; exact hpu)
    rw [oset_oset]
    refine ⟨p, pu, r, S, n, m, r', m', ans, rfl, rfl, hl, hR.keep fun b hb => oset_ne (hS b hb), oset_same, fun z => hS pu z rfl, ht, fun Ω' S' hR' hp' fr fs' _ => ?_⟩
    have fr' : ∀ b, b ∉ S → Ω b ≠ none → Ω' b = Ω b := fun b hb hn => by
      have hne : b ≠ pu := fun e => hn (by rw [e]; exact hpu)
      rw [fr b hb hne (by rw [oset_ne hne]; exact hn), oset_ne hne]
    have q := k Ω' S' hR' fr' fun b hb => (fs' b hb).imp id fun z => by
      by_cases e : b = pu
      · rw [e]; exact hpu
      · rwa [oset_ne e] at z
    cases ans <;> exact q
def F_took (C : CT) (r : R → Prop) : AF := fun ds Ω Q _ => ∃ (p : Addr) (x : R) (S : List Addr), ds = [.o p] ∧ RdO C Ω p x S ∧ r x ∧ Q (.int x.tk) Ω
theorem m_leafTook (T : Txt K mg C) : ∀ D ∈ [C.c_Fraction, C.c_Root, C.c_Ruled], Mth P w K mg base ca 1 D "took" (F_took C fun r => r.kd = .leaf) := by
  refine mth T.m_Leaf_took sc_Leaf_took (fun ds Ω Q E h => ?_) (fun f cdv A outer s H E hr => ⟨_, _, (ass_one (as_ret (ae_fld 0 (ae_var 0)))), fun ds Ω Qa Ea h => ?_⟩)
  · obtain ⟨_, _, _, rfl, _⟩ := h
    rfl
  · obtain ⟨p, x, S, rfl, hR, hk, k⟩ := h
    cases hR with
    | frac ho =>
      walk_at "pl"
      simp only [ho]
      walk_at "pl"
      exact k
    | root ho =>
      walk_at "pl"
      simp only [ho]
      walk_at "pl"
      exact k
    | ruled ho =>
      walk_at "pl"
      simp only [ho]
      walk_at "pl"
      exact k
    | _ => cases hk
def F_must (C : CT) : AF := fun ds Ω Q E => ∃ b : Bool, ds = [.bl b] ∧ (if b = true then Q .non Ω else E (.ref C.c_BadTree) Ω)
theorem c_must (T : Txt K mg C) : Clb P w K mg base ca 1 "must" (F_must C) := by
  refine clb T.d_must sc_must (fun ds Ω Q E h => ?_) (fun f cdv A outer s H E hr => ⟨_, _, (ass_one (as_if (at_not (at_val (ae_var 0))) (ass_one (as_raise rfl (takes_of rfl rfl rfl rfl) T.x_BadTree)) ass_nil)), fun ds Ω Qa Ea h => ?_⟩)
  · obtain ⟨_, rfl, _⟩ := h
    rfl
  · obtain ⟨b, rfl, k⟩ := h
    walk_at "pl"
    cases b <;> exact k
def optD : Option Int → D
  | none => .non
  | some q => .int q
def cD (c : Int × Int) : D := .tup [.int c.1, .int c.2]
theorem seq_cD {Ω : Om} {c : Int × Int} : (cD c).seq Ω = some [.int c.1, .int c.2] := rfl
def Bg (x : Int) : Prop := x.natAbs < 2 ^ 290400
theorem compL_map {α : Type} {g : AG} {c : ATT} {re : ATE} {vs : List Nat} {Wa : AW} {ρ : En} {Q : AQ} (em f : α → D) (I : Om → Prop) : ∀ (xs : List α) (acc : List D) (Ω : Om), I Ω → acc.length + xs.length ≤ 100000 →
    (∀ x ∈ xs, ∀ (Ω' : Om) (R : AQ) (Z : Om → Prop), I Ω' → (∀ Ω'', I Ω'' → R (f x) Ω'') → g (em x) (wipeA ρ vs) Ω' fun ρ1 Ω1 => c Wa ρ1 Ω1 fun k Ω2 => if k = true then re Wa ρ1 Ω2 R else Z Ω2) →
    (∀ Ω', I Ω' → Q (.lst (acc ++ xs.map f)) Ω') → compL g c re vs (xs.map em) acc Wa ρ Ω Q
  | [], acc, Ω, i, _, _, k => by
    have := k Ω i
    rw [List.map_nil, List.append_nil] at this
    exact this
  | x :: xs, acc, Ω, i, hl, h, k => h x List.mem_cons_self Ω _ _ i fun Ω' i' => ⟨by rw [List.length_cons] at hl; exact small1000' (by omega), by
    refine compL_map em f I xs (acc ++ [f x]) Ω' i' (by rw [List.length_append, List.length_singleton]; rw [List.length_cons] at hl; omega) (fun y hy => h y (List.mem_cons_of_mem _ hy)) fun Ω'' i'' => ?_
    rw [List.append_assoc]
    exact k Ω'' i''⟩
def F_below : AF := fun ds Ω Q _ => ∃ (c0 : Int × Int) (cs : List (Int × Int)), ds = [.lst ((c0 :: cs).map cD)] ∧ cs.length ≤ 3 ∧ (∀ c ∈ c0 :: cs, Bg c.1 ∧ Bg c.2) ∧ Q (optD (belowAll (c0 :: cs))) Ω
def P_b1 (c0 : Int × Int) (cs : List (Int × Int)) (Ω : Om) : List D → En → Om → Prop := fun us ρ Ω' => ∃ (ds dn : List (Int × Int)) (z1 z2 : Option D), us = ds.map cD ∧ dn ++ ds = c0 :: cs ∧ (∀ c ∈ dn, 0 < c.2 * c0.2) ∧ Ω' = Ω ∧ ρ = [some (.lst ((c0 :: cs).map cD)), z1, z2, none, none]
def P_b2 (c0 : Int × Int) (cs : List (Int × Int)) (l : Int) (Ω : Om) : List D → En → Om → Prop := fun us ρ Ω' => ∃ (ds dn : List (Int × Int)) (z1 z2 z3 : Option D), us = ds.map cD ∧ dn ++ ds = c0 :: cs ∧ belowRest l c0 (c0 :: cs) = belowRest l c0 ds ∧ Ω' = Ω ∧ ρ = [some (.lst ((c0 :: cs).map cD)), z1, z2, some (.int l), z3]
theorem bg_mul {i j : Int} (h : Bg i) (hj : Bg j) : IntMulOk i j := mulok h hj (by decide)
theorem bg_nopy {i j : Int} (h : j ≠ 0) (_ : Bg j) : NoPy i j := h
theorem bg_rest {t b l : Int} (ht : Bg t) (hb : Bg b) (hl : l.natAbs ≤ 2 ^ 290400) : IntMulOk (l + 1) b ∧ IntMulOk (t - (l + 1) * b) b := by
  unfold Bg at ht hb
  have e1 : (2 : Nat) ^ 290402 = 2 ^ 290400 * 4 := by rw [show 290402 = 290400 + 2 from rfl, Nat.pow_add]
  have e2 : (2 : Nat) ^ 580803 = 2 ^ 290402 * 2 ^ 290401 := by rw [← Nat.pow_add]
  have e3 : (2 : Nat) ^ 290401 = 2 ^ 290400 * 2 := by rw [Nat.pow_succ]
  have h1 : (l + 1).natAbs < 2 ^ 290402 := by
    generalize (2 : Nat) ^ 290402 = X at e1 ⊢
    generalize (2 : Nat) ^ 290400 = Y at *
    omega
  have h2 : (t - (l + 1) * b).natAbs < 2 ^ 580804 := by
    have h3 : ((l + 1) * b).natAbs ≤ 2 ^ 290402 * 2 ^ 290400 := by
      rw [Int.natAbs_mul]
      exact Nat.mul_le_mul (Nat.le_of_lt h1) (Nat.le_of_lt hb)
    have h4 : (2 : Nat) ^ 580804 = 2 ^ 290402 * 2 ^ 290400 * 4 := by rw [← Nat.pow_add, show (4 : Nat) = 2 ^ 2 from rfl, ← Nat.pow_add]
    have h5 : (2 : Nat) ^ 290400 ≤ 2 ^ 290402 * 2 ^ 290400 := Nat.le_mul_of_pos_left _ (Nat.pow_pos (by decide))
    have h6 := Int.natAbs_sub_le t ((l + 1) * b)
    rw [h4]
    generalize (2 : Nat) ^ 290402 * 2 ^ 290400 = X at h3 h5 ⊢
    generalize (2 : Nat) ^ 290400 = Y at *
    omega
  exact ⟨mulok h1 hb (by decide), mulok h2 hb (by decide)⟩
theorem c_below_all (T : Txt K mg C) : Clb P w K mg base ca 1 "below_all" F_below := by
  refine clb T.d_below_all sc_below_all (fun ds Ω Q E h => ?_) (fun f cdv A outer s H E hr => ⟨_, _, (ass_cons (as_for (passes_of rfl) rfl (ae_var 0) (ag_tup (n := 2) rfl (ags_cons (i := 1) sc_below_all.nd rfl (Or.inl rfl) (ags_cons (i := 2) sc_below_all.nd rfl (Or.inl rfl) ags_nil))) (ass_one (as_if (at_le (ae_mul (ae_var 2) (ae_ix (ae_ix (ae_var 0) ae_int) ae_int)) ae_int) (ass_one (as_ret ae_non)) ass_nil)))
      (ass_cons (as_set 3 sc_below_all.nd (ae_min rfl T.b_min rfl (ae_lc rfl sc_below_all.nd (ae_var 0) (show BlkOk ["corners", "top", "below", "least", "rest"] (defScope s_below_all) _ [("top", 1), ("below", 2)] from blkOk_by (by decide +kernel)) (wip_tup (by decide)) (fun s1 H1 C1 cl1 fp1 => (ag_tup (n := 2) rfl (ags_cons (i := 1) sc_below_all.nd rfl (Or.inl rfl) (ags_cons (i := 2) sc_below_all.nd rfl (Or.inl rfl) ags_nil)))) (fun s1 H1 C1 cl1 fp1 => AE.cast (ae_fdv (div_blk (div_of hr)) (ae_var 1) (ae_var 2)) (by first | (dsimp only [Blk, Cx.blk]; done) | rfl)))))
      (ass_cons (as_for (passes_of rfl) rfl (ae_var 0) (ag_tup (n := 2) rfl (ags_cons (i := 1) sc_below_all.nd rfl (Or.inl rfl) (ags_cons (i := 2) sc_below_all.nd rfl (Or.inl rfl) ags_nil))) (ass_cons (as_set 4 sc_below_all.nd (ae_mul (ae_sub (ae_var 1) (ae_mul (ae_add (ae_var 3) ae_int) (ae_var 2))) (ae_var 2)))
      (ass_one (as_if (AWt.at_ (aw_or (at_gt (ae_var 4) ae_int) (aw_or1 (AWt.at_ (aw_and (at_eqI (ae_var 4) ae_int) (aw_and1 (at_eqI (ae_mul (ae_var 1) (ae_ix (ae_ix (ae_var 0) ae_int) ae_int)) (ae_mul (ae_ix (ae_ix (ae_var 0) ae_int) ae_int) (ae_var 2))))))))) (ass_one (as_ret ae_non)) ass_nil))))
      (ass_one (as_ret (ae_var 3)))))), fun ds Ω Qa Ea h => ?_⟩)
  · obtain ⟨_, _, rfl, _⟩ := h
    rfl
  · obtain ⟨c0, cs, rfl, hl, hb, k⟩ := h
    walk_at "pl"
    refine forL_ind (P_b1 c0 cs Ω) ⟨c0 :: cs, [], none, none, rfl, rfl, by simp, rfl, rfl⟩ ?_ ?_
    · rintro ρ Ω' ⟨ds, dn, z1, z2, e, e2, h0, rfl, rfl⟩
      have hds : ds = [] := by cases ds with
        | nil => rfl
        | cons _ _ => cases e
      subst hds
      rw [List.append_nil] at e2
      subst e2
      have hany : (c0 :: cs).any (fun c => decide (c.2 * c0.2 ≤ 0)) = false := by
        rw [List.any_eq_false]
        intro c hc
        have := h0 c hc
        simp only [decide_eq_true_eq]
        omega
      have hbel : belowAll (c0 :: cs) = belowRest ((cs.map fun c => c.1.fdiv c.2).foldl min (c0.1.fdiv c0.2)) c0 (c0 :: cs) := by
        unfold belowAll
        simp only [hany]
        rfl
      have hne : ∀ c ∈ c0 :: cs, c.2 ≠ 0 := fun c hc z => by
        have := h0 c hc
        rw [z, Int.zero_mul] at this
        omega
      walk_at "pl"
      refine compL_map cD (fun c => .int (c.1.fdiv c.2)) (fun Ω'' => Ω'' = Ω') (c0 :: cs) [] Ω' rfl (by simp only [List.length_cons, List.length_nil]; omega) (fun c hc Ω1 R Z hΩ hk => ?_) (fun Ω1 hΩ => ?_)
      · subst hΩ
        simp only [wipeA, aYes, cD]
        walk_at "pl"
        exact ⟨bg_nopy (hne c hc) (hb c hc).2, hk _ rfl⟩
      · subst hΩ
        refine ⟨(c0 :: cs).map fun c => c.1.fdiv c.2, by rw [List.nil_append, List.map_map]; rfl, by simp, fun m hm hm2 => ?_⟩
        rw [List.map_cons] at hm hm2
        rw [min_spec (cs.map fun c : Int × Int => c.1.fdiv c.2) (c0.1.fdiv c0.2) m hm hm2] at hbel
        have hmb : m.natAbs ≤ 2 ^ 290400 := by
          rw [← List.map_cons (f := fun c : Int × Int => c.1.fdiv c.2)] at hm
          obtain ⟨c, hc, rfl⟩ := List.mem_map.mp hm
          exact Nat.le_of_lt (Nat.lt_of_le_of_lt fdiv_le (hb c hc).1)
        refine forL_ind (P_b2 c0 cs m Ω1) ⟨c0 :: cs, [], z1, z2, none, rfl, rfl, rfl, rfl, rfl⟩ ?_ ?_
        · rintro ρ Ω' ⟨ds, dn, z1, z2, z3, e, e2, h1, rfl, rfl⟩
          have hds : ds = [] := by cases ds with
            | nil => rfl
            | cons _ _ => cases e
          subst hds
          walk_at "pl"
          rw [hbel, h1] at k
          exact k
        · rintro x us ρ Ω' De ert ih _ _ ⟨ds, dn, z1, z2, z3, e, e2, h1, rfl, rfl⟩
          cases ds with
          | nil => cases e
          | cons c ds =>
            have hc : c ∈ c0 :: cs := by rw [← e2]; simp
            rw [List.map_cons, List.cons.injEq] at e
            obtain ⟨rfl, rfl⟩ := e
            simp only [cD]
            walk_at "pl"
            obtain ⟨q1, q2⟩ := bg_rest (hb c hc).1 (hb c hc).2 hmb
            simp only [seq_cD]
            walk_at "pl"
            refine ⟨q1, q2, ?_⟩
            have q3 := bg_mul (hb c hc).1 (hb c0 List.mem_cons_self).2
            have q4 := bg_mul (hb c0 List.mem_cons_self).1 (hb c hc).2
            by_cases g1 : 0 < (c.1 - (m + 1) * c.2) * c.2
            · rw [if_pos g1, ert]
              have : belowRest m c0 ((c.1, c.2) :: ds) = none := by unfold belowRest; rw [if_pos (.inl g1)]
              rw [hbel, h1, this] at k
              exact k
            · rw [if_neg g1]
              have hno : ¬ ((c.1 - (m + 1) * c.2) * c.2 = 0 ∧ c.1 * c0.2 = c0.1 * c.2) → De.nx [some (.lst ((c0 :: cs).map cD)), some (.int c.1), some (.int c.2), some (.int m), some (.int ((c.1 - (m + 1) * c.2) * c.2))] Ω' := fun hn => by
                have : belowRest m c0 ((c.1, c.2) :: ds) = belowRest m c0 ds := by
                  conv => lhs; unfold belowRest
                  rw [if_neg]
                  rintro (z | z)
                  · exact g1 z
                  · exact hn z
                exact ih _ _ ⟨ds, dn ++ [c], _, _, _, rfl, by rw [List.append_assoc]; exact e2, h1.trans this, rfl, rfl⟩
              refine ite2 (fun g2 => ?_) (fun g2 => ?_)
              · refine ⟨q3, q4, ite2 (fun g3 => ?_) (fun g3 => hno fun z => g3 z.2)⟩
                rw [ert]
                have : belowRest m c0 ((c.1, c.2) :: ds) = none := by unfold belowRest; rw [if_pos (.inr ⟨g2, g3⟩)]
                rw [hbel, h1, this] at k
                exact k
              · exact hno fun z => g2 z.1
    · rintro x us ρ Ω' De ert ih _ _ ⟨ds, dn, z1, z2, e, e2, h0, rfl, rfl⟩
      cases ds with
      | nil => cases e
      | cons c ds =>
        have hc : c ∈ c0 :: cs := by rw [← e2]; simp
        rw [List.map_cons, List.cons.injEq] at e
        obtain ⟨rfl, rfl⟩ := e
        simp only [cD]
        walk_at "pl"
        simp only [seq_cD]
        walk_at "pl"
        refine ⟨bg_mul (hb c hc).2 (hb c0 List.mem_cons_self).2, ite2 (fun g => ?_) (fun g => ?_)⟩
        · rw [ert]
          have : belowAll (c0 :: cs) = none := by
            unfold belowAll
            have : (c0 :: cs).any (fun c => decide (c.2 * c0.2 ≤ 0)) = true := List.any_eq_true.mpr ⟨c, hc, by simpa using g⟩
            simp only [this, if_true]
          rw [this] at k
          exact k
        · exact ih _ _ ⟨ds, dn ++ [c], _, _, rfl, by rw [List.append_assoc]; exact e2, fun c' h' => by
            rcases List.mem_append.mp h' with h' | h'
            · exact h0 c' h'
            · rw [List.mem_singleton.mp h']; omega, rfl, rfl⟩
def F_fourI (C : CT) : AF := fun ds Ω Q _ => ∃ (p z : Addr) (ns : List D) (rdy bg : Bool), ds = [.o p, .tup ns, .o z, .bl rdy, .bl bg] ∧ Ω p = some (.obj C.c_Four []) ∧ Q .non (oset Ω p (oFour C ns z rdy bg .non))
theorem mk_Four (T : Txt K mg C) : Mkc P w K mg base ca 1 "Four" C.c_Four (F_fourI C) := by
  refine mkc T.k_Four sc_Four___init__ (fun ds Ω Q E h => ?_) (fun f cdv A outer s H E hr => ⟨_, _, (ass_cons (as_asg (ae_var 1) (ag_new (ae_var 0)))
      (ass_cons (as_asg (ae_var 2) (ag_new (ae_var 0)))
      (ass_cons (as_asg (ae_var 3) (ag_new (ae_var 0)))
      (ass_cons (as_asg (ae_var 4) (ag_new (ae_var 0)))
      (ass_one (as_asg ae_non (ag_new (ae_var 0)))))))), fun ds Ω Qa Ea h => ?_⟩)
  · obtain ⟨_, _, _, _, _, rfl, _⟩ := h
    rfl
  · obtain ⟨p, z, ns, rdy, bg, rfl, ho, k⟩ := h
    walk_at "pl"
    refine ⟨_, _, ho, by walk_at "nm", T.n_Four_numbers, by decide, ?_⟩
    walk_at "pl"
    refine ⟨by walk_at "nm", T.n_Four_inner, by decide, ?_⟩
    walk_at "pl"
    refine ⟨by walk_at "nm", T.n_Four_ready, by decide, ?_⟩
    walk_at "pl"
    refine ⟨by walk_at "nm", T.n_Four_begun, by decide, ?_⟩
    walk_at "pl"
    exact ⟨by walk_at "nm", T.n_Four_fixed, by decide, k⟩
def F_eightI (C : CT) : AF := fun ds Ω Q _ => ∃ (p z1 z2 : Addr) (ns : List D), ds = [.o p, .tup ns, .o z1, .o z2] ∧ Ω p = some (.obj C.c_Eight []) ∧ ∀ k, k ≠ p → Ω k = none → Q .non (oset (oset Ω k (.lst [.int 0, .int 0])) p (oEight C ns z1 z2 k false .non))
theorem mk_Eight (T : Txt K mg C) : Mkc P w K mg base ca 1 "Eight" C.c_Eight (F_eightI C) := by
  refine mkc T.k_Eight sc_Eight___init__ (fun ds Ω Q E h => ?_) (fun f cdv A outer s H E hr => ⟨_, _, (ass_cons (as_asg (ae_var 1) (ag_new (ae_var 0)))
      (ass_cons (as_asg (ae_lst (aa_cons (ae_var 2) (aa_cons (ae_var 3) aa_nil))) (ag_new (ae_var 0)))
      (ass_cons (as_asg (ae_lstO (aa_cons ae_int (aa_cons ae_int aa_nil))) (ag_new (ae_var 0)))
      (ass_cons (as_asg ae_bl (ag_new (ae_var 0)))
      (ass_one (as_asg ae_non (ag_new (ae_var 0)))))))), fun ds Ω Qa Ea h => ?_⟩)
  · obtain ⟨_, _, _, _, rfl, _⟩ := h
    rfl
  · obtain ⟨p, z1, z2, ns, rfl, ho, k⟩ := h
    walk_at "pl"
    refine ⟨_, _, ho, by walk_at "nm", T.n_Eight_numbers, by decide, ?_⟩
    walk_at "pl"
    refine ⟨by decide, by walk_at "nm", T.n_Eight_inners, by decide, by decide, fun kk hk => ?_⟩
    have hne : kk ≠ p := fun e => by rw [e, oset_same] at hk; cases hk
    have hne' : p ≠ kk := Ne.symm hne
    rw [oset_ne hne'] 
    walk_at "pl"
    refine ⟨by walk_at "nm", T.n_Eight_many, by decide, ?_⟩
    walk_at "pl"
    refine ⟨by walk_at "nm", T.n_Eight_begun, by decide, ?_⟩
    walk_at "pl"
    refine ⟨by walk_at "nm", T.n_Eight_rest, by decide, ?_⟩
    have := k kk hne (by rw [oset_ne hne] at hk; exact hk)
    have e : oset (oset (oset Ω p (.obj C.c_Eight [("numbers", .tup ns), ("inners", .lst [.o z1, .o z2])])) kk (.lst [.int 0, .int 0])) p (oEight C ns z1 z2 kk false .non) = oset (oset Ω kk (.lst [.int 0, .int 0])) p (oEight C ns z1 z2 kk false .non) := by
      funext b
      unfold oset
      by_cases h1 : b = p
      · rw [if_pos h1, if_pos h1]
      · rw [if_neg h1, if_neg h1]
        by_cases h2 : b = kk
        · rw [if_pos h2]; simp only [h1, if_false]
        · rw [if_neg h2]; simp only [h1, if_false]
    rw [← e] at this
    exact this
theorem sm_bg {a : Int} (h : Sm a) : Bg a := Nat.lt_trans h (Nat.pow_lt_pow_right (by decide) (by decide))
theorem sm_bg2 {a b : Int} (h : Sm a) (h2 : Sm b) : Bg (a + b) := by
  unfold Sm at h h2
  unfold Bg
  have e1 : (2 : Nat) ^ 290400 = 2 ^ 290000 * 2 ^ 400 := by rw [← Nat.pow_add]
  have e2 : (2 : Nat) ^ 400 ≥ 4 := by decide
  have := Nat.mul_le_mul_left (2 ^ 290000) e2
  have h3 := Int.natAbs_add_le a b
  rw [e1]
  omega
theorem sm_bg4 {a b c d : Int} (h : Sm a) (h2 : Sm b) (h3 : Sm c) (h4 : Sm d) : Bg (a + b + c + d) := by
  unfold Sm at h h2 h3 h4
  unfold Bg
  have e1 : (2 : Nat) ^ 290400 = 2 ^ 290000 * 2 ^ 400 := by rw [← Nat.pow_add]
  have e2 : (2 : Nat) ^ 400 ≥ 4 := by decide
  have := Nat.mul_le_mul_left (2 ^ 290000) e2
  have h5 := Int.natAbs_add_le a b
  have h6 := Int.natAbs_add_le (a + b) c
  have h7 := Int.natAbs_add_le (a + b + c) d
  rw [e1]
  omega
def F_sure4 (C : CT) : AF := fun ds Ω Q _ => ∃ (p z : Addr) (a b c d : Int) (rdy bg : Bool) (f : D), ds = [.o p] ∧ Ω p = some (oFour C [.int a, .int b, .int c, .int d] z rdy bg f) ∧ Sm a ∧ Sm b ∧ Sm c ∧ Sm d ∧ Q (optD (sure4 rdy a b c d)) Ω
theorem m_sure4 (T : Txt K mg C) : ∀ D ∈ [C.c_Four], Mth P w K mg base ca 2 D "sure" (F_sure4 C) := by
  refine mth T.m_Four_sure sc_Four_sure (fun ds Ω Q E h => ?_) (fun f cdv A outer s H E hr => ⟨_, _, (ass_cons (as_asg (ae_fld 0 (ae_var 0)) (ag_tup (n := 4) rfl (ags_cons (i := 1) sc_Four_sure.nd rfl (Or.inl rfl) (ags_cons (i := 2) sc_Four_sure.nd rfl (Or.inl rfl) (ags_cons (i := 3) sc_Four_sure.nd rfl (Or.inl rfl) (ags_cons (i := 4) sc_Four_sure.nd rfl (Or.inl rfl) ags_nil))))))
      (ass_cons (as_if (at_not (at_val (ae_fld 2 (ae_var 0)))) (ass_one (as_ret ae_non)) ass_nil)
      (ass_one (as_ret (ae_call (c_below_all T) hr (takes_of rfl rfl rfl rfl) (by omega) (aa_cons (ae_lst (aa_cons (ae_tup (aa_cons (ae_var 1) (aa_cons (ae_var 3) aa_nil))) (aa_cons (ae_tup (aa_cons (ae_add (ae_var 1) (ae_var 2)) (aa_cons (ae_add (ae_var 3) (ae_var 4)) aa_nil))) aa_nil))) aa_nil)))))), fun ds Ω Qa Ea h => ?_⟩)
  · obtain ⟨_, _, _, _, _, _, _, _, _, rfl, _⟩ := h
    rfl
  · obtain ⟨p, z, a, b, c, d, rdy, bg, f, rfl, ho, ha, hb, hc, hd, k⟩ := h
    walk_at "pl"
    repeat (simp only [ho]; walk_at "pl")
    unfold sure4 at k
    cases rdy with
    | false => exact k
    | true =>
      exact ⟨by decide, by decide, by decide, (a, c), [(a + b, c + d)], rfl, by simp, by
        intro x hx
        simp only [List.mem_cons, List.not_mem_nil, or_false] at hx
        rcases hx with rfl | rfl
        · exact ⟨sm_bg ha, sm_bg hc⟩
        · exact ⟨sm_bg2 ha hb, sm_bg2 hc hd⟩, k⟩
def F_sure8 (C : CT) : AF := fun ds Ω Q _ => ∃ (p z1 z2 kk : Addr) (a b c d e f g h : Int) (m0 m1 : Nat) (bg : Bool) (q : D), ds = [.o p] ∧ Ω p = some (oEight C [.int a, .int b, .int c, .int d, .int e, .int f, .int g, .int h] z1 z2 kk bg q) ∧ Ω kk = some (.lst [.int m0, .int m1]) ∧
  Sm a ∧ Sm b ∧ Sm c ∧ Sm d ∧ Sm e ∧ Sm f ∧ Sm g ∧ Sm h ∧ Q (optD (sure8 m0 m1 a b c d e f g h)) Ω
theorem m_sure8 (T : Txt K mg C) : ∀ D ∈ [C.c_Eight], Mth P w K mg base ca 2 D "sure" (F_sure8 C) := by
  refine mth T.m_Eight_sure sc_Eight_sure (fun ds Ω Q E h => ?_) (fun f cdv A outer s H E hr => ⟨_, _, (ass_cons (as_asg (ae_fld 0 (ae_var 0)) (ag_tup (n := 8) rfl (ags_cons (i := 1) sc_Eight_sure.nd rfl (Or.inl rfl) (ags_cons (i := 2) sc_Eight_sure.nd rfl (Or.inl rfl) (ags_cons (i := 3) sc_Eight_sure.nd rfl (Or.inl rfl) (ags_cons (i := 4) sc_Eight_sure.nd rfl (Or.inl rfl) (ags_cons (i := 5) sc_Eight_sure.nd rfl (Or.inl rfl) (ags_cons (i := 6) sc_Eight_sure.nd rfl (Or.inl rfl) (ags_cons (i := 7) sc_Eight_sure.nd rfl (Or.inl rfl) (ags_cons (i := 8) sc_Eight_sure.nd rfl (Or.inl rfl) ags_nil))))))))))
      (ass_cons (as_if (at_inI ae_int (ae_fld 2 (ae_var 0))) (ass_one (as_ret ae_non)) ass_nil)
      (ass_one (as_ret (ae_call (c_below_all T) hr (takes_of rfl rfl rfl rfl) (by omega) (aa_cons (ae_lst (aa_cons (ae_tup (aa_cons (ae_var 1) (aa_cons (ae_var 5) aa_nil))) (aa_cons (ae_tup (aa_cons (ae_add (ae_var 1) (ae_var 2)) (aa_cons (ae_add (ae_var 5) (ae_var 6)) aa_nil))) (aa_cons (ae_tup (aa_cons (ae_add (ae_var 1) (ae_var 3)) (aa_cons (ae_add (ae_var 5) (ae_var 7)) aa_nil))) (aa_cons (ae_tup (aa_cons (ae_add (ae_add (ae_add (ae_var 1) (ae_var 2)) (ae_var 3)) (ae_var 4)) (aa_cons (ae_add (ae_add (ae_add (ae_var 5) (ae_var 6)) (ae_var 7)) (ae_var 8)) aa_nil))) aa_nil))))) aa_nil)))))), fun ds Ω Qa Ea h => ?_⟩)
  · obtain ⟨_, _, _, _, _, _, _, _, _, _, _, _, _, _, _, _, rfl, _⟩ := h
    rfl
  · obtain ⟨p, z1, z2, kk, a, b, c, d, e, f', g, h', m0, m1, bg, q, rfl, ho, hk, ha, hb, hc, hd, he, hf, hg, hh, k⟩ := h
    walk_at "pl"
    rw [ho]
    walk_at "pl"
    rw [ho]
    walk_at "pl"
    simp only [seq_o hk]
    refine ⟨[(m0 : Int), m1], rfl, ?_⟩
    unfold sure8 at k
    by_cases hm : 0 < m0 ∧ 0 < m1
    · rw [if_pos hm] at k
      rw [if_neg (by simp; omega)]
      walk_at "pl"
      exact ⟨by decide, by decide, by decide, by decide, by decide, (a, e), [(a + b, e + f'), (a + c, e + g), (a + b + c + d, e + f' + g + h')], rfl, by simp, by
        intro x hx
        simp only [List.mem_cons, List.not_mem_nil, or_false] at hx
        rcases hx with rfl | rfl | rfl | rfl
        · exact ⟨sm_bg ha, sm_bg he⟩
        · exact ⟨sm_bg2 ha hb, sm_bg2 he hf⟩
        · exact ⟨sm_bg2 ha hc, sm_bg2 he hg⟩
        · exact ⟨sm_bg4 ha hb hc hd, sm_bg4 he hf hg hh⟩, k⟩
    · rw [if_neg hm] at k
      rw [if_pos (by simp; omega)]
      exact k
structure Mv (S0 : List Addr) (pu : Addr) (Ω0 : Om) (S : List Addr) (Ω : Om) : Prop where
  fr : Fr S0 pu Ω0 Ω
  fs : ∀ b ∈ S, b ∈ S0 ∨ Ω0 b = none
theorem Mv.refl {S : List Addr} {pu : Addr} {Ω : Om} : Mv S pu Ω S Ω := ⟨fun _ _ _ _ => rfl, fun b hb => .inl hb⟩
theorem Mv.trans {S0 S1 S2 : List Addr} {pu : Addr} {Ω0 Ω1 Ω2 : Om} (h1 : Mv S0 pu Ω0 S1 Ω1) (h2 : Mv S1 pu Ω1 S2 Ω2) (hp : Ω1 pu ≠ none) : Mv S0 pu Ω0 S2 Ω2 := by
  refine ⟨fun b hb hbp hn => ?_, fun b hb => ?_⟩
  · have e1 := h1.fr b hb hbp hn
    have hb1 : b ∉ S1 := fun z => (h1.fs b z).elim hb hn
    rw [h2.fr b hb1 hbp (by rw [e1]; exact hn), e1]
  · rcases h2.fs b hb with h | h
    · exact h1.fs b h
    · by_cases hb0 : b ∈ S0
      · exact .inl hb0
      · refine .inr ?_
        cases hq : Ω0 b with
        | none => rfl
        | some u =>
          have hbp : b ≠ pu := fun e => hp (by rw [← e]; exact h)
          have := h1.fr b hb0 hbp (by rw [hq]; simp)
          rw [h, hq] at this
          cases this
theorem Mv.of {S0 S : List Addr} {pu : Addr} {Ω0 Ω : Om} (T : List Addr) (h : Mv S pu Ω0 S0 Ω) (hd : ∀ b ∈ T, b ∉ S ∨ True) : Mv (T ++ S) pu Ω0 (T ++ S0) Ω := by
  refine ⟨fun b hb hbp hn => h.fr b (fun z => hb (List.mem_append_right _ z)) hbp hn, fun b hb => ?_⟩
  rcases List.mem_append.mp hb with h' | h'
  · exact .inl (List.mem_append_left _ h')
  · exact (h.fs b h').imp (List.mem_append_right _) id
theorem Mv.cons {S0 S : List Addr} {pu : Addr} {Ω0 Ω : Om} (p : Addr) (h : Mv S pu Ω0 S0 Ω) : Mv (p :: S) pu Ω0 (p :: S0) Ω := h.of [p] (fun _ _ => .inr True.intro)
theorem Mv.keep {S0 S : List Addr} {pu p : Addr} {Ω0 Ω : Om} (h : Mv S0 pu Ω0 S Ω) (h1 : p ∉ S0) (h2 : p ≠ pu) (h3 : Ω0 p ≠ none) : Ω p = Ω0 p ∧ p ∉ S := ⟨h.fr p h1 h2 h3, fun z => (h.fs p z).elim h1 h3⟩
theorem Mv.nopu {S0 S : List Addr} {pu : Addr} {Ω0 Ω : Om} (h : Mv S0 pu Ω0 S Ω) (h1 : pu ∉ S0) (h3 : Ω0 pu ≠ none) : pu ∉ S := fun z => (h.fs pu z).elim h1 h3
theorem Mv.set {S : List Addr} {pu p : Addr} {Ω : Om} {o : AO} (h : p ∈ S) : Mv S pu Ω S (oset Ω p o) := ⟨fun b hb _ _ => oset_ne fun e => hb (e ▸ h), fun b hb => .inl hb⟩
theorem Mv.new {S : List Addr} {pu q : Addr} {Ω : Om} {o : AO} (h : Ω q = none) : Mv S pu Ω (q :: S) (oset Ω q o) := ⟨fun b hb _ hn => oset_ne fun e => hn (e ▸ h), fun b hb => by
  rcases List.mem_cons.mp hb with rfl | hb
  · exact .inr h
  · exact .inl hb⟩
theorem Mv.sub {S0 S S' : List Addr} {pu : Addr} {Ω0 Ω : Om} (h : Mv S0 pu Ω0 S Ω) (hs : ∀ b ∈ S', b ∈ S) : Mv S0 pu Ω0 S' Ω := ⟨h.fr, fun b hb => h.fs b (hs b hb)⟩
def Inn2 (p : Addr) (Ω Ω' : Om) : Prop := ∃ c fs c' fs', Ω p = some (.obj c fs) ∧ Ω' p = some (.obj c' fs') ∧ fs'[1]? = fs[1]?
theorem Inn2.trans {p : Addr} {Ω Ω1 Ω2 : Om} (h : Inn2 p Ω Ω1) (h2 : Inn2 p Ω1 Ω2) : Inn2 p Ω Ω2 := by
  obtain ⟨c, fs, c', fs', e1, e2, e3⟩ := h
  obtain ⟨d, gs, d', gs', g1, g2, g3⟩ := h2
  rw [e2] at g1
  cases g1
  exact ⟨c, fs, d', gs', e1, g2, g3.trans e3⟩
def I_four (C : CT) (L : Nat) (p pu : Addr) (r' : R) (m' : Int) (ans : Ans) (S0 : List Addr) (Ω0 : Om) : Nat → En → Om → Prop := fun n ρ Ω => ∃ (r : R) (S : List Addr) (m : Int) (k : Nat) (z1 z2 z3 z4 z5 z6 : Option D), r.kd = .four ∧ r.lv ≤ L + 1 ∧ RdO C Ω p r S ∧ Ω pu = some (oPurse C m) ∧ pu ∉ S ∧ Told k r m r' m' ans ∧ Mv S0 pu Ω0 S Ω ∧ Inn2 p Ω0 Ω ∧
  n = (match r with | .four .. => k + 1 | _ => 0) ∧ ρ = [some (.o p), some (.o pu), z1, z2, z3, z4, z5, z6]
theorem inn_set {p : Addr} {Ω Ω1 : Om} {c : Addr} {fs fs' : List (Str × D)} (h : Ω p = some (.obj c fs)) (h2 : Ω1 p = some (.obj c fs')) (h1 : fs'[1]? = fs[1]?) : Inn2 p Ω Ω1 := ⟨_, _, _, _, h, h2, h1⟩
theorem inn_same {p : Addr} {Ω Ω1 Ω2 : Om} (h : Inn2 p Ω Ω1) (h2 : Ω2 p = Ω1 p) : Inn2 p Ω Ω2 := by
  obtain ⟨c, fs, c', fs', e1, e2, e3⟩ := h
  exact ⟨c, fs, c', fs', e1, h2.trans e2, e3⟩
theorem sure_bg {c0 : Int × Int} {r : List (Int × Int)} {q : Int} (h : belowAll (c0 :: r) = some q) (hb : ∀ c ∈ c0 :: r, Bg c.1) : Bg q := by
  obtain ⟨c, hc, rfl⟩ := (belowAll_spec.mp h).2.1
  exact Nat.lt_of_le_of_lt fdiv_le (hb c hc)
theorem sure4_bg {rdy : Bool} {a b c d q : Int} (h : sure4 rdy a b c d = some q) (ha : Sm a) (hb : Sm b) : Bg q := by
  unfold sure4 at h
  split at h
  · exact sure_bg h fun c hc => by
      simp only [List.mem_cons, List.not_mem_nil, or_false] at hc
      rcases hc with rfl | rfl
      · exact sm_bg ha
      · exact sm_bg2 ha hb
  · cases h
theorem sure8_bg {m0 m1 : Nat} {a b c d e f g i q : Int} (h : sure8 m0 m1 a b c d e f g i = some q) (ha : Sm a) (hb : Sm b) (hc : Sm c) (hd : Sm d) : Bg q := by
  unfold sure8 at h
  split at h
  · exact sure_bg h fun x hx => by
      simp only [List.mem_cons, List.not_mem_nil, or_false] at hx
      rcases hx with rfl | rfl | rfl | rfl
      · exact sm_bg ha
      · exact sm_bg2 ha hb
      · exact sm_bg2 ha hc
      · exact sm_bg4 ha hb hc hd
  · cases h
theorem told_in {L : Nat} (tl : Tolds P w K mg base ca C L) {z pu : Addr} {x x' : R} {S1 : List Addr} {Ω1 : Om} {m m1 : Int} {j : Nat} {ans1 : Ans} (hlx : x.lv ≤ L) (hz : RdO C Ω1 z x S1) (hp : Ω1 pu = some (oPurse C m)) (hn1 : pu ∉ S1) (Q : AQ) (E : Value → Om → Prop) (ht : Told j x m x' m1 ans1)
    (k : ∀ (Ω2 : Om) (S2 : List Addr), RdO C Ω2 z x' S2 → Ω2 pu = some (oPurse C m1) → Mv S1 pu Ω1 S2 Ω2 → Inn x.kd z Ω1 Ω2 → ans1.ok C Q E Ω2) : ∃ c fs, Ω1 z = some (.obj c fs) ∧ ("told" : Str) ∉ fs.map (·.1) ∧ ∃ F, Mth P w K mg base ca L c "told" F ∧ F [.o z, .o pu] Ω1 Q E := by
  obtain ⟨c, fs, ho, hm, hc⟩ := hz.obj
  exact ⟨c, fs, ho, hm _ (.inl rfl), F_told C x.kd L, tl.all x.kd c hc, z, pu, x, S1, j, m, x', m1, ans1, rfl, rfl, hlx, hz, hp, hn1, ht, fun Ω2 S2 h1 h2 h3 h4 h5 => k Ω2 S2 h1 h2 ⟨h3, h4⟩ h5⟩
theorem m_fourTold (T : Txt K mg C) {L : Nat} (hL : 3 ≤ L) (tl : Tolds P w K mg base ca C L) : ∀ D ∈ [C.c_Four], Mth P w K mg base ca (L + 1) D "told" (F_told C .four (L + 1)) := by
  refine mth T.m_Four_told sc_Four_told told_len (fun f cdv A outer s H E hr => ⟨_, _, (ass_cons (as_while (passes_of rfl) (at_isN (ae_fld 4 (ae_var 0))) (ass_cons (as_asg (ae_fld 0 (ae_var 0)) (ag_tup (n := 4) rfl (ags_cons (i := 2) sc_Four_told.nd rfl (Or.inl rfl) (ags_cons (i := 3) sc_Four_told.nd rfl (Or.inl rfl) (ags_cons (i := 4) sc_Four_told.nd rfl (Or.inl rfl) (ags_cons (i := 5) sc_Four_told.nd rfl (Or.inl rfl) ags_nil))))))
      (ass_cons (as_set 6 sc_Four_told.nd (ae_meth0 (k := L) hr (takes_of rfl rfl rfl rfl) (by omega) (ae_var 0)))
      (ass_cons (as_if (at_notN (ae_var 6)) (ass_cons (as_asg (ae_tup (aa_cons (ae_var 4) (aa_cons (ae_var 5) (aa_cons (ae_sub (ae_var 2) (ae_mul (ae_var 6) (ae_var 4))) (aa_cons (ae_sub (ae_var 3) (ae_mul (ae_var 6) (ae_var 5))) aa_nil))))) (ag_fld 0 (ae_var 0)))
      (ass_cons (as_asg ae_bl (ag_fld 3 (ae_var 0)))
      (ass_one (as_ret (ae_tup (aa_cons ae_str (aa_cons (ae_var 6) aa_nil))))))) ass_nil)
      (ass_cons (as_set 7 sc_Four_told.nd (ae_meth (k := L) hr (takes_of rfl rfl rfl rfl) (by omega) (ae_fld 1 (ae_var 0)) (aa_cons (ae_var 1) aa_nil)))
      (ass_cons (as_if (at_eqS (ae_ix (ae_var 7) ae_int) ae_str) (ass_one (as_ret (ae_var 7))) ass_nil)
      (ass_one (as_if (at_eqS (ae_ix (ae_var 7) ae_int) ae_str) (ass_one (as_asg (ae_make (mk_Fixed T) hr (takes_of rfl rfl rfl rfl) (by omega) (aa_cons (ae_var 2) (aa_cons (ae_var 4) (aa_cons (ae_fld 3 (ae_var 0)) aa_nil)))) (ag_fld 4 (ae_var 0)))) (ass_cons (as_asg (ae_tup (aa_cons (ae_add (ae_mul (ae_var 2) (ae_ix (ae_var 7) ae_int)) (ae_var 3)) (aa_cons (ae_var 2) (aa_cons (ae_add (ae_mul (ae_var 4) (ae_ix (ae_var 7) ae_int)) (ae_var 5)) (aa_cons (ae_var 4) aa_nil))))) (ag_fld 0 (ae_var 0)))
      (ass_one (as_asg ae_bl (ag_fld 2 (ae_var 0)))))))))))))
      (ass_one (as_ret (ae_meth (k := L) hr (takes_of rfl rfl rfl rfl) (by omega) (ae_fld 4 (ae_var 0)) (aa_cons (ae_var 1) aa_nil))))), fun ds Ω Qa Ea h => ?_⟩)
  obtain ⟨p, pu, r, S, n, m, r', m', ans, rfl, hk, hl, hR, hp, hn, ht, k⟩ := h
  walk_at "pl"
  refine ⟨I_four C L p pu r' m' ans S Ω, ⟨_, r, S, m, n, none, none, none, none, none, none, hk, hl, hR, hp, hn, ht, .refl, ?_, rfl, rfl⟩, ?_⟩
  · cases hR with
    | four e _ _ => exact ⟨_, _, _, _, e, e, rfl⟩
    | fourX e _ _ _ _ _ => exact ⟨_, _, _, _, e, e, rfl⟩
    | _ => cases hk
  rintro n ρ Ω1 ⟨r, S1, m, i, z1, z2, z3, z4, z5, z6, hk, hl, hR, hp, hn, ht, mv, inn, rfl, rfl⟩
  have fin : ∀ {S2 : List Addr} {Ω2 : Om}, RdO C Ω2 p r' S2 → Ω2 pu = some (oPurse C m') → Mv S pu Ω S2 Ω2 → Inn2 p Ω Ω2 → ans.ok C Qa Ea Ω2 := fun hR2 hp2 mv2 inn2 => k _ _ hR2 hp2 mv2.fr mv2.fs fun _ => inn2
  clear k
  cases hR with
  | four ho hz hnp =>
    rename_i z a b c d rdy bg x S1
    have hne : pu ≠ p := fun e => hn (by simp [e])
    have hn1 : pu ∉ S1 := fun e => hn (by simp [e])
    have hlx : x.lv ≤ L := by simp only [R.lv] at hl; omega
    walk_at "pl"
    rw [ho]
    walk_at "pl"
    simp only [D.isNon]
    walk_at "pl"
    rw [ho]
    walk_at "pl"
    refine ⟨by walk_at "nm", F_sure4 C, (m_sure4 T _ (by simp)).mono (by omega), p, z, a, b, c, d, rdy, bg, .non, rfl, ho, ?_⟩
    have hnn : Ω1 p ≠ none := by rw [ho]; simp
    have hpn : Ω1 pu ≠ none := by rw [hp]; simp
    cases ht with
    | foTell h1 h2 h3 h4 hs =>
      refine ⟨h1, h2, h3, h4, ?_⟩
      rw [hs]
      simp only [optD]
      walk_at "pl"
      have hq := sure4_bg hs h1 h2
      rw [if_pos (by decide)]
      refine ⟨bg_mul hq (sm_bg h3), bg_mul hq (sm_bg h4), by decide, ?_⟩
      rw [ho]
      walk_at "pl"
      refine ⟨by decide, by decide, by decide, fin (.four (S := S1) oset_same (hz.keep fun b hb => oset_ne fun e => hnp (e ▸ hb)) hnp) ((oset_ne hne).trans hp) (mv.trans (Mv.set (by simp)) hpn) (inn.trans (inn_set ho oset_same rfl))⟩
    | foWait h1 h2 h3 h4 hs hx =>
      refine ⟨h1, h2, h3, h4, ?_⟩
      rw [hs]
      simp only [optD]
      walk_at "pl"
      rw [ho]
      walk_at "pl"
      refine told_in tl hlx hz hp hn1 _ _ hx fun Ω2 S2 hR2 hp2 mv2 inn2 => ?_
      simp only [Ans.ok, Ans.d]
      walk_at "pl"
      obtain ⟨e1, e2⟩ := mv2.keep hnp (Ne.symm hne) hnn
      exact fin (.four (e1.trans ho) hR2 e2) hp2 (mv.trans (mv2.cons p) hpn) (inn_same inn e1)
    | foNo h1 h2 h3 h4 hs hx =>
      refine ⟨h1, h2, h3, h4, ?_⟩
      rw [hs]
      simp only [optD]
      walk_at "pl"
      rw [ho]
      walk_at "pl"
      refine told_in tl hlx hz hp hn1 _ _ hx fun Ω2 S2 hR2 hp2 mv2 inn2 => ?_
      obtain ⟨e1, e2⟩ := mv2.keep hnp (Ne.symm hne) hnn
      exact fin (.four (e1.trans ho) hR2 e2) hp2 (mv.trans (mv2.cons p) hpn) (inn_same inn e1)
    | foEnd h1 h2 h3 h4 hs hx hf =>
      refine ⟨h1, h2, h3, h4, ?_⟩
      rw [hs]
      simp only [optD]
      walk_at "pl"
      rw [ho]
      walk_at "pl"
      refine told_in tl hlx hz hp hn1 _ _ hx fun Ω2 S2 hR2 hp2 mv2 inn2 => ?_
      simp only [Ans.ok, Ans.d]
      walk_at "pl"
      obtain ⟨e1, e2⟩ := mv2.keep hnp (Ne.symm hne) hnn
      rw [if_neg (by decide), e1, ho]
      walk_at "pl"
      intro q hq
      have hqp : q ≠ p := fun e => by rw [e, e1, ho] at hq; cases hq
      have hqu : q ≠ pu := fun e => by rw [e, hp2] at hq; cases hq
      have hqS : q ∉ S2 := fun z => hR2.there q z hq
      refine ⟨q, a, c, bg, rfl, oset_same, rfl, ?_⟩
      rw [oset_oset, oset_ne (Ne.symm hqp), e1, ho]
      walk_at "pl"
      refine ⟨by decide, 0, by omega, _, p :: q :: S2, _, 0, _, _, _, _, _, _, rfl, ?_, .fourX (ns := [.int a, .int b, .int c, .int d]) (z := z) (rdy := rdy) (bg := bg) oset_same ?_ (hR2.keep fun b hb => ?_) e2 hqS (Ne.symm hqp), ?_, ?_, .fxX hf, mv.trans ((mv2.cons p).trans ?_ (by rw [hp2]; simp)) hpn, ?_, rfl, rfl⟩
      · have := hx.lv
        simp only [R.lv]
        omega
      · rw [oset_ne hqp, oset_same]
      · rw [oset_ne (fun e : b = p => e2 (by rw [← e]; exact hb)), oset_ne (fun e : b = q => hqS (by rw [← e]; exact hb))]
      · rw [oset_ne hne, oset_ne (Ne.symm hqu)]
        exact hp2
      · have := mv2.nopu hn1 hpn
        simp only [List.mem_cons, not_or]
        exact ⟨hne, Ne.symm hqu, this⟩
      · have hne' := hqp
        refine ⟨fun b hb hbp hn => ?_, fun b hb => ?_⟩
        · rw [oset_ne (fun e => hb (by simp [e])), oset_ne (fun e => hn (by rw [e]; exact hq))]
        · simp only [List.mem_cons] at hb ⊢
          rcases hb with rfl | rfl | hb
          · exact .inl (.inl rfl)
          · exact .inr hq
          · exact .inl (.inr hb)
      · exact (inn_same inn e1).trans (inn_set (e1.trans ho) oset_same rfl)
    | foIn h1 h2 h3 h4 hs hx hq ht2 =>
      refine ⟨h1, h2, h3, h4, ?_⟩
      rw [hs]
      simp only [optD]
      walk_at "pl"
      rw [ho]
      walk_at "pl"
      refine told_in tl hlx hz hp hn1 _ _ hx fun Ω2 S2 hR2 hp2 mv2 inn2 => ?_
      simp only [Ans.ok, Ans.d]
      walk_at "pl"
      obtain ⟨e1, e2⟩ := mv2.keep hnp (Ne.symm hne) hnn
      rw [if_neg (by decide), if_neg (by decide)]
      refine ⟨sm_mul h1 hq, sm_mul h3 hq, by decide, ?_⟩
      rw [e1, ho]
      walk_at "pl"
      refine ⟨by decide, by decide, _, Nat.lt_succ_self _, _, p :: S2, _, _, _, _, _, _, _, _, rfl, ?_, .four oset_same (hR2.keep fun b hb => oset_ne fun e => e2 (e ▸ hb)) e2, (oset_ne hne).trans hp2, ?_, ht2, mv.trans ((mv2.cons p).trans (Mv.set (by simp)) (by rw [hp2]; simp)) hpn, (inn_same inn e1).trans (inn_set (e1.trans ho) oset_same rfl), rfl, rfl⟩
      · have := hx.lv
        simp only [R.lv]
        omega
      · have := mv2.nopu hn1 hpn
        simp only [List.mem_cons, not_or]
        exact ⟨hne, this⟩
  | fourX ho hf hz hnp hnf hpf =>
    rename_i z f ns t b g rdy bg x S1
    walk_at "pl"
    rw [ho]
    walk_at "pl"
    simp only [D.isNon]
    walk_at "pl"
    refine ⟨_, _, hf, by walk_at "nm", F_told C .fixed L, tl.all .fixed _ (by simp [CT.cls]), f, pu, .fixed t b g, [f], 0, m, ?_⟩
    cases ht with
    | fxX hx =>
      rename_i t' b' g'
      refine ⟨.fixed t' b' g', m', ans, rfl, rfl, by simp only [R.lv]; omega, .fixed hf, hp, fun e => hn (by simp at e; simp [e]), hx, fun Ω2 S2 hR2 hp2 fr2 fs2 _ => ?_⟩
      cases hR2 with
      | fixed hf2 =>
        have hne : pu ≠ p := fun e => hn (by simp [e])
        have e1 : Ω2 p = Ω1 p := fr2 p (by simp [hpf]) (Ne.symm hne) (by rw [ho]; simp)
        refine fin (.fourX (e1.trans ho) hf2 (hz.keep fun b hb => ?_) hnp hnf hpf) hp2 (mv.trans (Mv.cons p ?_) (by rw [hp]; simp)) (inn_same inn e1)
        · exact fr2 b (fun z => hnf (by simp at z; rw [← z]; exact hb)) (fun z => hn (by rw [← z]; simp [hb])) (hz.there b hb)
        · exact ⟨fun b hb hbp hn => fr2 b (fun z => hb (by simp at z; simp [z])) hbp hn, fun b hb => .inl hb⟩
  | _ => cases hk
def bI (w : Bool) : Int := cond w 1 0
def F_take (C : CT) : AF := fun ds Ω Q _ => ∃ (p z1 z2 kk : Addr) (a b c d e f g h q : Int) (m0 m1 : Nat) (bg w : Bool) (fx : D), ds = [.o p, .int (bI w), .int q] ∧ Ω p = some (oEight C [.int a, .int b, .int c, .int d, .int e, .int f, .int g, .int h] z1 z2 kk bg fx) ∧ Ω kk = some (.lst [.int m0, .int m1]) ∧ kk ≠ p ∧
  Sm8 a b c d e f g h ∧ Sm q ∧ Q .non (oset (oset Ω p (oEight C (cond w [.int (a * q + b), .int a, .int (c * q + d), .int c, .int (e * q + f), .int e, .int (g * q + h), .int g] [.int (a * q + c), .int (b * q + d), .int a, .int b, .int (e * q + g), .int (f * q + h), .int e, .int f]) z1 z2 kk bg fx)) kk
    (.lst (cond w [.int m0, .int (m1 + 1 : Nat)] [.int (m0 + 1 : Nat), .int m1])))
theorem m_take (T : Txt K mg C) : ∀ D ∈ [C.c_Eight], Mth P w K mg base ca 1 D "take" (F_take C) := by
  refine mth T.m_Eight_take sc_Eight_take (fun ds Ω Q E h => ?_) (fun f cdv A outer s H E hr => ⟨_, _, (ass_cons (as_asg (ae_fld 0 (ae_var 0)) (ag_tup (n := 8) rfl (ags_cons (i := 3) sc_Eight_take.nd rfl (Or.inl rfl) (ags_cons (i := 4) sc_Eight_take.nd rfl (Or.inl rfl) (ags_cons (i := 5) sc_Eight_take.nd rfl (Or.inl rfl) (ags_cons (i := 6) sc_Eight_take.nd rfl (Or.inl rfl) (ags_cons (i := 7) sc_Eight_take.nd rfl (Or.inl rfl) (ags_cons (i := 8) sc_Eight_take.nd rfl (Or.inl rfl) (ags_cons (i := 9) sc_Eight_take.nd rfl (Or.inl rfl) (ags_cons (i := 10) sc_Eight_take.nd rfl (Or.inl rfl) ags_nil))))))))))
      (ass_cons (as_if (at_eqI (ae_var 1) ae_int) (ass_one (as_asg (ae_tup (aa_cons (ae_add (ae_mul (ae_var 3) (ae_var 2)) (ae_var 5)) (aa_cons (ae_add (ae_mul (ae_var 4) (ae_var 2)) (ae_var 6)) (aa_cons (ae_var 3) (aa_cons (ae_var 4) (aa_cons (ae_add (ae_mul (ae_var 7) (ae_var 2)) (ae_var 9)) (aa_cons (ae_add (ae_mul (ae_var 8) (ae_var 2)) (ae_var 10)) (aa_cons (ae_var 7) (aa_cons (ae_var 8) aa_nil))))))))) (ag_fld 0 (ae_var 0)))) (ass_one (as_asg (ae_tup (aa_cons (ae_add (ae_mul (ae_var 3) (ae_var 2)) (ae_var 4)) (aa_cons (ae_var 3) (aa_cons (ae_add (ae_mul (ae_var 5) (ae_var 2)) (ae_var 6)) (aa_cons (ae_var 5) (aa_cons (ae_add (ae_mul (ae_var 7) (ae_var 2)) (ae_var 8)) (aa_cons (ae_var 7) (aa_cons (ae_add (ae_mul (ae_var 9) (ae_var 2)) (ae_var 10)) (aa_cons (ae_var 9) aa_nil))))))))) (ag_fld 0 (ae_var 0)))))
      (ass_one (as_setIx (ae_add (ae_ix (ae_fld 2 (ae_var 0)) (ae_var 1)) ae_int) (ae_fld 2 (ae_var 0)) (ae_var 1))))), fun ds Ω Qa Ea h => ?_⟩)
  · obtain ⟨_, _, _, _, _, _, _, _, _, _, _, _, _, _, _, _, _, _, rfl, _⟩ := h
    rfl
  · obtain ⟨p, z1, z2, kk, a, b, c, d, e, f', g, h', q, m0, m1, bg, w, fx, rfl, ho, hk, hne, ⟨ha, hb, hc, hd, he, hf, hg, hh⟩, hq, k⟩ := h
    have hpk : p ≠ kk := Ne.symm hne
    cases w with
    | true =>
      simp only [bI, cond] at k ⊢
      walk_at "pl"
      rw [ho]
      walk_at "pl"
      rw [if_neg (by decide)]
      refine ⟨sm_mul ha hq, sm_mul hc hq, sm_mul he hq, sm_mul hg hq, by decide, ?_⟩
      rw [ho]
      walk_at "pl"
      simp only [D.seq, oset_ne hne, hk]
      walk_at "pl"
      exact ⟨by decide, 1, by decide, k⟩
    | false =>
      simp only [bI, cond] at k ⊢
      walk_at "pl"
      rw [ho]
      walk_at "pl"
      refine ⟨sm_mul ha hq, sm_mul hb hq, sm_mul he hq, sm_mul hf hq, by decide, ?_⟩
      rw [ho]
      walk_at "pl"
      simp only [D.seq, oset_ne hne, hk]
      walk_at "pl"
      exact ⟨by decide, 0, by decide, k⟩
def F_left (C : CT) : AF := fun ds Ω Q _ => ∃ (p z1 z2 kk : Addr) (a b c d e f g h : Int) (m0 m1 : Nat) (bg w : Bool) (fx : D), ds = [.o p, .int (bI w)] ∧ Ω p = some (oEight C [.int a, .int b, .int c, .int d, .int e, .int f, .int g, .int h] z1 z2 kk bg fx) ∧ Ω kk = some (.lst [.int m0, .int m1]) ∧
  Sm8 a b c d e f g h ∧ ∀ q, Ω q = none → Q (.o q) (oset Ω q (if a * cond w g f ≠ cond w c b * e then oFour C [.int a, .int (cond w c b), .int e, .int (cond w g f)] (cond w z1 z2) (decide (0 < cond w m0 m1)) bg .non else
    oFixed C (if a = 0 ∧ e = 0 then cond w c b else a) (if a = 0 ∧ e = 0 then cond w g f else e) bg))
def M_left (C : CT) (p : Addr) (a b c d e f g h : Int) (w : Bool) (Ω : Om) : En → Om → Prop := fun ρ Ω' => Ω' = Ω ∧ ∃ z3 z4 z5 z6 z7 z8 z9 z10, ρ = [some (.o p), some (.int (bI w)), z3, z4, z5, z6, z7, z8, z9, z10, some (.tup [.int a, .int (cond w c b), .int e, .int (cond w g f)])]
theorem m_left (T : Txt K mg C) : ∀ D ∈ [C.c_Eight], Mth P w K mg base ca 3 D "left_of" (F_left C) := by
  refine mth T.m_Eight_left_of sc_Eight_left_of (fun ds Ω Q E h => ?_) (fun f cdv A outer s H E hr => ⟨_, _, (ass_cons (as_asg (ae_fld 0 (ae_var 0)) (ag_tup (n := 8) rfl (ags_cons (i := 2) sc_Eight_left_of.nd rfl (Or.inl rfl) (ags_cons (i := 3) sc_Eight_left_of.nd rfl (Or.inl rfl) (ags_cons (i := 4) sc_Eight_left_of.nd rfl (Or.inl rfl) (ags_cons (i := 5) sc_Eight_left_of.nd rfl (Or.inl rfl) (ags_cons (i := 6) sc_Eight_left_of.nd rfl (Or.inl rfl) (ags_cons (i := 7) sc_Eight_left_of.nd rfl (Or.inl rfl) (ags_cons (i := 8) sc_Eight_left_of.nd rfl (Or.inl rfl) (ags_cons (i := 9) sc_Eight_left_of.nd rfl (Or.inl rfl) ags_nil))))))))))
      (ass_cons (as_set 10 sc_Eight_left_of.nd (ae_tup (aa_cons (ae_var 2) (aa_cons (ae_var 3) (aa_cons (ae_var 6) (aa_cons (ae_var 7) aa_nil))))))
      (ass_cut (as_if (at_eqI (ae_var 1) ae_int) (ass_one (as_set 10 sc_Eight_left_of.nd (ae_tup (aa_cons (ae_var 2) (aa_cons (ae_var 4) (aa_cons (ae_var 6) (aa_cons (ae_var 8) aa_nil))))))) ass_nil)
      (ass_cons (as_if (at_neI (ae_mul (ae_ix (ae_var 10) ae_int) (ae_ix (ae_var 10) ae_int)) (ae_mul (ae_ix (ae_var 10) ae_int) (ae_ix (ae_var 10) ae_int))) (ass_one (as_ret (ae_make (mk_Four T) hr (takes_of rfl rfl rfl rfl) (by omega) (aa_cons (ae_var 10) (aa_cons (ae_ix (ae_fld 1 (ae_var 0)) (ae_sub ae_int (ae_var 1))) (aa_cons (ae_gt (ae_ix (ae_fld 2 (ae_var 0)) (ae_sub ae_int (ae_var 1))) ae_int) (aa_cons (ae_fld 3 (ae_var 0)) aa_nil))))))) ass_nil)
      (ass_cons (as_if (AWt.at_ (aw_and (at_eqI (ae_ix (ae_var 10) ae_int) ae_int) (aw_and1 (at_eqI (ae_ix (ae_var 10) ae_int) ae_int)))) (ass_one (as_ret (ae_make (mk_Fixed T) hr (takes_of rfl rfl rfl rfl) (by omega) (aa_cons (ae_ix (ae_var 10) ae_int) (aa_cons (ae_ix (ae_var 10) ae_int) (aa_cons (ae_fld 3 (ae_var 0)) aa_nil)))))) ass_nil)
      (ass_one (as_ret (ae_make (mk_Fixed T) hr (takes_of rfl rfl rfl rfl) (by omega) (aa_cons (ae_ix (ae_var 10) ae_int) (aa_cons (ae_ix (ae_var 10) ae_int) (aa_cons (ae_fld 3 (ae_var 0)) aa_nil))))))))))), fun ds Ω Qa Ea h => ?_⟩)
  · obtain ⟨_, _, _, _, _, _, _, _, _, _, _, _, _, _, _, _, _, rfl, _⟩ := h
    rfl
  · obtain ⟨p, z1, z2, kk, a, b, c, d, e, f', g, h', m0, m1, bg, w, fx, rfl, ho, hk, ⟨ha, hb, hc, hd, he, hf, hg, hh⟩, k⟩ := h
    walk_at "pl"
    rw [ho]
    walk_at "pl"
    refine ⟨by decide, M_left C p a b c d e f' g h' w Ω, ?_, ?_⟩
    · cases w with
      | true =>
        simp only [bI, cond]
        walk_at "pl"
        exact ⟨by decide, rfl, _, _, _, _, _, _, _, _, rfl⟩
      | false =>
        simp only [bI, cond]
        walk_at "pl"
        rw [if_neg (by decide)]
        exact ⟨rfl, _, _, _, _, _, _, _, _, rfl⟩
    · rintro ρ Ω1 ⟨rfl, z3, z4, z5, z6, z7, z8, z9, z10, rfl⟩
      have hp2 : Sm (cond w c b) := by cases w; exact hb; exact hc
      have hp4 : Sm (cond w g f') := by cases w; exact hf; exact hg
      walk_at "pl"
      refine ⟨sm_mul ha hp4, sm_mul hp2 he, ?_⟩
      by_cases hq : a * cond w g f' = cond w c b * e
      · rw [if_neg (by simpa using hq)]
        have k' : ∀ q, Ω1 q = none → Qa (.o q) (oset Ω1 q (oFixed C (if a = 0 ∧ e = 0 then cond w c b else a) (if a = 0 ∧ e = 0 then cond w g f' else e) bg)) := fun q hq' => by
          have := k q hq'
          rw [if_neg (fun z => z hq)] at this
          exact this
        clear k
        rw [ho]
        walk_at "pl"
        refine ite2 (fun e1 => ite2 (fun e2 => fun q hq => ?_) (fun e2 => fun q hq => ?_)) (fun e1 => fun q hq => ?_)
        · rw [if_pos ⟨e1, e2⟩, if_pos ⟨e1, e2⟩] at k'
          exact ⟨q, _, _, bg, rfl, oset_same, rfl, by rw [oset_oset]; exact k' q hq⟩
        · rw [if_neg (fun z => e2 z.2), if_neg (fun z => e2 z.2)] at k'
          exact ⟨q, _, _, bg, rfl, oset_same, rfl, by rw [oset_oset]; exact k' q hq⟩
        · rw [if_neg (fun z => e1 z.1), if_neg (fun z => e1 z.1)] at k'
          exact ⟨q, _, _, bg, rfl, oset_same, rfl, by rw [oset_oset]; exact k' q hq⟩
      · rw [if_pos (by simpa using hq)]
        have k' : ∀ q, Ω1 q = none → Qa (.o q) (oset Ω1 q (oFour C [.int a, .int (cond w c b), .int e, .int (cond w g f')] (cond w z1 z2) (decide (0 < cond w m0 m1)) bg .non)) := fun q hq' => by
          have := k q hq'
          rw [if_pos hq] at this
          exact this
        clear k
        rw [ho]
        walk_at "pl"
        simp only [seq_o hk]
        have e1 : atI [D.o z1, D.o z2] (1 - bI w) = some (.o (cond w z1 z2)) := by cases w <;> rfl
        have e2 : atI [D.int (m0 : Int), D.int (m1 : Int)] (1 - bI w) = some (.int ((cond w m0 m1 : Nat) : Int)) := by cases w <;> rfl
        rw [e1]
        walk_at "pl"
        refine ⟨_, e2, _, rfl, fun q hq => ⟨q, _, _, _, bg, rfl, oset_same, rfl, ?_⟩⟩
        rw [oset_oset]
        have e3 : decide (0 < ((cond w m0 m1 : Nat) : Int)) = decide (0 < cond w m0 m1) := by simp
        rw [e3]
        exact k' q hq
def I_eight (C : CT) (L : Nat) (p pu : Addr) (r' : R) (m' : Int) (ans : Ans) (S0 : List Addr) (Ω0 : Om) : Nat → En → Om → Prop := fun n ρ Ω => ∃ (r : R) (S : List Addr) (m : Int) (k : Nat) (z1 z2 z3 z4 z5 : Option D), r.kd = .eight ∧ r.lv ≤ L + 1 ∧ RdO C Ω p r S ∧ Ω pu = some (oPurse C m) ∧ pu ∉ S ∧ Told k r m r' m' ans ∧ Mv S0 pu Ω0 S Ω ∧
  n = (match r with | .eight .. => k + 1 | _ => 0) ∧ ρ = [some (.o p), some (.o pu), z1, z2, z3, z4, z5]
theorem rows_eq {a b c d e f g h q : Int} {Ω : Om} {ρ : En} {Wa : AW} {Q : AQ} (re : ATE) (vs : List Nat)
    (hs : ∀ k : Nat, k < 4 → ∀ (Ω' : Om) (R : AQ), Ω' = Ω → R (.int (([a, b, c, d].getD k 0) - q * ([e, f, g, h].getD k 0))) Ω' → re Wa ((wipeA ρ vs).set 6 (some (.int k))) Ω' R)
    (k : Q (.lst [.int (a - q * e), .int (b - q * f), .int (c - q * g), .int (d - q * h)]) Ω) : compL (agName 6) aYes re vs (rngD 0 4) [] Wa ρ Ω Q := by
  have e4 : rngD 0 4 = [0, 1, 2, 3].map fun k : Nat => D.int (k : Int) := rfl
  rw [e4]
  refine compL_map _ (fun k => .int (([a, b, c, d].getD k 0) - q * ([e, f, g, h].getD k 0))) (fun Ω' => Ω' = Ω) _ _ _ rfl (by decide) (fun x hx Ω' R Z hΩ hk => ?_) (fun Ω' hΩ => ?_)
  · subst hΩ
    simp only [aYes, agName, if_true]
    refine hs x ?_ _ _ rfl (hk _ rfl)
    simp only [List.mem_cons, List.not_mem_nil, or_false] at hx
    omega
  · subst hΩ
    exact k
theorem which_eq {m0 m1 : Nat} {w : Bool} (h : w = decide (m1 < m0)) : (if (m1 : Int) < m0 then (1 : Int) else 0) = bI w := by
  subst h
  by_cases h : m1 < m0
  · rw [decide_eq_true h, if_pos (by omega)]; rfl
  · rw [decide_eq_false h, if_neg (by omega)]; rfl
theorem inn_eq {w : Bool} {y1 y2 : Addr} : atI [D.o y1, D.o y2] (bI w) = some (.o (cond w y2 y1)) := by cases w <;> rfl
theorem eight_step {Ω1 Ω2 : Om} {p kk pu y1 y2 : Addr} {x y z : R} {S1 S2 S3 : List Addr} (w : Bool) (hp : Ω1 p ≠ none) (hk : Ω1 kk ≠ none) (hpu : Ω1 pu ≠ none) (hx : RdO C Ω1 y1 x S1) (hy : RdO C Ω1 y2 y S2) (n2 : p ∉ S1) (n3 : p ∉ S2) (n4 : kk ∉ S1) (n5 : kk ∉ S2) (n6 : ∀ b ∈ S1, b ∉ S2)
    (hn : pu ∉ p :: kk :: (S1 ++ S2)) (hR : RdO C Ω2 (cond w y2 y1) z S3) (mv : Mv (cond w S2 S1) pu Ω1 S3 Ω2) : ∃ T1 T2, RdO C Ω2 y1 (cond w x z) T1 ∧ RdO C Ω2 y2 (cond w z y) T2 ∧ Ω2 p = Ω1 p ∧ Ω2 kk = Ω1 kk ∧ p ∉ T1 ∧ p ∉ T2 ∧ kk ∉ T1 ∧ kk ∉ T2 ∧ (∀ b ∈ T1, b ∉ T2) ∧ pu ∉ T1 ∧ pu ∉ T2 ∧ Mv (S1 ++ S2) pu Ω1 (T1 ++ T2) Ω2 := by
  have q0 : pu ≠ p := fun e => hn (by simp [e])
  have q1 : pu ≠ kk := fun e => hn (by simp [e])
  have q2 : pu ∉ S1 := fun e => hn (by simp [e])
  have q3 : pu ∉ S2 := fun e => hn (by simp [e])
  cases w with
  | true =>
    simp only [cond] at *
    have k1 : ∀ b ∈ S1, Ω2 b = Ω1 b ∧ b ∉ S3 := fun b hb => mv.keep (n6 b hb) (fun e => q2 (e ▸ hb)) (hx.there b hb)
    obtain ⟨g1, g2⟩ := mv.keep n3 (Ne.symm q0) hp
    obtain ⟨g3, g4⟩ := mv.keep n5 (Ne.symm q1) hk
    exact ⟨S1, S3, hx.keep fun b hb => (k1 b hb).1, hR, g1, g3, n2, g2, n4, g4, fun b hb => (k1 b hb).2, q2, mv.nopu q3 hpu, mv.of S1 fun _ _ => .inr True.intro⟩
  | false =>
    simp only [cond] at *
    have k1 : ∀ b ∈ S2, Ω2 b = Ω1 b ∧ b ∉ S3 := fun b hb => mv.keep (fun z => n6 b z hb) (fun e => q3 (e ▸ hb)) (hy.there b hb)
    obtain ⟨g1, g2⟩ := mv.keep n2 (Ne.symm q0) hp
    obtain ⟨g3, g4⟩ := mv.keep n4 (Ne.symm q1) hk
    refine ⟨S3, S2, hR, hy.keep fun b hb => (k1 b hb).1, g1, g3, g2, n3, g4, n5, fun b hb hb2 => (k1 b hb2).2 hb, mv.nopu q2 hpu, q3, ?_⟩
    refine ⟨fun b hb hbp hn => mv.fr b (fun z => hb (List.mem_append_left _ z)) hbp hn, fun b hb => ?_⟩
    rcases List.mem_append.mp hb with h' | h'
    · exact (mv.fs b h').imp (List.mem_append_left _) id
    · exact .inl (List.mem_append_right _ h')
theorem m_eightTold (T : Txt K mg C) {L : Nat} (hL : 3 ≤ L) (tl : Tolds P w K mg base ca C L) : ∀ D ∈ [C.c_Eight], Mth P w K mg base ca (L + 1) D "told" (F_told C .eight (L + 1)) := by
  refine mth T.m_Eight_told sc_Eight_told told_len (fun f cdv A outer s H E hr => ⟨_, _, (ass_cons (as_while (passes_of rfl) (at_isN (ae_fld 4 (ae_var 0))) (ass_cons (as_set 2 sc_Eight_told.nd (ae_meth0 (k := L) hr (takes_of rfl rfl rfl rfl) (by omega) (ae_var 0)))
      (ass_cons (as_if (at_notN (ae_var 2)) (ass_cons (as_asg ae_bl (ag_fld 3 (ae_var 0)))
      (ass_cons (as_setLcR (i := 3) rfl sc_Eight_told.nd rfl rfl (sw_true rfl rfl rfl (by decide +kernel)) rfl T.b_range ae_int (show BlkOk ["self", "purse", "found", "rows", "which", "got", "k"] (defScope s_Eight_told) _ [("k", 6)] from blkOk_by (by decide +kernel)) (wip_name (by decide)) (fun s1 H1 C1 cl1 fp1 => (ag_name (i := 6) sc_Eight_told.nd rfl (Or.inl rfl))) (fun s1 H1 C1 cl1 fp1 => AE.cast (ae_sub (ae_ix (ae_fld 0 (ae_var 0)) (ae_var 6)) (ae_mul (ae_var 2) (ae_ix (ae_fld 0 (ae_var 0)) (ae_add (ae_var 6) ae_int)))) (by first | (dsimp only [Blk, Cx.blk]; done) | rfl)))
      (ass_cons (as_asg (ae_catT (ae_sl (ae_fld 0 (ae_var 0)) (ao_some ae_int) ao_none) (ae_tuple rfl T.b_tuple (ae_var 3))) (ag_fld 0 (ae_var 0)))
      (ass_one (as_ret (ae_tup (aa_cons ae_str (aa_cons (ae_var 2) aa_nil)))))))) ass_nil)
      (ass_cons (as_set 4 sc_Eight_told.nd (ae_intB rfl T.b_int (ae_lt (ae_ix (ae_fld 2 (ae_var 0)) ae_int) (ae_ix (ae_fld 2 (ae_var 0)) ae_int))))
      (ass_cons (as_set 5 sc_Eight_told.nd (ae_meth (k := L) hr (takes_of rfl rfl rfl rfl) (by omega) (ae_ix (ae_fld 1 (ae_var 0)) (ae_var 4)) (aa_cons (ae_var 1) aa_nil)))
      (ass_cons (as_if (at_eqS (ae_ix (ae_var 5) ae_int) ae_str) (ass_one (as_ret (ae_var 5))) ass_nil)
      (ass_one (as_if (at_eqS (ae_ix (ae_var 5) ae_int) ae_str) (ass_one (as_asg (ae_meth (k := L) hr (takes_of rfl rfl rfl rfl) (by omega) (ae_var 0) (aa_cons (ae_var 4) aa_nil)) (ag_fld 4 (ae_var 0)))) (ass_one (as_expr (ae_meth (k := L) hr (takes_of rfl rfl rfl rfl) (by omega) (ae_var 0) (aa_cons (ae_var 4) (aa_cons (ae_ix (ae_var 5) ae_int) aa_nil)))))))))))))
      (ass_one (as_ret (ae_meth (k := L) hr (takes_of rfl rfl rfl rfl) (by omega) (ae_fld 4 (ae_var 0)) (aa_cons (ae_var 1) aa_nil))))), fun ds Ω Qa Ea h => ?_⟩)
  obtain ⟨p, pu, r, S, n, m, r', m', ans, rfl, hk, hl, hR, hp, hn, ht, k⟩ := h
  walk_at "pl"
  refine ⟨I_eight C L p pu r' m' ans S Ω, ⟨_, r, S, m, n, none, none, none, none, none, hk, hl, hR, hp, hn, ht, .refl, rfl, rfl⟩, ?_⟩
  rintro n ρ Ω1 ⟨r, S1, m, i, z1, z2, z3, z4, z5, hk, hl, hR, hp, hn, ht, mv, rfl, rfl⟩
  have fin : ∀ {S2 : List Addr} {Ω2 : Om}, RdO C Ω2 p r' S2 → Ω2 pu = some (oPurse C m') → Mv S pu Ω S2 Ω2 → ans.ok C Qa Ea Ω2 := fun hR2 hp2 mv2 => k _ _ hR2 hp2 mv2.fr mv2.fs nofun
  clear k
  have hpn : Ω1 pu ≠ none := by rw [hp]; simp
  cases hR with
  | eight ho hkk hx hy n1 n2 n3 n4 n5 n6 =>
    rename_i y1 y2 kk a b c d e f' g h' m0 m1 bg x y S1 S2
    have hne : pu ≠ p := fun e => hn (by simp [e])
    walk_at "pl"
    rw [ho]
    walk_at "pl"
    simp only [D.isNon]
    walk_at "pl"
    refine ⟨by walk_at "nm", F_sure8 C, (m_sure8 T _ (by simp)).mono (by omega), p, y1, y2, kk, a, b, c, d, e, f', g, h', m0, m1, bg, .non, rfl, ho, hkk, ?_⟩
    have hnn : Ω1 p ≠ none := by rw [ho]; simp
    have hkn : Ω1 kk ≠ none := by rw [hkk]; simp
    have lvs : ∀ w : Bool, (cond w y x).lv ≤ L := fun w => by cases w <;> simp only [R.lv, cond] at hl ⊢ <;> omega
    have rds : ∀ w : Bool, RdO C Ω1 (cond w y2 y1) (cond w y x) (cond w S2 S1) := fun w => by cases w; exact hx; exact hy
    have nps : ∀ w : Bool, pu ∉ cond w S2 S1 := fun w e => hn (by cases w <;> simp only [cond] at e <;> simp [e])
    cases ht with
    | etTell h1 hs =>
      rename_i q
      obtain ⟨ha, hb, hc, hd, he, hf, hg, hh⟩ := h1
      refine ⟨ha, hb, hc, hd, he, hf, hg, hh, ?_⟩
      rw [hs]
      simp only [optD]
      walk_at "pl"
      have hq := sure8_bg hs ha hb hc hd
      rw [if_pos (by decide)]
      rw [ho]
      walk_at "pl"
      refine ⟨by decide, by decide, by decide, rows_eq (a := a) (b := b) (c := c) (d := d) (e := e) (f := f') (g := g) (h := h') (q := q) _ _ (fun k hk4 Ω2 R hΩ hk => ?_) ?_⟩
      · subst hΩ
        simp only [wipeA]
        walk_at "pl"
        have hbq : Bg q := hq
        rcases (by omega : k = 0 ∨ k = 1 ∨ k = 2 ∨ k = 3) with rfl | rfl | rfl | rfl
        · exact ⟨_, rfl, _, rfl, _, rfl, bg_mul hq (sm_bg he), _, rfl, hk⟩
        · exact ⟨_, rfl, _, rfl, _, rfl, bg_mul hq (sm_bg hf), _, rfl, hk⟩
        · exact ⟨_, rfl, _, rfl, _, rfl, bg_mul hq (sm_bg hg), _, rfl, hk⟩
        · exact ⟨_, rfl, _, rfl, _, rfl, bg_mul hq (sm_bg hh), _, rfl, hk⟩
      · rw [oset_same]
        walk_at "pl"
        rw [cut_4]
        refine ⟨by simp; decide, by decide, by decide, ?_⟩
        have hne' : ∀ b ∈ S1, b ≠ p := fun b hb e => n2 (e ▸ hb)
        have hne2 : ∀ b ∈ S2, b ≠ p := fun b hb e => n3 (e ▸ hb)
        exact fin (.eight oset_same ((oset_ne (Ne.symm n1)).trans hkk) (hx.keep fun b hb => oset_ne (hne' b hb)) (hy.keep fun b hb => oset_ne (hne2 b hb)) n1 n2 n3 n4 n5 n6) ((oset_ne hne).trans hp) (mv.trans (Mv.set (by simp)) hpn)
    | @etWait _ _ _ _ _ _ _ _ _ _ _ _ _ _ w j z _ h1 hs hw hx2 =>
      obtain ⟨ha, hb, hc, hd, he, hf, hg, hh⟩ := h1
      refine ⟨ha, hb, hc, hd, he, hf, hg, hh, ?_⟩
      rw [hs]
      simp only [optD]
      walk_at "pl"
      rw [ho]
      walk_at "pl"
      simp only [seq_o hkk]
      walk_at "pl"
      rw [if_neg (by decide), which_eq hw, inn_eq]
      refine ⟨_, rfl, _, rfl, told_in tl (lvs w) (rds w) hp (nps w) _ _ hx2 fun Ω2 S3 hR2 hp2 mv2 inn2 => ?_⟩
      obtain ⟨T1, T2, k1, k2, k3, k4, k5, k6, k7, k8, k9, k10, k11, k12⟩ := eight_step w hnn hkn hpn hx hy n2 n3 n4 n5 n6 hn hR2 mv2
      simp only [Ans.ok, Ans.d]
      walk_at "pl"
      exact fin (.eight (k3.trans ho) (k4.trans hkk) k1 k2 n1 k5 k6 k7 k8 k9) hp2 (mv.trans ((k12.cons kk).cons p) hpn)
    | @etNo _ _ _ _ _ _ _ _ _ _ _ _ _ _ w j z _ h1 hs hw hx2 =>
      obtain ⟨ha, hb, hc, hd, he, hf, hg, hh⟩ := h1
      refine ⟨ha, hb, hc, hd, he, hf, hg, hh, ?_⟩
      rw [hs]
      simp only [optD]
      walk_at "pl"
      rw [ho]
      walk_at "pl"
      simp only [seq_o hkk]
      walk_at "pl"
      rw [if_neg (by decide), which_eq hw, inn_eq]
      refine ⟨_, rfl, _, rfl, told_in tl (lvs w) (rds w) hp (nps w) _ _ hx2 fun Ω2 S3 hR2 hp2 mv2 inn2 => ?_⟩
      obtain ⟨T1, T2, k1, k2, k3, k4, k5, k6, k7, k8, k9, k10, k11, k12⟩ := eight_step w hnn hkn hpn hx hy n2 n3 n4 n5 n6 hn hR2 mv2
      exact fin (.eight (k3.trans ho) (k4.trans hkk) k1 k2 n1 k5 k6 k7 k8 k9) hp2 (mv.trans ((k12.cons kk).cons p) hpn)
    | @etFour _ _ _ _ _ _ _ _ _ _ _ _ _ _ w j z m2 jj fr _ _ h1 hs hw hx2 hdet ht2 =>
      have h1' := h1
      obtain ⟨ha, hb, hc, hd, he, hf, hg, hh⟩ := h1
      refine ⟨ha, hb, hc, hd, he, hf, hg, hh, ?_⟩
      rw [hs]
      simp only [optD]
      walk_at "pl"
      rw [ho]
      walk_at "pl"
      simp only [seq_o hkk]
      walk_at "pl"
      rw [if_neg (by decide), which_eq hw, inn_eq]
      refine ⟨_, rfl, _, rfl, told_in tl (lvs w) (rds w) hp (nps w) _ _ hx2 fun Ω2 S3 hR2 hp2 mv2 inn2 => ?_⟩
      obtain ⟨T1, T2, k1, k2, k3, k4, k5, k6, k7, k8, k9, k10, k11, k12⟩ := eight_step w hnn hkn hpn hx hy n2 n3 n4 n5 n6 hn hR2 mv2
      simp only [Ans.ok, Ans.d]
      walk_at "pl"
      rw [if_neg (by decide)]
      have ho2 := k3.trans ho
      have hk2 := k4.trans hkk
      rw [ho2]
      walk_at "pl"
      refine ⟨by walk_at "nm", F_left C, (m_left T _ (by simp)).mono (by omega), p, y1, y2, kk, a, b, c, d, e, f', g, h', m0, m1, bg, w, .non, rfl, ho2, hk2, h1', fun q hq => ?_⟩
      have hqp : q ≠ p := fun e => by rw [e, ho2] at hq; cases hq
      have hqu : q ≠ pu := fun e => by rw [e, hp2] at hq; cases hq
      have hq1 : q ∉ T1 := fun z => k1.there q z hq
      have hq2 : q ∉ T2 := fun z => k2.there q z hq
      rw [if_pos hdet]
      dsimp only
      rw [oset_ne (Ne.symm hqp), ho2]
      walk_at "pl"
      have hzl := hx2.lv
      have kp : ∀ b ∈ T1 ++ T2, ∀ u v, oset (oset Ω2 q u) p v b = Ω2 b := fun b hb u v => by
        have h1 : b ≠ p := fun e => by rcases List.mem_append.mp hb with z | z; exact k5 (e ▸ z); exact k6 (e ▸ z)
        have h2 : b ≠ q := fun e => by rcases List.mem_append.mp hb with z | z; exact hq1 (e ▸ z); exact hq2 (e ▸ z)
        rw [oset_ne h1, oset_ne h2]
      have mvn : ∀ (S' : List Addr) u v, (∀ b ∈ S', b = p ∨ b = q ∨ b ∈ T1 ++ T2) → Mv S pu Ω S' (oset (oset Ω2 q u) p v) := fun S' u v hS => by
        refine mv.trans (((k12.cons kk).cons p).trans ⟨fun b hb hbp hn => ?_, fun b hb => ?_⟩ (by rw [hp2]; simp)) hpn
        · rw [oset_ne (fun e => hb (by simp [e])), oset_ne (fun e => hn (by rw [e]; exact hq))]
        · rcases hS b hb with rfl | rfl | h
          · exact .inl (by simp)
          · exact .inr hq
          · exact .inl (by simp only [List.mem_cons]; exact .inr (.inr h))
      have hzl2 := lvs w
      refine ⟨by decide, 0, by omega, .eightF w z (.four a (cond w c b) e (cond w g f') (decide (0 < cond w m0 m1)) bg (cond w x y)), ?_⟩
      have hlw : (R.eightF w z (.four a (cond w c b) e (cond w g f') (decide (0 < cond w m0 m1)) bg (cond w x y))).lv ≤ L + 1 := by
        simp only [R.lv] at hl ⊢
        cases w <;> simp only [cond] at hzl hzl2 ⊢ <;> omega
      cases w with
      | true =>
        simp only [cond] at *
        refine ⟨p :: (T2 ++ (q :: T1)), m2, 0, _, _, _, _, _, rfl, hlw, .eightF (w := true) (ns := [.int a, .int b, .int c, .int d, .int e, .int f', .int g, .int h']) (z1 := y1) (z2 := y2) (k := kk) (bg := bg) (q := q) oset_same ((oset_ne hqp).trans oset_same) rfl (k2.keep fun b hb => kp b (List.mem_append_right _ hb) _ _) (.four ((oset_ne hqp).trans oset_same) (k1.keep fun b hb => kp b (List.mem_append_left _ hb) _ _) hq1) rfl k6 (by simp [Ne.symm hqp, k5]) (fun b hb => ?_), ?_, ?_, .exF rfl ht2, mvn _ _ _ (fun b hb => ?_), by first | rfl | trivial, by first | rfl | trivial⟩
        · simp only [List.mem_cons, not_or]
          exact ⟨fun e => hq2 (e ▸ hb), fun z => k9 b z hb⟩
        · rw [oset_ne hne, oset_ne (Ne.symm hqu)]; exact hp2
        · simp only [List.mem_cons, List.mem_append, not_or]
          exact ⟨hne, k11, Ne.symm hqu, k10⟩
        · simp only [List.mem_cons, List.mem_append] at hb ⊢
          rcases hb with h | h | h | h
          · exact .inl h
          · exact .inr (.inr (.inr h))
          · exact .inr (.inl h)
          · exact .inr (.inr (.inl h))
      | false =>
        simp only [cond] at *
        refine ⟨p :: (T1 ++ (q :: T2)), m2, 0, _, _, _, _, _, rfl, hlw, .eightF (w := false) (ns := [.int a, .int b, .int c, .int d, .int e, .int f', .int g, .int h']) (z1 := y1) (z2 := y2) (k := kk) (bg := bg) (q := q) oset_same ((oset_ne hqp).trans oset_same) rfl (k1.keep fun b hb => kp b (List.mem_append_left _ hb) _ _) (.four ((oset_ne hqp).trans oset_same) (k2.keep fun b hb => kp b (List.mem_append_right _ hb) _ _) hq2) rfl k5 (by simp [Ne.symm hqp, k6]) (fun b hb => ?_), ?_, ?_, .exF rfl ht2, mvn _ _ _ (fun b hb => ?_), by first | rfl | trivial, by first | rfl | trivial⟩
        · simp only [List.mem_cons, not_or]
          exact ⟨fun e => hq1 (e ▸ hb), fun z => k9 b hb z⟩
        · rw [oset_ne hne, oset_ne (Ne.symm hqu)]; exact hp2
        · simp only [List.mem_cons, List.mem_append, not_or]
          exact ⟨hne, k10, Ne.symm hqu, k11⟩
        · simp only [List.mem_cons, List.mem_append] at hb ⊢
          rcases hb with h | h | h | h
          · exact .inl h
          · exact .inr (.inr (.inl h))
          · exact .inr (.inl h)
          · exact .inr (.inr (.inr h))
    | @etFix _ _ _ _ _ _ _ _ _ _ _ _ _ _ w j z m2 t0 b0 t' b' g' _ _ h1 hs hw hx2 hdet htb ht2 =>
      have h1' := h1
      obtain ⟨ha, hb, hc, hd, he, hf, hg, hh⟩ := h1
      refine ⟨ha, hb, hc, hd, he, hf, hg, hh, ?_⟩
      rw [hs]
      simp only [optD]
      walk_at "pl"
      rw [ho]
      walk_at "pl"
      simp only [seq_o hkk]
      walk_at "pl"
      rw [if_neg (by decide), which_eq hw, inn_eq]
      refine ⟨_, rfl, _, rfl, told_in tl (lvs w) (rds w) hp (nps w) _ _ hx2 fun Ω2 S3 hR2 hp2 mv2 inn2 => ?_⟩
      obtain ⟨T1, T2, k1, k2, k3, k4, k5, k6, k7, k8, k9, k10, k11, k12⟩ := eight_step w hnn hkn hpn hx hy n2 n3 n4 n5 n6 hn hR2 mv2
      simp only [Ans.ok, Ans.d]
      walk_at "pl"
      rw [if_neg (by decide)]
      have ho2 := k3.trans ho
      have hk2 := k4.trans hkk
      rw [ho2]
      walk_at "pl"
      refine ⟨by walk_at "nm", F_left C, (m_left T _ (by simp)).mono (by omega), p, y1, y2, kk, a, b, c, d, e, f', g, h', m0, m1, bg, w, .non, rfl, ho2, hk2, h1', fun q hq => ?_⟩
      have hqp : q ≠ p := fun e => by rw [e, ho2] at hq; cases hq
      have hqu : q ≠ pu := fun e => by rw [e, hp2] at hq; cases hq
      have hq1 : q ∉ T1 := fun z => k1.there q z hq
      have hq2 : q ∉ T2 := fun z => k2.there q z hq
      rw [if_neg (fun z => z hdet)]
      dsimp only
      rw [oset_ne (Ne.symm hqp), ho2]
      walk_at "pl"
      have hzl := hx2.lv
      have kp : ∀ b ∈ T1 ++ T2, ∀ u v, oset (oset Ω2 q u) p v b = Ω2 b := fun b hb u v => by
        have h1 : b ≠ p := fun e => by rcases List.mem_append.mp hb with z | z; exact k5 (e ▸ z); exact k6 (e ▸ z)
        have h2 : b ≠ q := fun e => by rcases List.mem_append.mp hb with z | z; exact hq1 (e ▸ z); exact hq2 (e ▸ z)
        rw [oset_ne h1, oset_ne h2]
      have mvn : ∀ (S' : List Addr) u v, (∀ b ∈ S', b = p ∨ b = q ∨ b ∈ T1 ++ T2) → Mv S pu Ω S' (oset (oset Ω2 q u) p v) := fun S' u v hS => by
        refine mv.trans (((k12.cons kk).cons p).trans ⟨fun b hb hbp hn => ?_, fun b hb => ?_⟩ (by rw [hp2]; simp)) hpn
        · rw [oset_ne (fun e => hb (by simp [e])), oset_ne (fun e => hn (by rw [e]; exact hq))]
        · rcases hS b hb with rfl | rfl | h
          · exact .inl (by simp)
          · exact .inr hq
          · exact .inl (by simp only [List.mem_cons]; exact .inr (.inr h))
      have htb1 : (if a = 0 ∧ e = 0 then cond w c b else a) = t0 := by
        have := congrArg Prod.fst htb
        split at this <;> simp_all
      have htb2 : (if a = 0 ∧ e = 0 then cond w g f' else e) = b0 := by
        have := congrArg Prod.snd htb
        split at this <;> simp_all
      rw [htb1, htb2]
      refine ⟨by decide, 0, by omega, .eightX (cond w x z) (cond w z y) t0 b0 bg, p :: q :: (T1 ++ T2), m2, 0, _, _, _, _, _, rfl, ?_, .eightX (ns := [.int a, .int b, .int c, .int d, .int e, .int f', .int g, .int h']) (k := kk) (bg := bg) oset_same ((oset_ne hqp).trans oset_same) (k1.keep fun b hb => kp b (List.mem_append_left _ hb) _ _) (k2.keep fun b hb => kp b (List.mem_append_right _ hb) _ _) (Ne.symm hqp) k5 k6 hq1 hq2 k9, ?_, ?_, .exX ht2, mvn _ _ _ (fun b hb => ?_), rfl, rfl⟩
      · have hzl2 := lvs w
        simp only [R.lv] at hl ⊢
        cases w <;> simp only [cond] at hzl hzl2 ⊢ <;> omega
      · rw [oset_ne hne, oset_ne (Ne.symm hqu)]; exact hp2
      · simp only [List.mem_cons, List.mem_append, not_or]
        exact ⟨hne, Ne.symm hqu, k10, k11⟩
      · simp only [List.mem_cons] at hb
        rcases hb with h | h | h
        · exact .inl h
        · exact .inr (.inl h)
        · exact .inr (.inr h)
    | @etIn0 _ _ _ _ _ _ _ _ _ _ _ _ _ _ j z m2 q jj _ _ _ h1 hs hw hx2 hq ht2 =>
      have h1' := h1
      obtain ⟨ha, hb, hc, hd, he, hf, hg, hh⟩ := h1
      refine ⟨ha, hb, hc, hd, he, hf, hg, hh, ?_⟩
      rw [hs]
      simp only [optD]
      walk_at "pl"
      rw [ho]
      walk_at "pl"
      simp only [seq_o hkk]
      walk_at "pl"
      have hw' : false = decide (m1 < m0) := (decide_eq_false hw).symm
      rw [if_neg (by decide), which_eq hw', inn_eq]
      refine ⟨_, rfl, _, rfl, told_in tl (lvs false) (rds false) hp (nps false) _ _ hx2 fun Ω2 S3 hR2 hp2 mv2 inn2 => ?_⟩
      obtain ⟨T1, T2, k1, k2, k3, k4, k5, k6, k7, k8, k9, k10, k11, k12⟩ := eight_step false hnn hkn hpn hx hy n2 n3 n4 n5 n6 hn hR2 mv2
      simp only [Ans.ok, Ans.d]
      walk_at "pl"
      rw [if_neg (by decide), if_neg (by decide)]
      have ho2 := k3.trans ho
      have hk2 := k4.trans hkk
      rw [ho2]
      walk_at "pl"
      refine ⟨by walk_at "nm", F_take C, (m_take T _ (by simp)).mono (by omega), p, y1, y2, kk, a, b, c, d, e, f', g, h', q, m0, m1, bg, false, .non, rfl, ho2, hk2, Ne.symm n1, h1', hq, ?_⟩
      have hkp : pu ≠ kk := fun e => hn (by simp [e])
      have kp : ∀ b ∈ T1 ++ T2, ∀ u v, oset (oset Ω2 p u) kk v b = Ω2 b := fun b hb u v => by
        have h1 : b ≠ p := fun e => by rcases List.mem_append.mp hb with z | z; exact k5 (e ▸ z); exact k6 (e ▸ z)
        have h2 : b ≠ kk := fun e => by rcases List.mem_append.mp hb with z | z; exact k7 (e ▸ z); exact k8 (e ▸ z)
        rw [oset_ne h2, oset_ne h1]
      have hzl := hx2.lv
      refine ⟨_, Nat.lt_succ_self _, _, p :: kk :: (T1 ++ T2), m2, _, _, _, _, _, _, rfl, ?_, .eight ((oset_ne n1).trans oset_same) oset_same (k1.keep fun b hb => kp b (List.mem_append_left _ hb) _ _) (k2.keep fun b hb => kp b (List.mem_append_right _ hb) _ _) n1 k5 k6 k7 k8 k9, ?_, ?_, ht2, mv.trans (((k12.cons kk).cons p).trans ((Mv.set (by simp)).trans (Mv.set (by simp)) (by rw [oset_ne hne, hp2]; simp)) (by rw [hp2]; simp)) hpn, rfl, rfl⟩
      · simp only [R.lv, cond] at hl ⊢
        omega
      · rw [oset_ne hkp, oset_ne hne]; exact hp2
      · simp only [List.mem_cons, List.mem_append, not_or]
        exact ⟨hne, hkp, k10, k11⟩
    | @etIn1 _ _ _ _ _ _ _ _ _ _ _ _ _ _ j z m2 q jj _ _ _ h1 hs hw hx2 hq ht2 =>
      have h1' := h1
      obtain ⟨ha, hb, hc, hd, he, hf, hg, hh⟩ := h1
      refine ⟨ha, hb, hc, hd, he, hf, hg, hh, ?_⟩
      rw [hs]
      simp only [optD]
      walk_at "pl"
      rw [ho]
      walk_at "pl"
      simp only [seq_o hkk]
      walk_at "pl"
      have hw' : true = decide (m1 < m0) := (decide_eq_true hw).symm
      rw [if_neg (by decide), which_eq hw', inn_eq]
      refine ⟨_, rfl, _, rfl, told_in tl (lvs true) (rds true) hp (nps true) _ _ hx2 fun Ω2 S3 hR2 hp2 mv2 inn2 => ?_⟩
      obtain ⟨T1, T2, k1, k2, k3, k4, k5, k6, k7, k8, k9, k10, k11, k12⟩ := eight_step true hnn hkn hpn hx hy n2 n3 n4 n5 n6 hn hR2 mv2
      simp only [Ans.ok, Ans.d]
      walk_at "pl"
      rw [if_neg (by decide), if_neg (by decide)]
      have ho2 := k3.trans ho
      have hk2 := k4.trans hkk
      rw [ho2]
      walk_at "pl"
      refine ⟨by walk_at "nm", F_take C, (m_take T _ (by simp)).mono (by omega), p, y1, y2, kk, a, b, c, d, e, f', g, h', q, m0, m1, bg, true, .non, rfl, ho2, hk2, Ne.symm n1, h1', hq, ?_⟩
      have hkp : pu ≠ kk := fun e => hn (by simp [e])
      have kp : ∀ b ∈ T1 ++ T2, ∀ u v, oset (oset Ω2 p u) kk v b = Ω2 b := fun b hb u v => by
        have h1 : b ≠ p := fun e => by rcases List.mem_append.mp hb with z | z; exact k5 (e ▸ z); exact k6 (e ▸ z)
        have h2 : b ≠ kk := fun e => by rcases List.mem_append.mp hb with z | z; exact k7 (e ▸ z); exact k8 (e ▸ z)
        rw [oset_ne h2, oset_ne h1]
      have hzl := hx2.lv
      refine ⟨_, Nat.lt_succ_self _, _, p :: kk :: (T1 ++ T2), m2, _, _, _, _, _, _, rfl, ?_, .eight ((oset_ne n1).trans oset_same) oset_same (k1.keep fun b hb => kp b (List.mem_append_left _ hb) _ _) (k2.keep fun b hb => kp b (List.mem_append_right _ hb) _ _) n1 k5 k6 k7 k8 k9, ?_, ?_, ht2, mv.trans (((k12.cons kk).cons p).trans ((Mv.set (by simp)).trans (Mv.set (by simp)) (by rw [oset_ne hne, hp2]; simp)) (by rw [hp2]; simp)) hpn, rfl, rfl⟩
      · simp only [R.lv, cond] at hl ⊢
        omega
      · rw [oset_ne hkp, oset_ne hne]; exact hp2
      · simp only [List.mem_cons, List.mem_append, not_or]
        exact ⟨hne, hkp, k10, k11⟩
  | eightX ho hq hx hy n1 n2 n3 n4 n5 n6 =>
    rename_i y1 y2 kk q ns t b g bg x y S1 S2
    walk_at "pl"
    rw [ho]
    walk_at "pl"
    simp only [D.isNon]
    walk_at "pl"
    refine ⟨_, _, hq, by walk_at "nm", F_told C .fixed L, tl.all .fixed _ (by simp [CT.cls]), q, pu, .fixed t b g, [q], 0, m, ?_⟩
    have hnS : ∀ b ∈ S1 ++ S2, b ≠ q ∧ b ≠ pu := fun b hb => ⟨fun e => by
      rw [e] at hb
      rcases List.mem_append.mp hb with z | z
      · exact n4 z
      · exact n5 z, fun e => hn (by rw [← e]; simp only [List.mem_cons]; exact .inr (.inr hb))⟩
    cases ht with
    | @exX _ _ _ _ _ _ t' b' g' _ _ ht =>
      refine ⟨.fixed t' b' g', m', ans, rfl, rfl, by simp only [R.lv]; omega, .fixed hq, hp, fun e => hn (by simp at e; simp [e]), ht, fun Ω2 S3 hR2 hp2 fr2 fs2 _ => ?_⟩
      cases hR2 with
      | fixed hf2 =>
        have hne : pu ≠ p := fun e => hn (by simp [e])
        have e1 : Ω2 p = Ω1 p := fr2 p (by simp [n1]) (Ne.symm hne) (by rw [ho]; simp)
        have kp : ∀ b ∈ S1 ++ S2, Ω1 b ≠ none → Ω2 b = Ω1 b := fun b hb hbn => fr2 b (by simp [(hnS b hb).1]) (hnS b hb).2 hbn
        refine fin (.eightX (e1.trans ho) hf2 (hx.keep fun b hb => kp b (List.mem_append_left _ hb) (hx.there b hb)) (hy.keep fun b hb => kp b (List.mem_append_right _ hb) (hy.there b hb)) n1 n2 n3 n4 n5 n6) hp2 (mv.trans ⟨fun b hb hbp hn => fr2 b (fun z => hb (by simp at z; simp [z])) hbp hn, fun b hb => .inl hb⟩ hpn)
  | eightF ho hq hl2 hx hy hkd n1 n2 n3 =>
    rename_i y1 y2 kk q c ns fs bg w dead fr S1 S2
    walk_at "pl"
    rw [ho]
    walk_at "pl"
    simp only [D.isNon]
    walk_at "pl"
    have hnp2 : pu ∉ S2 := fun e => hn (by simp [e])
    have hne : pu ≠ p := fun e => hn (by simp [e])
    cases ht with
    | exF _ ht =>
      rename_i fr'
      refine told_in tl (by simp only [R.lv] at hl; omega) hy hp hnp2 _ _ ht fun Ω2 S3 hR2 hp2 mv2 inn2 => ?_
      obtain ⟨e1, e2⟩ := mv2.keep n2 (Ne.symm hne) (by rw [ho]; simp)
      obtain ⟨c1, fs1, c2, fs2, g1, g2, g3⟩ := inn2 hkd
      rw [hq] at g1
      cases g1
      have hS1 : ∀ b ∈ S1, Ω2 b = Ω1 b ∧ b ∉ S3 := fun b hb => mv2.keep (n3 b hb) (fun e => hn (by rw [← e]; simp [hb])) (hx.there b hb)
      have := fin (.eightF (e1.trans ho) g2 (g3.trans hl2) (hx.keep fun b hb => (hS1 b hb).1) hR2 ?_ n1 e2 fun b hb => (hS1 b hb).2) hp2 (mv.trans ((mv2.of S1 fun _ _ => .inr True.intro).cons p) hpn)
      · cases ans <;> exact this
      · rw [ht.kd]; exact hkd
  | _ => cases hk
theorem tolds (T : Txt K mg C) : ∀ {L : Nat}, 3 ≤ L → Tolds P w K mg base ca C L
  | 0, h => by omega
  | L + 1, h => by
    by_cases e : L + 1 = 3
    · have : L = 2 := by omega
      subst this
      exact tolds3 T
    · have tl := tolds T (L := L) (by omega)
      refine ⟨fun kd D hD => ?_⟩
      cases kd with
      | fixed => exact ((m_fixedTold T D hD).imp (F_told_fixed (by omega))).mono (by omega)
      | leaf => exact ((m_leafTold T D hD).imp (F_told_leaf (by omega))).mono (by omega)
      | four => exact m_fourTold T (by omega) tl D hD
      | eight => exact m_eightTold T (by omega) tl D hD
structure Tooks (P : Program) (w : World) (K : PySem.W.Frag) (mg : Str → Option Value) (base : Heap) (ca : CA) (C : CT) (L : Nat) : Prop where
  all : ∀ kd, ∀ D ∈ C.cls kd, Mth P w K mg base ca L D "took" (F_took C fun r => r.kd = kd ∧ r.lv ≤ L)
theorem took_in {L : Nat} (tk : Tooks P w K mg base ca C L) {z : Addr} {x : R} {S1 : List Addr} {Ω1 : Om} (hlx : x.lv ≤ L) (hz : RdO C Ω1 z x S1) (Q : AQ) (E : Value → Om → Prop) (k : Q (.int x.tk) Ω1) :
    ∃ c fs, Ω1 z = some (.obj c fs) ∧ ("took" : Str) ∉ fs.map (·.1) ∧ ∃ F, Mth P w K mg base ca L c "took" F ∧ F [.o z] Ω1 Q E := by
  obtain ⟨c, fs, ho, hm, hc⟩ := hz.obj
  exact ⟨c, fs, ho, hm _ (.inr (.inr rfl)), _, tk.all x.kd c hc, z, x, S1, rfl, hz, ⟨rfl, hlx⟩, k⟩
theorem m_fixedTook (T : Txt K mg C) : ∀ D ∈ [C.c_Fixed], Mth P w K mg base ca 1 D "took" (F_took C fun r => r.kd = .fixed) := by
  refine mth T.m_Reader_took sc_Reader_took (fun ds Ω Q E h => ?_) (fun f cdv A outer s H E hr => ⟨_, _, (ass_one (as_ret ae_int)), fun ds Ω Qa Ea h => ?_⟩)
  · obtain ⟨_, _, _, rfl, _⟩ := h
    rfl
  · obtain ⟨p, x, S, rfl, hR, hk, k⟩ := h
    cases hR with
    | fixed ho =>
      walk_at "pl"
      exact k
    | _ => cases hk
theorem m_fourTook (T : Txt K mg C) {L : Nat} (tk : Tooks P w K mg base ca C L) : ∀ D ∈ [C.c_Four], Mth P w K mg base ca (L + 1) D "took" (F_took C fun r => r.kd = .four ∧ r.lv ≤ L + 1) := by
  refine mth T.m_Four_took sc_Four_took (fun ds Ω Q E h => ?_) (fun f cdv A outer s H E hr => ⟨_, _, (ass_one (as_ret (ae_meth0 (k := L) hr (takes_of rfl rfl rfl rfl) (by omega) (ae_fld 1 (ae_var 0))))), fun ds Ω Qa Ea h => ?_⟩)
  · obtain ⟨_, _, _, rfl, _⟩ := h
    rfl
  · obtain ⟨p, x, S, rfl, hR, ⟨hk, hl⟩, k⟩ := h
    cases hR with
    | four ho hz =>
      walk_at "pl"
      rw [ho]
      walk_at "pl"
      exact took_in tk (by simp only [R.lv] at hl; omega) hz _ _ k
    | fourX ho _ hz =>
      walk_at "pl"
      rw [ho]
      walk_at "pl"
      exact took_in tk (by simp only [R.lv] at hl; omega) hz _ _ k
    | _ => cases hk
theorem m_eightTook (T : Txt K mg C) {L : Nat} (tk : Tooks P w K mg base ca C L) : ∀ D ∈ [C.c_Eight], Mth P w K mg base ca (L + 1) D "took" (F_took C fun r => r.kd = .eight ∧ r.lv ≤ L + 1) := by
  refine mth T.m_Eight_took sc_Eight_took (fun ds Ω Q E h => ?_) (fun f cdv A outer s H E hr => ⟨_, _, (ass_one (as_ret (ae_add (ae_meth0 (k := L) hr (takes_of rfl rfl rfl rfl) (by omega) (ae_ix (ae_fld 1 (ae_var 0)) ae_int)) (ae_meth0 (k := L) hr (takes_of rfl rfl rfl rfl) (by omega) (ae_ix (ae_fld 1 (ae_var 0)) ae_int))))), fun ds Ω Qa Ea h => ?_⟩)
  · obtain ⟨_, _, _, rfl, _⟩ := h
    rfl
  · obtain ⟨p, x, S, rfl, hR, ⟨hk, hl⟩, k⟩ := h
    cases hR with
    | eight ho _ hx hy =>
      walk_at "pl"
      rw [ho]
      walk_at "pl"
      refine took_in tk (by simp only [R.lv] at hl; omega) hx _ _ ?_
      rw [ho]
      walk_at "pl"
      refine took_in tk (by simp only [R.lv] at hl; omega) hy _ _ ⟨_, rfl, ?_⟩
      simp only [R.tk, Int.natCast_add] at k
      exact k
    | eightX ho _ hx hy =>
      walk_at "pl"
      rw [ho]
      walk_at "pl"
      refine took_in tk (by simp only [R.lv] at hl; omega) hx _ _ ?_
      rw [ho]
      walk_at "pl"
      refine took_in tk (by simp only [R.lv] at hl; omega) hy _ _ ⟨_, rfl, ?_⟩
      simp only [R.tk, Int.natCast_add] at k
      exact k
    | @eightF _ z1 z2 kk q c ns fs bg w dead fr S1 S2 ho hq hi hd hf hkd =>
      walk_at "pl"
      rw [ho]
      walk_at "pl"
      -- the reader within the four
      obtain ⟨xi, Si, hxi, htk, hlv⟩ : ∃ xi Si, RdO C Ω (if w then z1 else z2) xi Si ∧ xi.tk = fr.tk ∧ xi.lv ≤ fr.lv := by
        cases hf with
        | four e hz =>
          rw [hq] at e
          cases e
          simp only [List.getElem?_cons_succ, List.getElem?_cons_zero, Option.some.injEq, Prod.mk.injEq, D.o.injEq, true_and] at hi
          rw [hi] at hz
          exact ⟨_, _, hz, rfl, by simp only [R.lv]; omega⟩
        | fourX e _ hz =>
          rw [hq] at e
          cases e
          simp only [List.getElem?_cons_succ, List.getElem?_cons_zero, Option.some.injEq, Prod.mk.injEq, D.o.injEq, true_and] at hi
          rw [hi] at hz
          exact ⟨_, _, hz, rfl, by simp only [R.lv]; omega⟩
        | _ => cases hkd
      cases w with
      | true =>
        simp only [if_true, Bool.false_eq_true, if_false] at *
        refine took_in tk (by simp only [R.lv] at hl; omega) hxi _ _ ?_
        rw [ho]
        walk_at "pl"
        refine took_in tk (by simp only [R.lv] at hl; omega) hd _ _ ⟨_, rfl, ?_⟩
        simp only [R.tk, Int.natCast_add] at k
        rw [htk, Int.add_comm]
        exact k
      | false =>
        simp only [if_true, Bool.false_eq_true, if_false] at *
        refine took_in tk (by simp only [R.lv] at hl; omega) hd _ _ ?_
        rw [ho]
        walk_at "pl"
        refine took_in tk (by simp only [R.lv] at hl; omega) hxi _ _ ⟨_, rfl, ?_⟩
        simp only [R.tk, Int.natCast_add] at k
        rw [htk]
        exact k
    | _ => cases hk
theorem tooks (T : Txt K mg C) : ∀ {L : Nat}, 3 ≤ L → Tooks P w K mg base ca C L
  | 0, h => by omega
  | L + 1, h => by
    have st : (4 ≤ L + 1 → Tooks P w K mg base ca C L) → Tooks P w K mg base ca C (L + 1) := fun h4 => by
      refine ⟨fun kd D hD => ?_⟩
      cases kd with
      | fixed => exact ((m_fixedTook T D hD).imp fun ds Ω Q E ⟨p, x, S, e, h1, h2, h3⟩ => ⟨p, x, S, e, h1, h2.1, h3⟩).mono (by omega)
      | leaf => exact ((m_leafTook T D hD).imp fun ds Ω Q E ⟨p, x, S, e, h1, h2, h3⟩ => ⟨p, x, S, e, h1, h2.1, h3⟩).mono (by omega)
      | four =>
        by_cases e : 4 ≤ L + 1
        · exact m_fourTook T (h4 e) D hD
        · exact mth_none T.m_Four_took (fun ds Ω Q E ⟨p, x, S, _, _, ⟨hk, hl⟩, _⟩ => by have := R.lv_four hk; omega) D hD
      | eight =>
        by_cases e : 4 ≤ L + 1
        · exact m_eightTook T (h4 e) D hD
        · exact mth_none T.m_Eight_took (fun ds Ω Q E ⟨p, x, S, _, _, ⟨hk, hl⟩, _⟩ => by have := R.lv_eight hk; omega) D hD
    exact st fun h4 => tooks T (by omega)
inductive Rw where
  | frac (t b : Int)
  | root (t s b : Int)
  | ruled (ps ring steps : List Int)
  | four (ns : List Int) (x : Rw)
  | eight (ns : List Int) (x y : Rw)
  | power (x : Rw) (n : Int)
def Rw.d : Rw → D
  | .frac t b => .tup [.str "fraction", .int t, .int b]
  | .root t s b => .tup [.str "root", .int t, .int s, .int b]
  | .ruled ps ring steps => .tup [.str "ruled", dtup ps, dtup ring, dtup steps]
  | .four ns x => .tup [.str "four", dtup ns, x.d]
  | .eight ns x y => .tup [.str "eight", dtup ns, x.d, y.d]
  | .power x n => .tup [.str "power", x.d, .int n]
def fewB (n : Int) : Bool := decide (n.natAbs ≤ 10 ^ 12)
theorem fewB_iff {n : Int} : fewB n = true ↔ Few n := decide_eq_true_iff
def ruB (ps ring steps : List Int) : Bool := decide (1 ≤ ps.length ∧ ps.length ≤ 12 ∧ ring.length ≤ 12 ∧ ring.length = steps.length) && (ps ++ ring ++ steps).all fewB && (ps.drop 1 ++ ring).all (fun n => decide (1 ≤ n)) && steps.all (fun n => decide (0 ≤ n)) &&
  (if ring = [] then if 1 < ps.length then decide (2 ≤ ps.getLast?.getD 0) else true else true)
def apN (ns : List Int) (i j : Nat) : Bool := !decide (ns.getD i 0 * ns.getD (4 + j) 0 = ns.getD j 0 * ns.getD (4 + i) 0)
def apI (ns : List Int) (i j : Nat) : Bool := (List.range j).any (apN ns i)
def apA (ns : List Int) (i : Nat) : Bool := (List.range i).any fun i => apI ns i i
def eiB (ns : List Int) : Bool := decide (ns.length = 8) && ns.all fewB && apA ns 4
def foB (ns : List Int) : Bool := decide (ns.length = 4) && ns.all fewB && !decide (ns.getD 0 0 * ns.getD 3 0 = ns.getD 1 0 * ns.getD 2 0)
def Rw.ok : Nat → Rw → Bool
  | 0, _ => false
  | _ + 1, .frac t b => fewB t && fewB b && !decide (b = 0)
  | _ + 1, .root t s b => fewB t && fewB s && fewB b && decide (0 ≤ s) && !decide (b = 0)
  | _ + 1, .ruled ps ring steps => ruB ps ring steps
  | k + 1, .four ns x => foB ns && x.ok k
  | k + 1, .eight ns x y => eiB ns && x.ok k && y.ok k
  | k + 1, .power x n => decide (1 ≤ n ∧ n ≤ 4) && x.ok k
/-- refused or let by -/
def gate (C : CT) (b : Bool) (Q : AQ) (E : Value → Om → Prop) (Ω : Om) : Prop := if b = true then Q .non Ω else E (.ref C.c_BadTree) Ω
theorem gate_t {Q : AQ} {E : Value → Om → Prop} {Ω : Om} {b : Bool} (h : gate C b Q E Ω) (e : b = true) : Q .non Ω := by subst e; exact h
theorem gate_f {Q : AQ} {E : Value → Om → Prop} {Ω : Om} {b : Bool} (h : gate C b Q E Ω) (e : b = false) : E (.ref C.c_BadTree) Ω := by subst e; exact h
def F_numbersG (C : CT) : AF := fun ds Ω Q E => ∃ ns : List Int, ds = [.tup (ns.map D.int)] ∧ gate C (ns.all fewB) Q E Ω
def P_numbersG (d : D) (b : Bool) (Ω : Om) : List D → En → Om → Prop := fun us ρ Ω' => ∃ (ns : List Int) (z : Option D), us = ns.map D.int ∧ ns.all fewB = b ∧ Ω' = Ω ∧ ρ = [some d, z]
theorem few_abs {y : Int} : decide ((if y < 0 then -y else y) ≤ 1000000000000) = fewB y := by
  unfold fewB
  congr 1
  simp only [eq_iff_iff]
  split <;> omega
theorem c_need_numbersG (T : Txt K mg C) : Clb P w K mg base ca 2 "need_numbers" (F_numbersG C) := by
  refine clb T.d_need_numbers sc_need_numbers (fun ds Ω Q E h => ?_) (fun f cdv A outer s H E hr => ⟨_, _, (ass_one (as_forT (passes_of rfl) rfl (ae_var 0) (ag_name (i := 1) sc_need_numbers.nd rfl (Or.inl rfl)) (ass_one (as_expr (ae_call (c_must T) hr (takes_of rfl rfl rfl rfl) (by omega) (aa_cons (ae_le (ae_abs rfl T.b_abs (ae_var 1)) (ae_globE rfl T.g_MOST_NUMBER)) aa_nil)))))), fun ds Ω Qa Ea h => ?_⟩)
  · obtain ⟨_, rfl, _⟩ := h
    rfl
  · obtain ⟨ns, rfl, k⟩ := h
    walk_at "pl"
    refine forL_ind (P_numbersG (.tup (ns.map D.int)) (ns.all fewB) Ω) ⟨ns, none, rfl, rfl, rfl, rfl⟩ ?_ ?_
    · rintro ρ Ω' ⟨ms, z, e, hb, rfl, rfl⟩
      have : ms = [] := by cases ms with
        | nil => rfl
        | cons _ _ => cases e
      subst this
      exact gate_t k hb.symm
    · rintro x us ρ Ω' De _ ih _ _ ⟨ms, z, e, hm, rfl, rfl⟩
      cases ms with
      | nil => cases e
      | cons y ys =>
        simp only [List.map_cons, List.cons.injEq] at e
        obtain ⟨rfl, rfl⟩ := e
        walk_at "pl"
        refine ⟨_, rfl, ?_⟩
        rw [few_abs]
        rw [List.all_cons] at hm
        cases hy : fewB y with
        | true =>
          rw [hy, Bool.true_and] at hm
          exact ih _ _ ⟨ys, _, rfl, hm, rfl, rfl⟩
        | false =>
          rw [hy, Bool.false_and] at hm
          exact gate_f k hm.symm
def F_needRuledG (C : CT) : AF := fun ds Ω Q E => ∃ ps ring steps : List Int, ds = [dtup ps, dtup ring, dtup steps] ∧ gate C (ruB ps ring steps) Q E Ω
def P_ruG1 (a b c : D) (q : Bool) (Ω : Om) : List D → En → Om → Prop := fun us ρ Ω' => ∃ (ns : List Int) (z : Option D), us = ns.map D.int ∧ ns.all (fun n => decide (1 ≤ n)) = q ∧ Ω' = Ω ∧ ρ = [some a, some b, some c, z, none]
def P_ruG2 (a b c : D) (q : Bool) (Ω : Om) : List D → En → Om → Prop := fun us ρ Ω' => ∃ (ns : List Int) (z z2 : Option D), us = ns.map D.int ∧ ns.all (fun n => decide (0 ≤ n)) = q ∧ Ω' = Ω ∧ ρ = [some a, some b, some c, z, z2]
def M_ruG (a b c : D) (q : Prop) (Ω : Om) : En → Om → Prop := fun ρ Ω' => q ∧ Ω' = Ω ∧ ρ = [some a, some b, some c, none, none]
theorem c_need_ruledG (T : Txt K mg C) : Clb P w K mg base ca 3 "need_ruled" (F_needRuledG C) := by
  refine clb T.d_need_ruled sc_need_ruled (fun ds Ω Q E h => ?_) (fun f cdv A outer s H E hr => ⟨_, _, (ass_cut (as_expr (ae_call (c_must T) hr (takes_of rfl rfl rfl rfl) (by omega) (aa_cons (ae_and (ae_leLe ae_int (ae_len rfl T.b_len (ae_var 0)) (ae_globE rfl T.g_MOST_PARTS)) (ae_and (ae_le (ae_len rfl T.b_len (ae_var 1)) (ae_globE rfl T.g_MOST_PARTS)) (ae_one (ae_eqI (ae_len rfl T.b_len (ae_var 1)) (ae_len rfl T.b_len (ae_var 2)))))) aa_nil)))
      (ass_cons (as_expr (ae_call (c_need_numbersG T) hr (takes_of rfl rfl rfl rfl) (by omega) (aa_cons (ae_catT (ae_catT (ae_var 0) (ae_var 1)) (ae_var 2)) aa_nil)))
      (ass_cons (as_forT (passes_of rfl) rfl (ae_catT (ae_sl (ae_var 0) (ao_some ae_int) ao_none) (ae_var 1)) (ag_name (i := 3) sc_need_ruled.nd rfl (Or.inl rfl)) (ass_one (as_expr (ae_call (c_must T) hr (takes_of rfl rfl rfl rfl) (by omega) (aa_cons (ae_ge (ae_var 3) ae_int) aa_nil)))))
      (ass_cons (as_forT (passes_of rfl) rfl (ae_var 2) (ag_name (i := 4) sc_need_ruled.nd rfl (Or.inl rfl)) (ass_one (as_expr (ae_call (c_must T) hr (takes_of rfl rfl rfl rfl) (by omega) (aa_cons (ae_ge (ae_var 4) ae_int) aa_nil)))))
      (ass_one (as_if (AWt.at_ (aw_and (at_eqD hr.units (ae_var 1) (ae_tup aa_nil)) (aw_and1 (at_gt (ae_len rfl T.b_len (ae_var 0)) ae_int)))) (ass_one (as_expr (ae_call (c_must T) hr (takes_of rfl rfl rfl rfl) (by omega) (aa_cons (ae_ge (ae_ix (ae_var 0) (ae_neg ae_int)) ae_int) aa_nil)))) ass_nil)))))), fun ds Ω Qa Ea h => ?_⟩)
  · obtain ⟨_, _, _, rfl, _⟩ := h
    rfl
  · obtain ⟨ps, ring, steps, rfl, k⟩ := h
    unfold dtup
    walk_at "pl"
    refine ⟨M_ruG (.tup (ps.map D.int)) (.tup (ring.map D.int)) (.tup (steps.map D.int)) (1 ≤ ps.length ∧ ps.length ≤ 12 ∧ ring.length ≤ 12 ∧ ring.length = steps.length) Ω, ?_, ?_⟩
    · walk_at "pl"
      simp only [List.length_map]
      have bad : ¬ (1 ≤ ps.length ∧ ps.length ≤ 12 ∧ ring.length ≤ 12 ∧ ring.length = steps.length) → Ea (.ref C.c_BadTree) Ω := fun hn => gate_f k (by unfold ruB; rw [decide_eq_false hn]; rfl)
      have good : (1 ≤ ps.length ∧ ps.length ≤ 12 ∧ ring.length ≤ 12 ∧ ring.length = steps.length) → M_ruG (.tup (ps.map D.int)) (.tup (ring.map D.int)) (.tup (steps.map D.int)) (1 ≤ ps.length ∧ ps.length ≤ 12 ∧ ring.length ≤ 12 ∧ ring.length = steps.length) Ω [some (.tup (ps.map D.int)), some (.tup (ring.map D.int)), some (.tup (steps.map D.int)), none, none] Ω := fun h => ⟨h, rfl, rfl⟩
      refine ite2 (fun g1 => ite2 (fun g2 => ite2 (fun g3 => ⟨_, rfl, ?_⟩) (fun g => ⟨_, rfl, bad (by omega)⟩)) (fun g => ⟨_, rfl, bad (by omega)⟩)) (fun g => ⟨_, rfl, bad (by omega)⟩)
      refine ite2 (fun g4 => good ?_) (fun g4 => bad ?_)
      · have := of_decide_eq_true g4
        omega
      · have : ¬ (ring.length : Int) = steps.length := fun z => g4 (decide_eq_true z)
        omega
    · rintro ρ Ω' ⟨⟨h1, h2, h3, h4⟩, rfl, rfl⟩
      walk_at "pl"
      simp only [List.length_map, List.length_append]
      refine ⟨Nat.le_of_lt (small1000' (by omega)), Nat.le_of_lt (small1000' (by omega)), ps ++ ring ++ steps, by rw [List.map_append, List.map_append], ?_⟩
      have hru : ruB ps ring steps = ((ps ++ ring ++ steps).all fewB && (ps.drop 1 ++ ring).all (fun n => decide (1 ≤ n)) && steps.all (fun n => decide (0 ≤ n)) && (if ring = [] then if 1 < ps.length then decide (2 ≤ ps.getLast?.getD 0) else true else true)) := by
        unfold ruB
        rw [decide_eq_true ⟨h1, h2, h3, h4⟩, Bool.true_and]
      rw [hru] at k
      clear hru
      generalize hb0 : (ps ++ ring ++ steps).all fewB = b0 at k ⊢
      cases b0 with
      | false => exact gate_f k rfl
      | true =>
      show (fun d Ω1 => _) _ _
      dsimp only
      rw [Bool.true_and] at k
      rw [cut_1, ← List.map_drop]
      refine ⟨by simp only [List.length_map, List.length_drop]; exact Nat.le_of_lt (small1000' (by omega)), ?_⟩
      rw [← List.map_append]
      refine forL_ind (P_ruG1 (.tup (ps.map D.int)) (.tup (ring.map D.int)) (.tup (steps.map D.int)) ((ps.drop 1 ++ ring).all fun n => decide (1 ≤ n)) _) ⟨_, none, rfl, rfl, rfl, rfl⟩ ?_ ?_
      · rintro ρ Ω' ⟨ms, z, e, hb, rfl, rfl⟩
        have : ms = [] := by cases ms with
          | nil => rfl
          | cons _ _ => cases e
        subst this
        rw [← hb] at k
        simp only [List.all_nil, Bool.true_and] at k
        walk_at "pl"
        refine forL_ind (P_ruG2 (.tup (ps.map D.int)) (.tup (ring.map D.int)) (.tup (steps.map D.int)) (steps.all fun n => decide (0 ≤ n)) _) ⟨_, z, none, rfl, rfl, rfl, rfl⟩ ?_ ?_
        · rintro ρ Ω' ⟨ms, z, z2, e, hb, rfl, rfl⟩
          have : ms = [] := by cases ms with
            | nil => rfl
            | cons _ _ => cases e
          subst this
          rw [← hb] at k
          simp only [List.all_nil, Bool.true_and] at k
          walk_at "pl"
          refine ⟨Nat.zero_le _, fEq_nil ⟨_, rfl, ?_⟩⟩
          simp only [Bool.false_eq_true, if_false, List.length_map]
          by_cases hr : ring = []
          · rw [decide_eq_true hr, if_pos rfl]
            rw [if_pos hr] at k
            refine ite2 (fun e => ?_) (fun e => ?_)
            · rw [if_pos (by omega)] at k
              cases hq : ps.getLast? with
              | none => rw [List.getLast?_eq_none_iff.mp hq] at h1; simp at h1
              | some n =>
                rw [hq] at k
                refine ⟨_, by rw [List.getLast?_map, hq]; rfl, n, rfl, ?_⟩
                exact ⟨_, rfl, k⟩
            · rw [if_neg (by omega)] at k
              exact gate_t k rfl
          · rw [decide_eq_false hr, if_neg (by decide)]
            rw [if_neg hr] at k
            exact gate_t k rfl
        · rintro x us ρ Ω' De _ ih _ _ ⟨ms, z, z2, e, hm, rfl, rfl⟩
          cases ms with
          | nil => cases e
          | cons y ys =>
            simp only [List.map_cons, List.cons.injEq] at e
            obtain ⟨rfl, rfl⟩ := e
            walk_at "pl"
            rw [List.all_cons] at hm
            refine ⟨_, rfl, ?_⟩
            generalize hy : decide (0 ≤ y) = b at hm ⊢
            cases b with
            | true => exact ih _ _ ⟨ys, _, _, rfl, by rw [Bool.true_and] at hm; exact hm, rfl, rfl⟩
            | false =>
              rw [Bool.false_and] at hm
              rw [← hm] at k
              exact gate_f k rfl
      · rintro x us ρ Ω' De _ ih _ _ ⟨ms, z, e, hm, rfl, rfl⟩
        cases ms with
        | nil => cases e
        | cons y ys =>
          simp only [List.map_cons, List.cons.injEq] at e
          obtain ⟨rfl, rfl⟩ := e
          walk_at "pl"
          rw [List.all_cons] at hm
          refine ⟨_, rfl, ?_⟩
          generalize hy : decide (1 ≤ y) = b at hm ⊢
          cases b with
          | true => exact ih _ _ ⟨ys, _, rfl, by rw [Bool.true_and] at hm; exact hm, rfl, rfl⟩
          | false =>
            rw [Bool.false_and] at hm
            rw [← hm] at k
            exact gate_f k rfl
theorem gate_true {Q : AQ} {E : Value → Om → Prop} {Ω : Om} : gate C true Q E Ω = Q .non Ω := rfl
def F_needEight (C : CT) : AF := fun ds Ω Q E => ∃ ns : List Int, ds = [dtup ns] ∧ gate C (eiB ns) Q E Ω
def P_e1 (ns : List Int) (Ω : Om) : List D → En → Om → Prop := fun us ρ Ω' => ∃ (i l : Nat) (z1 z2 : Option D), us = rngD (i : Int) l ∧ i + l = 4 ∧ Ω' = Ω ∧ ρ = [some (dtup ns), some (.bl (apA ns i)), z1, z2]
def P_e2 (ns : List Int) (i : Nat) (Ω : Om) : List D → En → Om → Prop := fun us ρ Ω' => ∃ (j l : Nat) (z2 : Option D), us = rngD (j : Int) l ∧ j + l = i ∧ Ω' = Ω ∧ ρ = [some (dtup ns), some (.bl (apA ns i || apI ns i j)), some (.int i), z2]
theorem rng_step {lo : Int} {l : Nat} {x : D} {us : List D} (h : x :: us = rngD lo l) : ∃ l', l = l' + 1 ∧ x = .int lo ∧ us = rngD (lo + 1) l' := by
  cases l with
  | zero => cases h
  | succ l =>
    rw [rngD_succ] at h
    cases h
    exact ⟨l, rfl, rfl, rfl⟩
theorem rng_nil {lo : Int} {l : Nat} (h : [] = rngD lo l) : l = 0 := by
  cases l with
  | zero => rfl
  | succ l => rw [rngD_succ] at h; cases h
theorem range_snoc {n : Nat} {f : Nat → Bool} : (List.range (n + 1)).any f = ((List.range n).any f || f n) := by
  rw [List.range_succ, List.any_append, List.any_cons, List.any_nil, Bool.or_false]
theorem few_mul {x y : Int} (h : Few x) (h2 : Few y) : IntMulOk x y := by
  unfold Few at h h2
  exact mulok (a := 60) (b := 60) (by omega) (by omega) (by decide)
theorem c_need_eight (T : Txt K mg C) : Clb P w K mg base ca 3 "need_eight" (F_needEight C) := by
  refine clb T.d_need_eight sc_need_eight (fun ds Ω Q E h => ?_) (fun f cdv A outer s H E hr => ⟨_, _, (ass_cons (as_expr (ae_call (c_must T) hr (takes_of rfl rfl rfl rfl) (by omega) (aa_cons (ae_eqI (ae_len rfl T.b_len (ae_var 0)) ae_int) aa_nil)))
      (ass_cons (as_expr (ae_call (c_need_numbersG T) hr (takes_of rfl rfl rfl rfl) (by omega) (aa_cons (ae_var 0) aa_nil)))
      (ass_cons (as_set 1 sc_need_eight.nd ae_bl)
      (ass_cons (as_forR1 (passes_of rfl) rfl rfl T.b_range ae_int (ag_name (i := 2) sc_need_eight.nd rfl (Or.inl rfl)) (ass_one (as_forR1 (passes_of rfl) rfl rfl T.b_range (ae_var 2) (ag_name (i := 3) sc_need_eight.nd rfl (Or.inl rfl)) (ass_one (as_set 1 sc_need_eight.nd (ae_or (ae_var 1) (ae_one (ae_neI (ae_mul (ae_ix (ae_var 0) (ae_var 2)) (ae_ix (ae_var 0) (ae_add ae_int (ae_var 3)))) (ae_mul (ae_ix (ae_var 0) (ae_var 3)) (ae_ix (ae_var 0) (ae_add ae_int (ae_var 2))))))))))))
      (ass_one (as_expr (ae_call (c_must T) hr (takes_of rfl rfl rfl rfl) (by omega) (aa_cons (ae_var 1) aa_nil)))))))), fun ds Ω Qa Ea h => ?_⟩)
  · obtain ⟨_, rfl, _⟩ := h
    rfl
  · obtain ⟨ns, rfl, k⟩ := h
    unfold dtup
    walk_at "pl"
    simp only [List.length_map]
    refine ⟨_, rfl, ?_⟩
    have e8 : decide ((ns.length : Int) = 8) = decide (ns.length = 8) := by congr 1; simp only [eq_iff_iff]; omega
    rw [e8]
    unfold eiB at k
    generalize h8 : decide (ns.length = 8) = b8 at k ⊢
    cases b8 with
    | false => exact gate_f k rfl
    | true =>
    have hl := of_decide_eq_true h8
    rw [Bool.true_and] at k
    refine ⟨ns, rfl, ?_⟩
    generalize hf : ns.all fewB = bf at k ⊢
    cases bf with
    | false => exact gate_f k rfl
    | true =>
    rw [Bool.true_and] at k
    have hfew : ∀ n ∈ ns, Few n := fun n hn => fewB_iff.mp (List.all_eq_true.mp hf n hn)
    show (fun d Ω1 => _) _ _
    dsimp only
    refine ⟨by decide, by decide, ?_⟩
    refine forL_ind (P_e1 ns Ω) ⟨0, 4, none, none, rfl, rfl, rfl, rfl⟩ ?_ ?_
    · rintro ρ Ω' ⟨i, l, z1, z2, e, hi, rfl, rfl⟩
      have := rng_nil e
      have : i = 4 := by omega
      subst this
      walk_at "pl"
      exact ⟨_, rfl, k⟩
    · rintro x us ρ Ω' De e1 ih _ _ ⟨i, l, z1, z2, e, hi, rfl, rfl⟩
      obtain ⟨l', rfl, rfl, rfl⟩ := rng_step e
      walk_at "pl"
      refine ⟨by omega, by omega, ?_⟩
      have e0 : rngD 0 i = rngD ((0 : Nat) : Int) i := rfl
      rw [e0]
      refine forL_ind (P_e2 ns i Ω') ⟨0, i, z2, rfl, by omega, rfl, by simp [apI]⟩ ?_ ?_
      · rintro ρ Ω2 ⟨j, l, z2, e, hj, rfl, rfl⟩
        have := rng_nil e
        have : j = i := by omega
        subst this
        refine ih _ _ ⟨j + 1, l', some (.int j), z2, by rw [Int.natCast_add]; rfl, by omega, rfl, ?_⟩
        rw [show apA ns (j + 1) = (apA ns j || apI ns j j) from range_snoc]
      · rintro x us ρ Ω2 De2 e2 ih2 _ _ ⟨j, l, z2, e, hj, rfl, rfl⟩
        obtain ⟨l2, rfl, rfl, rfl⟩ := rng_step e
        unfold dtup
        walk_at "pl"
        have nx : De2.nx [some (dtup ns), some (.bl (apA ns i || apI ns i (j + 1))), some (.int i), some (.int j)] Ω2 := ih2 _ _ ⟨j + 1, l2, _, by rw [Int.natCast_add]; rfl, by omega, rfl, rfl⟩
        rw [apI, range_snoc, ← Bool.or_assoc] at nx
        rw [show (List.range j).any (apN ns i) = apI ns i j from rfl] at nx
        generalize (apA ns i || apI ns i j) = b at nx ⊢
        cases b with
        | true => exact nx
        | false =>
          have fi : ∀ t : Nat, t < 8 → Few (ns.getD t 0) := fun t ht => hfew _ (getD_mem (by omega))
          exact ⟨_, getD_at (i := i) (by omega) rfl, _, getD_at (i := 4 + j) (by omega) (by omega), _, rfl, _, rfl, few_mul (fi _ (by omega)) (fi _ (by omega)), _, getD_at (i := j) (by omega) rfl, _, getD_at (i := 4 + i) (by omega) (by omega), _, rfl, _, rfl, few_mul (fi _ (by omega)) (fi _ (by omega)), nx⟩
theorem clb_none {x : Str} {st : Stmt} {ps : List Str} (d : Dfn K mg x x st ps) (k : Nat) : Clb P w K mg base ca k x (fun _ _ _ _ => False) := by
  obtain ⟨f, fd, F, m, b⟩ := d.ex
  exact ⟨f, fd, ps, ⟨fun vs H Q E ⟨_, _, _, _, _, _, _, _, z, _⟩ => z.elim, fun _ _ _ _ _ _ _ _ _ _ _ _ _ ⟨_, _, _, _, _, _, _, _, z, _⟩ => z.elim⟩, m, F.kp, b⟩
def F_needT (C : CT) (M : Nat) : AF := fun ds Ω Q E => ∃ (x : Rw) (k : Nat), ds = [x.d, .int k] ∧ k ≤ M ∧ gate C (x.ok k) Q E Ω
theorem need_step (T : Txt K mg C) {j M : Nat} (hj : 4 ≤ j) {Fp : AF} (c_self : Clb P w K mg base ca j "need_tree" Fp) (hF : ∀ (x : Rw) (k : Nat) Ω Q E, k < M → gate C (x.ok k) Q E Ω → Fp [x.d, .int k] Ω Q E) : Clb P w K mg base ca (j + 1) "need_tree" (F_needT C M) := by
  refine clb T.d_need_tree sc_need_tree (fun ds Ω Q E h => ?_) (fun f cdv A outer s H E hr => ⟨_, _, (ass_cons (as_expr (ae_call (c_must T) hr (takes_of rfl rfl rfl rfl) (by omega) (aa_cons (ae_ge (ae_var 1) ae_int) aa_nil)))
      (ass_cons (as_set 2 sc_need_tree.nd (ae_ix (ae_var 0) ae_int))
      (ass_one (as_if (at_eqS (ae_var 2) ae_str) (ass_cons (as_expr (ae_call (c_need_numbersG T) hr (takes_of rfl rfl rfl rfl) (by omega) (aa_cons (ae_sl (ae_var 0) (ao_some ae_int) ao_none) aa_nil)))
      (ass_one (as_expr (ae_call (c_must T) hr (takes_of rfl rfl rfl rfl) (by omega) (aa_cons (ae_neI (ae_ix (ae_var 0) ae_int) ae_int) aa_nil))))) (ass_one (as_if (at_eqS (ae_var 2) ae_str) (ass_cons (as_expr (ae_call (c_need_numbersG T) hr (takes_of rfl rfl rfl rfl) (by omega) (aa_cons (ae_sl (ae_var 0) (ao_some ae_int) ao_none) aa_nil)))
      (ass_one (as_expr (ae_call (c_must T) hr (takes_of rfl rfl rfl rfl) (by omega) (aa_cons (ae_and (ae_ge (ae_ix (ae_var 0) ae_int) ae_int) (ae_one (ae_neI (ae_ix (ae_var 0) ae_int) ae_int))) aa_nil))))) (ass_one (as_if (at_eqS (ae_var 2) ae_str) (ass_one (as_expr (ae_call (c_need_ruledG T) hr (takes_of rfl rfl rfl rfl) (by omega) (aa_cons (ae_ix (ae_var 0) ae_int) (aa_cons (ae_ix (ae_var 0) ae_int) (aa_cons (ae_ix (ae_var 0) ae_int) aa_nil)))))) (ass_one (as_if (at_eqS (ae_var 2) ae_str) (ass_cons (as_expr (ae_call (c_must T) hr (takes_of rfl rfl rfl rfl) (by omega) (aa_cons (ae_eqI (ae_len rfl T.b_len (ae_ix (ae_var 0) ae_int)) ae_int) aa_nil)))
      (ass_cons (as_expr (ae_call (c_need_numbersG T) hr (takes_of rfl rfl rfl rfl) (by omega) (aa_cons (ae_ix (ae_var 0) ae_int) aa_nil)))
      (ass_cons (as_expr (ae_call (c_must T) hr (takes_of rfl rfl rfl rfl) (by omega) (aa_cons (ae_neI (ae_mul (ae_ix (ae_ix (ae_var 0) ae_int) ae_int) (ae_ix (ae_ix (ae_var 0) ae_int) ae_int)) (ae_mul (ae_ix (ae_ix (ae_var 0) ae_int) ae_int) (ae_ix (ae_ix (ae_var 0) ae_int) ae_int))) aa_nil)))
      (ass_one (as_expr (ae_call c_self hr (takes_of rfl rfl rfl rfl) (by omega) (aa_cons (ae_ix (ae_var 0) ae_int) (aa_cons (ae_sub (ae_var 1) ae_int) aa_nil)))))))) (ass_one (as_if (at_eqS (ae_var 2) ae_str) (ass_cons (as_expr (ae_call (c_need_eight T) hr (takes_of rfl rfl rfl rfl) (by omega) (aa_cons (ae_ix (ae_var 0) ae_int) aa_nil)))
      (ass_cons (as_expr (ae_call c_self hr (takes_of rfl rfl rfl rfl) (by omega) (aa_cons (ae_ix (ae_var 0) ae_int) (aa_cons (ae_sub (ae_var 1) ae_int) aa_nil))))
      (ass_one (as_expr (ae_call c_self hr (takes_of rfl rfl rfl rfl) (by omega) (aa_cons (ae_ix (ae_var 0) ae_int) (aa_cons (ae_sub (ae_var 1) ae_int) aa_nil))))))) (ass_cons (as_expr (ae_call (c_must T) hr (takes_of rfl rfl rfl rfl) (by omega) (aa_cons (ae_leLe ae_int (ae_ix (ae_var 0) ae_int) (ae_globE rfl T.g_MOST_POWER)) aa_nil)))
      (ass_one (as_expr (ae_call c_self hr (takes_of rfl rfl rfl rfl) (by omega) (aa_cons (ae_ix (ae_var 0) ae_int) (aa_cons (ae_sub (ae_var 1) ae_int) aa_nil)))))))))))))))))), fun ds Ω Qa Ea h => ?_⟩)
  · obtain ⟨_, _, rfl, _⟩ := h
    rfl
  · obtain ⟨x, kk, rfl, hk, k⟩ := h
    cases kk with
    | zero =>
      walk_at "pl"
      exact ⟨_, rfl, gate_f k rfl⟩
    | succ kk =>
    have hd : ((kk + 1 : Nat) : Int) - 1 = (kk : Int) := by omega
    walk_at "pl"
    refine ⟨_, rfl, ?_⟩
    rw [if_pos (by simp; omega)]
    cases x with
    | frac t b =>
      simp only [Rw.d]
      walk_at "pl"
      rw [cut_1]
      refine ⟨[t, b], rfl, ?_⟩
      simp only [Rw.ok] at k
      simp only [List.all_cons, List.all_nil, Bool.and_true]
      generalize (fewB t && fewB b) = q at k ⊢
      cases q with
      | false => exact gate_f k rfl
      | true => exact ⟨_, rfl, k⟩
    | root t s b =>
      simp only [Rw.d]
      walk_at "pl"
      rw [if_neg (by decide), cut_1]
      refine ⟨[t, s, b], rfl, ?_⟩
      simp only [Rw.ok] at k
      simp only [List.all_cons, List.all_nil, Bool.and_true, ← Bool.and_assoc]
      generalize (fewB t && fewB s && fewB b) = q at k ⊢
      cases q with
      | false => exact gate_f k rfl
      | true =>
        rw [Bool.true_and] at k
        by_cases hs : 0 ≤ s
        · rw [decide_eq_true hs, Bool.true_and] at k
          rw [gate_true]
          rw [if_pos hs]
          exact ⟨_, rfl, k⟩
        · rw [decide_eq_false hs, Bool.false_and] at k
          rw [gate_true]
          rw [if_neg hs]
          exact ⟨_, rfl, k⟩
    | ruled ps ring steps =>
      simp only [Rw.d]
      walk_at "pl"
      rw [if_neg (by decide), if_neg (by decide)]
      exact ⟨ps, ring, steps, rfl, k⟩
    | four ns y =>
      simp only [Rw.d]
      walk_at "pl"
      rw [if_neg (by decide), if_neg (by decide), if_neg (by decide), hd]
      refine ⟨_, rfl, _, rfl, ?_⟩
      simp only [Rw.ok] at k
      unfold foB at k
      rw [List.length_map]
      have e4 : decide ((ns.length : Int) = 4) = decide (ns.length = 4) := by congr 1; simp only [eq_iff_iff]; omega
      rw [e4]
      generalize h4 : decide (ns.length = 4) = b4 at k ⊢
      cases b4 with
      | false => exact gate_f k rfl
      | true =>
      have hl := of_decide_eq_true h4
      rw [Bool.true_and] at k
      refine ⟨ns, rfl, ?_⟩
      generalize hf : ns.all fewB = bf at k ⊢
      cases bf with
      | false => exact gate_f k rfl
      | true =>
      rw [Bool.true_and] at k
      have hfew : ∀ n ∈ ns, Few n := fun n hn => fewB_iff.mp (List.all_eq_true.mp hf n hn)
      have fi : ∀ t : Nat, t < 4 → Few (ns.getD t 0) := fun t ht => hfew _ (getD_mem (by omega))
      have at_ : ∀ t : Nat, t < 4 → (ns.map D.int)[t]? = some (.int (ns.getD t 0)) := fun t ht => by rw [← atI_eq]; exact getD_at (by omega) rfl
      rw [gate_true]
      refine ⟨_, rfl, _, at_ 0 (by omega), _, rfl, _, at_ 3 (by omega), _, rfl, _, rfl, few_mul (fi 0 (by omega)) (fi 3 (by omega)), _, rfl, _, at_ 1 (by omega), _, rfl, _, at_ 2 (by omega), _, rfl, _, rfl, few_mul (fi 1 (by omega)) (fi 2 (by omega)), _, rfl, ?_⟩
      generalize (!decide (ns.getD 0 0 * ns.getD 3 0 = ns.getD 1 0 * ns.getD 2 0)) = q at k ⊢
      cases q with
      | false => exact gate_f k rfl
      | true => exact hF y kk _ _ _ (by omega) k
    | eight ns y z =>
      simp only [Rw.d]
      walk_at "pl"
      rw [if_neg (by decide), if_neg (by decide), if_neg (by decide), if_neg (by decide), hd]
      simp only [Rw.ok] at k
      refine ⟨ns, rfl, ?_⟩
      generalize eiB ns = q at k ⊢
      cases q with
      | false => exact gate_f k rfl
      | true =>
      rw [Bool.true_and] at k
      rw [gate_true]
      refine hF y kk _ _ _ (by omega) ?_
      generalize y.ok kk = q at k ⊢
      cases q with
      | false => exact gate_f k rfl
      | true => exact hF z kk _ _ _ (by omega) k
    | power y n =>
      simp only [Rw.d]
      walk_at "pl"
      rw [if_neg (by decide), if_neg (by decide), if_neg (by decide), if_neg (by decide), if_neg (by decide), hd]
      simp only [Rw.ok] at k
      have go : ∀ b : Bool, decide (1 ≤ n ∧ n ≤ 4) = b → F_must C [.bl b] Ω (fun _ Ω1 => Fp [y.d, .int kk] Ω1 (fun _ Ω1 => Qa .non Ω1) fun cls Ω' => Ea cls Ω') (fun cls Ω' => Ea cls Ω') := fun b hb => by
        rw [hb] at k
        refine ⟨_, rfl, ?_⟩
        cases b with
        | false => exact gate_f k rfl
        | true => exact hF y kk _ _ _ (by omega) k
      refine ite2 (fun h1 => ?_) (fun h1 => go _ (decide_eq_false (by omega)))
      exact go _ (by congr 1; simp only [eq_iff_iff]; omega)
theorem c_need_tree (T : Txt K mg C) : ∀ M : Nat, Clb P w K mg base ca (M + 5) "need_tree" (F_needT C M)
  | 0 => need_step T (Nat.le_refl 4) (clb_none T.d_need_tree 4) (fun _ _ _ _ _ h => by omega)
  | M + 1 => need_step T (by omega) (c_need_tree T M) (fun x k Ω Q E h g => ⟨x, k, rfl, by omega, g⟩)
/-- good trees as raw ones -/
def Tr.raw : Tr → Rw
  | .frac t b => .frac t b
  | .root t s b => .root t s b
  | .ruled ps ring steps => .ruled ps ring steps
  | .four a b c d x => .four [a, b, c, d] x.raw
  | .eight a b c d e f g h x y => .eight [a, b, c, d, e, f, g, h] x.raw y.raw
  | .power x n => .power x.raw n
theorem Tr.raw_d : ∀ t : Tr, t.raw.d = t.d
  | .frac t b => rfl
  | .root t s b => rfl
  | .ruled ps ring steps => rfl
  | .four a b c d x => by simp only [Tr.raw, Rw.d, Tr.d, x.raw_d]
  | .eight a b c d e f g h x y => by simp only [Tr.raw, Rw.d, Tr.d, x.raw_d, y.raw_d]
  | .power x n => by simp only [Tr.raw, Rw.d, Tr.d, x.raw_d]
theorem Tr.raw_ok : ∀ (t : Tr) (k : Nat), t.good k → t.raw.ok k = true
  | t, 0, h => by cases t <;> exact h.elim
  | .frac t b, k + 1, h => by
    obtain ⟨h1, h2, h3⟩ := h
    simp only [Tr.raw, Rw.ok, fewB_iff.mpr h1, fewB_iff.mpr h2, decide_eq_false h3]
    rfl
  | .root t s b, k + 1, h => by
    obtain ⟨h1, h2, h3, h4, h5⟩ := h
    simp only [Tr.raw, Rw.ok, fewB_iff.mpr h1, fewB_iff.mpr h2, fewB_iff.mpr h3, decide_eq_true h4, decide_eq_false h5]
    rfl
  | .ruled ps ring steps, k + 1, h => by
    obtain ⟨h1, h2, h3, h4, h5, h6, h7, h8⟩ := h
    simp only [Tr.raw, Rw.ok]
    unfold ruB
    rw [decide_eq_true ⟨h1, h2, h3, h4⟩, List.all_eq_true.mpr fun n hn => fewB_iff.mpr (h5 n hn), List.all_eq_true.mpr fun n hn => decide_eq_true (h6 n hn), List.all_eq_true.mpr fun n hn => decide_eq_true (h7 n hn)]
    simp only [Bool.true_and]
    split
    · rename_i hr
      split
      · rename_i hl
        cases hq : ps.getLast? with
        | none => rw [List.getLast?_eq_none_iff.mp hq] at h1; simp at h1
        | some n => exact decide_eq_true (h8 hr hl n hq)
      · rfl
    · rfl
  | .four a b c d x, k + 1, h => by
    obtain ⟨h1, h2, h3, h4, h5, h6⟩ := h
    simp only [Tr.raw, Rw.ok, x.raw_ok k h6, foB, List.all_cons, List.all_nil, fewB_iff.mpr h1, fewB_iff.mpr h2, fewB_iff.mpr h3, fewB_iff.mpr h4]
    simpa using h5
  | .eight a b c d e f g i x y, k + 1, h => by
    obtain ⟨h1, h2, h3, h4⟩ := h
    have ha : [a, b, c, d, e, f, g, i].all fewB = true := List.all_eq_true.mpr fun n hn => fewB_iff.mpr (h1 n hn)
    simp only [Tr.raw, Rw.ok, x.raw_ok k h3, y.raw_ok k h4, eiB, ha, Bool.and_true]
    have : apA [a, b, c, d, e, f, g, i] 4 = (apN [a, b, c, d, e, f, g, i] 1 0 || (apN [a, b, c, d, e, f, g, i] 2 0 || apN [a, b, c, d, e, f, g, i] 2 1) || (apN [a, b, c, d, e, f, g, i] 3 0 || apN [a, b, c, d, e, f, g, i] 3 1 || apN [a, b, c, d, e, f, g, i] 3 2)) := by
      unfold apA apI
      simp only [List.range_succ, List.range_zero, List.nil_append, List.any_cons, List.any_nil, List.any_append, List.cons_append, Bool.or_false, Bool.false_or, Bool.or_assoc]
    rw [this]
    simp only [apN, List.getD_cons_zero, List.getD_cons_succ, List.length_cons, List.length_nil, Nat.reduceAdd, decide_true, Bool.true_and, Bool.or_eq_true, Bool.not_eq_true', decide_eq_false_iff_not]
    rcases h2 with z | z | z | z | z | z
    · exact .inl (.inl z)
    · exact .inl (.inr (.inl z))
    · exact .inl (.inr (.inr z))
    · exact .inr (.inl (.inl z))
    · exact .inr (.inl (.inr z))
    · exact .inr (.inr z)
  | .power x n, k + 1, h => by
    obtain ⟨h1, h2, h3⟩ := h
    simp only [Tr.raw, Rw.ok, x.raw_ok k h3, decide_eq_true (And.intro h1 h2)]
    rfl
def F_rootOf (C : CT) : AF := fun ds Ω Q _ => ∃ t s b : Int, ds = [.int t, .int s, .int b] ∧ Few t ∧ Few s ∧ Few b ∧ 0 ≤ s ∧ b ≠ 0 ∧ ∀ r p Ω', Opened (.root t s b) r → RdO C Ω' p r [p] → Ω p = none → (∀ b, Ω b ≠ none → Ω' b = Ω b) → Q (.o p) Ω'
theorem new_stand {Ω : Om} {p : Addr} {o u : AO} (h : Ω p = none) : ∀ b, Ω b ≠ none → oset (oset Ω p o) p u b = Ω b := fun b hb => by
  have : b ≠ p := fun e => hb (by rw [e]; exact h)
  rw [oset_ne this, oset_ne this]
theorem abI_pos {b : Int} (h : b ≠ 0) : 0 < abI b := by unfold abI; split <;> omega
theorem c_root_of (T : Txt K mg C) : Clb P w K mg base ca 4 "root_of" (F_rootOf C) := by
  refine clb T.d_root_of sc_root_of (fun ds Ω Q E h => ?_) (fun f cdv A outer s H E hr => ⟨_, _, (ass_cons (as_set 3 sc_root_of.nd (ae_call (c_root_below T) hr (takes_of rfl rfl rfl rfl) (by omega) (aa_cons (ae_var 1) aa_nil)))
      (ass_cons (as_if (at_eqI (ae_mul (ae_var 3) (ae_var 3)) (ae_var 1)) (ass_one (as_ret (ae_make (mk_Fraction T) hr (takes_of rfl rfl rfl rfl) (by omega) (aa_cons (ae_add (ae_var 0) (ae_var 3)) (aa_cons (ae_var 2) aa_nil))))) ass_nil)
      (ass_cons (as_set 4 sc_root_of.nd (ae_abs rfl T.b_abs (ae_var 2)))
      (ass_one (as_ret (ae_make (mk_Root T) hr (takes_of rfl rfl rfl rfl) (by omega) (aa_cons (ae_mul (ae_var 0) (ae_var 4)) (aa_cons (ae_mul (ae_mul (ae_var 1) (ae_var 4)) (ae_var 4)) (aa_cons (ae_mul (ae_var 2) (ae_var 4)) aa_nil))))))))), fun ds Ω Qa Ea h => ?_⟩)
  · obtain ⟨_, _, _, rfl, _⟩ := h
    rfl
  · obtain ⟨t, s', b, rfl, ht, hs, hb, s0, b0, k⟩ := h
    unfold Few at ht hs hb
    walk_at "pl"
    refine ⟨s', rfl, s0, by omega, fun f f0 f1 f2 => ?_⟩
    have ff : f ≤ s' := by
      rcases Int.lt_or_le f 1 with h | h
      · omega
      · have := Int.mul_le_mul_of_nonneg_left h f0
        omega
    refine ⟨f, rfl, f, rfl, mulok (a := 60) (b := 60) (by omega) (by omega) (by decide), ite2 (fun e => ⟨f, rfl, fun p hp => ⟨p, t + f, b, rfl, oset_same, rfl, ?_⟩⟩) (fun e => ?_)⟩
    · exact k _ p _ (.rootF f0 e) (.frac oset_same) hp (new_stand hp)
    · have eb : (if b < 0 then -b else b) = abI b := rfl
      have hb0 := abI_pos b0
      have hb1 : (abI b).natAbs < 2 ^ 60 := by unfold abI; split <;> omega
      have hb2 : abI b ≤ 10 ^ 12 := by unfold abI; split <;> omega
      rw [eb]
      have g0 : 0 ≤ s' * abI b := Int.mul_nonneg s0 (by omega)
      have g1 : s' * abI b ≤ 10 ^ 12 * 10 ^ 12 := Int.mul_le_mul (by omega) hb2 (by omega) (by decide)
      have g2 : 0 ≤ s' * abI b * abI b := Int.mul_nonneg g0 (by omega)
      have g3 : s' * abI b * abI b ≤ (10 ^ 12 * 10 ^ 12) * 10 ^ 12 := Int.mul_le_mul g1 hb2 (by omega) (by decide)
      refine ⟨mulok (a := 60) (b := 60) (by omega) hb1 (by decide), mulok (a := 60) (b := 60) (by omega) hb1 (by decide), mulok (a := 200) (b := 60) (by omega) hb1 (by decide), mulok (a := 60) (b := 60) (by omega) hb1 (by decide), fun p hp => ⟨p, _, _, _, rfl, oset_same, g2, by omega, fun f' h1 h2 h3 => ⟨rfl, ?_⟩⟩⟩
      exact k _ p _ (.rootR f0 (by omega) f2 h1 h2 h3) (.root oset_same) hp (new_stand hp)
theorem fl_unique {s f g : Int} (f0 : 0 ≤ f) (f1 : f * f ≤ s) (f2 : s < (f + 1) * (f + 1)) (g0 : 0 ≤ g) (g1 : g * g ≤ s) (g2 : s < (g + 1) * (g + 1)) : f = g := by
  rcases Int.lt_trichotomy f g with z | z | z
  · have h1 : f + 1 ≤ g := z
    have := Int.mul_le_mul h1 h1 (by omega) (by omega)
    omega
  · exact z
  · have h1 : g + 1 ≤ f := z
    have := Int.mul_le_mul h1 h1 (by omega) (by omega)
    omega
theorem sq_lt {f : Int} (h : 0 ≤ f) : f * f < (f + 1) * (f + 1) := by
  have : (f + 1) * (f + 1) = f * f + 2 * f + 1 := by grind
  omega
theorem Opened.unique {t : Tr} {r r' : R} (h : Opened t r) (h' : Opened t r') : r = r' := by
  induction h generalizing r' with
  | frac => cases h'; rfl
  | rootF h1 h2 =>
    cases h' with
    | rootF g1 g2 => rw [fl_unique h1 (Int.le_of_eq h2) (by rw [← h2]; exact sq_lt h1) g1 (Int.le_of_eq g2) (by rw [← g2]; exact sq_lt g1)]
    | rootR g1 g2 g3 =>
      have := fl_unique h1 (Int.le_of_eq h2) (by rw [← h2]; exact sq_lt h1) g1 (Int.le_of_lt g2) g3
      subst this
      omega
  | rootR q1 q2 q3 q4 q5 q6 =>
    cases h' with
    | rootF g1 g2 =>
      have := fl_unique g1 (Int.le_of_eq g2) (by rw [← g2]; exact sq_lt g1) q1 (Int.le_of_lt q2) q3
      subst this
      omega
    | rootR g1 g2 g3 g4 g5 g6 => rw [fl_unique q4 q5 q6 g4 g5 g6]
  | ruled => cases h'; rfl
  | four _ ih => cases h' with | four g => rw [ih g]
  | eight _ _ ih1 ih2 => cases h' with | eight g1 g2 => rw [ih1 g1, ih2 g2]
  | power _ ih => cases h' with | power g => rw [ih g]
def Opn (C : CT) (tr : Tr) (Q : AQ) (Ω : Om) : Prop := ∀ r p Ω' S, Opened tr r → RdO C Ω' p r S → (∀ b ∈ S, Ω b = none) → (∀ b, Ω b ≠ none → Ω' b = Ω b) → Q (.o p) Ω'
def F_openG (C : CT) (M : Nat) : AF := fun ds Ω Q _ => ∃ (tr : Tr) (k : Nat), ds = [tr.d] ∧ k ≤ M ∧ tr.good k ∧ Opn C tr Q Ω
def P_open (C : CT) (d z0 : D) (n : Nat) (r : R) (Ω : Om) : List D → En → Om → Prop := fun us ρ Ω' => ∃ (i l : Nat) (p : Addr) (S : List Addr) (z : Option D), us = rngD (i : Int) l ∧ i + l = n ∧ RdO C Ω' p (pows r i) S ∧ (∀ b ∈ S, Ω b = none) ∧ (∀ b, Ω b ≠ none → Ω' b = Ω b) ∧ ρ = [some d, some z0, some (.o p), z]
theorem rd_eight {Ω Ω1 Ω2 : Om} {z1 z2 p kk : Addr} {a b c d e f g h : Int} {x y : R} {S1 S2 : List Addr} (hx : RdO C Ω1 z1 x S1) (h1 : ∀ b ∈ S1, Ω b = none) (k1 : ∀ b, Ω b ≠ none → Ω1 b = Ω b) (hy : RdO C Ω2 z2 y S2) (h2 : ∀ b ∈ S2, Ω1 b = none) (k2 : ∀ b, Ω1 b ≠ none → Ω2 b = Ω1 b) (hp : Ω2 p = none) (hk : Ω2 kk = none) (hne : kk ≠ p) {o : AO} :
    ∃ S, RdO C (oset (oset (oset Ω2 p o) kk (.lst [.int 0, .int 0])) p (oEight C [.int a, .int b, .int c, .int d, .int e, .int f, .int g, .int h] z1 z2 kk false .non)) p (.eight a b c d e f g h 0 0 false x y) S ∧ (∀ v ∈ S, Ω v = none) ∧ ∀ v, Ω v ≠ none → oset (oset (oset Ω2 p o) kk (.lst [.int 0, .int 0])) p (oEight C [.int a, .int b, .int c, .int d, .int e, .int f, .int g, .int h] z1 z2 kk false .non) v = Ω v := by
  have up : ∀ b, Ω b ≠ none → Ω2 b = Ω b := fun b hb => by rw [k2 b (by rw [k1 b hb]; exact hb), k1 b hb]
  have dn : ∀ b, Ω2 b = none → Ω b = none := fun b hb => by
    cases q : Ω b with
    | none => rfl
    | some u => have := up b (by rw [q]; simp); rw [hb, q] at this; cases this
  have hx2 : RdO C Ω2 z1 x S1 := hx.keep fun b hb => k2 b (hx.there b hb)
  have f1 : ∀ b ∈ S1, b ≠ p ∧ b ≠ kk := fun b hb => ⟨fun e => hx2.there b hb (by rw [e]; exact hp), fun e => hx2.there b hb (by rw [e]; exact hk)⟩
  have f2 : ∀ b ∈ S2, b ≠ p ∧ b ≠ kk := fun b hb => ⟨fun e => hy.there b hb (by rw [e]; exact hp), fun e => hy.there b hb (by rw [e]; exact hk)⟩
  refine ⟨p :: kk :: (S1 ++ S2), .eight oset_same ((oset_ne hne).trans oset_same) (hx2.keep fun b hb => ?_) (hy.keep fun b hb => ?_) (Ne.symm hne) (fun z => (f1 p z).1 rfl) (fun z => (f2 p z).1 rfl) (fun z => (f1 kk z).2 rfl) (fun z => (f2 kk z).2 rfl) (fun b hb hb2 => hx.there b hb (h2 b hb2)), fun b hb => ?_, fun b hb => ?_⟩
  · rw [oset_ne (f1 b hb).1, oset_ne (f1 b hb).2, oset_ne (f1 b hb).1]
  · rw [oset_ne (f2 b hb).1, oset_ne (f2 b hb).2, oset_ne (f2 b hb).1]
  · simp only [List.mem_cons, List.mem_append] at hb
    rcases hb with rfl | rfl | hb | hb
    · exact dn _ hp
    · exact dn _ hk
    · exact h1 b hb
    · cases q : Ω b with
      | none => rfl
      | some u => have := k1 b (by rw [q]; simp); rw [h2 b hb, q] at this; cases this
  · have e1 : b ≠ p := fun e => by have := up b hb; rw [e, hp] at this; rw [e] at hb; exact hb this.symm
    have e2 : b ≠ kk := fun e => by have := up b hb; rw [e, hk] at this; rw [e] at hb; exact hb this.symm
    rw [oset_ne e1, oset_ne e2, oset_ne e1, up b hb]
theorem open_step (T : Txt K mg C) {j M : Nat} (hj : 4 ≤ j) {Fp : AF} (c_self : Clb P w K mg base ca j "opened" Fp) (hF : ∀ (tr : Tr) (k : Nat) Ω Q E, k < M → tr.good k → Opn C tr Q Ω → Fp [tr.d] Ω Q E) : Clb P w K mg base ca (j + 1) "opened" (F_openG C M) := by
  refine clb T.d_opened sc_opened (fun ds Ω Q E h => ?_) (fun f cdv A outer s H E hr => ⟨_, _, (ass_cons (as_set 1 sc_opened.nd (ae_ix (ae_var 0) ae_int))
      (ass_cons (as_if (at_eqS (ae_var 1) ae_str) (ass_one (as_ret (ae_make (mk_Fraction T) hr (takes_of rfl rfl rfl rfl) (by omega) (aa_cons (ae_ix (ae_var 0) ae_int) (aa_cons (ae_ix (ae_var 0) ae_int) aa_nil))))) ass_nil)
      (ass_cons (as_if (at_eqS (ae_var 1) ae_str) (ass_one (as_ret (ae_call (c_root_of T) hr (takes_of rfl rfl rfl rfl) (by omega) (aa_cons (ae_ix (ae_var 0) ae_int) (aa_cons (ae_ix (ae_var 0) ae_int) (aa_cons (ae_ix (ae_var 0) ae_int) aa_nil)))))) ass_nil)
      (ass_cons (as_if (at_eqS (ae_var 1) ae_str) (ass_one (as_ret (ae_make (mk_Ruled T) hr (takes_of rfl rfl rfl rfl) (by omega) (aa_cons (ae_ix (ae_var 0) ae_int) (aa_cons (ae_ix (ae_var 0) ae_int) (aa_cons (ae_ix (ae_var 0) ae_int) aa_nil)))))) ass_nil)
      (ass_cons (as_if (at_eqS (ae_var 1) ae_str) (ass_one (as_ret (ae_make (mk_Four T) hr (takes_of rfl rfl rfl rfl) (by omega) (aa_cons (ae_ix (ae_var 0) ae_int) (aa_cons (ae_call c_self hr (takes_of rfl rfl rfl rfl) (by omega) (aa_cons (ae_ix (ae_var 0) ae_int) aa_nil)) (aa_cons ae_bl (aa_cons ae_bl aa_nil))))))) ass_nil)
      (ass_cons (as_if (at_eqS (ae_var 1) ae_str) (ass_one (as_ret (ae_make (mk_Eight T) hr (takes_of rfl rfl rfl rfl) (by omega) (aa_cons (ae_ix (ae_var 0) ae_int) (aa_cons (ae_call c_self hr (takes_of rfl rfl rfl rfl) (by omega) (aa_cons (ae_ix (ae_var 0) ae_int) aa_nil)) (aa_cons (ae_call c_self hr (takes_of rfl rfl rfl rfl) (by omega) (aa_cons (ae_ix (ae_var 0) ae_int) aa_nil)) aa_nil)))))) ass_nil)
      (ass_cons (as_set 2 sc_opened.nd (ae_call c_self hr (takes_of rfl rfl rfl rfl) (by omega) (aa_cons (ae_ix (ae_var 0) ae_int) aa_nil)))
      (ass_cons (as_forR1 (passes_of rfl) rfl rfl T.b_range (ae_sub (ae_ix (ae_var 0) ae_int) ae_int) (ag_name (i := 3) sc_opened.nd rfl (Or.inl rfl)) (ass_one (as_set 2 sc_opened.nd (ae_make (mk_Eight T) hr (takes_of rfl rfl rfl rfl) (by omega) (aa_cons (ae_globT rfl T.t_TIMES) (aa_cons (ae_call c_self hr (takes_of rfl rfl rfl rfl) (by omega) (aa_cons (ae_ix (ae_var 0) ae_int) aa_nil)) (aa_cons (ae_var 2) aa_nil)))))))
      (ass_one (as_ret (ae_var 2))))))))))), fun ds Ω Qa Ea h => ?_⟩)
  · obtain ⟨_, _, rfl, _⟩ := h
    rfl
  · obtain ⟨tr, kk, rfl, hk, hg, k⟩ := h
    have fr : ∀ {b p : Addr} {Ω' : Om}, b ∈ [p] → Ω' p = none → Ω' b = none := fun hb h => by rw [List.mem_singleton.mp hb]; exact h
    cases kk with
    | zero => cases tr <;> exact hg.elim
    | succ kk =>
    cases tr with
    | frac t b =>
      simp only [Tr.d]
      walk_at "pl"
      refine fun p hp => ⟨p, t, b, rfl, oset_same, rfl, ?_⟩
      exact k _ p _ [p] .frac (.frac oset_same) (fun b hb => fr hb hp) (new_stand hp)
    | root t s b =>
      obtain ⟨h1, h2, h3, h4, h5⟩ := hg
      simp only [Tr.d]
      walk_at "pl"
      rw [if_neg (by decide)]
      exact ⟨t, s, b, rfl, h1, h2, h3, h4, h5, fun r p Ω' q1 q2 q3 q4 => k r p Ω' [p] q1 q2 (fun b hb => fr hb q3) q4⟩
    | ruled ps ring steps =>
      simp only [Tr.d]
      walk_at "pl"
      rw [if_neg (by decide), if_neg (by decide)]
      refine fun p hp => ⟨p, ps, ring, steps, rfl, oset_same, rfl, ?_⟩
      exact k _ p _ [p] .ruled (.ruled oset_same) (fun b hb => fr hb hp) (new_stand hp)
    | four a b c d x =>
      obtain ⟨_, _, _, _, _, hx⟩ := hg
      simp only [Tr.d, dtup]
      walk_at "pl"
      rw [if_neg (by decide), if_neg (by decide), if_neg (by decide)]
      refine hF x kk _ _ _ (by omega) hx fun r z Ω1 S o1 h1 h2 h3 => ?_
      intro p hp
      have hpS : ∀ b ∈ S, b ≠ p := fun b hb e => h1.there b hb (by rw [e]; exact hp)
      refine ⟨p, z, _, false, false, rfl, oset_same, rfl, ?_⟩
      rw [oset_oset]
      refine k _ p _ (p :: S) (.four o1) (.four oset_same (h1.keep fun b hb => oset_ne (hpS b hb)) fun z => hpS p z rfl) (fun b hb => ?_) fun b hb => ?_
      · rcases List.mem_cons.mp hb with rfl | hb
        · cases q : Ω b with
          | none => rfl
          | some u => have := h3 b (by rw [q]; simp); rw [hp, q] at this; cases this
        · exact h2 b hb
      · rw [oset_ne (fun e => hb (by rw [e]; cases q : Ω p with
          | none => rfl
          | some u => have := h3 p (by rw [q]; simp); rw [hp, q] at this; cases this)), h3 b hb]
    | eight a b c d e f g h x y =>
      obtain ⟨_, _, hx, hy⟩ := hg
      simp only [Tr.d, dtup]
      walk_at "pl"
      rw [if_neg (by decide), if_neg (by decide), if_neg (by decide), if_neg (by decide)]
      refine hF x kk _ _ _ (by omega) hx fun r z Ω1 S o1 h1 h2 h3 => ?_
      refine hF y kk _ _ _ (by omega) hy fun r2 z2 Ω2 S2 o2 g1 g2 g3 => ?_
      refine fun p hp => ⟨p, z, z2, _, rfl, oset_same, fun q hq hk2 => ⟨rfl, ?_⟩⟩
      obtain ⟨S3, k1, k2, k3⟩ := rd_eight (a := a) (b := b) (c := c) (d := d) (e := e) (f := f) (g := g) (h := h) (o := .obj C.c_Eight []) h1 h2 h3 g1 g2 g3 hp (by rw [oset_ne hq] at hk2; exact hk2) hq
      exact k _ p _ S3 (.eight o1 o2) k1 k2 k3
    | power x n =>
      obtain ⟨n1, n4, hx⟩ := hg
      simp only [Tr.d, dtup]
      walk_at "pl"
      rw [if_neg (by decide), if_neg (by decide), if_neg (by decide), if_neg (by decide), if_neg (by decide)]
      refine hF x kk _ _ _ (by omega) hx fun r z Ω1 S o1 h1 h2 h3 => ?_
      refine ⟨by omega, by omega, ?_⟩
      have e0 : rngD 0 (n - 1).toNat = rngD ((0 : Nat) : Int) (n - 1).toNat := rfl
      rw [e0]
      refine forL_ind (P_open C (.tup [.str "power", x.d, .int n]) (.str "power") (n - 1).toNat r Ω) ⟨0, _, z, S, none, rfl, by omega, h1, h2, h3, rfl⟩ ?_ ?_
      · rintro ρ Ω2 ⟨i, l, p, S, z, e, hi, q1, q2, q3, rfl⟩
        have := rng_nil e
        have : i = (n - 1).toNat := by omega
        subst this
        walk_at "pl"
        exact k _ p _ S (.power o1) q1 q2 q3
      · rintro u us ρ Ω2 De e1 ih _ _ ⟨i, l, p, S2, zz, e, hi, q1, q2, q3, rfl⟩
        obtain ⟨l', rfl, rfl, rfl⟩ := rng_step e
        walk_at "pl"
        refine hF x kk _ _ _ (by omega) hx fun r2 z2 Ω3 S3 o2 g1 g2 g3 => ?_
        rw [Opened.unique o2 o1] at g1
        refine fun pn hp => ⟨pn, z2, p, _, rfl, oset_same, fun q hq hk2 => ⟨rfl, ?_⟩⟩
        have hx3 : RdO C Ω3 p (pows r i) S2 := q1.keep fun b hb => g3 b (q1.there b hb)
        have dn : ∀ b, Ω3 b = none → Ω b = none := fun b hb => by
          cases q : Ω b with
          | none => rfl
          | some u => have := q3 b (by rw [q]; simp); have h5 := g3 b (by rw [this, q]; simp); rw [hb, this, q] at h5; cases h5
        have hk3 : Ω3 q = none := by rw [oset_ne hq] at hk2; exact hk2
        have f3 : ∀ b ∈ S3, b ≠ pn ∧ b ≠ q := fun b hb => ⟨fun e => g1.there b hb (by rw [e]; exact hp), fun e => g1.there b hb (by rw [e]; exact hk3)⟩
        have f2 : ∀ b ∈ S2, b ≠ pn ∧ b ≠ q := fun b hb => ⟨fun e => hx3.there b hb (by rw [e]; exact hp), fun e => hx3.there b hb (by rw [e]; exact hk3)⟩
        refine ih _ _ ⟨i + 1, l', pn, pn :: q :: (S3 ++ S2), some (.int i), by rw [Int.natCast_add]; rfl, by omega, .eight (x := r) (y := pows r i) oset_same ((oset_ne hq).trans oset_same) (g1.keep fun b hb => ?_) (hx3.keep fun b hb => ?_) (Ne.symm hq) (fun z => (f3 pn z).1 rfl) (fun z => (f2 pn z).1 rfl) (fun z => (f3 q z).2 rfl) (fun z => (f2 q z).2 rfl) (fun b hb hb2 => q1.there b hb2 (g2 b hb)), fun b hb => ?_, fun b hb => ?_, rfl⟩
        · rw [oset_ne (f3 b hb).1, oset_ne (f3 b hb).2, oset_ne (f3 b hb).1]
        · rw [oset_ne (f2 b hb).1, oset_ne (f2 b hb).2, oset_ne (f2 b hb).1]
        · simp only [List.mem_cons, List.mem_append] at hb
          rcases hb with rfl | rfl | hb | hb
          · exact dn _ hp
          · exact dn _ hk3
          · cases qq : Ω b with
            | none => rfl
            | some u => have := q3 b (by rw [qq]; simp); rw [g2 b hb, qq] at this; cases this
          · exact q2 b hb
        · have e2 : Ω3 b = Ω b := by rw [g3 b (by rw [q3 b hb]; exact hb), q3 b hb]
          have n1 : b ≠ pn := fun e => by rw [e, hp] at e2; rw [e] at hb; exact hb e2.symm
          have n2 : b ≠ q := fun e => by rw [e, hk3] at e2; rw [e] at hb; exact hb e2.symm
          rw [oset_ne n1, oset_ne n2, oset_ne n1, e2]
theorem c_opened (T : Txt K mg C) : ∀ M : Nat, Clb P w K mg base ca (M + 5) "opened" (F_openG C M)
  | 0 => open_step T (Nat.le_refl 4) (clb_none T.d_opened 4) (fun _ _ _ _ _ h => by omega)
  | M + 1 => open_step T (by omega) (c_opened T M) (fun x k Ω Q E h g o => ⟨x, k, rfl, by omega, g, o⟩)
theorem c_need_tree_5 (T : Txt K mg C) : Clb P w K mg base ca 10 "need_tree" (F_needT C 5) := c_need_tree T 5
theorem c_opened_5 (T : Txt K mg C) : Clb P w K mg base ca 10 "opened" (F_openG C 5) := c_opened T 5
/-- reader of a tree, good or not -/
def F_reader (C : CT) : AF := fun ds Ω Q E => (∃ tr : Tr, ds = [tr.d] ∧ tr.good 5 ∧ Opn C tr Q Ω) ∨ ∃ x : Rw, ds = [x.d] ∧ x.ok 5 = false ∧ E (.ref C.c_BadTree) Ω
theorem c_readerG (T : Txt K mg C) : Clb P w K mg base ca 11 "reader" (F_reader C) := by
  refine clb T.d_reader sc_reader (fun ds Ω Q E h => ?_) (fun f cdv A outer s H E hr => ⟨_, _, (ass_cons (as_expr (ae_call (c_need_tree_5 T) hr (takes_of rfl rfl rfl rfl) (by omega) (aa_cons (ae_var 0) (aa_cons (ae_globE rfl T.g_DEEPEST) aa_nil))))
      (ass_one (as_ret (ae_call (c_opened_5 T) hr (takes_of rfl rfl rfl rfl) (by omega) (aa_cons (ae_var 0) aa_nil))))), fun ds Ω Qa Ea h => ?_⟩)
  · rcases h with ⟨_, rfl, _⟩ | ⟨_, rfl, _⟩ <;> rfl
  · rcases h with ⟨tr, rfl, hg, k⟩ | ⟨x, rfl, hx, k⟩
    · walk_at "pl"
      refine ⟨tr.raw, 5, by rw [tr.raw_d]; rfl, Nat.le_refl 5, ?_⟩
      rw [tr.raw_ok 5 hg]
      exact ⟨tr, 5, rfl, Nat.le_refl 5, hg, k⟩
    · walk_at "pl"
      refine ⟨x, 5, rfl, Nat.le_refl 5, ?_⟩
      rw [hx]
      exact k
def F_row : AF := fun ds Ω Q _ => ∃ ns : List Int, ds = [.lst (ns.map D.int)] ∧ ∀ p, Ω p = none → Q (.o p) (oset Ω p .row)
theorem row_loop {Wa : AW} {Da : AEnds} {Ω : Om} {d0 : D} {b : ATS} : ∀ (ns : List Int) (m : Int) (z : Option D),
    (∀ (m v : Int) (z : Option D) (De : AEnds), De.nx [some d0, some (.int ((m * 48271 + v + 11).fmod 2147483647)), some (.int v)] Ω → b Wa De [some d0, some (.int m), some (.int v)] Ω) →
    (∀ m z, Da.nx [some d0, some (.int m), z] Ω) → forL (agName 2) b (ns.map D.int) Wa Da [some d0, some (.int m), z] Ω
  | [], m, z, _, k => k m z
  | n :: ns, m, z, hb, k => hb m n z _ (row_loop ns _ _ hb k)
theorem c_law_row (T : Txt K mg C) : Clb P w K mg base ca 1 "_law_row" F_row := by
  refine clb T.d_law_row sc__law_row (fun ds Ω Q E h => ?_) (fun f cdv A outer s H E hr => ⟨_, _, (ass_cons (as_set 1 sc__law_row.nd ae_int)
      (ass_cons (as_for (passes_of rfl) rfl (ae_var 0) (ag_name (i := 2) sc__law_row.nd rfl (Or.inl rfl)) (ass_one (as_set 1 sc__law_row.nd (ae_mod (ae_add (ae_add (ae_mul (ae_var 1) ae_int) (ae_var 2)) ae_int) ae_int))))
      (ass_one (as_ret (ae_asRow (ae_lstO (aa_cons (ae_var 0) (aa_cons ae_int (aa_cons ae_int (aa_cons (ae_var 1) aa_nil)))))))))), fun ds Ω Qa Ea h => ?_⟩)
  · obtain ⟨n, rfl, _⟩ := h
    rfl
  · obtain ⟨ns, rfl, k⟩ := h
    walk_at "pl"
    refine row_loop ns 7 none (fun m v z De q => ?_) (fun m z => ?_)
    · walk_at "pl"
      exact ⟨mulok_r (by decide) (by decide), by decide, q⟩
    · walk_at "pl"
      exact ⟨by decide, fun p hp => ⟨ns, 0, 0, m, rfl, by decide, by omega, by decide, k p hp⟩⟩
def F_taken : AF := fun ds Ω Q _ => ∃ (a : Addr) (many : Int), ds = [.o a, .int many] ∧ Ω a = some .row ∧ 0 < many ∧ many < 2 ^ 250 ∧ ∀ n : Int, 0 ≤ n → n < many → Q (.int n) Ω
def F_taken1 : AF := fun ds Ω Q _ => ∃ (a : Addr) (many : Int) (ns : List Int) (i c m : Int), ds = [.o a, .int many] ∧ Ω a = some (.lst (rowD ns i c m)) ∧ 0 ≤ i ∧ i ≤ ns.length ∧ 0 ≤ c ∧ 0 < many ∧ many < 2 ^ 250 ∧
  ∀ n i' c' m' : Int, 0 ≤ n → n < many → 0 ≤ i' → i' ≤ ns.length → 0 ≤ c' → Q (.int n) (oset Ω a (.lst (rowD ns i' c' m')))
theorem taken_imp : ∀ vs H Q E, spA K ca F_taken vs H Q E → spA K ca F_taken1 vs H Q E := by
  rintro vs H Q E ⟨G, own, Ω, ds, Qa, Ea, r, dv, ⟨a, many, rfl, ho, h0, h1, k⟩, k1, k2⟩
  obtain ⟨ns, i, c, m, i0, i1, c0, r'⟩ := r.ofRow ho
  refine ⟨G, own, _, _, fun d Ω' => ∃ n i' c' m' : Int, 0 ≤ n ∧ n < many ∧ 0 ≤ i' ∧ i' ≤ ns.length ∧ 0 ≤ c' ∧ d = .int n ∧ Ω' = oset Ω a (.lst (rowD ns i' c' m')), fun _ _ => False, r', dv,
    ⟨a, many, ns, i, c, m, rfl, oset_same, i0, i1, c0, h0, h1, fun n i' c' m' n0 n1 i0 i1 c0 => ⟨n, i', c', m', n0, n1, i0, i1, c0, rfl, oset_oset⟩⟩, ?_, fun _ _ _ _ _ _ _ z => z.elim⟩
  rintro v H' G' own' d Ω' e r2 dv2 ⟨n, i', c', m', n0, n1, i0, i1, c0, rfl, rfl⟩
  have r3 := r2.toRow oset_same i0 i1 c0
  rw [oset_oset] at r3
  have e2 : oset Ω a .row = Ω := by
    funext b
    unfold oset
    by_cases hb : b = a
    · rw [if_pos hb, hb, ho]
    · rw [if_neg hb]
  rw [e2] at r3
  exact k1 _ _ _ _ _ _ e r3 dv2 (k n n0 n1)
theorem c_law_taken (T : Txt K mg C) : Clb P w K mg base ca 1 "_law_taken" F_taken := by
  refine Clb.imp (F := F_taken1) ?_ taken_imp
  refine clb T.d_law_taken sc__law_taken (fun ds Ω Q E h => ?_) (fun f cdv A outer s H E hr => ⟨_, _, (ass_cons (as_if (at_gt (ae_ix (ae_var 0) ae_int) ae_int) (ass_cons (as_set 2 sc__law_taken.nd (ae_mod (ae_ix (ae_var 0) ae_int) (ae_var 1)))
      (ass_cons (as_setIx (ae_fdv (div_of hr) (ae_ix (ae_var 0) ae_int) (ae_var 1)) (ae_var 0) ae_int)
      (ass_one (as_ret (ae_var 2))))) ass_nil)
      (ass_cons (as_if (at_lt (ae_ix (ae_var 0) ae_int) (ae_len rfl T.b_len (ae_ix (ae_var 0) ae_int))) (ass_cons (as_set 3 sc__law_taken.nd (ae_ix (ae_ix (ae_var 0) ae_int) (ae_ix (ae_var 0) ae_int)))
      (ass_cons (as_setIx (ae_add (ae_ix (ae_var 0) ae_int) ae_int) (ae_var 0) ae_int)
      (ass_cons (as_if (at_ge (ae_var 3) (ae_powB ae_int ae_int)) (ass_one (as_setIx (ae_fdv (div_of hr) (ae_var 3) (ae_var 1)) (ae_var 0) ae_int)) ass_nil)
      (ass_one (as_ret (ae_mod (ae_var 3) (ae_var 1))))))) ass_nil)
      (ass_cons (as_setIx (ae_mod (ae_add (ae_mul (ae_ix (ae_var 0) ae_int) ae_int) ae_int) ae_int) (ae_var 0) ae_int)
      (ass_one (as_ret (ae_mod (ae_fdv (div_of hr) (ae_ix (ae_var 0) ae_int) ae_int) (ae_var 1))))))), fun ds Ω Qa Ea h => ?_⟩)
  · obtain ⟨_, _, _, _, _, _, rfl, _⟩ := h
    rfl
  · obtain ⟨a, many, ns, i, c, m, rfl, ho, i0, i1, c0, h0, h1, k⟩ := h
    unfold rowD at ho k
    walk_at "pl"
    simp only [ho, seq_o ho]
    walk_at "pl"
    have hm : many ≠ 0 := by omega
    have hp : ∀ x : Int, NoPy x many := fun x => nopy hm (by omega)
    have hf : ∀ x : Int, 0 ≤ x.fmod many ∧ x.fmod many < many := fun x => by
      rw [Int.fmod_eq_emod_of_nonneg _ (by omega)]
      exact ⟨Int.emod_nonneg _ hm, Int.emod_lt_of_pos _ h0⟩
    refine ite2 (fun e => ⟨hm, hp _, k _ _ _ _ (hf _).1 (hf _).2 i0 i1 ?_⟩) (fun e => ite2 (fun e2 => ?_) (fun e2 => ⟨mulok_r (by decide) (by decide), by decide, nopy (by decide) (by decide), hm, k _ _ _ _ (hf _).1 (hf _).2 i0 i1 c0⟩))
    · rw [Int.fdiv_eq_ediv_of_nonneg _ (by omega)]
      exact Int.ediv_nonneg c0 (by omega)
    · rw [List.length_map] at e2
      obtain ⟨v, hv, ev⟩ := atI_int i0 e2
      rw [ev]
      walk_at "pl"
      refine ⟨⟨by decide, by decide⟩, ite2 (fun e3 => ⟨hp _, hm, k _ _ _ _ (hf _).1 (hf _).2 (by omega) (by omega) ?_⟩) (fun e3 => ⟨hm, k _ _ _ _ (hf _).1 (hf _).2 (by omega) (by omega) c0⟩)⟩
      rw [Int.fdiv_eq_ediv_of_nonneg _ (by omega)]
      refine Int.ediv_nonneg ?_ (by omega)
      have : (0 : Int) ≤ 10 ^ Int.toNat 18 := by decide
      omega
def F_whole : AF := fun ds Ω Q _ => ∃ i : Int, ds = [.int i] ∧ Q (.bl true) Ω
theorem c_law_whole (T : Txt K mg C) : Clb P w K mg base ca 1 "_law_whole" F_whole := by
  refine clb T.d_law_whole sc__law_whole (fun ds Ω Q E h => ?_) (fun f cdv A outer s H E hr => ⟨_, _, (ass_one (as_ret (ae_and (ae_isi rfl T.b_isinstance rfl T.b_int boot_ty_int (ae_var 0)) (ae_one (ae_notV (ae_isi rfl T.b_isinstance rfl T.b_bool boot_ty_bool (ae_var 0))))))), fun ds Ω Qa Ea h => ?_⟩)
  · obtain ⟨_, rfl, _⟩ := h
    rfl
  · obtain ⟨i, rfl, k⟩ := h
    walk_at "pl"
    exact k
def F_signed : AF := fun ds Ω Q _ => ∃ (a : Addr) (m : Int), ds = [.o a, .int m] ∧ Ω a = some .row ∧ 0 ≤ m ∧ m < 2 ^ 240 ∧ ∀ n : Int, -m ≤ n → n ≤ m → Q (.int n) Ω
theorem c_law_signed (T : Txt K mg C) : Clb P w K mg base ca 2 "_law_signed" F_signed := by
  refine clb T.d_law_signed sc__law_signed (fun ds Ω Q E h => ?_) (fun f cdv A outer s H E hr => ⟨_, _, (ass_one (as_ret (ae_sub (ae_call (c_law_taken T) hr (takes_of rfl rfl rfl rfl) (by omega) (aa_cons (ae_var 0) (aa_cons (ae_add (ae_mul ae_int (ae_var 1)) ae_int) aa_nil))) (ae_var 1)))), fun ds Ω Qa Ea h => ?_⟩)
  · obtain ⟨_, _, rfl, _⟩ := h
    rfl
  · obtain ⟨a, m, rfl, ho, m0, m1, k⟩ := h
    walk_at "pl"
    refine ⟨mulok_l (by decide) (by decide), a, 2 * m + 1, rfl, ho, by omega, by omega, fun n n0 n1 => ?_⟩
    walk_at "pl"
    exact k _ (by omega) (by omega)
def F_common : AF := fun ds Ω Q _ => ∃ x y : Int, ds = [.int x, .int y] ∧ Q (.int (Int.gcd x y : Nat)) Ω
def I_common (x0 y0 : Int) (Ω : Om) : Nat → En → Om → Prop := fun m ρ Ω' => ∃ x y : Int, ρ = [some (.int x), some (.int y)] ∧ Ω' = Ω ∧ Int.gcd x y = Int.gcd x0 y0 ∧ m = y.natAbs
theorem c_law_common (T : Txt K mg C) : Clb P w K mg base ca 1 "_law_common" F_common := by
  refine clb T.d_law_common sc__law_common (fun ds Ω Q E h => ?_) (fun f cdv A outer s H E hr => ⟨_, _, (ass_cons (as_while (passes_of rfl) (at_neI (ae_var 1) ae_int) (ass_one (as_par 0 1 rfl sc__law_common.nd (ae_var 1) (ae_mod (ae_var 0) (ae_var 1)))))
      (ass_one (as_ret (ae_abs rfl T.b_abs (ae_var 0))))), fun ds Ω Qa Ea h => ?_⟩)
  · obtain ⟨_, _, rfl, _⟩ := h
    rfl
  · obtain ⟨x0, y0, rfl, k⟩ := h
    walk_at "pl"
    refine ⟨I_common x0 y0 Ω, ⟨_, x0, y0, rfl, rfl, rfl, rfl⟩, ?_⟩
    rintro m ρ Ω' ⟨x, y, rfl, rfl, hg, rfl⟩
    walk_at "pl"
    simp only [Bool.not_eq_true', decide_eq_false_iff_not]
    refine ite2 (fun e => ⟨e, _, fmod_lt e, _, _, rfl, rfl, ?_, rfl⟩) (fun e => ?_)
    · rw [gcd_step]; exact hg
    · have : y = 0 := Decidable.not_not.mp e
      subst this
      have e : (if x < 0 then -x else x) = ((Int.gcd x0 y0 : Nat) : Int) := by
        rw [← hg, Int.gcd_zero_right]
        split <;> omega
      rw [e]
      exact k
theorem atI_nat {ds : List D} {i : Int} {n : Nat} (h : i = n) : atI ds i = ds[n]? := by rw [h, atI_eq]
def tD (p : T3) : D := .tup [.int p.1, .int p.2.1, .int p.2.2]
def otD : Option T3 → D
  | none => .non
  | some p => tD p
def F_lawRoot : AF := fun ds Ω Q _ => ∃ n : Int, ds = [.int n] ∧ 0 ≤ n ∧ n.natAbs < 2 ^ 430000 ∧ Q (.int (isq n)) Ω
theorem nopy2 {x : Int} : NoPy x 2 := by unfold NoPy; decide
theorem c_law_root (T : Txt K mg C) : Clb P w K mg base ca 1 "_law_root" F_lawRoot := by
  refine clb T.d_law_root sc__law_root (fun ds Ω Q E h => ?_) (fun f cdv A outer s H E hr => ⟨_, _, (ass_cons (as_set 1 sc__law_root.nd ae_int)
      (ass_cons (as_set 2 sc__law_root.nd (ae_shl1 ae_int (ae_add (ae_fdv (div_of hr) (ae_bits (ae_var 0)) ae_int) ae_int)))
      (ass_cons (as_while (passes_of rfl) (at_gt (ae_sub (ae_var 2) (ae_var 1)) ae_int) (ass_cons (as_set 3 sc__law_root.nd (ae_fdv (div_of hr) (ae_add (ae_var 1) (ae_var 2)) ae_int))
      (ass_one (as_if (at_le (ae_mul (ae_var 3) (ae_var 3)) (ae_var 0)) (ass_one (as_set 1 sc__law_root.nd (ae_var 3))) (ass_one (as_set 2 sc__law_root.nd (ae_var 3)))))))
      (ass_one (as_ret (ae_var 1)))))), fun ds Ω Qa Ea h => ?_⟩)
  · obtain ⟨n, rfl, _⟩ := h
    rfl
  · obtain ⟨n, rfl, h0, h1, k⟩ := h
    walk_at "pl"
    have hbits := bits_le h1
    obtain ⟨e, he⟩ : ∃ e : Nat, e = Builtin.Int.intBits n / 2 + 1 := ⟨_, rfl⟩
    refine ⟨nopy2, e, by rw [Int.fdiv_eq_ediv_of_nonneg _ (by decide)]; omega, by omega, ?_⟩
    have hx : n < (2 ^ e : Int) * 2 ^ e := by
      have a1 := lt_bits (n := n)
      have a2 : 2 ^ Builtin.Int.intBits n ≤ 2 ^ (e + e) := Nat.pow_le_pow_right (by decide) (by omega)
      rw [Nat.pow_add] at a2
      have a3 : ((2 ^ e : Nat) : Int) = (2 : Int) ^ e := by simp
      rw [← a3]
      generalize (2 : Nat) ^ e = x at *
      have a4 : n.natAbs < x * x := Nat.lt_of_lt_of_le a1 a2
      have a5 : n < ((x * x : Nat) : Int) := by omega
      rwa [Int.natCast_mul] at a5
    have hpos : 0 < (2 ^ e : Int) := Int.pow_pos (by decide)
    obtain ⟨X, hX⟩ : ∃ X : Nat, X = 2 ^ 215002 := ⟨_, rfl⟩
    have hbig : (2 ^ e : Int) ≤ X := by
      rw [hX]
      exact Int.ofNat_le.mpr (Nat.pow_le_pow_right (by decide) (by omega) : 2 ^ e ≤ 2 ^ 215002)
    have h2 : ∀ u : Int, u.natAbs < X → IntMulOk u u := fun u h => by
      rw [hX] at h
      exact mulok h h (by decide)
    clear hX
    clear h1
    refine ⟨fun m ρ Ω' => ∃ (lo hi : Int) (z : Option D), ρ = [some (.int n), some (.int lo), some (.int hi), z] ∧ Ω' = Ω ∧ 0 ≤ lo ∧ lo * lo ≤ n ∧ n < hi * hi ∧ lo < hi ∧ hi ≤ X ∧ m = (hi - lo).toNat, ⟨_, 0, 2 ^ e, none, rfl, rfl, by decide, by omega, hx, hpos, hbig, rfl⟩, ?_⟩
    rintro m ρ Ω' ⟨lo, hi, z, rfl, rfl, l0, l1, l2, l3, l4, rfl⟩
    walk_at "pl"
    refine ite2 (fun g => ?_) (fun g => ?_)
    · have q5 : (lo + hi).fdiv 2 = (lo + hi) / 2 := Int.fdiv_eq_ediv_of_nonneg _ (by decide)
      rw [q5]
      obtain ⟨u, hu⟩ : ∃ u : Int, u = (lo + hi) / 2 := ⟨_, rfl⟩
      rw [← hu]
      have u1 : lo < u := by omega
      have u2 : u < hi := by omega
      refine ⟨nopy2, h2 u (by omega), ite2 (fun w => ?_) (fun w => ?_)⟩
      · exact ⟨(hi - u).toNat, by omega, by omega, w, l2, u2, l4, rfl⟩
      · exact ⟨(u - lo).toNat, by omega, l0, l1, by omega, u1, by omega, rfl⟩
    · have : hi = lo + 1 := by omega
      subst this
      rw [isq_uniq l0 l1 l2] at k
      exact k
def F_made : AF := fun ds Ω Q _ => ∃ x y z : Int, ds = [.int x, .int y, .int z] ∧ z ≠ 0 ∧ Q (tD (madeT x y z)) Ω
theorem c_law_made (T : Txt K mg C) : Clb P w K mg base ca 2 "_law_made" F_made := by
  refine clb T.d_law_made sc__law_made (fun ds Ω Q E h => ?_) (fun f cdv A outer s H E hr => ⟨_, _, (ass_cons (as_set 3 sc__law_made.nd (ae_call (c_law_common T) hr (takes_of rfl rfl rfl rfl) (by omega) (aa_cons (ae_call (c_law_common T) hr (takes_of rfl rfl rfl rfl) (by omega) (aa_cons (ae_var 0) (aa_cons (ae_var 1) aa_nil))) (aa_cons (ae_var 2) aa_nil))))
      (ass_cons (as_if (at_lt (ae_var 2) ae_int) (ass_one (as_set 3 sc__law_made.nd (ae_sub ae_int (ae_var 3)))) ass_nil)
      (ass_one (as_ret (ae_tup (aa_cons (ae_fdv (div_of hr) (ae_var 0) (ae_var 3)) (aa_cons (ae_fdv (div_of hr) (ae_var 1) (ae_var 3)) (aa_cons (ae_fdv (div_of hr) (ae_var 2) (ae_var 3)) aa_nil)))))))), fun ds Ω Qa Ea h => ?_⟩)
  · obtain ⟨_, _, _, rfl, _⟩ := h
    rfl
  · obtain ⟨x, y, z, rfl, hz, k⟩ := h
    have g0 : 0 < gcd3 x y z := Int.gcd_pos_of_ne_zero_right _ hz
    unfold madeT tD at k
    unfold gcd3 at k g0
    walk_at "pl"
    refine ⟨x, y, rfl, _, z, rfl, ite2 (fun e => ?_) (fun e => ?_)⟩
    · rw [if_pos e] at k
      have hp : ∀ u : Int, NoPy u (0 - ((Int.gcd ((Int.gcd x y : Nat) : Int) z : Nat) : Int)) := fun u => by unfold NoPy; omega
      exact ⟨_, rfl, hp _, hp _, hp _, by decide, k⟩
    · rw [if_neg e] at k
      have hp : ∀ u : Int, NoPy u ((Int.gcd ((Int.gcd x y : Nat) : Int) z : Nat) : Int) := fun u => by unfold NoPy; omega
      exact ⟨_, rfl, hp _, _, rfl, hp _, _, rfl, hp _, by decide, k⟩
theorem abs_le_mul' {g s : Int} (h0 : 0 ≤ g) (h : g * g ≤ s) : g ≤ s := by
  rcases Int.lt_or_le s g with w | w
  · rcases Int.lt_or_le g 1 with z | z
    · have : g = 0 := by omega
      subst this
      simpa using h
    · have : g * 1 ≤ g * g := Int.mul_le_mul_of_nonneg_left z h0
      omega
  · exact w
abbrev H2 (p : T3) : Prop := Ht 200000 p
theorem ml9 {i j : Int} (a b : Nat) (hi : i.natAbs < 2 ^ a) (hj : j.natAbs < 2 ^ b) (h : a + b ≤ 900000) : IntMulOk i j := mulok hi hj h
theorem nmul {i j : Int} {a b : Nat} (hi : i.natAbs < 2 ^ a) (hj : j.natAbs < 2 ^ b) : (i * j).natAbs < 2 ^ (a + b) := by
  rw [Int.natAbs_mul, Nat.pow_add]
  exact Nat.mul_lt_mul_of_lt_of_le hi (Nat.le_of_lt hj) (Nat.pow_pos (by decide))
theorem nadd {i j : Int} {a : Nat} (hi : i.natAbs < 2 ^ a) (hj : j.natAbs < 2 ^ a) : (i + j).natAbs < 2 ^ (a + 1) := by
  rw [Nat.pow_succ]; omega
theorem nsub {i j : Int} {a : Nat} (hi : i.natAbs < 2 ^ a) (hj : j.natAbs < 2 ^ a) : (i - j).natAbs < 2 ^ (a + 1) := by
  rw [Nat.pow_succ]; omega
theorem nup {i : Int} {a : Nat} (b : Nat) (hi : i.natAbs < 2 ^ a) (h : a ≤ b) : i.natAbs < 2 ^ b := Nat.lt_of_lt_of_le hi (Nat.pow_le_pow_right (by decide) h)
def F_sum : AF := fun ds Ω Q _ => ∃ (p q : T3) (k : Int), ds = [tD p, tD q, .int k] ∧ Ht 200000 p ∧ Ht 200000 q ∧ k.natAbs < 2 ^ 1000 ∧ p.2.2 ≠ 0 ∧ q.2.2 ≠ 0 ∧ Q (tD (sumT p q k)) Ω
theorem c_law_sum (T : Txt K mg C) : Clb P w K mg base ca 3 "_law_sum" F_sum := by
  refine clb T.d_law_sum sc__law_sum (fun ds Ω Q E h => ?_) (fun f cdv A outer s H E hr => ⟨_, _, (ass_cons (as_set 3 sc__law_sum.nd (ae_add (ae_mul (ae_ix (ae_var 0) ae_int) (ae_ix (ae_var 1) ae_int)) (ae_mul (ae_mul (ae_var 2) (ae_ix (ae_var 1) ae_int)) (ae_ix (ae_var 0) ae_int))))
      (ass_one (as_ret (ae_call (c_law_made T) hr (takes_of rfl rfl rfl rfl) (by omega) (aa_cons (ae_var 3) (aa_cons (ae_add (ae_mul (ae_ix (ae_var 0) ae_int) (ae_ix (ae_var 1) ae_int)) (ae_mul (ae_mul (ae_var 2) (ae_ix (ae_var 1) ae_int)) (ae_ix (ae_var 0) ae_int))) (aa_cons (ae_mul (ae_ix (ae_var 0) ae_int) (ae_ix (ae_var 1) ae_int)) aa_nil))))))), fun ds Ω Qa Ea h => ?_⟩)
  · obtain ⟨_, _, _, rfl, _⟩ := h
    rfl
  · obtain ⟨⟨a, b, c⟩, ⟨a', b', c'⟩, j, rfl, ⟨h1, h2, h3⟩, ⟨g1, g2, g3⟩, hj, hc, hc', k⟩ := h
    simp only at h1 h2 h3 g1 g2 g3 hc hc'
    unfold tD
    unfold sumT at k
    walk_at "pl"
    refine ⟨ml9 _ _ h1 g3 (by decide), ml9 _ _ hj g1 (by decide), ml9 _ _ (nmul hj g1) h3 (by decide), ml9 _ _ h2 g3 (by decide), ml9 _ _ hj g2 (by decide), ml9 _ _ (nmul hj g2) h3 (by decide), ml9 _ _ h3 g3 (by decide), _, _, _, rfl, Int.mul_ne_zero hc hc', k⟩
def F_prod : AF := fun ds Ω Q _ => ∃ (p q : T3) (d : Int), ds = [tD p, tD q, .int d] ∧ Ht 200000 p ∧ Ht 430000 q ∧ d.natAbs < 2 ^ 1000 ∧ p.2.2 ≠ 0 ∧ q.2.2 ≠ 0 ∧ Q (tD (prodT p q d)) Ω
theorem c_law_product (T : Txt K mg C) : Clb P w K mg base ca 3 "_law_product" F_prod := by
  refine clb T.d_law_product sc__law_product (fun ds Ω Q E h => ?_) (fun f cdv A outer s H E hr => ⟨_, _, (ass_cons (as_set 3 sc__law_product.nd (ae_add (ae_mul (ae_ix (ae_var 0) ae_int) (ae_ix (ae_var 1) ae_int)) (ae_mul (ae_mul (ae_var 2) (ae_ix (ae_var 0) ae_int)) (ae_ix (ae_var 1) ae_int))))
      (ass_one (as_ret (ae_call (c_law_made T) hr (takes_of rfl rfl rfl rfl) (by omega) (aa_cons (ae_var 3) (aa_cons (ae_add (ae_mul (ae_ix (ae_var 0) ae_int) (ae_ix (ae_var 1) ae_int)) (ae_mul (ae_ix (ae_var 0) ae_int) (ae_ix (ae_var 1) ae_int))) (aa_cons (ae_mul (ae_ix (ae_var 0) ae_int) (ae_ix (ae_var 1) ae_int)) aa_nil))))))), fun ds Ω Qa Ea h => ?_⟩)
  · obtain ⟨_, _, _, rfl, _⟩ := h
    rfl
  · obtain ⟨⟨a, b, c⟩, ⟨a', b', c'⟩, j, rfl, ⟨h1, h2, h3⟩, ⟨g1, g2, g3⟩, hj, hc, hc', k⟩ := h
    simp only at h1 h2 h3 g1 g2 g3 hc hc'
    unfold tD
    unfold prodT at k
    walk_at "pl"
    refine ⟨ml9 _ _ h1 g1 (by decide), ml9 _ _ hj h2 (by decide), ml9 _ _ (nmul hj h2) g2 (by decide), ml9 _ _ h1 g2 (by decide), ml9 _ _ h2 g1 (by decide), ml9 _ _ h3 g3 (by decide), _, _, _, rfl, Int.mul_ne_zero hc hc', k⟩
def F_quot : AF := fun ds Ω Q _ => ∃ (p q : T3) (d : Int), ds = [tD p, tD q, .int d] ∧ Ht 200000 p ∧ Ht 210000 q ∧ d.natAbs < 2 ^ 1000 ∧ p.2.2 ≠ 0 ∧ q.2.2 ≠ 0 ∧ Sz d q ∧ Q (otD (quotT p q d)) Ω
theorem madeT_ht {x y z : Int} {B : Nat} (hz : z ≠ 0) (h1 : x.natAbs < 2 ^ B) (h2 : y.natAbs < 2 ^ B) (h3 : z.natAbs < 2 ^ B) : Ht B (madeT x y z) := by
  obtain ⟨P, N⟩ := madeT_px (x := x) (y := y) hz
  obtain ⟨l1, l2, l3⟩ := P.le N
  exact ⟨Nat.lt_of_le_of_lt l1 h1, Nat.lt_of_le_of_lt l2 h2, Nat.lt_of_le_of_lt l3 h3⟩
theorem c_law_quotient (T : Txt K mg C) : Clb P w K mg base ca 4 "_law_quotient" F_quot := by
  refine clb T.d_law_quotient sc__law_quotient (fun ds Ω Q E h => ?_) (fun f cdv A outer s H E hr => ⟨_, _, (ass_cons (as_if (AWt.at_ (aw_and (at_eqI (ae_ix (ae_var 1) ae_int) ae_int) (aw_and1 (at_eqI (ae_ix (ae_var 1) ae_int) ae_int)))) (ass_one (as_ret ae_non)) ass_nil)
      (ass_cons (as_set 3 sc__law_quotient.nd (ae_sub (ae_mul (ae_ix (ae_var 1) ae_int) (ae_ix (ae_var 1) ae_int)) (ae_mul (ae_mul (ae_var 2) (ae_ix (ae_var 1) ae_int)) (ae_ix (ae_var 1) ae_int))))
      (ass_one (as_ret (ae_call (c_law_product T) hr (takes_of rfl rfl rfl rfl) (by omega) (aa_cons (ae_var 0) (aa_cons (ae_call (c_law_made T) hr (takes_of rfl rfl rfl rfl) (by omega) (aa_cons (ae_mul (ae_ix (ae_var 1) ae_int) (ae_ix (ae_var 1) ae_int)) (aa_cons (ae_sub ae_int (ae_mul (ae_ix (ae_var 1) ae_int) (ae_ix (ae_var 1) ae_int))) (aa_cons (ae_var 3) aa_nil)))) (aa_cons (ae_var 2) aa_nil)))))))), fun ds Ω Qa Ea h => ?_⟩)
  · obtain ⟨_, _, _, rfl, _⟩ := h
    rfl
  · obtain ⟨p, ⟨a, b, c⟩, j, rfl, hp, ⟨g1, g2, g3⟩, hj, hc, hc', hs, k⟩ := h
    unfold Sz at hs
    simp only at g1 g2 g3 hc' hs
    unfold quotT at k
    have e0 : tD (a, b, c) = .tup [.int a, .int b, .int c] := rfl
    rw [e0]
    walk_at "pl"
    simp only at k
    by_cases h : a = 0 ∧ b = 0
    · rw [if_pos h] at k
      rw [if_pos h.1, if_pos h.2]
      exact k
    · rw [if_neg h] at k
      have hsz : a * a - j * b * b ≠ 0 := by
        rcases hs with z | z
        · exact absurd z h
        · exact z
      have rest : ∀ {A B : Prop}, (¬ (a = 0 ∧ b = 0) → B) → (if a = 0 then (if b = 0 then A else B) else B) := fun f => by
        by_cases u : a = 0
        · by_cases v : b = 0
          · exact absurd ⟨u, v⟩ h
          · rw [if_pos u, if_neg v]; exact f h
        · rw [if_neg u]; exact f h
      have u1 : (c * a).natAbs < 2 ^ 430000 := nup _ (nmul g3 g1) (by decide)
      have u2 : (0 - c * b).natAbs < 2 ^ 430000 := by
        have := nup 430000 (nmul g3 g2) (by decide)
        rw [Int.zero_sub, Int.natAbs_neg]
        exact this
      have u3 : (a * a - j * b * b).natAbs < 2 ^ 430000 := nup _ (nsub (a := 421000) (nup _ (nmul g1 g1) (by decide)) (nup _ (nmul (nmul hj g2) g2) (by decide))) (by decide)
      have hm := madeT_ht hsz u1 u2 u3
      exact rest fun _ => ⟨ml9 _ _ g1 g1 (by decide), ml9 _ _ hj g2 (by decide), ml9 _ _ (nmul hj g2) g2 (by decide), ml9 _ _ g3 g1 (by decide), ml9 _ _ g3 g2 (by decide), _, _, _, rfl, hsz, p, _, j, rfl, hp, hm, hj, hc, Int.ne_of_gt (madeT_px (x := c * a) (y := 0 - c * b) hsz).2.pos, k⟩
def F_below1 : AF := fun ds Ω Q _ => ∃ (p : T3) (d : Int), ds = [tD p, .int d] ∧ Ht 200000 p ∧ d.natAbs < 2 ^ 1000 ∧ 0 ≤ d ∧ p.2.2 ≠ 0 ∧ Q (.int (belowT p d)) Ω
theorem c_law_below (T : Txt K mg C) : Clb P w K mg base ca 2 "_law_below" F_below1 := by
  refine clb T.d_law_below sc__law_below (fun ds Ω Q E h => ?_) (fun f cdv A outer s H E hr => ⟨_, _, (ass_cons (as_set 2 sc__law_below.nd (ae_mul (ae_mul (ae_ix (ae_var 0) ae_int) (ae_ix (ae_var 0) ae_int)) (ae_var 1)))
      (ass_cons (as_set 3 sc__law_below.nd (ae_call (c_law_root T) hr (takes_of rfl rfl rfl rfl) (by omega) (aa_cons (ae_var 2) aa_nil)))
      (ass_cons (as_if (at_lt (ae_ix (ae_var 0) ae_int) ae_int) (ass_one (as_set 3 sc__law_below.nd (ae_sub (ae_sub ae_int (ae_var 3)) (ae_intB rfl T.b_int (ae_lt (ae_mul (ae_var 3) (ae_var 3)) (ae_var 2)))))) ass_nil)
      (ass_one (as_ret (ae_fdv (div_of hr) (ae_add (ae_ix (ae_var 0) ae_int) (ae_var 3)) (ae_ix (ae_var 0) ae_int))))))), fun ds Ω Qa Ea h => ?_⟩)
  · obtain ⟨_, _, rfl, _⟩ := h
    rfl
  · obtain ⟨⟨a, b, c⟩, j, rfl, ⟨g1, g2, g3⟩, hj, hj0, hc, k⟩ := h
    simp only at g1 g2 g3 hc
    unfold belowT rootT at k
    simp only at k
    unfold tD
    walk_at "pl"
    have hS : 0 ≤ b * b * j := Int.mul_nonneg (sqNN b) hj0
    have hS2 : (b * b * j).natAbs < 2 ^ 430000 := nup _ (nmul (nmul g2 g2) hj) (by decide)
    refine ⟨ml9 _ _ g2 g2 (by decide), ml9 _ _ (nmul g2 g2) hj (by decide), _, rfl, hS, hS2, ?_⟩
    have hi : (isq (b * b * j)).natAbs < 2 ^ 430000 := by
      obtain ⟨q0, q1, _⟩ := isq_spec hS
      refine Nat.lt_of_le_of_lt ?_ hS2
      have := abs_le_mul' q0 q1
      generalize b * b * j = u at *
      omega
    dsimp only
    refine ite2 (fun e => ?_) (fun e => ?_)
    · rw [if_pos e] at k
      exact ⟨_, rfl, _, rfl, _, rfl, ml9 _ _ hi hi (by decide), hc, k⟩
    · rw [if_neg e] at k
      exact ⟨_, rfl, hc, k⟩
theorem told_part {C : CT} {Ω : Om} {p : Addr} {r : R} {S : List Addr} (h : RdO C Ω p r S) : ∃ c fs, Ω p = some (.obj c fs) ∧ ("part" : Str) ∉ fs.map (·.1) ∧ ("took" : Str) ∉ fs.map (·.1) ∧ c ∈ C.cls r.kd ∧ c ∈ [C.c_Fixed, C.c_Fraction, C.c_Root, C.c_Ruled, C.c_Four, C.c_Eight] := by
  obtain ⟨c, fs, ho, hm, hc⟩ := h.obj
  refine ⟨c, fs, ho, hm _ (.inr (.inl rfl)), hm _ (.inr (.inr rfl)), hc, ?_⟩
  revert hc
  cases r.kd <;> intro z <;> simp only [CT.cls, List.mem_cons, List.not_mem_nil, or_false] at z ⊢
  · exact .inl z
  · rcases z with z | z | z
    · exact .inr (.inl z)
    · exact .inr (.inr (.inl z))
    · exact .inr (.inr (.inr (.inl z)))
  · exact .inr (.inr (.inr (.inr (.inl z))))
  · exact .inr (.inr (.inr (.inr (.inr z))))
theorem valT_app {m : List (List Key × D)} {k k' : List Key} {d : D} : valT (m ++ [(k', d)]) k = (valT m k).or (if k' = k then some d else none) := by
  induction m with
  | nil => simp [valT]
  | cons p r ih =>
    rw [List.cons_append]
    simp only [valT]
    split
    · rfl
    · exact ih
def mkD (g : Nat → Int × Int) (k : Nat) : List (List Key × D) := (List.range k).map fun j => (kI (g j).1 (g j).2, D.int j)
theorem mkD_succ {g : Nat → Int × Int} {k : Nat} : mkD g (k + 1) = mkD g k ++ [(kI (g k).1 (g k).2, D.int k)] := by
  unfold mkD; rw [List.range_succ, List.map_append]; rfl
theorem kI_eq {x y : Int × Int} : kI x.1 x.2 = kI y.1 y.2 ↔ x = y :=
  ⟨fun h => Prod.ext (kI_inj h).1 (kI_inj h).2, fun h => by rw [h]⟩
theorem mkD_none {g : Nat → Int × Int} {y : Int × Int} : ∀ {k : Nat}, (∀ i, i < k → g i ≠ y) → valT (mkD g k) (kI y.1 y.2) = none
  | 0, _ => rfl
  | k + 1, h => by
    rw [mkD_succ, valT_app, mkD_none fun i hi => h i (by omega), if_neg (fun z => h k (Nat.lt_succ_self k) (kI_eq.mp z))]
    rfl
theorem mkD_some {g : Nat → Int × Int} {y : Int × Int} {a : Nat} : ∀ {k : Nat}, a < k → g a = y → (∀ i, i < k → g i = y → i = a) → valT (mkD g k) (kI y.1 y.2) = some (.int a)
  | 0, h, _, _ => absurd h (by omega)
  | k + 1, h, e, u => by
    rw [mkD_succ, valT_app]
    rcases Nat.lt_or_ge a k with z | z
    · rw [mkD_some z e fun i hi => u i (by omega)]; rfl
    · have ea : a = k := by omega
      subst ea
      rw [mkD_none fun i hi q => by have := u i (by omega) q; omega, if_pos (kI_eq.mpr e)]
      rfl
def ringP (s f : Int) (x : Int × Int) (n : Nat) : List Int := (List.range n).map fun i => qOf f (itOf s f x i)
theorem ringP_succ {s f : Int} {x : Int × Int} {n : Nat} : ringP s f x (n + 1) = ringP s f x n ++ [qOf f (itOf s f x n)] := by
  unfold ringP; rw [List.range_succ, List.map_append]; rfl
theorem ringP_len {s f : Int} {x : Int × Int} {n : Nat} : (ringP s f x n).length = n := by unfold ringP; rw [List.length_map, List.length_range]
/-- the state a root begins with -/
def begR (t b : Int) : Int × Int := (t * abI b, b * abI b)
def F_ring (C : CT) : AF := fun ds Ω Q E => ∃ (t s b most : Int), ds = [.int t, .int s, .int b, .int most] ∧ t.natAbs ≤ 30 ∧ 0 ≤ s ∧ s ≤ 300 ∧ b ≠ 0 ∧ b.natAbs ≤ 6 ∧ 0 ≤ most ∧
  ((∃ f, 0 ≤ f ∧ f * f = s ∧ ∀ Ω', (∀ a, Ω a ≠ none → Ω' a = Ω a) → E (.ref C.c_BadTree) Ω') ∨
   ∃ (f g : Int) (a n : Nat), NSq s ∧ 0 ≤ f ∧ f * f < s ∧ s < (f + 1) * (f + 1) ∧ 0 ≤ g ∧ g * g ≤ s * abI b * abI b ∧ s * abI b * abI b < (g + 1) * (g + 1) ∧ RingAt (s * abI b * abI b) g (begR t b) a n ∧ n < 900000 ∧
     (most < n → ∀ Ω', (∀ a, Ω a ≠ none → Ω' a = Ω a) → E (.ref C.c_TooLong) Ω') ∧
     ((n : Int) ≤ most → ∀ Ω', (∀ a, Ω a ≠ none → Ω' a = Ω a) → Q (.tup [.lst (((ringP (s * abI b * abI b) g (begR t b) n).take a).map D.int), .lst (((ringP (s * abI b * abI b) g (begR t b) n).drop a).map D.int)]) Ω'))
def I_ring (C : CT) (Ω0 : Om) (d0 d1 d2 : D) (most S g : Int) (x : Int × Int) (n : Nat) (pm ps pp : Addr) : Nat → En → Om → Prop := fun μ ρ Ω => ∃ k : Nat, μ = n - k ∧ k ≤ n ∧ (k : Int) ≤ most ∧ Ω pm = some (oRoot C 0 (itOf S g x k).1 S (itOf S g x k).2 g) ∧ Ω ps = some (.dit (mkD (itOf S g x) k)) ∧ Ω pp = some (.lst ((ringP S g x k).map D.int)) ∧
  pm ≠ ps ∧ pm ≠ pp ∧ ps ≠ pp ∧ Ω0 pm = none ∧ Ω0 ps = none ∧ Ω0 pp = none ∧ (∀ a, Ω0 a ≠ none → Ω a = Ω0 a) ∧ ρ = [some d0, some d1, some d2, some (.int most), some (.o pm), some (.o ps), some (.o pp), none]
theorem cut_a {xs : List D} (a : Nat) : cutD xs none (some (a : Int)) = xs.take a := by
  unfold cutD
  rw [HT.sIx_nat, HT.sIx_none, List.drop_zero, Nat.sub_zero]
  by_cases h : a ≤ xs.length
  · rw [Nat.min_eq_left h]
  · rw [Nat.min_eq_right (by omega), List.take_length, List.take_of_length_le (by omega)]
theorem cut_b {xs : List D} (a : Nat) : cutD xs (some (a : Int)) none = xs.drop a := by
  unfold cutD
  rw [HT.sIx_nat, HT.sIx_none]
  by_cases h : a ≤ xs.length
  · rw [Nat.min_eq_left h, List.take_of_length_le (by rw [List.length_drop]; omega)]
  · rw [Nat.min_eq_right (by omega), List.drop_eq_nil_of_le (as := xs) (by omega), List.drop_eq_nil_of_le (as := xs) (by omega), List.take_nil]
theorem c_ring_of (T : Txt K mg C) : Clb P w K mg base ca 12 "ring_of" (F_ring C) := by
  refine clb T.d_ring_of sc_ring_of (fun ds Ω Q E h => ?_) (fun f cdv A outer s H E hr => ⟨_, _, (ass_cons (as_expr (ae_call (c_need_tree_5 T) hr (takes_of rfl rfl rfl rfl) (by omega) (aa_cons (ae_tup (aa_cons ae_str (aa_cons (ae_var 0) (aa_cons (ae_var 1) (aa_cons (ae_var 2) aa_nil))))) (aa_cons ae_int aa_nil))))
      (ass_cons (as_if (at_eqI (ae_mul (ae_call (c_root_below T) hr (takes_of rfl rfl rfl rfl) (by omega) (aa_cons (ae_var 1) aa_nil)) (ae_call (c_root_below T) hr (takes_of rfl rfl rfl rfl) (by omega) (aa_cons (ae_var 1) aa_nil))) (ae_var 1)) (ass_one (as_raise rfl (takes_of rfl rfl rfl rfl) T.x_BadTree)) ass_nil)
      (ass_cons (as_set 4 sc_ring_of.nd (ae_call (c_root_of T) hr (takes_of rfl rfl rfl rfl) (by omega) (aa_cons (ae_var 0) (aa_cons (ae_var 1) (aa_cons (ae_var 2) aa_nil)))))
      (ass_cons (as_set 5 sc_ring_of.nd ae_dnewT)
      (ass_cons (as_set 6 sc_ring_of.nd (ae_lstO aa_nil))
      (ass_cons (as_while (passes_of rfl) (at_tnotin hr.units (aa_cons (ae_fld 1 (ae_var 4)) (aa_cons (ae_fld 3 (ae_var 4)) aa_nil)) (ae_var 5)) (ass_cons (as_if (at_eqI (ae_len rfl T.b_len (ae_var 6)) (ae_var 3)) (ass_one (as_raise rfl (takes_of rfl rfl rfl rfl) T.x_TooLong)) ass_nil)
      (ass_cons (as_tput hr.units (ae_len rfl T.b_len (ae_var 6)) (ae_var 5) (aa_cons (ae_fld 1 (ae_var 4)) (aa_cons (ae_fld 3 (ae_var 4)) aa_nil)))
      (ass_one (as_expr (ae_app (ae_var 6) (ae_meth0 (k := 1) hr (takes_of rfl rfl rfl rfl) (by omega) (ae_var 4))))))))
      (ass_cons (as_set 7 sc_ring_of.nd (ae_tget hr.units (ae_var 5) (aa_cons (ae_fld 1 (ae_var 4)) (aa_cons (ae_fld 3 (ae_var 4)) aa_nil))))
      (ass_one (as_ret (ae_tup (aa_cons (ae_sl (ae_var 6) ao_none (ao_some (ae_var 7))) (aa_cons (ae_sl (ae_var 6) (ao_some (ae_var 7)) ao_none) aa_nil)))))))))))), fun ds Ω Qa Ea h => ?_⟩)
  · obtain ⟨_, _, _, _, rfl, _⟩ := h
    rfl
  · obtain ⟨t, s, b, most, rfl, ht, s0, s1, b0, b1, m0, hor⟩ := h
    walk_at "pl"
    have fw : ∀ {z : Int}, z.natAbs ≤ 1000 → Few z := fun {z} h => Nat.le_trans h (by decide)
    refine ⟨by decide, .root t s b, 1, rfl, by decide, ?_⟩
    have hok : Rw.ok 1 (.root t s b) = true := by
      simp only [Rw.ok, Bool.and_eq_true, fewB_iff, decide_eq_true_eq, Bool.not_eq_true', decide_eq_false_iff_not]
      exact ⟨⟨⟨⟨fw (by omega), fw (by omega)⟩, fw (by omega)⟩, s0⟩, b0⟩
    unfold gate
    rw [if_pos hok]
    refine ⟨s, rfl, s0, by omega, fun r1 r10 r11 r12 => ⟨s, rfl, s0, by omega, fun r2 r20 r21 r22 => ⟨r1, rfl, r2, rfl, ?_⟩⟩⟩
    have e12 : r2 = r1 := by
      rcases Int.lt_or_le r1 r2 with z | z
      · have := Int.mul_le_mul (show r1 + 1 ≤ r2 by omega) (show r1 + 1 ≤ r2 by omega) (by omega) r20
        omega
      · rcases Int.lt_or_le r2 r1 with y | y
        · have := Int.mul_le_mul (show r2 + 1 ≤ r1 by omega) (show r2 + 1 ≤ r1 by omega) (by omega) r10
          omega
        · omega
    subst e12
    refine ⟨mulok_r (by omega) (by
      rcases Int.lt_or_le r2 (2 ^ 64) with z | z
      · exact z
      · have := Int.mul_le_mul z z (by decide) (by omega)
        omega), ?_⟩
    rcases hor with ⟨f0, f00, f01, kE⟩ | ⟨f0, g, a, n, hN, f00, f01, f02, g0, g1, g2, hR, hn, kE, kQ⟩
    · have e : r2 = f0 := by
        rcases Int.lt_or_le r2 f0 with z | z
        · have := Int.mul_le_mul (show r2 + 1 ≤ f0 by omega) (show r2 + 1 ≤ f0 by omega) (by omega) f00
          omega
        · rcases Int.lt_or_le f0 r2 with y | y
          · have := Int.mul_le_mul (show f0 + 1 ≤ r2 by omega) (show f0 + 1 ≤ r2 by omega) (by omega) r10
            have e1 : (f0 + 1) * (f0 + 1) = f0 * f0 + 2 * f0 + 1 := by grind
            omega
          · omega
      rw [e, if_pos f01]
      exact kE Ω fun _ _ => rfl
    have nsq : ¬ r2 * r2 = s := fun z => by
      rcases Int.lt_or_le r2 (f0 + 1) with y | y
      · have := Int.mul_le_mul (show r2 ≤ f0 by omega) (show r2 ≤ f0 by omega) r10 f00
        omega
      · have := Int.mul_le_mul y y (by omega) r10
        omega
    rw [if_neg nsq]
    refine ⟨t, s, b, rfl, fw (by omega), fw (by omega), fw (by omega), s0, b0, fun r pm Ω1 hop hRd hpm hf1 => ?_⟩
    have huniq : ∀ {u v w : Int}, 0 ≤ u → u * u ≤ w → w < (u + 1) * (u + 1) → 0 ≤ v → v * v ≤ w → w < (v + 1) * (v + 1) → u = v := fun {u v w} a1 a2 a3 a4 a5 a6 => by
      rcases Int.lt_or_le u v with z | z
      · have := Int.mul_le_mul (show u + 1 ≤ v by omega) (show u + 1 ≤ v by omega) (by omega) a4
        omega
      · rcases Int.lt_or_le v u with y | y
        · have := Int.mul_le_mul (show v + 1 ≤ u by omega) (show v + 1 ≤ u by omega) (by omega) a1
          omega
        · omega
    cases hop with
    | @rootF _ _ _ ff h1 h2 =>
      have e1 : (ff + 1) * (ff + 1) = ff * ff + 2 * ff + 1 := by grind
      have e := huniq h1 (Int.le_of_eq h2) (by omega) r20 r21 r22
      rw [e] at h2
      exact absurd h2 nsq
    | @rootR _ _ _ ff gg h1 h2 h3 h4 h5 h6 =>
    have eg : gg = g := huniq h4 h5 h6 g0 g1 g2
    subst eg
    have hrt := (rt_start (top := t) b0 hN g0 g1 g2).1
    have ab : 1 ≤ abI b ∧ abI b ≤ 6 := by unfold abI; split <;> omega
    have hbox : BoxR 36 gg 500 (begR t b) ∧ gg ≤ 110 ∧ s * abI b * abI b ≤ 10800 := by
      have p1 := Int.mul_le_mul (show s ≤ 300 by omega) ab.2 (by omega) (by decide)
      have p2 := Int.mul_le_mul (show s * abI b ≤ 1800 by omega) ab.2 (by omega) (by decide)
      have gb : gg ≤ 110 := by
        rcases Int.lt_or_le gg 111 with z | z
        · omega
        · have := Int.mul_le_mul z z (by decide) (by omega)
          omega
      have p3 : (t * abI b).natAbs ≤ 30 * 6 := by rw [Int.natAbs_mul]; exact Nat.mul_le_mul ht (by omega)
      have p4 : (b * abI b).natAbs ≤ 6 * 6 := by rw [Int.natAbs_mul]; exact Nat.mul_le_mul b1 (by omega)
      exact ⟨⟨fun _ => (by show b * abI b ≤ _; omega), fun _ => (by show -(b * abI b) ≤ _; omega), (by show ((t * abI b).natAbs : Int) ≤ 500; omega)⟩, gb, by omega⟩
    have all := box_all (x := begR t b) hrt hbox.1 (by omega) (by decide)
    have hgg := hbox.2.1
    have hSS := hbox.2.2
    obtain ⟨S, hS⟩ : ∃ S, S = s * abI b * abI b := ⟨_, rfl⟩
    rw [← hS] at all hSS hrt
    rw [← hS] at hRd hR kQ
    have ho : Ω1 pm = some (oRoot C 0 (itOf S gg (begR t b) 0).1 S (itOf S gg (begR t b) 0).2 gg) := by
      cases hRd with
      | root e => exact e
    show ∀ ps, Ω1 ps = none → _
    intro ps hps
    refine ⟨by decide, fun pp hpp => ?_⟩
    have hfr : ∀ {Ωx : Om} {p : Addr}, (∀ a, Ω a ≠ none → Ωx a = Ω a) → Ωx p = none → Ω p = none := fun {Ωx p} h e => by
      cases q : Ω p with
      | none => rfl
      | some o => have := h p (by rw [q]; simp); rw [e, q] at this; cases this
    have n1 : pm ≠ ps := fun e => by rw [← e, ho] at hps; cases hps
    have n2 : pp ≠ ps := fun e => by rw [e, oset_same] at hpp; cases hpp
    rw [oset_ne n2] at hpp
    have n3 : pm ≠ pp := fun e => by rw [← e, ho] at hpp; cases hpp
    have z2 := hfr hf1 hps
    have z3 := hfr hf1 hpp
    refine ⟨I_ring C Ω (.int t) (.int s) (.int b) most S gg (begR t b) n pm ps pp, ⟨n, 0, rfl, Nat.zero_le _, m0, ?_, ?_, ?_, n1, n3, fun e => n2 e.symm, hpm, z2, z3, fun a ha => ?_, rfl⟩, ?_⟩
    · rw [oset_ne n3, oset_ne n1]; exact ho
    · rw [oset_ne (fun e => n2 e.symm), oset_same]; rfl
    · rw [oset_same]; rfl
    · have a1 : a ≠ pp := fun e => ha (by rw [e]; exact z3)
      have a2 : a ≠ ps := fun e => ha (by rw [e]; exact z2)
      rw [oset_ne a1, oset_ne a2]
      exact hf1 a ha
    rintro μ ρ Ω2 ⟨k, hμ, hk, hkm, o1, o2, o3, d1, d2, d3, y1, y2, y3, hf, rfl⟩
    walk_at "pl"
    simp only [aTNotIn, aFld]
    walk_at "pl"
    refine ⟨_, _, o1, _, rfl, _, _, o1, _, rfl, _, rfl, _, rfl, _, o2, ?_⟩
    have hseq : (D.o pp).seq Ω2 = some ((ringP S gg (begR t b) k).map D.int) := by simp only [D.seq, o3]
    rcases Nat.lt_or_ge k n with hkn | hkn
    · rw [mkD_none (g := itOf S gg (begR t b)) (y := itOf S gg (begR t b) k) fun i hi => hR.new k hkn i hi]
      rw [if_pos (show (!(none : Option D).isSome) = true from rfl)]
      refine ⟨_, hseq, ite2 (fun e => ?_) (fun e => ?_)⟩
      · rw [List.length_map, ringP_len] at e
        exact kE (by omega) Ω2 hf
      · simp only [aTPut, aFld]
        walk_at "pl"
        obtain ⟨bx, rt⟩ := all k
        obtain ⟨bx2, rt2⟩ := all (k + 1)
        have sm : ∀ {z : Int}, z.natAbs ≤ 100000 → Sm z := fun {z} h => sm_of (e := 20) (Nat.le_trans h (by decide)) (by decide)
        have q1 := bx.t
        have q2 := bx.p
        have q3 := bx.n
        have q4 := bx2.t
        have q5 : ((itOf S gg (begR t b) (k + 1)).1).natAbs ≤ 100000 := by omega
        have o1' : oset Ω2 ps (.dit (mkD (itOf S gg (begR t b)) k ++ [(kI (itOf S gg (begR t b) k).1 (itOf S gg (begR t b) k).2, .int (((ringP S gg (begR t b) k).map D.int).length : Nat))])) pm = some (oRoot C 0 (itOf S gg (begR t b) k).1 S (itOf S gg (begR t b) k).2 gg) := by rw [oset_ne d1]; exact o1
        refine ⟨_, hseq, _, _, o1, _, rfl, _, _, o1, _, rfl, _, o2, _, rfl, _, rfl, mkD_none (g := itOf S gg (begR t b)) (y := itOf S gg (begR t b) k) fun i hi => hR.new k hkn i hi, ?_, ?_, _, _, o1', (by show ¬ ("following" : Str) ∈ [("many" : Str), "top", "square", "below", "floor"]; decide), F_rootNext C, m_rootNext T _ (by simp), ?_⟩
        · unfold mkD; rw [List.length_map, List.length_range]; omega
        · exact ⟨pp, _, rfl, by rw [oset_ne (fun e => d3 e.symm)]; exact o3⟩
        · refine ⟨pm, 0, _, _, _, _, _, _, rfl, o1', rt.b0, sm (by omega), sm (by have := hrt.lo; have := Int.mul_nonneg hrt.f0 hrt.f0; omega), sm (by have := rt.b0; have := hrt.f0; omega), sm (by have := hrt.f0; omega), rfl, rfl, sm q5, ?_⟩
          refine ⟨_, (by rw [oset_ne (fun e => d2 e.symm), oset_ne (fun e => d3 e.symm)]; exact o3), by rw [List.length_map, ringP_len, sizeLine_eq]; omega, n - (k + 1), by omega, k + 1, rfl, hkn, ?_, ?_, ?_, ?_, d1, d2, d3, y1, y2, y3, fun a ha => ?_, rfl⟩
          · rw [List.length_map, ringP_len] at e
            omega
          · rw [oset_ne d2, oset_same]; rfl
          · rw [oset_ne d3, oset_ne (fun e => d1 e.symm), oset_same, mkD_succ, List.length_map, ringP_len]
          · rw [oset_same, ringP_succ, List.map_append]; rfl
          · have a1 : a ≠ pp := fun e => ha (by rw [e]; exact y3)
            have a2 : a ≠ pm := fun e => ha (by rw [e]; exact y1)
            have a3 : a ≠ ps := fun e => ha (by rw [e]; exact y2)
            rw [oset_ne a1, oset_ne a2, oset_ne a3]
            exact hf a ha
    · have ek : k = n := by omega
      subst ek
      have hsm : valT (mkD (itOf S gg (begR t b)) k) (kI (itOf S gg (begR t b) k).1 (itOf S gg (begR t b) k).2) = some (.int a) := mkD_some hR.lt hR.eq fun i hi q => by
        rcases Nat.lt_or_ge i a with z | z
        · exact absurd (q.trans hR.eq.symm) (hR.new a hR.lt i z)
        · rcases Nat.lt_or_ge a i with y | y
          · exact absurd (hR.eq.trans q.symm) (hR.new i hi a y)
          · omega
      rw [hsm, if_neg (show ¬ (!(some (D.int (a : Int))).isSome) = true by simp)]
      simp only [aTGet, aFld]
      walk_at "pl"
      refine ⟨_, _, o1, _, rfl, _, _, o1, _, rfl, _, o2, _, rfl, _, rfl, _, hsm, a, rfl, _, o3, a, rfl, _, o3, by decide, ?_⟩
      have := kQ hkm Ω2 hf
      rw [List.map_take, List.map_drop] at this
      have c1 : ∀ xs : List D, cutD xs none (some (a : Int)) = xs.take a := fun xs => by
        unfold cutD
        rw [HT.sIx_nat, HT.sIx_none, List.drop_zero, Nat.sub_zero]
        by_cases h : a ≤ xs.length
        · rw [Nat.min_eq_left h]
        · rw [Nat.min_eq_right (by omega), List.take_length, List.take_of_length_le (by omega)]
      have c2 : ∀ xs : List D, cutD xs (some (a : Int)) none = xs.drop a := fun xs => by
        unfold cutD
        rw [HT.sIx_nat, HT.sIx_none]
        by_cases h : a ≤ xs.length
        · rw [Nat.min_eq_left h, List.take_of_length_le (by rw [List.length_drop]; omega)]
        · rw [Nat.min_eq_right (by omega), List.drop_eq_nil_of_le (as := xs) (by omega), List.drop_eq_nil_of_le (as := xs) (by omega), List.take_nil]
      rw [c1, c2]
      exact this
def tqOf (d : Int) (p : T3) (n : Nat) : T3 := (ltOf d p n).getD (0, 0, 1)
theorem SeqR.tq {d s f m : Int} {p : T3} {x : Int × Int} (h : SeqR d p s f m x) (n : Nat) : ltOf d p n = some (tqOf d p n) ∧ Nm (tqOf d p n) ∧ Px (tqOf d p n) (itOf s f x n).1 m (itOf s f x n).2 ∧ belowT (tqOf d p n) d = qOf f (itOf s f x n) ∧ nextT (tqOf d p n) d = some (tqOf d p (n + 1)) := by
  obtain ⟨q, e, hq, pq, bq, _⟩ := h.all n
  obtain ⟨q', e', _⟩ := h.all (n + 1)
  have e1 : tqOf d p n = q := by unfold tqOf; rw [e]; rfl
  have e2 : tqOf d p (n + 1) = q' := by unfold tqOf; rw [e']; rfl
  rw [e1, e2]
  refine ⟨e, hq, pq, bq, ?_⟩
  have : (ltOf d p n).bind (fun q => nextT q d) = some q' := e'
  rw [e] at this
  exact this
theorem SeqR.tq_eq {d s f m : Int} {p : T3} {x : Int × Int} (h : SeqR d p s f m x) {i j : Nat} : tqOf d p i = tqOf d p j ↔ itOf s f x i = itOf s f x j := by
  rw [← h.same, (h.tq i).1, (h.tq j).1, Option.some.injEq]
def pyT (p : T3) : PyData := .tuple [.int p.1, .int p.2.1, .int p.2.2]
theorem pys_tD : ∀ xs : List T3, D.pys (xs.map tD) = some (xs.map pyT)
  | [] => rfl
  | x :: xs => by
    rw [List.map_cons, D.pys, pys_tD xs]
    rfl
theorem lay_tD : ∀ xs : List T3, PyData.canLayAll0 (xs.map pyT) = true ∧ PyData.depthAll (xs.map pyT) ≤ 2
  | [] => ⟨rfl, Nat.zero_le _⟩
  | x :: xs => by
    obtain ⟨a, b⟩ := lay_tD xs
    rw [List.map_cons]
    simp only [PyData.canLayAll0, PyData.depthAll, a, Bool.and_true]
    refine ⟨by simp [pyT, PyData.canLay0, PyData.canLayAll0], ?_⟩
    have : (pyT x).depth ≤ 2 := by simp [pyT, PyData.depth, PyData.depthAll]
    omega
theorem eqv_tD {p q : T3} : PyData.eqv (pyT p) (pyT q) = decide (p = q) := by
  obtain ⟨a, b, c⟩ := p
  obtain ⟨a', b', c'⟩ := q
  simp only [pyT, PyData.eqv, PyData.eqvAll, Bool.and_true, Prod.mk.injEq]
  by_cases h1 : a = a' <;> by_cases h2 : b = b' <;> by_cases h3 : c = c' <;> simp [h1, h2, h3]
theorem shaped_tD (xs : List T3) : SeqAt.shaped (.list (xs.map pyT)) = true := by
  unfold SeqAt.shaped
  obtain ⟨a, b⟩ := lay_tD xs
  simp only [PyData.canLay0, a, Bool.true_and, PyData.depth]
  exact decide_eq_true (by omega)
theorem shaped_pyT (p : T3) : SeqAt.shaped (pyT p) = true := by
  unfold SeqAt.shaped
  simp [pyT, PyData.canLay0, PyData.canLayAll0, PyData.depth, PyData.depthAll]
def F_lring : AF := fun ds Ω Q _ => ∃ (p : T3) (d s f m : Int) (x : Int × Int) (a n : Nat), ds = [tD p, .int d] ∧ SeqR d p s f m x ∧ RingAt s f x a n ∧ n < 900000 ∧ d ≤ 300 ∧ (∀ i, Ht 30 (tqOf d p i)) ∧ (∀ i, (belowT (tqOf d p i) d).natAbs < 2 ^ 30) ∧
  ∀ Ω', (∀ b, Ω b ≠ none → Ω' b = Ω b) → Q (.tup [.lst (((ringP s f x n).take a).map D.int), .lst (((ringP s f x n).drop a).map D.int)]) Ω'
def I_lring (Ω0 : Om) (d : Int) (p : T3) (S g : Int) (x : Int × Int) (n : Nat) (ps pp : Addr) : Nat → En → Om → Prop := fun μ ρ Ω => ∃ (k : Nat) (z4 : Option D), μ = n - k ∧ k ≤ n ∧ Ω ps = some (.lst (((List.range k).map (tqOf d p)).map tD)) ∧ Ω pp = some (.lst ((ringP S g x k).map D.int)) ∧
  ps ≠ pp ∧ Ω0 ps = none ∧ Ω0 pp = none ∧ (∀ a, Ω0 a ≠ none → Ω a = Ω0 a) ∧ ρ = [some (tD (tqOf d p k)), some (.int d), some (.o ps), some (.o pp), z4, none]
theorem c_law_ring (T : Txt K mg C) : Clb P w K mg base ca 6 "_law_ring" F_lring := by
  refine clb T.d_law_ring sc__law_ring (fun ds Ω Q E h => ?_) (fun f cdv A outer s H E hr => ⟨_, _, (ass_cons (as_set 2 sc__law_ring.nd (ae_lstO aa_nil))
      (ass_cons (as_set 3 sc__law_ring.nd (ae_lstO aa_nil))
      (ass_cons (as_while (passes_of rfl) (at_notInO (u65 hr) (ae_var 0) (ae_var 2)) (ass_cons (as_expr (ae_app (ae_var 2) (ae_var 0)))
      (ass_cons (as_set 4 sc__law_ring.nd (ae_call (c_law_below T) hr (takes_of rfl rfl rfl rfl) (by omega) (aa_cons (ae_var 0) (aa_cons (ae_var 1) aa_nil))))
      (ass_cons (as_expr (ae_app (ae_var 3) (ae_var 4)))
      (ass_one (as_set 0 sc__law_ring.nd (ae_call (c_law_quotient T) hr (takes_of rfl rfl rfl rfl) (by omega) (aa_cons (ae_tup (aa_cons ae_int (aa_cons ae_int (aa_cons ae_int aa_nil)))) (aa_cons (ae_call (c_law_sum T) hr (takes_of rfl rfl rfl rfl) (by omega) (aa_cons (ae_var 0) (aa_cons (ae_tup (aa_cons (ae_var 4) (aa_cons ae_int (aa_cons ae_int aa_nil)))) (aa_cons (ae_neg ae_int) aa_nil)))) (aa_cons (ae_var 1) aa_nil))))))))))
      (ass_cons (as_set 5 sc__law_ring.nd (ae_index (by have := u65 hr; exact this) (ae_var 2) (aa_cons (ae_var 0) aa_nil)))
      (ass_one (as_ret (ae_tup (aa_cons (ae_sl (ae_var 3) ao_none (ao_some (ae_var 5))) (aa_cons (ae_sl (ae_var 3) (ao_some (ae_var 5)) ao_none) aa_nil))))))))), fun ds Ω Qa Ea h => ?_⟩)
  · obtain ⟨_, _, _, _, _, _, _, _, rfl, _⟩ := h
    rfl
  · obtain ⟨p, d, S, g, m, x, a, n, rfl, hS, hR, hn, hd, hH, hB, k⟩ := h
    walk_at "pl"
    refine ⟨by decide, fun ps hps => ⟨by decide, fun pp hpp => ?_⟩⟩
    have n1 : pp ≠ ps := fun e => by rw [e, oset_same] at hpp; cases hpp
    rw [oset_ne n1] at hpp
    have hd10 : d.natAbs < 2 ^ 10 := by have := hS.hd.1; omega
    have hd0 := hS.hd.1
    refine ⟨I_lring Ω d p S g x n ps pp, ⟨n, 0, none, rfl, Nat.zero_le _, ?_, ?_, fun e => n1 e.symm, hps, hpp, fun b hb => ?_, rfl⟩, ?_⟩
    · rw [oset_ne (fun e => n1 e.symm), oset_same]; rfl
    · rw [oset_same]; rfl
    · have a1 : b ≠ pp := fun e => hb (by rw [e]; exact hpp)
      have a2 : b ≠ ps := fun e => hb (by rw [e]; exact hps)
      rw [oset_ne a1, oset_ne a2]
    rintro μ ρ Ω1 ⟨kk, z4, hμ, hk, o2, o3, d1, y2, y3, hf, rfl⟩
    walk_at "pl"
    have hany : ((((List.range kk).map (tqOf d p)).map pyT).any fun z => PyData.eqv z (pyT (tqOf d p kk))) = decide (kk = n) := by
      rw [List.any_map]
      by_cases e : kk = n
      · rw [decide_eq_true e, List.any_eq_true]
        subst e
        refine ⟨tqOf d p a, List.mem_map.mpr ⟨a, List.mem_range.mpr hR.lt, rfl⟩, ?_⟩
        show PyData.eqv _ _ = true
        rw [eqv_tD, decide_eq_true (hS.tq_eq.mpr hR.eq)]
      · rw [decide_eq_false e, List.any_eq_false]
        rintro y hy
        obtain ⟨i, hi, rfl⟩ := List.mem_map.mp hy
        have hi := List.mem_range.mp hi
        show ¬ PyData.eqv _ _ = true
        rw [eqv_tD]
        intro z
        exact hR.new kk (by omega) i hi (hS.tq_eq.mp (of_decide_eq_true z))
    refine ⟨_, pyT (tqOf d p kk), _, .inr ⟨ps, rfl, o2⟩, rfl, pys_tD _, shaped_pyT _, shaped_tD _, ?_⟩
    rw [hany]
    obtain ⟨_, hnm, _, hbq, hnx⟩ := hS.tq kk
    refine ⟨_, rfl, ite2 (fun e => ?_) (fun e => ?_)⟩
    · have hlt : kk < n := by
        have : ¬ kk = n := by simpa using e
        omega
      have hh := hH kk
      have hb := hB kk
      have hq0 := hnm.pos
      have hs2 : Ht 210000 (sumT (tqOf d p kk) (belowT (tqOf d p kk) d, 0, 1) (-1)) := by
        unfold sumT
        have one : (1 : Int).natAbs < 2 ^ 1 := by decide
        have mone : (-1 : Int).natAbs < 2 ^ 1 := by decide
        have zer : (0 : Int).natAbs < 2 ^ 1 := by decide
        refine madeT_ht (by simp only [Int.mul_one]; omega) ?_ ?_ ?_
        · exact nup _ (nadd (a := 100) (nup _ (nmul hh.1 one) (by decide)) (nup _ (nmul (nmul mone hb) hh.2.2) (by decide))) (by decide)
        · exact nup _ (nadd (a := 100) (nup _ (nmul hh.2.1 one) (by decide)) (nup _ (nmul (nmul mone zer) hh.2.2) (by decide))) (by decide)
        · exact nup _ (nmul hh.2.2 one) (by decide)
      have hs3 : (sumT (tqOf d p kk) (belowT (tqOf d p kk) d, 0, 1) (-1)).2.2 ≠ 0 := by
        unfold sumT
        exact Int.ne_of_gt (madeT_px (by simp only [Int.mul_one]; omega)).2.pos
      refine ⟨⟨ps, _, rfl, o2⟩, _, o2, by rw [List.length_map, List.length_map, List.length_range, sizeLine_eq]; omega, ?_⟩
      refine ⟨tqOf d p kk, d, rfl, hh.up (by decide), nup _ hd10 (by decide), by omega, by omega, ?_⟩
      have o3' : ∀ X, oset Ω1 ps X pp = some (.lst ((ringP S g x kk).map D.int)) := fun X => by rw [oset_ne (fun z => d1 z.symm)]; exact o3
      refine ⟨⟨pp, _, rfl, o3' _⟩, _, o3' _, by rw [List.length_map, ringP_len, sizeLine_eq]; omega, by decide, by decide, ?_⟩
      refine ⟨tqOf d p kk, (belowT (tqOf d p kk) d, 0, 1), -1, rfl, hh.up (by decide), ⟨nup _ hb (by decide), Nat.pow_pos (by decide), Nat.one_lt_two_pow (by decide)⟩, Nat.one_lt_two_pow (by decide), by omega, (show (1 : Int) ≠ 0 by decide), ?_⟩
      refine ⟨(1, 0, 1), _, d, rfl, ⟨Nat.one_lt_two_pow (by decide), Nat.pow_pos (by decide), Nat.one_lt_two_pow (by decide)⟩, hs2, nup _ hd10 (by decide), by decide, hs3, sz_of (.inl hS.hd), ?_⟩
      refine ⟨n - (kk + 1), by omega, kk + 1, some (.int (belowT (tqOf d p kk) d)), rfl, hlt, ?_, ?_, d1, y2, y3, fun b hb => ?_, ?_⟩
      · rw [oset_ne d1, oset_same, List.range_succ, List.map_append, List.map_append]; rfl
      · rw [oset_same, ringP_succ, List.map_append, hbq]; rfl
      · have a1 : b ≠ pp := fun e => hb (by rw [e]; exact y3)
        have a2 : b ≠ ps := fun e => hb (by rw [e]; exact y2)
        rw [oset_ne a1, oset_ne a2]
        exact hf b hb
      · have : quotT (1, 0, 1) (sumT (tqOf d p kk) (belowT (tqOf d p kk) d, 0, 1) (-1)) d = some (tqOf d p (kk + 1)) := hnx
        rw [this]; rfl
    · have ek : kk = n := by simpa using e
      subst ek
      simp only [aIdx]
      walk_at "pl"
      have hget : ∀ i, i < kk → (((List.range kk).map (tqOf d p)).map pyT)[i]? = some (pyT (tqOf d p i)) := fun i hi => by
        rw [List.getElem?_map, List.getElem?_map, List.getElem?_range hi]; rfl
      refine ⟨⟨_, .inr ⟨ps, rfl, o2⟩⟩, _, .inr ⟨ps, rfl, o2⟩, _, rfl, _, pys_tD _, shaped_tD _, shaped_pyT _, a, _, hget a hR.lt, ?_, fun i z hi hz => ?_, ?_⟩
      · show PyData.eqv (pyT (tqOf d p a)) (pyT (tqOf d p kk)) = true
        rw [eqv_tD, decide_eq_true (hS.tq_eq.mpr hR.eq)]
      · rw [hget i (Nat.lt_trans hi hR.lt)] at hz
        cases hz
        show PyData.eqv (pyT (tqOf d p i)) (pyT (tqOf d p kk)) = false
        rw [eqv_tD]
        refine decide_eq_false fun z => hR.new a hR.lt i hi ?_
        exact (hS.tq_eq.mp z).trans hR.eq.symm
      · refine ⟨_, o3, _, o3, by decide, ?_⟩
        rw [cut_a, cut_b, ← List.map_take, ← List.map_drop]
        exact k Ω1 hf
/-- why a ring is refused, as the law tells it -/
def F_why (C : CT) : AF := fun ds Ω Q E => ∃ (t s b most : Int) (why : Str), ds = [.int t, .int s, .int b, .int most] ∧ (∀ Q' E', (∀ Ω', (∀ a, Ω a ≠ none → Ω' a = Ω a) → (why = "bad" → E' (.ref C.c_BadTree) Ω') ∧ (why = "long" → E' (.ref C.c_TooLong) Ω')) → F_ring C ds Ω Q' E') ∧ (why = "bad" ∨ why = "long") ∧
  ∀ Ω', (∀ a, Ω a ≠ none → Ω' a = Ω a) → Q (.str why) Ω'
theorem c_law_why (T : Txt K mg C) : Clb P w K mg base ca 16 "_law_why" (F_why C) := by
  refine clb T.d_law_why sc__law_why (fun ds Ω Q E h => ?_) (fun f cdv A outer s H E hr => ⟨_, _, (ass_cons (as_tryAs (i := 4) rfl rfl sc__law_why.nd rfl rfl ⟨rfl, by decide, .inl T.y_PartError⟩ (takes_of rfl rfl rfl rfl) (fun W1 pn1 xe1 tk1 hp1 => ASs.cast (ass_one (as_expr (ae_call (c_ring_of T) hr tk1 (by omega) (aa_cons (ae_var 0) (aa_cons (ae_var 1) (aa_cons (ae_var 2) (aa_cons (ae_var 3) aa_nil))))))) (by first | (dsimp only [Cx.tr, MthX, Cx.suite]; done) | rfl | (delta tMethD; dsimp only [Cx.tr, MthX, Cx.suite]; done) | (delta tMethD; dsimp only [Cx.tr, MthX, Cx.suite]; rfl)) (by first | (dsimp only [Cx.tr, MthX, Cx.suite]; done) | rfl | (delta tMethD; dsimp only [Cx.tr, MthX, Cx.suite]; done) | (delta tMethD; dsimp only [Cx.tr, MthX, Cx.suite]; rfl))) (fun a1 oe1 cls1 pn1 hz1 hf1 => ASs.cast (ass_cons (as_set 5 sc__law_why.nd (ae_lst (aa_cons (ae_isE hz1 hf1 rfl T.b_isinstance (ae_var 4) (pe_gR rfl T.y_BadTree) (.own _)) (aa_cons (ae_isE hz1 hf1 rfl T.b_isinstance (ae_var 4) (pe_gR rfl T.y_TooLong) (.own _)) (aa_cons (ae_isE hz1 hf1 rfl T.b_isinstance (ae_var 4) (pe_gR rfl T.y_NoValue) (.own _)) aa_nil)))))
      (ass_cons (as_if (AWt.at_ (aw_or (at_not (at_val (ae_isE hz1 hf1 rfl T.b_isinstance (ae_var 4) (pe_gT rfl T.b_ValueError boot_ty_ValueError) (.ty _)))) (aw_or1 (at_neI (ae_count (by have := u65 hr; exact this) (ae_var 5) (aa_cons ae_bl aa_nil)) ae_int)))) (ass_one (as_ret ae_str)) ass_nil)
      (ass_one (as_ret (ae_ix (ae_lst (aa_cons ae_str (aa_cons ae_str (aa_cons ae_str aa_nil)))) (ae_index (by have := u65 hr; exact this) (ae_var 5) (aa_cons ae_bl aa_nil))))))) (by first | (dsimp only [Cx.tr, MthX, Cx.suite]; done) | rfl | (delta tMethD; dsimp only [Cx.tr, MthX, Cx.suite]; done) | (delta tMethD; dsimp only [Cx.tr, MthX, Cx.suite]; rfl)) (by first | (dsimp only [Cx.tr, MthX, Cx.suite]; done) | rfl | (delta tMethD; dsimp only [Cx.tr, MthX, Cx.suite]; done) | (delta tMethD; dsimp only [Cx.tr, MthX, Cx.suite]; rfl))))
      (ass_one (as_ret ae_str))), fun ds Ω Qa Ea h => ?_⟩)
  · obtain ⟨_, _, _, _, _, rfl, _⟩ := h
    rfl
  · obtain ⟨t, S, b, most, why, rfl, hF, hor, k⟩ := h
    walk_at "pl"
    refine hF _ _ fun Ω1 hf => ⟨fun e => ?_, fun e => ?_⟩
    · subst e
      refine ⟨true, T.e_BadTree_PartError, ?_⟩
      rw [if_pos rfl]
      intro a ha
      refine ⟨_, rfl, T.z_BadTree, true, T.i_BadTree_BadTree, _, rfl, T.z_BadTree, false, T.i_BadTree_TooLong, _, rfl, T.z_BadTree, false, T.i_BadTree_NoValue, ?_⟩
      refine ⟨by decide, _, rfl, T.z_BadTree, true, T.i_BadTree_ValueError, ?_⟩
      rw [if_neg (by decide)]
      simp only [aCntD]
      walk_at "pl"
      refine ⟨⟨_, .inl rfl⟩, _, .inl rfl, .bool true, rfl, [.bool true, .bool false, .bool false], rfl, by decide +kernel, by decide +kernel, ?_⟩
      rw [if_neg (by decide +kernel)]
      refine ⟨by decide, ?_⟩
      simp only [aIdx]
      walk_at "pl"
      refine ⟨⟨_, .inl rfl⟩, _, .inl rfl, .bool true, rfl, [.bool true, .bool false, .bool false], rfl, by decide +kernel, by decide +kernel, 0, .bool true, rfl, by decide +kernel, fun m z' hm => absurd hm (by omega), ?_⟩
      exact ⟨_, rfl, k Ω1 hf⟩
    · subst e
      refine ⟨true, T.e_TooLong_PartError, ?_⟩
      rw [if_pos rfl]
      intro a ha
      refine ⟨_, rfl, T.z_TooLong, false, T.i_TooLong_BadTree, _, rfl, T.z_TooLong, true, T.i_TooLong_TooLong, _, rfl, T.z_TooLong, false, T.i_TooLong_NoValue, ?_⟩
      refine ⟨by decide, _, rfl, T.z_TooLong, true, T.i_TooLong_ValueError, ?_⟩
      rw [if_neg (by decide)]
      simp only [aCntD]
      walk_at "pl"
      refine ⟨⟨_, .inl rfl⟩, _, .inl rfl, .bool true, rfl, [.bool false, .bool true, .bool false], rfl, by decide +kernel, by decide +kernel, ?_⟩
      rw [if_neg (by decide +kernel)]
      refine ⟨by decide, ?_⟩
      simp only [aIdx]
      walk_at "pl"
      refine ⟨⟨_, .inl rfl⟩, _, .inl rfl, .bool true, rfl, [.bool false, .bool true, .bool false], rfl, by decide +kernel, by decide +kernel, 1, .bool true, rfl, by decide +kernel, fun m z' hm hz => ?_, ?_⟩
      · have : m = 0 := by omega
        subst this
        cases hz
        decide +kernel
      exact ⟨_, rfl, k Ω1 hf⟩
def F_list : AF := fun ds Ω Q _ => ∃ xs : List Int, ds = [.lst (xs.map D.int), .lst (xs.map D.int)] ∧ Q (.bl true) Ω
def P_list (d : D) (Ω : Om) : List D → En → Om → Prop := fun us ρ Ω' => ∃ (rest : List Int) (z : Option D), us = rest.map D.int ∧ Ω' = Ω ∧ ρ = [some d, some d, z]
theorem c_law_list (T : Txt K mg C) : Clb P w K mg base ca 3 "_law_list" F_list := by
  refine clb T.d_law_list sc__law_list (fun ds Ω Q E h => ?_) (fun f cdv A outer s H E hr => ⟨_, _, (ass_cons (as_if (AWt.at_ (aw_or (at_not (at_val (ae_isi rfl T.b_isinstance rfl T.b_list boot_ty_list (ae_var 0)))) (aw_or1 (at_neI (ae_len rfl T.b_len (ae_var 0)) (ae_len rfl T.b_len (ae_var 1)))))) (ass_one (as_ret ae_bl)) ass_nil)
      (ass_cons (as_for (passes_of rfl) rfl (ae_var 0) (ag_name (i := 2) sc__law_list.nd rfl (Or.inl rfl)) (ass_one (as_if (at_not (at_val (ae_call (c_law_whole T) hr (takes_of rfl rfl rfl rfl) (by omega) (aa_cons (ae_var 2) aa_nil)))) (ass_one (as_ret ae_bl)) ass_nil)))
      (ass_one (as_ret (ae_eqD hr.units (ae_var 0) (ae_var 1)))))), fun ds Ω Qa Ea h => ?_⟩)
  · obtain ⟨_, rfl, _⟩ := h
    rfl
  · obtain ⟨xs, rfl, k⟩ := h
    walk_at "pl"
    rw [if_neg (by decide), if_neg (by simp)]
    refine forL_ind (P_list (.lst (xs.map D.int)) Ω) ⟨xs, none, rfl, rfl, rfl⟩ ?_ ?_
    · rintro ρ Ω' ⟨rest, z, hu, rfl, rfl⟩
      walk_at "pl"
      exact fEq_refl (fits_ints) k
    · rintro x us ρ Ω' De e1 ih _ _ ⟨rest, z, hu, rfl, rfl⟩
      cases rest with
      | nil => cases hu
      | cons y ys =>
        rw [List.map_cons, List.cons.injEq] at hu
        obtain ⟨rfl, rfl⟩ := hu
        walk_at "pl"
        refine ⟨y, rfl, true, rfl, ?_⟩
        rw [if_neg (by decide)]
        exact ih _ _ ⟨ys, _, rfl, rfl, rfl⟩
def F_fpR : AF := fun ds Ω Q _ => ∃ (tr : Tr) (many : Nat) (most : Int) (rd : Nat → R) (qv : Nat → Int), ds = [tr.d, .int many, .int most] ∧ tr.good 5 ∧ many ≤ 2000000 ∧ (∀ r, Opened tr r → r = rd 0) ∧
  (∀ k, k < many → ∃ i m', Told i (rd k) (most - (rd k).tk) (rd (k + 1)) m' (.part (qv k))) ∧ ∀ Ω', (∀ b, Ω b ≠ none → Ω' b = Ω b) → Q (.tup [.lst (((List.range many).map qv).map D.int), .str "parts"]) Ω'
def I_fpR (C : CT) (Ω0 : Om) (tr : Tr) (many : Nat) (most : Int) (rd : Nat → R) (qv : Nat → Int) (p a : Addr) : Nat → En → Om → Prop := fun n ρ Ω => ∃ (k : Nat) (S : List Addr) (z : Option D), k + n = many ∧ (rd k).lv ≤ 33 ∧ RdO C Ω p (rd k) S ∧ (∀ b ∈ S, Ω0 b = none) ∧ (∀ b, Ω0 b ≠ none → Ω b = Ω0 b) ∧ a ∉ S ∧ Ω0 a = none ∧ Ω a = some (.lst (((List.range k).map qv).map D.int)) ∧
  ρ = [some tr.d, some (.int many), some (.int most), some (.o p), some (.o a), z]
theorem c_first_root (T : Txt K mg C) : Clb P w K mg base ca 38 "first_parts" F_fpR := by
  have tl : Tolds P w K mg base ca C 33 := tolds T (by decide)
  have tk : Tooks P w K mg base ca C 36 := tooks T (by decide)
  refine clb T.d_first_parts sc_first_parts (fun ds Ω Q E h => ?_) (fun f cdv A outer s H E hr => ⟨_, _, (ass_cons (as_set 3 sc_first_parts.nd (ae_call (c_readerG T) hr (takes_of rfl rfl rfl rfl) (by omega) (aa_cons (ae_var 0) aa_nil)))
      (ass_cons (as_set 4 sc_first_parts.nd (ae_lstO aa_nil))
      (ass_cons (as_while (passes_of rfl) (at_lt (ae_len rfl T.b_len (ae_var 4)) (ae_var 1)) (ass_cons (as_set 5 sc_first_parts.nd (ae_meth (k := 36) hr (takes_of rfl rfl rfl rfl) (by omega) (ae_var 3) (aa_cons (ae_sub (ae_var 2) (ae_meth0 (k := 36) hr (takes_of rfl rfl rfl rfl) (by omega) (ae_var 3))) aa_nil)))
      (ass_cons (as_if (at_neS (ae_ix (ae_var 5) ae_int) ae_str) (ass_one (as_frz 4 (as_ret (ae_tup (aa_cons (ae_var 4) (aa_cons (ae_ix (ae_var 5) ae_int) aa_nil)))))) ass_nil)
      (ass_one (as_expr (ae_app (ae_var 4) (ae_ix (ae_var 5) ae_int)))))))
      (ass_one (as_frz 4 (as_ret (ae_tup (aa_cons (ae_var 4) (aa_cons ae_str aa_nil))))))))), fun ds Ω Qa Ea h => ?_⟩)
  · obtain ⟨_, _, _, _, _, rfl, _⟩ := h
    rfl
  · obtain ⟨tr, many, most, rd, qv, rfl, hg, hmany, hop, htold, kk⟩ := h
    walk_at "pl"
    refine .inl ⟨tr, rfl, hg, fun r p Ω1 S1 ho1 hr1 hf1 hs1 => ?_⟩
    have hlv0 := opened_lv 5 tr r hg ho1
    obtain rfl := hop r ho1
    walk_at "pl"
    refine ⟨by decide, fun a ha => ?_⟩
    have ha0 : Ω a = none := by
      cases e : Ω a with
      | none => rfl
      | some o => have := hs1 a (by rw [e]; simp); rw [ha, e] at this; cases this
    refine ⟨I_fpR C Ω tr many most rd qv p a, ⟨many, 0, S1, none, by omega, Nat.le_trans hlv0 (by decide), hr1.keep fun b hb => oset_ne fun e => hr1.there b hb (by rw [e]; exact ha), hf1, fun b hb => ?_, fun z => hr1.there a z ha, ha0, oset_same, rfl⟩, ?_⟩
    · rw [oset_ne (fun e => hb (by rw [e]; exact ha0))]
      exact hs1 b hb
    rintro n ρ Ω2 ⟨k, S, z, hkn, hlv, hR, hf, hs, haS, ha0, hoa, rfl⟩
    walk_at "pl"
    have hseq : (D.o a).seq Ω2 = some (((List.range k).map qv).map D.int) := by simp only [D.seq, hoa]
    refine ⟨_, hseq, ?_⟩
    have hlen : (((List.range k).map qv).map D.int).length = k := by rw [List.length_map, List.length_map, List.length_range]
    rw [hlen]
    refine ite2 (fun hlt => ?_) (fun hge => ?_)
    · obtain ⟨i, m', t0⟩ := htold k (by omega)
      obtain ⟨c, fs, ho, hpt, _, _, hc⟩ := told_part hR
      refine ⟨c, fs, ho, hpt, F_part C 33, m_part T tl c hc, ?_⟩
      refine took_in tk (Nat.le_trans hlv (by decide)) hR _ _ ?_
      refine ⟨_, rfl, p, rd k, S, _, _, rd (k + 1), _, _, rfl, hlv, hR, t0, fun Ω3 S' h1 k1 k2 => ?_⟩
      have hoa3 : Ω3 a = some (.lst (((List.range k).map qv).map D.int)) := (k1 a haS (by rw [hoa]; simp)).trans hoa
      have haS' : a ∉ S' := fun z => by
        rcases k2 a z with w | w
        · exact haS w
        · rw [hoa] at w; cases w
      simp only [Ans.ok, Ans.d]
      walk_at "pl"
      rw [if_neg (by decide)]
      refine ⟨⟨a, _, rfl, hoa3⟩, _, hoa3, by rw [hlen, sizeLine_eq]; omega, n - 1, by omega, k + 1, S', _, by omega, Nat.le_trans t0.lv hlv, h1.keep fun b hb => oset_ne fun e => haS' (by rw [← e]; exact hb), fun b hb => ?_, fun b hb => ?_, haS', ha0, by rw [oset_same, List.range_succ, List.map_append, List.map_append]; rfl, rfl⟩
      · rcases k2 b hb with z | z
        · exact hf b z
        · cases e : Ω b with
          | none => rfl
          | some o => have := hs b (by rw [e]; simp); rw [z, e] at this; cases this
      · rw [oset_ne (fun e => hb (by rw [e]; exact ha0)), k1 b (fun z => hb (hf b z)) (by rw [hs b hb]; exact hb), hs b hb]
    · have ek : k = many := by omega
      subst ek
      exact ⟨_, hoa, by decide, kk (odel Ω2 a) fun b hb => by rw [odel_ne (fun e => hb (by rw [e]; exact ha0)), hs b hb]⟩
theorem ringP_two {s f : Int} {x : Int × Int} {a n : Nat} (h : RingAt s f x a n) : (ringP s f x n).take a ++ (ringP s f x n).drop a ++ (ringP s f x n).drop a = ringP s f x (n + (n - a)) := by
  rw [List.take_append_drop]
  unfold ringP
  rw [List.range_add, List.map_append, List.map_map]
  congr 1
  have e : n = a + (n - a) := by have := h.lt; omega
  rw [show List.range n = List.range (a + (n - a)) from congrArg List.range e, List.range_add, List.map_append, List.drop_left' (by rw [List.length_map, List.length_range]), List.map_map]
  refine List.map_congr_left fun i _ => ?_
  show qOf f (itOf s f x (a + i)) = qOf f (itOf s f x (n + i))
  rw [h.turn i]
/-- all that the law wants of a root -/
structure RK (t d b g : Int) (a n : Nat) : Prop where
  g0 : 0 ≤ g
  g1 : g * g ≤ d * abI b * abI b
  g2 : d * abI b * abI b < (g + 1) * (g + 1)
  gl : g ≤ 110
  sl : d * abI b * abI b ≤ 10800
  ab : 1 ≤ abI b ∧ abI b ≤ 6
  ring : RingAt (d * abI b * abI b) g (begR t b) a n
  few : n < 900000
  seq : SeqR d (madeT t 1 b) (d * abI b * abI b) g (abI b) (begR t b)
  all : ∀ k, BoxR 36 g 400 (itOf (d * abI b * abI b) g (begR t b) k) ∧ RtI (itOf (d * abI b * abI b) g (begR t b) k).1 (d * abI b * abI b) (itOf (d * abI b * abI b) g (begR t b) k).2 g
theorem rk_of {t d b : Int} (hd : NSq d) (d1 : d ≤ 300) (ht : t.natAbs ≤ 30) (b0 : b ≠ 0) (b1 : b.natAbs ≤ 6) : ∃ g a n, RK t d b g a n := by
  have hd0 := hd.1
  have ab : 1 ≤ abI b ∧ abI b ≤ 6 := by unfold abI; split <;> omega
  have p1 := Int.mul_le_mul d1 ab.2 (by omega) (by decide)
  have p2 := Int.mul_le_mul (show d * abI b ≤ 1800 by omega) ab.2 (by omega) (by decide)
  have pos : 0 ≤ d * abI b * abI b := Int.mul_nonneg (Int.mul_nonneg (by omega) (by omega)) (by omega)
  obtain ⟨g0, g1, g2⟩ := isq_spec pos
  have gb : isq (d * abI b * abI b) ≤ 110 := by
    rcases Int.lt_or_le (isq (d * abI b * abI b)) 111 with z | z
    · omega
    · have := Int.mul_le_mul z z (by decide) (by omega)
      omega
  have p3 : (t * abI b).natAbs ≤ 30 * 6 := by rw [Int.natAbs_mul]; exact Nat.mul_le_mul ht (by omega)
  have p4 : (b * abI b).natAbs ≤ 6 * 6 := by rw [Int.natAbs_mul]; exact Nat.mul_le_mul b1 (by omega)
  generalize isq (d * abI b * abI b) = g at *
  have hrt := (rt_start (top := t) b0 hd g0 g1 g2).1
  have hbox : BoxR 36 g 400 (begR t b) := ⟨fun _ => (by show b * abI b ≤ _; omega), fun _ => (by show -(b * abI b) ≤ _; omega), (by show ((t * abI b).natAbs : Int) ≤ 400; omega)⟩
  obtain ⟨a, n, hR, hn⟩ := ring_ex (x := begR t b) hrt hbox (by omega) (by decide)
  obtain ⟨Pm, Nn⟩ := madeT_px (x := t) (y := 1) b0
  have P2 := Pm.scale (k := abI b) (by omega)
  rw [Int.one_mul] at P2
  exact ⟨g, a, n, g0, g1, g2, gb, by omega, ab, hR, by have : ((2 * 400 + 1) * (2 * 400 + 1) : Int) = 641601 := by decide
                                                       omega, ⟨hd, by omega, rfl, Nn, P2, hrt⟩, box_all (x := begR t b) hrt hbox (by omega) (by decide)⟩
theorem RK.sm {t d b g : Int} {a n : Nat} (h : RK t d b g a n) (k : Nat) : ((itOf (d * abI b * abI b) g (begR t b) k).1).natAbs ≤ 400 ∧ ((itOf (d * abI b * abI b) g (begR t b) k).2).natAbs ≤ 400 := by
  obtain ⟨bx, rt⟩ := h.all k
  have q1 := bx.t
  have q2 := bx.p
  have q3 := bx.n
  have q4 := rt.b0
  have q5 := h.gl
  omega
theorem RK.q {t d b g : Int} {a n : Nat} (h : RK t d b g a n) (k : Nat) : (qOf g (itOf (d * abI b * abI b) g (begR t b) k)).natAbs ≤ 600 := by
  have q1 := (h.sm k).1
  have q5 := h.gl
  have q6 := h.g0
  unfold qOf
  refine Nat.le_trans fdiv_le ?_
  split <;> omega
theorem RK.ht {t d b g : Int} {a n : Nat} (h : RK t d b g a n) (k : Nat) : Ht 30 (tqOf d (madeT t 1 b) k) ∧ (belowT (tqOf d (madeT t 1 b) k) d).natAbs < 2 ^ 30 := by
  obtain ⟨_, hnm, hpx, hbq, _⟩ := h.seq.tq k
  obtain ⟨h1, h2, h3⟩ := hpx.le hnm
  obtain ⟨s1, s2⟩ := h.sm k
  have ab := h.ab
  have hq := h.q k
  rw [hbq]
  have e : (2 : Nat) ^ 30 = 1073741824 := by decide
  rw [e]
  exact ⟨⟨by rw [e]; omega, by rw [e]; omega, by rw [e]; omega⟩, by omega⟩
/-- the readers, one behind the other -/
def rdR (s g : Int) (x : Int × Int) (k : Nat) : R := .root k (itOf s g x k).1 s (itOf s g x k).2 g
theorem RK.told {t d b g : Int} {a n : Nat} (h : RK t d b g a n) (k : Nat) (m : Int) (hm : m ≠ 0) : ∃ i m', Told i (rdR (d * abI b * abI b) g (begR t b) k) m (rdR (d * abI b * abI b) g (begR t b) (k + 1)) m' (.part (qOf g (itOf (d * abI b * abI b) g (begR t b) k))) := by
  have sm : ∀ {z : Int}, z.natAbs ≤ 100000 → Sm z := fun {z} h => sm_of (e := 20) (Nat.le_trans h (by decide)) (by decide)
  obtain ⟨s1, s2⟩ := h.sm k
  obtain ⟨s3, s4⟩ := h.sm (k + 1)
  have q1 := h.gl
  have q2 := h.g0
  have q3 := h.sl
  have q4 : 0 ≤ d * abI b * abI b := Int.le_trans (Int.mul_nonneg q2 q2) h.g1
  exact ⟨_, _, .rtPart hm (h.all k).2.b0 (sm (by omega)) (sm (by omega)) (sm (by omega)) (sm (by omega)) rfl rfl (sm (show ((itOf (d * abI b * abI b) g (begR t b) (k + 1)).1).natAbs ≤ 100000 by omega))⟩
theorem RK.open {t d b g : Int} {a n : Nat} (h : RK t d b g a n) (hd : NSq d) {r : R} (ho : Opened (.root t d b) r) : r = rdR (d * abI b * abI b) g (begR t b) 0 := by
  cases ho with
  | @rootF _ _ _ f h1 h2 => exact absurd (show f * f = d * 1 * 1 by omega) (hd.2 f 1 (by decide))
  | @rootR _ _ _ f f' h1 h2 h3 h4 h5 h6 =>
    have e : f' = g := (isq_uniq h4 h5 h6).symm.trans (isq_uniq h.g0 h.g1 h.g2)
    rw [e]; rfl
theorem f_ring {C : CT} {t d b g most : Int} {a n : Nat} {Ω : Om} {Q : AQ} {E : Value → Om → Prop} (h : RK t d b g a n) (hd : NSq d) (d1 : d ≤ 300) (ht : t.natAbs ≤ 30) (b0 : b ≠ 0) (b1 : b.natAbs ≤ 6) (m0 : 0 ≤ most)
    (kE : most < n → ∀ Ω', (∀ a, Ω a ≠ none → Ω' a = Ω a) → E (.ref C.c_TooLong) Ω')
    (kQ : (n : Int) ≤ most → ∀ Ω', (∀ a, Ω a ≠ none → Ω' a = Ω a) → Q (.tup [.lst (((ringP (d * abI b * abI b) g (begR t b) n).take a).map D.int), .lst (((ringP (d * abI b * abI b) g (begR t b) n).drop a).map D.int)]) Ω') :
    F_ring C [.int t, .int d, .int b, .int most] Ω Q E := by
  have hd0 := hd.1
  obtain ⟨q0, q1, q2⟩ := isq_spec (n := d) (by omega)
  have q3 : isq d * isq d ≠ d := fun e => hd.2 (isq d) 1 (by decide) (by omega)
  exact ⟨t, d, b, most, rfl, ht, by omega, d1, b0, b1, m0, .inr ⟨isq d, g, a, n, hd, q0, by omega, q2, h.g0, h.g1, h.g2, h.ring, h.few, kE, kQ⟩⟩
theorem law_ok (T : Txt K mg C) {f : Addr} {fd : FuncData} (F : Fun K "law" "law" s_law f fd) : FnOk P w K mg base (L2.CX P w) (50 + 32 + 1) f fd ["_law_script"] (spA K ca F_law) := by
  refine okA F sc_law law_len (fun cdv A outer s H E hr => ⟨_, _, (ass_cons (as_set 1 sc_law.nd (ae_call (c_law_row T) hr (takes_of rfl rfl rfl rfl) (by omega) (aa_cons (ae_var 0) aa_nil)))
      (ass_cons (as_set 2 sc_law.nd (ae_call (c_law_signed T) hr (takes_of rfl rfl rfl rfl) (by omega) (aa_cons (ae_var 1) (aa_cons ae_int aa_nil))))
      (ass_cons (as_set 3 sc_law.nd (ae_add ae_int (ae_call (c_law_taken T) hr (takes_of rfl rfl rfl rfl) (by omega) (aa_cons (ae_var 1) (aa_cons ae_int aa_nil)))))
      (ass_cons (as_set 4 sc_law.nd (ae_call (c_law_signed T) hr (takes_of rfl rfl rfl rfl) (by omega) (aa_cons (ae_var 1) (aa_cons ae_int aa_nil))))
      (ass_cons (as_set 5 sc_law.nd (ae_call (c_law_taken T) hr (takes_of rfl rfl rfl rfl) (by omega) (aa_cons (ae_var 1) (aa_cons ae_int aa_nil))))
      (ass_cut (as_if (at_eqI (ae_var 4) ae_int) (ass_one (as_set 4 sc_law.nd ae_int)) ass_nil)
      (ass_cons (as_set 6 sc_law.nd (ae_call (c_law_root T) hr (takes_of rfl rfl rfl rfl) (by omega) (aa_cons (ae_var 3) aa_nil)))
      (ass_cons (as_if (at_eqI (ae_var 5) ae_int) (ass_one (as_ret (ae_eqS (ae_call (c_law_why T) hr (takes_of rfl rfl rfl rfl) (by omega) (aa_cons (ae_var 2) (aa_cons (ae_mul (ae_var 6) (ae_var 6)) (aa_cons (ae_var 4) (aa_cons ae_int aa_nil))))) ae_str))) ass_nil)
      (ass_cut (as_if (at_eqI (ae_mul (ae_var 6) (ae_var 6)) (ae_var 3)) (ass_one (as_set 3 sc_law.nd (ae_add (ae_var 3) ae_int))) ass_nil)
      (ass_cons (as_set 7 sc_law.nd (ae_call (c_law_ring T) hr (takes_of rfl rfl rfl rfl) (by omega) (aa_cons (ae_call (c_law_made T) hr (takes_of rfl rfl rfl rfl) (by omega) (aa_cons (ae_var 2) (aa_cons ae_int (aa_cons (ae_var 4) aa_nil)))) (aa_cons (ae_var 3) aa_nil))))
      (ass_cons (as_set 8 sc_law.nd (ae_add (ae_len rfl T.b_len (ae_ix (ae_var 7) ae_int)) (ae_len rfl T.b_len (ae_ix (ae_var 7) ae_int))))
      (ass_cons (as_if (AWt.at_ (aw_or (at_neS (ae_call (c_law_why T) hr (takes_of rfl rfl rfl rfl) (by omega) (aa_cons (ae_var 2) (aa_cons (ae_var 3) (aa_cons (ae_var 4) (aa_cons (ae_sub (ae_var 8) ae_int) aa_nil))))) ae_str) (aw_or1 (at_neS (ae_call (c_law_why T) hr (takes_of rfl rfl rfl rfl) (by omega) (aa_cons (ae_var 2) (aa_cons (ae_var 3) (aa_cons (ae_var 4) (aa_cons ae_int aa_nil))))) ae_str)))) (ass_one (as_ret ae_bl)) ass_nil)
      (ass_cons (as_set 9 sc_law.nd (ae_call (c_ring_of T) hr (takes_of rfl rfl rfl rfl) (by omega) (aa_cons (ae_var 2) (aa_cons (ae_var 3) (aa_cons (ae_var 4) (aa_cons (ae_add (ae_var 8) (ae_ix (ae_lst (aa_cons ae_int (aa_cons ae_int aa_nil))) (ae_mod (ae_var 5) ae_int))) aa_nil))))))
      (ass_cons (as_if (AWt.at_ (aw_or (at_not (at_val (ae_isi rfl T.b_isinstance rfl T.b_tuple boot_ty_tuple (ae_var 9)))) (aw_or1 (at_neI (ae_len rfl T.b_len (ae_var 9)) ae_int)))) (ass_one (as_ret ae_bl)) ass_nil)
      (ass_cons (as_if (AWt.at_ (aw_or (at_not (at_val (ae_call (c_law_list T) hr (takes_of rfl rfl rfl rfl) (by omega) (aa_cons (ae_ix (ae_var 9) ae_int) (aa_cons (ae_ix (ae_var 7) ae_int) aa_nil))))) (aw_or1 (at_not (at_val (ae_call (c_law_list T) hr (takes_of rfl rfl rfl rfl) (by omega) (aa_cons (ae_ix (ae_var 9) ae_int) (aa_cons (ae_ix (ae_var 7) ae_int) aa_nil)))))))) (ass_one (as_ret ae_bl)) ass_nil)
      (ass_cons (as_set 10 sc_law.nd (ae_catL (ae_catL (ae_ix (ae_var 7) ae_int) (ae_ix (ae_var 7) ae_int)) (ae_ix (ae_var 7) ae_int)))
      (ass_cons (as_set 11 sc_law.nd (ae_call (c_first_root T) hr (takes_of rfl rfl rfl rfl) (by omega) (aa_cons (ae_tup (aa_cons ae_str (aa_cons (ae_var 2) (aa_cons (ae_var 3) (aa_cons (ae_var 4) aa_nil))))) (aa_cons (ae_len rfl T.b_len (ae_var 10)) (aa_cons (ae_mul ae_int (ae_len rfl T.b_len (ae_var 10))) aa_nil)))))
      (ass_one (as_ret (ae_and (ae_call (c_law_list T) hr (takes_of rfl rfl rfl rfl) (by omega) (aa_cons (ae_ix (ae_var 11) ae_int) (aa_cons (ae_var 10) aa_nil))) (ae_one (ae_eqS (ae_ix (ae_var 11) ae_int) ae_str)))))))))))))))))))))), fun ds Ω Qa Ea h => ?_⟩)
  · obtain ⟨ns, rfl, _, kk⟩ := h
    walk_at "pl"
    refine ⟨ns, rfl, fun p0 hp0 => ?_⟩
    walk_at "pl"
    refine ⟨p0, 20, rfl, oset_same, by decide, by decide, fun top t0 t1 => ?_⟩
    refine ⟨p0, 199, rfl, oset_same, by decide, by decide, fun d d0 d1 => ⟨_, rfl, ?_⟩⟩
    refine ⟨p0, 6, rfl, oset_same, by decide, by decide, fun b b0 b1 => ?_⟩
    refine ⟨p0, 6, rfl, oset_same, by decide, by decide, fun way w0 w1 => ?_⟩
    refine ⟨fun ρ Ω2 => ∃ b : Int, b.natAbs ≤ 6 ∧ b ≠ 0 ∧ Ω2 = oset Ω p0 .row ∧ ρ = [some (.lst (ns.map D.int)), some (.o p0), some (.int top), some (.int (2 + d)), some (.int b), some (.int way), none, none, none, none, none, none], ?_, ?_⟩
    · walk_at "pl"
      exact ite2 (fun e => ⟨1, by decide, by decide, rfl⟩) (fun e => ⟨b, by omega, e, rfl⟩)
    clear b0 b1
    rintro ρ Ω2 ⟨b, b1, b0, rfl, rfl⟩
    walk_at "pl"
    obtain ⟨j, hj⟩ : ∃ j, j = 2 + d := ⟨_, rfl⟩
    rw [← hj]
    have D1 : 2 ≤ j ∧ j ≤ 200 := by omega
    clear hj d0 d1
    refine ⟨j, rfl, by omega, nup (a := 10) _ (by omega) (by decide), ?_⟩
    obtain ⟨q0, q1, q2⟩ := isq_spec (n := j) (by omega)
    have q3 : isq j ≤ 14 := by
      rcases Int.lt_or_le (isq j) 15 with z | z
      · omega
      · have := Int.mul_le_mul z z (by decide) (by omega)
        omega
    walk_at "pl"
    refine ite2 (fun _ => ?_) (fun _ => ?_)
    · refine ⟨mulok_l (by omega) (by omega), top, isq j * isq j, b, 50, "bad", rfl, fun Q' E' hE => ?_, .inl rfl, fun Ω' _ => ⟨_, rfl, ?_⟩⟩
      · exact ⟨top, _, b, 50, rfl, by omega, Int.mul_nonneg q0 q0, by omega, b0, b1, by decide, .inl ⟨isq j, q0, rfl, fun Ω' h => (hE Ω' h).1 rfl⟩⟩
      · rw [decide_eq_true rfl]
        exact kk Ω'
    · refine ⟨fun ρ Ω2 => ∃ j : Int, 2 ≤ j ∧ j ≤ 201 ∧ NSq j ∧ Ω2 = oset Ω p0 .row ∧ ∃ z, ρ = [some (.lst (ns.map D.int)), some (.o p0), some (.int top), some (.int j), some (.int b), some (.int way), z, none, none, none, none, none], ?_, ?_⟩
      · walk_at "pl"
        refine ⟨mulok_l (by omega) (by omega), ite2 (fun e => ⟨j + 1, by omega, by omega, nsq_of q0 (by omega) ?_, rfl, _, rfl⟩) (fun e => ⟨j, by omega, by omega, nsq_of q0 (by omega) q2, rfl, _, rfl⟩)⟩
        have e1 : (isq j + 1) * (isq j + 1) = isq j * isq j + 2 * isq j + 1 := by grind
        have e2 : isq j ≠ 0 := fun z => by rw [z] at e; omega
        omega
      clear q0 q1 q2 q3 D1
      rintro ρ Ω2 ⟨j, D0, D1, hd, rfl, z, rfl⟩
      obtain ⟨g, a, n, hK⟩ := rk_of (t := top) hd (by omega) (by omega) b0 b1
      walk_at "pl"
      obtain ⟨S, hS⟩ : ∃ S, S = j * abI b * abI b := ⟨_, rfl⟩
      refine ⟨top, 1, b, rfl, b0, madeT top 1 b, j, _, g, abI b, begR top b, a, n, rfl, hK.seq, hK.ring, hK.few, by omega, fun i => (hK.ht i).1, fun i => (hK.ht i).2, fun Ω1 hf1 => ?_⟩
      have han := hK.ring.lt
      have hfw := hK.few
      have l0 : (ringP (j * abI b * abI b) g (begR top b) n).length = n := ringP_len
      obtain ⟨xs, hxs⟩ : ∃ xs, xs = (ringP (j * abI b * abI b) g (begR top b) n).take a := ⟨_, rfl⟩
      obtain ⟨ys, hys⟩ : ∃ ys, ys = (ringP (j * abI b * abI b) g (begR top b) n).drop a := ⟨_, rfl⟩
      have l1 : xs.length = a := by rw [hxs, List.length_take]; omega
      have l2 : ys.length = n - a := by rw [hys, List.length_drop]; omega
      have l3 : xs ++ ys ++ ys = ringP (j * abI b * abI b) g (begR top b) (n + (n - a)) := by rw [hxs, hys]; exact ringP_two hK.ring
      have hfr := fun {most : Int} {Ωx : Om} {Q : AQ} {E : Value → Om → Prop} => f_ring (C := C) (most := most) (Ω := Ωx) (Q := Q) (E := E) hK hd (by omega) (by omega) b0 b1
      rw [← hxs, ← hys] at hfr ⊢
      walk_at "pl"
      rw [List.length_map, List.length_map, l1, l2]
      refine ⟨top, j, b, _, "long", rfl, fun Q' E' hE => hfr (by omega) (fun _ Ω' h => (hE Ω' h).2 rfl) (fun z => absurd z (by omega)), .inr rfl, fun Ω2 hf2 => ⟨_, rfl, ?_⟩⟩
      rw [if_neg (by decide)]
      refine ⟨top, j, b, _, "long", rfl, fun Q' E' hE => hfr (by omega) (fun _ Ω' h => (hE Ω' h).2 rfl) (fun z => absurd z (by omega)), .inr rfl, fun Ω3 hf3 => ⟨_, rfl, ?_⟩⟩
      rw [if_neg (by decide)]
      refine ⟨by rw [sizeLine_eq]; decide, by decide, ?_⟩
      have f0 : 0 ≤ way.fmod 2 := Int.fmod_nonneg_of_pos _ (by decide)
      have f1 : way.fmod 2 < 2 := Int.fmod_lt_of_pos _ (by decide)
      obtain ⟨v, hv, ev⟩ := atI_int (ns := [0, 20]) (i := way.fmod 2) f0 (by simpa using f1)
      have hv : v = 0 ∨ v = 20 := by simpa using hv
      refine ⟨_, ev, v, rfl, hfr (by omega) (fun z => absurd z (by omega)) (fun _ Ω4 hf4 => ?_)⟩
      walk_at "pl"
      rw [if_neg (by decide), if_neg (by decide)]
      refine ⟨xs, rfl, true, rfl, ?_⟩
      rw [if_neg (by decide)]
      refine ⟨ys, rfl, true, rfl, ?_⟩
      rw [if_neg (by decide), ← List.map_append, ← List.map_append, List.length_map, List.length_map, l3, ringP_len, List.length_append, l1, l2]
      refine ⟨by rw [sizeLine_eq]; omega, by rw [sizeLine_eq]; omega, by rw [sizeLine_eq]; decide, mulok_l (by decide) (by omega), ?_⟩
      refine ⟨.root top j b, n + (n - a), _, rdR (j * abI b * abI b) g (begR top b), fun i => qOf g (itOf (j * abI b * abI b) g (begR top b) i), rfl, ⟨by unfold Few; omega, by unfold Few; omega, by unfold Few; omega, by omega, b0⟩, by omega, fun r ho => hK.open hd ho, fun k hk => hK.told k _ (by show (2 * ((n + (n - a) : Nat) : Int)) - (k : Int) ≠ 0; omega), fun Ω5 hf5 => ?_⟩
      walk_at "pl"
      refine ⟨ringP (j * abI b * abI b) g (begR top b) (n + (n - a)), rfl, true, rfl, ?_⟩
      walk_at "pl"
      rw [decide_eq_true True.intro]
      exact kk Ω5
end
theorem all_mk {l : PySem.W.OpenLaw} {w : World} {K : PySem.W.Frag} {h : Heap} {mg : Str → Option Value} {fa : Addr} (X : K.In h) (G : h.Ns mainGlobals mg) (hfa : mg "law" = some (.ref fa))
    {C_Purse : Addr}
    {C_Fixed : Addr}
    {C_Leaf : Addr}
    {C_Fraction : Addr}
    {C_Root : Addr}
    {C_Ruled : Addr}
    {C_Four : Addr}
    {C_Eight : Addr}
    {C_BadTree : Addr}
    {C_NoValue : Addr}
    {C_TooLong : Addr}
    {C_PartError : Addr}
    {A_TIMES : Addr}
    {f0 : Addr} {od0 an0 : Option Addr} {sl0 : Array (Option Value)} {oc0 kV0 dc0 pm0 cd0 ct0 : Value}
    {f1 : Addr} {od1 an1 : Option Addr} {sl1 : Array (Option Value)} {oc1 kV1 dc1 pm1 cd1 ct1 : Value}
    {f2 : Addr} {od2 an2 : Option Addr} {sl2 : Array (Option Value)} {oc2 kV2 dc2 pm2 cd2 ct2 : Value}
    {f3 : Addr} {od3 an3 : Option Addr} {sl3 : Array (Option Value)} {oc3 kV3 dc3 pm3 cd3 ct3 : Value}
    {f4 : Addr} {od4 an4 : Option Addr} {sl4 : Array (Option Value)} {oc4 kV4 dc4 pm4 cd4 ct4 : Value}
    {f5 : Addr} {od5 an5 : Option Addr} {sl5 : Array (Option Value)} {oc5 kV5 dc5 pm5 cd5 ct5 : Value}
    {f6 : Addr} {od6 an6 : Option Addr} {sl6 : Array (Option Value)} {oc6 kV6 dc6 pm6 cd6 ct6 : Value}
    {f7 : Addr} {od7 an7 : Option Addr} {sl7 : Array (Option Value)} {oc7 kV7 dc7 pm7 cd7 ct7 : Value}
    {f8 : Addr} {od8 an8 : Option Addr} {sl8 : Array (Option Value)} {oc8 kV8 dc8 pm8 cd8 ct8 : Value}
    {f9 : Addr} {od9 an9 : Option Addr} {sl9 : Array (Option Value)} {oc9 kV9 dc9 pm9 cd9 ct9 : Value}
    {f10 : Addr} {od10 an10 : Option Addr} {sl10 : Array (Option Value)} {oc10 kV10 dc10 pm10 cd10 ct10 : Value}
    {f11 : Addr} {od11 an11 : Option Addr} {sl11 : Array (Option Value)} {oc11 kV11 dc11 pm11 cd11 ct11 : Value}
    {f12 : Addr} {od12 an12 : Option Addr} {sl12 : Array (Option Value)} {oc12 kV12 dc12 pm12 cd12 ct12 : Value}
    {f13 : Addr} {od13 an13 : Option Addr} {sl13 : Array (Option Value)} {oc13 kV13 dc13 pm13 cd13 ct13 : Value}
    {f14 : Addr} {od14 an14 : Option Addr} {sl14 : Array (Option Value)} {oc14 kV14 dc14 pm14 cd14 ct14 : Value}
    {f15 : Addr} {od15 an15 : Option Addr} {sl15 : Array (Option Value)} {oc15 kV15 dc15 pm15 cd15 ct15 : Value}
    {f16 : Addr} {od16 an16 : Option Addr} {sl16 : Array (Option Value)} {oc16 kV16 dc16 pm16 cd16 ct16 : Value}
    {f17 : Addr} {od17 an17 : Option Addr} {sl17 : Array (Option Value)} {oc17 kV17 dc17 pm17 cd17 ct17 : Value}
    {f18 : Addr} {od18 an18 : Option Addr} {sl18 : Array (Option Value)} {oc18 kV18 dc18 pm18 cd18 ct18 : Value}
    {f19 : Addr} {od19 an19 : Option Addr} {sl19 : Array (Option Value)} {oc19 kV19 dc19 pm19 cd19 ct19 : Value}
    {f20 : Addr} {od20 an20 : Option Addr} {sl20 : Array (Option Value)} {oc20 kV20 dc20 pm20 cd20 ct20 : Value}
    {f21 : Addr} {od21 an21 : Option Addr} {sl21 : Array (Option Value)} {oc21 kV21 dc21 pm21 cd21 ct21 : Value}
    {f22 : Addr} {od22 an22 : Option Addr} {sl22 : Array (Option Value)} {oc22 kV22 dc22 pm22 cd22 ct22 : Value}
    {f23 : Addr} {od23 an23 : Option Addr} {sl23 : Array (Option Value)} {oc23 kV23 dc23 pm23 cd23 ct23 : Value}
    {f24 : Addr} {od24 an24 : Option Addr} {sl24 : Array (Option Value)} {oc24 kV24 dc24 pm24 cd24 ct24 : Value}
    {f25 : Addr} {od25 an25 : Option Addr} {sl25 : Array (Option Value)} {oc25 kV25 dc25 pm25 cd25 ct25 : Value}
    {f26 : Addr} {od26 an26 : Option Addr} {sl26 : Array (Option Value)} {oc26 kV26 dc26 pm26 cd26 ct26 : Value}
    {f27 : Addr} {od27 an27 : Option Addr} {sl27 : Array (Option Value)} {oc27 kV27 dc27 pm27 cd27 ct27 : Value}
    {f28 : Addr} {od28 an28 : Option Addr} {sl28 : Array (Option Value)} {oc28 kV28 dc28 pm28 cd28 ct28 : Value}
    {f29 : Addr} {od29 an29 : Option Addr} {sl29 : Array (Option Value)} {oc29 kV29 dc29 pm29 cd29 ct29 : Value}
    {f30 : Addr} {od30 an30 : Option Addr} {sl30 : Array (Option Value)} {oc30 kV30 dc30 pm30 cd30 ct30 : Value}
    {f31 : Addr} {od31 an31 : Option Addr} {sl31 : Array (Option Value)} {oc31 kV31 dc31 pm31 cd31 ct31 : Value}
    {f32 : Addr} {od32 an32 : Option Addr} {sl32 : Array (Option Value)} {oc32 kV32 dc32 pm32 cd32 ct32 : Value}
    {f33 : Addr} {od33 an33 : Option Addr} {sl33 : Array (Option Value)} {oc33 kV33 dc33 pm33 cd33 ct33 : Value}
    {f34 : Addr} {od34 an34 : Option Addr} {sl34 : Array (Option Value)} {oc34 kV34 dc34 pm34 cd34 ct34 : Value}
    {f35 : Addr} {od35 an35 : Option Addr} {sl35 : Array (Option Value)} {oc35 kV35 dc35 pm35 cd35 ct35 : Value}
    {f36 : Addr} {od36 an36 : Option Addr} {sl36 : Array (Option Value)} {oc36 kV36 dc36 pm36 cd36 ct36 : Value}
    {f37 : Addr} {od37 an37 : Option Addr} {sl37 : Array (Option Value)} {oc37 kV37 dc37 pm37 cd37 ct37 : Value}
    {f38 : Addr} {od38 an38 : Option Addr} {sl38 : Array (Option Value)} {oc38 kV38 dc38 pm38 cd38 ct38 : Value}
    {f39 : Addr} {od39 an39 : Option Addr} {sl39 : Array (Option Value)} {oc39 kV39 dc39 pm39 cd39 ct39 : Value}
    {f40 : Addr} {od40 an40 : Option Addr} {sl40 : Array (Option Value)} {oc40 kV40 dc40 pm40 cd40 ct40 : Value}
    {f41 : Addr} {od41 an41 : Option Addr} {sl41 : Array (Option Value)} {oc41 kV41 dc41 pm41 cd41 ct41 : Value}
    {f42 : Addr} {od42 an42 : Option Addr} {sl42 : Array (Option Value)} {oc42 kV42 dc42 pm42 cd42 ct42 : Value}
    {f43 : Addr} {od43 an43 : Option Addr} {sl43 : Array (Option Value)} {oc43 kV43 dc43 pm43 cd43 ct43 : Value}
    {f44 : Addr} {od44 an44 : Option Addr} {sl44 : Array (Option Value)} {oc44 kV44 dc44 pm44 cd44 ct44 : Value}
    {f45 : Addr} {od45 an45 : Option Addr} {sl45 : Array (Option Value)} {oc45 kV45 dc45 pm45 cd45 ct45 : Value}
    {f46 : Addr} {od46 an46 : Option Addr} {sl46 : Array (Option Value)} {oc46 kV46 dc46 pm46 cd46 ct46 : Value}
    {f47 : Addr} {od47 an47 : Option Addr} {sl47 : Array (Option Value)} {oc47 kV47 dc47 pm47 cd47 ct47 : Value}
    {f48 : Addr} {od48 an48 : Option Addr} {sl48 : Array (Option Value)} {oc48 kV48 dc48 pm48 cd48 ct48 : Value}
    {f49 : Addr} {od49 an49 : Option Addr} {sl49 : Array (Option Value)} {oc49 kV49 dc49 pm49 cd49 ct49 : Value}
    {f50 : Addr} {od50 an50 : Option Addr} {sl50 : Array (Option Value)} {oc50 kV50 dc50 pm50 cd50 ct50 : Value}
    {f51 : Addr} {od51 an51 : Option Addr} {sl51 : Array (Option Value)} {oc51 kV51 dc51 pm51 cd51 ct51 : Value}
    {f52 : Addr} {od52 an52 : Option Addr} {sl52 : Array (Option Value)} {oc52 kV52 dc52 pm52 cd52 ct52 : Value}
    {f53 : Addr} {od53 an53 : Option Addr} {sl53 : Array (Option Value)} {oc53 kV53 dc53 pm53 cd53 ct53 : Value}
    {t_DEEPEST : Tok}
    {t_MOST_NUMBER : Tok}
    {t_MOST_PARTS : Tok}
    {t_MOST_POWER : Tok}
    {oT_TIMES : Option Addr} {nT_TIMES : Nat} {sT_TIMES : Array (Option Value)} {t0_TIMES t1_TIMES t2_TIMES t3_TIMES t4_TIMES t5_TIMES t6_TIMES t7_TIMES : Tok}
    (g_Purse : PySem.W.nsIn K mainGlobals "Purse" = some (some (.ref C_Purse)))
    (g_Fixed : PySem.W.nsIn K mainGlobals "Fixed" = some (some (.ref C_Fixed)))
    (g_Leaf : PySem.W.nsIn K mainGlobals "Leaf" = some (some (.ref C_Leaf)))
    (g_Fraction : PySem.W.nsIn K mainGlobals "Fraction" = some (some (.ref C_Fraction)))
    (g_Root : PySem.W.nsIn K mainGlobals "Root" = some (some (.ref C_Root)))
    (g_Ruled : PySem.W.nsIn K mainGlobals "Ruled" = some (some (.ref C_Ruled)))
    (g_Four : PySem.W.nsIn K mainGlobals "Four" = some (some (.ref C_Four)))
    (g_Eight : PySem.W.nsIn K mainGlobals "Eight" = some (some (.ref C_Eight)))
    (g_BadTree : PySem.W.nsIn K mainGlobals "BadTree" = some (some (.ref C_BadTree)))
    (g_NoValue : PySem.W.nsIn K mainGlobals "NoValue" = some (some (.ref C_NoValue)))
    (g_TooLong : PySem.W.nsIn K mainGlobals "TooLong" = some (some (.ref C_TooLong)))
    (g_PartError : PySem.W.nsIn K mainGlobals "PartError" = some (some (.ref C_PartError)))
    (a0 : PySem.W.nsIn K mainGlobals "root_below" = some (some (.ref f0)))
    (l0 : K.lookup f0 = some ⟨oc0, od0, .func (PySem.W.fnOf "root_below" "root_below" (defArgs s_root_below) (defBody s_root_below) (defScope s_root_below) .none kV0 dc0 pm0 an0 cd0 ct0), sl0⟩)
    (c0 : PySem.W.codeIn K cd0 "root_below" = true)
    (k0 : PySem.W.keepIn K (.ref f0) = true)
    (a1 : PySem.W.nsIn K mainGlobals "root_of" = some (some (.ref f1)))
    (l1 : K.lookup f1 = some ⟨oc1, od1, .func (PySem.W.fnOf "root_of" "root_of" (defArgs s_root_of) (defBody s_root_of) (defScope s_root_of) .none kV1 dc1 pm1 an1 cd1 ct1), sl1⟩)
    (c1 : PySem.W.codeIn K cd1 "root_of" = true)
    (k1 : PySem.W.keepIn K (.ref f1) = true)
    (a2 : PySem.W.nsIn K mainGlobals "must" = some (some (.ref f2)))
    (l2 : K.lookup f2 = some ⟨oc2, od2, .func (PySem.W.fnOf "must" "must" (defArgs s_must) (defBody s_must) (defScope s_must) .none kV2 dc2 pm2 an2 cd2 ct2), sl2⟩)
    (c2 : PySem.W.codeIn K cd2 "must" = true)
    (k2 : PySem.W.keepIn K (.ref f2) = true)
    (a3 : PySem.W.nsIn K mainGlobals "need_numbers" = some (some (.ref f3)))
    (l3 : K.lookup f3 = some ⟨oc3, od3, .func (PySem.W.fnOf "need_numbers" "need_numbers" (defArgs s_need_numbers) (defBody s_need_numbers) (defScope s_need_numbers) .none kV3 dc3 pm3 an3 cd3 ct3), sl3⟩)
    (c3 : PySem.W.codeIn K cd3 "need_numbers" = true)
    (k3 : PySem.W.keepIn K (.ref f3) = true)
    (a4 : PySem.W.nsIn K mainGlobals "need_ruled" = some (some (.ref f4)))
    (l4 : K.lookup f4 = some ⟨oc4, od4, .func (PySem.W.fnOf "need_ruled" "need_ruled" (defArgs s_need_ruled) (defBody s_need_ruled) (defScope s_need_ruled) .none kV4 dc4 pm4 an4 cd4 ct4), sl4⟩)
    (c4 : PySem.W.codeIn K cd4 "need_ruled" = true)
    (k4 : PySem.W.keepIn K (.ref f4) = true)
    (a5 : PySem.W.nsIn K mainGlobals "need_eight" = some (some (.ref f5)))
    (l5 : K.lookup f5 = some ⟨oc5, od5, .func (PySem.W.fnOf "need_eight" "need_eight" (defArgs s_need_eight) (defBody s_need_eight) (defScope s_need_eight) .none kV5 dc5 pm5 an5 cd5 ct5), sl5⟩)
    (c5 : PySem.W.codeIn K cd5 "need_eight" = true)
    (k5 : PySem.W.keepIn K (.ref f5) = true)
    (a6 : PySem.W.nsIn K mainGlobals "need_tree" = some (some (.ref f6)))
    (l6 : K.lookup f6 = some ⟨oc6, od6, .func (PySem.W.fnOf "need_tree" "need_tree" (defArgs s_need_tree) (defBody s_need_tree) (defScope s_need_tree) .none kV6 dc6 pm6 an6 cd6 ct6), sl6⟩)
    (c6 : PySem.W.codeIn K cd6 "need_tree" = true)
    (k6 : PySem.W.keepIn K (.ref f6) = true)
    (a7 : PySem.W.nsIn K mainGlobals "ring_of" = some (some (.ref f7)))
    (l7 : K.lookup f7 = some ⟨oc7, od7, .func (PySem.W.fnOf "ring_of" "ring_of" (defArgs s_ring_of) (defBody s_ring_of) (defScope s_ring_of) .none kV7 dc7 pm7 an7 cd7 ct7), sl7⟩)
    (c7 : PySem.W.codeIn K cd7 "ring_of" = true)
    (k7 : PySem.W.keepIn K (.ref f7) = true)
    (a8 : PySem.W.nsIn K mainGlobals "below_all" = some (some (.ref f8)))
    (l8 : K.lookup f8 = some ⟨oc8, od8, .func (PySem.W.fnOf "below_all" "below_all" (defArgs s_below_all) (defBody s_below_all) (defScope s_below_all) .none kV8 dc8 pm8 an8 cd8 ct8), sl8⟩)
    (c8 : PySem.W.codeIn K cd8 "below_all" = true)
    (k8 : PySem.W.keepIn K (.ref f8) = true)
    (a9 : PySem.W.nsIn K mainGlobals "opened" = some (some (.ref f9)))
    (l9 : K.lookup f9 = some ⟨oc9, od9, .func (PySem.W.fnOf "opened" "opened" (defArgs s_opened) (defBody s_opened) (defScope s_opened) .none kV9 dc9 pm9 an9 cd9 ct9), sl9⟩)
    (c9 : PySem.W.codeIn K cd9 "opened" = true)
    (k9 : PySem.W.keepIn K (.ref f9) = true)
    (a10 : PySem.W.nsIn K mainGlobals "reader" = some (some (.ref f10)))
    (l10 : K.lookup f10 = some ⟨oc10, od10, .func (PySem.W.fnOf "reader" "reader" (defArgs s_reader) (defBody s_reader) (defScope s_reader) .none kV10 dc10 pm10 an10 cd10 ct10), sl10⟩)
    (c10 : PySem.W.codeIn K cd10 "reader" = true)
    (k10 : PySem.W.keepIn K (.ref f10) = true)
    (a11 : PySem.W.nsIn K mainGlobals "first_parts" = some (some (.ref f11)))
    (l11 : K.lookup f11 = some ⟨oc11, od11, .func (PySem.W.fnOf "first_parts" "first_parts" (defArgs s_first_parts) (defBody s_first_parts) (defScope s_first_parts) .none kV11 dc11 pm11 an11 cd11 ct11), sl11⟩)
    (c11 : PySem.W.codeIn K cd11 "first_parts" = true)
    (k11 : PySem.W.keepIn K (.ref f11) = true)
    (a12 : PySem.W.nsIn K mainGlobals "_law_row" = some (some (.ref f12)))
    (l12 : K.lookup f12 = some ⟨oc12, od12, .func (PySem.W.fnOf "_law_row" "_law_row" (defArgs s__law_row) (defBody s__law_row) (defScope s__law_row) .none kV12 dc12 pm12 an12 cd12 ct12), sl12⟩)
    (c12 : PySem.W.codeIn K cd12 "_law_row" = true)
    (k12 : PySem.W.keepIn K (.ref f12) = true)
    (a13 : PySem.W.nsIn K mainGlobals "_law_taken" = some (some (.ref f13)))
    (l13 : K.lookup f13 = some ⟨oc13, od13, .func (PySem.W.fnOf "_law_taken" "_law_taken" (defArgs s__law_taken) (defBody s__law_taken) (defScope s__law_taken) .none kV13 dc13 pm13 an13 cd13 ct13), sl13⟩)
    (c13 : PySem.W.codeIn K cd13 "_law_taken" = true)
    (k13 : PySem.W.keepIn K (.ref f13) = true)
    (a14 : PySem.W.nsIn K mainGlobals "_law_whole" = some (some (.ref f14)))
    (l14 : K.lookup f14 = some ⟨oc14, od14, .func (PySem.W.fnOf "_law_whole" "_law_whole" (defArgs s__law_whole) (defBody s__law_whole) (defScope s__law_whole) .none kV14 dc14 pm14 an14 cd14 ct14), sl14⟩)
    (c14 : PySem.W.codeIn K cd14 "_law_whole" = true)
    (k14 : PySem.W.keepIn K (.ref f14) = true)
    (a15 : PySem.W.nsIn K mainGlobals "_law_list" = some (some (.ref f15)))
    (l15 : K.lookup f15 = some ⟨oc15, od15, .func (PySem.W.fnOf "_law_list" "_law_list" (defArgs s__law_list) (defBody s__law_list) (defScope s__law_list) .none kV15 dc15 pm15 an15 cd15 ct15), sl15⟩)
    (c15 : PySem.W.codeIn K cd15 "_law_list" = true)
    (k15 : PySem.W.keepIn K (.ref f15) = true)
    (a16 : PySem.W.nsIn K mainGlobals "_law_signed" = some (some (.ref f16)))
    (l16 : K.lookup f16 = some ⟨oc16, od16, .func (PySem.W.fnOf "_law_signed" "_law_signed" (defArgs s__law_signed) (defBody s__law_signed) (defScope s__law_signed) .none kV16 dc16 pm16 an16 cd16 ct16), sl16⟩)
    (c16 : PySem.W.codeIn K cd16 "_law_signed" = true)
    (k16 : PySem.W.keepIn K (.ref f16) = true)
    (a17 : PySem.W.nsIn K mainGlobals "_law_root" = some (some (.ref f17)))
    (l17 : K.lookup f17 = some ⟨oc17, od17, .func (PySem.W.fnOf "_law_root" "_law_root" (defArgs s__law_root) (defBody s__law_root) (defScope s__law_root) .none kV17 dc17 pm17 an17 cd17 ct17), sl17⟩)
    (c17 : PySem.W.codeIn K cd17 "_law_root" = true)
    (k17 : PySem.W.keepIn K (.ref f17) = true)
    (a18 : PySem.W.nsIn K mainGlobals "_law_common" = some (some (.ref f18)))
    (l18 : K.lookup f18 = some ⟨oc18, od18, .func (PySem.W.fnOf "_law_common" "_law_common" (defArgs s__law_common) (defBody s__law_common) (defScope s__law_common) .none kV18 dc18 pm18 an18 cd18 ct18), sl18⟩)
    (c18 : PySem.W.codeIn K cd18 "_law_common" = true)
    (k18 : PySem.W.keepIn K (.ref f18) = true)
    (a19 : PySem.W.nsIn K mainGlobals "_law_made" = some (some (.ref f19)))
    (l19 : K.lookup f19 = some ⟨oc19, od19, .func (PySem.W.fnOf "_law_made" "_law_made" (defArgs s__law_made) (defBody s__law_made) (defScope s__law_made) .none kV19 dc19 pm19 an19 cd19 ct19), sl19⟩)
    (c19 : PySem.W.codeIn K cd19 "_law_made" = true)
    (k19 : PySem.W.keepIn K (.ref f19) = true)
    (a20 : PySem.W.nsIn K mainGlobals "_law_sum" = some (some (.ref f20)))
    (l20 : K.lookup f20 = some ⟨oc20, od20, .func (PySem.W.fnOf "_law_sum" "_law_sum" (defArgs s__law_sum) (defBody s__law_sum) (defScope s__law_sum) .none kV20 dc20 pm20 an20 cd20 ct20), sl20⟩)
    (c20 : PySem.W.codeIn K cd20 "_law_sum" = true)
    (k20 : PySem.W.keepIn K (.ref f20) = true)
    (a21 : PySem.W.nsIn K mainGlobals "_law_product" = some (some (.ref f21)))
    (l21 : K.lookup f21 = some ⟨oc21, od21, .func (PySem.W.fnOf "_law_product" "_law_product" (defArgs s__law_product) (defBody s__law_product) (defScope s__law_product) .none kV21 dc21 pm21 an21 cd21 ct21), sl21⟩)
    (c21 : PySem.W.codeIn K cd21 "_law_product" = true)
    (k21 : PySem.W.keepIn K (.ref f21) = true)
    (a22 : PySem.W.nsIn K mainGlobals "_law_quotient" = some (some (.ref f22)))
    (l22 : K.lookup f22 = some ⟨oc22, od22, .func (PySem.W.fnOf "_law_quotient" "_law_quotient" (defArgs s__law_quotient) (defBody s__law_quotient) (defScope s__law_quotient) .none kV22 dc22 pm22 an22 cd22 ct22), sl22⟩)
    (c22 : PySem.W.codeIn K cd22 "_law_quotient" = true)
    (k22 : PySem.W.keepIn K (.ref f22) = true)
    (a23 : PySem.W.nsIn K mainGlobals "_law_below" = some (some (.ref f23)))
    (l23 : K.lookup f23 = some ⟨oc23, od23, .func (PySem.W.fnOf "_law_below" "_law_below" (defArgs s__law_below) (defBody s__law_below) (defScope s__law_below) .none kV23 dc23 pm23 an23 cd23 ct23), sl23⟩)
    (c23 : PySem.W.codeIn K cd23 "_law_below" = true)
    (k23 : PySem.W.keepIn K (.ref f23) = true)
    (a24 : PySem.W.nsIn K mainGlobals "_law_ring" = some (some (.ref f24)))
    (l24 : K.lookup f24 = some ⟨oc24, od24, .func (PySem.W.fnOf "_law_ring" "_law_ring" (defArgs s__law_ring) (defBody s__law_ring) (defScope s__law_ring) .none kV24 dc24 pm24 an24 cd24 ct24), sl24⟩)
    (c24 : PySem.W.codeIn K cd24 "_law_ring" = true)
    (k24 : PySem.W.keepIn K (.ref f24) = true)
    (a25 : PySem.W.nsIn K mainGlobals "_law_why" = some (some (.ref f25)))
    (l25 : K.lookup f25 = some ⟨oc25, od25, .func (PySem.W.fnOf "_law_why" "_law_why" (defArgs s__law_why) (defBody s__law_why) (defScope s__law_why) .none kV25 dc25 pm25 an25 cd25 ct25), sl25⟩)
    (c25 : PySem.W.codeIn K cd25 "_law_why" = true)
    (k25 : PySem.W.keepIn K (.ref f25) = true)
    (a26 : PySem.W.nsIn K mainGlobals "law" = some (some (.ref f26)))
    (l26 : K.lookup f26 = some ⟨oc26, od26, .func (PySem.W.fnOf "law" "law" (defArgs s_law) (defBody s_law) (defScope s_law) .none kV26 dc26 pm26 an26 cd26 ct26), sl26⟩)
    (c26 : PySem.W.codeIn K cd26 "law" = true)
    (k26 : PySem.W.keepIn K (.ref f26) = true)
    (pg_Purse : PySem.W.plainGet K C_Purse Str.empty = true)
    (hd_Purse : PySem.W.hasDictIn K C_Purse = true)
    (po_Purse : PySem.W.plainOver K C_Purse = true)
    (sa_Purse : PySem.W.findIn K (.ref C_Purse) "__setattr__" = some (some (.builtin "object.__setattr__")))
    (mk_Purse : PySem.W.makesIn K C_Purse = true)
    (kc_Purse : PySem.W.keepIn K (.ref C_Purse) = true)
    (pg_Fixed : PySem.W.plainGet K C_Fixed Str.empty = true)
    (hd_Fixed : PySem.W.hasDictIn K C_Fixed = true)
    (po_Fixed : PySem.W.plainOver K C_Fixed = true)
    (sa_Fixed : PySem.W.findIn K (.ref C_Fixed) "__setattr__" = some (some (.builtin "object.__setattr__")))
    (mk_Fixed : PySem.W.makesIn K C_Fixed = true)
    (kc_Fixed : PySem.W.keepIn K (.ref C_Fixed) = true)
    (pg_Fraction : PySem.W.plainGet K C_Fraction Str.empty = true)
    (hd_Fraction : PySem.W.hasDictIn K C_Fraction = true)
    (po_Fraction : PySem.W.plainOver K C_Fraction = true)
    (sa_Fraction : PySem.W.findIn K (.ref C_Fraction) "__setattr__" = some (some (.builtin "object.__setattr__")))
    (mk_Fraction : PySem.W.makesIn K C_Fraction = true)
    (kc_Fraction : PySem.W.keepIn K (.ref C_Fraction) = true)
    (pg_Root : PySem.W.plainGet K C_Root Str.empty = true)
    (hd_Root : PySem.W.hasDictIn K C_Root = true)
    (po_Root : PySem.W.plainOver K C_Root = true)
    (sa_Root : PySem.W.findIn K (.ref C_Root) "__setattr__" = some (some (.builtin "object.__setattr__")))
    (mk_Root : PySem.W.makesIn K C_Root = true)
    (kc_Root : PySem.W.keepIn K (.ref C_Root) = true)
    (pg_Ruled : PySem.W.plainGet K C_Ruled Str.empty = true)
    (hd_Ruled : PySem.W.hasDictIn K C_Ruled = true)
    (po_Ruled : PySem.W.plainOver K C_Ruled = true)
    (sa_Ruled : PySem.W.findIn K (.ref C_Ruled) "__setattr__" = some (some (.builtin "object.__setattr__")))
    (mk_Ruled : PySem.W.makesIn K C_Ruled = true)
    (kc_Ruled : PySem.W.keepIn K (.ref C_Ruled) = true)
    (pg_Four : PySem.W.plainGet K C_Four Str.empty = true)
    (hd_Four : PySem.W.hasDictIn K C_Four = true)
    (po_Four : PySem.W.plainOver K C_Four = true)
    (sa_Four : PySem.W.findIn K (.ref C_Four) "__setattr__" = some (some (.builtin "object.__setattr__")))
    (mk_Four : PySem.W.makesIn K C_Four = true)
    (kc_Four : PySem.W.keepIn K (.ref C_Four) = true)
    (pg_Eight : PySem.W.plainGet K C_Eight Str.empty = true)
    (hd_Eight : PySem.W.hasDictIn K C_Eight = true)
    (po_Eight : PySem.W.plainOver K C_Eight = true)
    (sa_Eight : PySem.W.findIn K (.ref C_Eight) "__setattr__" = some (some (.builtin "object.__setattr__")))
    (mk_Eight : PySem.W.makesIn K C_Eight = true)
    (kc_Eight : PySem.W.keepIn K (.ref C_Eight) = true)
    (a27_Purse : PySem.W.findIn K (.ref C_Purse) "__init__" = some (some (.ref f27)))
    (i27 : PySem.W.isFn K (.ref f27) = true)
    (l27 : K.lookup f27 = some ⟨oc27, od27, .func (PySem.W.fnOf "__init__" "Purse.__init__" (defArgs s_Purse___init__) (defBody s_Purse___init__) (defScope s_Purse___init__) .none kV27 dc27 pm27 an27 cd27 ct27), sl27⟩)
    (c27 : PySem.W.codeIn K cd27 "Purse.__init__" = true)
    (k27 : PySem.W.keepIn K (.ref f27) = true)
    (a28_Fixed : PySem.W.findIn K (.ref C_Fixed) "part" = some (some (.ref f28)))
    (a28_Fraction : PySem.W.findIn K (.ref C_Fraction) "part" = some (some (.ref f28)))
    (a28_Root : PySem.W.findIn K (.ref C_Root) "part" = some (some (.ref f28)))
    (a28_Ruled : PySem.W.findIn K (.ref C_Ruled) "part" = some (some (.ref f28)))
    (a28_Four : PySem.W.findIn K (.ref C_Four) "part" = some (some (.ref f28)))
    (a28_Eight : PySem.W.findIn K (.ref C_Eight) "part" = some (some (.ref f28)))
    (i28 : PySem.W.isFn K (.ref f28) = true)
    (l28 : K.lookup f28 = some ⟨oc28, od28, .func (PySem.W.fnOf "part" "Reader.part" (defArgs s_Reader_part) (defBody s_Reader_part) (defScope s_Reader_part) .none kV28 dc28 pm28 an28 cd28 ct28), sl28⟩)
    (c28 : PySem.W.codeIn K cd28 "Reader.part" = true)
    (k28 : PySem.W.keepIn K (.ref f28) = true)
    (a29_Fixed : PySem.W.findIn K (.ref C_Fixed) "took" = some (some (.ref f29)))
    (i29 : PySem.W.isFn K (.ref f29) = true)
    (l29 : K.lookup f29 = some ⟨oc29, od29, .func (PySem.W.fnOf "took" "Reader.took" (defArgs s_Reader_took) (defBody s_Reader_took) (defScope s_Reader_took) .none kV29 dc29 pm29 an29 cd29 ct29), sl29⟩)
    (c29 : PySem.W.codeIn K cd29 "Reader.took" = true)
    (k29 : PySem.W.keepIn K (.ref f29) = true)
    (a30_Fixed : PySem.W.findIn K (.ref C_Fixed) "__init__" = some (some (.ref f30)))
    (i30 : PySem.W.isFn K (.ref f30) = true)
    (l30 : K.lookup f30 = some ⟨oc30, od30, .func (PySem.W.fnOf "__init__" "Fixed.__init__" (defArgs s_Fixed___init__) (defBody s_Fixed___init__) (defScope s_Fixed___init__) .none kV30 dc30 pm30 an30 cd30 ct30), sl30⟩)
    (c30 : PySem.W.codeIn K cd30 "Fixed.__init__" = true)
    (k30 : PySem.W.keepIn K (.ref f30) = true)
    (a31_Fixed : PySem.W.findIn K (.ref C_Fixed) "told" = some (some (.ref f31)))
    (i31 : PySem.W.isFn K (.ref f31) = true)
    (l31 : K.lookup f31 = some ⟨oc31, od31, .func (PySem.W.fnOf "told" "Fixed.told" (defArgs s_Fixed_told) (defBody s_Fixed_told) (defScope s_Fixed_told) .none kV31 dc31 pm31 an31 cd31 ct31), sl31⟩)
    (c31 : PySem.W.codeIn K cd31 "Fixed.told" = true)
    (k31 : PySem.W.keepIn K (.ref f31) = true)
    (r32 : PySem.W.readsIn K C_Leaf (.type "type") = true)
    (ga32 : PySem.W.specialIn K (.ref C_Leaf) "__getattribute__" = some (some (.builtin "type.__getattribute__")))
    (fc32 : PySem.W.findCls K (.ref C_Leaf) (.type "type") "__init__" = some (.val (.ref f32)))
    (i32 : PySem.W.isFn K (.ref f32) = true)
    (l32 : K.lookup f32 = some ⟨oc32, od32, .func (PySem.W.fnOf "__init__" "Leaf.__init__" (defArgs s_Leaf___init__) (defBody s_Leaf___init__) (defScope s_Leaf___init__) .none kV32 dc32 pm32 an32 cd32 ct32), sl32⟩)
    (c32 : PySem.W.codeIn K cd32 "Leaf.__init__" = true)
    (k32 : PySem.W.keepIn K (.ref f32) = true)
    (a33_Fraction : PySem.W.findIn K (.ref C_Fraction) "told" = some (some (.ref f33)))
    (a33_Root : PySem.W.findIn K (.ref C_Root) "told" = some (some (.ref f33)))
    (a33_Ruled : PySem.W.findIn K (.ref C_Ruled) "told" = some (some (.ref f33)))
    (i33 : PySem.W.isFn K (.ref f33) = true)
    (l33 : K.lookup f33 = some ⟨oc33, od33, .func (PySem.W.fnOf "told" "Leaf.told" (defArgs s_Leaf_told) (defBody s_Leaf_told) (defScope s_Leaf_told) .none kV33 dc33 pm33 an33 cd33 ct33), sl33⟩)
    (c33 : PySem.W.codeIn K cd33 "Leaf.told" = true)
    (k33 : PySem.W.keepIn K (.ref f33) = true)
    (a34_Root : PySem.W.findIn K (.ref C_Root) "at_end" = some (some (.ref f34)))
    (i34 : PySem.W.isFn K (.ref f34) = true)
    (l34 : K.lookup f34 = some ⟨oc34, od34, .func (PySem.W.fnOf "at_end" "Leaf.at_end" (defArgs s_Leaf_at_end) (defBody s_Leaf_at_end) (defScope s_Leaf_at_end) .none kV34 dc34 pm34 an34 cd34 ct34), sl34⟩)
    (c34 : PySem.W.codeIn K cd34 "Leaf.at_end" = true)
    (k34 : PySem.W.keepIn K (.ref f34) = true)
    (a35_Fraction : PySem.W.findIn K (.ref C_Fraction) "took" = some (some (.ref f35)))
    (a35_Root : PySem.W.findIn K (.ref C_Root) "took" = some (some (.ref f35)))
    (a35_Ruled : PySem.W.findIn K (.ref C_Ruled) "took" = some (some (.ref f35)))
    (i35 : PySem.W.isFn K (.ref f35) = true)
    (l35 : K.lookup f35 = some ⟨oc35, od35, .func (PySem.W.fnOf "took" "Leaf.took" (defArgs s_Leaf_took) (defBody s_Leaf_took) (defScope s_Leaf_took) .none kV35 dc35 pm35 an35 cd35 ct35), sl35⟩)
    (c35 : PySem.W.codeIn K cd35 "Leaf.took" = true)
    (k35 : PySem.W.keepIn K (.ref f35) = true)
    (a36_Fraction : PySem.W.findIn K (.ref C_Fraction) "__init__" = some (some (.ref f36)))
    (i36 : PySem.W.isFn K (.ref f36) = true)
    (l36 : K.lookup f36 = some ⟨oc36, od36, .func (PySem.W.fnOf "__init__" "Fraction.__init__" (defArgs s_Fraction___init__) (defBody s_Fraction___init__) (defScope s_Fraction___init__) .none kV36 dc36 pm36 an36 cd36 ct36), sl36⟩)
    (c36 : PySem.W.codeIn K cd36 "Fraction.__init__" = true)
    (k36 : PySem.W.keepIn K (.ref f36) = true)
    (a37_Fraction : PySem.W.findIn K (.ref C_Fraction) "at_end" = some (some (.ref f37)))
    (i37 : PySem.W.isFn K (.ref f37) = true)
    (l37 : K.lookup f37 = some ⟨oc37, od37, .func (PySem.W.fnOf "at_end" "Fraction.at_end" (defArgs s_Fraction_at_end) (defBody s_Fraction_at_end) (defScope s_Fraction_at_end) .none kV37 dc37 pm37 an37 cd37 ct37), sl37⟩)
    (c37 : PySem.W.codeIn K cd37 "Fraction.at_end" = true)
    (k37 : PySem.W.keepIn K (.ref f37) = true)
    (a38_Fraction : PySem.W.findIn K (.ref C_Fraction) "following" = some (some (.ref f38)))
    (i38 : PySem.W.isFn K (.ref f38) = true)
    (l38 : K.lookup f38 = some ⟨oc38, od38, .func (PySem.W.fnOf "following" "Fraction.following" (defArgs s_Fraction_following) (defBody s_Fraction_following) (defScope s_Fraction_following) .none kV38 dc38 pm38 an38 cd38 ct38), sl38⟩)
    (c38 : PySem.W.codeIn K cd38 "Fraction.following" = true)
    (k38 : PySem.W.keepIn K (.ref f38) = true)
    (a39_Root : PySem.W.findIn K (.ref C_Root) "__init__" = some (some (.ref f39)))
    (i39 : PySem.W.isFn K (.ref f39) = true)
    (l39 : K.lookup f39 = some ⟨oc39, od39, .func (PySem.W.fnOf "__init__" "Root.__init__" (defArgs s_Root___init__) (defBody s_Root___init__) (defScope s_Root___init__) .none kV39 dc39 pm39 an39 cd39 ct39), sl39⟩)
    (c39 : PySem.W.codeIn K cd39 "Root.__init__" = true)
    (k39 : PySem.W.keepIn K (.ref f39) = true)
    (a40_Root : PySem.W.findIn K (.ref C_Root) "following" = some (some (.ref f40)))
    (i40 : PySem.W.isFn K (.ref f40) = true)
    (l40 : K.lookup f40 = some ⟨oc40, od40, .func (PySem.W.fnOf "following" "Root.following" (defArgs s_Root_following) (defBody s_Root_following) (defScope s_Root_following) .none kV40 dc40 pm40 an40 cd40 ct40), sl40⟩)
    (c40 : PySem.W.codeIn K cd40 "Root.following" = true)
    (k40 : PySem.W.keepIn K (.ref f40) = true)
    (a41_Ruled : PySem.W.findIn K (.ref C_Ruled) "__init__" = some (some (.ref f41)))
    (i41 : PySem.W.isFn K (.ref f41) = true)
    (l41 : K.lookup f41 = some ⟨oc41, od41, .func (PySem.W.fnOf "__init__" "Ruled.__init__" (defArgs s_Ruled___init__) (defBody s_Ruled___init__) (defScope s_Ruled___init__) .none kV41 dc41 pm41 an41 cd41 ct41), sl41⟩)
    (c41 : PySem.W.codeIn K cd41 "Ruled.__init__" = true)
    (k41 : PySem.W.keepIn K (.ref f41) = true)
    (a42_Ruled : PySem.W.findIn K (.ref C_Ruled) "at_end" = some (some (.ref f42)))
    (i42 : PySem.W.isFn K (.ref f42) = true)
    (l42 : K.lookup f42 = some ⟨oc42, od42, .func (PySem.W.fnOf "at_end" "Ruled.at_end" (defArgs s_Ruled_at_end) (defBody s_Ruled_at_end) (defScope s_Ruled_at_end) .none kV42 dc42 pm42 an42 cd42 ct42), sl42⟩)
    (c42 : PySem.W.codeIn K cd42 "Ruled.at_end" = true)
    (k42 : PySem.W.keepIn K (.ref f42) = true)
    (a43_Ruled : PySem.W.findIn K (.ref C_Ruled) "following" = some (some (.ref f43)))
    (i43 : PySem.W.isFn K (.ref f43) = true)
    (l43 : K.lookup f43 = some ⟨oc43, od43, .func (PySem.W.fnOf "following" "Ruled.following" (defArgs s_Ruled_following) (defBody s_Ruled_following) (defScope s_Ruled_following) .none kV43 dc43 pm43 an43 cd43 ct43), sl43⟩)
    (c43 : PySem.W.codeIn K cd43 "Ruled.following" = true)
    (k43 : PySem.W.keepIn K (.ref f43) = true)
    (a44_Four : PySem.W.findIn K (.ref C_Four) "__init__" = some (some (.ref f44)))
    (i44 : PySem.W.isFn K (.ref f44) = true)
    (l44 : K.lookup f44 = some ⟨oc44, od44, .func (PySem.W.fnOf "__init__" "Four.__init__" (defArgs s_Four___init__) (defBody s_Four___init__) (defScope s_Four___init__) .none kV44 dc44 pm44 an44 cd44 ct44), sl44⟩)
    (c44 : PySem.W.codeIn K cd44 "Four.__init__" = true)
    (k44 : PySem.W.keepIn K (.ref f44) = true)
    (a45_Four : PySem.W.findIn K (.ref C_Four) "took" = some (some (.ref f45)))
    (i45 : PySem.W.isFn K (.ref f45) = true)
    (l45 : K.lookup f45 = some ⟨oc45, od45, .func (PySem.W.fnOf "took" "Four.took" (defArgs s_Four_took) (defBody s_Four_took) (defScope s_Four_took) .none kV45 dc45 pm45 an45 cd45 ct45), sl45⟩)
    (c45 : PySem.W.codeIn K cd45 "Four.took" = true)
    (k45 : PySem.W.keepIn K (.ref f45) = true)
    (a46_Four : PySem.W.findIn K (.ref C_Four) "sure" = some (some (.ref f46)))
    (i46 : PySem.W.isFn K (.ref f46) = true)
    (l46 : K.lookup f46 = some ⟨oc46, od46, .func (PySem.W.fnOf "sure" "Four.sure" (defArgs s_Four_sure) (defBody s_Four_sure) (defScope s_Four_sure) .none kV46 dc46 pm46 an46 cd46 ct46), sl46⟩)
    (c46 : PySem.W.codeIn K cd46 "Four.sure" = true)
    (k46 : PySem.W.keepIn K (.ref f46) = true)
    (a47_Four : PySem.W.findIn K (.ref C_Four) "told" = some (some (.ref f47)))
    (i47 : PySem.W.isFn K (.ref f47) = true)
    (l47 : K.lookup f47 = some ⟨oc47, od47, .func (PySem.W.fnOf "told" "Four.told" (defArgs s_Four_told) (defBody s_Four_told) (defScope s_Four_told) .none kV47 dc47 pm47 an47 cd47 ct47), sl47⟩)
    (c47 : PySem.W.codeIn K cd47 "Four.told" = true)
    (k47 : PySem.W.keepIn K (.ref f47) = true)
    (a48_Eight : PySem.W.findIn K (.ref C_Eight) "__init__" = some (some (.ref f48)))
    (i48 : PySem.W.isFn K (.ref f48) = true)
    (l48 : K.lookup f48 = some ⟨oc48, od48, .func (PySem.W.fnOf "__init__" "Eight.__init__" (defArgs s_Eight___init__) (defBody s_Eight___init__) (defScope s_Eight___init__) .none kV48 dc48 pm48 an48 cd48 ct48), sl48⟩)
    (c48 : PySem.W.codeIn K cd48 "Eight.__init__" = true)
    (k48 : PySem.W.keepIn K (.ref f48) = true)
    (a49_Eight : PySem.W.findIn K (.ref C_Eight) "took" = some (some (.ref f49)))
    (i49 : PySem.W.isFn K (.ref f49) = true)
    (l49 : K.lookup f49 = some ⟨oc49, od49, .func (PySem.W.fnOf "took" "Eight.took" (defArgs s_Eight_took) (defBody s_Eight_took) (defScope s_Eight_took) .none kV49 dc49 pm49 an49 cd49 ct49), sl49⟩)
    (c49 : PySem.W.codeIn K cd49 "Eight.took" = true)
    (k49 : PySem.W.keepIn K (.ref f49) = true)
    (a50_Eight : PySem.W.findIn K (.ref C_Eight) "sure" = some (some (.ref f50)))
    (i50 : PySem.W.isFn K (.ref f50) = true)
    (l50 : K.lookup f50 = some ⟨oc50, od50, .func (PySem.W.fnOf "sure" "Eight.sure" (defArgs s_Eight_sure) (defBody s_Eight_sure) (defScope s_Eight_sure) .none kV50 dc50 pm50 an50 cd50 ct50), sl50⟩)
    (c50 : PySem.W.codeIn K cd50 "Eight.sure" = true)
    (k50 : PySem.W.keepIn K (.ref f50) = true)
    (a51_Eight : PySem.W.findIn K (.ref C_Eight) "told" = some (some (.ref f51)))
    (i51 : PySem.W.isFn K (.ref f51) = true)
    (l51 : K.lookup f51 = some ⟨oc51, od51, .func (PySem.W.fnOf "told" "Eight.told" (defArgs s_Eight_told) (defBody s_Eight_told) (defScope s_Eight_told) .none kV51 dc51 pm51 an51 cd51 ct51), sl51⟩)
    (c51 : PySem.W.codeIn K cd51 "Eight.told" = true)
    (k51 : PySem.W.keepIn K (.ref f51) = true)
    (a52_Eight : PySem.W.findIn K (.ref C_Eight) "take" = some (some (.ref f52)))
    (i52 : PySem.W.isFn K (.ref f52) = true)
    (l52 : K.lookup f52 = some ⟨oc52, od52, .func (PySem.W.fnOf "take" "Eight.take" (defArgs s_Eight_take) (defBody s_Eight_take) (defScope s_Eight_take) .none kV52 dc52 pm52 an52 cd52 ct52), sl52⟩)
    (c52 : PySem.W.codeIn K cd52 "Eight.take" = true)
    (k52 : PySem.W.keepIn K (.ref f52) = true)
    (a53_Eight : PySem.W.findIn K (.ref C_Eight) "left_of" = some (some (.ref f53)))
    (i53 : PySem.W.isFn K (.ref f53) = true)
    (l53 : K.lookup f53 = some ⟨oc53, od53, .func (PySem.W.fnOf "left_of" "Eight.left_of" (defArgs s_Eight_left_of) (defBody s_Eight_left_of) (defScope s_Eight_left_of) .none kV53 dc53 pm53 an53 cd53 ct53), sl53⟩)
    (c53 : PySem.W.codeIn K cd53 "Eight.left_of" = true)
    (k53 : PySem.W.keepIn K (.ref f53) = true)
    (n_Purse_left : PySem.W.findIn K (.ref C_Purse) "left" = some none)
    (n_Fixed_top : PySem.W.findIn K (.ref C_Fixed) "top" = some none)
    (n_Fixed_below : PySem.W.findIn K (.ref C_Fixed) "below" = some none)
    (n_Fixed_begun : PySem.W.findIn K (.ref C_Fixed) "begun" = some none)
    (n_Fraction_many : PySem.W.findIn K (.ref C_Fraction) "many" = some none)
    (n_Fraction_top : PySem.W.findIn K (.ref C_Fraction) "top" = some none)
    (n_Fraction_below : PySem.W.findIn K (.ref C_Fraction) "below" = some none)
    (n_Root_many : PySem.W.findIn K (.ref C_Root) "many" = some none)
    (n_Root_top : PySem.W.findIn K (.ref C_Root) "top" = some none)
    (n_Root_square : PySem.W.findIn K (.ref C_Root) "square" = some none)
    (n_Root_below : PySem.W.findIn K (.ref C_Root) "below" = some none)
    (n_Root_floor : PySem.W.findIn K (.ref C_Root) "floor" = some none)
    (n_Ruled_many : PySem.W.findIn K (.ref C_Ruled) "many" = some none)
    (n_Ruled_first : PySem.W.findIn K (.ref C_Ruled) "first" = some none)
    (n_Ruled_ring : PySem.W.findIn K (.ref C_Ruled) "ring" = some none)
    (n_Ruled_steps : PySem.W.findIn K (.ref C_Ruled) "steps" = some none)
    (n_Four_numbers : PySem.W.findIn K (.ref C_Four) "numbers" = some none)
    (n_Four_inner : PySem.W.findIn K (.ref C_Four) "inner" = some none)
    (n_Four_ready : PySem.W.findIn K (.ref C_Four) "ready" = some none)
    (n_Four_begun : PySem.W.findIn K (.ref C_Four) "begun" = some none)
    (n_Four_fixed : PySem.W.findIn K (.ref C_Four) "fixed" = some none)
    (n_Eight_numbers : PySem.W.findIn K (.ref C_Eight) "numbers" = some none)
    (n_Eight_inners : PySem.W.findIn K (.ref C_Eight) "inners" = some none)
    (n_Eight_many : PySem.W.findIn K (.ref C_Eight) "many" = some none)
    (n_Eight_begun : PySem.W.findIn K (.ref C_Eight) "begun" = some none)
    (n_Eight_rest : PySem.W.findIn K (.ref C_Eight) "rest" = some none)
    (xf_BadTree : PySem.W.excIn K C_BadTree [.type "ValueError", .type "Exception", .type "BaseException", .type "object"] "ValueError.__new__" = true)
    (kp_BadTree : PySem.W.keepIn K (.ref C_BadTree) = true)
    (sb_BadTree : PySem.W.subIn K (.ref C_BadTree) (.type "BaseException") = some true)
    (ty_BadTree : PySem.W.typeIn K (.ref C_BadTree) = some (.type "type"))
    (xf_NoValue : PySem.W.excIn K C_NoValue [.type "ValueError", .type "Exception", .type "BaseException", .type "object"] "ValueError.__new__" = true)
    (kp_NoValue : PySem.W.keepIn K (.ref C_NoValue) = true)
    (sb_NoValue : PySem.W.subIn K (.ref C_NoValue) (.type "BaseException") = some true)
    (ty_NoValue : PySem.W.typeIn K (.ref C_NoValue) = some (.type "type"))
    (xf_TooLong : PySem.W.excIn K C_TooLong [.type "ValueError", .type "Exception", .type "BaseException", .type "object"] "ValueError.__new__" = true)
    (kp_TooLong : PySem.W.keepIn K (.ref C_TooLong) = true)
    (sb_TooLong : PySem.W.subIn K (.ref C_TooLong) (.type "BaseException") = some true)
    (ty_TooLong : PySem.W.typeIn K (.ref C_TooLong) = some (.type "type"))
    (sb_PartError : PySem.W.subIn K (.ref C_PartError) (.type "BaseException") = some true)
    (ty_PartError : PySem.W.typeIn K (.ref C_PartError) = some (.type "type"))
    (hd_PartError : PySem.W.hasDictIn K C_PartError = true)
    (su_BadTree_PartError : PySem.W.subIn K (.ref C_BadTree) (.ref C_PartError) = some true)
    (su_NoValue_PartError : PySem.W.subIn K (.ref C_NoValue) (.ref C_PartError) = some true)
    (su_TooLong_PartError : PySem.W.subIn K (.ref C_TooLong) (.ref C_PartError) = some true)
    (hd_BadTree : PySem.W.hasDictIn K C_BadTree = true)
    (su_BadTree_BadTree : PySem.W.subIn K (.ref C_BadTree) (.ref C_BadTree) = some true)
    (su_NoValue_BadTree : PySem.W.subIn K (.ref C_NoValue) (.ref C_BadTree) = some false)
    (su_TooLong_BadTree : PySem.W.subIn K (.ref C_TooLong) (.ref C_BadTree) = some false)
    (hd_TooLong : PySem.W.hasDictIn K C_TooLong = true)
    (su_BadTree_TooLong : PySem.W.subIn K (.ref C_BadTree) (.ref C_TooLong) = some false)
    (su_NoValue_TooLong : PySem.W.subIn K (.ref C_NoValue) (.ref C_TooLong) = some false)
    (su_TooLong_TooLong : PySem.W.subIn K (.ref C_TooLong) (.ref C_TooLong) = some true)
    (hd_NoValue : PySem.W.hasDictIn K C_NoValue = true)
    (su_BadTree_NoValue : PySem.W.subIn K (.ref C_BadTree) (.ref C_NoValue) = some false)
    (su_NoValue_NoValue : PySem.W.subIn K (.ref C_NoValue) (.ref C_NoValue) = some true)
    (su_TooLong_NoValue : PySem.W.subIn K (.ref C_TooLong) (.ref C_NoValue) = some false)
    (z_ValueError : PySem.W.nsIn K mainGlobals "ValueError" = some none)
    (su_BadTree_ValueError : PySem.W.subIn K (.ref C_BadTree) (.type "ValueError") = some true)
    (su_NoValue_ValueError : PySem.W.subIn K (.ref C_NoValue) (.type "ValueError") = some true)
    (su_TooLong_ValueError : PySem.W.subIn K (.ref C_TooLong) (.type "ValueError") = some true)
    (ocg : PySem.W.specialIn K (.builtin "object.__class__") "__get__" = some (some (.builtin "getset_descriptor.__get__")))
    (oct : PySem.W.takesIn K (.builtin "object.__class__") = some true)
    (xg_BadTree : PySem.W.findIn K (.ref C_BadTree) "__getattribute__" = some (some (.builtin "BaseException.__getattribute__")))
    (xk_BadTree : PySem.W.findIn K (.ref C_BadTree) "__getattr__" = some none)
    (xa_BadTree : PySem.W.findIn K (.ref C_BadTree) "__class__" = some (some (.builtin "object.__class__")))
    (xm_BadTree : PySem.W.mroIn K C_BadTree (.type "object") = some true)
    (xg_NoValue : PySem.W.findIn K (.ref C_NoValue) "__getattribute__" = some (some (.builtin "BaseException.__getattribute__")))
    (xk_NoValue : PySem.W.findIn K (.ref C_NoValue) "__getattr__" = some none)
    (xa_NoValue : PySem.W.findIn K (.ref C_NoValue) "__class__" = some (some (.builtin "object.__class__")))
    (xm_NoValue : PySem.W.mroIn K C_NoValue (.type "object") = some true)
    (xg_TooLong : PySem.W.findIn K (.ref C_TooLong) "__getattribute__" = some (some (.builtin "BaseException.__getattribute__")))
    (xk_TooLong : PySem.W.findIn K (.ref C_TooLong) "__getattr__" = some none)
    (xa_TooLong : PySem.W.findIn K (.ref C_TooLong) "__class__" = some (some (.builtin "object.__class__")))
    (xm_TooLong : PySem.W.mroIn K C_TooLong (.type "object") = some true)
    (g_DEEPEST : PySem.W.nsIn K mainGlobals "DEEPEST" = some (some (.int 5 t_DEEPEST)))
    (g_MOST_NUMBER : PySem.W.nsIn K mainGlobals "MOST_NUMBER" = some (some (.int 1000000000000 t_MOST_NUMBER)))
    (g_MOST_PARTS : PySem.W.nsIn K mainGlobals "MOST_PARTS" = some (some (.int 12 t_MOST_PARTS)))
    (g_MOST_POWER : PySem.W.nsIn K mainGlobals "MOST_POWER" = some (some (.int 4 t_MOST_POWER)))
    (g_TIMES : PySem.W.nsIn K mainGlobals "TIMES" = some (some (.ref A_TIMES)))
    (l_TIMES : K.lookup A_TIMES = some ⟨.type "tuple", oT_TIMES, .seq #[.int 1 t0_TIMES, .int 0 t1_TIMES, .int 0 t2_TIMES, .int 0 t3_TIMES, .int 0 t4_TIMES, .int 0 t5_TIMES, .int 0 t6_TIMES, .int 1 t7_TIMES] nT_TIMES, sT_TIMES⟩)
    (z_divmod : PySem.W.nsIn K mainGlobals "divmod" = some none)
    (z_abs : PySem.W.nsIn K mainGlobals "abs" = some none)
    (z_bool : PySem.W.nsIn K mainGlobals "bool" = some none)
    (z_int : PySem.W.nsIn K mainGlobals "int" = some none)
    (z_isinstance : PySem.W.nsIn K mainGlobals "isinstance" = some none)
    (z_len : PySem.W.nsIn K mainGlobals "len" = some none)
    (z_list : PySem.W.nsIn K mainGlobals "list" = some none)
    (z_max : PySem.W.nsIn K mainGlobals "max" = some none)
    (z_min : PySem.W.nsIn K mainGlobals "min" = some none)
    (z_range : PySem.W.nsIn K mainGlobals "range" = some none)
    (z_reversed : PySem.W.nsIn K mainGlobals "reversed" = some none)
    (z_str : PySem.W.nsIn K mainGlobals "str" = some none)
    (z_sum : PySem.W.nsIn K mainGlobals "sum" = some none)
    (z_tuple : PySem.W.nsIn K mainGlobals "tuple" = some none)
    (z_zip : PySem.W.nsIn K mainGlobals "zip" = some none)
    : ∃ fd : FuncData, (∀ (s : Shared) (v : Value), BindsTo s fd ⟨[v], []⟩ [("_law_script", v)]) ∧ ∀ base : Heap, K.In base → base.Ns mainGlobals mg → Seer l.prog base → FnOk l.prog w K mg base (L2.CX l.prog w) 83 fa fd ["_law_script"] (spA K (caOf K) F_law) := by
  have e := hfa.symm.trans (PySem.W.mg_of X G a26)
  cases e
  have T : Txt K mg { c_Purse := C_Purse, c_Fixed := C_Fixed, c_Fraction := C_Fraction, c_Root := C_Root, c_Ruled := C_Ruled, c_Four := C_Four, c_Eight := C_Eight, c_BadTree := C_BadTree, c_NoValue := C_NoValue, c_TooLong := C_TooLong, c_PartError := C_PartError, a_TIMES := A_TIMES } := ⟨dfn X G a0 l0 c0 k0 (fun _ _ _ _ _ _ us hl => match us, hl with | [_], _ => rfl),
    dfn X G a1 l1 c1 k1 (fun _ _ _ _ _ _ us hl => match us, hl with | [_, _, _], _ => rfl),
    dfn X G a2 l2 c2 k2 (fun _ _ _ _ _ _ us hl => match us, hl with | [_], _ => rfl),
    dfn X G a3 l3 c3 k3 (fun _ _ _ _ _ _ us hl => match us, hl with | [_], _ => rfl),
    dfn X G a4 l4 c4 k4 (fun _ _ _ _ _ _ us hl => match us, hl with | [_, _, _], _ => rfl),
    dfn X G a5 l5 c5 k5 (fun _ _ _ _ _ _ us hl => match us, hl with | [_], _ => rfl),
    dfn X G a6 l6 c6 k6 (fun _ _ _ _ _ _ us hl => match us, hl with | [_, _], _ => rfl),
    dfn X G a7 l7 c7 k7 (fun _ _ _ _ _ _ us hl => match us, hl with | [_, _, _, _], _ => rfl),
    dfn X G a8 l8 c8 k8 (fun _ _ _ _ _ _ us hl => match us, hl with | [_], _ => rfl),
    dfn X G a9 l9 c9 k9 (fun _ _ _ _ _ _ us hl => match us, hl with | [_], _ => rfl),
    dfn X G a10 l10 c10 k10 (fun _ _ _ _ _ _ us hl => match us, hl with | [_], _ => rfl),
    dfn X G a11 l11 c11 k11 (fun _ _ _ _ _ _ us hl => match us, hl with | [_, _, _], _ => rfl),
    dfn X G a12 l12 c12 k12 (fun _ _ _ _ _ _ us hl => match us, hl with | [_], _ => rfl),
    dfn X G a13 l13 c13 k13 (fun _ _ _ _ _ _ us hl => match us, hl with | [_, _], _ => rfl),
    dfn X G a14 l14 c14 k14 (fun _ _ _ _ _ _ us hl => match us, hl with | [_], _ => rfl),
    dfn X G a15 l15 c15 k15 (fun _ _ _ _ _ _ us hl => match us, hl with | [_, _], _ => rfl),
    dfn X G a16 l16 c16 k16 (fun _ _ _ _ _ _ us hl => match us, hl with | [_, _], _ => rfl),
    dfn X G a17 l17 c17 k17 (fun _ _ _ _ _ _ us hl => match us, hl with | [_], _ => rfl),
    dfn X G a18 l18 c18 k18 (fun _ _ _ _ _ _ us hl => match us, hl with | [_, _], _ => rfl),
    dfn X G a19 l19 c19 k19 (fun _ _ _ _ _ _ us hl => match us, hl with | [_, _, _], _ => rfl),
    dfn X G a20 l20 c20 k20 (fun _ _ _ _ _ _ us hl => match us, hl with | [_, _, _], _ => rfl),
    dfn X G a21 l21 c21 k21 (fun _ _ _ _ _ _ us hl => match us, hl with | [_, _, _], _ => rfl),
    dfn X G a22 l22 c22 k22 (fun _ _ _ _ _ _ us hl => match us, hl with | [_, _, _], _ => rfl),
    dfn X G a23 l23 c23 k23 (fun _ _ _ _ _ _ us hl => match us, hl with | [_, _], _ => rfl),
    dfn X G a24 l24 c24 k24 (fun _ _ _ _ _ _ us hl => match us, hl with | [_, _], _ => rfl),
    dfn X G a25 l25 c25 k25 (fun _ _ _ _ _ _ us hl => match us, hl with | [_, _, _, _], _ => rfl),
    dfn X G a26 l26 c26 k26 (fun _ _ _ _ _ _ us hl => match us, hl with | [_], _ => rfl),
    ⟨⟨f27, _, fun_mk (st := s_Purse___init__) l27 c27 k27, (fun_mk (st := s_Purse___init__) l27 c27 k27).binds (ps := ["self", "left"]) (fun _ _ _ _ _ _ us hl => match us, hl with | [_, _], _ => rfl), ⟨mk_Purse, a27_Purse, i27, kc_Purse⟩, ⟨pg_Purse, hd_Purse, po_Purse, sa_Purse⟩, PySem.W.mg_of X G g_Purse⟩⟩,
    ⟨⟨f28, _, fun_mk (st := s_Reader_part) l28 c28 k28, (fun_mk (st := s_Reader_part) l28 c28 k28).binds (ps := ["self", "most"]) (fun _ _ _ _ _ _ us hl => match us, hl with | [_, _], _ => rfl), (fun D hD => by simp only [List.mem_cons, List.not_mem_nil, or_false] at hD; rcases hD with rfl | rfl | rfl | rfl | rfl | rfl <;> first | exact ⟨a28_Fixed, i28, k28⟩ | exact ⟨a28_Fraction, i28, k28⟩ | exact ⟨a28_Root, i28, k28⟩ | exact ⟨a28_Ruled, i28, k28⟩ | exact ⟨a28_Four, i28, k28⟩ | exact ⟨a28_Eight, i28, k28⟩)⟩⟩,
    ⟨⟨f29, _, fun_mk (st := s_Reader_took) l29 c29 k29, (fun_mk (st := s_Reader_took) l29 c29 k29).binds (ps := ["self"]) (fun _ _ _ _ _ _ us hl => match us, hl with | [_], _ => rfl), (fun D hD => by simp only [List.mem_cons, List.not_mem_nil, or_false] at hD; rcases hD with rfl <;> first | exact ⟨a29_Fixed, i29, k29⟩)⟩⟩,
    ⟨⟨f30, _, fun_mk (st := s_Fixed___init__) l30 c30 k30, (fun_mk (st := s_Fixed___init__) l30 c30 k30).binds (ps := ["self", "top", "below", "begun"]) (fun _ _ _ _ _ _ us hl => match us, hl with | [_, _, _, _], _ => rfl), ⟨mk_Fixed, a30_Fixed, i30, kc_Fixed⟩, ⟨pg_Fixed, hd_Fixed, po_Fixed, sa_Fixed⟩, PySem.W.mg_of X G g_Fixed⟩⟩,
    ⟨⟨f31, _, fun_mk (st := s_Fixed_told) l31 c31 k31, (fun_mk (st := s_Fixed_told) l31 c31 k31).binds (ps := ["self", "purse"]) (fun _ _ _ _ _ _ us hl => match us, hl with | [_, _], _ => rfl), (fun D hD => by simp only [List.mem_cons, List.not_mem_nil, or_false] at hD; rcases hD with rfl <;> first | exact ⟨a31_Fixed, i31, k31⟩)⟩⟩,
    ⟨⟨C_Leaf, .type "type", f32, _, fun_mk (st := s_Leaf___init__) l32 c32 k32, (fun_mk (st := s_Leaf___init__) l32 c32 k32).binds (ps := ["self"]) (fun _ _ _ _ _ _ us hl => match us, hl with | [_], _ => rfl), ⟨⟨r32, ga32⟩, fc32, k32⟩, PySem.W.mg_of X G g_Leaf⟩⟩,
    ⟨⟨f33, _, fun_mk (st := s_Leaf_told) l33 c33 k33, (fun_mk (st := s_Leaf_told) l33 c33 k33).binds (ps := ["self", "purse"]) (fun _ _ _ _ _ _ us hl => match us, hl with | [_, _], _ => rfl), (fun D hD => by simp only [List.mem_cons, List.not_mem_nil, or_false] at hD; rcases hD with rfl | rfl | rfl <;> first | exact ⟨a33_Fraction, i33, k33⟩ | exact ⟨a33_Root, i33, k33⟩ | exact ⟨a33_Ruled, i33, k33⟩)⟩⟩,
    ⟨⟨f34, _, fun_mk (st := s_Leaf_at_end) l34 c34 k34, (fun_mk (st := s_Leaf_at_end) l34 c34 k34).binds (ps := ["self"]) (fun _ _ _ _ _ _ us hl => match us, hl with | [_], _ => rfl), (fun D hD => by simp only [List.mem_cons, List.not_mem_nil, or_false] at hD; rcases hD with rfl <;> first | exact ⟨a34_Root, i34, k34⟩)⟩⟩,
    ⟨⟨f35, _, fun_mk (st := s_Leaf_took) l35 c35 k35, (fun_mk (st := s_Leaf_took) l35 c35 k35).binds (ps := ["self"]) (fun _ _ _ _ _ _ us hl => match us, hl with | [_], _ => rfl), (fun D hD => by simp only [List.mem_cons, List.not_mem_nil, or_false] at hD; rcases hD with rfl | rfl | rfl <;> first | exact ⟨a35_Fraction, i35, k35⟩ | exact ⟨a35_Root, i35, k35⟩ | exact ⟨a35_Ruled, i35, k35⟩)⟩⟩,
    ⟨⟨f36, _, fun_mk (st := s_Fraction___init__) l36 c36 k36, (fun_mk (st := s_Fraction___init__) l36 c36 k36).binds (ps := ["self", "top", "below"]) (fun _ _ _ _ _ _ us hl => match us, hl with | [_, _, _], _ => rfl), ⟨mk_Fraction, a36_Fraction, i36, kc_Fraction⟩, ⟨pg_Fraction, hd_Fraction, po_Fraction, sa_Fraction⟩, PySem.W.mg_of X G g_Fraction⟩⟩,
    ⟨⟨f37, _, fun_mk (st := s_Fraction_at_end) l37 c37 k37, (fun_mk (st := s_Fraction_at_end) l37 c37 k37).binds (ps := ["self"]) (fun _ _ _ _ _ _ us hl => match us, hl with | [_], _ => rfl), (fun D hD => by simp only [List.mem_cons, List.not_mem_nil, or_false] at hD; rcases hD with rfl <;> first | exact ⟨a37_Fraction, i37, k37⟩)⟩⟩,
    ⟨⟨f38, _, fun_mk (st := s_Fraction_following) l38 c38 k38, (fun_mk (st := s_Fraction_following) l38 c38 k38).binds (ps := ["self"]) (fun _ _ _ _ _ _ us hl => match us, hl with | [_], _ => rfl), (fun D hD => by simp only [List.mem_cons, List.not_mem_nil, or_false] at hD; rcases hD with rfl <;> first | exact ⟨a38_Fraction, i38, k38⟩)⟩⟩,
    ⟨⟨f39, _, fun_mk (st := s_Root___init__) l39 c39 k39, (fun_mk (st := s_Root___init__) l39 c39 k39).binds (ps := ["self", "top", "square", "below"]) (fun _ _ _ _ _ _ us hl => match us, hl with | [_, _, _, _], _ => rfl), ⟨mk_Root, a39_Root, i39, kc_Root⟩, ⟨pg_Root, hd_Root, po_Root, sa_Root⟩, PySem.W.mg_of X G g_Root⟩⟩,
    ⟨⟨f40, _, fun_mk (st := s_Root_following) l40 c40 k40, (fun_mk (st := s_Root_following) l40 c40 k40).binds (ps := ["self"]) (fun _ _ _ _ _ _ us hl => match us, hl with | [_], _ => rfl), (fun D hD => by simp only [List.mem_cons, List.not_mem_nil, or_false] at hD; rcases hD with rfl <;> first | exact ⟨a40_Root, i40, k40⟩)⟩⟩,
    ⟨⟨f41, _, fun_mk (st := s_Ruled___init__) l41 c41 k41, (fun_mk (st := s_Ruled___init__) l41 c41 k41).binds (ps := ["self", "parts", "ring", "steps"]) (fun _ _ _ _ _ _ us hl => match us, hl with | [_, _, _, _], _ => rfl), ⟨mk_Ruled, a41_Ruled, i41, kc_Ruled⟩, ⟨pg_Ruled, hd_Ruled, po_Ruled, sa_Ruled⟩, PySem.W.mg_of X G g_Ruled⟩⟩,
    ⟨⟨f42, _, fun_mk (st := s_Ruled_at_end) l42 c42 k42, (fun_mk (st := s_Ruled_at_end) l42 c42 k42).binds (ps := ["self"]) (fun _ _ _ _ _ _ us hl => match us, hl with | [_], _ => rfl), (fun D hD => by simp only [List.mem_cons, List.not_mem_nil, or_false] at hD; rcases hD with rfl <;> first | exact ⟨a42_Ruled, i42, k42⟩)⟩⟩,
    ⟨⟨f43, _, fun_mk (st := s_Ruled_following) l43 c43 k43, (fun_mk (st := s_Ruled_following) l43 c43 k43).binds (ps := ["self"]) (fun _ _ _ _ _ _ us hl => match us, hl with | [_], _ => rfl), (fun D hD => by simp only [List.mem_cons, List.not_mem_nil, or_false] at hD; rcases hD with rfl <;> first | exact ⟨a43_Ruled, i43, k43⟩)⟩⟩,
    ⟨⟨f44, _, fun_mk (st := s_Four___init__) l44 c44 k44, (fun_mk (st := s_Four___init__) l44 c44 k44).binds (ps := ["self", "numbers", "inner", "ready", "begun"]) (fun _ _ _ _ _ _ us hl => match us, hl with | [_, _, _, _, _], _ => rfl), ⟨mk_Four, a44_Four, i44, kc_Four⟩, ⟨pg_Four, hd_Four, po_Four, sa_Four⟩, PySem.W.mg_of X G g_Four⟩⟩,
    ⟨⟨f45, _, fun_mk (st := s_Four_took) l45 c45 k45, (fun_mk (st := s_Four_took) l45 c45 k45).binds (ps := ["self"]) (fun _ _ _ _ _ _ us hl => match us, hl with | [_], _ => rfl), (fun D hD => by simp only [List.mem_cons, List.not_mem_nil, or_false] at hD; rcases hD with rfl <;> first | exact ⟨a45_Four, i45, k45⟩)⟩⟩,
    ⟨⟨f46, _, fun_mk (st := s_Four_sure) l46 c46 k46, (fun_mk (st := s_Four_sure) l46 c46 k46).binds (ps := ["self"]) (fun _ _ _ _ _ _ us hl => match us, hl with | [_], _ => rfl), (fun D hD => by simp only [List.mem_cons, List.not_mem_nil, or_false] at hD; rcases hD with rfl <;> first | exact ⟨a46_Four, i46, k46⟩)⟩⟩,
    ⟨⟨f47, _, fun_mk (st := s_Four_told) l47 c47 k47, (fun_mk (st := s_Four_told) l47 c47 k47).binds (ps := ["self", "purse"]) (fun _ _ _ _ _ _ us hl => match us, hl with | [_, _], _ => rfl), (fun D hD => by simp only [List.mem_cons, List.not_mem_nil, or_false] at hD; rcases hD with rfl <;> first | exact ⟨a47_Four, i47, k47⟩)⟩⟩,
    ⟨⟨f48, _, fun_mk (st := s_Eight___init__) l48 c48 k48, (fun_mk (st := s_Eight___init__) l48 c48 k48).binds (ps := ["self", "numbers", "one", "other"]) (fun _ _ _ _ _ _ us hl => match us, hl with | [_, _, _, _], _ => rfl), ⟨mk_Eight, a48_Eight, i48, kc_Eight⟩, ⟨pg_Eight, hd_Eight, po_Eight, sa_Eight⟩, PySem.W.mg_of X G g_Eight⟩⟩,
    ⟨⟨f49, _, fun_mk (st := s_Eight_took) l49 c49 k49, (fun_mk (st := s_Eight_took) l49 c49 k49).binds (ps := ["self"]) (fun _ _ _ _ _ _ us hl => match us, hl with | [_], _ => rfl), (fun D hD => by simp only [List.mem_cons, List.not_mem_nil, or_false] at hD; rcases hD with rfl <;> first | exact ⟨a49_Eight, i49, k49⟩)⟩⟩,
    ⟨⟨f50, _, fun_mk (st := s_Eight_sure) l50 c50 k50, (fun_mk (st := s_Eight_sure) l50 c50 k50).binds (ps := ["self"]) (fun _ _ _ _ _ _ us hl => match us, hl with | [_], _ => rfl), (fun D hD => by simp only [List.mem_cons, List.not_mem_nil, or_false] at hD; rcases hD with rfl <;> first | exact ⟨a50_Eight, i50, k50⟩)⟩⟩,
    ⟨⟨f51, _, fun_mk (st := s_Eight_told) l51 c51 k51, (fun_mk (st := s_Eight_told) l51 c51 k51).binds (ps := ["self", "purse"]) (fun _ _ _ _ _ _ us hl => match us, hl with | [_, _], _ => rfl), (fun D hD => by simp only [List.mem_cons, List.not_mem_nil, or_false] at hD; rcases hD with rfl <;> first | exact ⟨a51_Eight, i51, k51⟩)⟩⟩,
    ⟨⟨f52, _, fun_mk (st := s_Eight_take) l52 c52 k52, (fun_mk (st := s_Eight_take) l52 c52 k52).binds (ps := ["self", "which", "part"]) (fun _ _ _ _ _ _ us hl => match us, hl with | [_, _, _], _ => rfl), (fun D hD => by simp only [List.mem_cons, List.not_mem_nil, or_false] at hD; rcases hD with rfl <;> first | exact ⟨a52_Eight, i52, k52⟩)⟩⟩,
    ⟨⟨f53, _, fun_mk (st := s_Eight_left_of) l53 c53 k53, (fun_mk (st := s_Eight_left_of) l53 c53 k53).binds (ps := ["self", "which"]) (fun _ _ _ _ _ _ us hl => match us, hl with | [_, _], _ => rfl), (fun D hD => by simp only [List.mem_cons, List.not_mem_nil, or_false] at hD; rcases hD with rfl <;> first | exact ⟨a53_Eight, i53, k53⟩)⟩⟩,
    n_Purse_left,
    n_Fixed_top,
    n_Fixed_below,
    n_Fixed_begun,
    n_Fraction_many,
    n_Fraction_top,
    n_Fraction_below,
    n_Root_many,
    n_Root_top,
    n_Root_square,
    n_Root_below,
    n_Root_floor,
    n_Ruled_many,
    n_Ruled_first,
    n_Ruled_ring,
    n_Ruled_steps,
    n_Four_numbers,
    n_Four_inner,
    n_Four_ready,
    n_Four_begun,
    n_Four_fixed,
    n_Eight_numbers,
    n_Eight_inners,
    n_Eight_many,
    n_Eight_begun,
    n_Eight_rest,
    ⟨xf_BadTree, PySem.W.mg_of X G g_BadTree, kp_BadTree, sb_BadTree, ty_BadTree⟩,
    ⟨xf_NoValue, PySem.W.mg_of X G g_NoValue, kp_NoValue, sb_NoValue, ty_NoValue⟩,
    ⟨xf_TooLong, PySem.W.mg_of X G g_TooLong, kp_TooLong, sb_TooLong, ty_TooLong⟩,
    PySem.W.mg_of X G g_PartError,
    PySem.W.exm_ref sb_PartError hd_PartError ty_PartError su_BadTree_PartError,
    PySem.W.exm_ref sb_PartError hd_PartError ty_PartError su_NoValue_PartError,
    PySem.W.exm_ref sb_PartError hd_PartError ty_PartError su_TooLong_PartError,
    PySem.W.mg_of X G g_BadTree,
    PySem.W.kit_ref su_BadTree_BadTree su_BadTree_BadTree hd_BadTree ty_BadTree,
    PySem.W.kit_ref su_NoValue_BadTree su_NoValue_NoValue hd_BadTree ty_BadTree,
    PySem.W.kit_ref su_TooLong_BadTree su_TooLong_TooLong hd_BadTree ty_BadTree,
    PySem.W.mg_of X G g_TooLong,
    PySem.W.kit_ref su_BadTree_TooLong su_BadTree_BadTree hd_TooLong ty_TooLong,
    PySem.W.kit_ref su_NoValue_TooLong su_NoValue_NoValue hd_TooLong ty_TooLong,
    PySem.W.kit_ref su_TooLong_TooLong su_TooLong_TooLong hd_TooLong ty_TooLong,
    PySem.W.mg_of X G g_NoValue,
    PySem.W.kit_ref su_BadTree_NoValue su_BadTree_BadTree hd_NoValue ty_NoValue,
    PySem.W.kit_ref su_NoValue_NoValue su_NoValue_NoValue hd_NoValue ty_NoValue,
    PySem.W.kit_ref su_TooLong_NoValue su_TooLong_TooLong hd_NoValue ty_NoValue,
    PySem.W.mg_none_of X G z_ValueError,
    PySem.W.kit_typ su_BadTree_ValueError meta_ValueError,
    PySem.W.kit_typ su_NoValue_ValueError meta_ValueError,
    PySem.W.kit_typ su_TooLong_ValueError meta_ValueError,
    ⟨xg_BadTree, xk_BadTree, sb_BadTree, hd_BadTree, xa_BadTree, ocg, oct, xm_BadTree⟩,
    ⟨xg_NoValue, xk_NoValue, sb_NoValue, hd_NoValue, xa_NoValue, ocg, oct, xm_NoValue⟩,
    ⟨xg_TooLong, xk_TooLong, sb_TooLong, hd_TooLong, xa_TooLong, ocg, oct, xm_TooLong⟩,
    ⟨_, PySem.W.mg_of X G g_DEEPEST⟩,
    ⟨_, PySem.W.mg_of X G g_MOST_NUMBER⟩,
    ⟨_, PySem.W.mg_of X G g_MOST_PARTS⟩,
    ⟨_, PySem.W.mg_of X G g_MOST_POWER⟩,
    ⟨PySem.W.mg_of X G g_TIMES, fun H => .inr ⟨_, _, _, l_TIMES, rfl, rfl, (by rw [sizeLine_eq]; show 8 ≤ _; decide), .cons ⟨_, rfl⟩ (.cons ⟨_, rfl⟩ (.cons ⟨_, rfl⟩ (.cons ⟨_, rfl⟩ (.cons ⟨_, rfl⟩ (.cons ⟨_, rfl⟩ (.cons ⟨_, rfl⟩ (.cons ⟨_, rfl⟩ (.nil))))))))⟩⟩,
    PySem.W.mg_none_of X G z_divmod,
    PySem.W.mg_none_of X G z_abs,
    PySem.W.mg_none_of X G z_bool,
    PySem.W.mg_none_of X G z_int,
    PySem.W.mg_none_of X G z_isinstance,
    PySem.W.mg_none_of X G z_len,
    PySem.W.mg_none_of X G z_list,
    PySem.W.mg_none_of X G z_max,
    PySem.W.mg_none_of X G z_min,
    PySem.W.mg_none_of X G z_range,
    PySem.W.mg_none_of X G z_reversed,
    PySem.W.mg_none_of X G z_str,
    PySem.W.mg_none_of X G z_sum,
    PySem.W.mg_none_of X G z_tuple,
    PySem.W.mg_none_of X G z_zip⟩
  exact ⟨PySem.W.fnOf "law" "law" (defArgs s_law) (defBody s_law) (defScope s_law) .none kV26 dc26 pm26 an26 cd26 ct26, fun s v => .of_eq rfl, fun base _ _ hS => have := hS; law_ok T (fun_mk (st := s_law) l26 c26 k26)⟩
end PL
open PySem PySem.W PyProof.Rows
set_option maxRecDepth 100000 in
set_option maxHeartbeats 0 in
theorem PySem.Challenge.cw_chainparts_k06_rings_come_again_holds : PySem.Challenge.rw_chainparts_k06_rings_come_again.Holds := by
  refine PLH.hdTop ?_
  k_fill
  refine PL.pl_walkS (l := PySem.Challenge.rw_chainparts_k06_rings_come_again) (k := 83) PL.caOf rfl (by kernel_rfl) ⟨rfl, by decide, by decide⟩ ?hq ?ht (fun w h Y => PySem.W.kIn_of Y) ?F
  case hq => first | rfl | decide +kernel
  case ht => rfl
  case F =>
    intro w mg fa h KX G hmg0
    have hmg : mg ("law" : PySem.Str) = some (.ref fa) := by
      have e : (HandSHeadRun.topDef (PySem.W.OpenLaw.row PySem.Challenge.rw_chainparts_k06_rings_come_again).prog 54).name = ("law" : PySem.Str) := by kernel_rfl
      rw [← e]
      exact hmg0
    refine' PL.all_mk KX G hmg ?g_Purse ?g_Fixed ?g_Leaf ?g_Fraction ?g_Root ?g_Ruled ?g_Four ?g_Eight ?g_BadTree ?g_NoValue ?g_TooLong ?g_PartError ?a0 ?l0 ?c0 ?k0 ?a1 ?l1 ?c1 ?k1 ?a2 ?l2 ?c2 ?k2 ?a3 ?l3 ?c3 ?k3 ?a4 ?l4 ?c4 ?k4 ?a5 ?l5 ?c5 ?k5 ?a6 ?l6 ?c6 ?k6 ?a7 ?l7 ?c7 ?k7 ?a8 ?l8 ?c8 ?k8 ?a9 ?l9 ?c9 ?k9 ?a10 ?l10 ?c10 ?k10 ?a11 ?l11 ?c11 ?k11 ?a12 ?l12 ?c12 ?k12 ?a13 ?l13 ?c13 ?k13 ?a14 ?l14 ?c14 ?k14 ?a15 ?l15 ?c15 ?k15 ?a16 ?l16 ?c16 ?k16 ?a17 ?l17 ?c17 ?k17 ?a18 ?l18 ?c18 ?k18 ?a19 ?l19 ?c19 ?k19 ?a20 ?l20 ?c20 ?k20 ?a21 ?l21 ?c21 ?k21 ?a22 ?l22 ?c22 ?k22 ?a23 ?l23 ?c23 ?k23 ?a24 ?l24 ?c24 ?k24 ?a25 ?l25 ?c25 ?k25 ?a26 ?l26 ?c26 ?k26 ?pg_Purse ?hd_Purse ?po_Purse ?sa_Purse ?mk_Purse ?kc_Purse ?pg_Fixed ?hd_Fixed ?po_Fixed ?sa_Fixed ?mk_Fixed ?kc_Fixed ?pg_Fraction ?hd_Fraction ?po_Fraction ?sa_Fraction ?mk_Fraction ?kc_Fraction ?pg_Root ?hd_Root ?po_Root ?sa_Root ?mk_Root ?kc_Root ?pg_Ruled ?hd_Ruled ?po_Ruled ?sa_Ruled ?mk_Ruled ?kc_Ruled ?pg_Four ?hd_Four ?po_Four ?sa_Four ?mk_Four ?kc_Four ?pg_Eight ?hd_Eight ?po_Eight ?sa_Eight ?mk_Eight ?kc_Eight ?a27_Purse ?i27 ?l27 ?c27 ?k27 ?a28_Fixed ?a28_Fraction ?a28_Root ?a28_Ruled ?a28_Four ?a28_Eight ?i28 ?l28 ?c28 ?k28 ?a29_Fixed ?i29 ?l29 ?c29 ?k29 ?a30_Fixed ?i30 ?l30 ?c30 ?k30 ?a31_Fixed ?i31 ?l31 ?c31 ?k31 ?r32 ?ga32 ?fc32 ?i32 ?l32 ?c32 ?k32 ?a33_Fraction ?a33_Root ?a33_Ruled ?i33 ?l33 ?c33 ?k33 ?a34_Root ?i34 ?l34 ?c34 ?k34 ?a35_Fraction ?a35_Root ?a35_Ruled ?i35 ?l35 ?c35 ?k35 ?a36_Fraction ?i36 ?l36 ?c36 ?k36 ?a37_Fraction ?i37 ?l37 ?c37 ?k37 ?a38_Fraction ?i38 ?l38 ?c38 ?k38 ?a39_Root ?i39 ?l39 ?c39 ?k39 ?a40_Root ?i40 ?l40 ?c40 ?k40 ?a41_Ruled ?i41 ?l41 ?c41 ?k41 ?a42_Ruled ?i42 ?l42 ?c42 ?k42 ?a43_Ruled ?i43 ?l43 ?c43 ?k43 ?a44_Four ?i44 ?l44 ?c44 ?k44 ?a45_Four ?i45 ?l45 ?c45 ?k45 ?a46_Four ?i46 ?l46 ?c46 ?k46 ?a47_Four ?i47 ?l47 ?c47 ?k47 ?a48_Eight ?i48 ?l48 ?c48 ?k48 ?a49_Eight ?i49 ?l49 ?c49 ?k49 ?a50_Eight ?i50 ?l50 ?c50 ?k50 ?a51_Eight ?i51 ?l51 ?c51 ?k51 ?a52_Eight ?i52 ?l52 ?c52 ?k52 ?a53_Eight ?i53 ?l53 ?c53 ?k53 ?n_Purse_left ?n_Fixed_top ?n_Fixed_below ?n_Fixed_begun ?n_Fraction_many ?n_Fraction_top ?n_Fraction_below ?n_Root_many ?n_Root_top ?n_Root_square ?n_Root_below ?n_Root_floor ?n_Ruled_many ?n_Ruled_first ?n_Ruled_ring ?n_Ruled_steps ?n_Four_numbers ?n_Four_inner ?n_Four_ready ?n_Four_begun ?n_Four_fixed ?n_Eight_numbers ?n_Eight_inners ?n_Eight_many ?n_Eight_begun ?n_Eight_rest ?xf_BadTree ?kp_BadTree ?sb_BadTree ?ty_BadTree ?xf_NoValue ?kp_NoValue ?sb_NoValue ?ty_NoValue ?xf_TooLong ?kp_TooLong ?sb_TooLong ?ty_TooLong ?sb_PartError ?ty_PartError ?hd_PartError ?su_BadTree_PartError ?su_NoValue_PartError ?su_TooLong_PartError ?hd_BadTree ?su_BadTree_BadTree ?su_NoValue_BadTree ?su_TooLong_BadTree ?hd_TooLong ?su_BadTree_TooLong ?su_NoValue_TooLong ?su_TooLong_TooLong ?hd_NoValue ?su_BadTree_NoValue ?su_NoValue_NoValue ?su_TooLong_NoValue ?z_ValueError ?su_BadTree_ValueError ?su_NoValue_ValueError ?su_TooLong_ValueError ?ocg ?oct ?xg_BadTree ?xk_BadTree ?xa_BadTree ?xm_BadTree ?xg_NoValue ?xk_NoValue ?xa_NoValue ?xm_NoValue ?xg_TooLong ?xk_TooLong ?xa_TooLong ?xm_TooLong ?g_DEEPEST ?g_MOST_NUMBER ?g_MOST_PARTS ?g_MOST_POWER ?g_TIMES ?l_TIMES ?z_divmod ?z_abs ?z_bool ?z_int ?z_isinstance ?z_len ?z_list ?z_max ?z_min ?z_range ?z_reversed ?z_str ?z_sum ?z_tuple ?z_zip
    (case g_Purse => k_is)
    (case g_Fixed => k_is)
    (case g_Leaf => k_is)
    (case g_Fraction => k_is)
    (case g_Root => k_is)
    (case g_Ruled => k_is)
    (case g_Four => k_is)
    (case g_Eight => k_is)
    (case g_BadTree => k_is)
    (case g_NoValue => k_is)
    (case g_TooLong => k_is)
    (case g_PartError => k_is)
    (case a0 => k_is)
    (case l0 => k_is)
    (case c0 => k_is)
    (case k0 => k_is)
    (case a1 => k_is)
    (case l1 => k_is)
    (case c1 => k_is)
    (case k1 => k_is)
    (case a2 => k_is)
    (case l2 => k_is)
    (case c2 => k_is)
    (case k2 => k_is)
    (case a3 => k_is)
    (case l3 => k_is)
    (case c3 => k_is)
    (case k3 => k_is)
    (case a4 => k_is)
    (case l4 => k_is)
    (case c4 => k_is)
    (case k4 => k_is)
    (case a5 => k_is)
    (case l5 => k_is)
    (case c5 => k_is)
    (case k5 => k_is)
    (case a6 => k_is)
    (case l6 => k_is)
    (case c6 => k_is)
    (case k6 => k_is)
    (case a7 => k_is)
    (case l7 => k_is)
    (case c7 => k_is)
    (case k7 => k_is)
    (case a8 => k_is)
    (case l8 => k_is)
    (case c8 => k_is)
    (case k8 => k_is)
    (case a9 => k_is)
    (case l9 => k_is)
    (case c9 => k_is)
    (case k9 => k_is)
    (case a10 => k_is)
    (case l10 => k_is)
    (case c10 => k_is)
    (case k10 => k_is)
    (case a11 => k_is)
    (case l11 => k_is)
    (case c11 => k_is)
    (case k11 => k_is)
    (case a12 => k_is)
    (case l12 => k_is)
    (case c12 => k_is)
    (case k12 => k_is)
    (case a13 => k_is)
    (case l13 => k_is)
    (case c13 => k_is)
    (case k13 => k_is)
    (case a14 => k_is)
    (case l14 => k_is)
    (case c14 => k_is)
    (case k14 => k_is)
    (case a15 => k_is)
    (case l15 => k_is)
    (case c15 => k_is)
    (case k15 => k_is)
    (case a16 => k_is)
    (case l16 => k_is)
    (case c16 => k_is)
    (case k16 => k_is)
    (case a17 => k_is)
    (case l17 => k_is)
    (case c17 => k_is)
    (case k17 => k_is)
    (case a18 => k_is)
    (case l18 => k_is)
    (case c18 => k_is)
    (case k18 => k_is)
    (case a19 => k_is)
    (case l19 => k_is)
    (case c19 => k_is)
    (case k19 => k_is)
    (case a20 => k_is)
    (case l20 => k_is)
    (case c20 => k_is)
    (case k20 => k_is)
    (case a21 => k_is)
    (case l21 => k_is)
    (case c21 => k_is)
    (case k21 => k_is)
    (case a22 => k_is)
    (case l22 => k_is)
    (case c22 => k_is)
    (case k22 => k_is)
    (case a23 => k_is)
    (case l23 => k_is)
    (case c23 => k_is)
    (case k23 => k_is)
    (case a24 => k_is)
    (case l24 => k_is)
    (case c24 => k_is)
    (case k24 => k_is)
    (case a25 => k_is)
    (case l25 => k_is)
    (case c25 => k_is)
    (case k25 => k_is)
    (case a26 => k_is)
    (case l26 => k_is)
    (case c26 => k_is)
    (case k26 => k_is)
    (case pg_Purse => k_is)
    (case hd_Purse => k_is)
    (case po_Purse => k_is)
    (case sa_Purse => k_is)
    (case mk_Purse => k_is)
    (case kc_Purse => k_is)
    (case pg_Fixed => k_is)
    (case hd_Fixed => k_is)
    (case po_Fixed => k_is)
    (case sa_Fixed => k_is)
    (case mk_Fixed => k_is)
    (case kc_Fixed => k_is)
    (case pg_Fraction => k_is)
    (case hd_Fraction => k_is)
    (case po_Fraction => k_is)
    (case sa_Fraction => k_is)
    (case mk_Fraction => k_is)
    (case kc_Fraction => k_is)
    (case pg_Root => k_is)
    (case hd_Root => k_is)
    (case po_Root => k_is)
    (case sa_Root => k_is)
    (case mk_Root => k_is)
    (case kc_Root => k_is)
    (case pg_Ruled => k_is)
    (case hd_Ruled => k_is)
    (case po_Ruled => k_is)
    (case sa_Ruled => k_is)
    (case mk_Ruled => k_is)
    (case kc_Ruled => k_is)
    (case pg_Four => k_is)
    (case hd_Four => k_is)
    (case po_Four => k_is)
    (case sa_Four => k_is)
    (case mk_Four => k_is)
    (case kc_Four => k_is)
    (case pg_Eight => k_is)
    (case hd_Eight => k_is)
    (case po_Eight => k_is)
    (case sa_Eight => k_is)
    (case mk_Eight => k_is)
    (case kc_Eight => k_is)
    (case a27_Purse => k_is)
    (case i27 => k_is)
    (case l27 => k_is)
    (case c27 => k_is)
    (case k27 => k_is)
    (case a28_Fixed => k_is)
    (case a28_Fraction => k_is)
    (case a28_Root => k_is)
    (case a28_Ruled => k_is)
    (case a28_Four => k_is)
    (case a28_Eight => k_is)
    (case i28 => k_is)
    (case l28 => k_is)
    (case c28 => k_is)
    (case k28 => k_is)
    (case a29_Fixed => k_is)
    (case i29 => k_is)
    (case l29 => k_is)
    (case c29 => k_is)
    (case k29 => k_is)
    (case a30_Fixed => k_is)
    (case i30 => k_is)
    (case l30 => k_is)
    (case c30 => k_is)
    (case k30 => k_is)
    (case a31_Fixed => k_is)
    (case i31 => k_is)
    (case l31 => k_is)
    (case c31 => k_is)
    (case k31 => k_is)
    (case r32 => k_is)
    (case ga32 => k_is)
    (case fc32 => k_is)
    (case i32 => k_is)
    (case l32 => k_is)
    (case c32 => k_is)
    (case k32 => k_is)
    (case a33_Fraction => k_is)
    (case a33_Root => k_is)
    (case a33_Ruled => k_is)
    (case i33 => k_is)
    (case l33 => k_is)
    (case c33 => k_is)
    (case k33 => k_is)
    (case a34_Root => k_is)
    (case i34 => k_is)
    (case l34 => k_is)
    (case c34 => k_is)
    (case k34 => k_is)
    (case a35_Fraction => k_is)
    (case a35_Root => k_is)
    (case a35_Ruled => k_is)
    (case i35 => k_is)
    (case l35 => k_is)
    (case c35 => k_is)
    (case k35 => k_is)
    (case a36_Fraction => k_is)
    (case i36 => k_is)
    (case l36 => k_is)
    (case c36 => k_is)
    (case k36 => k_is)
    (case a37_Fraction => k_is)
    (case i37 => k_is)
    (case l37 => k_is)
    (case c37 => k_is)
    (case k37 => k_is)
    (case a38_Fraction => k_is)
    (case i38 => k_is)
    (case l38 => k_is)
    (case c38 => k_is)
    (case k38 => k_is)
    (case a39_Root => k_is)
    (case i39 => k_is)
    (case l39 => k_is)
    (case c39 => k_is)
    (case k39 => k_is)
    (case a40_Root => k_is)
    (case i40 => k_is)
    (case l40 => k_is)
    (case c40 => k_is)
    (case k40 => k_is)
    (case a41_Ruled => k_is)
    (case i41 => k_is)
    (case l41 => k_is)
    (case c41 => k_is)
    (case k41 => k_is)
    (case a42_Ruled => k_is)
    (case i42 => k_is)
    (case l42 => k_is)
    (case c42 => k_is)
    (case k42 => k_is)
    (case a43_Ruled => k_is)
    (case i43 => k_is)
    (case l43 => k_is)
    (case c43 => k_is)
    (case k43 => k_is)
    (case a44_Four => k_is)
    (case i44 => k_is)
    (case l44 => k_is)
    (case c44 => k_is)
    (case k44 => k_is)
    (case a45_Four => k_is)
    (case i45 => k_is)
    (case l45 => k_is)
    (case c45 => k_is)
    (case k45 => k_is)
    (case a46_Four => k_is)
    (case i46 => k_is)
    (case l46 => k_is)
    (case c46 => k_is)
    (case k46 => k_is)
    (case a47_Four => k_is)
    (case i47 => k_is)
    (case l47 => k_is)
    (case c47 => k_is)
    (case k47 => k_is)
    (case a48_Eight => k_is)
    (case i48 => k_is)
    (case l48 => k_is)
    (case c48 => k_is)
    (case k48 => k_is)
    (case a49_Eight => k_is)
    (case i49 => k_is)
    (case l49 => k_is)
    (case c49 => k_is)
    (case k49 => k_is)
    (case a50_Eight => k_is)
    (case i50 => k_is)
    (case l50 => k_is)
    (case c50 => k_is)
    (case k50 => k_is)
    (case a51_Eight => k_is)
    (case i51 => k_is)
    (case l51 => k_is)
    (case c51 => k_is)
    (case k51 => k_is)
    (case a52_Eight => k_is)
    (case i52 => k_is)
    (case l52 => k_is)
    (case c52 => k_is)
    (case k52 => k_is)
    (case a53_Eight => k_is)
    (case i53 => k_is)
    (case l53 => k_is)
    (case c53 => k_is)
    (case k53 => k_is)
    (case n_Purse_left => k_is)
    (case n_Fixed_top => k_is)
    (case n_Fixed_below => k_is)
    (case n_Fixed_begun => k_is)
    (case n_Fraction_many => k_is)
    (case n_Fraction_top => k_is)
    (case n_Fraction_below => k_is)
    (case n_Root_many => k_is)
    (case n_Root_top => k_is)
    (case n_Root_square => k_is)
    (case n_Root_below => k_is)
    (case n_Root_floor => k_is)
    (case n_Ruled_many => k_is)
    (case n_Ruled_first => k_is)
    (case n_Ruled_ring => k_is)
    (case n_Ruled_steps => k_is)
    (case n_Four_numbers => k_is)
    (case n_Four_inner => k_is)
    (case n_Four_ready => k_is)
    (case n_Four_begun => k_is)
    (case n_Four_fixed => k_is)
    (case n_Eight_numbers => k_is)
    (case n_Eight_inners => k_is)
    (case n_Eight_many => k_is)
    (case n_Eight_begun => k_is)
    (case n_Eight_rest => k_is)
    (case xf_BadTree => k_exc)
    (case kp_BadTree => k_is)
    (case sb_BadTree => k_is)
    (case ty_BadTree => k_is)
    (case xf_NoValue => k_exc)
    (case kp_NoValue => k_is)
    (case sb_NoValue => k_is)
    (case ty_NoValue => k_is)
    (case xf_TooLong => k_exc)
    (case kp_TooLong => k_is)
    (case sb_TooLong => k_is)
    (case ty_TooLong => k_is)
    (case sb_PartError => k_is)
    (case ty_PartError => k_is)
    (case hd_PartError => k_is)
    (case su_BadTree_PartError => k_is)
    (case su_NoValue_PartError => k_is)
    (case su_TooLong_PartError => k_is)
    (case hd_BadTree => k_is)
    (case su_BadTree_BadTree => k_is)
    (case su_NoValue_BadTree => k_is)
    (case su_TooLong_BadTree => k_is)
    (case hd_TooLong => k_is)
    (case su_BadTree_TooLong => k_is)
    (case su_NoValue_TooLong => k_is)
    (case su_TooLong_TooLong => k_is)
    (case hd_NoValue => k_is)
    (case su_BadTree_NoValue => k_is)
    (case su_NoValue_NoValue => k_is)
    (case su_TooLong_NoValue => k_is)
    (case z_ValueError => k_is)
    (case su_BadTree_ValueError => k_is)
    (case su_NoValue_ValueError => k_is)
    (case su_TooLong_ValueError => k_is)
    (case ocg => k_is)
    (case oct => k_is)
    (case xg_BadTree => k_is)
    (case xk_BadTree => k_is)
    (case xa_BadTree => k_is)
    (case xm_BadTree => k_is)
    (case xg_NoValue => k_is)
    (case xk_NoValue => k_is)
    (case xa_NoValue => k_is)
    (case xm_NoValue => k_is)
    (case xg_TooLong => k_is)
    (case xk_TooLong => k_is)
    (case xa_TooLong => k_is)
    (case xm_TooLong => k_is)
    (case g_DEEPEST => k_is)
    (case g_MOST_NUMBER => k_is)
    (case g_MOST_PARTS => k_is)
    (case g_MOST_POWER => k_is)
    (case g_TIMES => k_is)
    (case l_TIMES => k_is)
    (case z_divmod => k_is)
    (case z_abs => k_is)
    (case z_bool => k_is)
    (case z_int => k_is)
    (case z_isinstance => k_is)
    (case z_len => k_is)
    (case z_list => k_is)
    (case z_max => k_is)
    (case z_min => k_is)
    (case z_range => k_is)
    (case z_reversed => k_is)
    (case z_str => k_is)
    (case z_sum => k_is)
    (case z_tuple => k_is)
    (case z_zip => k_is)
