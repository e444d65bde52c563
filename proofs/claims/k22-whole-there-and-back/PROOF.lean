import PyProof.Rows.All
import Wide.All
import OpenK.AllK
import Wide.FinOn
import KE.KStateDown
import KE.OsRunLaw
import HandS.Head0
import HandS.Head1
import HandS.Head2
import HandS.ForExc
import HandS.Comp
import HandS.Iter
import HandS.Dict
import HandS.Wide
import HandS.WideBits
import HandS.IsInst
import HandS.TupAny
import HandS.Flow
import HandS.Zip
import HandS.Evl
import HandS.NoneIn
import PyProof.Rows.SeqMore
import HandS.ClsMeth
import HandS.ExcOwn
import HandS.ExcBuiltin
import HandS.TryOnly
import HandS.ExcIs
import HandS.Walk
import KE.GoesZip
import KE.GoesMore
import HandS.Deep
import HandS.Rev
import PyProof.ListNew
import PySem.Challenge.RW_chainparts_k22_whole_there_and_back
set_option Elab.async false
set_option linter.all false
set_option maxRecDepth 100000
set_option maxHeartbeats 4000000
namespace PLH
open PySem PySem.W PySem.Calls PyProof.Rows
def nm0 : List PySem.Str := ["PartError", "BadTree", "NoValue", "root_below", "Purse", "Reader", "Fixed", "Leaf", "Fraction", "Root", "Ruled", "root_of", "below_all", "Four", "Eight", "DEEPEST", "MOST_NUMBER", "MOST_PARTS", "MOST_POWER", "must", "need_numbers", "need_ruled", "need_eight", "need_tree", "TIMES", "opened", "reader", "_law_row", "_law_taken", "_law_whole"]
def nm1 : List PySem.Str := ["_law_signed", "_law_root", "_law_common", "_law_lowest", "_law_folded", "_law_made", "_law_sum", "_law_product", "_law_quotient", "_law_below", "_law_parts", "_law_mix", "_law_boxed", "_law_square", "_law_leaf", "_law_read", "_law_four"]
def names : List PySem.Str := nm0 ++ nm1
theorem ob_eq (as : List Addr) (s : SharedT) : as.map (HandSHeadRun.getT s) = as.map s.abs.heap.get? := by rw [funext (HandSHeadRun.getT_eq s)]
local macro_rules | `(tactic| k_head) => `(tactic| k_headL)
local macro_rules | `(tactic| o_headL (kHook $k $a $p)) => `(tactic| refine HandSHeadRun.head_any (r := PySem.W.OpenLaw.row PySem.Challenge.rw_chainparts_k22_whole_there_and_back) (q := view (PySem.W.OpenLaw.row PySem.Challenge.rw_chainparts_k22_whole_there_and_back).prog [54]) (H := kHook $k $a $p) (ob := fun s => List.map (HandSHeadRun.getT s) $a) (M := 7000) (loose := names) (d := HandSHeadRun.topDef (PySem.W.OpenLaw.row PySem.Challenge.rw_chainparts_k22_whole_there_and_back).prog 54) (kwd := []) (fun s => ob_eq $a s) (by kernel_rfl) (fun s => by kernel_rfl) (fun w os => by kernel_rfl) (by kernel_rfl) (by kernel_rfl) (by kernel_rfl) (by rfl) (by first | assumption | decide +kernel) (by decide +kernel) ⟨rfl, rfl, rfl, rfl, rfl, by decide +kernel⟩ ?hw ?hc)
set_option maxRecDepth 100000 in
set_option maxHeartbeats 0 in
open_top hdTop for PySem.Challenge.rw_chainparts_k22_whole_there_and_back
end PLH
namespace PL
open PySem L2
/-- data; o a: an object of the abstract store -/
inductive D where
  | non | bl (b : Bool) | int (i : Int) | str (s : Str) | tup (xs : List D) | lst (xs : List D) | o (a : Addr)
mutual
inductive DV (K : PySem.W.Frag) (G : Hp) : V → D → Prop
  | non : DV K G .non .non
  | bl (b : Bool) : DV K G (.bl b) (.bl b)
  | int (i : Int) : DV K G (.int i) (.int i)
  | str (x : Str) : DV K G (.str x) (.str x)
  | o (a : Addr) : DV K G (.ref a) (.o a)
  | lst {a : Addr} {xs : List V} {ds : List D} : SqL K G a xs → DVs K G xs ds → DV K G (.ref a) (.lst ds)
  | tup {a : Addr} {xs : List V} {ds : List D} : SqT K G a xs → DVs K G xs ds → DV K G (.ref a) (.tup ds)
inductive DVs (K : PySem.W.Frag) (G : Hp) : List V → List D → Prop
  | nil : DVs K G [] []
  | cons {v : V} {vs : List V} {d : D} {ds : List D} : DV K G v d → DVs K G vs ds → DVs K G (v :: vs) (d :: ds)
end
theorem same_rd {H H' : Hp} (e : Same H H') {a : Addr} {u : HO} (h : Rd H a u) : Rd H' a u := by
  rcases h with h | ⟨o, h⟩
  · exact .inl (e _ _ h)
  · exact .inr ⟨o, e _ _ h⟩
theorem same_seqT {K : PySem.W.Frag} {H H' : Hp} {a : Addr} {xs : List V} (e : Same H H') (h : SqT K H a xs) : SqT K H' a xs := by
  rcases h with h | h
  · exact .inl (same_rd e h)
  · exact .inr h
mutual
theorem DV.mono {K : PySem.W.Frag} {G G' : Hp} (e : Same G G') : ∀ {v : V} {d : D}, DV K G v d → DV K G' v d
  | _, _, .non => .non
  | _, _, .bl b => .bl b
  | _, _, .int i => .int i
  | _, _, .str x => .str x
  | _, _, .o a => .o a
  | _, _, .lst h r => .lst (e.seq h) (DVs.mono e r)
  | _, _, .tup h r => .tup (same_seqT e h) (DVs.mono e r)
theorem DVs.mono {K : PySem.W.Frag} {G G' : Hp} (e : Same G G') : ∀ {v : List V} {d : List D}, DVs K G v d → DVs K G' v d
  | _, _, .nil => .nil
  | _, _, .cons h r => .cons (DV.mono e h) (DVs.mono e r)
end
section
variable {K : PySem.W.Frag} {G : Hp}
theorem DVs.length : ∀ {vs : List V} {ds : List D}, DVs K G vs ds → vs.length = ds.length
  | _, _, .nil => rfl
  | _, _, .cons _ r => by rw [List.length_cons, List.length_cons, DVs.length r]
theorem DVs.get : ∀ {vs : List V} {ds : List D} {i : Nat} {d : D}, DVs K G vs ds → ds[i]? = some d → ∃ v, vs[i]? = some v ∧ DV K G v d
  | _, _, _, _, .nil, e => by simp at e
  | _, _, 0, _, .cons h _, e => by simp at e; subst e; exact ⟨_, rfl, h⟩
  | _, _, i + 1, d, .cons _ r, e => by
    obtain ⟨v, h1, h2⟩ := DVs.get (i := i) (d := d) r (by simpa using e)
    exact ⟨v, by simpa using h1, h2⟩
theorem DVs.getV : ∀ {vs : List V} {ds : List D} {i : Nat} {v : V}, DVs K G vs ds → vs[i]? = some v → ∃ d, ds[i]? = some d ∧ DV K G v d
  | _, _, _, _, .nil, e => by simp at e
  | _, _, 0, _, .cons h _, e => by simp at e; subst e; exact ⟨_, rfl, h⟩
  | _, _, i + 1, v, .cons _ r, e => by
    obtain ⟨d, h1, h2⟩ := DVs.getV (i := i) (v := v) r (by simpa using e)
    exact ⟨d, by simpa using h1, h2⟩
theorem DVs.set {v : V} {d : D} (h : DV K G v d) : ∀ {vs : List V} {ds : List D} (i : Nat), DVs K G vs ds → DVs K G (vs.set i v) (ds.set i d)
  | _, _, _, .nil => .nil
  | _, _, 0, .cons _ r => .cons h r
  | _, _, i + 1, .cons q r => .cons q (DVs.set h i r)
theorem DVs.append : ∀ {xs ys : List V} {us ws : List D}, DVs K G xs us → DVs K G ys ws → DVs K G (xs ++ ys) (us ++ ws)
  | _, _, _, _, .nil, s => s
  | _, _, _, _, .cons r t, s => .cons r (DVs.append t s)
theorem DVs.take : ∀ {xs : List V} {us : List D} (n : Nat), DVs K G xs us → DVs K G (xs.take n) (us.take n)
  | _, _, 0, _ => .nil
  | _, _, _ + 1, .nil => .nil
  | _, _, n + 1, .cons r t => .cons r (DVs.take n t)
theorem DVs.drop : ∀ {xs : List V} {us : List D} (n : Nat), DVs K G xs us → DVs K G (xs.drop n) (us.drop n)
  | _, _, 0, r => r
  | _, _, _ + 1, .nil => .nil
  | _, _, n + 1, .cons _ t => DVs.drop n t
theorem DVs.ints {vs : List V} : ∀ {ns : List Int}, DVs K G vs (ns.map D.int) → vs = ns.map V.int := by
  induction vs with
  | nil => intro ns h; cases ns with
    | nil => rfl
    | cons n r => cases h
  | cons v vs ih => intro ns h; cases ns with
    | nil => cases h
    | cons n r =>
      cases h with
      | cons h1 h2 =>
        cases h1
        rw [ih h2, List.map_cons]
theorem DVs.of_ints : ∀ ns : List Int, DVs K G (ns.map V.int) (ns.map D.int)
  | [] => .nil
  | n :: r => .cons (.int n) (DVs.of_ints r)
end
/-- (left: nothing depends on it) -/
structure CA where
  none : Unit := ()
def iv (xs : List Int) : List V := xs.map V.int
/-- an object that never changes -/
def Imm : HO → Prop
  | .tup _ => True
  | .frz _ _ => True
  | _ => False
inductive AO where
  | row
  | lst (xs : List D)
  | dic (kvs : List (Key × D))
  | obj (c : Addr) (fs : List (Str × D))
abbrev Om := Addr → Option AO
abbrev En := List (Option D)
def oset (Ω : Om) (a : Addr) (o : AO) : Om := fun b => if b = a then some o else Ω b
def odel (Ω : Om) (a : Addr) : Om := fun b => if b = a then none else Ω b
theorem oset_same {Ω : Om} {a : Addr} {o : AO} : oset Ω a o a = some o := if_pos rfl
theorem oset_ne {Ω : Om} {a b : Addr} {o : AO} (h : b ≠ a) : oset Ω a o b = Ω b := if_neg h
theorem odel_ne {Ω : Om} {a b : Addr} (h : b ≠ a) : odel Ω a b = Ω b := if_neg h
theorem oset_oset {Ω : Om} {a : Addr} {o u : AO} : oset (oset Ω a o) a u = oset Ω a u := by
  funext b; unfold oset
  by_cases h : b = a
  · rw [if_pos h, if_pos h]
  · rw [if_neg h, if_neg h, if_neg h]
theorem odel_oset {Ω : Om} {a : Addr} {o : AO} : odel (oset Ω a o) a = odel Ω a := by
  funext b
  show (if b = a then none else (if b = a then some o else Ω b)) = (if b = a then none else Ω b)
  by_cases h : b = a
  · rw [if_pos h, if_pos h]
  · rw [if_neg h, if_neg h, if_neg h]
theorem odel_none {Ω : Om} {a : Addr} (h : Ω a = none) : odel Ω a = Ω := by
  funext b; unfold odel
  by_cases e : b = a
  · rw [if_pos e, e, h]
  · rw [if_neg e]
def KVs (K : PySem.W.Frag) (G : Hp) : List (Key × V) → List (Key × D) → Prop := Paired fun (p : Key × V) (q : Key × D) => p.1 = q.1 ∧ DV K G p.2 q.2
def FVs (K : PySem.W.Frag) (G : Hp) : List (Str × V) → List (Str × D) → Prop := Paired fun (p : Str × V) (q : Str × D) => p.1 = q.1 ∧ DV K G p.2 q.2
def AAt (K : PySem.W.Frag) (ca : CA) (G : Hp) (own : Addr → Option Addr) (H : Hp) (a : Addr) : AO → Prop
  | .row => own a = some a ∧ ∃ (p : Addr) (ns : List Int) (i c m : Int), H a = some (.lst [.ref p, .int i, .int c, .int m]) ∧ SqL K G p (iv ns) ∧ 0 ≤ i ∧ i ≤ ns.length ∧ 0 ≤ c
  | .lst xs => own a = some a ∧ ∃ vs, H a = some (.lst vs) ∧ DVs K G vs xs
  | .dic kvs => own a = some a ∧ ∃ kvs', H a = some (.dK kvs') ∧ KVs K G kvs' kvs
  | .obj c fs => own a = some a ∧ Cls K c ∧ (fs.map (·.1)).Nodup ∧ (∀ x ∈ fs, NoAttr K c x.1) ∧ ∃ dx fs', H a = some (.ins c dx fs') ∧ FVs K G fs' fs
structure Rel (K : PySem.W.Frag) (ca : CA) (G : Hp) (own : Addr → Option Addr) (H : Hp) (Ω : Om) : Prop where
  sub : Same G H
  imm : ∀ b o, G b = some o → own b = none
  objs : ∀ a o, Ω a = some o → AAt K ca G own H a o
section
variable {K : PySem.W.Frag} {ca : CA} {G G' H H' : Hp} {own own' : Addr → Option Addr} {Ω : Om} {a p : Addr} {o : AO}
theorem KVs.mono {l : List (Key × V)} {m : List (Key × D)} (e : Same G G') (h : KVs K G l m) : KVs K G' l m := Paired.mapP h fun _ _ x => ⟨x.1, x.2.mono e⟩
theorem FVs.mono {l : List (Str × V)} {m : List (Str × D)} (e : Same G G') (h : FVs K G l m) : FVs K G' l m := Paired.mapP h fun _ _ x => ⟨x.1, x.2.mono e⟩
theorem AAt.keep (x : AAt K ca G own H a o) (e : Same G G') (h : ∀ b u, H b = some u → own b = some a → H' b = some u ∧ own' b = some a) (t : ∀ b u, H b = some u → Imm u → H' b = some u) : AAt K ca G' own' H' a o := by
  cases o with
  | row =>
    obtain ⟨w, p, ns, i, c, m, hp, hs, r⟩ := x
    exact ⟨(h _ _ hp w).2, p, ns, i, c, m, (h _ _ hp w).1, e.seq hs, r⟩
  | lst xs =>
    obtain ⟨w, vs, hp, r⟩ := x
    exact ⟨(h _ _ hp w).2, vs, (h _ _ hp w).1, r.mono e⟩
  | dic kvs =>
    obtain ⟨w, vs, hp, r⟩ := x
    exact ⟨(h _ _ hp w).2, vs, (h _ _ hp w).1, r.mono e⟩
  | obj c fs =>
    obtain ⟨w, cl, nd, na, dx, vs, hp, r⟩ := x
    exact ⟨(h _ _ hp w).2, cl, nd, na, dx, vs, (h _ _ hp w).1, r.mono e⟩
/-- an object of the store is there, and may change -/
theorem AAt.there (x : AAt K ca G own H a o) : own a = some a ∧ ∃ u, H a = some u ∧ ¬ Imm u := by
  cases o with
  | row => obtain ⟨w, p, ns, i, c, m, hp, _⟩ := x; exact ⟨w, _, hp, fun z => z⟩
  | lst xs => obtain ⟨w, vs, hp, _⟩ := x; exact ⟨w, _, hp, fun z => z⟩
  | dic xs => obtain ⟨w, vs, hp, _⟩ := x; exact ⟨w, _, hp, fun z => z⟩
  | obj c fs => obtain ⟨w, _, _, _, dx, vs, hp, _⟩ := x; exact ⟨w, _, hp, fun z => z⟩
def uown (own : Addr → Option Addr) (p : Addr) (x : Option Addr) : Addr → Option Addr := fun b => if b = p then x else own b
/-- a new object that never changes again -/
theorem Rel.data {u : HO} (r : Rel K ca G own H Ω) (h : H p = none) : Rel K ca (upd G p u) (uown own p none) (upd H p u) Ω ∧ Same G (upd G p u) := by
  have hg : G p = none := r.sub.free h
  have hs : Same G (upd G p u) := fun b v e => by rw [upd_ne (ne_of_none e hg)]; exact e
  refine ⟨⟨fun b v e => ?_, fun b v e => ?_, fun b v e => ?_⟩, hs⟩
  · by_cases hb : b = p
    · subst hb; rw [upd_same] at e ⊢; exact e
    · rw [upd_ne hb] at e ⊢; exact r.sub _ _ e
  · unfold uown
    by_cases hb : b = p
    · rw [if_pos hb]
    · rw [upd_ne hb] at e; rw [if_neg hb]; exact r.imm _ _ e
  · refine (r.objs b v e).keep hs (fun c w hc ho => ?_) fun c w hc _ => by rw [upd_ne (ne_of_none hc h)]; exact hc
    refine ⟨by rw [upd_ne (ne_of_none hc h)]; exact hc, ?_⟩
    unfold uown
    rw [if_neg (ne_of_none hc h)]
    exact ho
/-- a new list that may change -/
theorem Rel.newLst {vs : List V} {xs : List D} (r : Rel K ca G own H Ω) (h : H p = none) (d : DVs K G vs xs) : Rel K ca G (uown own p (some p)) (upd H p (.lst vs)) (oset Ω p (.lst xs)) := by
  have hg : G p = none := r.sub.free h
  refine ⟨fun b v e => ?_, fun b v e => ?_, fun b v e => ?_⟩
  · rw [upd_ne (ne_of_none e hg)]; exact r.sub _ _ e
  · unfold uown; rw [if_neg (ne_of_none e hg)]; exact r.imm _ _ e
  · by_cases hb : b = p
    · subst hb
      rw [oset_same] at e
      cases e
      exact ⟨if_pos rfl, vs, upd_same, d⟩
    · rw [oset_ne hb] at e
      refine (r.objs b v e).keep (Same.refl G) (fun c w hc ho => ⟨by rw [upd_ne (ne_of_none hc h)]; exact hc, ?_⟩) fun c w hc _ => by rw [upd_ne (ne_of_none hc h)]; exact hc
      unfold uown
      rw [if_neg (ne_of_none hc h)]
      exact ho
/-- no object but a's own is changed -/
theorem Rel.turn {o' : AO} (r : Rel K ca G own H Ω) (h : ∀ b u, H b = some u → own b ≠ some a → H' b = some u) (t : ∀ b u, H b = some u → Imm u → H' b = some u) (x : AAt K ca G own H' a o') : Rel K ca G own H' (oset Ω a o') := by
  refine ⟨fun b v e => h b v (r.sub _ _ e) (by rw [r.imm _ _ e]; exact fun z => by cases z), r.imm, fun b v e => ?_⟩
  by_cases hb : b = a
  · subst hb; rw [oset_same] at e; cases e; exact x
  · rw [oset_ne hb] at e
    exact (r.objs b v e).keep (Same.refl G) (fun c w hc ho => ⟨h c w hc (by rw [ho]; exact fun z => hb (Option.some.inj z)), ho⟩) t
theorem Rel.setLst {vs : List V} {xs ys : List D} (r : Rel K ca G own H Ω) (e : Ω a = some (.lst xs)) (d : DVs K G vs ys) : Rel K ca G own (upd H a (.lst vs)) (oset Ω a (.lst ys)) := by
  obtain ⟨w, u, hu, nu⟩ := (r.objs a _ e).there
  refine r.turn (fun b v hb ho => ?_) (fun b v hb hi => ?_) ⟨w, vs, upd_same, d⟩
  · rw [upd_ne (fun z => ho (by rw [z]; exact w))]; exact hb
  · rw [upd_ne (fun z => by rw [z, hu] at hb; cases hb; exact nu hi)]; exact hb
/-- a list is frozen into data -/
theorem Rel.freeze {xs : List D} (r : Rel K ca G own H Ω) (e : Ω a = some (.lst xs)) : ∃ G' own', Same G G' ∧ (∀ b, own b = none → G b = none → own' b = none ∧ G' b = none) ∧ Rel K ca G' own' H (odel Ω a) ∧ DV K G' (.ref a) (.lst xs) := by
  obtain ⟨w, vs, hp, d⟩ := r.objs a _ e
  have hg : G a = none := by
    cases q : G a with
    | none => rfl
    | some u => rw [r.imm _ _ q] at w; cases w
  have hs : Same G (upd G a (.lst vs)) := fun b v q => by rw [upd_ne (ne_of_none q hg)]; exact q
  refine ⟨upd G a (.lst vs), uown own a none, hs, fun b n g => ⟨by unfold uown; split; rfl; exact n, by rw [upd_ne (fun z => by rw [z, w] at n; cases n)]; exact g⟩, ⟨fun b v q => ?_, fun b v q => ?_, fun b v q => ?_⟩, .lst (SqL.of upd_same) (d.mono hs)⟩
  · by_cases hb : b = a
    · subst hb; rw [upd_same] at q; cases q; exact hp
    · rw [upd_ne hb] at q; exact r.sub _ _ q
  · unfold uown
    by_cases hb : b = a
    · rw [if_pos hb]
    · rw [upd_ne hb] at q; rw [if_neg hb]; exact r.imm _ _ q
  · have hb : b ≠ a := fun z => by rw [z] at q; unfold odel at q; rw [if_pos rfl] at q; cases q
    rw [odel_ne hb] at q
    refine (r.objs b v q).keep hs (fun c x hc ho => ⟨hc, ?_⟩) fun c x hc _ => hc
    unfold uown
    rw [if_neg (fun z => by rw [z, w] at ho; exact hb (Option.some.inj ho).symm)]
    exact ho
theorem Rel.fresh (r : Rel K ca G own H Ω) (h : H p = none) : Ω p = none := by
  cases q : Ω p with
  | none => rfl
  | some o =>
    obtain ⟨_, u, hu, _⟩ := (r.objs p o q).there
    rw [h] at hu; cases hu
end
/-- a step: data stays; what is nobody's stays nobody's, as it is -/
structure Stp (G : Hp) (own : Addr → Option Addr) (H : Hp) (G' : Hp) (own' : Addr → Option Addr) (H' : Hp) : Prop where
  same : Same G G'
  fr : ∀ b u, H b = some u → own b = none → G b = none → H' b = some u ∧ own' b = none ∧ G' b = none
theorem Stp.refl {G H : Hp} {own : Addr → Option Addr} : Stp G own H G own H := ⟨Same.refl _, fun _ _ h n g => ⟨h, n, g⟩⟩
theorem Stp.trans {G G1 G2 H H1 H2 : Hp} {own own1 own2 : Addr → Option Addr} (a : Stp G own H G1 own1 H1) (b : Stp G1 own1 H1 G2 own2 H2) : Stp G own H G2 own2 H2 :=
  ⟨a.same.trans b.same, fun c u h n g => b.fr c u (a.fr c u h n g).1 (a.fr c u h n g).2.1 (a.fr c u h n g).2.2⟩
theorem stp_new {G H : Hp} {own : Addr → Option Addr} {p : Addr} {u : HO} {x : Option Addr} (h : H p = none) : Stp G own H G (uown own p x) (upd H p u) :=
  ⟨Same.refl _, fun b v hb n g => ⟨by rw [upd_ne (ne_of_none hb h)]; exact hb, by unfold uown; rw [if_neg (ne_of_none hb h)]; exact n, g⟩⟩
theorem stp_data {G H : Hp} {own : Addr → Option Addr} {p : Addr} {u w : HO} (e : Same G (upd G p w)) (h : H p = none) : Stp G own H (upd G p w) (uown own p none) (upd H p u) :=
  ⟨e, fun b v hb n g => ⟨by rw [upd_ne (ne_of_none hb h)]; exact hb, by unfold uown; rw [if_neg (ne_of_none hb h)]; exact n, by rw [upd_ne (ne_of_none hb h)]; exact g⟩⟩
theorem stp_own {G H : Hp} {own : Addr → Option Addr} {p a : Addr} {u : HO} (w : own p = some a) : Stp G own H G own (upd H p u) :=
  ⟨Same.refl _, fun b v hb n g => ⟨by rw [upd_ne (fun z => by rw [z, w] at n; cases n)]; exact hb, n, g⟩⟩
/-- a private object is laid; it changes -/
theorem Rel.priv {K : PySem.W.Frag} {ca : CA} {G H : Hp} {own : Addr → Option Addr} {Ω : Om} {p : Addr} {u : HO} (r : Rel K ca G own H Ω) (h : H p = none) : Rel K ca G (uown own p none) (upd H p u) Ω := by
  have hg : G p = none := r.sub.free h
  refine ⟨fun b v e => ?_, fun b v e => ?_, fun b v e => ?_⟩
  · rw [upd_ne (ne_of_none e hg)]; exact r.sub _ _ e
  · unfold uown; rw [if_neg (ne_of_none e hg)]; exact r.imm _ _ e
  · refine (r.objs b v e).keep (Same.refl G) (fun c w hc ho => ?_) fun c w hc _ => by rw [upd_ne (ne_of_none hc h)]; exact hc
    refine ⟨by rw [upd_ne (ne_of_none hc h)]; exact hc, ?_⟩
    unfold uown
    rw [if_neg (ne_of_none hc h)]
    exact ho
theorem Rel.privSet {K : PySem.W.Frag} {ca : CA} {G H : Hp} {own : Addr → Option Addr} {Ω : Om} {p : Addr} {u v : HO} (r : Rel K ca G own H Ω) (h : H p = some v) (hi : ¬ Imm v) (hg : G p = none) (ho : own p = none) : Rel K ca G own (upd H p u) Ω := by
  refine ⟨fun b w e => ?_, r.imm, fun b w e => ?_⟩
  · rw [upd_ne (ne_of_none e hg)]; exact r.sub _ _ e
  · refine (r.objs b w e).keep (Same.refl G) (fun c x hc hw => ⟨?_, hw⟩) fun c x hc hx => ?_
    · rw [upd_ne (fun z => by rw [z, ho] at hw; cases hw)]; exact hc
    · rw [upd_ne (fun z => by rw [z, h] at hc; cases hc; exact hi hx)]; exact hc
/-- a private object becomes data -/
theorem Rel.privData {K : PySem.W.Frag} {ca : CA} {G H : Hp} {own : Addr → Option Addr} {Ω : Om} {p : Addr} {v : HO} (r : Rel K ca G own H Ω) (h : H p = some v) (hg : G p = none) (ho : own p = none) : Rel K ca (upd G p v) own H Ω ∧ Same G (upd G p v) := by
  have hs : Same G (upd G p v) := fun b w e => by rw [upd_ne (ne_of_none e hg)]; exact e
  refine ⟨⟨fun b w e => ?_, fun b w e => ?_, fun b w e => (r.objs b w e).keep hs (fun c x hc hw => ⟨hc, hw⟩) fun c x hc _ => hc⟩, hs⟩
  · by_cases hb : b = p
    · subst hb; rw [upd_same] at e; cases e; exact h
    · rw [upd_ne hb] at e; exact r.sub _ _ e
  · by_cases hb : b = p
    · subst hb; exact ho
    · rw [upd_ne hb] at e; exact r.imm _ _ e
/-- the slots -/
structure SR (K : PySem.W.Frag) (G : Hp) (σ : St) (ρ : En) : Prop where
  len : σ.length = ρ.length
  get : ∀ (i : Nat) d, ρ[i]? = some (some d) → ∃ v, σ[i]? = some (some v) ∧ DV K G v d
section
variable {K : PySem.W.Frag} {G G' : Hp} {σ : St} {ρ : En}
theorem SR.mono (e : Same G G') (s : SR K G σ ρ) : SR K G' σ ρ := ⟨s.len, fun i d h => let ⟨v, a, b⟩ := s.get i d h; ⟨v, a, b.mono e⟩⟩
theorem SR.set {v : V} {d : D} (s : SR K G σ ρ) (i : Nat) (h : DV K G v d) : SR K G (σ.set i (some v)) (ρ.set i (some d)) := by
  refine ⟨by rw [List.length_set, List.length_set, s.len], fun j e hj => ?_⟩
  by_cases hi : j = i
  · subst hi
    have hl : j < ρ.length := by
      have := (List.getElem?_eq_some_iff.mp hj).1
      rwa [List.length_set] at this
    rw [List.getElem?_set_self hl] at hj
    cases hj
    exact ⟨v, List.getElem?_set_self (by rw [s.len]; exact hl), h⟩
  · rw [List.getElem?_set_ne (Ne.symm hi)] at hj ⊢
    exact s.get j e hj
theorem SR.drop (s : SR K G σ ρ) (i : Nat) (x : Option V) : SR K G (σ.set i x) (ρ.set i none) := by
  refine ⟨by rw [List.length_set, List.length_set, s.len], fun j e hj => ?_⟩
  by_cases hi : j = i
  · subst hi
    have hl : j < ρ.length := by
      have := (List.getElem?_eq_some_iff.mp hj).1
      rwa [List.length_set] at this
    rw [List.getElem?_set_self hl] at hj
    cases hj
  · rw [List.getElem?_set_ne (Ne.symm hi)] at hj ⊢
    exact s.get j e hj
end
end PL
namespace PL
open PySem L2
abbrev AW := Value → En → Om → Prop
abbrev AQ := D → Om → Prop
abbrev ATE := AW → En → Om → AQ → Prop
abbrev ATT := AW → En → Om → (Bool → Om → Prop) → Prop
abbrev ATA := AW → En → Om → (List D → Om → Prop) → Prop
structure AEnds where
  nx : En → Om → Prop
  rt : D → Om → Prop
  bk : En → Om → Prop := fun _ _ => False
  ct : En → Om → Prop := fun _ _ => False
abbrev ATS := AW → AEnds → En → Om → Prop
section
variable (K : PySem.W.Frag) (ca : CA) (W : WX)
def KX (G : Hp) (own : Addr → Option Addr) (H : Hp) (σ : St) (ρ : En) (Wa : AW) : Prop := ∀ cls H' G' own' Ω', Stp G own H G' own' H' → Rel K ca G' own' H' Ω' → Wa cls ρ Ω' → W cls none σ H'
def SimE (te : TE) (ta : ATE) : Prop := ∀ (σ : St) (H : Hp) (G : Hp) (own : Addr → Option Addr) (ρ : En) (Ω : Om) (Wa : AW) (Qa : AQ) (Qc : VK), Rel K ca G own H Ω → SR K G σ ρ → ta Wa ρ Ω Qa →
  (∀ v H' G' own' d Ω', Stp G own H G' own' H' → Rel K ca G' own' H' Ω' → DV K G' v d → Qa d Ω' → Qc v H') → KX K ca W G own H σ ρ Wa → te σ H Qc
def SimT (te : TT) (ta : ATT) : Prop := ∀ (σ : St) (H : Hp) (G : Hp) (own : Addr → Option Addr) (ρ : En) (Ω : Om) (Wa : AW) (Qa : Bool → Om → Prop) (Qc : Bool → Hp → Prop), Rel K ca G own H Ω → SR K G σ ρ → ta Wa ρ Ω Qa →
  (∀ b H' G' own' Ω', Stp G own H G' own' H' → Rel K ca G' own' H' Ω' → Qa b Ω' → Qc b H') → KX K ca W G own H σ ρ Wa → te σ H Qc
def SimA (te : TA) (ta : ATA) : Prop := ∀ (σ : St) (H : Hp) (G : Hp) (own : Addr → Option Addr) (ρ : En) (Ω : Om) (Wa : AW) (Qa : List D → Om → Prop) (Qc : List V → Hp → Prop), Rel K ca G own H Ω → SR K G σ ρ → ta Wa ρ Ω Qa →
  (∀ v H' G' own' d Ω', Stp G own H G' own' H' → Rel K ca G' own' H' Ω' → DVs K G' v d → Qa d Ω' → Qc v H') → KX K ca W G own H σ ρ Wa → te σ H Qc
/-- the ends of a statement -/
structure KE (G : Hp) (own : Addr → Option Addr) (H : Hp) (Da : AEnds) (Dc : Ends) (Wa : AW) : Prop where
  nx : ∀ σ' H' G' own' ρ' Ω', Stp G own H G' own' H' → Rel K ca G' own' H' Ω' → SR K G' σ' ρ' → Da.nx ρ' Ω' → Dc.nx σ' H'
  rt : ∀ v H' G' own' d Ω', Stp G own H G' own' H' → Rel K ca G' own' H' Ω' → DV K G' v d → Da.rt d Ω' → Dc.rt v H'
  bk : ∀ σ' H' G' own' ρ' Ω', Stp G own H G' own' H' → Rel K ca G' own' H' Ω' → SR K G' σ' ρ' → Da.bk ρ' Ω' → Dc.bk σ' H'
  ct : ∀ σ' H' G' own' ρ' Ω', Stp G own H G' own' H' → Rel K ca G' own' H' Ω' → SR K G' σ' ρ' → Da.ct ρ' Ω' → Dc.ct σ' H'
  ex : ∀ cls σ' H' G' own' ρ' Ω', Stp G own H G' own' H' → Rel K ca G' own' H' Ω' → SR K G' σ' ρ' → Wa cls ρ' Ω' → W cls none σ' H'
def SimS (ts : TS) (ta : ATS) : Prop := ∀ (σ : St) (H : Hp) (G : Hp) (own : Addr → Option Addr) (ρ : En) (Ω : Om) (Wa : AW) (Da : AEnds) (Dc : Ends), Rel K ca G own H Ω → SR K G σ ρ → ta Wa Da ρ Ω → KE K ca W G own H Da Dc Wa → ts Dc σ H
end
structure AE (X : Cx) (ca : CA) (W : WX) (e : Expr) (te : TE) (ta : ATE) : Prop where
  pe : PE X e te
  sim : SimE X.K ca W te ta
structure AT (X : Cx) (ca : CA) (W : WX) (e : Expr) (te : TT) (ta : ATT) : Prop where
  pe : PT X e te
  sim : SimT X.K ca W te ta
structure AWt (X : Cx) (ca : CA) (W : WX) (e : Expr) (te : TT) (ta : ATT) : Prop where
  pe : PW X e te
  sim : SimT X.K ca W te ta
structure AA (X : Cx) (ca : CA) (W : WX) (e : List Expr) (te : TA) (ta : ATA) : Prop where
  pe : PA X e te
  sim : SimA X.K ca W te ta
structure AS (X : Cx) (ca : CA) (W : WX) (s : Stmt) (ts : TS) (ta : ATS) : Prop where
  pe : PS X s ts
  sim : SimS X.K ca W ts ta
structure ASs (X : Cx) (ca : CA) (W : WX) (s : List Stmt) (ts : TS) (ta : ATS) : Prop where
  pe : PSs X s ts
  sim : SimS X.K ca W ts ta
theorem KX.mono {K : PySem.W.Frag} {ca : CA} {W : WX} {G G' H H' : Hp} {own own' : Addr → Option Addr} {σ : St} {ρ : En} {Wa : AW} (k : KX K ca W G own H σ ρ Wa) (e : Stp G own H G' own' H') : KX K ca W G' own' H' σ ρ Wa := fun cls H' G2 own' Ω' e2 r w => k cls H' G2 own' Ω' (e.trans e2) r w
theorem KE.mono {K : PySem.W.Frag} {ca : CA} {W : WX} {G G' H H' : Hp} {own own' : Addr → Option Addr} {Da : AEnds} {Dc : Ends} {Wa : AW} (k : KE K ca W G own H Da Dc Wa) (e : Stp G own H G' own' H') : KE K ca W G' own' H' Da Dc Wa :=
  ⟨fun _ _ _ _ _ _ e2 => k.nx _ _ _ _ _ _ (e.trans e2), fun _ _ _ _ _ _ e2 => k.rt _ _ _ _ _ _ (e.trans e2), fun _ _ _ _ _ _ e2 => k.bk _ _ _ _ _ _ (e.trans e2), fun _ _ _ _ _ _ e2 => k.ct _ _ _ _ _ _ (e.trans e2), fun _ _ _ _ _ _ _ e2 => k.ex _ _ _ _ _ _ _ (e.trans e2)⟩
theorem KE.kx {K : PySem.W.Frag} {ca : CA} {W : WX} {G H : Hp} {own : Addr → Option Addr} {Da : AEnds} {Dc : Ends} {Wa : AW} (k : KE K ca W G own H Da Dc Wa) {σ : St} {ρ : En} (s : SR K G σ ρ) : KX K ca W G own H σ ρ Wa :=
  fun cls H' G' own' Ω' e r w => k.ex _ _ _ _ _ _ _ e r (s.mono e.same) w
section
variable {X : Cx} {ca : CA} {W : WX} {a b e : Expr} {ta tb te : TE} {ra rb re : ATE} {pos : Pos}
def aVar (i : Nat) : ATE := fun _ ρ Ω Q => ∃ d, ρ[i]? = some (some d) ∧ Q d Ω
def aC (d : D) : ATE := fun _ _ Ω Q => Q d Ω
theorem ae_var (i : Nat) {x : Str} (hN : X.N[i]? = some x := by rfl) (hv : Vis X.env.scope x := by first | exact Or.inl rfl | exact Or.inr (Or.inl rfl) | exact Or.inr (Or.inr rfl)) (hd : (x == ("__debug__" : Str)) = false := by decide)
    (hcd : (x == ("__classdict__" : Str)) = false := by decide) : AE X ca W (.Name x pos) (tVar i) (aVar i) := by
  refine ⟨pe_var hN hv hd hcd, fun σ H G own ρ Ω Wa Qa Qc r s h k _ => ?_⟩
  obtain ⟨d, hd, q⟩ := h
  obtain ⟨v, hv, dv⟩ := s.get i d hd
  exact ⟨v, hv, k _ _ _ _ _ _ Stp.refl r dv q⟩
/-- a list object of ours, taken as data from here on -/
def aTake (i : Nat) : ATE := fun _ ρ Ω Q => ∃ a xs, ρ[i]? = some (some (.o a)) ∧ Ω a = some (.lst xs) ∧ Q (.lst xs) (odel Ω a)
theorem ae_take (i : Nat) {x : Str} (hN : X.N[i]? = some x := by rfl) (hv : Vis X.env.scope x := by first | exact Or.inl rfl | exact Or.inr (Or.inl rfl) | exact Or.inr (Or.inr rfl)) (hd : (x == ("__debug__" : Str)) = false := by decide)
    (hcd : (x == ("__classdict__" : Str)) = false := by decide) : AE X ca W (.Name x pos) (tVar i) (aTake i) := by
  refine ⟨pe_var hN hv hd hcd, fun σ H G own ρ Ω Wa Qa Qc r s h k _ => ?_⟩
  obtain ⟨a, xs, hd, ho, q⟩ := h
  obtain ⟨v, hv, dv⟩ := s.get i _ hd
  cases dv
  obtain ⟨G', own', e, en, r', dv'⟩ := r.freeze ho
  exact ⟨_, hv, k _ _ _ _ _ _ ⟨e, fun b u hb n g => ⟨hb, en b n g⟩⟩ r' dv' q⟩
theorem sim_c {K : PySem.W.Frag} {v : V} {d : D} (h : ∀ G, DV K G v d) : SimE K ca W (tC v) (aC d) := fun σ H G own ρ Ω Wa Qa Qc r s h' k _ => k _ _ _ _ _ _ Stp.refl r (h G) h'
theorem ae_int {i j} : AE X ca W (.Constant (.int i) j pos) (tC (.int i)) (aC (.int i)) := ⟨pe_int, sim_c fun _ => .int i⟩
theorem ae_bl {i j} : AE X ca W (.Constant (.bool i) j pos) (tC (.bl i)) (aC (.bl i)) := ⟨pe_bl, sim_c fun _ => .bl i⟩
theorem ae_non {j} : AE X ca W (.Constant .none j pos) (tC .non) (aC .non) := ⟨pe_non, sim_c fun _ => .non⟩
theorem ae_str {i j} : AE X ca W (.Constant (.str i) j pos) (tC (.str i)) (aC (.str i)) := ⟨pe_str, sim_c fun _ => .str i⟩
theorem ae_globI {x : Str} {i : Int} {t : Tok} (hg : Gl X x) (hm : X.mg x = some (.int i t)) (hd : (x == ("__debug__" : Str)) = false := by decide) : AE X ca W (.Name x pos) (tC (.int i)) (aC (.int i)) := ⟨pe_glob hg hm ⟨_, rfl⟩ hd, sim_c fun _ => .int i⟩
def aOp (f : D → D → Om → AQ → Prop) (ra rb : ATE) : ATE := fun Wa ρ Ω Q => ra Wa ρ Ω fun x Ω1 => rb Wa ρ Ω1 fun y Ω2 => f x y Ω2 Q
/-- an operator's reading by values -/
def SimR (K : PySem.W.Frag) (ca : CA) (r : R2) (f : D → D → Om → AQ → Prop) : Prop := ∀ (H G : Hp) own Ω x y v w (Qa : AQ) (Qc : VK), Rel K ca G own H Ω → DV K G v x → DV K G w y → f x y Ω Qa →
  (∀ v H' G' own' d Ω', Stp G own H G' own' H' → Rel K ca G' own' H' Ω' → DV K G' v d → Qa d Ω' → Qc v H') → r v w H Qc
theorem sim_op {K : PySem.W.Frag} {r : R2} {f : D → D → Om → AQ → Prop} (h : SimR K ca r f) (sa : SimE K ca W ta ra) (sb : SimE K ca W tb rb) : SimE K ca W (tOp r ta tb) (aOp f ra rb) := fun σ H G own ρ Ω Wa Qa Qc r s h' k kx =>
  sa σ H G own ρ Ω Wa _ _ r s h' (fun v H1 G1 own1 d Ω1 e1 r1 dv1 q1 => sb σ H1 G1 own1 ρ Ω1 Wa _ _ r1 (s.mono e1.same) q1 (fun w H2 G2 own2 d2 Ω2 e2 r2 dv2 q2 =>
    h H2 G2 own2 Ω2 d d2 v w Qa Qc r2 (dv1.mono e2.same) dv2 q2 fun v3 H3 G3 own3 d3 Ω3 e3 => k v3 H3 G3 own3 d3 Ω3 ((e1.trans e2).trans e3)) (kx.mono e1)) kx
def fI (C : Int → Int → Prop) (g : Int → Int → Int) : D → D → Om → AQ → Prop := fun x y Ω Q => ∃ i j, x = .int i ∧ y = .int j ∧ C i j ∧ Q (.int (g i j)) Ω
def fB (g : Int → Int → Bool) : D → D → Om → AQ → Prop := fun x y Ω Q => ∃ i j, x = .int i ∧ y = .int j ∧ Q (.bl (g i j)) Ω
theorem simr_I {K : PySem.W.Frag} {C : Int → Int → Prop} {g : Int → Int → Int} : SimR K ca (rI C fun i j => .int (g i j)) (fI C g) := by
  intro H G own Ω x y v w Qa Qc r dx dy h k
  obtain ⟨i, j, rfl, rfl, c, q⟩ := h
  cases dx
  cases dy
  exact ⟨i, j, rfl, rfl, c, k _ _ _ _ _ _ Stp.refl r (.int _) q⟩
theorem simr_I0 {K : PySem.W.Frag} {g : Int → Int → Int} : SimR K ca (rI0 fun i j => .int (g i j)) (fI (fun _ _ => True) g) := by
  intro H G own Ω x y v w Qa Qc r dx dy h k
  obtain ⟨i, j, rfl, rfl, _, q⟩ := h
  cases dx
  cases dy
  exact ⟨i, j, rfl, rfl, k _ _ _ _ _ _ Stp.refl r (.int _) q⟩
theorem simr_B {K : PySem.W.Frag} {g : Int → Int → Bool} : SimR K ca (rI0 fun i j => .bl (g i j)) (fB g) := by
  intro H G own Ω x y v w Qa Qc r dx dy h k
  obtain ⟨i, j, rfl, rfl, q⟩ := h
  cases dx
  cases dy
  exact ⟨i, j, rfl, rfl, k _ _ _ _ _ _ Stp.refl r (.bl _) q⟩
def TT2 : Int → Int → Prop := fun _ _ => True
def aAdd := aOp (fI TT2 fun i j => i + j)
def aSub := aOp (fI TT2 fun i j => i - j)
def aMul := aOp (fI IntMulOk fun i j => i * j)
def NoPy (_ j : Int) : Prop := j ≠ 0
/-- nobody looks on, and there is room: where a wide division may go by a module of its own -/
class Seer (P : Program) (base : Heap) : Prop where
  no : base.NoSeer
  tree : P.given.tree = none
structure Div (X : Cx) : Prop where
  no : X.base.NoSeer
  tree : X.prog.given.tree = none
  top : ∃ env l, X.stack = env :: l ∧ env.scope.isGenerator = false ∧ env.scope.isCoroutine = false ∧ env.builtins = builtinsNs ∧ env.globals = mainGlobals
  dp : X.A.depth + 100 < recursionLimit
def aFdv := aOp (fI NoPy fun i j => i.fdiv j)
def aMod := aOp (fI (fun _ j => j ≠ 0) fun i j => i.fmod j)
def aPow := aOp (fI CPow fun i j => i ^ j.toNat)
theorem ae_add (ha : AE X ca W a ta ra) (hb : AE X ca W b tb rb) : AE X ca W (.BinOp a .Add b pos) (tOp (rI0 fun i j => .int (i + j)) ta tb) (aAdd ra rb) := ⟨pe_op op_add ha.pe hb.pe, sim_op simr_I0 ha.sim hb.sim⟩
theorem ae_sub (ha : AE X ca W a ta ra) (hb : AE X ca W b tb rb) : AE X ca W (.BinOp a .Sub b pos) (tOp (rI0 fun i j => .int (i - j)) ta tb) (aSub ra rb) := ⟨pe_op op_sub ha.pe hb.pe, sim_op simr_I0 ha.sim hb.sim⟩
theorem op_mulM : OpR X (binaryOp .Mult) (rI IntMulOk fun i j => .int (i * j)) := opI fun _ _ _ _ _ _ _ hc q => PyProof.Rows.mul_int q hc
theorem op_fdvP (d : Div X) : OpR X (binaryOp .FloorDiv) (rI NoPy fun i j => .int (i.fdiv j)) := by
  intro pins s σ H x y v u Q I rx ry hh
  obtain ⟨i, j, rfl, rfl, hc, q⟩ := hh
  obtain ⟨t1, rfl⟩ := rx
  obtain ⟨t2, rfl⟩ := ry
  obtain ⟨env, l, e, g1, g2, g3, g4⟩ := d.top
  refine PyProof.Rows.floordiv_int hc ⟨.int (i.fdiv j), H, I.tok _, ⟨_, rfl⟩, q⟩ (.inr (PySem.PylongRoom.of I.nolimit d.dp (PySem.SeerAt.of (env := env) (l := l) (d.no.keeps I.bk) d.tree (by rw [I.ok.frames, e]) g1 g2 g3 g4)))
theorem ae_mul (ha : AE X ca W a ta ra) (hb : AE X ca W b tb rb) : AE X ca W (.BinOp a .Mult b pos) (tOp (rI IntMulOk fun i j => .int (i * j)) ta tb) (aMul ra rb) := ⟨pe_op op_mulM ha.pe hb.pe, sim_op simr_I ha.sim hb.sim⟩
theorem ae_fdv (d : Div X) (ha : AE X ca W a ta ra) (hb : AE X ca W b tb rb) : AE X ca W (.BinOp a .FloorDiv b pos) (tOp (rI NoPy fun i j => .int (i.fdiv j)) ta tb) (aFdv ra rb) := ⟨pe_op (op_fdvP d) ha.pe hb.pe, sim_op simr_I ha.sim hb.sim⟩
theorem ae_mod (ha : AE X ca W a ta ra) (hb : AE X ca W b tb rb) : AE X ca W (.BinOp a .Mod b pos) (tOp (rI (fun _ j => j ≠ 0) fun i j => .int (i.fmod j)) ta tb) (aMod ra rb) := ⟨pe_op op_modN ha.pe hb.pe, sim_op simr_I ha.sim hb.sim⟩
def aShl1 := aOp (fun x y Ω Q => ∃ k : Nat, x = .int 1 ∧ y = .int k ∧ k ≤ 134217727 ∧ Q (.int (2 ^ k)) Ω)
theorem ae_shl1 (ha : AE X ca W a ta ra) (hb : AE X ca W b tb rb) : AE X ca W (.BinOp a .LShift b pos) (tOp (fun x y H Q => ∃ k : Nat, x = .int 1 ∧ y = .int (k : Int) ∧ k ≤ 134217727 ∧ Q (.int (2 ^ k)) H) ta tb) (aShl1 ra rb) := ⟨pe_op op_oneShl ha.pe hb.pe, sim_op (by
  intro H G own Ω x y v w Qa Qc r dx dy h k
  obtain ⟨n, rfl, rfl, c, q⟩ := h
  cases dx
  cases dy
  exact ⟨n, rfl, rfl, c, k _ _ _ _ _ _ Stp.refl r (.int _) q⟩) ha.sim hb.sim⟩
def aLt := aOp (fB fun i j => decide (i < j))
def aLe := aOp (fB fun i j => decide (i ≤ j))
def aGt := aOp (fB fun i j => decide (j < i))
def aGe := aOp (fB fun i j => decide (j ≤ i))
theorem ae_lt (ha : AE X ca W a ta ra) (hb : AE X ca W b tb rb) : AE X ca W (.Compare a [.Lt] [b] pos) (tOp (rI0 fun i j => .bl (decide (i < j))) ta tb) (aLt ra rb) := ⟨pe_cmpR op_lt ha.pe hb.pe (nomark _), sim_op simr_B ha.sim hb.sim⟩
theorem ae_le (ha : AE X ca W a ta ra) (hb : AE X ca W b tb rb) : AE X ca W (.Compare a [.LtE] [b] pos) (tOp (rI0 fun i j => .bl (decide (i ≤ j))) ta tb) (aLe ra rb) := ⟨pe_cmpR op_le ha.pe hb.pe (nomark _), sim_op simr_B ha.sim hb.sim⟩
theorem ae_gt (ha : AE X ca W a ta ra) (hb : AE X ca W b tb rb) : AE X ca W (.Compare a [.Gt] [b] pos) (tOp (rI0 fun i j => .bl (decide (j < i))) ta tb) (aGt ra rb) := ⟨pe_cmpR op_gt ha.pe hb.pe (nomark _), sim_op simr_B ha.sim hb.sim⟩
theorem ae_ge (ha : AE X ca W a ta ra) (hb : AE X ca W b tb rb) : AE X ca W (.Compare a [.GtE] [b] pos) (tOp (rI0 fun i j => .bl (decide (j ≤ i))) ta tb) (aGe ra rb) := ⟨pe_cmpR op_ge ha.pe hb.pe (nomark _), sim_op simr_B ha.sim hb.sim⟩
mutual
def D.py : D → Option PyData
  | .non => some .none
  | .bl b => some (.bool b)
  | .int i => some (.int i)
  | .str x => some (.str x)
  | .tup xs => (D.pys xs).map .tuple
  | .lst xs => (D.pys xs).map .list
  | .o _ => none
def D.pys : List D → Option (List PyData)
  | [] => some []
  | x :: xs => match D.py x, D.pys xs with
    | some p, some ps => some (p :: ps)
    | _, _ => none
end
mutual
theorem DV.dp {K : PySem.W.Frag} {G H : Hp} (e : Same G H) : ∀ {d : D} {v : V} {p : PyData}, DV K G v d → D.py d = some p → Dp K H v p
  | .non, _, _, h, q => by cases h; simp only [D.py, Option.some.injEq] at q; subst q; exact .non
  | .bl _, _, _, h, q => by cases h; simp only [D.py, Option.some.injEq] at q; subst q; exact .bl _
  | .int _, _, _, h, q => by cases h; simp only [D.py, Option.some.injEq] at q; subst q; exact .int _
  | .str _, _, _, h, q => by cases h; simp only [D.py, Option.some.injEq] at q; subst q; exact .str _
  | .o _, _, _, h, q => by simp [D.py] at q
  | .tup xs, _, _, h, q => by
    cases h with
    | tup a b =>
      simp only [D.py, Option.map_eq_some_iff] at q
      obtain ⟨ps, e1, rfl⟩ := q
      exact .tup (same_seqT e a) (DVs.dp e b e1)
  | .lst xs, _, _, h, q => by
    cases h with
    | lst a b =>
      simp only [D.py, Option.map_eq_some_iff] at q
      obtain ⟨ps, e1, rfl⟩ := q
      exact .lst (e.seq a) (DVs.dp e b e1)
theorem DVs.dp {K : PySem.W.Frag} {G H : Hp} (e : Same G H) : ∀ {d : List D} {v : List V} {p : List PyData}, DVs K G v d → D.pys d = some p → DpAll K H v p
  | [], _, _, h, q => by cases h; simp only [D.pys, Option.some.injEq] at q; subst q; exact .nil
  | x :: xs, _, _, h, q => by
    cases h with
    | cons h1 h2 =>
      simp only [D.pys] at q
      cases e1 : D.py x with
      | none => rw [e1] at q; cases q
      | some p =>
        cases e2 : D.pys xs with
        | none => rw [e1, e2] at q; cases q
        | some ps =>
          rw [e1, e2] at q
          simp only [Option.some.injEq] at q
          subst q
          exact .cons (DV.dp e h1 e1) (DVs.dp e h2 e2)
end
def fEq (neg : Bool) : D → D → Om → AQ → Prop := fun x y Ω Q => ∃ p q, x.py = some p ∧ y.py = some q ∧ SeqAt.shaped p = true ∧ SeqAt.shaped q = true ∧ Q (.bl (if neg then !PyData.eqv p q else PyData.eqv p q)) Ω
theorem simr_eqD {K : PySem.W.Frag} : SimR K ca (rEqD K) (fEq false) := by
  intro H G own Ω x y v w Qa Qc r dx dy h k
  obtain ⟨p, q, e1, e2, s1, s2, h⟩ := h
  exact ⟨p, q, dx.dp r.sub e1, dy.dp r.sub e2, s1, s2, k _ _ _ _ _ _ Stp.refl r (.bl _) h⟩
def aEqD := aOp (fEq false)
def aNeD := aOp (fEq true)
theorem ae_eqD (hu : X.A.units + 64 < cLine) (ha : AE X ca W a ta ra) (hb : AE X ca W b tb rb) : AE X ca W (.Compare a [.Eq] [b] pos) (tOp (rEqD X.K) ta tb) (aEqD ra rb) := ⟨pe_cmpR (op_eqD hu) ha.pe hb.pe (nomark _), sim_op simr_eqD ha.sim hb.sim⟩
/-- == and != of two ints -/
def aEqI := aOp (fB fun i j => decide (i = j))
def aNeI := aOp (fB fun i j => !decide (i = j))
theorem simr_eqI {K : PySem.W.Frag} : SimR K ca rEq (fB fun i j => decide (i = j)) := by
  intro H G own Ω x y v w Qa Qc r dx dy h k
  obtain ⟨i, j, rfl, rfl, q⟩ := h
  cases dx
  cases dy
  have e : decide (V.int i = V.int j) = decide (i = j) := by simp
  exact ⟨rfl, k _ _ _ _ (.bl (decide (i = j))) _ Stp.refl r (e ▸ .bl _) q⟩
theorem simr_neI {K : PySem.W.Frag} : SimR K ca rNe (fB fun i j => !decide (i = j)) := by
  intro H G own Ω x y v w Qa Qc r dx dy h k
  obtain ⟨i, j, rfl, rfl, q⟩ := h
  cases dx
  cases dy
  have e : decide (V.int i = V.int j) = decide (i = j) := by simp
  exact ⟨rfl, k _ _ _ _ (.bl (!decide (i = j))) _ Stp.refl r (e ▸ .bl _) q⟩
theorem ae_eqI (ha : AE X ca W a ta ra) (hb : AE X ca W b tb rb) : AE X ca W (.Compare a [.Eq] [b] pos) (tOp rEq ta tb) (aEqI ra rb) := ⟨pe_cmpR op_eq ha.pe hb.pe (nomark _), sim_op simr_eqI ha.sim hb.sim⟩
theorem ae_neI (ha : AE X ca W a ta ra) (hb : AE X ca W b tb rb) : AE X ca W (.Compare a [.NotEq] [b] pos) (tOp rNe ta tb) (aNeI ra rb) := ⟨pe_cmpR op_ne ha.pe hb.pe (nomark _), sim_op simr_neI ha.sim hb.sim⟩
/-- == of two texts -/
def aEqS := aOp (fun x y Ω Q => ∃ i j, x = .str i ∧ y = .str j ∧ Q (.bl (decide (i = j))) Ω)
def aNeS := aOp (fun x y Ω Q => ∃ i j, x = .str i ∧ y = .str j ∧ Q (.bl (!decide (i = j))) Ω)
theorem ae_eqS (ha : AE X ca W a ta ra) (hb : AE X ca W b tb rb) : AE X ca W (.Compare a [.Eq] [b] pos) (tOp rEq ta tb) (aEqS ra rb) := ⟨pe_cmpR op_eq ha.pe hb.pe (nomark _), sim_op (by
  intro H G own Ω x y v w Qa Qc r dx dy h k
  obtain ⟨i, j, rfl, rfl, q⟩ := h
  cases dx
  cases dy
  have e : decide (V.str i = V.str j) = decide (i = j) := by simp
  exact ⟨rfl, k _ _ _ _ (.bl (decide (i = j))) _ Stp.refl r (e ▸ .bl _) q⟩) ha.sim hb.sim⟩
theorem ae_neS (ha : AE X ca W a ta ra) (hb : AE X ca W b tb rb) : AE X ca W (.Compare a [.NotEq] [b] pos) (tOp rNe ta tb) (aNeS ra rb) := ⟨pe_cmpR op_ne ha.pe hb.pe (nomark _), sim_op (by
  intro H G own Ω x y v w Qa Qc r dx dy h k
  obtain ⟨i, j, rfl, rfl, q⟩ := h
  cases dx
  cases dy
  have e : decide (V.str i = V.str j) = decide (i = j) := by simp
  exact ⟨rfl, k _ _ _ _ (.bl (!decide (i = j))) _ Stp.refl r (e ▸ .bl _) q⟩) ha.sim hb.sim⟩
/-- is None, is not None -/
def D.isNon : D → Bool
  | .non => true
  | _ => false
theorem DV.isNon {K : PySem.W.Frag} {G : Hp} {v : V} {d : D} (h : DV K G v d) : decide (v = .non) = d.isNon := by cases h <;> simp [D.isNon]
def aIsN (ra : ATE) : ATE := fun Wa ρ Ω Q => ra Wa ρ Ω fun x Ω1 => Q (.bl x.isNon) Ω1
def aNotN (ra : ATE) : ATE := fun Wa ρ Ω Q => ra Wa ρ Ω fun x Ω1 => Q (.bl (!x.isNon)) Ω1
def aB (ra : ATE) : ATT := fun Wa ρ Ω Q => ra Wa ρ Ω fun x Ω1 => ∃ c, x = .bl c ∧ Q c Ω1
theorem at_val (ha : AE X ca W e te re) (he : ∀ whole, isTrue e X.env whole = (do let v ← whole; standAt e.pos; holding [v] (truthy v)) := by intro _; rfl) : AT X ca W e (tB te) (aB re) := ⟨pt_val ha.pe he, fun σ H G own ρ Ω Wa Qa Qc r s h k kx => ha.sim σ H G own ρ Ω Wa _ _ r s h (fun v H1 G1 own1 d Ω1 e1 r1 dv1 q1 => by
  obtain ⟨c, rfl, q⟩ := q1
  cases dv1
  exact ⟨c, rfl, k _ _ _ _ _ e1 r1 q⟩) kx⟩
/-- a comparison as a test, by its rule -/
theorem at_cmp {op : CmpOp} {r : R2} {f : D → D → Om → AQ → Prop} (ho : OpR X (compareOp op) r) (hf : SimR X.K ca r f) (ha : AE X ca W a ta ra) (hb : AE X ca W b tb rb) (hm : behindInMarks op b = false) : AT X ca W (.Compare a [op] [b] pos) (tTest (tOp r ta tb)) (aB (aOp f ra rb)) :=
  ⟨pt_cmpR ho ha.pe hb.pe hm, fun σ H G own ρ Ω Wa Qa Qc r s h k kx => sim_op hf ha.sim hb.sim σ H G own ρ Ω Wa _ _ r s h (fun v H1 G1 own1 d Ω1 e1 r1 dv1 q1 => by
  obtain ⟨c, rfl, q⟩ := q1
  cases dv1
  exact ⟨c, rfl, k _ _ _ _ _ e1 r1 q⟩) kx⟩
theorem at_lt (ha : AE X ca W a ta ra) (hb : AE X ca W b tb rb) : AT X ca W (.Compare a [.Lt] [b] pos) (tTest (tOp (rI0 fun i j => .bl (decide (i < j))) ta tb)) (aB (aLt ra rb)) := at_cmp op_lt simr_B ha hb (nomark _)
theorem at_le (ha : AE X ca W a ta ra) (hb : AE X ca W b tb rb) : AT X ca W (.Compare a [.LtE] [b] pos) (tTest (tOp (rI0 fun i j => .bl (decide (i ≤ j))) ta tb)) (aB (aLe ra rb)) := at_cmp op_le simr_B ha hb (nomark _)
theorem at_gt (ha : AE X ca W a ta ra) (hb : AE X ca W b tb rb) : AT X ca W (.Compare a [.Gt] [b] pos) (tTest (tOp (rI0 fun i j => .bl (decide (j < i))) ta tb)) (aB (aGt ra rb)) := at_cmp op_gt simr_B ha hb (nomark _)
theorem at_ge (ha : AE X ca W a ta ra) (hb : AE X ca W b tb rb) : AT X ca W (.Compare a [.GtE] [b] pos) (tTest (tOp (rI0 fun i j => .bl (decide (j ≤ i))) ta tb)) (aB (aGe ra rb)) := at_cmp op_ge simr_B ha hb (nomark _)
theorem at_eqI (ha : AE X ca W a ta ra) (hb : AE X ca W b tb rb) : AT X ca W (.Compare a [.Eq] [b] pos) (tTest (tOp rEq ta tb)) (aB (aEqI ra rb)) := at_cmp op_eq simr_eqI ha hb (nomark _)
theorem at_neI (ha : AE X ca W a ta ra) (hb : AE X ca W b tb rb) : AT X ca W (.Compare a [.NotEq] [b] pos) (tTest (tOp rNe ta tb)) (aB (aNeI ra rb)) := at_cmp op_ne simr_neI ha hb (nomark _)
theorem at_eqD (hu : X.A.units + 64 < cLine) (ha : AE X ca W a ta ra) (hb : AE X ca W b tb rb) : AT X ca W (.Compare a [.Eq] [b] pos) (tTest (tOp (rEqD X.K) ta tb)) (aB (aEqD ra rb)) := at_cmp (op_eqD hu) simr_eqD ha hb (nomark _)
theorem at_isN {j pos'} (ha : AE X ca W a ta ra) : AT X ca W (.Compare a [.Is] [.Constant .none j pos'] pos) (tB (tIsN ta)) (aB (aIsN ra)) := ⟨pt_cmp (pc_isN ha.pe) (nomark _), fun σ H G own ρ Ω Wa Qa Qc r s h k kx => ha.sim σ H G own ρ Ω Wa _ _ r s h (fun v H1 G1 own1 d Ω1 e1 r1 dv1 q1 => by
  obtain ⟨c, e, q⟩ := q1
  cases e
  exact ⟨d.isNon, by rw [dv1.isNon], k _ _ _ _ _ e1 r1 q⟩) kx⟩
theorem at_notN {j pos'} (ha : AE X ca W a ta ra) : AT X ca W (.Compare a [.IsNot] [.Constant .none j pos'] pos) (tB (tNotN ta)) (aB (aNotN ra)) := ⟨pt_cmp (pc_notN ha.pe) (nomark _), fun σ H G own ρ Ω Wa Qa Qc r s h k kx => ha.sim σ H G own ρ Ω Wa _ _ r s h (fun v H1 G1 own1 d Ω1 e1 r1 dv1 q1 => by
  obtain ⟨c, e, q⟩ := q1
  cases e
  exact ⟨!d.isNon, by rw [dv1.isNon], k _ _ _ _ _ e1 r1 q⟩) kx⟩
variable {tt tu : TT} {rt ru : ATT} {rest : List Expr}
def aAnd (t u : ATT) : ATT := fun Wa ρ Ω Q => t Wa ρ Ω fun c Ω1 => if c = true then u Wa ρ Ω1 Q else Q false Ω1
def aOr (t u : ATT) : ATT := fun Wa ρ Ω Q => t Wa ρ Ω fun c Ω1 => if c = true then Q true Ω1 else u Wa ρ Ω1 Q
def aNot (t : ATT) : ATT := fun Wa ρ Ω Q => t Wa ρ Ω fun c Ω1 => Q (!c) Ω1
theorem sim_and {K : PySem.W.Frag} (h1 : SimT K ca W tt rt) (h2 : SimT K ca W tu ru) : SimT K ca W (tAnd tt tu) (aAnd rt ru) := fun σ H G own ρ Ω Wa Qa Qc r s h k kx => h1 σ H G own ρ Ω Wa _ _ r s h (fun c H1 G1 own1 Ω1 e1 r1 q1 => by
  cases c with
  | true => exact h2 σ H1 G1 own1 ρ Ω1 Wa _ _ r1 (s.mono e1.same) q1 (fun c H2 G2 own2 Ω2 e2 => k c H2 G2 own2 Ω2 (e1.trans e2)) (kx.mono e1)
  | false => exact k _ _ _ _ _ e1 r1 q1) kx
theorem sim_or {K : PySem.W.Frag} (h1 : SimT K ca W tt rt) (h2 : SimT K ca W tu ru) : SimT K ca W (tOr tt tu) (aOr rt ru) := fun σ H G own ρ Ω Wa Qa Qc r s h k kx => h1 σ H G own ρ Ω Wa _ _ r s h (fun c H1 G1 own1 Ω1 e1 r1 q1 => by
  cases c with
  | false => exact h2 σ H1 G1 own1 ρ Ω1 Wa _ _ r1 (s.mono e1.same) q1 (fun c H2 G2 own2 Ω2 e2 => k c H2 G2 own2 Ω2 (e1.trans e2)) (kx.mono e1)
  | true => exact k _ _ _ _ _ e1 r1 q1) kx
theorem aw_and1 (ha : AT X ca W a tt rt) : AWt X ca W (.BoolOp .And [a] pos) tt rt := ⟨pw_and1 ha.pe, ha.sim⟩
theorem aw_or1 (ha : AT X ca W a tt rt) : AWt X ca W (.BoolOp .Or [a] pos) tt rt := ⟨pw_or1 ha.pe, ha.sim⟩
theorem aw_and (ha : AT X ca W a tt rt) (hb : AWt X ca W (.BoolOp .And (b :: rest) pos) tu ru) : AWt X ca W (.BoolOp .And (a :: b :: rest) pos) (tAnd tt tu) (aAnd rt ru) := ⟨pw_and ha.pe hb.pe, sim_and ha.sim hb.sim⟩
theorem aw_or (ha : AT X ca W a tt rt) (hb : AWt X ca W (.BoolOp .Or (b :: rest) pos) tu ru) : AWt X ca W (.BoolOp .Or (a :: b :: rest) pos) (tOr tt tu) (aOr rt ru) := ⟨pw_or ha.pe hb.pe, sim_or ha.sim hb.sim⟩
theorem AWt.at_ (h : AWt X ca W a tt rt) : AT X ca W a tt rt := ⟨h.pe.pt, h.sim⟩
theorem at_not (ha : AT X ca W a tt rt) : AT X ca W (.UnaryOp .Not a pos) (tNot tt) (aNot rt) := ⟨pt_not ha.pe, fun σ H G own ρ Ω Wa Qa Qc r s h k kx => ha.sim σ H G own ρ Ω Wa _ _ r s h (fun c H1 G1 own1 Ω1 e1 r1 q1 => k _ _ _ _ _ e1 r1 q1) kx⟩
/-- .. as values -/
def aAndV (ra rb : ATE) : ATE := fun Wa ρ Ω Q => ra Wa ρ Ω fun x Ω1 => ∃ c, x = .bl c ∧ if c = true then rb Wa ρ Ω1 Q else Q (.bl false) Ω1
def aOrV (ra rb : ATE) : ATE := fun Wa ρ Ω Q => ra Wa ρ Ω fun x Ω1 => ∃ c, x = .bl c ∧ if c = true then Q (.bl true) Ω1 else rb Wa ρ Ω1 Q
def aNotV (ra : ATE) : ATE := fun Wa ρ Ω Q => ra Wa ρ Ω fun x Ω1 => ∃ c, x = .bl c ∧ Q (.bl (!c)) Ω1
theorem ae_one {op} (ha : AE X ca W a ta ra) : AE X ca W (.BoolOp op [a] pos) ta ra := ⟨pe_one ha.pe, ha.sim⟩
theorem ae_and (ha : AE X ca W a ta ra) (hb : AE X ca W (.BoolOp .And (b :: rest) pos) tb rb) : AE X ca W (.BoolOp .And (a :: b :: rest) pos) (tAndV ta tb) (aAndV ra rb) := ⟨pe_and ha.pe hb.pe, fun σ H G own ρ Ω Wa Qa Qc r s h k kx => ha.sim σ H G own ρ Ω Wa _ _ r s h (fun v H1 G1 own1 d Ω1 e1 r1 dv1 q1 => by
  obtain ⟨c, rfl, q⟩ := q1
  cases dv1
  refine ⟨c, rfl, ?_⟩
  cases c with
  | true => exact hb.sim σ H1 G1 own1 ρ Ω1 Wa _ _ r1 (s.mono e1.same) q (fun v H2 G2 own2 d Ω2 e2 => k v H2 G2 own2 d Ω2 (e1.trans e2)) (kx.mono e1)
  | false => exact k _ _ _ _ _ _ e1 r1 (.bl _) q) kx⟩
theorem ae_or (ha : AE X ca W a ta ra) (hb : AE X ca W (.BoolOp .Or (b :: rest) pos) tb rb) : AE X ca W (.BoolOp .Or (a :: b :: rest) pos) (tOrV ta tb) (aOrV ra rb) := ⟨pe_or ha.pe hb.pe, fun σ H G own ρ Ω Wa Qa Qc r s h k kx => ha.sim σ H G own ρ Ω Wa _ _ r s h (fun v H1 G1 own1 d Ω1 e1 r1 dv1 q1 => by
  obtain ⟨c, rfl, q⟩ := q1
  cases dv1
  refine ⟨c, rfl, ?_⟩
  cases c with
  | false => exact hb.sim σ H1 G1 own1 ρ Ω1 Wa _ _ r1 (s.mono e1.same) q (fun v H2 G2 own2 d Ω2 e2 => k v H2 G2 own2 d Ω2 (e1.trans e2)) (kx.mono e1)
  | true => exact k _ _ _ _ _ _ e1 r1 (.bl _) q) kx⟩
theorem ae_notV (ha : AE X ca W a ta ra) : AE X ca W (.UnaryOp .Not a pos) (tNotV ta) (aNotV ra) := ⟨pe_not ha.pe, fun σ H G own ρ Ω Wa Qa Qc r s h k kx => ha.sim σ H G own ρ Ω Wa _ _ r s h (fun v H1 G1 own1 d Ω1 e1 r1 dv1 q1 => by
  obtain ⟨c, rfl, q⟩ := q1
  cases dv1
  exact ⟨c, rfl, k _ _ _ _ _ _ e1 r1 (.bl _) q⟩) kx⟩
def aIf (t : ATT) (ra rb : ATE) : ATE := fun Wa ρ Ω Q => t Wa ρ Ω fun c Ω1 => if c = true then ra Wa ρ Ω1 Q else rb Wa ρ Ω1 Q
variable {es : List Expr} {tr : TA} {rr : ATA}
def aNil : ATA := fun _ _ Ω Q => Q [] Ω
def aCons (ra : ATE) (rr : ATA) : ATA := fun Wa ρ Ω Q => ra Wa ρ Ω fun x Ω1 => rr Wa ρ Ω1 fun xs Ω2 => Q (x :: xs) Ω2
theorem aa_nil : AA X ca W [] tNil aNil := ⟨pa_nil, fun σ H G own ρ Ω Wa Qa Qc r s h k kx => k _ _ _ _ _ _ Stp.refl r .nil h⟩
theorem aa_cons (ha : AE X ca W e te re) (hr : AA X ca W es tr rr) (hs : starEach (e :: es) X.env = (false, eval e X.env) :: starEach es X.env := by rfl) : AA X ca W (e :: es) (tCons te tr) (aCons re rr) := ⟨pa_cons ha.pe hr.pe hs, fun σ H G own ρ Ω Wa Qa Qc r s h k kx =>
  ha.sim σ H G own ρ Ω Wa _ _ r s h (fun v H1 G1 own1 d Ω1 e1 r1 dv1 q1 => hr.sim σ H1 G1 own1 ρ Ω1 Wa _ _ r1 (s.mono e1.same) q1 (fun vs H2 G2 own2 ds Ω2 e2 r2 dv2 q2 => k _ _ _ _ _ _ (e1.trans e2) r2 (.cons (dv1.mono e2.same) dv2) q2) (kx.mono e1)) kx⟩
def aTup (rr : ATA) : ATE := fun Wa ρ Ω Q => rr Wa ρ Ω fun xs Ω1 => xs.length ≤ sizeLine ∧ Q (.tup xs) Ω1
def aLst (rr : ATA) : ATE := fun Wa ρ Ω Q => rr Wa ρ Ω fun xs Ω1 => xs.length ≤ sizeLine ∧ Q (.lst xs) Ω1
def aLstO (rr : ATA) : ATE := fun Wa ρ Ω Q => rr Wa ρ Ω fun xs Ω1 => xs.length ≤ sizeLine ∧ ∀ p, Ω1 p = none → Q (.o p) (oset Ω1 p (.lst xs))
theorem ae_tup {x1} (h : AA X ca W es tr rr) : AE X ca W (.Tuple es x1 pos) (tTup tr) (aTup rr) := ⟨pe_tup h.pe, fun σ H G own ρ Ω Wa Qa Qc r s h' k kx => h.sim σ H G own ρ Ω Wa _ _ r s h' (fun v H1 G1 own1 d Ω1 e1 r1 dv1 q1 => by
  refine ⟨by rw [dv1.length]; exact q1.1, fun p hp => ?_⟩
  obtain ⟨r2, e2⟩ := r1.data (u := .tup v) hp
  exact k _ _ _ _ _ _ (e1.trans (stp_data e2 hp)) r2 (.tup (SqT.of upd_same) (dv1.mono e2)) q1.2) kx⟩
theorem ae_lst (h : AA X ca W es tr rr) : AE X ca W (.List es pos) (tLst tr) (aLst rr) := ⟨pe_lst h.pe, fun σ H G own ρ Ω Wa Qa Qc r s h' k kx => h.sim σ H G own ρ Ω Wa _ _ r s h' (fun v H1 G1 own1 d Ω1 e1 r1 dv1 q1 => by
  refine ⟨by rw [dv1.length]; exact q1.1, fun p hp => ?_⟩
  obtain ⟨r2, e2⟩ := r1.data (u := .lst v) hp
  exact k _ _ _ _ _ _ (e1.trans (stp_data e2 hp)) r2 (.lst (SqL.of upd_same) (dv1.mono e2)) q1.2) kx⟩
theorem ae_lstO (h : AA X ca W es tr rr) : AE X ca W (.List es pos) (tLst tr) (aLstO rr) := ⟨pe_lst h.pe, fun σ H G own ρ Ω Wa Qa Qc r s h' k kx => h.sim σ H G own ρ Ω Wa _ _ r s h' (fun v H1 G1 own1 d Ω1 e1 r1 dv1 q1 => by
  refine ⟨by rw [dv1.length]; exact q1.1, fun p hp => ?_⟩
  exact k _ _ _ _ _ _ (e1.trans (stp_new hp)) (r1.newLst hp dv1) (.o p) (q1.2 p (r1.fresh hp))) kx⟩
end
end PL
namespace PL
open PySem L2
section
variable {X : Cx} {ca : CA} {W : WX} {a b e : Expr} {es : List Expr} {ta tb te : TE} {ra rb re : ATE} {tr : TA} {rr : ATA} {pos : Pos}
/-- the items of data, or of a list of ours -/
def D.seq (Ω : Om) : D → Option (List D)
  | .lst xs => some xs
  | .tup xs => some xs
  | .o a => match Ω a with
    | some (.lst xs) => some xs
    | _ => none
  | _ => none
def fIx : D → D → Om → AQ → Prop := fun x y Ω Q => ∃ xs i d, x.seq Ω = some xs ∧ y = .int i ∧ atI xs i = some d ∧ Q d Ω
theorem atI_dv {K : PySem.W.Frag} {G : Hp} {vs : List V} {ds : List D} {i : Int} {d : D} (h : DVs K G vs ds) (e : atI ds i = some d) : ∃ v, atI vs i = some v ∧ DV K G v d := by
  unfold atI at e ⊢
  rw [h.length]
  cases q : ixN ds.length i with
  | none => rw [q] at e; cases e
  | some j => rw [q] at e; exact h.get (i := j) e
theorem Rel.lstAt {K : PySem.W.Frag} {G H : Hp} {own : Addr → Option Addr} {Ω : Om} {p : Addr} {xs : List D} (r : Rel K ca G own H Ω) (e : Ω p = some (.lst xs)) : ∃ vs, H p = some (.lst vs) ∧ DVs K G vs xs := (r.objs p _ e).2
/-- a sequence is read -/
theorem seq_of {K : PySem.W.Frag} {G H : Hp} {own : Addr → Option Addr} {Ω : Om} {v : V} {x : D} {xs : List D} (r : Rel K ca G own H Ω) (dv : DV K G v x) (h : x.seq Ω = some xs) : ∃ p vs, v = .ref p ∧ DVs K G vs xs ∧ (SqL K H p vs ∨ SqT K H p vs) := by
  cases dv with
  | lst a b => simp only [D.seq, Option.some.injEq] at h; subst h; exact ⟨_, _, rfl, b, .inl (r.sub.seq a)⟩
  | tup a b => simp only [D.seq, Option.some.injEq] at h; subst h; exact ⟨_, _, rfl, b, .inr (same_seqT r.sub a)⟩
  | o a =>
    cases q : Ω a with
    | none => simp only [D.seq, q] at h; cases h
    | some u =>
      cases u with
      | lst ys =>
        simp only [D.seq, q, Option.some.injEq] at h; subst h
        obtain ⟨vs, hv, dv⟩ := r.lstAt q
        exact ⟨_, vs, rfl, dv, .inl (SqL.of hv)⟩
      | row => simp only [D.seq, q] at h; cases h
      | dic _ => simp only [D.seq, q] at h; cases h
      | obj _ _ => simp only [D.seq, q] at h; cases h
  | _ => simp [D.seq] at h
def rIx2 (K : PySem.W.Frag) : R2 := fun x y H Q => rIxL K x y H Q ∨ rIxT K x y H Q
theorem ix_two : IxR X (rIx2 X.K) := ix_list.or ix_tup
theorem simr_ix {K : PySem.W.Frag} : SimR K ca (rIx2 K) fIx := by
  intro H G own Ω x y v w Qa Qc r dx dy h k
  obtain ⟨xs, i, d, hs, rfl, ha, q⟩ := h
  cases dy
  obtain ⟨p, vs, rfl, ds, hv⟩ := seq_of r dx hs
  obtain ⟨u, hu, du⟩ := atI_dv ds ha
  rcases hv with hv | hv
  · exact .inl ⟨p, vs, i, u, rfl, rfl, hv, hu, k _ _ _ _ _ _ Stp.refl r du q⟩
  · exact .inr ⟨p, vs, i, u, rfl, rfl, hv, hu, k _ _ _ _ _ _ Stp.refl r du q⟩
def aIx := aOp fIx
theorem ae_ix (ha : AE X ca W a ta ra) (hb : AE X ca W b tb rb) (hs : PlainIx b := by exact fun _ _ => rfl) : AE X ca W (.Subscript a b pos) (tOp (rIx2 X.K) ta tb) (aIx ra rb) := ⟨pe_ix ix_two ha.pe hb.pe hs, sim_op simr_ix ha.sim hb.sim⟩
abbrev ATO := AW → En → Om → (Option Int → Om → Prop) → Prop
structure AO' (X : Cx) (ca : CA) (W : WX) (e : Option Expr) (te : TO) (ta : ATO) : Prop where
  pe : PO X e te
  sim : ∀ (σ : St) (H : Hp) (G : Hp) (own : Addr → Option Addr) (ρ : En) (Ω : Om) (Wa : AW) (Qa : Option Int → Om → Prop) (Qc : Option Int → Hp → Prop), Rel X.K ca G own H Ω → SR X.K G σ ρ → ta Wa ρ Ω Qa →
    (∀ i H' G' own' Ω', Stp G own H G' own' H' → Rel X.K ca G' own' H' Ω' → Qa i Ω' → Qc i H') → KX X.K ca W G own H σ ρ Wa → te σ H Qc
def aNoPart : ATO := fun _ _ Ω Q => Q none Ω
def aPart (ra : ATE) : ATO := fun Wa ρ Ω Q => ra Wa ρ Ω fun x Ω1 => ∃ i, x = .int i ∧ Q (some i) Ω1
theorem ao_none : AO' X ca W none tNoPart aNoPart := ⟨po_none, fun σ H G own ρ Ω Wa Qa Qc r s h k _ => k _ _ _ _ _ Stp.refl r h⟩
theorem ao_some (ha : AE X ca W e te re) : AO' X ca W (some e) (tPart te) (aPart re) := ⟨po_some ha.pe, fun σ H G own ρ Ω Wa Qa Qc r s h k kx => ha.sim σ H G own ρ Ω Wa _ _ r s h (fun v H1 G1 own1 d Ω1 e1 r1 dv1 q1 => by
  obtain ⟨i, rfl, q⟩ := q1
  cases dv1
  exact ⟨i, rfl, k _ _ _ _ _ e1 r1 q⟩) kx⟩
def cutD (xs : List D) (lo hi : Option Int) : List D := (xs.drop (HT.sIx xs.length 0 lo)).take (HT.sIx xs.length xs.length hi - HT.sIx xs.length 0 lo)
theorem DVs.cut {K : PySem.W.Frag} {G : Hp} {vs : List V} {ds : List D} (h : DVs K G vs ds) (lo hi : Option Int) : DVs K G (cutV vs lo hi) (cutD ds lo hi) := by
  unfold cutV cutD
  rw [h.length]
  exact (h.drop _).take _
/-- a part of a list, as data; of a tuple -/
def aSl (ra : ATE) (rl rh : ATO) : ATE := fun Wa ρ Ω Q => ra Wa ρ Ω fun x Ω1 => rl Wa ρ Ω1 fun lo Ω2 => rh Wa ρ Ω2 fun hi Ω3 => (∃ xs, (x = .lst xs ∨ ∃ a, x = .o a ∧ Ω3 a = some (.lst xs)) ∧ Q (.lst (cutD xs lo hi)) Ω3) ∨ ∃ xs, x = .tup xs ∧ Q (.tup (cutD xs lo hi)) Ω3
def rSl2 (K : PySem.W.Frag) : V → Option Int → Option Int → Hp → VK → Prop := fun x lo hi H Q => rSlL K x lo hi H Q ∨ rSlA K x lo hi H Q
theorem sl_two : SlR X (rSl2 X.K) := sl_list.or sl_tupA
theorem cut_all {α : Type} {xs : List α} {lo hi : Option Int} (h : HT.sIx xs.length 0 lo = 0 ∧ HT.sIx xs.length xs.length hi = xs.length) : (xs.drop (HT.sIx xs.length 0 lo)).take (HT.sIx xs.length xs.length hi - HT.sIx xs.length 0 lo) = xs := by
  rw [h.1, h.2, List.drop_zero, Nat.sub_zero, List.take_length]
theorem ae_sl {lo hi : Option Expr} {p2 : Pos} {tl th : TO} {rl rh : ATO} (ha : AE X ca W e te re) (hl : AO' X ca W lo tl rl) (hh : AO' X ca W hi th rh) : AE X ca W (.Subscript e (.Slice lo hi none p2) pos) (tSl (rSl2 X.K) te tl th) (aSl re rl rh) :=
  ⟨pe_slice sl_two ha.pe hl.pe hh.pe, fun σ H G own ρ Ω Wa Qa Qc r s h k kx => ha.sim σ H G own ρ Ω Wa _ _ r s h (fun v H1 G1 own1 d Ω1 e1 r1 dv1 q1 =>
    hl.sim σ H1 G1 own1 ρ Ω1 Wa _ _ r1 (s.mono e1.same) q1 (fun i H2 G2 own2 Ω2 e2 r2 q2 => hh.sim σ H2 G2 own2 ρ Ω2 Wa _ _ r2 (s.mono (e1.trans e2).same) q2 (fun j H3 G3 own3 Ω3 e3 r3 q3 => by
      have e23 := e2.trans e3
      have e123 := e1.trans e23
      rcases q3 with ⟨xs, hx, q⟩ | ⟨xs, rfl, q⟩
      · obtain ⟨p, vs, rfl, ds, hv⟩ : ∃ p vs, v = .ref p ∧ DVs X.K G3 vs xs ∧ SqL X.K H3 p vs := by
          rcases hx with rfl | ⟨a, rfl, ha⟩
          · cases dv1 with
            | lst a b => exact ⟨_, _, rfl, b.mono e23.same, r3.sub.seq (e23.same.seq a)⟩
          · cases dv1
            obtain ⟨vs, hv, dv⟩ := r3.lstAt ha
            exact ⟨_, vs, rfl, dv, SqL.of hv⟩
        refine .inl ⟨p, vs, rfl, hv, fun q' hq => ?_⟩
        obtain ⟨r4, e4⟩ := r3.data (u := .lst (cutV vs i j)) hq
        exact k _ _ _ _ _ _ (e123.trans (stp_data e4 hq)) r4 (.lst (SqL.of upd_same) ((ds.cut i j).mono e4)) q
      · cases dv1 with
        | tup a b =>
          rename_i p vs
          refine .inr ⟨p, vs, rfl, same_seqT r3.sub (same_seqT e23.same a), fun hw => ?_, fun hw q' hq => ?_⟩
          · have hl := b.length
            rw [hl] at hw
            have e : cutD xs i j = xs := cut_all hw
            rw [e] at q
            exact k _ _ _ _ _ _ e123 r3 (.tup (same_seqT e23.same a) (b.mono e23.same)) q
          · obtain ⟨r4, e4⟩ := r3.data (u := .tup (cutV vs i j)) hq
            exact k _ _ _ _ _ _ (e123.trans (stp_data e4 hq)) r4 (.tup (SqT.of upd_same) (((b.mono e23.same).cut i j).mono e4)) q) ((kx.mono e1).mono e2)) (kx.mono e1)) kx⟩
def SimC (K : PySem.W.Frag) (ca : CA) (r : List V → Hp → VK → Prop) (f : List D → Om → AQ → Prop) : Prop := ∀ (H G : Hp) own Ω xs vs (Qa : AQ) (Qc : VK), Rel K ca G own H Ω → DVs K G vs xs → f xs Ω Qa →
  (∀ v H' G' own' d Ω', Stp G own H G' own' H' → Rel K ca G' own' H' Ω' → DV K G' v d → Qa d Ω' → Qc v H') → r vs H Qc
def aCall (f : List D → Om → AQ → Prop) (rr : ATA) : ATE := fun Wa ρ Ω Q => rr Wa ρ Ω fun xs Ω1 => f xs Ω1 Q
theorem sim_call {K : PySem.W.Frag} {r : List V → Hp → VK → Prop} {f : List D → Om → AQ → Prop} (h : SimC K ca r f) (sa : SimA K ca W tr rr) : SimE K ca W (tCB r tr) (aCall f rr) := fun σ H G own ρ Ω Wa Qa Qc r s h' k kx =>
  sa σ H G own ρ Ω Wa _ _ r s h' (fun v H1 G1 own1 d Ω1 e1 r1 dv1 q1 => h H1 G1 own1 Ω1 d v Qa Qc r1 dv1 q1 fun v3 H3 G3 own3 d3 Ω3 e3 => k v3 H3 G3 own3 d3 Ω3 (e1.trans e3)) kx
theorem ae_callB {id : String} {x : Str} {r : List V → Hp → VK → Prop} {f : List D → Om → AQ → Prop} {p : Pos} (hc : CallR X (.builtin id) r) (hf : SimC X.K ca r f) (hg : Gl X x) (hm : X.mg x = none) (hv : bootBuiltins x = some (.builtin id)) (ha : AA X ca W (e :: es) tr rr) (hn : x ≠ "__name__" := by decide) (hdb : (x == ("__debug__" : Str)) = false := by decide)
    (he : starEach (e :: es) X.env = (false, eval e X.env) :: starEach es X.env := by rfl) (hpl : (backTo pos (starEach es X.env)).any (·.1) = false := by rfl) : AE X ca W (.Call (.Name x p) (e :: es) [] pos) (tCB r tr) (aCall f rr) := ⟨pe_callB hc hg hm hv ha.pe hn hdb he hpl, sim_call hf ha.sim⟩
theorem ae_callTy {T : String} {x : Str} {r : List V → Hp → VK → Prop} {f : List D → Om → AQ → Prop} {p : Pos} (hc : CallR X (.type T) r) (hf : SimC X.K ca r f) (hg : Gl X x) (hm : X.mg x = none) (hv : bootBuiltins x = some (.type T)) (ha : AA X ca W (e :: es) tr rr) (hn : x ≠ "__name__" := by decide) (hdb : (x == ("__debug__" : Str)) = false := by decide)
    (he : starEach (e :: es) X.env = (false, eval e X.env) :: starEach es X.env := by rfl) (hpl : (backTo pos (starEach es X.env)).any (·.1) = false := by rfl) : AE X ca W (.Call (.Name x p) (e :: es) [] pos) (tCB r tr) (aCall f rr) := ⟨pe_callTy hc hg hm hv ha.pe hn hdb he hpl, sim_call hf ha.sim⟩
theorem dv1 {K : PySem.W.Frag} {G : Hp} {vs : List V} {x : D} (h : DVs K G vs [x]) : ∃ v, vs = [v] ∧ DV K G v x := by
  cases h with
  | cons a b => cases b; exact ⟨_, rfl, a⟩
theorem dv2 {K : PySem.W.Frag} {G : Hp} {vs : List V} {x y : D} (h : DVs K G vs [x, y]) : ∃ v w, vs = [v, w] ∧ DV K G v x ∧ DV K G w y := by
  cases h with
  | cons a b =>
    obtain ⟨w, rfl, c⟩ := dv1 b
    exact ⟨_, w, rfl, a, c⟩
/-- abs(i) -/
def fAbs : List D → Om → AQ → Prop := fun xs Ω Q => ∃ i : Int, xs = [.int i] ∧ Q (.int (if i < 0 then -i else i)) Ω
theorem simc_abs {K : PySem.W.Frag} : SimC K ca (fun xs H Q => ∃ i, xs = [.int i] ∧ Q (.int (if i < 0 then -i else i)) H) fAbs := by
  intro H G own Ω xs vs Qa Qc r d h k
  obtain ⟨i, rfl, q⟩ := h
  obtain ⟨v, rfl, dv⟩ := dv1 d
  cases dv
  exact ⟨i, rfl, k _ _ _ _ _ _ Stp.refl r (.int _) q⟩
theorem boot_abs' : bootBuiltins "abs" = some (.builtin "abs") := by decide +kernel
theorem ae_abs {p : Pos} (hg : Gl X "abs") (hm : X.mg "abs" = none) (ha : AE X ca W e te re) (hs : starEach [e] X.env = (false, eval e X.env) :: starEach [] X.env := by rfl) : AE X ca W (.Call (.Name "abs" p) [e] [] pos) (tCB (fun xs H Q => ∃ i, xs = [.int i] ∧ Q (.int (if i < 0 then -i else i)) H) (tCons te tNil)) (aCall fAbs (aCons re aNil)) :=
  ae_callB call_abs simc_abs hg hm boot_abs' (aa_cons ha aa_nil hs) (by decide) (by decide) hs
/-- int(flag) -/
def fIntB : List D → Om → AQ → Prop := fun xs Ω Q => ∃ k : Bool, xs = [.bl k] ∧ Q (.int (if k then 1 else 0)) Ω
def rInt1 : List V → Hp → VK → Prop := fun xs H Q => (∃ i, xs = [.int i] ∧ Q (.int i) H) ∨ ∃ k, xs = [.bl k] ∧ Q (.int (if k then 1 else 0)) H
theorem boot_int' : bootBuiltins "int" = some (.type "int") := by decide +kernel
theorem ae_intB {p : Pos} (hg : Gl X "int") (hm : X.mg "int" = none) (ha : AE X ca W e te re) (hs : starEach [e] X.env = (false, eval e X.env) :: starEach [] X.env := by rfl) : AE X ca W (.Call (.Name "int" p) [e] [] pos) (tCB rInt1 (tCons te tNil)) (aCall fIntB (aCons re aNil)) :=
  ae_callTy call_int1 (by
    intro H G own Ω xs vs Qa Qc r d h k
    obtain ⟨i, rfl, q⟩ := h
    obtain ⟨v, rfl, dv⟩ := dv1 d
    cases dv
    exact .inr ⟨i, rfl, k _ _ _ _ _ _ Stp.refl r (.int _) q⟩) hg hm boot_int' (aa_cons ha aa_nil hs) (by decide) (by decide) hs
/-- len of data, or of a list of ours -/
def fLen : List D → Om → AQ → Prop := fun xs Ω Q => ∃ x ys, xs = [x] ∧ x.seq Ω = some ys ∧ Q (.int (ys.length : Int)) Ω
theorem boot_len' : bootBuiltins "len" = some (.builtin "len") := by decide +kernel
theorem ae_len {p : Pos} (hg : Gl X "len") (hm : X.mg "len" = none) (ha : AE X ca W e te re) (hs : starEach [e] X.env = (false, eval e X.env) :: starEach [] X.env := by rfl) : AE X ca W (.Call (.Name "len" p) [e] [] pos) (tCB (Evl.rLenS X.K) (tCons te tNil)) (aCall fLen (aCons re aNil)) :=
  ae_callB call_len_seq (by
    intro H G own Ω xs vs Qa Qc r d h k
    obtain ⟨x, ys, rfl, hs, q⟩ := h
    obtain ⟨v, rfl, dv⟩ := dv1 d
    obtain ⟨p, vs, rfl, ds, hv⟩ := seq_of r dv hs
    refine ⟨p, vs, rfl, hv, k _ _ _ _ (.int (ys.length : Int)) _ Stp.refl r ?_ q⟩
    rw [ds.length]
    exact .int _) hg hm boot_len' (aa_cons ha aa_nil hs) (by decide) (by decide) hs
/-- list(x): data; a list of ours -/
def fListD : List D → Om → AQ → Prop := fun xs Ω Q => ∃ x ys, xs = [x] ∧ x.seq Ω = some ys ∧ Q (.lst ys) Ω
def fListO : List D → Om → AQ → Prop := fun xs Ω Q => ∃ x ys, xs = [x] ∧ x.seq Ω = some ys ∧ ∀ p, Ω p = none → Q (.o p) (oset Ω p (.lst ys))
theorem boot_list' : bootBuiltins "list" = some (.type "list") := by decide +kernel
/-- tuple(x) -/
def fTuple : List D → Om → AQ → Prop := fun xs Ω Q => ∃ x ys, xs = [x] ∧ x.seq Ω = some ys ∧ Q (.tup ys) Ω
def rTupleS (K : PySem.W.Frag) : List V → Hp → VK → Prop := fun xs H Q => ∃ p ys, xs = [.ref p] ∧ ((SqL K H p ys ∧ ∀ l, H l = none → Q (.ref l) (upd H l (.tup ys))) ∨ (SqT K H p ys ∧ Q (.ref p) H))
theorem boot_tuple' : bootBuiltins "tuple" = some (.type "tuple") := by decide +kernel
theorem ae_tuple {p : Pos} (hg : Gl X "tuple") (hm : X.mg "tuple" = none) (ha : AE X ca W e te re) (hs : starEach [e] X.env = (false, eval e X.env) :: starEach [] X.env := by rfl) : AE X ca W (.Call (.Name "tuple" p) [e] [] pos) (tCB (rTupleS X.K) (tCons te tNil)) (aCall fTuple (aCons re aNil)) :=
  ae_callTy call_tuple_of (by
    intro H G own Ω xs vs Qa Qc r d h k
    obtain ⟨x, ys, rfl, hs, q⟩ := h
    obtain ⟨v, rfl, dv⟩ := dv1 d
    by_cases ht : ∃ zs, x = .tup zs
    · obtain ⟨zs, rfl⟩ := ht
      simp only [D.seq, Option.some.injEq] at hs
      subst hs
      cases dv with
      | tup a b => exact ⟨_, _, rfl, .inr ⟨same_seqT r.sub a, k _ _ _ _ _ _ Stp.refl r (.tup a b) q⟩⟩
    · obtain ⟨p, vs, rfl, ds, hv⟩ : ∃ p vs, v = .ref p ∧ DVs X.K G vs ys ∧ SqL X.K H p vs := by
        cases dv with
        | lst a b => simp only [D.seq, Option.some.injEq] at hs; subst hs; exact ⟨_, _, rfl, b, r.sub.seq a⟩
        | tup a b => exact (ht ⟨_, rfl⟩).elim
        | o a =>
          cases qq : Ω a with
          | none => simp only [D.seq, qq] at hs; cases hs
          | some u =>
            cases u with
            | lst zs =>
              simp only [D.seq, qq, Option.some.injEq] at hs; subst hs
              obtain ⟨vs, hv, dv⟩ := r.lstAt qq
              exact ⟨_, vs, rfl, dv, SqL.of hv⟩
            | row => simp only [D.seq, qq] at hs; cases hs
            | dic _ => simp only [D.seq, qq] at hs; cases hs
            | obj _ _ => simp only [D.seq, qq] at hs; cases hs
        | _ => simp [D.seq] at hs
      refine ⟨p, vs, rfl, .inl ⟨hv, fun l hl => ?_⟩⟩
      obtain ⟨r4, e4⟩ := r.data (u := .tup vs) hl
      exact k _ _ _ _ _ _ (stp_data e4 hl) r4 (.tup (SqT.of upd_same) (ds.mono e4)) q) hg hm boot_tuple' (aa_cons ha aa_nil hs) (by decide) (by decide) hs
/-- x.bit_length() -/
def aBits (ra : ATE) : ATE := fun Wa ρ Ω Q => ra Wa ρ Ω fun x Ω1 => ∃ i, x = .int i ∧ Q (.int (Builtin.Int.intBits i : Nat)) Ω1
theorem ae_bits {apos : Pos} (ha : AE X ca W e te re) (hbase : attributeBase e "bit_length" X.env (eval e X.env) = eval e X.env := by rfl) (hline : (apos.endLine == pos.line) = true := by rfl) : AE X ca W (.Call (.Attribute e "bit_length" apos) [] [] pos) (tBits te) (aBits re) :=
  ⟨pe_bits ha.pe hbase hline, fun σ H G own ρ Ω Wa Qa Qc r s h k kx => ha.sim σ H G own ρ Ω Wa _ _ r s h (fun v H1 G1 own1 d Ω1 e1 r1 dv1 q1 => by
  obtain ⟨i, rfl, q⟩ := q1
  cases dv1
  exact ⟨i, rfl, k _ _ _ _ _ _ e1 r1 (.int _) q⟩) kx⟩
/-- the class of data, of a list of ours -/
def D.ty (Ω : Om) : D → Option String
  | .non => some "NoneType"
  | .bl _ => some "bool"
  | .int _ => some "int"
  | .str _ => some "str"
  | .tup _ => some "tuple"
  | .lst _ => some "list"
  | .o a => match Ω a with
    | some (.lst _) => some "list"
    | _ => none
theorem ty_of {K : PySem.W.Frag} {G H : Hp} {own : Addr → Option Addr} {Ω : Om} {v : V} {x : D} {t : String} (r : Rel K ca G own H Ω) (dv : DV K G v x) (h : x.ty Ω = some t) : TyX K H v (.type t) := by
  cases dv with
  | non => cases h; exact .base .non
  | bl b => cases h; exact .base (.bl b)
  | int b => cases h; exact .base (.int b)
  | str b => cases h; exact .base (.str b)
  | lst a b =>
    cases h
    rcases r.sub.seq a with (z | ⟨o, z⟩) | ⟨o, its, n, z, c, _⟩
    · exact .base (.lst z)
    · exact .base (.frz z)
    · exact .kList z c
  | tup a b =>
    cases h
    rcases same_seqT r.sub a with (z | ⟨o, z⟩) | ⟨o, its, n, z, c, _⟩
    · exact .base (.tup z)
    · exact .fTuple z
    · exact .kTuple z c
  | o a =>
    cases qq : Ω a with
    | none => simp only [D.ty, qq] at h; cases h
    | some u =>
      cases u with
      | lst zs =>
        simp only [D.ty, qq, Option.some.injEq] at h; subst h
        obtain ⟨vs, hv, dv⟩ := r.lstAt qq
        exact .base (.lst hv)
      | row => simp only [D.ty, qq] at h; cases h
      | dic _ => simp only [D.ty, qq] at h; cases h
      | obj _ _ => simp only [D.ty, qq] at h; cases h
def isT (t T : String) : Option Bool := L2.kitB t T
def aIsi (T : String) (ra : ATE) : ATE := fun Wa ρ Ω Q => ra Wa ρ Ω fun x Ω1 => ∃ t b, x.ty Ω1 = some t ∧ isT t T = some b ∧ Q (.bl b) Ω1
theorem boot_isi : bootBuiltins "isinstance" = some (.builtin "isinstance") := by decide +kernel
theorem ae_isi {p p2 : Pos} {T : Str} {Tn : String} (hg : Gl X "isinstance") (hm : X.mg "isinstance" = none) (hT : Gl X T) (hmT : X.mg T = none) (hv : bootBuiltins T = some (.type Tn)) (ha : AE X ca W e te re)
    (hs : starEach [e, .Name T p2] X.env = (false, eval e X.env) :: starEach [.Name T p2] X.env := by rfl) (hpl : (backTo pos (starEach [.Name T p2] X.env)).any (·.1) = false := by rfl) (hs2 : starEach [.Name T p2] X.env = (false, eval (.Name T p2) X.env) :: starEach [] X.env := by rfl) (hn : T ≠ "__name__" := by decide) (hd : (T == ("__debug__" : Str)) = false := by decide) :
    AE X ca W (.Call (.Name "isinstance" p) [e, .Name T p2] [] pos) (tCB (rIsi X.K) (tCons te (tCons (tC (.ty Tn)) tNil))) (aIsi Tn re) :=
  ⟨pe_callB call_isi hg hm boot_isi (pa_cons ha.pe (pa_cons (pe_bltn hT hmT hv rfl hn hd) pa_nil hs2) hs) (by decide) (by decide) hs hpl, fun σ H G own ρ Ω Wa Qa Qc r s h k kx => ha.sim σ H G own ρ Ω Wa _ _ r s h (fun v H1 G1 own1 d Ω1 e1 r1 dv1 q1 => by
    obtain ⟨t, b, ht, hb, q⟩ := q1
    exact ⟨v, .ty Tn, .type t, .type Tn, b, rfl, .ty Tn, ty_of r1 dv1 ht, kit_ty hb, k _ _ _ _ _ _ e1 r1 (.bl b) q⟩) kx⟩
abbrev AF := List D → Om → AQ → (Value → Om → Prop) → Prop
def spA (K : PySem.W.Frag) (ca : CA) (F : AF) : Sp := fun vs H Q E => ∃ (G : Hp) (own : Addr → Option Addr) (Ω : Om) (ds : List D) (Qa : AQ) (Ea : Value → Om → Prop), Rel K ca G own H Ω ∧ DVs K G vs ds ∧ F ds Ω Qa Ea ∧
  (∀ v H' G' own' d Ω', Stp G own H G' own' H' → Rel K ca G' own' H' Ω' → DV K G' v d → Qa d Ω' → Q v H') ∧ (∀ cls H' G' own' Ω', Stp G own H G' own' H' → Rel K ca G' own' H' Ω' → Ea cls Ω' → E cls none H')
def aFn (F : AF) (rr : ATA) : ATE := fun Wa ρ Ω Q => rr Wa ρ Ω fun ds Ω1 => F ds Ω1 Q fun cls Ω' => Wa cls ρ Ω'
theorem sim_fn {K : PySem.W.Frag} {F : AF} (sa : SimA K ca W tr rr) : SimE K ca W (tCallS (spA K ca F) (WE W) tr) (aFn F rr) := fun σ H G own ρ Ω Wa Qa Qc r s h' k kx =>
  sa σ H G own ρ Ω Wa _ _ r s h' (fun v H1 G1 own1 d Ω1 e1 r1 dv1 q1 => ⟨G1, own1, Ω1, d, Qa, fun cls Ω' => Wa cls ρ Ω', r1, dv1, q1, fun v2 H2 G2 own2 d2 Ω2 e2 => k v2 H2 G2 own2 d2 Ω2 (e1.trans e2), fun cls H2 G2 own2 Ω2 e2 => kx cls H2 G2 own2 Ω2 (e1.trans e2)⟩) kx
theorem ae_fn {k : Nat} {f : Addr} {fd : FuncData} {ps : List Str} {x : Str} {p : Pos} {F : AF} (G : FnOk X.prog X.w X.K X.mg X.base (L2.CX X.prog X.w) k f fd ps (spA X.K ca F)) (hr : Room k X.A) (hm : X.mg x = some (.ref f)) (hk : PySem.W.keepIn X.K (.ref f) = true) (hb : Binds X.K fd ps []) (tk : Takes X W)
    (ha : AA X ca W (e :: es) tr rr) (hg : Gl X x := by rfl) (hdb : (x == ("__debug__" : Str)) = false := by decide) (he : starEach (e :: es) X.env = (false, eval e X.env) :: starEach es X.env := by rfl) (hpl : (backTo pos (starEach es X.env)).any (·.1) = false := by rfl) :
    AE X ca W (.Call (.Name x p) (e :: es) [] pos) (tCallS (spA X.K ca F) (WE W) tr) (aFn F rr) := ⟨pe_callS G hr hg hm hk hb (fun σ => passAt tk σ) ha.pe hdb he hpl, sim_fn ha.sim⟩
variable {st : Stmt} {rest : List Stmt} {ts tu : TS} {rs ru : ATS}
def aNext : ATS := fun _ Da ρ Ω => Da.nx ρ Ω
def aSeq (t u : ATS) : ATS := fun Wa Da ρ Ω => t Wa { Da with nx := u Wa Da } ρ Ω
theorem ass_nil : ASs X ca W [] tNext aNext := ⟨pss_nil, fun σ H G own ρ Ω Wa Da Dc r s h k => k.nx _ _ _ _ _ _ Stp.refl r s h⟩
theorem ass_cons (h1 : AS X ca W st ts rs) (h2 : ASs X ca W rest tu ru) : ASs X ca W (st :: rest) (tSeq ts tu) (aSeq rs ru) := ⟨pss_cons h1.pe h2.pe, fun σ H G own ρ Ω Wa Da Dc r s h k =>
  h1.sim σ H G own ρ Ω Wa { Da with nx := ru Wa Da } { Dc with nx := tu Dc } r s h ⟨fun σ' H' G' own' ρ' Ω' e r' s' q => h2.sim σ' H' G' own' ρ' Ω' Wa Da Dc r' s' q (k.mono e), k.rt, k.bk, k.ct, k.ex⟩⟩
theorem ass_one (h1 : AS X ca W st ts rs) : ASs X ca W [st] ts rs := ⟨pss_one h1.pe, h1.sim⟩
def aDrop (re : ATE) : ATS := fun Wa Da ρ Ω => re Wa ρ Ω fun _ Ω1 => Da.nx ρ Ω1
theorem as_expr (ha : AE X ca W e te re) (hs : swapsWith e none pos.line X.env = pure false := by rfl) : AS X ca W (.Expr e pos) (tDrop te) (aDrop re) := ⟨ps_expr ha.pe hs, fun σ H G own ρ Ω Wa Da Dc r s h k => ha.sim σ H G own ρ Ω Wa _ _ r s h (fun v H1 G1 own1 d Ω1 e1 r1 dv1 q1 => k.nx _ _ _ _ _ _ e1 r1 (s.mono e1.same) q1) (k.kx s)⟩
def aRet (re : ATE) : ATS := fun Wa Da ρ Ω => re Wa ρ Ω Da.rt
theorem as_ret (ha : AE X ca W e te re) : AS X ca W (.Return (some e) pos) (tRet te) (aRet re) := ⟨ps_ret ha.pe, fun σ H G own ρ Ω Wa Da Dc r s h k => ha.sim σ H G own ρ Ω Wa _ _ r s h (fun v H1 G1 own1 d Ω1 e1 r1 dv1 q1 => k.rt _ _ _ _ _ _ e1 r1 dv1 q1) (k.kx s)⟩
def aRetN : ATS := fun _ Da _ Ω => Da.rt .non Ω
def aIfS (c : ATT) (t u : ATS) : ATS := fun Wa Da ρ Ω => c Wa ρ Ω fun b Ω1 => if b = true then t Wa Da ρ Ω1 else u Wa Da ρ Ω1
theorem as_if {c : Expr} {l m : List Stmt} {tc : TT} {rc : ATT} (hc : AT X ca W c tc rc) (h1 : ASs X ca W l ts rs) (h2 : ASs X ca W m tu ru) : AS X ca W (.If c l m pos) (tIfS tc ts tu) (aIfS rc rs ru) := ⟨ps_if hc.pe h1.pe h2.pe, fun σ H G own ρ Ω Wa Da Dc r s h k =>
  hc.sim σ H G own ρ Ω Wa _ _ r s h (fun b H1 G1 own1 Ω1 e1 r1 q1 => by
    cases b with
    | true => exact h1.sim σ H1 G1 own1 ρ Ω1 Wa Da Dc r1 (s.mono e1.same) q1 (k.mono e1)
    | false => exact h2.sim σ H1 G1 own1 ρ Ω1 Wa Da Dc r1 (s.mono e1.same) q1 (k.mono e1)) (k.kx s)⟩
/-- targets -/
abbrev AG := D → En → Om → (En → Om → Prop) → Prop
def SimG (K : PySem.W.Frag) (ca : CA) (g : TG) (ag : AG) : Prop := ∀ (σ : St) (H G : Hp) own ρ Ω v d (Qa : En → Om → Prop) (Qc : St → Hp → Prop), Rel K ca G own H Ω → SR K G σ ρ → DV K G v d → ag d ρ Ω Qa →
  (∀ σ' H' G' own' ρ' Ω', Stp G own H G' own' H' → Rel K ca G' own' H' Ω' → SR K G' σ' ρ' → Qa ρ' Ω' → Qc σ' H') → g v σ H Qc
structure AGt (X : Cx) (ca : CA) (e : Expr) (g : TG) (ag : AG) : Prop where
  pe : PG X e g
  sim : SimG X.K ca g ag
def agName (i : Nat) : AG := fun d ρ Ω Q => Q (ρ.set i (some d)) Ω
theorem simg_name {K : PySem.W.Frag} {i : Nat} : SimG K ca (gName i) (agName i) := fun σ H G own ρ Ω v d Qa Qc r s dv h k => k _ _ _ _ _ _ Stp.refl r (s.set i dv) h
theorem ag_name {i : Nat} {x : Str} (hN : X.N.Nodup) (hi : X.N[i]? = some x) (hx : Loc X.env.scope x) (hf : X.fn x = true ∨ X.env.scope.names.lookup x = some .local := by first | exact .inl rfl | exact .inr rfl | assumption) : AGt X ca (.Name x pos) (gName i) (agName i) := ⟨pg_name hN hi hx hf, simg_name⟩
/-- several names -/
def setAll (ρ : En) : List Nat → List D → En
  | i :: is, d :: ds => setAll (ρ.set i (some d)) is ds
  | _, _ => ρ
def gNames : List Nat → TGs
  | [] => gNil
  | i :: is => gCons (gName i) (gNames is)
structure AGs (X : Cx) (es : List Expr) (is : List Nat) : Prop where
  pe : PGs X es (gNames is)
theorem ags_nil : AGs X [] [] := ⟨pgs_nil⟩
theorem ags_cons {i : Nat} {is : List Nat} {x : Str} {p : Pos} (hN : X.N.Nodup) (hi : X.N[i]? = some x) (hx : Loc X.env.scope x) (hr : AGs X es is) (hf : X.fn x = true ∨ X.env.scope.names.lookup x = some .local := by first | exact .inl rfl | exact .inr rfl | assumption)
    (hs : (assignEach (.Name x p :: es) X.env).map (·.2) = assign (.Name x p) X.env :: (assignEach es X.env).map (·.2) := by rfl) : AGs X (.Name x p :: es) (i :: is) := ⟨pgs_cons (pg_name hN hi hx hf) hr.pe hs⟩
def agTup (n : Nat) (is : List Nat) : AG := fun d ρ Ω Q => ∃ xs, d = .tup xs ∧ xs.length = n ∧ is.length = n ∧ Q (setAll ρ is xs) Ω
theorem gnames_run : ∀ {is : List Nat} {K : PySem.W.Frag} {G : Hp} {vs : List V} {xs : List D} {σ : St} {ρ : En} {H : Hp} {Qc : St → Hp → Prop}, is.length = xs.length → SR K G σ ρ → DVs K G vs xs → (∀ σ', SR K G σ' (setAll ρ is xs) → Qc σ' H) → gNames is vs σ H Qc
  | [], K, G, vs, xs, σ, ρ, H, Qc, hl, s, dv, k => by
    cases xs with
    | nil => cases dv; exact ⟨rfl, k _ s⟩
    | cons a b => simp at hl
  | i :: is, K, G, vs, xs, σ, ρ, H, Qc, hl, s, dv, k => by
    cases xs with
    | nil => simp at hl
    | cons a b =>
      cases dv with
      | cons h1 h2 =>
        refine ⟨_, _, rfl, ?_⟩
        exact gnames_run (by simpa using hl) (s.set i h1) h2 k
theorem ag_tup {k n : Nat} {is : List Nat} (hc : X.calm = true) (h : AGs X es is) (hn : (assignEach es X.env).length = n := by rfl) (hst : (assignEach es X.env).findIdx? (·.1) = none := by rfl) : AGt X ca (.Tuple es k pos) (gTup X.K n (gNames is)) (agTup n is) := ⟨pg_tup hc h.pe hn hst, fun σ H G own ρ Ω v d Qa Qc r s dv h k => by
  obtain ⟨xs, rfl, hl, hi, q⟩ := h
  cases dv with
  | tup a b =>
    exact ⟨_, _, rfl, same_seqT r.sub a, by rw [b.length]; exact hl, gnames_run (by rw [hi, hl]) s b fun σ' s' => k _ _ _ _ _ _ Stp.refl r s' q⟩⟩
def aAsg (re : ATE) (g : AG) : ATS := fun Wa Da ρ Ω => re Wa ρ Ω fun d Ω1 => g d ρ Ω1 Da.nx
theorem sim_asg {K : PySem.W.Frag} {g : TG} {ag : AG} (ha : SimE K ca W te re) (hg : SimG K ca g ag) : SimS K ca W (tAsg te g) (aAsg re ag) := fun σ H G own ρ Ω Wa Da Dc r s h k =>
  ha σ H G own ρ Ω Wa _ _ r s h (fun v H1 G1 own1 d Ω1 e1 r1 dv1 q1 => hg σ H1 G1 own1 ρ Ω1 v d _ _ r1 (s.mono e1.same) dv1 q1 fun σ' H' G' own' ρ' Ω' e2 => k.nx _ _ _ _ _ _ (e1.trans e2)) (k.kx s)
theorem as_asg {tg : Expr} {g : TG} {ag : AG} (ha : AE X ca W e te re) (hg : AGt X ca tg g ag) (hs : swapsWithSole [tg] e pos.line X.env = pure false := by rfl) (hw : swappedStores [tg] e X.env = pure none := by rfl)
    (h1 : (assignEach [tg] X.env).map (·.2) = [assign tg X.env] := by rfl) : AS X ca W (.Assign [tg] e pos) (tAsg te g) (aAsg re ag) := ⟨ps_asg ha.pe hg.pe hs hw h1, sim_asg ha.sim hg.sim⟩
def aSet (i : Nat) (re : ATE) : ATS := aAsg re (agName i)
theorem as_set (i : Nat) {x : Str} {pos' : Pos} (hN : X.N.Nodup) (ha : AE X ca W e te re) (hi : X.N[i]? = some x := by rfl) (hx : Loc X.env.scope x := by first | exact Or.inl rfl | exact Or.inr rfl) (hs : swapsWith e (some (.Name x pos')) pos.line X.env = pure false := by rfl) (hf : X.fn x = true ∨ X.env.scope.names.lookup x = some .local := by first | exact .inl rfl | exact .inr rfl | assumption) :
    AS X ca W (.Assign [.Name x pos'] e pos) (tAsg te (gName i)) (aSet i re) := ⟨ps_set hN hi hx ha.pe hs hf, sim_asg ha.sim simg_name⟩
def aPar (i j : Nat) (ra rb : ATE) : ATS := fun Wa Da ρ Ω => ra Wa ρ Ω fun v Ω1 => rb Wa ρ Ω1 fun w Ω2 => Da.nx ((ρ.set i (some v)).set j (some w)) Ω2
theorem as_par (i j : Nat) {x y : Str} {px py pt : Pos} {kt k2 pt2} (hc : X.calm = true) (hN : X.N.Nodup) (ha : AE X ca W a ta ra) (hb : AE X ca W b tb rb) (hi : X.N[i]? = some x := by rfl) (hj : X.N[j]? = some y := by rfl) (hij : i ≠ j := by decide)
    (hx : X.env.scope.names.lookup x = some .local := by rfl) (hy : X.env.scope.names.lookup y = some .local := by rfl)
    (hw : swappedStores [.Tuple [.Name x px, .Name y py] kt pt] (.Tuple [a, b] k2 pt2) X.env = pure (some [x, y]) := by rfl)
    (hs : swapsWithSole [.Tuple [.Name x px, .Name y py] kt pt] (.Tuple [a, b] k2 pt2) pos.line X.env = pure false := by rfl)
    (s1 : starEach [a, b] X.env = (false, eval a X.env) :: starEach [b] X.env := by rfl) (s2 : starEach [b] X.env = (false, eval b X.env) :: starEach [] X.env := by rfl) :
    AS X ca W (.Assign [.Tuple [.Name x px, .Name y py] kt pt] (.Tuple [a, b] k2 pt2) pos) (tPar i j (tCons ta (tCons tb tNil))) (aPar i j ra rb) := ⟨ps_par hc hN hi hj hij hx hy (pa_cons ha.pe (pa_cons hb.pe pa_nil s2) s1) hw hs, fun σ H G own ρ Ω Wa Da Dc r s h k =>
  ha.sim σ H G own ρ Ω Wa _ _ r s h (fun v1 H1 G1 own1 d1 Ω1 e1 r1 dv1 q1 => hb.sim σ H1 G1 own1 ρ Ω1 Wa _ _ r1 (s.mono e1.same) q1 (fun v2 H2 G2 own2 d2 Ω2 e2 r2 dv2 q2 =>
    ⟨v1, v2, rfl, k.nx _ _ _ _ _ _ (e1.trans e2) r2 (((s.mono (e1.trans e2).same).set i (dv1.mono e2.same)).set j dv2) q2⟩) ((k.kx s).mono e1)) (k.kx s)⟩
/-- x.append(e), x[i] = e: a list of ours -/
def IsLst (x : D) (Ω : Om) : Prop := ∃ a xs, x = .o a ∧ Ω a = some (.lst xs)
def aApp (ra re : ATE) : ATE := fun Wa ρ Ω Q => ra Wa ρ Ω fun x Ω1 => IsLst x Ω1 ∧ re Wa ρ Ω1 fun y Ω2 => ∃ a xs, x = .o a ∧ Ω2 a = some (.lst xs) ∧ xs.length < sizeLine ∧ Q .non (oset Ω2 a (.lst (xs ++ [y])))
theorem ae_app {apos : Pos} (ho : AE X ca W a ta ra) (ha : AE X ca W e te re) (hbase : attributeBase a "append" X.env (eval a X.env) = eval a X.env := by rfl)
    (hfew : ((backTo pos (starEach [e] X.env)).all (fun x => !x.1) && (backToKw pos (keywordEach [] X.env)).all (fun x => x.1.isSome)
      && decide (([e] : List Expr).length + ([] : List Keyword).length + (if ([] : List Keyword).isEmpty then 0 else 1) < 30)) = true := by rfl)
    (hline : (apos.endLine == pos.line) = true := by rfl) (hs : starEach [e] X.env = (false, eval e X.env) :: starEach [] X.env := by rfl) :
    AE X ca W (.Call (.Attribute a "append" apos) [e] [] pos) (tBM X.K "list" rAppend ta (tCons te tNil)) (aApp ra re) :=
  ⟨pe_bm PySem.F.plainAttrs_list PySem.F.slot_list_append PySem.F.type_list_append mt_append ho.pe (pa_cons ha.pe pa_nil hs) hbase hfew hline hs rfl, fun σ H G own ρ Ω Wa Qa Qc r s h k kx => ho.sim σ H G own ρ Ω Wa _ _ r s h (fun v H1 G1 own1 d Ω1 e1 r1 dv1 q1 => by
    obtain ⟨⟨l, xs, rfl, hl⟩, q⟩ := q1
    cases dv1
    obtain ⟨vs, hv, dvs⟩ := r1.lstAt hl
    refine ⟨.inl ⟨rfl, _, SqL.of hv⟩, ?_⟩
    refine ha.sim σ H1 G1 own1 ρ Ω1 Wa _ _ r1 (s.mono e1.same) q (fun w H2 G2 own2 y Ω2 e2 r2 dv2 q2 => ?_) (kx.mono e1)
    obtain ⟨l', ys, e, hl2, hz, q3⟩ := q2
    cases e
    obtain ⟨vs2, hv2, dvs2⟩ := r2.lstAt hl2
    have hd : DVs X.K G2 (vs2 ++ [w]) (ys ++ [y]) := dvs2.append (.cons dv2 .nil)
    exact ⟨l, vs2, w, rfl, rfl, hv2, by rw [dvs2.length]; exact hz, k _ _ _ _ _ _ ((e1.trans e2).trans (stp_own (r2.objs _ _ hl2).1)) (r2.setLst hl2 hd) .non q3⟩) kx⟩
def aSetIx (rv ro ri : ATE) : ATS := fun Wa Da ρ Ω => rv Wa ρ Ω fun y Ω1 => ro Wa ρ Ω1 fun x Ω2 => ri Wa ρ Ω2 fun i Ω3 => ∃ a xs k j, x = .o a ∧ Ω3 a = some (.lst xs) ∧ i = .int k ∧ ixN xs.length k = some j ∧ Da.nx ρ (oset Ω3 a (.lst (xs.set j y)))
theorem as_setIx {o i v : Expr} {to ti tv : TE} {ro ri rv : ATE} {spos : Pos} (hv : AE X ca W v tv rv) (ho : AE X ca W o to ro) (hi : AE X ca W i ti ri)
    (ha : ∀ v, assign (.Subscript o i spos) X.env v = (do
      let ov ← holding [v] (eval o X.env)
      let iv ← holding [v, ov] (eval i X.env)
      standAt spos
      holding [v, ov, iv] (setItem ov iv v)
      release [v, ov, iv] []) := by intro _; rfl) (hs : swapsWithSole [.Subscript o i spos] v pos.line X.env = pure false := by rfl) (hw : swappedStores [.Subscript o i spos] v X.env = pure none := by rfl)
    (h1 : (assignEach [.Subscript o i spos] X.env).map (·.2) = [assign (.Subscript o i spos) X.env] := by rfl) :
    AS X ca W (.Assign [.Subscript o i spos] v pos) (tAsg tv (gSub to ti rSetL)) (aSetIx rv ro ri) := ⟨ps_asg hv.pe (pg_sub ho.pe hi.pe set_list ha) hs hw h1, fun σ H G own ρ Ω Wa Da Dc r s h k =>
  hv.sim σ H G own ρ Ω Wa _ _ r s h (fun v1 H1 G1 own1 d1 Ω1 e1 r1 dv1 q1 => ho.sim σ H1 G1 own1 ρ Ω1 Wa _ _ r1 (s.mono e1.same) q1 (fun v2 H2 G2 own2 d2 Ω2 e2 r2 dv2 q2 =>
    hi.sim σ H2 G2 own2 ρ Ω2 Wa _ _ r2 (s.mono (e1.trans e2).same) q2 (fun v3 H3 G3 own3 d3 Ω3 e3 r3 dv3 q3 => by
      obtain ⟨l, xs, z, j, rfl, hl, rfl, hj, q⟩ := q3
      cases dv2
      cases dv3
      obtain ⟨vs, hvs, dvs⟩ := r3.lstAt hl
      exact ⟨l, vs, z, j, rfl, rfl, hvs, by rw [dvs.length]; exact hj, k.nx _ _ _ _ _ _ (((e1.trans e2).trans e3).trans (stp_own (r3.objs _ _ hl).1)) (r3.setLst hl (dvs.set (dv1.mono (e2.trans e3).same) j)) (s.mono ((e1.trans e2).trans e3).same) q⟩) (((k.kx s).mono e1).mono e2)) ((k.kx s).mono e1)) (k.kx s)⟩
/-- while -/
def aWhile (c : ATT) (b : ATS) : ATS := fun Wa Da ρ Ω => ∃ Wn : Nat → En → Om → Prop, (∃ m, Wn m ρ Ω) ∧ ∀ m ρ Ω, Wn m ρ Ω → c Wa ρ Ω fun k Ω1 =>
  if k = true then b Wa { Da with nx := fun ρ' Ω' => ∃ m', m' < m ∧ Wn m' ρ' Ω', ct := fun ρ' Ω' => ∃ m', m' < m ∧ Wn m' ρ' Ω', bk := Da.nx } ρ Ω1 else Da.nx ρ Ω1
theorem as_while {c : Expr} {l : List Stmt} {tc : TT} {rc : ATT} (hp : PassesOwn (model X.prog X.w) X.A X.env X.xe) (hc : AT X ca W c tc rc) (hb : ASs X ca W l ts rs) : AS X ca W (.While c l [] pos) (tWhile tc ts) (aWhile rc rs) := ⟨ps_while hp hc.pe hb.pe, fun σ H G own ρ Ω Wa Da Dc r s h k => by
  obtain ⟨Wn, ⟨m0, w0⟩, turn⟩ := h
  refine ⟨fun m σ' H' => ∃ G' own' ρ' Ω', Stp G own H G' own' H' ∧ Rel X.K ca G' own' H' Ω' ∧ SR X.K G' σ' ρ' ∧ Wn m ρ' Ω', ⟨m0, G, own, ρ, Ω, Stp.refl, r, s, w0⟩, ?_⟩
  rintro m σ1 H1 ⟨G1, own1, ρ1, Ω1, e1, r1, s1, w1⟩
  refine hc.sim σ1 H1 G1 own1 ρ1 Ω1 Wa _ _ r1 s1 (turn m ρ1 Ω1 w1) (fun b H2 G2 own2 Ω2 e2 r2 q2 => ?_) ((k.mono e1).kx s1)
  cases b with
  | true =>
    rw [if_pos rfl] at q2 ⊢
    refine ⟨_, fun _ _ n => n, hb.sim σ1 H2 G2 own2 ρ1 Ω2 Wa _ _ r2 (s1.mono e2.same) q2 ⟨?_, fun _ _ _ _ _ _ e3 => k.rt _ _ _ _ _ _ ((e1.trans e2).trans e3), fun _ _ _ _ _ _ e3 => k.nx _ _ _ _ _ _ ((e1.trans e2).trans e3), ?_, fun _ _ _ _ _ _ _ e3 => k.ex _ _ _ _ _ _ _ ((e1.trans e2).trans e3)⟩⟩
    · rintro σ3 H3 G3 own3 ρ3 Ω3 e3 r3 s3 ⟨m', hm, w3⟩
      exact ⟨m', hm, G3, own3, ρ3, Ω3, (e1.trans e2).trans e3, r3, s3, w3⟩
    · rintro σ3 H3 G3 own3 ρ3 Ω3 e3 r3 s3 ⟨m', hm, w3⟩
      exact ⟨m', hm, G3, own3, ρ3, Ω3, (e1.trans e2).trans e3, r3, s3, w3⟩
  | false =>
    rw [if_neg Bool.false_ne_true] at q2 ⊢
    exact k.nx _ _ _ _ _ _ (e1.trans e2) r2 (s1.mono e2.same) q2⟩
/-- for over items that stand -/
def forL (g : AG) (b : ATS) : List D → ATS
  | [], _, Da, ρ, Ω => Da.nx ρ Ω
  | x :: xs, Wa, Da, ρ, Ω => g x ρ Ω fun ρ1 Ω1 => b Wa { Da with nx := forL g b xs Wa Da, ct := forL g b xs Wa Da, bk := Da.nx } ρ1 Ω1
def aFor (ra : ATE) (g : AG) (b : ATS) : ATS := fun Wa Da ρ Ω => ra Wa ρ Ω fun d Ω1 => ∃ xs, d = .lst xs ∧ forL g b xs Wa Da ρ Ω1
def aForT (ra : ATE) (g : AG) (b : ATS) : ATS := fun Wa Da ρ Ω => ra Wa ρ Ω fun d Ω1 => ∃ xs, d = .tup xs ∧ forL g b xs Wa Da ρ Ω1
/-- the invariant of a walk through data -/
def ForI (K : PySem.W.Frag) (ca : CA) (g : AG) (b : ATS) (xs : List D) (Wa : AW) (Da : AEnds) (G : Hp) (own : Addr → Option Addr) (H : Hp) (i : Nat) (σ' : St) (H' : Hp) : Prop :=
  ∃ G' own' ρ' Ω', Stp G own H G' own' H' ∧ Rel K ca G' own' H' Ω' ∧ SR K G' σ' ρ' ∧ forL g b (xs.drop i) Wa Da ρ' Ω'
theorem forI_turn {K : PySem.W.Frag} {G H H' : Hp} {own : Addr → Option Addr} {g : TG} {ag : AG} {xs : List D} {Wa : AW} {Da : AEnds} {Dc : Ends} {i : Nat} {x : D} {v : V} {σ' : St} (hg : SimG K ca g ag) (hb : SimS K ca W ts rs) (k : KE K ca W G own H Da Dc Wa) (hx : xs[i]? = some x) (dv : DV K G v x)
    (p : ForI K ca ag rs xs Wa Da G own H i σ' H') : g v σ' H' fun σ2 H2 => ts { Dc with nx := ForI K ca ag rs xs Wa Da G own H (i + 1), ct := ForI K ca ag rs xs Wa Da G own H (i + 1), bk := Dc.nx } σ2 H2 := by
  obtain ⟨G1, own1, ρ1, Ω1, e1, r1, s1, q⟩ := p
  have hlt : i < xs.length := (List.getElem?_eq_some_iff.mp hx).1
  have hd : xs.drop i = x :: xs.drop (i + 1) := by
    rw [List.drop_eq_getElem_cons hlt]
    rw [(List.getElem?_eq_some_iff.mp hx).2]
  rw [hd] at q
  refine hg σ' H' G1 own1 ρ1 Ω1 v x _ _ r1 s1 (dv.mono e1.same) q fun σ2 H2 G2 own2 ρ2 Ω2 e2 r2 s2 q2 => ?_
  have e12 := e1.trans e2
  exact hb σ2 H2 G2 own2 ρ2 Ω2 Wa _ _ r2 s2 q2 ⟨fun σ3 H3 G3 own3 ρ3 Ω3 e3 r3 s3 q3 => ⟨G3, own3, ρ3, Ω3, e12.trans e3, r3, s3, q3⟩, fun _ _ _ _ _ _ e3 => k.rt _ _ _ _ _ _ (e12.trans e3), fun _ _ _ _ _ _ e3 => k.nx _ _ _ _ _ _ (e12.trans e3),
    fun σ3 H3 G3 own3 ρ3 Ω3 e3 r3 s3 q3 => ⟨G3, own3, ρ3, Ω3, e12.trans e3, r3, s3, q3⟩, fun _ _ _ _ _ _ _ e3 => k.ex _ _ _ _ _ _ _ (e12.trans e3)⟩
theorem forI_end {K : PySem.W.Frag} {G H H' : Hp} {own : Addr → Option Addr} {ag : AG} {xs : List D} {Wa : AW} {Da : AEnds} {Dc : Ends} {σ' : St} {n : Nat} (hn : n = xs.length) (k : KE K ca W G own H Da Dc Wa)
    (p : ForI K ca ag rs xs Wa Da G own H n σ' H') : Dc.nx σ' H' := by
  obtain ⟨G1, own1, ρ1, Ω1, e1, r1, s1, q⟩ := p
  rw [hn, List.drop_length] at q
  exact k.nx _ _ _ _ _ _ e1 r1 s1 q
theorem as_for {iter tg : Expr} {l : List Stmt} {g : TG} {ag : AG} (hp : PassesOwn (model X.prog X.w) X.A X.env X.xe) (hc : X.calm = true) (ha : AE X ca W iter te re) (hg : AGt X ca tg g ag) (hb : ASs X ca W l ts rs) (hs : ∀ x, foldedSetIterable iter X.env x = pure x := by intro _; rfl) :
    AS X ca W (.For tg iter l [] pos) (tFor (iList X.K te) g ts) (aFor re ag rs) := ⟨ps_for hp hc (pi_list ha.pe) hg.pe hb.pe hs, fun σ H G own ρ Ω Wa Da Dc r s h k => by
  refine ha.sim σ H G own ρ Ω Wa _ _ r s h (fun v H1 G1 own1 d Ω1 e1 r1 dv1 q1 => ?_) (k.kx s)
  obtain ⟨xs, rfl, q⟩ := q1
  cases dv1 with
  | lst hq ds =>
    rename_i a vs
    have k1 := k.mono e1
    refine ⟨a, rfl, ⟨vs, r1.sub.seq hq⟩, for_list (K := X.K) (a := a) (xs := vs) (ForI X.K ca ag rs xs Wa Da G1 own1 H1) ⟨G1, own1, ρ, Ω1, Stp.refl, r1, s.mono e1.same, q⟩ (fun i σ' H' _ p => ?_) (fun i x σ' H' hx p => ?_) (fun σ' H' p => forI_end ds.length k1 p)⟩
    · obtain ⟨G2, own2, ρ2, Ω2, e2, r2, _⟩ := p
      exact r2.sub.seq (e2.same.seq hq)
    · obtain ⟨d, hd, dv⟩ := ds.getV hx
      exact forI_turn hg.sim hb.sim k1 hd dv p⟩
theorem as_forT {iter tg : Expr} {l : List Stmt} {g : TG} {ag : AG} (hp : PassesOwn (model X.prog X.w) X.A X.env X.xe) (hc : X.calm = true) (ha : AE X ca W iter te re) (hg : AGt X ca tg g ag) (hb : ASs X ca W l ts rs) (hs : ∀ x, foldedSetIterable iter X.env x = pure x := by intro _; rfl) :
    AS X ca W (.For tg iter l [] pos) (tFor (iTup X.K te) g ts) (aForT re ag rs) := ⟨ps_for hp hc (pi_tup ha.pe) hg.pe hb.pe hs, fun σ H G own ρ Ω Wa Da Dc r s h k => by
  refine ha.sim σ H G own ρ Ω Wa _ _ r s h (fun v H1 G1 own1 d Ω1 e1 r1 dv1 q1 => ?_) (k.kx s)
  obtain ⟨xs, rfl, q⟩ := q1
  cases dv1 with
  | tup hq ds =>
    rename_i a vs
    have k1 := k.mono e1
    refine ⟨a, rfl, ⟨vs, same_seqT r1.sub hq⟩, for_tup (K := X.K) (a := a) (xs := vs) (ForI X.K ca ag rs xs Wa Da G1 own1 H1) ⟨G1, own1, ρ, Ω1, Stp.refl, r1, s.mono e1.same, q⟩ (fun i σ' H' _ p => ?_) (fun i x σ' H' hx p => ?_) (fun σ' H' p => forI_end ds.length k1 p)⟩
    · obtain ⟨G2, own2, ρ2, Ω2, e2, r2, _⟩ := p
      exact same_seqT r2.sub (same_seqT e2.same hq)
    · obtain ⟨d, hd, dv⟩ := ds.getV hx
      exact forI_turn hg.sim hb.sim k1 hd dv p⟩
/-- the numbers from lo on, n of them -/
def rngD (lo : Int) (n : Nat) : List D := (List.range n).map fun i => .int (lo + (i : Nat))
def aForR1 (ra : ATE) (g : AG) (b : ATS) : ATS := fun Wa Da ρ Ω => ra Wa ρ Ω fun d Ω1 => ∃ j : Int, d = .int j ∧ -(2 ^ 62) ≤ j ∧ j < 2 ^ 62 ∧ forL g b (rngD 0 j.toNat) Wa Da ρ Ω1
theorem rngD_get {lo : Int} {n i : Nat} (h : i < n) : (rngD lo n)[i]? = some (.int (lo + (i : Nat))) := by
  unfold rngD
  rw [List.getElem?_map, List.getElem?_range h]
  rfl
theorem rngD_length {lo : Int} {n : Nat} : (rngD lo n).length = n := by unfold rngD; rw [List.length_map, List.length_range]
theorem as_forR1 {tg : Expr} {l : List Stmt} {g : TG} {ag : AG} {p p2 : Pos} (hp : PassesOwn (model X.prog X.w) X.A X.env X.xe) (hc : X.calm = true) (hgl : Gl X "range") (hm : X.mg "range" = none) (ha : AE X ca W a ta ra) (hg : AGt X ca tg g ag) (hb : ASs X ca W l ts rs)
    (hs1 : starEach [a] X.env = (false, eval a X.env) :: starEach [] X.env := by rfl) (hs2 : starEach [a] X.env = [(false, eval a X.env)] := by rfl) (hs : ∀ x, foldedSetIterable (.Call (.Name "range" p) [a] [] p2) X.env x = pure x := by intro _; rfl) :
    AS X ca W (.For tg (.Call (.Name "range" p) [a] [] p2) l [] pos) (tFor (iRng1 (tCons ta tNil)) g ts) (aForR1 ra ag rs) := ⟨ps_for hp hc (pi_range1 hgl hm (pa_cons ha.pe pa_nil hs1) hs2) hg.pe hb.pe hs, fun σ H G own ρ Ω Wa Da Dc r s h k => by
  refine ha.sim σ H G own ρ Ω Wa _ _ r s h (fun v H1 G1 own1 d Ω1 e1 r1 dv1 q1 => ?_) (k.kx s)
  obtain ⟨j, rfl, h1, h2, q⟩ := q1
  cases dv1
  have k1 := k.mono e1
  refine ⟨j, rfl, h1, h2, for_range (lo := 0) (n := j.toNat) (ForI X.K ca ag rs (rngD 0 j.toNat) Wa Da G1 own1 H1) ⟨G1, own1, ρ, Ω1, Stp.refl, r1, s.mono e1.same, q⟩ (fun i σ' H' hi p => ?_) (fun σ' H' p => forI_end rngD_length.symm k1 p)⟩
  exact forI_turn hg.sim hb.sim k1 (rngD_get hi) (.int _) p⟩
def aForR2 (ra rb : ATE) (g : AG) (b : ATS) : ATS := fun Wa Da ρ Ω => ra Wa ρ Ω fun d Ω1 => rb Wa ρ Ω1 fun d2 Ω2 => ∃ i j : Int, d = .int i ∧ d2 = .int j ∧ (-(2 ^ 62) ≤ i ∧ i < 2 ^ 62 ∧ -(2 ^ 62) ≤ j ∧ j < 2 ^ 62) ∧ forL g b (rngD i (j - i).toNat) Wa Da ρ Ω2
end
def astart (N : List Str) (ds : List D) : En := ds.map some ++ List.replicate (N.length - ds.length) none
theorem sr_start {K : PySem.W.Frag} {G : Hp} {N : List Str} {vs : List V} {ds : List D} (h : DVs K G vs ds) : SR K G (L2.start N vs) (astart N ds) := by
  refine ⟨by unfold L2.start astart; rw [List.length_append, List.length_append, List.length_map, List.length_map, List.length_replicate, List.length_replicate, h.length], fun i d hd => ?_⟩
  unfold astart at hd
  by_cases hi : i < (ds.map some).length
  · rw [List.getElem?_append_left hi, List.getElem?_map] at hd
    rw [List.length_map] at hi
    cases e : ds[i]? with
    | none => rw [e] at hd; cases hd
    | some x =>
      rw [e] at hd
      cases hd
      obtain ⟨v, hv, dv⟩ := h.get e
      refine ⟨v, ?_, dv⟩
      unfold L2.start
      rw [List.getElem?_append_left (by rw [List.length_map, h.length]; exact hi), List.getElem?_map, hv]
      rfl
  · rw [List.getElem?_append_right (by omega), List.getElem?_replicate] at hd
    split at hd <;> cases hd
section
variable {P : Program} {w : World} {K : PySem.W.Frag} {mg : Str → Option Value} {base : Heap} {ca : CA}
abbrev WD (E : XK) : WX := fun cls d _ H => E cls d H
theorem okA {x qual : Str} {st : Stmt} {f : Addr} {fd : FuncData} {N ps : List Str} {k : Nat} {Fa : AF} (F : Fun K x qual st f fd) (S : FnScope N ps (defScope st)) (len : ∀ ds Ω Q E, Fa ds Ω Q E → ds.length = ps.length)
    (h : ∀ (cdv : Value) (A : Around) (outer : List Env) (s : Shared) (H : Hp) (E : XK), Room k (A.deeper (PyProof.Rows.envOfC qual (defScope st) s.heap.objs.size f cdv)) →
      ∃ ts ta, ASs (cxOf (L2.CX P w) P w K mg base N qual (defScope st) f cdv A outer s H E) ca (WD E) (defBody st) ts ta ∧
        ∀ ds Ω Qa Ea, Fa ds Ω Qa Ea → ta (fun cls _ Ω' => Ea cls Ω') { nx := fun _ Ω' => Qa .non Ω', rt := Qa } (astart N ds) Ω) : FnOk P w K mg base (L2.CX P w) (k + 1) f fd ps (spA K ca Fa) := by
  refine F.okX S (fun vs H Q E hsp => ?_) (fun cdv A outer s H vs Q E hr hsp => ?_)
  · obtain ⟨G, own, Ω, ds, Qa, Ea, r, dv, hF, _⟩ := hsp
    rw [dv.length]
    exact len _ _ _ _ hF
  · obtain ⟨ts, ta, hA, hq⟩ := h cdv A outer s H E hr
    obtain ⟨G, own, Ω, ds, Qa, Ea, r, dv, hF, k1, k2⟩ := hsp
    exact ⟨ts, hA.pe, hA.sim _ _ G own (astart N ds) Ω (fun cls _ Ω' => Ea cls Ω') _ _ r (sr_start dv) (hq ds Ω Qa Ea hF)
      ⟨fun σ' H' G' own' ρ' Ω' e r' s' q => k1 _ _ _ _ .non _ e r' .non q, fun v H' G' own' d Ω' e r' dv' q => k1 _ _ _ _ _ _ e r' dv' q, fun _ _ _ _ _ _ _ _ _ q => q.elim, fun _ _ _ _ _ _ _ _ _ q => q.elim, fun cls σ' H' G' own' ρ' Ω' e r' s' q => k2 _ _ _ _ _ e r' q⟩⟩
end
end PL
namespace PL
open PySem L2
section
variable {X : Cx} {ca : CA} {W : WX} {a b e : Expr} {es : List Expr} {ta tb te : TE} {ra rb re : ATE} {tr : TA} {rr : ATA} {pos : Pos}
def CPowB (i j : Int) : Prop := 0 ≤ j ∧ (Builtin.Int.intBits i : Int) * j ≤ 2 ^ 27
def aPowB := aOp (fI CPowB fun i j => i ^ j.toNat)
theorem op_powB : OpR X (binaryOp .Pow) (rI CPowB fun i j => .int (i ^ j.toNat)) := opI fun _ _ _ _ _ _ _ hc q => PyProof.Rows.pow_int hc.1 hc.2 q
theorem ae_powB (ha : AE X ca W a ta ra) (hb : AE X ca W b tb rb) : AE X ca W (.BinOp a .Pow b pos) (tOp (rI CPowB fun i j => .int (i ^ j.toNat)) ta tb) (aPowB ra rb) := ⟨pe_op op_powB ha.pe hb.pe, sim_op simr_I ha.sim hb.sim⟩
theorem ae_neg (ha : AE X ca W a ta ra) : AE X ca W (.UnaryOp .USub a pos) (tUn (rU fun i => .int (-i)) ta) (fun Wa ρ Ω Q => ra Wa ρ Ω fun x Ω1 => ∃ i : Int, x = .int i ∧ Q (.int (-i)) Ω1) := ⟨pe_un un_neg ha.pe, fun σ H G own ρ Ω Wa Qa Qc r s h k kx => ha.sim σ H G own ρ Ω Wa _ _ r s h (fun v H1 G1 own1 d Ω1 e1 r1 dv1 q1 => by
  obtain ⟨i, rfl, q⟩ := q1
  cases dv1
  exact ⟨i, rfl, k _ _ _ _ _ _ e1 r1 (.int _) q⟩) kx⟩
def rowD (ns : List Int) (i c m : Int) : List D := [.lst (ns.map D.int), .int i, .int c, .int m]
theorem Rel.toRow {K : PySem.W.Frag} {G H : Hp} {own : Addr → Option Addr} {Ω : Om} {p : Addr} {ns : List Int} {i c m : Int} (r : Rel K ca G own H Ω) (e : Ω p = some (.lst (rowD ns i c m))) (h0 : 0 ≤ i) (h1 : i ≤ ns.length) (h2 : 0 ≤ c) : Rel K ca G own H (oset Ω p .row) := by
  obtain ⟨w, vs, hv, dv⟩ := r.objs p _ e
  unfold rowD at dv
  cases dv with
  | cons d1 dv =>
    cases dv with
    | cons d2 dv =>
      cases dv with
      | cons d3 dv =>
        cases dv with
        | cons d4 dv =>
          cases dv
          cases d2
          cases d3
          cases d4
          cases d1 with
          | lst q ds =>
            rw [ds.ints] at q
            exact r.turn (fun b u hb _ => hb) (fun b u hb _ => hb) ⟨w, _, ns, i, c, m, hv, q, h0, h1, h2⟩
theorem Rel.ofRow {K : PySem.W.Frag} {G H : Hp} {own : Addr → Option Addr} {Ω : Om} {p : Addr} (r : Rel K ca G own H Ω) (e : Ω p = some .row) : ∃ ns i c m, 0 ≤ i ∧ i ≤ (ns.length : Int) ∧ 0 ≤ c ∧ Rel K ca G own H (oset Ω p (.lst (rowD ns i c m))) := by
  obtain ⟨w, q, ns, i, c, m, hv, hs, h0, h1, h2⟩ := r.objs p _ e
  refine ⟨ns, i, c, m, h0, h1, h2, r.turn (fun b u hb _ => hb) (fun b u hb _ => hb) ⟨w, _, hv, ?_⟩⟩
  exact .cons (.lst hs (DVs.of_ints ns)) (.cons (.int i) (.cons (.int c) (.cons (.int m) .nil)))
def aAsRow (re : ATE) : ATE := fun Wa ρ Ω Q => re Wa ρ Ω fun x Ω1 => ∃ a ns i c m, x = .o a ∧ Ω1 a = some (.lst (rowD ns i c m)) ∧ 0 ≤ i ∧ i ≤ ns.length ∧ 0 ≤ c ∧ Q (.o a) (oset Ω1 a .row)
theorem ae_asRow (ha : AE X ca W e te re) : AE X ca W e te (aAsRow re) := ⟨ha.pe, fun σ H G own ρ Ω Wa Qa Qc r s h k kx => ha.sim σ H G own ρ Ω Wa _ _ r s h (fun v H1 G1 own1 d Ω1 e1 r1 dv1 q1 => by
  obtain ⟨p, ns, i, c, m, rfl, ho, h0, h1, h2, q⟩ := q1
  cases dv1
  exact k _ _ _ _ _ _ e1 (r1.toRow ho h0 h1 h2) (.o p) q) kx⟩
def wipeA (ρ : En) : List Nat → En
  | [] => ρ
  | v :: vs => (wipeA ρ vs).set v none
theorem SR.wipe {K : PySem.W.Frag} {G : Hp} {σ : St} {ρ : En} (s : SR K G σ ρ) : ∀ vs : List Nat, SR K G (wipe σ vs) (wipeA ρ vs)
  | [] => s
  | v :: vs => by
    have h := s.wipe vs
    unfold L2.wipe wipeA
    exact h.drop v none
/-- what the block makes of each item, one after the other; acc: what is made so far -/
def compL (g : AG) (c : ATT) (re : ATE) (vs : List Nat) : List D → List D → AW → En → Om → AQ → Prop
  | [], acc, _, _, Ω, Q => Q (.lst acc) Ω
  | x :: xs, acc, Wa, ρ, Ω, Q => g x (wipeA ρ vs) Ω fun ρ1 Ω1 => c Wa ρ1 Ω1 fun k Ω2 => if k = true then re Wa ρ1 Ω2 fun y Ω3 => acc.length < sizeLine ∧ compL g c re vs xs (acc ++ [y]) Wa ρ Ω3 Q else compL g c re vs xs acc Wa ρ Ω2 Q
abbrev W0 : WX := fun _ _ _ _ => False
abbrev Wa0 : AW := fun _ _ _ => False
/-- the block's step, from the state around -/
def CompI (K : PySem.W.Frag) (ca : CA) (ag : AG) (rc : ATT) (re : ATE) (vs : List Nat) (xs : List D) (ρ : En) (G : Hp) (own : Addr → Option Addr) (H : Hp) (D0 : Addr) (Q : AQ) (i : Nat) (H' : Hp) : Prop :=
  ∃ (G' : Hp) (own' : Addr → Option Addr) (Ω' : Om) (us : List V) (acc : List D), Stp G own H G' own' H' ∧ Rel K ca G' own' H' Ω' ∧ H' D0 = some (.lst us) ∧ own' D0 = none ∧ G' D0 = none ∧ DVs K G' us acc ∧ compL ag rc re vs (xs.drop i) acc Wa0 ρ Ω' Q
def Wip (g : TG) (vs : List Nat) : Prop := ∀ σ v H Q, g v (wipe σ vs) H Q → g v (wipe σ vs) H fun σ2 H2 => wipe σ2 vs = wipe σ vs ∧ Q σ2 H2
theorem wipe_set {y : Option V} : ∀ {vs : List Nat} {σ : St} {i : Nat}, wipe (σ.set i y) vs = if i ∈ vs then wipe σ vs else (wipe σ vs).set i y
  | [], σ, i => by simp [L2.wipe]
  | v :: vs, σ, i => by
    show (wipe (σ.set i y) vs).set v none = if i ∈ v :: vs then (wipe σ vs).set v none else ((wipe σ vs).set v none).set i y
    rw [wipe_set]
    by_cases h : i ∈ vs
    · rw [if_pos h, if_pos (List.mem_cons_of_mem _ h)]
    · rw [if_neg h]
      by_cases hv : i = v
      · subst hv
        rw [if_pos List.mem_cons_self, List.set_set]
      · rw [if_neg (by simp [hv, h]), List.set_comm _ _ hv]
theorem wipe_wipe : ∀ {vs ws : List Nat} {σ : St}, (∀ v ∈ vs, v ∈ ws) → wipe (wipe σ vs) ws = wipe σ ws
  | [], ws, σ, _ => rfl
  | v :: vs, ws, σ, h => by
    show wipe ((wipe σ vs).set v none) ws = wipe σ ws
    rw [wipe_set, if_pos (h v List.mem_cons_self)]
    exact wipe_wipe fun w hw => h w (List.mem_cons_of_mem _ hw)
theorem wip_name {i : Nat} {vs : List Nat} (h : i ∈ vs) : Wip (gName i) vs := fun σ v H Q q => ⟨by rw [wipe_set, if_pos h, wipe_wipe fun _ hv => hv], q⟩
theorem wip_names {vs : List Nat} {σ0 : St} : ∀ {is : List Nat}, (∀ i ∈ is, i ∈ vs) → ∀ σ xs H Q, wipe σ vs = σ0 → gNames is xs σ H Q → gNames is xs σ H fun σ2 H2 => wipe σ2 vs = σ0 ∧ Q σ2 H2
  | [], _, σ, xs, H, Q, e, h => ⟨h.1, e, h.2⟩
  | i :: is, hi, σ, xs, H, Q, e, h => by
    obtain ⟨v, r, ex, q⟩ := h
    refine ⟨v, r, ex, ?_⟩
    exact wip_names (is := is) (fun j hj => hi j (List.mem_cons_of_mem _ hj)) (σ.set i (some v)) r H Q (by rw [wipe_set, if_pos (hi i List.mem_cons_self)]; exact e) q
theorem wip_tup {K : PySem.W.Frag} {n : Nat} {is vs : List Nat} (h : ∀ i ∈ is, i ∈ vs) : Wip (gTup K n (gNames is)) vs := fun σ v H Q q => by
  obtain ⟨a, xs, e, hs, hl, q⟩ := q
  exact ⟨a, xs, e, hs, hl, wip_names h _ _ _ _ (wipe_wipe fun _ hv => hv) q⟩
theorem compI_turn {K : PySem.W.Frag} {ca : CA} {g : TG} {ag : AG} {tt : TT} {rc : ATT} {te : TE} {re : ATE} {vs : List Nat} {xs : List D} {ρ : En} {G H H' : Hp} {own : Addr → Option Addr} {σ : St} {D0 : Addr} {Q : AQ} {i : Nat} {x : D} {v : V}
    (hg : SimG K ca g ag) (hw : Wip g vs) (hc : SimT K ca W0 tt rc) (he : SimE K ca W0 te re) (s : SR K G σ ρ) (h0 : H D0 = none) (hx : xs[i]? = some x) (dv : DV K G v x) (p : CompI K ca ag rc re vs xs ρ G own H D0 Q i H') :
    g v (wipe σ vs) H' fun σ2 H2 => wipe σ2 vs = wipe σ vs ∧ tt σ2 H2 fun b H3 =>
      if b = true then te σ2 H3 fun y H4 => ∃ acc, H4 D0 = some (.lst acc) ∧ acc.length < sizeLine ∧ CompI K ca ag rc re vs xs ρ G own H D0 Q (i + 1) (upd H4 D0 (.lst (acc ++ [y]))) else CompI K ca ag rc re vs xs ρ G own H D0 Q (i + 1) H3 := by
  obtain ⟨G1, own1, Ω1, us, acc, e1, r1, h1, w1, g1, d1, q⟩ := p
  have hlt : i < xs.length := (List.getElem?_eq_some_iff.mp hx).1
  have hd : xs.drop i = x :: xs.drop (i + 1) := by
    rw [List.drop_eq_getElem_cons hlt]
    rw [(List.getElem?_eq_some_iff.mp hx).2]
  rw [hd] at q
  refine hw σ v H' _ (hg (wipe σ vs) H' G1 own1 (wipeA ρ vs) Ω1 v x _ _ r1 ((s.mono e1.same).wipe vs) (dv.mono e1.same) q fun σ2 H2 G2 own2 ρ2 Ω2 e2 r2 s2 q2 => ?_)
  have f2 := e2.fr D0 _ h1 w1 g1
  refine hc σ2 H2 G2 own2 ρ2 Ω2 Wa0 _ _ r2 s2 q2 (fun b H3 G3 own3 Ω3 e3 r3 q3 => ?_) fun _ _ _ _ _ _ _ z => z
  have f3 := e3.fr D0 _ f2.1 f2.2.1 f2.2.2
  cases b with
  | false =>
    rw [if_neg Bool.false_ne_true] at q3 ⊢
    exact ⟨G3, own3, Ω3, us, acc, (e1.trans e2).trans e3, r3, f3.1, f3.2.1, f3.2.2, d1.mono (e2.trans e3).same, q3⟩
  | true =>
    rw [if_pos rfl] at q3 ⊢
    refine he σ2 H3 G3 own3 ρ2 Ω3 Wa0 _ _ r3 (s2.mono e3.same) q3 (fun y H4 G4 own4 d Ω4 e4 r4 dv4 q4 => ?_) fun _ _ _ _ _ _ _ z => z
    have f4 := e4.fr D0 _ f3.1 f3.2.1 f3.2.2
    have ee := e2.trans (e3.trans e4)
    refine ⟨us, f4.1, by rw [d1.length]; exact q4.1, G4, own4, Ω4, us ++ [y], acc ++ [d], ?_, r4.privSet f4.1 (fun z => z) f4.2.2 f4.2.1, upd_same, f4.2.1, f4.2.2, (d1.mono ee.same).append (.cons dv4 .nil), q4.2⟩
    have e5 := e1.trans ee
    refine ⟨e5.same, fun b w hb n g => ?_⟩
    obtain ⟨z1, z2, z3⟩ := e5.fr b w hb n g
    exact ⟨by rw [upd_ne (ne_of_none hb h0)]; exact z1, z2, z3⟩
theorem compI_end {K : PySem.W.Frag} {ca : CA} {ag : AG} {rc : ATT} {re : ATE} {vs : List Nat} {xs : List D} {ρ : En} {G H H' : Hp} {own : Addr → Option Addr} {D0 : Addr} {Qa : AQ} {Qc : VK} {n : Nat} (hn : n = xs.length) (h0 : H D0 = none)
    (k : ∀ v H' G' own' d Ω', Stp G own H G' own' H' → Rel K ca G' own' H' Ω' → DV K G' v d → Qa d Ω' → Qc v H') (p : CompI K ca ag rc re vs xs ρ G own H D0 Qa n H') : Qc (.ref D0) H' := by
  obtain ⟨G1, own1, Ω1, us, acc, e1, r1, h1, w1, g1, d1, q⟩ := p
  rw [hn, List.drop_length] at q
  obtain ⟨r2, e2⟩ := r1.privData h1 g1 w1
  refine k _ _ _ _ _ _ ⟨e1.same.trans e2, fun b w hb n g => ?_⟩ r2 (.lst (SqL.of upd_same) (d1.mono e2)) q
  obtain ⟨z1, z2, z3⟩ := e1.fr b w hb n g
  exact ⟨z1, z2, by rw [upd_ne (ne_of_none hb h0)]; exact z3⟩
theorem compI_start {K : PySem.W.Frag} {ca : CA} {ag : AG} {rc : ATT} {re : ATE} {vs : List Nat} {xs : List D} {ρ : En} {G H : Hp} {own : Addr → Option Addr} {Ω : Om} {D0 : Addr} {Qa : AQ} (r : Rel K ca G own H Ω) (h0 : H D0 = none) (q : compL ag rc re vs xs [] Wa0 ρ Ω Qa) :
    CompI K ca ag rc re vs xs ρ G own H D0 Qa 0 (upd H D0 (.lst [])) :=
  ⟨G, uown own D0 none, Ω, [], [], stp_new h0, r.priv h0, upd_same, if_pos rfl, r.sub.free h0, .nil, q⟩
def aYes : ATT := fun _ _ Ω Q => Q true Ω
theorem sim_yes {K : PySem.W.Frag} {ca : CA} {W : WX} : SimT K ca W tYes aYes := fun σ H G own ρ Ω Wa Qa Qc r s h k _ => k _ _ _ _ _ Stp.refl r h
/-- [elt for tg in xs if ..], xs data -/
def aLc (ri : ATE) (g : AG) (c : ATT) (re : ATE) (vs : List Nat) : ATE := fun Wa ρ Ω Q => ri Wa ρ Ω fun d Ω1 => ∃ xs, d = .lst xs ∧ compL g c re vs xs [] Wa0 ρ Ω1 Q
theorem sim_lc {ti : TE} {ri : ATE} {g : TG} {ag : AG} {tt : TT} {rc : ATT} {K : PySem.W.Frag} {vs : List Nat} (hi : SimE K ca W ti ri) (hg : SimG K ca g ag) (hw : Wip g vs) (hc : SimT K ca W0 tt rc) (he : SimE K ca W0 te re) : SimE K ca W (tLc (iList K ti) g tt te vs) (aLc ri ag rc re vs) := fun σ H G own ρ Ω Wa Qa Qc r s h k kx =>
  hi σ H G own ρ Ω Wa _ _ r s h (fun v H1 G1 own1 d Ω1 e1 r1 dv1 q1 => by
    obtain ⟨xs, rfl, q⟩ := q1
    cases dv1 with
    | lst hq ds =>
      rename_i a us
      refine ⟨a, rfl, ⟨us, r1.sub.seq hq⟩, fun D0 h0 => lc_list (K := K) (a := a) (xs := us) (CompI K ca ag rc re vs xs ρ G1 own1 H1 D0 Qa) (compI_start r1 h0 q) (fun i H' _ p => ?_) (fun i x H' hx p => ?_) (fun H' p => compI_end ds.length h0 (fun v H' G' own' d Ω' e => k v H' G' own' d Ω' (e1.trans e)) p)⟩
      · obtain ⟨G2, own2, Ω2, _, _, e2, r2, _⟩ := p
        exact r2.sub.seq (e2.same.seq hq)
      · obtain ⟨d, hd, dv⟩ := ds.getV hx
        exact compI_turn hg hw hc he (s.mono e1.same) h0 hd dv p) kx
/-- over range(n) -/
def aLcR (ri : ATE) (g : AG) (c : ATT) (re : ATE) (vs : List Nat) : ATE := fun Wa ρ Ω Q => ri Wa ρ Ω fun d Ω1 => ∃ j : Int, d = .int j ∧ -(2 ^ 62) ≤ j ∧ j < 2 ^ 62 ∧ compL g c re vs (rngD 0 j.toNat) [] Wa0 ρ Ω1 Q
theorem sim_lcR {ti : TE} {ri : ATE} {g : TG} {ag : AG} {tt : TT} {rc : ATT} {K : PySem.W.Frag} {vs : List Nat} (hi : SimE K ca W ti ri) (hg : SimG K ca g ag) (hw : Wip g vs) (hc : SimT K ca W0 tt rc) (he : SimE K ca W0 te re) : SimE K ca W (tLc (iRng1 (tCons ti tNil)) g tt te vs) (aLcR ri ag rc re vs) := fun σ H G own ρ Ω Wa Qa Qc r s h k kx =>
  hi σ H G own ρ Ω Wa _ _ r s h (fun v H1 G1 own1 d Ω1 e1 r1 dv1 q1 => by
    obtain ⟨j, rfl, h1, h2, q⟩ := q1
    cases dv1
    exact ⟨j, rfl, h1, h2, fun D0 h0 => lc_range (lo := 0) (n := j.toNat) (CompI K ca ag rc re vs (rngD 0 j.toNat) ρ G1 own1 H1 D0 Qa) (compI_start r1 h0 q) (fun i H' hi' p => compI_turn hg hw hc he (s.mono e1.same) h0 (rngD_get hi') (.int _) p)
      (fun H' p => compI_end rngD_length.symm h0 (fun v H' G' own' d Ω' e => k v H' G' own' d Ω' (e1.trans e)) p)⟩) kx
variable {elt iter tg : Expr} {ifs : List Expr} {scope : Scope} {ownn : List (Str × Nat)} {ti : TE} {ri : ATE} {g : TG} {ag : AG} {tt : TT} {rc : ATT}
abbrev Blk (X : Cx) (scope : Scope) (s : Shared) (H : Hp) (C : Addr) (cl : List (Str × Addr)) (fp : List Addr) : Cx := X.blk s H scope (compEnvC scope cl C X.env) fp
theorem ae_lc (hc : X.calm = true) (hN : X.N.Nodup) (hi : AE X ca W iter ti ri) (ok : BlkOk X.N X.env.scope scope ownn) (hw : Wip g (ownn.map (·.2)))
    (hg : ∀ s H C cl fp, AGt (Blk X scope s H C cl fp) ca tg g ag) (he : ∀ s H C cl fp, AE (Blk X scope s H C cl fp) ca W0 elt te re) (hs : ∀ x, foldedSetIterable iter X.env x = pure x := by intro _; rfl) :
    AE X ca W (.ListComp elt [⟨tg, iter, [], 0⟩] scope pos) (tLc (iList X.K ti) g tYes te (ownn.map (·.2))) (aLc ri ag aYes re (ownn.map (·.2))) :=
  ⟨pe_lc hc hN (pi_list hi.pe) ok (fun s H C cl fp => (hg s H C cl fp).pe) (fun s H C cl fp => pts_nil) (fun s H C cl fp => (he s H C cl fp).pe) hs,
    sim_lc hi.sim (hg X.s_0 (fun _ => none) 0 [] []).sim hw sim_yes (he X.s_0 (fun _ => none) 0 [] []).sim⟩
theorem ae_lcR {p p2 : Pos} (hc : X.calm = true) (hN : X.N.Nodup) (hgl : Gl X "range") (hm : X.mg "range" = none) (hi : AE X ca W a ti ri) (ok : BlkOk X.N X.env.scope scope ownn) (hw : Wip g (ownn.map (·.2)))
    (hg : ∀ s H C cl fp, AGt (Blk X scope s H C cl fp) ca tg g ag) (he : ∀ s H C cl fp, AE (Blk X scope s H C cl fp) ca W0 elt te re)
    (hs1 : starEach [a] X.env = (false, eval a X.env) :: starEach [] X.env := by rfl) (hs2 : starEach [a] X.env = [(false, eval a X.env)] := by rfl) (hs : ∀ x, foldedSetIterable (.Call (.Name "range" p) [a] [] p2) X.env x = pure x := by intro _; rfl) :
    AE X ca W (.ListComp elt [⟨tg, .Call (.Name "range" p) [a] [] p2, [], 0⟩] scope pos) (tLc (iRng1 (tCons ti tNil)) g tYes te (ownn.map (·.2))) (aLcR ri ag aYes re (ownn.map (·.2))) :=
  ⟨pe_lc hc hN (pi_range1 hgl hm (pa_cons hi.pe pa_nil hs1) hs2) ok (fun s H C cl fp => (hg s H C cl fp).pe) (fun s H C cl fp => pts_nil) (fun s H C cl fp => (he s H C cl fp).pe) hs,
    sim_lcR hi.sim (hg X.s_0 (fun _ => none) 0 [] []).sim hw sim_yes (he X.s_0 (fun _ => none) 0 [] []).sim⟩
end
structure Dfn (K : PySem.W.Frag) (mg : Str → Option Value) (x qual : Str) (st : Stmt) (ps : List Str) : Prop where
  ex : ∃ f fd, Fun K x qual st f fd ∧ mg x = some (.ref f) ∧ Binds K fd ps []
abbrev Rm (k : Nat) (A : Around) : Prop := Room (k + 32) A
structure Clb (P : Program) (w : World) (K : PySem.W.Frag) (mg : Str → Option Value) (base : Heap) (ca : CA) (k : Nat) (x : Str) (F : AF) : Prop where
  ex : ∃ f fd ps, FnOk P w K mg base (L2.CX P w) (k + 32) f fd ps (spA K ca F) ∧ mg x = some (.ref f) ∧ PySem.W.keepIn K (.ref f) = true ∧ Binds K fd ps []
section
variable {P : Program} {w : World} {K : PySem.W.Frag} {mg : Str → Option Value} {base : Heap} {ca : CA}
theorem clb {x qual : Str} {st : Stmt} {N ps : List Str} {k : Nat} {Fa : AF} (d : Dfn K mg x qual st ps) (S : FnScope N ps (defScope st)) (len : ∀ ds Ω Q E, Fa ds Ω Q E → ds.length = ps.length)
    (h : ∀ (f : Addr) (cdv : Value) (A : Around) (outer : List Env) (s : Shared) (H : Hp) (E : XK), Rm k (A.deeper (PyProof.Rows.envOfC qual (defScope st) s.heap.objs.size f cdv)) →
      ∃ ts ta, ASs (cxOf (L2.CX P w) P w K mg base N qual (defScope st) f cdv A outer s H E) ca (WD E) (defBody st) ts ta ∧
        ∀ ds Ω Qa Ea, Fa ds Ω Qa Ea → ta (fun cls _ Ω' => Ea cls Ω') { nx := fun _ Ω' => Qa .non Ω', rt := Qa } (astart N ds) Ω) : Clb P w K mg base ca (k + 1) x Fa := by
  obtain ⟨f, fd, F, m, b⟩ := d.ex
  exact ⟨f, fd, ps, (okA F S len (h f)).mono (by omega), m, F.kp, b⟩
theorem Clb.imp {k : Nat} {x : Str} {F F' : AF} (c : Clb P w K mg base ca k x F) (h : ∀ vs H Q E, spA K ca F' vs H Q E → spA K ca F vs H Q E) : Clb P w K mg base ca k x F' := by
  obtain ⟨f, fd, ps, G, r⟩ := c.ex
  exact ⟨f, fd, ps, G.imp h, r⟩
theorem Clb.mono {j k : Nat} {x : Str} {F : AF} (c : Clb P w K mg base ca j x F) (h : j ≤ k) : Clb P w K mg base ca k x F := by
  obtain ⟨f, fd, ps, G, r⟩ := c.ex
  exact ⟨f, fd, ps, G.mono (Nat.add_le_add_right h 32), r⟩
/-- a stronger wish -/
theorem spA_imp {F F' : AF} (h : ∀ ds Ω Q E, F' ds Ω Q E → F ds Ω Q E) : ∀ vs H Q E, spA K ca F' vs H Q E → spA K ca F vs H Q E := fun vs H Q E ⟨G, own, Ω, ds, Qa, Ea, r, dv, f, k1, k2⟩ => ⟨G, own, Ω, ds, Qa, Ea, r, dv, h _ _ _ _ f, k1, k2⟩
end
theorem ae_call {X : Cx} {ca : CA} {W : WX} {e : Expr} {es : List Expr} {tr : TA} {rr : ATA} {pos p : Pos} {k j : Nat} {x : Str} {F : AF} (c : Clb X.prog X.w X.K X.mg X.base ca k x F) (hr : Rm j X.A) (tk : Takes X W) (hk : k ≤ j) (ha : AA X ca W (e :: es) tr rr)
    (hg : Gl X x := by rfl) (hdb : (x == ("__debug__" : Str)) = false := by decide) (he : starEach (e :: es) X.env = (false, eval e X.env) :: starEach es X.env := by rfl) (hpl : (backTo pos (starEach es X.env)).any (·.1) = false := by rfl) :
    AE X ca W (.Call (.Name x p) (e :: es) [] pos) (tCallS (spA X.K ca F) (WE W) tr) (aFn F rr) := by
  obtain ⟨f, fd, ps, G, m, kp, b⟩ := c.ex
  exact ae_fn G (Room.mono hr (Nat.add_le_add_right hk 32)) m kp b tk ha hg hdb he hpl
/-- a word between a statement and the rest -/
def aCut (t u : ATS) : ATS := fun Wa Da ρ Ω => ∃ Mid : En → Om → Prop, t Wa { Da with nx := Mid } ρ Ω ∧ ∀ ρ' Ω', Mid ρ' Ω' → u Wa Da ρ' Ω'
theorem ass_cut {X : Cx} {ca : CA} {W : WX} {st : Stmt} {rest : List Stmt} {ts tu : TS} {rs ru : ATS} (h1 : AS X ca W st ts rs) (h2 : ASs X ca W rest tu ru) : ASs X ca W (st :: rest) (Evl.tCut ts tu) (aCut rs ru) := ⟨Evl.pss_cut h1.pe h2.pe, fun σ H G own ρ Ω Wa Da Dc r s h k => by
  obtain ⟨Mid, m1, m2⟩ := h
  refine ⟨fun σ' H' => ∃ G' own' ρ' Ω', Stp G own H G' own' H' ∧ Rel X.K ca G' own' H' Ω' ∧ SR X.K G' σ' ρ' ∧ Mid ρ' Ω', ?_, ?_⟩
  · exact h1.sim σ H G own ρ Ω Wa _ _ r s m1 ⟨fun σ' H' G' own' ρ' Ω' e r' s' q => ⟨G', own', ρ', Ω', e, r', s', q⟩, k.rt, k.bk, k.ct, k.ex⟩
  · rintro σ' H' ⟨G', own', ρ', Ω', e, r', s', q⟩
    exact h2.sim σ' H' G' own' ρ' Ω' Wa Da Dc r' s' (m2 ρ' Ω' q) (k.mono e)⟩
theorem dfn {K : PySem.W.Frag} {h : Heap} {mg : Str → Option Value} {x : Str} {st : Stmt} {ps : List Str} {f : Addr} {oc : Value} {od an : Option Addr} {osl : Array (Option Value)} {kV doc pm cdv ct : Value} (X : K.In h) (G : h.Ns mainGlobals mg)
    (a : PySem.W.nsIn K mainGlobals x = some (some (.ref f))) (l : K.lookup f = some ⟨oc, od, .func (PySem.W.fnOf x x (defArgs st) (defBody st) (defScope st) .none kV doc pm an cdv ct), osl⟩) (c : PySem.W.codeIn K cdv x = true) (k : PySem.W.keepIn K (.ref f) = true)
    (hb : ∀ (kV doc pm : Value) (an : Option Addr) (cdv ct : Value) (us : List Value), us.length = ps.length → bindArgs (PySem.W.fnOf x x (defArgs st) (defBody st) (defScope st) .none kV doc pm an cdv ct) ⟨us, []⟩ = pure (ps.zip us)) : Dfn K mg x x st ps :=
  ⟨f, _, fun_mk (st := st) l c k, PySem.W.mg_of X G a, (fun_mk (st := st) l c k).binds hb⟩
def F_law : AF := fun ds Ω Q _ => ∃ ns : List Int, ds = [.lst (ns.map D.int)] ∧ ns.length ≤ 63 ∧ ∀ Ω', Q (.bl true) Ω'
theorem law_len : ∀ ds Ω Q E, F_law ds Ω Q E → ds.length = (["_law_script"] : List Str).length := by
  rintro ds Ω Q E ⟨ns, rfl, _⟩
  rfl
theorem only_rel {K : PySem.W.Frag} {ca : CA} {H : Hp} : Rel K ca H (fun _ => none) H (fun _ => none) := ⟨Same.refl _, fun _ _ _ => rfl, fun _ _ e => by cases e⟩
theorem atI_eq {α : Type} {xs : List α} (n : Nat) : atI xs (n : Int) = xs[n]? := by
  cases h : xs[n]? with
  | some v => exact atI_nat h
  | none =>
    have hl : xs.length ≤ n := List.getElem?_eq_none_iff.mp h
    unfold atI ixN
    rw [if_pos (by omega), if_neg (by omega)]
    rfl
theorem at_0 {α : Type} {xs : List α} : atI xs 0 = xs[0]? := atI_eq 0
theorem at_1 {α : Type} {xs : List α} : atI xs 1 = xs[1]? := atI_eq 1
theorem at_2 {α : Type} {xs : List α} : atI xs 2 = xs[2]? := atI_eq 2
theorem at_3 {α : Type} {xs : List α} : atI xs 3 = xs[3]? := atI_eq 3
theorem at_l {α : Type} {xs : List α} : atI xs (-1) = xs.getLast? := by
  rcases List.eq_nil_or_concat xs with rfl | ⟨ys, y, rfl⟩
  · rfl
  · rw [List.concat_eq_append, atI_last, List.getLast?_concat]
theorem ix_40 : ixN 4 0 = some 0 := by decide
theorem ix_41 : ixN 4 1 = some 1 := by decide
theorem ix_42 : ixN 4 2 = some 2 := by decide
theorem ix_43 : ixN 4 3 = some 3 := by decide
theorem atI_int {ns : List Int} {i : Int} (h0 : 0 ≤ i) (h : i < ns.length) : ∃ v, v ∈ ns ∧ atI (ns.map D.int) i = some (.int v) := by
  obtain ⟨n, rfl⟩ := Int.eq_ofNat_of_zero_le h0
  have hl : n < ns.length := by omega
  refine ⟨ns[n], List.getElem_mem hl, ?_⟩
  rw [atI_eq, List.getElem?_map, List.getElem?_eq_getElem hl]
  rfl
theorem ix_l {n : Nat} (h : 0 < n) : ixN n (-1) = some (n - 1) := by
  unfold ixN
  rw [if_neg (by decide), if_pos (by omega)]
  congr 1
  omega
theorem seq_lst {Ω : Om} {xs : List D} : (D.lst xs).seq Ω = some xs := rfl
theorem seq_tup {Ω : Om} {xs : List D} : (D.tup xs).seq Ω = some xs := rfl
theorem seq_o {Ω : Om} {a : Addr} {xs : List D} (h : Ω a = some (.lst xs)) : (D.o a).seq Ω = some xs := by simp only [D.seq, h]
theorem ty_int {Ω : Om} {i : Int} : (D.int i).ty Ω = some "int" := rfl
theorem ty_bl {Ω : Om} {i : Bool} : (D.bl i).ty Ω = some "bool" := rfl
theorem ty_str {Ω : Om} {i : Str} : (D.str i).ty Ω = some "str" := rfl
theorem ty_tup {Ω : Om} {i : List D} : (D.tup i).ty Ω = some "tuple" := rfl
theorem ty_lst {Ω : Om} {i : List D} : (D.lst i).ty Ω = some "list" := rfl
theorem ty_non {Ω : Om} : D.non.ty Ω = some "NoneType" := rfl
theorem isT_ii : isT "int" "int" = some true := by decide +kernel
theorem isT_ib : isT "int" "bool" = some false := by decide +kernel
theorem isT_bi : isT "bool" "int" = some true := by decide +kernel
theorem isT_bb : isT "bool" "bool" = some true := by decide +kernel
theorem isT_tt : isT "tuple" "tuple" = some true := by decide +kernel
theorem isT_ss : isT "str" "str" = some true := by decide +kernel
theorem isT_ll : isT "list" "list" = some true := by decide +kernel
theorem nopy {i j : Int} (h : j ≠ 0) (_ : j.natAbs < 2 ^ 8000) : NoPy i j := h
theorem mulok {i j : Int} {a b : Nat} (hi : i.natAbs < 2 ^ a) (hj : j.natAbs < 2 ^ b) (h : a + b ≤ 900000) : IntMulOk i j :=
  (wide_mul (a := a + 1) (b := b + 1) (Nat.lt_of_lt_of_le hi (Nat.pow_le_pow_right (by decide) (by omega))) (Nat.lt_of_lt_of_le hj (Nat.pow_le_pow_right (by decide) (by omega))) (by omega) (by omega) (by omega)).ok
theorem mulok_r {i j : Int} (h1 : -(2 ^ 64) < j) (h2 : j < 2 ^ 64) : IntMulOk i j := .of_right (intBits_le_64 h1 h2)
theorem mulok_l {i j : Int} (h1 : -(2 ^ 64) < i) (h2 : i < 2 ^ 64) : IntMulOk i j := .of_left (intBits_le_64 h1 h2)
theorem bits_le {n : Int} {b : Nat} (h : n.natAbs < 2 ^ b) : Builtin.Int.intBits n ≤ b := by
  unfold Builtin.Int.intBits
  split
  · omega
  · rename_i h0
    have : n.natAbs.log2 < b := (Nat.log2_lt (by simpa using h0)).mpr h
    omega
theorem lt_bits {n : Int} : n.natAbs < 2 ^ Builtin.Int.intBits n := by
  unfold Builtin.Int.intBits
  split
  · rename_i h0
    have : n = 0 := by simpa using h0
    subst this
    decide
  · exact Nat.lt_log2_self
end PL
namespace PL
open PySem L2
section
variable {X : Cx} {ca : CA} {W : WX} {a b c e : Expr} {es : List Expr} {ta tb tc te : TE} {ra rb rc re : ATE} {tr : TA} {rr : ATA} {pos : Pos} {st : Stmt} {ts : TS} {rs : ATS}
def rCatL (K : PySem.W.Frag) : R2 := fun x y H Q => ∃ l b xs zs, x = .ref l ∧ y = .ref b ∧ SqL K H l xs ∧ SqL K H b zs ∧ xs.length + zs.length ≤ sizeLine ∧ ∀ p, H p = none → Q (.ref p) (upd H p (.lst (xs ++ zs)))
theorem op_catL : OpR X (binaryOp .Add) (rCatL X.K) := by
  intro pins s σ H x y v u Q I rx ry h
  obtain ⟨l, b, xs, zs, rfl, rfl, hH, hB, hz, q⟩ := h
  cases rx
  cases ry
  obtain ⟨its, r, p1, _⟩ := I.list hH
  obtain ⟨its2, r2, p2, _⟩ := I.list hB
  obtain ⟨⟨cls, dd, data, sl⟩, n, ho, hc, _, hd⟩ := p1
  obtain ⟨⟨cls2, dd2, data2, sl2⟩, n2, ho2, hc2, _, hd2⟩ := p2
  simp only at hc hd hc2 hd2
  subst hc hd hc2 hd2
  have hl := r.length
  have hl2 := r2.length
  have ea : its.toArray ++ its2.toArray = (its ++ its2).toArray := by simp
  refine PySem.concat_meets ⟨_, ho, rfl⟩ ⟨_, ho2, rfl⟩ noFill_list_add seq_list_add PySem.F.slot_list_add PySem.F.entry_list_add (PySem.F.args_list_add_2 _ _) (PyProof.Rows.list_addW l b its.toArray its2.toArray n n2 dd dd2 sl sl2 (by rw [List.size_toArray, List.size_toArray]; omega)) ⟨ho, ho2, ?_⟩
  rw [ea]
  exact ⟨.ref _, _, I.lnew (t' := s.toks) (r.append r2) (by rw [List.length_append]; omega), rfl, q _ I.fresh⟩
/-- the items of a list: data, or ours -/
def D.lseq (Ω : Om) : D → Option (List D)
  | .lst xs => some xs
  | .o a => match Ω a with
    | some (.lst xs) => some xs
    | _ => none
  | _ => none
theorem lseq_lst {Ω : Om} {xs : List D} : (D.lst xs).lseq Ω = some xs := rfl
theorem lseq_o {Ω : Om} {a : Addr} {xs : List D} (h : Ω a = some (.lst xs)) : (D.o a).lseq Ω = some xs := by simp only [D.lseq, h]
theorem lseq_of {K : PySem.W.Frag} {G H : Hp} {own : Addr → Option Addr} {Ω : Om} {v : V} {x : D} {xs : List D} (r : Rel K ca G own H Ω) (dv : DV K G v x) (h : x.lseq Ω = some xs) : ∃ p vs, v = .ref p ∧ DVs K G vs xs ∧ SqL K H p vs := by
  cases dv with
  | lst a b => simp only [D.lseq, Option.some.injEq] at h; subst h; exact ⟨_, _, rfl, b, r.sub.seq a⟩
  | o a =>
    cases q : Ω a with
    | none => simp only [D.lseq, q] at h; cases h
    | some u =>
      cases u with
      | lst ys =>
        simp only [D.lseq, q, Option.some.injEq] at h; subst h
        obtain ⟨vs, hv, dv⟩ := r.lstAt q
        exact ⟨_, vs, rfl, dv, SqL.of hv⟩
      | row => simp only [D.lseq, q] at h; cases h
      | dic _ => simp only [D.lseq, q] at h; cases h
      | obj _ _ => simp only [D.lseq, q] at h; cases h
  | _ => simp [D.lseq] at h
def fCatL : D → D → Om → AQ → Prop := fun x y Ω Q => ∃ xs ys, x.lseq Ω = some xs ∧ y.lseq Ω = some ys ∧ xs.length + ys.length ≤ sizeLine ∧ Q (.lst (xs ++ ys)) Ω
def fCatO : D → D → Om → AQ → Prop := fun x y Ω Q => ∃ xs ys, x.lseq Ω = some xs ∧ y.lseq Ω = some ys ∧ xs.length + ys.length ≤ sizeLine ∧ ∀ p, Ω p = none → Q (.o p) (oset Ω p (.lst (xs ++ ys)))
def fCatT : D → D → Om → AQ → Prop := fun x y Ω Q => ∃ xs ys, x = .tup xs ∧ y = .tup ys ∧ xs.length + ys.length ≤ sizeLine ∧ Q (.tup (xs ++ ys)) Ω
theorem simr_catO {K : PySem.W.Frag} : SimR K ca (rCatL K) fCatO := by
  intro H G own Ω x y v w Qa Qc r dx dy h k
  obtain ⟨xs, ys, hx, hy, hz, q⟩ := h
  obtain ⟨p1, vs, rfl, d1, s1⟩ := lseq_of r dx hx
  obtain ⟨p2, us, rfl, d2, s2⟩ := lseq_of r dy hy
  exact ⟨p1, p2, vs, us, rfl, rfl, s1, s2, by rw [d1.length, d2.length]; exact hz, fun p hp => k _ _ _ _ _ _ (stp_new hp) (r.newLst hp (d1.append d2)) (.o p) (q p (r.fresh hp))⟩
theorem DVs.nil_iff {K : PySem.W.Frag} {G : Hp} {vs : List V} {ds : List D} (h : DVs K G vs ds) : vs = [] ↔ ds = [] := by
  cases h with
  | nil => simp
  | cons _ _ => simp
theorem simr_catT {K : PySem.W.Frag} : SimR K ca (rCatA K) fCatT := by
  intro H G own Ω x y v w Qa Qc r dx dy h k
  obtain ⟨xs, ys, rfl, rfl, hz, q⟩ := h
  cases dx with
  | tup a1 b1 =>
    cases dy with
    | tup a2 b2 =>
      refine ⟨_, _, _, _, rfl, rfl, same_seqT r.sub a1, same_seqT r.sub a2, by rw [b1.length, b2.length]; exact hz, fun e => ?_, fun _ e => ?_, fun _ _ p hp => ?_⟩
      · have e' := b1.nil_iff.mp e
        subst e'
        exact k _ _ _ _ _ _ Stp.refl r (.tup a2 b2) q
      · have e' := b2.nil_iff.mp e
        subst e'
        rw [List.append_nil] at q
        exact k _ _ _ _ _ _ Stp.refl r (.tup a1 b1) q
      · obtain ⟨r4, e4⟩ := r.data (u := .tup _) hp
        exact k _ _ _ _ _ _ (stp_data e4 hp) r4 (.tup (SqT.of upd_same) ((b1.append b2).mono e4)) q
def aCatL := aOp fCatL
def aCatO := aOp fCatO
def aCatT := aOp fCatT
theorem ae_catO (ha : AE X ca W a ta ra) (hb : AE X ca W b tb rb) : AE X ca W (.BinOp a .Add b pos) (tOp (rCatL X.K) ta tb) (aCatO ra rb) := ⟨pe_op op_catL ha.pe hb.pe, sim_op simr_catO ha.sim hb.sim⟩
theorem ae_catT (ha : AE X ca W a ta ra) (hb : AE X ca W b tb rb) : AE X ca W (.BinOp a .Add b pos) (tOp (rCatA X.K) ta tb) (aCatT ra rb) := ⟨pe_op op_catA ha.pe hb.pe, sim_op simr_catT ha.sim hb.sim⟩
def aFrz (i : Nat) (rs : ATS) : ATS := fun Wa Da ρ Ω => ∃ a xs, ρ[i]? = some (some (.o a)) ∧ Ω a = some (.lst xs) ∧ rs Wa Da (ρ.set i (some (.lst xs))) (odel Ω a)
theorem as_frz (i : Nat) (h : AS X ca W st ts rs) : AS X ca W st ts (aFrz i rs) := ⟨h.pe, fun σ H G own ρ Ω Wa Da Dc r s h' k => by
  obtain ⟨a, xs, hi, ho, q⟩ := h'
  obtain ⟨v, hv, dv⟩ := s.get i _ hi
  cases dv
  obtain ⟨G', own', e, en, r', dv'⟩ := r.freeze ho
  have e' : Stp G own H G' own' H := ⟨e, fun b u hb n g => ⟨hb, en b n g⟩⟩
  have s' : SR X.K G' σ (ρ.set i (some (.lst xs))) := by
    have z := (s.mono e).set i dv'
    rwa [show σ.set i (some (V.ref a)) = σ from by
      obtain ⟨h1, h2⟩ := List.getElem?_eq_some_iff.mp hv
      rw [← h2]
      exact List.set_getElem_self h1] at z
  exact h.sim σ H G' own' _ _ Wa Da Dc r' s' q (k.mono e')⟩
def aForRev (re : ATE) (g : AG) (b : ATS) : ATS := fun Wa Da ρ Ω => re Wa ρ Ω fun d Ω1 => ∃ xs, d = .lst xs ∧ forL g b xs.reverse Wa Da ρ Ω1
theorem DVs.rev {K : PySem.W.Frag} {G : Hp} : ∀ {vs : List V} {ds : List D}, DVs K G vs ds → DVs K G vs.reverse ds.reverse
  | _, _, .nil => .nil
  | _, _, .cons h1 h2 => by rw [List.reverse_cons, List.reverse_cons]; exact (DVs.rev h2).append (.cons h1 .nil)
def aChain (f f' : D → D → Om → AQ → Prop) (ra rb rc : ATE) : ATE := fun Wa ρ Ω Q => ra Wa ρ Ω fun x Ω1 => rb Wa ρ Ω1 fun y Ω2 => f x y Ω2 fun z Ω3 => ∃ k, z = .bl k ∧ (if k = true then rc Wa ρ Ω3 fun w Ω4 => f' y w Ω4 Q else Q (.bl false) Ω3)
theorem sim_chain {K : PySem.W.Frag} {r r' : R2} {f f' : D → D → Om → AQ → Prop} (hf : SimR K ca r f) (hf' : SimR K ca r' f') (sa : SimE K ca W ta ra) (sb : SimE K ca W tb rb) (sc : SimE K ca W tc rc) : SimE K ca W (tChain r r' ta tb tc) (aChain f f' ra rb rc) := fun σ H G own ρ Ω Wa Qa Qc r s h' k kx =>
  sa σ H G own ρ Ω Wa _ _ r s h' (fun v H1 G1 own1 d Ω1 e1 r1 dv1 q1 => sb σ H1 G1 own1 ρ Ω1 Wa _ _ r1 (s.mono e1.same) q1 (fun w H2 G2 own2 d2 Ω2 e2 r2 dv2 q2 =>
    hf H2 G2 own2 Ω2 d d2 v w _ _ r2 (dv1.mono e2.same) dv2 q2 fun z H3 G3 own3 d3 Ω3 e3 r3 dv3 q3 => by
      obtain ⟨b, rfl, q⟩ := q3
      cases dv3
      refine ⟨b, rfl, ?_⟩
      cases b with
      | true => exact sc σ H3 G3 own3 ρ Ω3 Wa _ _ r3 (s.mono ((e1.trans e2).trans e3).same) q (fun u H4 G4 own4 d4 Ω4 e4 r4 dv4 q4 => hf' H4 G4 own4 Ω4 d2 d4 w u Qa Qc r4 (dv2.mono (e3.trans e4).same) dv4 q4 fun v5 H5 G5 own5 d5 Ω5 e5 => k v5 H5 G5 own5 d5 Ω5 ((((e1.trans e2).trans e3).trans e4).trans e5)) (((kx.mono e1).mono e2).mono e3)
      | false => exact k _ _ _ _ _ _ ((e1.trans e2).trans e3) r3 (.bl _) q) (kx.mono e1)) kx
def fLt := fB fun i j => decide (i < j)
def fLe := fB fun i j => decide (i ≤ j)
theorem ae_leLe (ha : AE X ca W a ta ra) (hb : AE X ca W b tb rb) (hc : AE X ca W c tc rc) (hm : lastMarks [.LtE, .LtE] [b, c] = false := by with_unfolding_all rfl) : AE X ca W (.Compare a [.LtE, .LtE] [b, c] pos) (tChain (rI0 fun i j => .bl (decide (i ≤ j))) (rI0 fun i j => .bl (decide (i ≤ j))) ta tb tc) (aChain fLe fLe ra rb rc) := ⟨pe_chain op_le op_le ha.pe hb.pe hc.pe hm, sim_chain simr_B simr_B ha.sim hb.sim hc.sim⟩
variable {elt iter tg : Expr} {scope : Scope} {ownn : List (Str × Nat)} {ti : TE} {ri : ATE} {g : TG} {ag : AG} {tt : TT} {rt : ATT}
theorem as_setLcR {i : Nat} {y : Str} {py spos p p2 : Pos} (hc : X.calm = true) (hN : X.N.Nodup) (hy : X.N[i]? = some y) (hyl : X.env.scope.names.lookup y = some .local)
    (hsw : swapsWith (.ListComp elt [⟨tg, .Call (.Name "range" p) [a] [] p2, [], 0⟩] scope pos) (some (.Name y py)) spos.line X.env = pure true) (hgl : Gl X "range") (hm : X.mg "range" = none) (hi : AE X ca W a ti ri) (ok : BlkOk X.N X.env.scope scope ownn) (hw : Wip g (ownn.map (·.2)))
    (hg : ∀ s H C cl fp, AGt (Blk X scope s H C cl fp) ca tg g ag) (he : ∀ s H C cl fp, AE (Blk X scope s H C cl fp) ca W0 elt te re)
    (hs1 : starEach [a] X.env = (false, eval a X.env) :: starEach [] X.env := by rfl) (hs2 : starEach [a] X.env = [(false, eval a X.env)] := by rfl) (hs : ∀ x, foldedSetIterable (.Call (.Name "range" p) [a] [] p2) X.env x = pure x := by intro _; rfl) :
    AS X ca W (.Assign [.Name y py] (.ListComp elt [⟨tg, .Call (.Name "range" p) [a] [] p2, [], 0⟩] scope pos) spos) (tAsg (tLc (iRng1 (tCons ti tNil)) g tYes te (ownn.map (·.2))) (gName i)) (aSet i (aLcR ri ag aYes re (ownn.map (·.2)))) :=
  ⟨ps_setLc hc hN hy hyl hsw (pi_range1 hgl hm (pa_cons hi.pe pa_nil hs1) hs2) ok (fun s H C cl fp => (hg s H C cl fp).pe) (fun s H C cl fp => pts_nil) (fun s H C cl fp => (he s H C cl fp).pe) hs,
    sim_asg (sim_lcR hi.sim (hg X.s_0 (fun _ => none) 0 [] []).sim hw sim_yes (he X.s_0 (fun _ => none) 0 [] []).sim) simg_name⟩
theorem boot_min' : bootBuiltins "min" = some (.builtin "min") := by decide +kernel
def fMin : List D → Om → AQ → Prop := fun xs Ω Q => ∃ ns : List Int, xs = [.lst (ns.map D.int)] ∧ 0 < ns.length ∧ ∀ m, m ∈ ns → (∀ y, y ∈ ns → m ≤ y) → Q (.int m) Ω
theorem ae_min {p : Pos} (hg : Gl X "min") (hm : X.mg "min" = none) (hc : X.calm = true) (ha : AE X ca W e te re) (hs : starEach [e] X.env = (false, eval e X.env) :: starEach [] X.env := by rfl) : AE X ca W (.Call (.Name "min" p) [e] [] pos) (tCB (rMin X.K) (tCons te tNil)) (aCall fMin (aCons re aNil)) :=
  ae_callB (cr_min hc) (by
    intro H G own Ω xs vs Qa Qc r d h k
    obtain ⟨ns, rfl, hn, q⟩ := h
    obtain ⟨v, rfl, dv⟩ := dv1 d
    cases dv with
    | lst a b =>
      rw [b.ints] at a
      exact ⟨_, ns, rfl, r.sub.seq a, hn, fun m h1 h2 => k _ _ _ _ _ _ Stp.refl r (.int m) (q m h1 h2)⟩) hg hm boot_min' (aa_cons ha aa_nil hs) (by decide) (by decide) hs
end
end PL
namespace PL
open PySem L2
theorem small1000' {n : Nat} (h : n ≤ 100000) : n < sizeLine := Nat.lt_of_le_of_lt h (show 100000 < sizeLine by rw [sizeLine_eq]; decide)
end PL
namespace PL
open PySem L2
mutual
def D.fits : Nat → D → Bool
  | _, .non => true
  | _, .bl _ => true
  | _, .int _ => true
  | _, .str x => (PyData.str x).canLay0
  | 0, .tup _ => false
  | n + 1, .tup xs => D.fitsAll n xs
  | 0, .lst _ => false
  | n + 1, .lst xs => D.fitsAll n xs
  | _, .o _ => false
def D.fitsAll : Nat → List D → Bool
  | _, [] => true
  | n, x :: xs => D.fits n x && D.fitsAll n xs
end
mutual
theorem D.fits_py : ∀ (n : Nat) (d : D), D.fits n d = true → ∃ p, D.py d = some p ∧ PyData.eqv p p = true ∧ p.canLay0 = true ∧ p.depth ≤ n
  | _, .non, _ => ⟨_, rfl, by simp [PyData.eqv], rfl, by simp [PyData.depth]⟩
  | _, .bl _, _ => ⟨_, rfl, by simp [PyData.eqv], rfl, by simp [PyData.depth]⟩
  | _, .int _, _ => ⟨_, rfl, by simp [PyData.eqv], rfl, by simp [PyData.depth]⟩
  | _, .str _, h => ⟨_, rfl, by simp [PyData.eqv], by simpa only [D.fits] using h, by simp [PyData.depth]⟩
  | 0, .tup _, h => nomatch h
  | n + 1, .tup xs, h => by
    obtain ⟨ps, e1, e2, e3, e4⟩ := D.fitsAll_py n xs (by simpa only [D.fits] using h)
    exact ⟨.tuple ps, by simp only [D.py, e1, Option.map_some], by simp only [PyData.eqv, e2], by simp only [PyData.canLay0, e3], by simp only [PyData.depth]; omega⟩
  | 0, .lst _, h => nomatch h
  | n + 1, .lst xs, h => by
    obtain ⟨ps, e1, e2, e3, e4⟩ := D.fitsAll_py n xs (by simpa only [D.fits] using h)
    exact ⟨.list ps, by simp only [D.py, e1, Option.map_some], by simp only [PyData.eqv, e2], by simp only [PyData.canLay0, e3], by simp only [PyData.depth]; omega⟩
  | _, .o _, h => nomatch h
theorem D.fitsAll_py : ∀ (n : Nat) (ds : List D), D.fitsAll n ds = true → ∃ ps, D.pys ds = some ps ∧ PyData.eqvAll ps ps = true ∧ PyData.canLayAll0 ps = true ∧ PyData.depthAll ps ≤ n
  | _, [], _ => ⟨[], rfl, by simp [PyData.eqvAll], rfl, by simp [PyData.depthAll]⟩
  | n, x :: xs, h => by
    simp only [D.fitsAll, Bool.and_eq_true] at h
    obtain ⟨p, e1, e2, e3, e4⟩ := D.fits_py n x h.1
    obtain ⟨ps, f1, f2, f3, f4⟩ := D.fitsAll_py n xs h.2
    exact ⟨p :: ps, by simp only [D.pys, e1, f1], by simp only [PyData.eqvAll, e2, f2, Bool.and_self], by simp only [PyData.canLayAll0, e3, f3, Bool.and_self], by simp only [PyData.depthAll]; omega⟩
end
theorem fEq_refl {neg : Bool} {d : D} {Ω : Om} {Q : AQ} (h : D.fits 60 d = true) (k : Q (.bl (!neg)) Ω) : fEq neg d d Ω Q := by
  obtain ⟨p, e1, e2, e3, e4⟩ := D.fits_py _ _ h
  have s : SeqAt.shaped p = true := by
    unfold SeqAt.shaped
    rw [e3, Bool.true_and]
    exact decide_eq_true (by omega)
  refine ⟨p, p, e1, e1, s, s, ?_⟩
  cases neg
  · simp only [Bool.false_eq_true, if_false, e2]; exact k
  · simp only [if_true, e2]; exact k
theorem fits_map {α : Type} {f : α → D} {n : Nat} (h : ∀ x, D.fits n (f x) = true) : ∀ xs : List α, D.fitsAll n (xs.map f) = true
  | [] => rfl
  | x :: xs => by rw [List.map_cons, D.fitsAll, h x, fits_map h xs]; rfl
/-- a loop over a list, by induction over what is left -/
theorem forL_ind {g : AG} {b : ATS} {Wa : AW} {Da : AEnds} {xs : List D} {ρ : En} {Ω : Om} (P : List D → En → Om → Prop) (h : P xs ρ Ω) (hn : ∀ ρ Ω, P [] ρ Ω → Da.nx ρ Ω)
    (hc : ∀ x us ρ Ω (De : AEnds), De.rt = Da.rt → (∀ ρ' Ω', P us ρ' Ω' → De.nx ρ' Ω') → (∀ ρ' Ω', P us ρ' Ω' → De.ct ρ' Ω') → De.bk = Da.nx → P (x :: us) ρ Ω → g x ρ Ω fun ρ1 Ω1 => b Wa De ρ1 Ω1) : forL g b xs Wa Da ρ Ω := by
  induction xs generalizing ρ Ω with
  | nil => exact hn _ _ h
  | cons x us ih => exact hc x us ρ Ω _ rfl (fun ρ' Ω' p => ih p) (fun ρ' Ω' p => ih p) rfl h
theorem AE.cast {X : Cx} {ca : CA} {W : WX} {e : Expr} {te te' : TE} {re : ATE} (h : AE X ca W e te' re) (h1 : te' = te) : AE X ca W e te re := h1 ▸ h
end PL
namespace PL
theorem fmod_neg' {t b : Int} (h : b < 0) : b < t.fmod b ∧ t.fmod b ≤ 0 := by
  have e := Int.mul_fdiv_add_fmod t b
  have e' := Int.mul_fdiv_add_fmod (-t) (-b)
  have e1 : (-t).fdiv (-b) = t.fdiv b := by simp
  rw [e1, Int.neg_mul] at e'
  have h2 : (-t).fmod (-b) < -b := Int.fmod_lt_of_pos _ (by omega)
  have h3 : 0 ≤ (-t).fmod (-b) := Int.fmod_nonneg_of_pos _ (by omega)
  omega
theorem fdiv_le {t b : Int} : (t.fdiv b).natAbs ≤ t.natAbs := by
  by_cases hb : b = 0
  · subst hb; simp
  · rcases Int.lt_or_gt_of_ne hb with h | h
    · have h1 := Int.mul_fdiv_add_fmod t b
      have h2 : b < t.fmod b := (fmod_neg' h).1
      have h3 : t.fmod b ≤ 0 := (fmod_neg' h).2
      generalize t.fdiv b = q at h1 ⊢
      generalize t.fmod b = r at h1 h2 h3
      rcases Int.le_total 0 q with hq | hq
      · have : b * q ≤ (-1) * q := Int.mul_le_mul_of_nonneg_right (by omega) hq
        omega
      · have : (-q) ≤ (-b) * (-q) := by
          have := Int.mul_le_mul_of_nonneg_right (show (1 : Int) ≤ -b by omega) (show 0 ≤ -q by omega)
          omega
        rw [Int.neg_mul_neg] at this
        by_cases hq0 : q = 0
        · omega
        · have h4 : b * q + b < t := by omega
          have h5 : b * (q + 1) < t := by rw [Int.mul_add, Int.mul_one]; exact h4
          have h6 : (-b) * (-(q + 1)) ≥ -(q + 1) := by
            have := Int.mul_le_mul_of_nonneg_right (show (1 : Int) ≤ -b by omega) (show 0 ≤ -(q + 1) by omega)
            omega
          rw [Int.neg_mul_neg] at h6
          omega
    · have h1 := Int.mul_fdiv_add_fmod t b
      have h2 : t.fmod b < b := Int.fmod_lt_of_pos _ h
      have h3 : 0 ≤ t.fmod b := Int.fmod_nonneg_of_pos _ h
      generalize t.fdiv b = q at h1 ⊢
      generalize t.fmod b = r at h1 h2 h3
      rcases Int.le_total 0 q with hq | hq
      · have : 1 * q ≤ b * q := Int.mul_le_mul_of_nonneg_right (by omega) hq
        omega
      · by_cases hq0 : q = 0
        · omega
        · have h5 : t < b * (q + 1) := by rw [Int.mul_add, Int.mul_one]; omega
          have h6 : b * (-(q + 1)) ≥ -(q + 1) := by
            have := Int.mul_le_mul_of_nonneg_right (show (1 : Int) ≤ b by omega) (show 0 ≤ -(q + 1) by omega)
            omega
          rw [Int.mul_neg] at h6
          omega
theorem fmod_lt {t b : Int} (hb : b ≠ 0) : (t.fmod b).natAbs < b.natAbs := by
  rcases Int.lt_or_gt_of_ne hb with h | h
  · have h2 : b < t.fmod b := (fmod_neg' h).1
    have h3 : t.fmod b ≤ 0 := (fmod_neg' h).2
    omega
  · have h2 : t.fmod b < b := Int.fmod_lt_of_pos _ h
    have h3 : 0 ≤ t.fmod b := Int.fmod_nonneg_of_pos _ h
    omega
theorem sub_fdiv {t b : Int} : t - t.fdiv b * b = t.fmod b := by
  have h1 := Int.mul_fdiv_add_fmod t b
  rw [Int.mul_comm] at h1
  omega
/-- Euclid -/
theorem gcd_step {x y : Int} : Int.gcd y (x.fmod y) = Int.gcd x y := by
  have h1 := Int.mul_fdiv_add_fmod x y
  have : Int.gcd y (x.fmod y + y * x.fdiv y) = Int.gcd y (x.fmod y) := Int.gcd_add_mul_left_right ..
  rw [← this, Int.add_comm, h1, Int.gcd_comm]
/-- the parts of t / b -/
def chainF (t b : Int) : List Int := if h : b = 0 then [] else t.fdiv b :: chainF b (t.fmod b)
termination_by b.natAbs
decreasing_by exact fmod_lt h
theorem chainF_zero {t : Int} : chainF t 0 = [] := by unfold chainF; simp
theorem chainF_step {t b : Int} (h : b ≠ 0) : chainF t b = t.fdiv b :: chainF b (t.fmod b) := by rw [chainF]; simp [h]
/-- parts put together -/
def cfold : List Int → Int × Int
  | [] => (1, 0)
  | p :: ps => (p * (cfold ps).1 + (cfold ps).2, (cfold ps).1)
/-- in lowest terms -/
def lowF (t b : Int) : Int × Int := let g : Int := if b < 0 then 0 - (Int.gcd t b : Int) else (Int.gcd t b : Int); (t.fdiv g, b.fdiv g)
theorem cfold_coprime : ∀ ps : List Int, Int.gcd (cfold ps).1 (cfold ps).2 = 1
  | [] => by simp [cfold]
  | p :: ps => by
    have ih := cfold_coprime ps
    show Int.gcd (p * (cfold ps).1 + (cfold ps).2) (cfold ps).1 = 1
    rw [Int.gcd_comm, Int.mul_comm, Int.add_comm, Int.gcd_add_mul_left_right]
    exact ih
/-- parts as a chain has them, behind the first -/
def Tail (ps : List Int) : Prop := (∀ p ∈ ps, 1 ≤ p) ∧ (ps ≠ [] → ∀ p, ps.getLast? = some p → 2 ≤ p)
theorem tail_cons {p : Int} {ps : List Int} (h : Tail (p :: ps)) : Tail ps ∧ 1 ≤ p ∧ (ps = [] → 2 ≤ p) := by
  refine ⟨⟨fun q hq => h.1 q (List.mem_cons_of_mem _ hq), fun hne q hq => h.2 (by simp) q ?_⟩, h.1 p List.mem_cons_self, fun e => h.2 (by simp) p (by subst e; rfl)⟩
  rw [List.getLast?_cons_of_ne_nil hne]
  exact hq
theorem lowF_coprime {t b : Int} (h : Int.gcd t b = 1) (hb : 0 < b) : lowF t b = (t, b) := by
  unfold lowF
  rw [h, if_neg (by omega)]
  simp
theorem chain_length {t b : Int} : ∀ n : Nat, b.natAbs < 2 ^ n → (chainF t b).length ≤ 2 * n + 1 := by
  have key : ∀ (n : Nat) (t b : Int), 0 ≤ b → b < t → b.natAbs < 2 ^ n → (chainF t b).length ≤ 2 * n := by
    intro n
    induction n with
    | zero =>
      intro t b h0 _ h
      have : b = 0 := by omega
      subst this
      simp [chainF_zero]
    | succ n ih =>
      intro t b h0 h1 h
      by_cases hb : b = 0
      · subst hb; simp [chainF_zero]
      · rw [chainF_step hb]
        have r0 : 0 ≤ t.fmod b := Int.fmod_nonneg_of_pos _ (by omega)
        have r1 : t.fmod b < b := Int.fmod_lt_of_pos _ (by omega)
        generalize t.fmod b = r at r0 r1 ⊢
        by_cases hr : r = 0
        · subst hr; rw [chainF_zero]; simp; omega
        · rw [chainF_step hr]
          have s0 : 0 ≤ b.fmod r := Int.fmod_nonneg_of_pos _ (by omega)
          have s1 : b.fmod r < r := Int.fmod_lt_of_pos _ (by omega)
          have e := Int.mul_fdiv_add_fmod b r
          have q1 : 1 ≤ b.fdiv r := by
            rcases Int.lt_or_le 0 (b.fdiv r) with z | z
            · omega
            · have := Int.mul_le_mul_of_nonneg_left z (show 0 ≤ r by omega)
              omega
          have q2 := Int.mul_le_mul_of_nonneg_left q1 (show 0 ≤ r by omega)
          have := ih r (b.fmod r) s0 s1 (by
            have : 2 * b.fmod r < b := by omega
            rw [Nat.pow_succ] at h
            omega)
          simp only [List.length_cons]
          omega
  intro n h
  by_cases hb : b = 0
  · subst hb; simp [chainF_zero]
  · rw [chainF_step hb]
    rcases Int.lt_or_gt_of_ne hb with hn | hp
    · -- turned round
      have neg : ∀ (m : Nat) (x y : Int), y.natAbs ≤ m → chainF (-x) (-y) = chainF x y := by
        intro m
        induction m with
        | zero => intro x y hy; have : y = 0 := by omega
                  subst this; simp [chainF_zero]
        | succ m ih =>
          intro x y hy
          by_cases hy0 : y = 0
          · subst hy0; simp [chainF_zero]
          · rw [chainF_step hy0, chainF_step (show -y ≠ 0 by omega)]
            have e1 : (-x).fdiv (-y) = x.fdiv y := by simp
            have e2 : (-x).fmod (-y) = -(x.fmod y) := by
              rw [← sub_fdiv, ← sub_fdiv, e1, Int.mul_neg]
              omega
            rw [e1, e2, ih y (x.fmod y) (by have := fmod_lt (t := x) hy0; omega)]
      have r1 : b < t.fmod b := (fmod_neg' hn).1
      have r0 : t.fmod b ≤ 0 := (fmod_neg' hn).2
      rw [← neg _ b (t.fmod b) (Nat.le_refl _)]
      have := key n (-b) (-(t.fmod b)) (by omega) (by omega) (by omega)
      simp only [List.length_cons]
      omega
    · have r0 : 0 ≤ t.fmod b := Int.fmod_nonneg_of_pos _ hp
      have r1 : t.fmod b < b := Int.fmod_lt_of_pos _ hp
      have := key n b (t.fmod b) r0 r1 (by omega)
      simp only [List.length_cons]
      omega
theorem cfold_bound {B : Nat} : ∀ ps : List Int, (∀ p ∈ ps, p.natAbs < 2 ^ B) → (cfold ps).1.natAbs < 2 ^ ((B + 1) * ps.length + 1) ∧ (cfold ps).2.natAbs < 2 ^ ((B + 1) * ps.length + 1)
  | [], _ => by simp [cfold]
  | p :: ps, h => by
    have ih := cfold_bound ps fun q hq => h q (List.mem_cons_of_mem _ hq)
    have hp := h p List.mem_cons_self
    show (p * (cfold ps).1 + (cfold ps).2).natAbs < _ ∧ (cfold ps).1.natAbs < _
    have e : (B + 1) * (p :: ps).length + 1 = (B + ((B + 1) * ps.length + 1)) + 1 := by rw [List.length_cons, Nat.mul_add]; omega
    rw [e]
    generalize (B + 1) * ps.length + 1 = m at ih
    obtain ⟨h1, h2⟩ := ih
    have h3 : 2 ^ m ≤ 2 ^ (B + m) := Nat.pow_le_pow_right (by decide) (by omega)
    have h4 : 2 ^ (B + m + 1) = 2 ^ (B + m) + 2 ^ (B + m) := by rw [Nat.pow_succ]; omega
    have h5 : (p * (cfold ps).1).natAbs ≤ 2 ^ (B + m) := by
      rw [Int.natAbs_mul, Nat.pow_add]
      exact Nat.mul_le_mul (Nat.le_of_lt hp) (Nat.le_of_lt h1)
    have h6 := Int.natAbs_add_le (p * (cfold ps).1) (cfold ps).2
    omega
theorem tail_set {ms : List Int} (h : ∀ m ∈ ms, 1 ≤ m) : Tail (ms.set (ms.length - 1) 2) := by
  refine ⟨fun m hm => ?_, fun hne p hp => ?_⟩
  · rcases List.mem_or_eq_of_mem_set hm with h' | h'
    · exact h m h'
    · omega
  · rw [List.getLast?_eq_getElem?, List.length_set] at hp
    have hpos : 0 < ms.length := by
      cases ms with
      | nil => exact absurd rfl hne
      | cons _ _ => simp
    rw [List.getElem?_set_self (by omega)] at hp
    cases hp
    decide
end PL
namespace PL
open PySem L2 PySem.Spec PyProof.Rows
section
variable {K : PySem.W.Frag} {G : Hp}
theorem lookup_at {f : Str} {v : V} : ∀ {fs : List (Str × V)} {i : Nat}, (fs.map (·.1)).Nodup → fs[i]? = some (f, v) → fs.lookup f = some v
  | [], _, _, h => by simp at h
  | (g, x) :: r, 0, _, h => by
    simp at h
    obtain ⟨rfl, rfl⟩ := h
    simp [List.lookup]
  | (g, x) :: r, i + 1, nd, h => by
    rw [List.map_cons, List.nodup_cons] at nd
    have h' : r[i]? = some (f, v) := by simpa using h
    have hm : f ∈ r.map (·.1) := List.mem_map.mpr ⟨(f, v), List.mem_of_getElem? h', rfl⟩
    have ne : (f == g) = false := by
      cases q : f == g with
      | false => rfl
      | true => exact absurd (by rw [← eq_of_beq q]; exact hm) nd.1
    rw [List.lookup_cons, ne]
    exact lookup_at nd.2 h'
theorem lookup_out {f : Str} : ∀ {fs : List (Str × V)}, f ∉ fs.map (·.1) → fs.lookup f = none
  | [], _ => rfl
  | (g, x) :: r, h => by
    rw [List.map_cons, List.mem_cons, not_or] at h
    have ne : (f == g) = false := by
      cases q : f == g with
      | false => rfl
      | true => exact absurd (eq_of_beq q) h.1
    rw [List.lookup_cons, ne]
    exact lookup_out h.2
theorem putF_at {f : Str} {v y : V} : ∀ {fs : List (Str × V)} {i : Nat}, (fs.map (·.1)).Nodup → fs[i]? = some (f, v) → putF f y fs = fs.set i (f, y)
  | [], _, _, h => by simp at h
  | (g, x) :: r, 0, _, h => by
    simp at h
    obtain ⟨rfl, rfl⟩ := h
    simp [putF]
  | (g, x) :: r, i + 1, nd, h => by
    rw [List.map_cons, List.nodup_cons] at nd
    have h' : r[i]? = some (f, v) := by simpa using h
    have hm : f ∈ r.map (·.1) := List.mem_map.mpr ⟨(f, v), List.mem_of_getElem? h', rfl⟩
    have ne : g ≠ f := fun q => nd.1 (by rw [q]; exact hm)
    rw [putF, if_neg ne, List.set_cons_succ, putF_at nd.2 h']
theorem putF_out {f : Str} {y : V} : ∀ {fs : List (Str × V)}, f ∉ fs.map (·.1) → putF f y fs = fs ++ [(f, y)]
  | [], _ => rfl
  | (g, x) :: r, h => by
    rw [List.map_cons, List.mem_cons, not_or] at h
    rw [putF, if_neg (Ne.symm h.1), putF_out h.2]
    rfl
theorem FVs.names {l : List (Str × V)} {m : List (Str × D)} (h : FVs K G l m) : l.map (·.1) = m.map (·.1) := by
  induction h with
  | nil => rfl
  | cons h1 _ ih => rw [List.map_cons, List.map_cons, h1.1, ih]
theorem FVs.length {l : List (Str × V)} {m : List (Str × D)} (h : FVs K G l m) : l.length = m.length := by
  have := congrArg List.length h.names
  rwa [List.length_map, List.length_map] at this
theorem FVs.get {l : List (Str × V)} {m : List (Str × D)} (h : FVs K G l m) : ∀ {i : Nat} {f : Str} {d : D}, m[i]? = some (f, d) → ∃ v, l[i]? = some (f, v) ∧ DV K G v d := by
  induction h with
  | nil => intro i f d e; simp at e
  | @cons p q _ _ h1 _ ih =>
    intro i f d e
    cases i with
    | zero =>
      simp at e
      obtain ⟨p1, p2⟩ := p
      subst e
      exact ⟨p2, by simp [show p1 = f from h1.1], h1.2⟩
    | succ i =>
      obtain ⟨v, e1, e2⟩ := ih (i := i) (by simpa using e)
      exact ⟨v, by simpa using e1, e2⟩
theorem FVs.set {l : List (Str × V)} {m : List (Str × D)} {f : Str} {v : V} {d : D} (dv : DV K G v d) (h : FVs K G l m) : ∀ i, FVs K G (l.set i (f, v)) (m.set i (f, d)) := by
  induction h with
  | nil => intro i; exact .nil
  | cons h1 h2 ih =>
    intro i
    cases i with
    | zero => exact .cons ⟨rfl, dv⟩ h2
    | succ i => exact .cons h1 (ih i)
theorem FVs.snoc {l : List (Str × V)} {m : List (Str × D)} {f : Str} {v : V} {d : D} (dv : DV K G v d) (h : FVs K G l m) : FVs K G (l ++ [(f, v)]) (m ++ [(f, d)]) := by
  induction h with
  | nil => exact .cons ⟨rfl, dv⟩ .nil
  | cons h1 _ ih => exact .cons h1 ih
end
section
variable {K : PySem.W.Frag} {ca : CA} {G G' H H' : Hp} {own own' : Addr → Option Addr} {Ω : Om} {a p : Addr}
theorem Rel.objAt {c : Addr} {fs : List (Str × D)} (r : Rel K ca G own H Ω) (e : Ω a = some (.obj c fs)) : Cls K c ∧ (fs.map (·.1)).Nodup ∧ (∀ x ∈ fs, NoAttr K c x.1) ∧ ∃ dx fs', H a = some (.ins c dx fs') ∧ FVs K G fs' fs := (r.objs a _ e).2
theorem Rel.setObj {c dx : Addr} {fs fs2 : List (Str × D)} {fs' : List (Str × V)} (r : Rel K ca G own H Ω) (e : Ω a = some (.obj c fs)) (cl : Cls K c) (nd : (fs2.map (·.1)).Nodup) (na : ∀ x ∈ fs2, NoAttr K c x.1) (d : FVs K G fs' fs2) :
    Rel K ca G own (upd H a (.ins c dx fs')) (oset Ω a (.obj c fs2)) := by
  obtain ⟨w, u, hu, nu⟩ := (r.objs a _ e).there
  refine r.turn (fun b v hb ho => ?_) (fun b v hb hi => ?_) ⟨w, cl, nd, na, dx, fs', upd_same, d⟩
  · rw [upd_ne (fun z => ho (by rw [z]; exact w))]; exact hb
  · rw [upd_ne (fun z => by rw [z, hu] at hb; cases hb; exact nu hi)]; exact hb
theorem Rel.own_ne {o : AO} (r : Rel K ca G own H Ω) (e : Ω a = some o) : own a = some a := (r.objs a _ e).there.1
theorem stp_obj {u : HO} (w : own a = some a) : Stp G own H G own (upd H a u) := ⟨Same.refl G, fun b v hb n g => ⟨by rw [upd_ne (fun z => by rw [z, w] at n; cases n)]; exact hb, n, g⟩⟩
theorem Rel.newObj {c dx : Addr} (r : Rel K ca G own H Ω) (cl : Cls K c) (hp : H p = none) (hd : H dx = none) (ne : dx ≠ p) :
    Rel K ca G (uown (uown own dx none) p (some p)) (upd (upd H dx (.own p)) p (.ins c dx [])) (oset Ω p (.obj c [])) ∧ Stp G own H G (uown (uown own dx none) p (some p)) (upd (upd H dx (.own p)) p (.ins c dx [])) := by
  have hk : ∀ b v, H b = some v → upd (upd H dx (.own p)) p (.ins c dx []) b = some v := fun b v e => by
    rw [upd_ne (ne_of_none e hp), upd_ne (ne_of_none e hd)]; exact e
  have ho : ∀ b v, H b = some v → uown (uown own dx none) p (some p) b = own b := fun b v e => by
    unfold uown
    rw [if_neg (ne_of_none e hp), if_neg (ne_of_none e hd)]
  refine ⟨⟨fun b v e => hk b v (r.sub _ _ e), fun b v e => ?_, fun b v e => ?_⟩, Same.refl G, fun b v hb n g => ⟨hk b v hb, by rw [ho b v hb]; exact n, g⟩⟩
  · rw [ho b v (r.sub _ _ e)]; exact r.imm _ _ e
  · by_cases hb : b = p
    · subst hb
      rw [oset_same] at e
      cases e
      exact ⟨if_pos rfl, cl, List.nodup_nil, fun x hx => by simp at hx, dx, [], upd_same, .nil⟩
    · rw [oset_ne hb] at e
      exact (r.objs b v e).keep (Same.refl G) (fun c w hc o => ⟨hk c w hc, by rw [ho c w hc]; exact o⟩) fun c w hc _ => hk c w hc
end
section
variable {X : Cx} {ca : CA} {W : WX} {a b e o : Expr} {es : List Expr} {ta tb te to : TE} {ra rb re ro : ATE} {tr : TA} {rr : ATA} {pos apos p : Pos}
def aFld (i : Nat) (f : Str) (re : ATE) : ATE := fun Wa ρ Ω Q => re Wa ρ Ω fun x Ω1 => ∃ a c fs d, x = .o a ∧ Ω1 a = some (.obj c fs) ∧ fs[i]? = some (f, d) ∧ Q d Ω1
theorem ae_fld (i : Nat) {f : Str} (ha : AE X ca W e te re) (hb : attributeBase e f X.env (eval e X.env) = eval e X.env := by rfl) : AE X ca W (.Attribute e f pos) (tFld X.K te f) (aFld i f re) :=
  ⟨pe_fld ha.pe hb, fun σ H G own ρ Ω Wa Qa Qc r s h k kx => ha.sim σ H G own ρ Ω Wa _ _ r s h (fun v H1 G1 own1 d Ω1 e1 r1 dv1 q1 => by
    obtain ⟨a, c, fs, d', rfl, ho, hi, q⟩ := q1
    cases dv1
    obtain ⟨cl, nd, na, dx, fs', hp, fv⟩ := r1.objAt ho
    obtain ⟨v, hv, dv⟩ := fv.get hi
    exact ⟨a, c, dx, fs', v, rfl, hp, cl, na (f, d') (List.mem_of_getElem? hi), lookup_at (by rw [fv.names]; exact nd) hv, k _ _ _ _ _ _ e1 r1 dv q⟩) kx⟩
/-- o.f as a target -/
def gFld (K : PySem.W.Frag) (to : TE) (f : Str) : TG := fun v σ H Q => to σ H fun x H1 => ∃ a C dx fs, x = .ref a ∧ H1 a = some (.ins C dx fs) ∧ Cls K C ∧ NoAttr K C f ∧ fs.length < 1000 ∧ Q σ (upd H1 a (.ins C dx (putF f v fs)))
theorem pg_fld {f : Str} (ho : PE X o to) : PG X (.Attribute o f pos) (gFld X.K to f) := by
  refine ⟨fun pins s σ H v u Q I r h => ?_⟩
  rw [assign_Attribute]
  refine wpAny_bind (wpAny_holding (thn (ho.run pins s σ H _ I h) fun ov s1 ⟨x, H1, I1, r1, a, C, dx, fs, ex, ea, c, n, l, q⟩ => ?_))
  subst ex
  obtain rfl : ov = Value.ref a := r1
  refine wpAny_bind (wpAny_standAt (wpAny_bind (wpAny_holding (setattr_ok I1 ea c n l r fun s3 I3 => ?_))))
  exact wpAny_release ⟨σ, _, I3, q⟩
abbrev Wf : AW := fun _ _ _ => False
/-- o.f = v where f is the i-th attribute -/
def agFld (i : Nat) (f : Str) (ro : ATE) : AG := fun d ρ Ω Q => ro Wf ρ Ω fun x Ω1 => ∃ a c fs d0, x = .o a ∧ Ω1 a = some (.obj c fs) ∧ fs[i]? = some (f, d0) ∧ fs.length < 1000 ∧ Q ρ (oset Ω1 a (.obj c (fs.set i (f, d))))
/-- .. a new one -/
def agNew (K : PySem.W.Frag) (f : Str) (ro : ATE) : AG := fun d ρ Ω Q => ro Wf ρ Ω fun x Ω1 => ∃ a c fs, x = .o a ∧ Ω1 a = some (.obj c fs) ∧ f ∉ fs.map (·.1) ∧ NoAttr K c f ∧ fs.length < 1000 ∧ Q ρ (oset Ω1 a (.obj c (fs ++ [(f, d)])))
abbrev W0' : WX := fun _ _ _ _ => False
theorem simg_fld {K : PySem.W.Frag} {i : Nat} {f : Str} (so : SimE K ca W0' to ro) : SimG K ca (gFld K to f) (agFld i f ro) := fun σ H G own ρ Ω v d Qa Qc r s dv h k =>
  so σ H G own ρ Ω Wf _ _ r s h (fun v1 H1 G1 own1 d1 Ω1 e1 r1 dv1 q1 => by
    obtain ⟨a, c, fs, d', rfl, ho, hi, hl, q⟩ := q1
    cases dv1
    obtain ⟨cl, nd, na, dx, fs', hp, fv⟩ := r1.objAt ho
    obtain ⟨v', hv, dv'⟩ := fv.get hi
    refine ⟨a, c, dx, fs', rfl, hp, cl, na (f, d') (List.mem_of_getElem? hi), by rw [fv.length]; exact hl, ?_⟩
    rw [putF_at (by rw [fv.names]; exact nd) hv]
    have hn : (fs.set i (f, d)).map (·.1) = fs.map (·.1) := by
      rw [List.map_set]
      have hi' : (fs.map (·.1))[i]? = some f := by rw [List.getElem?_map, hi]; rfl
      obtain ⟨h1, h2⟩ := List.getElem?_eq_some_iff.mp hi'
      conv => lhs; rw [← h2]
      exact List.set_getElem_self h1
    refine k _ _ _ _ _ _ (e1.trans (stp_obj (r1.own_ne ho))) (r1.setObj ho cl (by rw [hn]; exact nd) (fun x hx => ?_) (fv.set (dv.mono e1.same) i)) (s.mono e1.same) q
    have : x.1 ∈ fs.map (·.1) := by rw [← hn]; exact List.mem_map_of_mem hx
    obtain ⟨y, hy, ey⟩ := List.mem_map.mp this
    rw [← ey]
    exact na y hy) (fun _ _ _ _ _ _ _ z => z.elim)
theorem simg_new {K : PySem.W.Frag} {f : Str} (so : SimE K ca W0' to ro) : SimG K ca (gFld K to f) (agNew K f ro) := fun σ H G own ρ Ω v d Qa Qc r s dv h k =>
  so σ H G own ρ Ω Wf _ _ r s h (fun v1 H1 G1 own1 d1 Ω1 e1 r1 dv1 q1 => by
    obtain ⟨a, c, fs, rfl, ho, hi, nf, hl, q⟩ := q1
    cases dv1
    obtain ⟨cl, nd, na, dx, fs', hp, fv⟩ := r1.objAt ho
    refine ⟨a, c, dx, fs', rfl, hp, cl, nf, by rw [fv.length]; exact hl, ?_⟩
    rw [putF_out (by rw [fv.names]; exact hi)]
    refine k _ _ _ _ _ _ (e1.trans (stp_obj (r1.own_ne ho))) (r1.setObj ho cl ?_ (fun x hx => ?_) (fv.snoc (dv.mono e1.same))) (s.mono e1.same) q
    · rw [List.map_append, List.nodup_append]
      exact ⟨nd, by simp, fun x hx y hy e => hi (by simp at hy; rw [← hy, ← e]; exact hx)⟩
    · rcases List.mem_append.mp hx with hx | hx
      · exact na x hx
      · rw [List.mem_singleton.mp hx]; exact nf) (fun _ _ _ _ _ _ _ z => z.elim)
theorem ag_fld (i : Nat) {f : Str} (ho : AE X ca W0' o to ro) : AGt X ca (.Attribute o f pos) (gFld X.K to f) (agFld i f ro) := ⟨pg_fld ho.pe, simg_fld ho.sim⟩
theorem ag_new {f : Str} (ho : AE X ca W0' o to ro) : AGt X ca (.Attribute o f pos) (gFld X.K to f) (agNew X.K f ro) := ⟨pg_fld ho.pe, simg_new ho.sim⟩
/-- several targets -/
abbrev AGL := List D → En → Om → (En → Om → Prop) → Prop
def glNil : AGL := fun ds ρ Ω Q => ds = [] ∧ Q ρ Ω
def glCons (g : AG) (l : AGL) : AGL := fun ds ρ Ω Q => ∃ d r, ds = d :: r ∧ g d ρ Ω fun ρ1 Ω1 => l r ρ1 Ω1 Q
def SimGs (K : PySem.W.Frag) (ca : CA) (g : TGs) (ag : AGL) : Prop := ∀ (σ : L2.St) (H G : Hp) own ρ Ω v d (Qa : En → Om → Prop) (Qc : L2.St → Hp → Prop), Rel K ca G own H Ω → SR K G σ ρ → DVs K G v d → ag d ρ Ω Qa →
  (∀ σ' H' G' own' ρ' Ω', Stp G own H G' own' H' → Rel K ca G' own' H' Ω' → SR K G' σ' ρ' → Qa ρ' Ω' → Qc σ' H') → g v σ H Qc
structure AGls (X : Cx) (ca : CA) (es : List Expr) (g : TGs) (ag : AGL) : Prop where
  pe : PGs X es g
  sim : SimGs X.K ca g ag
theorem agl_nil : AGls X ca [] gNil glNil := ⟨pgs_nil, fun σ H G own ρ Ω v d Qa Qc r s dv h k => by
  obtain ⟨rfl, q⟩ := h
  cases dv
  exact ⟨rfl, k _ _ _ _ _ _ Stp.refl r s q⟩⟩
theorem agl_cons {g : TG} {ag : AG} {gs : TGs} {l : AGL} (h1 : AGt X ca e g ag) (h2 : AGls X ca es gs l) (hs : (assignEach (e :: es) X.env).map (·.2) = assign e X.env :: (assignEach es X.env).map (·.2) := by rfl) : AGls X ca (e :: es) (gCons g gs) (glCons ag l) :=
  ⟨pgs_cons h1.pe h2.pe hs, fun σ H G own ρ Ω v d Qa Qc r s dv h k => by
    obtain ⟨x, xs, rfl, q⟩ := h
    cases dv with
    | cons d1 d2 => exact ⟨_, _, rfl, h1.sim σ H G own ρ Ω _ _ _ _ r s d1 q fun σ1 H1 G1 own1 ρ1 Ω1 e1 r1 s1 q1 => h2.sim σ1 H1 G1 own1 ρ1 Ω1 _ _ _ _ r1 s1 (d2.mono e1.same) q1 fun σ2 H2 G2 own2 ρ2 Ω2 e2 => k σ2 H2 G2 own2 ρ2 Ω2 (e1.trans e2)⟩⟩
def agTupG (n : Nat) (l : AGL) : AG := fun d ρ Ω Q => ∃ xs, d = .tup xs ∧ xs.length = n ∧ l xs ρ Ω Q
theorem ag_tupG {k : Nat} {gs : TGs} {l : AGL} {n : Nat} (hc : X.calm = true) (h : AGls X ca es gs l) (hn : (assignEach es X.env).length = n := by rfl) (hst : (assignEach es X.env).findIdx? (·.1) = none := by rfl) : AGt X ca (.Tuple es k pos) (gTup X.K n gs) (agTupG n l) :=
  ⟨pg_tup hc h.pe hn hst, fun σ H G own ρ Ω v d Qa Qc r s dv h' k => by
    obtain ⟨xs, rfl, hl, q⟩ := h'
    cases dv with
    | tup hq ds => exact ⟨_, _, rfl, same_seqT r.sub hq, by rw [ds.length]; exact hl, h.sim σ H G own ρ Ω _ _ _ _ r s ds q k⟩⟩
/-- a method of the class at C, by its promise -/
structure Mth (P : Program) (w : World) (K : PySem.W.Frag) (mg : Str → Option Value) (base : Heap) (ca : CA) (k : Nat) (C : Addr) (m : Str) (F : AF) : Prop where
  ex : ∃ f fd ps, Meth K C m f ∧ FnOk P w K mg base (L2.CX P w) (k + 32) f fd ps (spA K ca F) ∧ Binds K fd ps []
theorem Mth.mono {P : Program} {w : World} {K : PySem.W.Frag} {mg : Str → Option Value} {base : Heap} {ca : CA} {j k : Nat} {C : Addr} {m : Str} {F : AF} (c : Mth P w K mg base ca j C m F) (h : j ≤ k) : Mth P w K mg base ca k C m F := by
  obtain ⟨f, fd, ps, M, G, b⟩ := c.ex
  exact ⟨f, fd, ps, M, G.mono (Nat.add_le_add_right h 32), b⟩
abbrev MthX (X : Cx) (ca : CA) (k : Nat) := Mth X.prog X.w X.K X.mg X.base ca k
/-- o.m(..), the class known when o is -/
def tMethD (X : Cx) (ca : CA) (k : Nat) (m : Str) (E : L2.St → XK) (ta : TE) (t : TA) : TE := fun σ H Q => ta σ H fun x H1 => ∃ a C dx fs F, x = .ref a ∧ H1 a = some (.ins C dx fs) ∧ fs.lookup m = none ∧ Cls X.K C ∧ MthX X ca k C m F ∧
  t σ H1 fun vs H2 => spA X.K ca F (x :: vs) H2 Q (E σ)
theorem pe_methD {k j : Nat} {m : Str} {E : L2.St → XK} {pl : Sem Bool} (he : PE X o ta) (hr : Rm j X.A) (hk : k ≤ j) (hx : ∀ σ, PassesAt (L2.CX X.prog X.w) X σ (E σ)) (ha : PA X (e :: es) tr)
    (hst : starEach (e :: es) X.env = (false, eval e X.env) :: starEach es X.env := by rfl) (hpl : (backTo pos (starEach es X.env)).any (·.1) = false := by rfl)
    (ht : eval (.Call (.Attribute o m apos) (e :: es) [] pos) X.env = (do
      let ov ← eval o X.env
      standAt apos.atName
      let (f, first) ← holding [ov] (getMethod ov m pl)
      callWith pos f first (backTo pos (starEach (e :: es) X.env)) (backToKw pos (keywordEach [] X.env))) := by rfl) :
    PE X (.Call (.Attribute o m apos) (e :: es) [] pos) (tMethD X ca k m E ta tr) := by
  refine ⟨fun pins s σ H Q I h => ?_⟩
  refine PySem.W.methodCall_KW (pl := pl) (thn (he.run pins s σ H _ I h) fun u s1 ⟨x, H1, I1, rx, a, C, dx, fs, F, ex, ea, l, c, M, q⟩ => ?_) ht
  subst ex
  obtain rfl : u = Value.ref a := rx
  obtain ⟨f, fd, ps, hm, Fk, hb⟩ := M.ex
  refine getmeth_ok I1 ea c hm l ?_
  refine PySem.W.callWith_K (first := [.ref a]) (h₀ := X.base) I.ok.mod.kin hm.kp (thn (ha.run pos pins s1 σ H1 _ I1 q) fun us s2 ⟨vs, H2, I2, r, q2⟩ => ⟨I2.kIn, ?_⟩) hst hpl
  exact run_fnS (us := .ref a :: us) (vs := .ref a :: vs) Fk (Room.mono hr (Nat.add_le_add_right hk 32)) hb (hx σ) I2 (.cons rfl r) q2
theorem pe_methD0 {k j : Nat} {m : Str} {E : L2.St → XK} {pl : Sem Bool} (he : PE X o ta) (hr : Rm j X.A) (hk : k ≤ j) (hx : ∀ σ, PassesAt (L2.CX X.prog X.w) X σ (E σ))
    (ht : eval (.Call (.Attribute o m apos) [] [] pos) X.env = (do
      let ov ← eval o X.env
      standAt apos.atName
      let (f, first) ← holding [ov] (getMethod ov m pl)
      callWith pos f first (backTo pos (starEach [] X.env)) (backToKw pos (keywordEach [] X.env))) := by rfl) :
    PE X (.Call (.Attribute o m apos) [] [] pos) (tMethD X ca k m E ta tNil) := by
  refine ⟨fun pins s σ H Q I h => ?_⟩
  refine PySem.W.methodCall_KW (pl := pl) (thn (he.run pins s σ H _ I h) fun u s1 ⟨x, H1, I1, rx, a, C, dx, fs, F, ex, ea, l, c, M, q⟩ => ?_) ht
  subst ex
  obtain rfl : u = Value.ref a := rx
  obtain ⟨f, fd, ps, hm, Fk, hb⟩ := M.ex
  refine getmeth_ok I1 ea c hm l ?_
  exact PySem.W.callWith_K0 (first := [.ref a]) I1.kIn hm.kp (run_fnS (us := [.ref a]) (vs := [.ref a]) Fk (Room.mono hr (Nat.add_le_add_right hk 32)) hb (hx σ) I1 (.cons rfl .nil) q)
/-- o.m(..) by the abstract store -/
def aMeth (M : Addr → Str → AF → Prop) (m : Str) (re : ATE) (rr : ATA) : ATE := fun Wa ρ Ω Q => re Wa ρ Ω fun x Ω1 => ∃ a c fs F, x = .o a ∧ Ω1 a = some (.obj c fs) ∧ m ∉ fs.map (·.1) ∧ M c m F ∧ rr Wa ρ Ω1 fun ds Ω2 => F (x :: ds) Ω2 Q fun cls Ω' => Wa cls ρ Ω'
theorem sim_meth {k : Nat} {m : Str} (se : SimE X.K ca W te re) (sa : SimA X.K ca W tr rr) : SimE X.K ca W (tMethD X ca k m (WE W) te tr) (aMeth (MthX X ca k) m re rr) := fun σ H G own ρ Ω Wa Qa Qc r s h' k' kx =>
  se σ H G own ρ Ω Wa _ _ r s h' (fun v H1 G1 own1 d Ω1 e1 r1 dv1 q1 => by
    obtain ⟨a, c, fs, F, rfl, ho, hm, M, q⟩ := q1
    cases dv1
    obtain ⟨cl, nd, na, dx, fs', hp, fv⟩ := r1.objAt ho
    refine ⟨a, c, dx, fs', F, rfl, hp, lookup_out (by rw [fv.names]; exact hm), cl, M, ?_⟩
    exact sa σ H1 G1 own1 ρ Ω1 Wa _ _ r1 (s.mono e1.same) q (fun vs H2 G2 own2 ds Ω2 e2 r2 dv2 q2 => ⟨G2, own2, Ω2, _, Qa, fun cls Ω' => Wa cls ρ Ω', r2, .cons (.o a) dv2, q2, fun v3 H3 G3 own3 d3 Ω3 e3 => k' v3 H3 G3 own3 d3 Ω3 ((e1.trans e2).trans e3), fun cls H3 G3 own3 Ω3 e3 => kx cls H3 G3 own3 Ω3 ((e1.trans e2).trans e3)⟩) (kx.mono e1)) kx
theorem ae_meth {k j : Nat} {m : Str} {pl : Sem Bool} (hr : Rm j X.A) (tk : Takes X W) (hk : k ≤ j) (ho : AE X ca W o te re) (ha : AA X ca W (e :: es) tr rr)
    (hst : starEach (e :: es) X.env = (false, eval e X.env) :: starEach es X.env := by rfl) (hpl : (backTo pos (starEach es X.env)).any (·.1) = false := by rfl)
    (ht : eval (.Call (.Attribute o m apos) (e :: es) [] pos) X.env = (do
      let ov ← eval o X.env
      standAt apos.atName
      let (f, first) ← holding [ov] (getMethod ov m pl)
      callWith pos f first (backTo pos (starEach (e :: es) X.env)) (backToKw pos (keywordEach [] X.env))) := by rfl) :
    AE X ca W (.Call (.Attribute o m apos) (e :: es) [] pos) (tMethD X ca k m (WE W) te tr) (aMeth (MthX X ca k) m re rr) := ⟨pe_methD ho.pe hr hk (fun σ => passAt tk σ) ha.pe hst hpl ht, sim_meth ho.sim ha.sim⟩
theorem ae_meth0 {k j : Nat} {m : Str} {pl : Sem Bool} (hr : Rm j X.A) (tk : Takes X W) (hk : k ≤ j) (ho : AE X ca W o te re)
    (ht : eval (.Call (.Attribute o m apos) [] [] pos) X.env = (do
      let ov ← eval o X.env
      standAt apos.atName
      let (f, first) ← holding [ov] (getMethod ov m pl)
      callWith pos f first (backTo pos (starEach [] X.env)) (backToKw pos (keywordEach [] X.env))) := by rfl) :
    AE X ca W (.Call (.Attribute o m apos) [] [] pos) (tMethD X ca k m (WE W) te tNil) (aMeth (MthX X ca k) m re aNil) := ⟨pe_methD0 ho.pe hr hk (fun σ => passAt tk σ) ht, sim_meth ho.sim aa_nil.sim⟩
structure CFn (K : PySem.W.Frag) (C : Addr) (mc : Value) (m : Str) (f : Addr) : Prop where
  rd : ClX.CRead K C mc
  at_ : PySem.W.findCls K (.ref C) mc m = some (.val (.ref f))
  kp : PySem.W.keepIn K (.ref f) = true
theorem pe_ccall {k j : Nat} {C f : Addr} {mc : Value} {x m : Str} {fd : FuncData} {ps : List Str} {sp : Sp} {E : L2.St → XK} {pl : Sem Bool} {p1 : Pos} (c : CFn X.K C mc m f) (F : FnOk X.prog X.w X.K X.mg X.base (L2.CX X.prog X.w) (k + 32) f fd ps sp) (hr : Rm j X.A) (hk : k ≤ j) (hb : Binds X.K fd ps []) (hx : ∀ σ, PassesAt (L2.CX X.prog X.w) X σ (E σ))
    (hg : Gl X x) (hm : X.mg x = some (.ref C)) (ha : PA X (e :: es) tr) (hdb : (x == ("__debug__" : Str)) = false := by decide)
    (hst : starEach (e :: es) X.env = (false, eval e X.env) :: starEach es X.env := by rfl) (hpl : (backTo pos (starEach es X.env)).any (·.1) = false := by rfl)
    (ht : eval (.Call (.Attribute (.Name x p1) m apos) (e :: es) [] pos) X.env = (do
      let ov ← eval (.Name x p1) X.env
      standAt apos.atName
      let (f, first) ← holding [ov] (getMethod ov m pl)
      callWith pos f first (backTo pos (starEach (e :: es) X.env)) (backToKw pos (keywordEach [] X.env))) := by rfl) :
    PE X (.Call (.Attribute (.Name x p1) m apos) (e :: es) [] pos) (tCallS sp E tr) := by
  refine ⟨fun pins s σ H Q I h => ?_⟩
  refine PySem.W.methodCall_KW (pl := pl) (ld_glob I hg hm ?_ hdb) ht
  refine PySem.W.method_cls I.kIn c.rd.ga (PySem.W.cls_value I.kIn c.rd.rd c.at_ rfl ?_)
  refine PySem.W.callWith_K (first := []) (h₀ := X.base) I.ok.mod.kin c.kp (thn (ha.run pos pins _ σ H _ (I.tok _) h) fun us s2 ⟨vs, H2, I2, r, q2⟩ => ⟨I2.kIn, ?_⟩) hst hpl
  exact run_fnS F (Room.mono hr (Nat.add_le_add_right hk 32)) hb (hx σ) I2 r q2
structure Cfn (P : Program) (w : World) (K : PySem.W.Frag) (mg : Str → Option Value) (base : Heap) (ca : CA) (k : Nat) (x m : Str) (F : AF) : Prop where
  ex : ∃ C mc f fd ps, CFn K C mc m f ∧ mg x = some (.ref C) ∧ FnOk P w K mg base (L2.CX P w) (k + 32) f fd ps (spA K ca F) ∧ Binds K fd ps []
theorem ae_ccall {k j : Nat} {x m : Str} {F : AF} {pl : Sem Bool} {p1 : Pos} (c : Cfn X.prog X.w X.K X.mg X.base ca k x m F) (hr : Rm j X.A) (tk : Takes X W) (hk : k ≤ j) (ha : AA X ca W (e :: es) tr rr) (hg : Gl X x := by rfl) (hdb : (x == ("__debug__" : Str)) = false := by decide)
    (hst : starEach (e :: es) X.env = (false, eval e X.env) :: starEach es X.env := by rfl) (hpl : (backTo pos (starEach es X.env)).any (·.1) = false := by rfl)
    (ht : eval (.Call (.Attribute (.Name x p1) m apos) (e :: es) [] pos) X.env = (do
      let ov ← eval (.Name x p1) X.env
      standAt apos.atName
      let (f, first) ← holding [ov] (getMethod ov m pl)
      callWith pos f first (backTo pos (starEach (e :: es) X.env)) (backToKw pos (keywordEach [] X.env))) := by rfl) :
    AE X ca W (.Call (.Attribute (.Name x p1) m apos) (e :: es) [] pos) (tCallS (spA X.K ca F) (WE W) tr) (aFn F rr) := by
  obtain ⟨C, mc, f, fd, ps, M, hm, Fk, hb⟩ := c.ex
  exact ⟨pe_ccall M Fk hr hk hb (fun σ => passAt tk σ) hg hm ha.pe hdb hst hpl ht, sim_fn ha.sim⟩
theorem run_makeS {k : Nat} {f C : Addr} {fd : FuncData} {ps : List Str} {sp : Sp} {E : L2.St → XK} {pins : List (Addr × Obj)} {σ : L2.St} {H : Hp} {s : Shared} {Q : VK} {us : List Value} {vs : List V} (M : Mk X.K C f) (F : FnOk X.prog X.w X.K X.mg X.base (L2.CX X.prog X.w) k f fd ps sp) (hr : Room (k + 1) X.A) (hb : Binds X.K fd ps [])
    (hx : ∀ σ, PassesAt (L2.CX X.prog X.w) X σ (E σ)) (I : Inv X pins σ H s) (r : Vals vs us)
    (h : ∀ x dx, H x = none → H dx = none → dx ≠ x → sp (.ref x :: vs) (upd (upd H dx (.own x)) x (.ins C dx [])) (fun v H2 => v = .non ∧ Q (.ref x) H2) (E σ)) :
    wpAny (model X.prog X.w) X.A (call (.ref C) us) (EP X pins σ Q) X.xe s := by
  have hq := h (s.heap.objs.size + 1) s.heap.objs.size (I.hok.fresh (Nat.le_succ _)) (I.hok.fresh (Nat.le_refl _)) (Nat.ne_of_lt (Nat.lt_succ_self _))
  have I2 := Inv.made (C := C) I
  have r2 : Vals (V.ref (s.heap.objs.size + 1) :: vs) (Value.ref (s.heap.objs.size + 1) :: us) := .cons rfl r
  have hl : (Value.ref (s.heap.objs.size + 1) :: us).length = ps.length := by
    have e := r2.length
    rw [F.len _ _ _ _ hq] at e
    exact e.symm
  have b := hb { s with heap := (s.heap.push PySem.W.emptyDict).push (PySem.W.instObj C s.heap.objs.size) } (Value.ref (s.heap.objs.size + 1) :: us) I2.kIn (by rw [List.append_nil]; exact hl)
  rw [List.append_nil] at b
  refine wpAny_call (make_map (f := f) I.kIn M.makes M.init (beq_iff_eq.mp M.fn) (codeAny_mono (F.run _ X.stack _ _ ⟨Value.ref (s.heap.objs.size + 1) :: us, []⟩ (Value.ref (s.heap.objs.size + 1) :: us) _ _ (E σ) (hr.make C us [])
    (I2.env0.make C us []) b r2 hq) fun r s' hq' => ?_))
  cases r with
  | error e => exact hx σ pins _ _ e s' I2 hq'
  | ok fl =>
    cases fl with
    | ret u =>
      obtain ⟨v, H', I3, rv, ev, q3⟩ := I2.after hq'
      subst ev
      exact ⟨rv, ⟨V.ref (s.heap.objs.size + 1), H', I3, rfl, q3⟩⟩
    | next => exact False.elim hq'
    | brk => exact False.elim hq'
    | cont => exact False.elim hq'
def tMakeS (C : Addr) (sp : Sp) (E : L2.St → XK) (t : TA) : TE := fun σ H Q => t σ H fun vs H1 => ∀ x dx, H1 x = none → H1 dx = none → dx ≠ x →
  sp (.ref x :: vs) (upd (upd H1 dx (.own x)) x (.ins C dx [])) (fun v H2 => v = .non ∧ Q (.ref x) H2) (E σ)
theorem pe_makeS {k : Nat} {f C : Addr} {x : Str} {fd : FuncData} {ps : List Str} {sp : Sp} {E : L2.St → XK} (M : Mk X.K C f) (F : FnOk X.prog X.w X.K X.mg X.base (L2.CX X.prog X.w) k f fd ps sp) (hr : Room (k + 1) X.A) (hg : Gl X x) (hm : X.mg x = some (.ref C)) (hb : Binds X.K fd ps []) (hx : ∀ σ, PassesAt (L2.CX X.prog X.w) X σ (E σ))
    (ha : PA X (e :: es) tr) (hdb : (x == ("__debug__" : Str)) = false := by decide) (he : starEach (e :: es) X.env = (false, eval e X.env) :: starEach es X.env := by rfl) (hpl : (backTo pos (starEach es X.env)).any (·.1) = false := by rfl) :
    PE X (.Call (.Name x p) (e :: es) [] pos) (tMakeS C sp E tr) := by
  refine ⟨fun pins s σ H Q I h => ?_⟩
  refine wpAny_Call_Name_kw (ld_glob I hg hm ?_ hdb)
  refine PySem.W.callWith_K (h₀ := X.base) I.ok.mod.kin M.kp (thn (ha.run pos pins s σ H _ I h) fun us s1 ⟨vs, H1, I1, r, q⟩ => ⟨I1.kIn, ?_⟩) he hpl
  exact run_makeS M F hr hb hx I1 r q
structure Mkc (P : Program) (w : World) (K : PySem.W.Frag) (mg : Str → Option Value) (base : Heap) (ca : CA) (k : Nat) (x : Str) (C : Addr) (F : AF) : Prop where
  ex : ∃ f fd ps, Mk K C f ∧ Cls K C ∧ mg x = some (.ref C) ∧ FnOk P w K mg base (L2.CX P w) (k + 32) f fd ps (spA K ca F) ∧ Binds K fd ps []
def aMake (C : Addr) (F : AF) (rr : ATA) : ATE := fun Wa ρ Ω Q => rr Wa ρ Ω fun ds Ω1 => ∀ p, Ω1 p = none → F (.o p :: ds) (oset Ω1 p (.obj C [])) (fun d Ω2 => d = .non ∧ Q (.o p) Ω2) fun cls Ω' => Wa cls ρ Ω'
theorem ae_make {k j : Nat} {x : Str} {C : Addr} {F : AF} (c : Mkc X.prog X.w X.K X.mg X.base ca k x C F) (hr : Rm j X.A) (tk : Takes X W) (hk : k + 1 ≤ j) (ha : AA X ca W (e :: es) tr rr)
    (hg : Gl X x := by rfl) (hdb : (x == ("__debug__" : Str)) = false := by decide) (he : starEach (e :: es) X.env = (false, eval e X.env) :: starEach es X.env := by rfl) (hpl : (backTo pos (starEach es X.env)).any (·.1) = false := by rfl) :
    AE X ca W (.Call (.Name x p) (e :: es) [] pos) (tMakeS C (spA X.K ca F) (WE W) tr) (aMake C F rr) := by
  obtain ⟨f, fd, ps, M, cl, hm, Fk, hb⟩ := c.ex
  refine ⟨pe_makeS M Fk (Room.mono hr (by omega)) hg hm hb (fun σ => passAt tk σ) ha.pe hdb he hpl, fun σ H G own ρ Ω Wa Qa Qc r s h' k' kx => ?_⟩
  refine ha.sim σ H G own ρ Ω Wa _ _ r s h' (fun vs H1 G1 own1 ds Ω1 e1 r1 dv1 q1 => fun x dx hx hd ne => ?_) kx
  obtain ⟨r2, e2⟩ := r1.newObj cl hx hd ne
  refine ⟨_, _, _, _, _, _, r2, .cons (.o x) dv1, q1 x (r1.fresh hx), ?_, ?_⟩
  · rintro v3 H3 G3 own3 d3 Ω3 e3 r3 dv3 ⟨rfl, q3⟩
    cases dv3
    exact ⟨rfl, k' _ _ _ _ _ _ ((e1.trans e2).trans e3) r3 (.o x) q3⟩
  · intro cls H3 G3 own3 Ω3 e3
    exact kx cls H3 G3 own3 Ω3 ((e1.trans e2).trans e3)
structure Xcl (K : PySem.W.Frag) (mg : Str → Option Value) (x : Str) (C : Addr) : Prop where
  xf : PySem.W.excIn K C [.type "ValueError", .type "Exception", .type "BaseException", .type "object"] "ValueError.__new__" = true
  gc : mg x = some (.ref C)
  kp : PySem.W.keepIn K (.ref C) = true
  sb : PySem.W.subIn K (.ref C) (.type "BaseException") = some true
  ty : PySem.W.typeIn K (.ref C) = some (.type "type")
def aRaise (C : Addr) : ATS := fun Wa _ ρ Ω => Wa (.ref C) ρ Ω
theorem as_raise {x m : Str} {C : Addr} {j : Nat} {p2 : Pos} (hc : X.calm = true) (tk : Takes X W) (c : Xcl X.K X.mg x C) (hg : Gl X x := by rfl) (hdb : (x == ("__debug__" : Str)) = false := by decide) :
    AS X ca W (.Raise (some (.Call (.Name x p) [.Constant (.str m) j p2] [] apos)) none pos) (fun _ σ H => W (.ref C) none σ H) (aRaise C) :=
  ⟨ps_raise hc tk (pmk_own PySem.F.excBase_ValueError c.xf c.gc c.kp (raises_own c.sb c.ty) hg hdb), fun σ H G own ρ Ω Wa Da Dc r s h k => k.ex _ _ _ _ _ _ _ Stp.refl r s h⟩
end
end PL
namespace PL
open PySem L2
/-- a method's def, and the classes that have it -/
structure Mdf (K : PySem.W.Frag) (Cs : List Addr) (m qual : Str) (st : Stmt) (ps : List Str) : Prop where
  ex : ∃ f fd, Fun K m qual st f fd ∧ Binds K fd ps [] ∧ ∀ C ∈ Cs, Meth K C m f
/-- a class and its __init__ -/
structure Mki (K : PySem.W.Frag) (mg : Str → Option Value) (x : Str) (C : Addr) (qual : Str) (st : Stmt) (ps : List Str) : Prop where
  ex : ∃ f fd, Fun K "__init__" qual st f fd ∧ Binds K fd ps [] ∧ Mk K C f ∧ Cls K C ∧ mg x = some (.ref C)
/-- C.m as a def -/
structure Cdf (K : PySem.W.Frag) (mg : Str → Option Value) (x m qual : Str) (st : Stmt) (ps : List Str) : Prop where
  ex : ∃ C mc f fd, Fun K m qual st f fd ∧ Binds K fd ps [] ∧ CFn K C mc m f ∧ mg x = some (.ref C)
section
variable {P : Program} {w : World} {K : PySem.W.Frag} {mg : Str → Option Value} {base : Heap} {ca : CA} {x m qual : Str} {st : Stmt} {N ps : List Str} {k : Nat} {Fa : AF} {C : Addr} {Cs : List Addr}
abbrev Body (P : Program) (w : World) (K : PySem.W.Frag) (mg : Str → Option Value) (base : Heap) (ca : CA) (qual : Str) (st : Stmt) (N : List Str) (k : Nat) (Fa : AF) : Prop :=
  ∀ (f : Addr) (cdv : Value) (A : Around) (outer : List Env) (s : Shared) (H : Hp) (E : XK), Rm k (A.deeper (PyProof.Rows.envOfC qual (defScope st) s.heap.objs.size f cdv)) →
      ∃ ts ta, ASs (cxOf (L2.CX P w) P w K mg base N qual (defScope st) f cdv A outer s H E) ca (WD E) (defBody st) ts ta ∧
        ∀ ds Ω Qa Ea, Fa ds Ω Qa Ea → ta (fun cls _ Ω' => Ea cls Ω') { nx := fun _ Ω' => Qa .non Ω', rt := Qa } (astart N ds) Ω
theorem mth (d : Mdf K Cs m qual st ps) (S : FnScope N ps (defScope st)) (len : ∀ ds Ω Q E, Fa ds Ω Q E → ds.length = ps.length) (h : Body P w K mg base ca qual st N k Fa) : ∀ C ∈ Cs, Mth P w K mg base ca (k + 1) C m Fa := fun C hC => by
  obtain ⟨f, fd, F, b, M⟩ := d.ex
  exact ⟨f, fd, ps, M C hC, (okA F S len (h f)).mono (by omega), b⟩
theorem mth_none (d : Mdf K Cs m qual st ps) (h : ∀ ds Ω Q E, ¬ Fa ds Ω Q E) : ∀ C ∈ Cs, Mth P w K mg base ca k C m Fa := fun C hC => by
  obtain ⟨f, fd, F, b, M⟩ := d.ex
  exact ⟨f, fd, ps, M C hC, ⟨fun vs H Q E ⟨_, _, _, _, _, _, _, _, z, _⟩ => (h _ _ _ _ z).elim, fun _ _ _ _ _ _ _ _ _ _ _ _ _ ⟨_, _, _, _, _, _, _, _, z, _⟩ => (h _ _ _ _ z).elim⟩, b⟩
theorem mkc (d : Mki K mg x C qual st ps) (S : FnScope N ps (defScope st)) (len : ∀ ds Ω Q E, Fa ds Ω Q E → ds.length = ps.length) (h : Body P w K mg base ca qual st N k Fa) : Mkc P w K mg base ca (k + 1) x C Fa := by
  obtain ⟨f, fd, F, b, M, cl, g⟩ := d.ex
  exact ⟨f, fd, ps, M, cl, g, (okA F S len (h f)).mono (by omega), b⟩
theorem cfn (d : Cdf K mg x m qual st ps) (S : FnScope N ps (defScope st)) (len : ∀ ds Ω Q E, Fa ds Ω Q E → ds.length = ps.length) (h : Body P w K mg base ca qual st N k Fa) : Cfn P w K mg base ca (k + 1) x m Fa := by
  obtain ⟨C, mc, f, fd, F, b, M, g⟩ := d.ex
  exact ⟨C, mc, f, fd, ps, M, g, (okA F S len (h f)).mono (by omega), b⟩
end
section
variable {X : Cx} {ca : CA} {W : WX} {a b e : Expr} {es : List Expr} {ta tb te : TE} {ra rb re : ATE} {tr : TA} {rr : ATA} {pos p : Pos}
theorem ae_globE {x : Str} {i : Int} (hg : Gl X x) (hm : ∃ t, X.mg x = some (.int i t)) (hd : (x == ("__debug__" : Str)) = false := by decide) : AE X ca W (.Name x pos) (tC (.int i)) (aC (.int i)) := by
  obtain ⟨t, hm⟩ := hm
  exact ae_globI hg hm hd
/-- a tuple of ints at the text's top -/
structure TupK (K : PySem.W.Frag) (mg : Str → Option Value) (x : Str) (a : Addr) (ns : List Int) : Prop where
  mg_ : mg x = some (.ref a)
  at_ : ∀ H, SqT K H a (iv ns)
theorem ae_globT {x : Str} {a : Addr} {ns : List Int} (hg : Gl X x) (h : TupK X.K X.mg x a ns) (hd : (x == ("__debug__" : Str)) = false := by decide) : AE X ca W (.Name x pos) (tC (.ref a)) (aC (.tup (ns.map D.int))) :=
  ⟨pe_glob hg h.mg_ rfl hd, sim_c fun G => .tup (h.at_ G) (DVs.of_ints ns)⟩
/-- an int among ints -/
def fInI (neg : Bool) : D → D → Om → AQ → Prop := fun x y Ω Q => ∃ (i : Int) (ns : List Int), x = .int i ∧ y.seq Ω = some (ns.map D.int) ∧ Q (.bl (if neg then !decide (i ∈ ns) else decide (i ∈ ns))) Ω
theorem inV_ints {i : Int} : ∀ ns : List Int, inV (.int i) (ns.map V.int) = decide (i ∈ ns)
  | [] => rfl
  | n :: r => by
    have ih := inV_ints (i := i) r
    unfold inV at ih ⊢
    rw [List.map_cons, List.any_cons, ih]
    show ((n == i) || decide (i ∈ r)) = decide (i ∈ n :: r)
    rw [Bool.eq_iff_iff]
    simp only [Bool.or_eq_true, beq_iff_eq, decide_eq_true_eq, List.mem_cons]
    constructor
    · rintro (h | h)
      · exact .inl h.symm
      · exact .inr h
    · rintro (h | h)
      · exact .inl h.symm
      · exact .inr h
theorem all_flat : ∀ ns : List Int, (ns.map V.int).all flatV = true
  | [] => rfl
  | n :: r => by rw [List.map_cons, List.all_cons, all_flat r]; rfl
theorem simr_inI {K : PySem.W.Frag} {neg : Bool} : SimR K ca (rIn K neg) (fInI neg) := by
  intro H G own Ω x y v w Qa Qc r dx dy h k
  obtain ⟨i, ns, rfl, hs, q⟩ := h
  cases dx
  obtain ⟨p, vs, rfl, ds, hv⟩ := seq_of r dy hs
  rw [ds.ints] at hv
  exact ⟨p, _, rfl, hv, rfl, all_flat ns, by rw [inV_ints]; exact k _ _ _ _ _ _ Stp.refl r (.bl _) q⟩
theorem at_inI (ha : AE X ca W a ta ra) (hb : AE X ca W b tb rb) (hm : behindInMarks .In b = false := by rfl) : AT X ca W (.Compare a [.In] [b] pos) (tTest (tOp (rIn X.K false) ta tb)) (aB (aOp (fInI false) ra rb)) := at_cmp op_in_seq simr_inI ha hb hm
/-- what the proof never comes to -/
def aNever : ATS := fun _ _ _ _ => False
end
end PL
namespace PL
open PySem L2
structure CT where
  c_Purse : Addr := 0
  c_Fixed : Addr := 0
  c_Fraction : Addr := 0
  c_Root : Addr := 0
  c_Ruled : Addr := 0
  c_Four : Addr := 0
  c_Eight : Addr := 0
  c_NoValue : Addr := 0
  c_BadTree : Addr := 0
  c_TooLong : Addr := 0
  c_PartError : Addr := 0
  a_TIMES : Addr := 0
inductive R where
  | fixed (t b : Int) (g : Bool)
  | frac (k : Nat) (t b : Int)
  | root (k : Nat) (t s b f : Int)
  | ruled (k : Nat) (ps ring steps : List Int)
  | four (a b c d : Int) (rdy bg : Bool) (x : R)
  | fourX (x : R) (t b : Int) (g : Bool)
  | eight (a b c d e f g h : Int) (m0 m1 : Nat) (bg : Bool) (x y : R)
  | eightX (x y : R) (t b : Int) (g : Bool)
  | eightF (w : Bool) (dead fr : R)
inductive Kd where
  | fixed | leaf | four | eight
def R.kd : R → Kd
  | .fixed .. => .fixed
  | .frac .. => .leaf
  | .root .. => .leaf
  | .ruled .. => .leaf
  | .four .. => .four
  | .fourX .. => .four
  | .eight .. => .eight
  | .eightX .. => .eight
  | .eightF .. => .eight
/-- how deep its calls go -/
def R.lv : R → Nat
  | .fixed .. => 1
  | .frac .. => 3
  | .root .. => 3
  | .ruled .. => 3
  | .four _ _ _ _ _ _ x => max x.lv 3 + 1
  | .fourX x _ _ _ => max x.lv 3 + 1
  | .eight _ _ _ _ _ _ _ _ _ _ _ x y => max (max x.lv y.lv) 3 + 2
  | .eightX x y _ _ _ => max (max x.lv y.lv) 3 + 2
  | .eightF _ dead fr => max (max dead.lv fr.lv) 3 + 1
def dtup (ns : List Int) : D := .tup (ns.map D.int)
abbrev oPurse (C : CT) (m : Int) : AO := .obj C.c_Purse [("left", .int m)]
abbrev oFixed (C : CT) (t b : Int) (g : Bool) : AO := .obj C.c_Fixed [("top", .int t), ("below", .int b), ("begun", .bl g)]
abbrev oFrac (C : CT) (k t b : Int) : AO := .obj C.c_Fraction [("many", .int k), ("top", .int t), ("below", .int b)]
abbrev oRoot (C : CT) (k t s b f : Int) : AO := .obj C.c_Root [("many", .int k), ("top", .int t), ("square", .int s), ("below", .int b), ("floor", .int f)]
abbrev oRuled (C : CT) (k : Int) (ps ring steps : List Int) : AO := .obj C.c_Ruled [("many", .int k), ("first", .tup (ps.map D.int)), ("ring", .tup (ring.map D.int)), ("steps", .tup (steps.map D.int))]
abbrev oFour (C : CT) (ns : List D) (z : Addr) (rdy bg : Bool) (f : D) : AO := .obj C.c_Four [("numbers", .tup ns), ("inner", .o z), ("ready", .bl rdy), ("begun", .bl bg), ("fixed", f)]
abbrev oEight (C : CT) (ns : List D) (z1 z2 k : Addr) (bg : Bool) (f : D) : AO := .obj C.c_Eight [("numbers", .tup ns), ("inners", .lst [.o z1, .o z2]), ("many", .o k), ("begun", .bl bg), ("rest", f)]
/-- the object at p holds r; S: its own objects -/
inductive RdO (C : CT) (Ω : Om) : Addr → R → List Addr → Prop
  | fixed {p : Addr} {t b : Int} {g : Bool} : Ω p = some (oFixed C t b g) → RdO C Ω p (.fixed t b g) [p]
  | frac {p : Addr} {k : Nat} {t b : Int} : Ω p = some (oFrac C k t b) → RdO C Ω p (.frac k t b) [p]
  | root {p : Addr} {k : Nat} {t s b f : Int} : Ω p = some (oRoot C k t s b f) → RdO C Ω p (.root k t s b f) [p]
  | ruled {p : Addr} {k : Nat} {ps ring steps : List Int} : Ω p = some (oRuled C k ps ring steps) → RdO C Ω p (.ruled k ps ring steps) [p]
  | four {p z : Addr} {a b c d : Int} {rdy bg : Bool} {x : R} {S : List Addr} : Ω p = some (oFour C [.int a, .int b, .int c, .int d] z rdy bg .non) → RdO C Ω z x S → p ∉ S → RdO C Ω p (.four a b c d rdy bg x) (p :: S)
  | fourX {p z f : Addr} {ns : List D} {t b : Int} {g rdy bg : Bool} {x : R} {S : List Addr} : Ω p = some (oFour C ns z rdy bg (.o f)) → Ω f = some (oFixed C t b g) → RdO C Ω z x S → p ∉ S → f ∉ S → p ≠ f → RdO C Ω p (.fourX x t b g) (p :: f :: S)
  | eight {p z1 z2 k : Addr} {a b c d e f g h : Int} {m0 m1 : Nat} {bg : Bool} {x y : R} {S1 S2 : List Addr} : Ω p = some (oEight C [.int a, .int b, .int c, .int d, .int e, .int f, .int g, .int h] z1 z2 k bg .non) → Ω k = some (.lst [.int m0, .int m1]) →
      RdO C Ω z1 x S1 → RdO C Ω z2 y S2 → p ≠ k → p ∉ S1 → p ∉ S2 → k ∉ S1 → k ∉ S2 → (∀ b ∈ S1, b ∉ S2) → RdO C Ω p (.eight a b c d e f g h m0 m1 bg x y) (p :: k :: (S1 ++ S2))
  | eightX {p z1 z2 k q : Addr} {ns : List D} {t b : Int} {g bg : Bool} {x y : R} {S1 S2 : List Addr} : Ω p = some (oEight C ns z1 z2 k bg (.o q)) → Ω q = some (oFixed C t b g) →
      RdO C Ω z1 x S1 → RdO C Ω z2 y S2 → p ≠ q → p ∉ S1 → p ∉ S2 → q ∉ S1 → q ∉ S2 → (∀ b ∈ S1, b ∉ S2) → RdO C Ω p (.eightX x y t b g) (p :: q :: (S1 ++ S2))
  | eightF {p z1 z2 k q c : Addr} {ns : List D} {fs : List (Str × D)} {bg w : Bool} {dead fr : R} {S1 S2 : List Addr} : Ω p = some (oEight C ns z1 z2 k bg (.o q)) → Ω q = some (.obj c fs) → fs[1]? = some (("inner" : Str), D.o (if w then z1 else z2)) →
      RdO C Ω (if w then z2 else z1) dead S1 → RdO C Ω q fr S2 → fr.kd = .four → p ∉ S1 → p ∉ S2 → (∀ b ∈ S1, b ∉ S2) → RdO C Ω p (.eightF w dead fr) (p :: (S1 ++ S2))
section
variable {C : CT} {Ω Ω' : Om} {p : Addr} {r : R} {S : List Addr}
theorem RdO.keep (x : RdO C Ω p r S) (h : ∀ b ∈ S, Ω' b = Ω b) : RdO C Ω' p r S := by
  induction x with
  | fixed e => exact .fixed ((h _ (by simp)).trans e)
  | frac e => exact .frac ((h _ (by simp)).trans e)
  | root e => exact .root ((h _ (by simp)).trans e)
  | ruled e => exact .ruled ((h _ (by simp)).trans e)
  | four e x n ih => exact .four ((h _ (by simp)).trans e) (ih fun b hb => h b (by simp [hb])) n
  | fourX e e2 x n1 n2 n3 ih => exact .fourX ((h _ (by simp)).trans e) ((h _ (by simp)).trans e2) (ih fun b hb => h b (by simp [hb])) n1 n2 n3
  | eight e e2 x y n1 n2 n3 n4 n5 n6 ih1 ih2 => exact .eight ((h _ (by simp)).trans e) ((h _ (by simp)).trans e2) (ih1 fun b hb => h b (by simp [hb])) (ih2 fun b hb => h b (by simp [hb])) n1 n2 n3 n4 n5 n6
  | eightX e e2 x y n1 n2 n3 n4 n5 n6 ih1 ih2 => exact .eightX ((h _ (by simp)).trans e) ((h _ (by simp)).trans e2) (ih1 fun b hb => h b (by simp [hb])) (ih2 fun b hb => h b (by simp [hb])) n1 n2 n3 n4 n5 n6
  | eightF e e2 l x y kd n1 n2 n3 ih1 ih2 =>
    have hm : ∀ {q r S}, RdO C Ω q r S → q ∈ S := fun z => by cases z <;> simp
    exact .eightF ((h _ (by simp)).trans e) ((h _ (by simp [hm y])).trans e2) l (ih1 fun b hb => h b (by simp [hb])) (ih2 fun b hb => h b (by simp [hb])) kd n1 n2 n3
theorem RdO.there (x : RdO C Ω p r S) : ∀ b ∈ S, Ω b ≠ none := by
  induction x with
  | fixed e => intro b hb; simp at hb; subst hb; rw [e]; simp
  | frac e => intro b hb; simp at hb; subst hb; rw [e]; simp
  | root e => intro b hb; simp at hb; subst hb; rw [e]; simp
  | ruled e => intro b hb; simp at hb; subst hb; rw [e]; simp
  | four e x n ih => intro b hb; simp at hb; rcases hb with rfl | hb; rw [e]; simp; exact ih b hb
  | fourX e e2 x n1 n2 n3 ih => intro b hb; simp at hb; rcases hb with rfl | rfl | hb; rw [e]; simp; rw [e2]; simp; exact ih b hb
  | eight e e2 x y n1 n2 n3 n4 n5 n6 ih1 ih2 => intro b hb; simp at hb; rcases hb with rfl | rfl | hb | hb; rw [e]; simp; rw [e2]; simp; exact ih1 b hb; exact ih2 b hb
  | eightX e e2 x y n1 n2 n3 n4 n5 n6 ih1 ih2 => intro b hb; simp at hb; rcases hb with rfl | rfl | hb | hb; rw [e]; simp; rw [e2]; simp; exact ih1 b hb; exact ih2 b hb
  | eightF e e2 l x y kd n1 n2 n3 ih1 ih2 => intro b hb; simp at hb; rcases hb with rfl | hb | hb; rw [e]; simp; exact ih1 b hb; exact ih2 b hb
end
inductive Ans where
  | part (n : Int) | fin | waits | none
def Ans.d : Ans → D
  | .part n => .tup [.str "part", .int n]
  | .fin => .tup [.str "end"]
  | .waits => .tup [.str "waits"]
  | .none => .non
/-- how a call ends -/
def Ans.ok (C : CT) (a : Ans) (Q : AQ) (E : Value → Om → Prop) (Ω : Om) : Prop := match a with
  | .none => E (.ref C.c_NoValue) Ω
  | a => Q a.d Ω
/-- small enough for all that is reckoned -/
def Sm (x : Int) : Prop := x.natAbs < 2 ^ 290000
def ruV (k : Nat) (ps ring steps : List Int) : Int := if k < ps.length then ps.getD k 0 else ring.getD ((k - ps.length) % ring.length) 0 + ((k - ps.length) / ring.length : Nat) * steps.getD ((k - ps.length) % ring.length) 0
def belowRest (least : Int) (c0 : Int × Int) : List (Int × Int) → Option Int
  | [] => some least
  | (t, b) :: r => if 0 < (t - (least + 1) * b) * b ∨ ((t - (least + 1) * b) * b = 0 ∧ t * c0.2 = c0.1 * b) then none else belowRest least c0 r
/-- the mirror of below_all -/
def belowAll (cs : List (Int × Int)) : Option Int := match cs with
  | [] => none
  | c0 :: r => if cs.any (fun c => decide (c.2 * c0.2 ≤ 0)) then none else
    let least := (r.map fun c => c.1.fdiv c.2).foldl min (c0.1.fdiv c0.2)
    belowRest least c0 cs
def sure4 (rdy : Bool) (a b c d : Int) : Option Int := if rdy then belowAll [(a, c), (a + b, c + d)] else none
def sure8 (m0 m1 : Nat) (a b c d e f g h : Int) : Option Int := if 0 < m0 ∧ 0 < m1 then belowAll [(a, e), (a + b, e + f), (a + c, e + g), (a + b + c + d, e + f + g + h)] else none
def Sm8 (a b c d e f g h : Int) : Prop := Sm a ∧ Sm b ∧ Sm c ∧ Sm d ∧ Sm e ∧ Sm f ∧ Sm g ∧ Sm h
/-- r with purse m answers ans, and is r' with purse m' behind it; n: parts taken by the outermost loop -/
inductive Told : Nat → R → Int → R → Int → Ans → Prop
  | fxEnd {t m} : Told 0 (.fixed t 0 true) m (.fixed t 0 true) m .fin
  | fxNo {t m} : Told 0 (.fixed t 0 false) m (.fixed t 0 false) m .none
  | fxPart {t b g m} : b ≠ 0 → Sm t → Sm b → Told 0 (.fixed t b g) m (.fixed b (t - t.fdiv b * b) true) m (.part (t.fdiv b))
  | frEnd {k t m} : Told 0 (.frac k t 0) m (.frac k t 0) m .fin
  | frWait {k t b} : b ≠ 0 → Told 0 (.frac k t b) 0 (.frac k t b) 0 .waits
  | frPart {k t b m} : b ≠ 0 → m ≠ 0 → Sm t → Sm b → Told 0 (.frac k t b) m (.frac (k + 1) b (t - t.fdiv b * b)) (m - 1) (.part (t.fdiv b))
  | rtWait {k t s b f} : Told 0 (.root k t s b f) 0 (.root k t s b f) 0 .waits
  | rtPart {k t s b f m q t'} : m ≠ 0 → b ≠ 0 → Sm t → Sm s → Sm b → Sm f → q = (t + f + (if b < 0 then 1 else 0)).fdiv b → t' = q * b - t → Sm t' → Told 0 (.root k t s b f) m (.root (k + 1) t' s ((s - t' * t').fdiv b) f) (m - 1) (.part q)
  | ruEnd {k ps steps m} : ps.length ≤ k → Told 0 (.ruled k ps [] steps) m (.ruled k ps [] steps) m .fin
  | ruWait {k ps ring steps} : (ring = [] → k < ps.length) → Told 0 (.ruled k ps ring steps) 0 (.ruled k ps ring steps) 0 .waits
  | ruPart {k ps ring steps m} : (ring = [] → k < ps.length) → m ≠ 0 → steps.length = ring.length → k < 2 ^ 60 → ps.length < 2 ^ 60 → ring.length < 2 ^ 60 → (∀ n ∈ ring ++ steps, Sm n) → Told 0 (.ruled k ps ring steps) m (.ruled (k + 1) ps ring steps) (m - 1) (.part (ruV k ps ring steps))
  | foTell {a b c d rdy bg x m q} : Sm a → Sm b → Sm c → Sm d → sure4 rdy a b c d = some q → Told 0 (.four a b c d rdy bg x) m (.four c d (a - q * c) (b - q * d) rdy true x) m (.part q)
  | foWait {a b c d rdy bg x m i x' m'} : Sm a → Sm b → Sm c → Sm d → sure4 rdy a b c d = none → Told i x m x' m' .waits → Told 0 (.four a b c d rdy bg x) m (.four a b c d rdy bg x') m' .waits
  | foNo {a b c d rdy bg x m i x' m'} : Sm a → Sm b → Sm c → Sm d → sure4 rdy a b c d = none → Told i x m x' m' .none → Told 0 (.four a b c d rdy bg x) m (.four a b c d rdy bg x') m' .none
  | foEnd {a b c d rdy bg x m i x' m1 t' b' g' m' ans} : Sm a → Sm b → Sm c → Sm d → sure4 rdy a b c d = none → Told i x m x' m1 .fin → Told 0 (.fixed a c bg) m1 (.fixed t' b' g') m' ans → Told 0 (.four a b c d rdy bg x) m (.fourX x' t' b' g') m' ans
  | foIn {a b c d rdy bg x m i x' m1 q n r' m' ans} : Sm a → Sm b → Sm c → Sm d → sure4 rdy a b c d = none → Told i x m x' m1 (.part q) → Sm q → Told n (.four (a * q + b) a (c * q + d) c true bg x') m1 r' m' ans → Told (n + 1) (.four a b c d rdy bg x) m r' m' ans
  | fxX {x t b g m t' b' g' m' ans} : Told 0 (.fixed t b g) m (.fixed t' b' g') m' ans → Told 0 (.fourX x t b g) m (.fourX x t' b' g') m' ans
  | etTell {a b c d e f g h m0 m1 bg x y m q} : Sm8 a b c d e f g h → sure8 m0 m1 a b c d e f g h = some q → Told 0 (.eight a b c d e f g h m0 m1 bg x y) m (.eight e f g h (a - q * e) (b - q * f) (c - q * g) (d - q * h) m0 m1 true x y) m (.part q)
  | etWait {a b c d e f g h m0 m1 bg x y m w i z m'} : Sm8 a b c d e f g h → sure8 m0 m1 a b c d e f g h = none → w = decide (m1 < m0) → Told i (cond w y x) m z m' .waits → Told 0 (.eight a b c d e f g h m0 m1 bg x y) m (.eight a b c d e f g h m0 m1 bg (cond w x z) (cond w z y)) m' .waits
  | etNo {a b c d e f g h m0 m1 bg x y m w i z m'} : Sm8 a b c d e f g h → sure8 m0 m1 a b c d e f g h = none → w = decide (m1 < m0) → Told i (cond w y x) m z m' .none → Told 0 (.eight a b c d e f g h m0 m1 bg x y) m (.eight a b c d e f g h m0 m1 bg (cond w x z) (cond w z y)) m' .none
  | etFour {a b c d e f g h m0 m1 bg x y m w i z m2 n fr m' ans} : Sm8 a b c d e f g h → sure8 m0 m1 a b c d e f g h = none → w = decide (m1 < m0) → Told i (cond w y x) m z m2 .fin → a * cond w g f ≠ cond w c b * e →
      Told n (.four a (cond w c b) e (cond w g f) (decide (0 < cond w m0 m1)) bg (cond w x y)) m2 fr m' ans → Told 0 (.eight a b c d e f g h m0 m1 bg x y) m (.eightF w z fr) m' ans
  | etFix {a b c d e f g h m0 m1 bg x y m w i z m2 t0 b0 t' b' g' m' ans} : Sm8 a b c d e f g h → sure8 m0 m1 a b c d e f g h = none → w = decide (m1 < m0) → Told i (cond w y x) m z m2 .fin → a * cond w g f = cond w c b * e →
      (t0, b0) = (if a = 0 ∧ e = 0 then (cond w c b, cond w g f) else (a, e)) → Told 0 (.fixed t0 b0 bg) m2 (.fixed t' b' g') m' ans → Told 0 (.eight a b c d e f g h m0 m1 bg x y) m (.eightX (cond w x z) (cond w z y) t' b' g') m' ans
  | etIn0 {a b c d e f g h m0 m1 bg x y m i z m2 q n r' m' ans} : Sm8 a b c d e f g h → sure8 m0 m1 a b c d e f g h = none → ¬ m1 < m0 → Told i x m z m2 (.part q) → Sm q → Told n (.eight (a * q + c) (b * q + d) a b (e * q + g) (f * q + h) e f (m0 + 1) m1 bg z y) m2 r' m' ans → Told (n + 1) (.eight a b c d e f g h m0 m1 bg x y) m r' m' ans
  | etIn1 {a b c d e f g h m0 m1 bg x y m i z m2 q n r' m' ans} : Sm8 a b c d e f g h → sure8 m0 m1 a b c d e f g h = none → m1 < m0 → Told i y m z m2 (.part q) → Sm q → Told n (.eight (a * q + b) a (c * q + d) c (e * q + f) e (g * q + h) g m0 (m1 + 1) bg x z) m2 r' m' ans → Told (n + 1) (.eight a b c d e f g h m0 m1 bg x y) m r' m' ans
  | exX {x y t b g m t' b' g' m' ans} : Told 0 (.fixed t b g) m (.fixed t' b' g') m' ans → Told 0 (.eightX x y t b g) m (.eightX x y t' b' g') m' ans
  | exF {w dead fr m n fr' m' ans} : fr.kd = .four → Told n fr m fr' m' ans → Told 0 (.eightF w dead fr) m (.eightF w dead fr') m' ans
theorem Told.kd {n : Nat} {r r' : R} {m m' : Int} {ans : Ans} (h : Told n r m r' m' ans) : r'.kd = r.kd := by
  induction h <;> first | rfl | (simp only [R.kd]; done) | assumption
theorem Told.lv {n : Nat} {r r' : R} {m m' : Int} {ans : Ans} (h : Told n r m r' m' ans) : r'.lv ≤ r.lv := by
  induction h with
  | @etWait a b c d e f g h m0 m1 bg x y m w i z m' _ _ _ _ ih =>
    cases w <;> simp only [cond, R.lv] at * <;> omega
  | @etNo a b c d e f g h m0 m1 bg x y m w i z m' _ _ _ _ ih =>
    cases w <;> simp only [cond, R.lv] at * <;> omega
  | @etFour a b c d e f g h m0 m1 bg x y m w i z m2 n fr m' ans _ _ _ _ _ _ ih1 ih2 =>
    cases w <;> simp only [cond, R.lv] at * <;> omega
  | @etFix a b c d e f g h m0 m1 bg x y m w i z m2 t0 b0 t' b' g' m' ans _ _ _ _ _ _ _ ih1 ih2 =>
    cases w <;> simp only [cond, R.lv] at * <;> omega
  | _ => simp only [R.lv] at * <;> omega
theorem foldl_min_mem : ∀ (l : List Int) (a : Int), l.foldl min a ∈ a :: l ∧ ∀ y ∈ a :: l, l.foldl min a ≤ y
  | [], a => by simp
  | b :: l, a => by
    rw [List.foldl_cons]
    obtain ⟨h1, h2⟩ := foldl_min_mem l (min a b)
    have h3 := h2 (min a b) (by simp)
    refine ⟨?_, fun y hy => ?_⟩
    · rcases List.mem_cons.mp h1 with h | h
      · rw [h]
        rcases Int.le_total a b with g | g
        · rw [Int.min_eq_left g]; simp
        · rw [Int.min_eq_right g]; simp
      · simp [h]
    · rcases List.mem_cons.mp hy with rfl | hy
      · omega
      · rcases List.mem_cons.mp hy with rfl | hy
        · omega
        · exact h2 y (by simp [hy])
theorem min_spec : ∀ (l : List Int) (a m : Int), m ∈ a :: l → (∀ y ∈ a :: l, m ≤ y) → l.foldl min a = m := fun l a m h hm => by
  obtain ⟨h1, h2⟩ := foldl_min_mem l a
  have := hm _ h1
  have := h2 _ h
  omega
theorem belowRest_spec {l : Int} {c0 : Int × Int} {q : Int} : ∀ {cs : List (Int × Int)}, belowRest l c0 cs = some q ↔ q = l ∧ ∀ c ∈ cs, ¬ (0 < (c.1 - (l + 1) * c.2) * c.2 ∨ ((c.1 - (l + 1) * c.2) * c.2 = 0 ∧ c.1 * c0.2 = c0.1 * c.2))
  | [] => by simp [belowRest, eq_comm]
  | (t, b) :: r => by
    unfold belowRest
    split
    · rename_i h
      constructor
      · intro z; cases z
      · intro z; exact absurd h (z.2 (t, b) (by simp))
    · rename_i h
      rw [belowRest_spec (cs := r)]
      constructor
      · rintro ⟨e, z⟩
        exact ⟨e, fun c hc => by
          rcases List.mem_cons.mp hc with rfl | hc
          · exact h
          · exact z c hc⟩
      · rintro ⟨e, z⟩
        exact ⟨e, fun c hc => z c (List.mem_cons_of_mem _ hc)⟩
theorem belowAll_spec {c0 : Int × Int} {r : List (Int × Int)} {q : Int} : belowAll (c0 :: r) = some q ↔ (∀ c ∈ c0 :: r, 0 < c.2 * c0.2) ∧ (∃ c ∈ c0 :: r, q = c.1.fdiv c.2) ∧ (∀ c ∈ c0 :: r, q ≤ c.1.fdiv c.2) ∧
    ∀ c ∈ c0 :: r, ¬ (0 < (c.1 - (q + 1) * c.2) * c.2 ∨ ((c.1 - (q + 1) * c.2) * c.2 = 0 ∧ c.1 * c0.2 = c0.1 * c.2)) := by
  unfold belowAll
  simp only
  obtain ⟨h1, h2⟩ := foldl_min_mem (r.map fun c => c.1.fdiv c.2) (c0.1.fdiv c0.2)
  split
  · rename_i h
    obtain ⟨c, hc, e⟩ := List.any_eq_true.mp h
    have := of_decide_eq_true e
    constructor
    · intro z; cases z
    · intro z; have := z.1 c hc; omega
  · rename_i h
    rw [belowRest_spec]
    have hp : ∀ c ∈ c0 :: r, 0 < c.2 * c0.2 := fun c hc => by
      rcases Int.lt_or_le 0 (c.2 * c0.2) with z | z
      · exact z
      · exact absurd (List.any_eq_true.mpr ⟨c, hc, by simpa using z⟩) h
    rw [← List.map_cons (f := fun c : Int × Int => c.1.fdiv c.2)] at h1 h2
    constructor
    · rintro ⟨rfl, z⟩
      refine ⟨hp, ?_, fun c hc => h2 _ (List.mem_map.mpr ⟨c, hc, rfl⟩), z⟩
      obtain ⟨c, hc, e⟩ := List.mem_map.mp h1
      exact ⟨c, hc, e.symm⟩
    · rintro ⟨_, ⟨c, hc, e⟩, z2, z3⟩
      have e2 : q = (r.map fun c => c.1.fdiv c.2).foldl min (c0.1.fdiv c0.2) := by
        refine (min_spec _ _ _ ?_ fun y hy => ?_).symm
        · rw [← List.map_cons (f := fun c : Int × Int => c.1.fdiv c.2)]
          exact List.mem_map.mpr ⟨c, hc, e.symm⟩
        · rw [← List.map_cons (f := fun c : Int × Int => c.1.fdiv c.2)] at hy
          obtain ⟨c, hc, rfl⟩ := List.mem_map.mp hy
          exact z2 c hc
      exact ⟨e2, by rw [← e2]; exact z3⟩
theorem fEq_nil {neg : Bool} {xs : List Int} {Ω : Om} {Q : AQ} (k : Q (.bl (if neg then !decide (xs = []) else decide (xs = []))) Ω) : fEq neg (.tup (xs.map D.int)) (.tup []) Ω Q := by
  obtain ⟨p, e1, e2, e3, e4⟩ := D.fits_py 1 (.tup (xs.map D.int)) (by simp only [D.fits]; exact fits_map (fun _ => by simp only [D.fits]) xs)
  have s : SeqAt.shaped p = true := by
    unfold SeqAt.shaped
    rw [e3, Bool.true_and]
    exact decide_eq_true (by omega)
  refine ⟨p, .tuple [], e1, rfl, s, rfl, ?_⟩
  have e : PyData.eqv p (.tuple []) = decide (xs = []) := by
    simp only [D.py, Option.map_eq_some_iff] at e1
    obtain ⟨ps, h, rfl⟩ := e1
    cases xs with
    | nil => simp only [List.map_nil, D.pys, Option.some.injEq] at h; subst h; simp [PyData.eqv, PyData.eqvAll]
    | cons x r =>
      simp only [List.map_cons, D.pys, D.py] at h
      cases q : D.pys (r.map D.int) with
      | none => rw [q] at h; cases h
      | some qs => rw [q] at h; simp only [Option.some.injEq] at h; subst h; simp [PyData.eqv, PyData.eqvAll]
  rw [e]
  exact k
theorem getD_at {xs : List Int} {i : Nat} (h : i < xs.length) {n : Int} (e : n = i) : atI (xs.map D.int) n = some (.int (xs.getD i 0)) := by
  subst e
  rw [atI_eq, List.getElem?_map, List.getElem?_eq_getElem h, List.getD_eq_getElem?_getD, List.getElem?_eq_getElem h]
  rfl
theorem getD_mem {xs : List Int} {i : Nat} (h : i < xs.length) : xs.getD i 0 ∈ xs := by
  rw [List.getD_eq_getElem?_getD, List.getElem?_eq_getElem h]
  exact List.getElem_mem h
inductive Tr where
  | frac (t b : Int)
  | root (t s b : Int)
  | ruled (ps ring steps : List Int)
  | four (a b c d : Int) (x : Tr)
  | eight (a b c d e f g h : Int) (x y : Tr)
  | power (x : Tr) (n : Int)
def Tr.d : Tr → D
  | .frac t b => .tup [.str "fraction", .int t, .int b]
  | .root t s b => .tup [.str "root", .int t, .int s, .int b]
  | .ruled ps ring steps => .tup [.str "ruled", dtup ps, dtup ring, dtup steps]
  | .four a b c d x => .tup [.str "four", dtup [a, b, c, d], x.d]
  | .eight a b c d e f g h x y => .tup [.str "eight", dtup [a, b, c, d, e, f, g, h], x.d, y.d]
  | .power x n => .tup [.str "power", x.d, .int n]
def Few (x : Int) : Prop := x.natAbs ≤ 10 ^ 12
/-- a tree as need_tree wants it, no deeper -/
def Tr.good : Nat → Tr → Prop
  | 0, _ => False
  | _ + 1, .frac t b => Few t ∧ Few b ∧ b ≠ 0
  | _ + 1, .root t s b => Few t ∧ Few s ∧ Few b ∧ 0 ≤ s ∧ b ≠ 0
  | _ + 1, .ruled ps ring steps => 1 ≤ ps.length ∧ ps.length ≤ 12 ∧ ring.length ≤ 12 ∧ ring.length = steps.length ∧ (∀ n ∈ ps ++ ring ++ steps, Few n) ∧ (∀ n ∈ ps.drop 1 ++ ring, 1 ≤ n) ∧ (∀ n ∈ steps, 0 ≤ n) ∧ (ring = [] → 1 < ps.length → ∀ n, ps.getLast? = some n → 2 ≤ n)
  | k + 1, .four a b c d x => Few a ∧ Few b ∧ Few c ∧ Few d ∧ a * d ≠ b * c ∧ Tr.good k x
  | k + 1, .eight a b c d e f g h x y => (∀ n ∈ [a, b, c, d, e, f, g, h], Few n) ∧ (b * e ≠ a * f ∨ c * e ≠ a * g ∨ c * f ≠ b * g ∨ d * e ≠ a * h ∨ d * f ≠ b * h ∨ d * g ≠ c * h) ∧ Tr.good k x ∧ Tr.good k y
  | k + 1, .power x n => 1 ≤ n ∧ n ≤ 4 ∧ Tr.good k x
def pows (x : R) : Nat → R
  | 0 => x
  | n + 1 => .eight 1 0 0 0 0 0 0 1 0 0 false x (pows x n)
def abI (b : Int) : Int := if b < 0 then -b else b
/-- how a tree's reader begins -/
inductive Opened : Tr → R → Prop
  | frac {t b} : Opened (.frac t b) (.frac 0 t b)
  | rootF {t s b f} : 0 ≤ f → f * f = s → Opened (.root t s b) (.frac 0 (t + f) b)
  | rootR {t s b f f'} : 0 ≤ f → f * f < s → s < (f + 1) * (f + 1) → 0 ≤ f' → f' * f' ≤ s * abI b * abI b → s * abI b * abI b < (f' + 1) * (f' + 1) → Opened (.root t s b) (.root 0 (t * abI b) (s * abI b * abI b) (b * abI b) f')
  | ruled {ps ring steps} : Opened (.ruled ps ring steps) (.ruled 0 ps ring steps)
  | four {a b c d x r} : Opened x r → Opened (.four a b c d x) (.four a b c d false false r)
  | eight {a b c d e f g h x y r q} : Opened x r → Opened y q → Opened (.eight a b c d e f g h x y) (.eight a b c d e f g h 0 0 false r q)
  | power {x n r} : Opened x r → Opened (.power x n) (pows r (n - 1).toNat)
/-- where a reader stands in its class -/
def CT.cls (C : CT) : Kd → List Addr
  | .fixed => [C.c_Fixed]
  | .leaf => [C.c_Fraction, C.c_Root, C.c_Ruled]
  | .four => [C.c_Four]
  | .eight => [C.c_Eight]
theorem RdO.obj {C : CT} {Ω : Om} {p : Addr} {r : R} {S : List Addr} (x : RdO C Ω p r S) : ∃ c fs, Ω p = some (.obj c fs) ∧ (∀ m, m = ("told" : Str) ∨ m = ("part" : Str) ∨ m = ("took" : Str) → m ∉ fs.map (·.1)) ∧ c ∈ C.cls r.kd := by
  cases x with
  | fixed e => exact ⟨_, _, e, fun m hm z => by simp only [List.map_cons, List.map_nil, List.mem_cons, List.not_mem_nil, or_false] at z; rcases hm with rfl | rfl | rfl <;> revert z <;> decide, by simp [CT.cls, R.kd]⟩
  | frac e => exact ⟨_, _, e, fun m hm z => by simp only [List.map_cons, List.map_nil, List.mem_cons, List.not_mem_nil, or_false] at z; rcases hm with rfl | rfl | rfl <;> revert z <;> decide, by simp [CT.cls, R.kd]⟩
  | root e => exact ⟨_, _, e, fun m hm z => by simp only [List.map_cons, List.map_nil, List.mem_cons, List.not_mem_nil, or_false] at z; rcases hm with rfl | rfl | rfl <;> revert z <;> decide, by simp [CT.cls, R.kd]⟩
  | ruled e => exact ⟨_, _, e, fun m hm z => by simp only [List.map_cons, List.map_nil, List.mem_cons, List.not_mem_nil, or_false] at z; rcases hm with rfl | rfl | rfl <;> revert z <;> decide, by simp [CT.cls, R.kd]⟩
  | four e => exact ⟨_, _, e, fun m hm z => by simp only [List.map_cons, List.map_nil, List.mem_cons, List.not_mem_nil, or_false] at z; rcases hm with rfl | rfl | rfl <;> revert z <;> decide, by simp [CT.cls, R.kd]⟩
  | fourX e => exact ⟨_, _, e, fun m hm z => by simp only [List.map_cons, List.map_nil, List.mem_cons, List.not_mem_nil, or_false] at z; rcases hm with rfl | rfl | rfl <;> revert z <;> decide, by simp [CT.cls, R.kd]⟩
  | eight e => exact ⟨_, _, e, fun m hm z => by simp only [List.map_cons, List.map_nil, List.mem_cons, List.not_mem_nil, or_false] at z; rcases hm with rfl | rfl | rfl <;> revert z <;> decide, by simp [CT.cls, R.kd]⟩
  | eightX e => exact ⟨_, _, e, fun m hm z => by simp only [List.map_cons, List.map_nil, List.mem_cons, List.not_mem_nil, or_false] at z; rcases hm with rfl | rfl | rfl <;> revert z <;> decide, by simp [CT.cls, R.kd]⟩
  | eightF e => exact ⟨_, _, e, fun m hm z => by simp only [List.map_cons, List.map_nil, List.mem_cons, List.not_mem_nil, or_false] at z; rcases hm with rfl | rfl | rfl <;> revert z <;> decide, by simp [CT.cls, R.kd]⟩
/-- parts taken of leaves -/
def R.tk : R → Nat
  | .fixed .. => 0
  | .frac k _ _ => k
  | .root k _ _ _ _ => k
  | .ruled k _ _ _ => k
  | .four _ _ _ _ _ _ x => x.tk
  | .fourX x _ _ _ => x.tk
  | .eight _ _ _ _ _ _ _ _ _ _ _ x y => x.tk + y.tk
  | .eightX x y _ _ _ => x.tk + y.tk
  | .eightF _ dead fr => dead.tk + fr.tk
theorem R.lv_leaf {r : R} (h : r.kd = .leaf) : r.lv = 3 := by cases r <;> first | rfl | cases h
theorem R.lv_fixed {r : R} (h : r.kd = .fixed) : r.lv = 1 := by cases r <;> first | rfl | cases h
theorem R.lv_four {r : R} (h : r.kd = .four) : 4 ≤ r.lv := by cases r <;> first | (simp only [R.lv]; omega) | cases h
theorem R.lv_eight {r : R} (h : r.kd = .eight) : 4 ≤ r.lv := by cases r <;> first | (simp only [R.lv]; omega) | cases h
theorem Mth.imp {P : Program} {w : World} {K : PySem.W.Frag} {mg : Str → Option Value} {base : Heap} {ca : CA} {k : Nat} {C : Addr} {m : Str} {F F' : AF} (c : Mth P w K mg base ca k C m F) (h : ∀ ds Ω Q E, F' ds Ω Q E → F ds Ω Q E) : Mth P w K mg base ca k C m F' := by
  obtain ⟨f, fd, ps, M, G, b⟩ := c.ex
  exact ⟨f, fd, ps, M, G.imp (spA_imp h), b⟩
theorem cut_from {xs : List D} (k : Nat) : cutD xs (some (k : Int)) none = xs.drop k := by
  unfold cutD
  rw [HT.sIx_nat, HT.sIx_none]
  by_cases h : k ≤ xs.length
  · rw [Nat.min_eq_left h, List.take_of_length_le (by rw [List.length_drop]; omega)]
  · rw [Nat.min_eq_right (by omega), List.drop_length, List.drop_eq_nil_of_le (by omega)]
    simp
theorem cut_1 {xs : List D} : cutD xs (some 1) none = xs.drop 1 := cut_from 1
theorem cut_4 {xs : List D} : cutD xs (some 4) none = xs.drop 4 := cut_from 4
theorem at_of {X : Cx} {ca : CA} {W : WX} {op : CmpOp} {a b : Expr} {ta tb : TE} {ra rb : ATE} {pos : Pos} {r : R2} {f : D → D → Om → AQ → Prop} (ho : OpR X (compareOp op) r) (ha : AE X ca W a ta ra) (hb : AE X ca W b tb rb) (hm : behindInMarks op b = false) (he : AE X ca W (.Compare a [op] [b] pos) (tOp r ta tb) (aOp f ra rb)) :
    AT X ca W (.Compare a [op] [b] pos) (tTest (tOp r ta tb)) (aB (aOp f ra rb)) :=
  ⟨pt_cmpR ho ha.pe hb.pe hm, fun σ H G own ρ Ω Wa Qa Qc r s h k kx => he.sim σ H G own ρ Ω Wa _ _ r s h (fun v H1 G1 own1 d Ω1 e1 r1 dv1 q1 => by
    obtain ⟨c, rfl, q⟩ := q1
    cases dv1
    exact ⟨c, rfl, k _ _ _ _ _ e1 r1 q⟩) kx⟩
theorem at_eqS {X : Cx} {ca : CA} {W : WX} {a b : Expr} {ta tb : TE} {ra rb : ATE} {pos : Pos} (ha : AE X ca W a ta ra) (hb : AE X ca W b tb rb) : AT X ca W (.Compare a [.Eq] [b] pos) (tTest (tOp rEq ta tb)) (aB (aEqS ra rb)) := at_of op_eq ha hb (nomark _) (ae_eqS ha hb)
theorem at_neS {X : Cx} {ca : CA} {W : WX} {a b : Expr} {ta tb : TE} {ra rb : ATE} {pos : Pos} (ha : AE X ca W a ta ra) (hb : AE X ca W b tb rb) : AT X ca W (.Compare a [.NotEq] [b] pos) (tTest (tOp rNe ta tb)) (aB (aNeS ra rb)) := at_of op_ne ha hb (nomark _) (ae_neS ha hb)
theorem rngD_succ {n : Int} {k : Nat} : rngD n (k + 1) = .int n :: rngD (n + 1) k := by
  unfold rngD
  rw [List.range_succ_eq_map, List.map_cons, List.map_map]
  congr 1
  · simp
  · refine List.map_congr_left fun i _ => ?_
    simp only [Function.comp]
    congr 1
    omega
end PL
namespace PL
open PySem PySem.Spec PyProof.Rows L2
theorem div_of {P : Program} {w : World} {K : PySem.W.Frag} {mg : Str → Option Value} {base : Heap} {N : List Str} {qual : Str} {scope : Scope} {f : Addr} {cdv : Value} {A : Around} {outer : List Env} {s : Shared} {H : Hp} {E : XK} {k : Nat} [sr : Seer P base]
    (hr : Rm k (A.deeper (PyProof.Rows.envOfC qual scope s.heap.objs.size f cdv))) (hg : scope.isGenerator = false := by rfl) (hc : scope.isCoroutine = false := by rfl) : Div (cxOf (L2.CX P w) P w K mg base N qual scope f cdv A outer s H E) :=
  ⟨sr.no, sr.tree, ⟨_, _, rfl, hg, hc, rfl, rfl⟩, by have := hr.dp; show (A.deeper (PyProof.Rows.envOfC qual scope s.heap.objs.size f cdv)).depth + 100 < recursionLimit; omega⟩
instance seer_cx {CX : CXT} {P : Program} {w : World} {K : PySem.W.Frag} {mg : Str → Option Value} {base : Heap} {N : List Str} {qual : Str} {scope : Scope} {f : Addr} {cdv : Value} {A : Around} {outer : List Env} {s : Shared} {H : Hp} {E : XK} [sr : Seer P base] : Seer (cxOf CX P w K mg base N qual scope f cdv A outer s H E).prog (cxOf CX P w K mg base N qual scope f cdv A outer s H E).base := sr
instance seer_blk {X : Cx} {scope : Scope} {s : Shared} {H : Hp} {C : Addr} {cl : List (Str × Addr)} {fp : List Addr} [sr : Seer X.prog X.base] : Seer (Blk X scope s H C cl fp).prog (Blk X scope s H C cl fp).base := sr
theorem div_blk {X : Cx} {scope : Scope} {s : Shared} {H : Hp} {C : Addr} {cl : List (Str × Addr)} {fp : List Addr} (d : Div X) : Div (Blk X scope s H C cl fp) := ⟨d.no, d.tree, d.top, d.dp⟩
section
variable {P : Program} {w : World} {K : PySem.W.Frag} {mg mb : Str → Option Value} {CX : CXT} {k : Nat} {fa a : Addr} {fd : FuncData} {x : Str} {sp : Sp} {s : Shared} {vs : List Value} {ns : List Int}
/-- what is hidden holds no namespace, no module and no record of the text's own -/
theorem hid_ns {H : Hp} (hl : ∀ b u, H b = some u → ∃ o, s.heap.get? b = some o ∧ ∃ us n, o.data = .seq us n) {b : Addr} {m : Str → Option Value} (h : s.heap.Ns b m) : (hidT s.heap H).Ns b m := by
  obtain ⟨o, es, ep, e, d, r⟩ := h
  refine ⟨o, es, ep, hidT_get e ?_, d, r⟩
  cases q : H b with
  | none => rfl
  | some u =>
    obtain ⟨o', e', us, n, d'⟩ := hl b u q
    rw [e] at e'
    cases e'
    rw [d] at d'
    cases d'
theorem hid_seer {H : Hp} (hl : ∀ b u, H b = some u → ∃ o, s.heap.get? b = some o ∧ o.cls = .type "list" ∧ ∃ us n, o.data = .seq us n) (h : s.heap.NoSeer) : (hidT s.heap H).NoSeer := by
  have hl' : ∀ b u, H b = some u → ∃ o, s.heap.get? b = some o ∧ ∃ us n, o.data = .seq us n := fun b u q => by
    obtain ⟨o, e, _, r⟩ := hl b u q
    exact ⟨o, e, r⟩
  obtain ⟨⟨mc, c1, c2⟩, ⟨mm, m1, m2⟩, ⟨mb, b1, b2⟩, ⟨mg, bm, ob, g1, g2, g3, g4, g5⟩⟩ := h
  refine ⟨⟨mc, hid_ns hl' c1, c2⟩, ⟨mm, hid_ns hl' m1, m2⟩, ⟨mb, hid_ns hl' b1, b2⟩, ⟨mg, bm, ob, hid_ns hl' g1, g2, hidT_get g3 ?_, g4, g5⟩⟩
  cases q : H bm with
  | none => rfl
  | some u =>
    obtain ⟨o', e', c', _⟩ := hl bm u q
    rw [g3] at e'
    cases e'
    rw [g4] at c'
    exact absurd c' (by simp)
/-- the heap in which the script alone may be followed -/
def scriptH (K : PySem.W.Frag) (a : Addr) (u : HO) : Hp := fun b => if b = a ∧ K.lookup a = none then some u else none
theorem scriptH_at {K : PySem.W.Frag} {a b : Addr} {u v : HO} (h : scriptH K a u b = some v) : b = a ∧ K.lookup a = none ∧ v = u := by
  unfold scriptH at h
  split at h
  · rename_i z
    cases h
    exact ⟨z.1, z.2, rfl⟩
  · cases h
theorem seer_call (KX : K.In s.heap) (hns : s.heap.Ns mainGlobals mg) (hb : s.heap.Ns builtinsNs mb) (hbb : ∀ y : Str, y ≠ "__name__" → mb y = bootBuiltins y) (hlim : s.heap.NoLimit) (hse : s.heap.NoSeer) (hg : s.gens = #[])
    (ha : s.heap.get? a = some { cls := .type "list", data := .seq vs.toArray }) (hi : IntsAre vs ns) (hl : ns.length ≤ sizeLine) (hr : Room k callerA)
    (F : ∀ base : Heap, K.In base → base.Ns mainGlobals mg → base.NoSeer → FnOk P w K mg base CX k fa fd [x] sp) (hbind : ∀ (s : Shared) (u : Value), BindsTo s fd ⟨[u], []⟩ [(x, u)])
    (hsp : ∀ H : Hp, Only H → SqL K H a (ns.map V.int) → sp [.ref a] H (fun v _ => v = .bl true) fun _ _ _ => False) (hCX : ∀ H e s', CX [] H s (fun _ _ _ => False) e s' → False) :
    codeAny (model P w) callerA (.call (.ref fa) ⟨[.ref a], []⟩) (fun r s' => r = .ok (.ret (.bool true)) ∧ PySem.OldK s.heap s'.heap ∧ s'.os = s.os ∧ AllBare s'.gens) s := by
  let so : Obj := { cls := .type "list", data := .seq vs.toArray }
  let U : HO := .frz so (.lst (ns.map V.int))
  let H := scriptH K a U
  have rv := vals_ints hi
  have at_ : ∀ {b u}, H b = some u → b = a ∧ K.lookup a = none ∧ u = U := fun q => scriptH_at q
  have hlist : ∀ b u, H b = some u → ∃ o, s.heap.get? b = some o ∧ o.cls = .type "list" ∧ ∃ us n, o.data = .seq us n := fun b u q => by
    obtain ⟨rfl, _, _⟩ := at_ q
    exact ⟨_, ha, rfl, _, _, rfl⟩
  have hlist' : ∀ b u, H b = some u → ∃ o, s.heap.get? b = some o ∧ ∃ us n, o.data = .seq us n := fun b u q => by
    obtain ⟨rfl, _, _⟩ := at_ q
    exact ⟨_, ha, _, _, rfl⟩
  have only : Only H := fun b => by
    cases q : H b with
    | none => exact .inl rfl
    | some u =>
      obtain ⟨_, _, rfl⟩ := at_ q
      exact .inr ⟨so, _, rfl⟩
  have seq : SqL K H a (ns.map V.int) := by
    cases q : K.lookup a with
    | none => exact .inl (.inr ⟨so, if_pos ⟨rfl, q⟩⟩)
    | some o =>
      have e := KX a o q
      rw [ha] at e
      cases e
      exact .inr ⟨_, vs.toArray, _, q, rfl, rfl, rfl, by rw [List.size_toArray, hi.length]; exact hl, by simpa using rv⟩
  have ok : HOk P w H s.heap := fun b u q => by
    obtain ⟨rfl, _, rfl⟩ := at_ q
    exact ⟨ha, by rw [List.length_map]; exact hl, vs, _, rv, ha⟩
  have kin : K.In (hidT s.heap H) := fun b o e => hidT_get (KX b o e) (by
    cases q : H b with
    | none => rfl
    | some u =>
      obtain ⟨rfl, z, _⟩ := at_ q
      rw [z] at e
      cases e)
  have lim : (hidT s.heap H).NoLimit := by
    obtain ⟨mc, h1, h2⟩ := hlim
    exact ⟨mc, hid_ns hlist' h1, h2⟩
  have e0 : Env0 P w K mg (hidT s.heap H) callerA [] s H := { frames := rfl, mod := ⟨kin, hid_ns hlist' hns, ⟨mb, hid_ns hlist' hb, hbb⟩, lim⟩, bs := fun b o e => of_hidT e, bsz := Nat.le_of_eq (hidT_size _ _), funs := trivial, frf := fun b z => absurd z (by simp [frs]), hok := ok, bare := .of_eq hg }
  have run := (F (hidT s.heap H) kin (hid_ns hlist' hns) (hid_seer hlist hse)).run callerA [] s H ⟨[.ref a], []⟩ [.ref a] [.ref a] (fun v _ => v = .bl true) (fun _ _ _ => False) hr e0 (hbind s _) (.cons rfl .nil) (hsp H only seq)
  refine codeAny_mono run fun r s' q => ?_
  match r, q with
  | .error e, q => exact (hCX H e s' q).elim
  | .ok .next, q => exact q.elim
  | .ok .brk, q => exact q.elim
  | .ok .cont, q => exact q.elim
  | .ok (.ret u), q =>
    obtain ⟨v, H', os, bare, un, ok', rr, rfl⟩ := q
    obtain rfl : u = Value.bool true := rr
    refine ⟨rfl, PySem.OldK.of_keep fun b o e => ?_, os, bare⟩
    cases q : H b with
    | none => exact un.keep b o e q (by simp [frs]) (by simp)
    | some u =>
      obtain ⟨rfl, _, rfl⟩ := at_ q
      obtain ⟨z1, _⟩ := ok _ _ q
      obtain ⟨z2, _⟩ := ok' _ _ (un.frzs _ so _ q)
      rw [e] at z1
      cases z1
      exact z2
end
theorem pl_walkS {l : PySem.W.OpenLaw} {k : Nat} {q : Program} {loose : List Str} {XP : (Str → Option Value) → Heap → Prop} {YP : World → Heap → Prop} {d : DefRec} {K : Params → PySem.W.Frag} (ca : PySem.W.Frag → CA)
    (hn : l.most = some 63) (hdf : d.params.defaults = []) (hr : Room k callerA) (hq : importsNone q = true) (ht : l.prog.given.tree = none) (hY : ∀ (w : World) (h : Heap), YP w h → (K w.params).In h)
    (F : ∀ (w : World) (mg : Str → Option Value) (fa : Addr) (h : Heap), (K w.params).In h → h.Ns mainGlobals mg → mg d.name = some (.ref fa) →
      ∃ fd : FuncData, (∀ (s : Shared) (u : Value), BindsTo s fd ⟨[u], []⟩ [("_law_script", u)]) ∧
        ∀ base : Heap, (K w.params).In base → base.Ns mainGlobals mg → Seer l.prog base → FnOk l.prog w (K w.params) mg base (L2.CX l.prog w) k fa fd ["_law_script"] (spA (K w.params) (ca (K w.params)) F_law)) :
    PySem.W.WalkO q loose XP YP l.row.toRowW d [] (fun f vs => PySem.call f vs) := by
  refine Att.attach_call hn hdf fun w s₀ s1 mg mb fa o pm cd doc a vs ns G Y ho hd hcd hmg hobj hints hlen hg => ?_
  have KX := hY w _ Y
  obtain ⟨fd, hb, hF⟩ := F w mg fa _ KX G.T.g hmg
  refine seer_call KX G.T.g G.T.b G.T.builtins G.T.nolimit (G.T.seer hq) hg hobj hints (Nat.le_trans hlen (show 63 ≤ sizeLine by rw [sizeLine_eq]; decide)) hr (fun base h1 h2 h3 => hF base h1 h2 ⟨h3, ht⟩) hb (fun H hO hS => ?_) fun H e s' z => ?_
  · refine ⟨H, fun _ => none, fun _ => none, [.lst (ns.map D.int)], fun d _ => d = .bl true, fun _ _ => False, only_rel, .cons (.lst hS (DVs.of_ints ns)) .nil, ⟨ns, rfl, hlen, fun _ => rfl⟩, ?_, fun _ _ _ _ _ _ _ z => z⟩
    rintro v H' G' own' d Ω' e r dv rfl
    cases dv
    rfl
  · obtain ⟨_, _, _, _, _, _, _, _, _, _, _, _, z⟩ := z
    exact z
end PL
namespace PL
theorem sq0 (x : Int) : 0 ≤ x * x := by
  rcases Int.le_total 0 x with h | h
  · exact Int.mul_nonneg h h
  · exact Int.mul_nonneg_of_nonpos_of_nonpos h h
/-- a seminorm of (top, below) -/
def Ls (k1 k0 : Nat) (t b : Int) : Nat := k1 * t.natAbs + k0 * b.natAbs
theorem Ls_add {k1 k0 : Nat} {t b t' b' : Int} : Ls k1 k0 (t + t') (b + b') ≤ Ls k1 k0 t b + Ls k1 k0 t' b' := by
  unfold Ls
  have h1 := Nat.mul_le_mul_left k1 (Int.natAbs_add_le t t')
  have h2 := Nat.mul_le_mul_left k0 (Int.natAbs_add_le b b')
  rw [Nat.mul_add] at h1 h2
  omega
theorem Ls_mul {k1 k0 : Nat} {t b q : Int} : Ls k1 k0 (t * q) (b * q) = q.natAbs * Ls k1 k0 t b := by
  unfold Ls
  rw [Int.natAbs_mul, Int.natAbs_mul]
  generalize t.natAbs = x
  generalize b.natAbs = y
  generalize q.natAbs = z
  grind
/-- what was told, in short: ahead of the first part (1, 4) -/
def gs (bg : Bool) (k1 k0 : Nat) (q : Int) : Nat × Nat := if bg = true then (k1 * q.toNat + k0, k1) else if 1 ≤ q then (q.toNat + 4, 1) else (q.natAbs + 2, 1)
theorem abs_split {t b r q : Int} (hq : 1 ≤ q) (h : t = q * b + r) (hr : 0 ≤ r * b) (hb : b ≠ 0) : t.natAbs = q.toNat * b.natAbs + r.natAbs := by
  rcases Int.lt_or_gt_of_ne hb with z | z
  · have hr0 : r ≤ 0 := by
      rcases Int.lt_or_le 0 r with g | g
      · have := Int.mul_neg_of_pos_of_neg g z
        omega
      · exact g
    have h1 : q * b ≤ 0 := Int.mul_nonpos_of_nonneg_of_nonpos (by omega) (by omega)
    have h2 : (q * b).natAbs = q.toNat * b.natAbs := by rw [Int.natAbs_mul]; congr 1; omega
    omega
  · have hr0 : 0 ≤ r := by
      rcases Int.lt_or_le r 0 with g | g
      · have := Int.mul_neg_of_neg_of_pos g z
        omega
      · exact g
    have h1 : 0 ≤ q * b := Int.mul_nonneg (by omega) (by omega)
    have h2 : (q * b).natAbs = q.toNat * b.natAbs := by rw [Int.natAbs_mul]; congr 1; omega
    omega
/-- a corner behind a part -/
structure Rem (t b q : Int) : Prop where
  b0 : b ≠ 0
  lo : 0 ≤ (t - q * b) * b
  hi : (t - q * b) * b ≤ b * b
theorem Rem.le {t b q : Int} (h : Rem t b q) : (t - q * b).natAbs ≤ b.natAbs := by
  obtain ⟨b0, lo, hi⟩ := h
  generalize t - q * b = r at lo hi ⊢
  rcases Int.lt_or_gt_of_ne b0 with z | z
  · have h1 : r ≤ 0 := by
      rcases Int.lt_or_le 0 r with g | g
      · have := Int.mul_neg_of_pos_of_neg g z
        omega
      · exact g
    have h2 : b ≤ r := by
      rcases Int.lt_or_le r b with g | g
      · have := Int.mul_lt_mul_of_neg_right g z
        omega
      · exact g
    omega
  · have h1 : 0 ≤ r := by
      rcases Int.lt_or_le r 0 with g | g
      · have := Int.mul_neg_of_neg_of_pos g z
        omega
      · exact g
    have h2 : r ≤ b := by
      rcases Int.lt_or_le b r with g | g
      · have := Int.mul_lt_mul_of_pos_right g z
        omega
      · exact g
    omega
theorem rem_of {c c0 : Int × Int} {q : Int} (h1 : 0 < c.2 * c0.2) (h2 : q ≤ c.1.fdiv c.2) (h3 : ¬ (0 < (c.1 - (q + 1) * c.2) * c.2 ∨ ((c.1 - (q + 1) * c.2) * c.2 = 0 ∧ c.1 * c0.2 = c0.1 * c.2))) : Rem c.1 c.2 q := by
  have b0 : c.2 ≠ 0 := fun e => by rw [e, Int.zero_mul] at h1; omega
  have e1 := Int.mul_fdiv_add_fmod c.1 c.2
  have e2 : 0 ≤ c.1.fmod c.2 * c.2 := by
    rcases Int.lt_or_gt_of_ne b0 with z | z
    · exact Int.mul_nonneg_of_nonpos_of_nonpos (fmod_neg' z).2 (by omega)
    · exact Int.mul_nonneg (Int.fmod_nonneg_of_pos _ z) (by omega)
  refine ⟨b0, ?_, ?_⟩
  · generalize c.1.fmod c.2 = r at e1 e2
    generalize c.1.fdiv c.2 = d at e1 h2
    have e3 : (c.1 - q * c.2) * c.2 = (d - q) * (c.2 * c.2) + r * c.2 := by rw [← e1]; grind
    have e4 : 0 ≤ (d - q) * (c.2 * c.2) := Int.mul_nonneg (by omega) (sq0 _)
    omega
  · have e5 : (c.1 - (q + 1) * c.2) * c.2 = (c.1 - q * c.2) * c.2 - c.2 * c.2 := by grind
    rw [e5] at h3
    omega
theorem gs_first {t b q : Int} (h : Rem t b q) : Ls (gs false 1 4 q).1 (gs false 1 4 q).2 b (t - q * b) ≤ Ls 1 4 t b := by
  have hle := h.le
  obtain ⟨b0, lo, hi⟩ := h
  unfold gs Ls
  simp only [Bool.false_eq_true, if_false]
  by_cases hq : 1 ≤ q
  · rw [if_pos hq]
    have := abs_split hq (t := t) (b := b) (r := t - q * b) (by omega) lo b0
    simp only [Nat.add_mul]
    omega
  · rw [if_neg hq]
    simp only [Nat.add_mul]
    have h1 : (q * b).natAbs = q.natAbs * b.natAbs := Int.natAbs_mul ..
    have h2 : t.natAbs + (t - q * b).natAbs ≥ (q * b).natAbs := by omega
    rw [h1] at h2
    omega
theorem gs_next {k1 k0 : Nat} {t b q : Int} (hq : 1 ≤ q) (h : Rem t b q) : Ls (gs true k1 k0 q).1 (gs true k1 k0 q).2 b (t - q * b) = Ls k1 k0 t b := by
  have := abs_split hq (t := t) (b := b) (r := t - q * b) (by omega) h.lo h.b0
  unfold gs Ls
  simp only [if_true]
  rw [this]
  generalize q.toNat = x
  generalize b.natAbs = y
  generalize (t - q * b).natAbs = z
  grind
/-- begun: tops and belows on one side -/
structure Bgn (s t b : Int) : Prop where
  lo : 0 ≤ s * b
  hi : s * b ≤ s * t
  ps : 0 < s * t
def Sg (s : Int) : Prop := s = 1 ∨ s = -1
theorem Bgn.add {s t b t' b' : Int} (h : Bgn s t b) (h' : Bgn s t' b') : Bgn s (t + t') (b + b') := by
  obtain ⟨h1, h2, h3⟩ := h
  obtain ⟨g1, g2, g3⟩ := h'
  refine ⟨?_, ?_, ?_⟩ <;> rw [Int.mul_add] <;> try rw [Int.mul_add]
  all_goals omega
theorem Bgn.muladd {s t b t' b' q : Int} (hq : 0 ≤ q) (h : Bgn s t b) (h' : Bgn s t' b') : Bgn s (t * q + t') (b * q + b') := by
  obtain ⟨h1, h2, h3⟩ := h
  obtain ⟨g1, g2, g3⟩ := h'
  have e1 : s * (t * q + t') = s * t * q + s * t' := by grind
  have e2 : s * (b * q + b') = s * b * q + s * b' := by grind
  have e3 := Int.mul_nonneg h1 hq
  have e4 := Int.mul_le_mul_of_nonneg_right h2 hq
  refine ⟨?_, ?_, ?_⟩
  · rw [e2]; omega
  · rw [e1, e2]; omega
  · rw [e1]; omega
/-- the side behind a part -/
theorem Rem.bgn {t b q : Int} (h : Rem t b q) {s : Int} (hs : Sg s) (hb : 0 < s * b) : Bgn s b (t - q * b) := by
  obtain ⟨b0, lo, hi⟩ := h
  generalize t - q * b = r at lo hi ⊢
  rcases hs with rfl | rfl
  · simp only [Int.one_mul] at *
    refine ⟨?_, ?_, ?_⟩ <;> simp only [Int.one_mul]
    · rcases Int.lt_or_le r 0 with g | g
      · have := Int.mul_neg_of_neg_of_pos g hb
        omega
      · exact g
    · rcases Int.lt_or_le b r with g | g
      · have := Int.mul_lt_mul_of_pos_right g hb
        omega
      · exact g
    · exact hb
  · have hb' : b < 0 := by omega
    refine ⟨?_, ?_, ?_⟩
    · rcases Int.lt_or_le 0 r with g | g
      · have := Int.mul_neg_of_pos_of_neg g hb'
        omega
      · omega
    · rcases Int.lt_or_le r b with g | g
      · have := Int.mul_lt_mul_of_neg_right g hb'
        omega
      · omega
    · omega
theorem Bgn.floor {s t b : Int} (hs : Sg s) (h : Bgn s t b) (b0 : b ≠ 0) : 1 ≤ t.fdiv b := by
  obtain ⟨h1, h2, h3⟩ := h
  have e1 := Int.mul_fdiv_add_fmod t b
  have e2 := fmod_lt (t := t) b0
  generalize t.fdiv b = d at e1 ⊢
  rcases Int.lt_or_le 0 d with z | z
  · exact z
  · exfalso
    rcases hs with rfl | rfl
    · have hb : 0 < b := by omega
      have e3 : t.fmod b < b := Int.fmod_lt_of_pos _ hb
      have e4 := Int.mul_nonpos_of_nonneg_of_nonpos (a := b) (b := d) (by omega) (by omega)
      omega
    · have hb : b < 0 := by omega
      have e3 := (fmod_neg' (t := t) hb).1
      have e4 := Int.mul_nonneg_of_nonpos_of_nonpos (a := b) (b := d) (by omega) (by omega)
      omega
/-- a root behind its first part: the next part is 1 or more -/
def RtB (t b f : Int) : Prop := (0 < b ∧ b ≤ t + f) ∨ (b < 0 ∧ t + f + 1 ≤ b)
structure RtI (t s b f : Int) : Prop where
  f0 : 0 ≤ f
  lo : f * f < s
  hi : s < (f + 1) * (f + 1)
  b0 : b ≠ 0
  dv : ∃ e, b * e = s - t * t
theorem rt_part (t b f : Int) (b0 : b ≠ 0) : ∃ ρ : Int, t + f + (if b < 0 then 1 else 0) = (t + f + (if b < 0 then 1 else 0)).fdiv b * b + ρ ∧ (0 < b → 0 ≤ ρ ∧ ρ < b) ∧ (b < 0 → ρ ≤ 0 ∧ b < ρ) := by
  refine ⟨(t + f + (if b < 0 then 1 else 0)).fmod b, ?_, fun h => ⟨Int.fmod_nonneg_of_pos _ h, Int.fmod_lt_of_pos _ h⟩, fun h => ⟨(fmod_neg' h).2, (fmod_neg' h).1⟩⟩
  have := Int.mul_fdiv_add_fmod (t + f + (if b < 0 then 1 else 0)) b
  rw [Int.mul_comm] at this
  exact this.symm
theorem rt_next {t s b f q t' b' : Int} (h : RtI t s b f) (hq : q = (t + f + (if b < 0 then 1 else 0)).fdiv b) (ht : t' = q * b - t) (hb : b' = (s - t' * t').fdiv b) :
    RtI t' s b' f ∧ RtB t' b' f ∧ b * b' = s - t' * t' ∧ t'.natAbs ≤ f.toNat + 1 + b.natAbs ∧ b'.natAbs ≤ 2 * f.toNat + 2 + b.natAbs := by
  obtain ⟨f0, lo, hi, b0, e, he⟩ := h
  obtain ⟨ρ, h1, h2, h3⟩ := rt_part t b f b0
  rw [← hq] at h1
  -- b divides
  have hd : b * b' = s - t' * t' := by
    have hx : s - t' * t' = b * (e - q * (q * b - 2 * t)) := by rw [ht]; grind
    rw [hb, hx, Int.mul_fdiv_cancel_left _ b0]
  have tl : t'.natAbs ≤ f.toNat + 1 + b.natAbs := by
    rcases Int.lt_or_gt_of_ne b0 with z | z
    · rw [if_pos z] at h1
      have := h3 z
      omega
    · rw [if_neg (by omega)] at h1
      have := h2 z
      omega
  have key : RtB t' b' f ∧ b'.natAbs ≤ 2 * f.toNat + 2 + b.natAbs := by
    rcases Int.lt_or_gt_of_ne b0 with z | z
    · -- below nought
      rw [if_pos z] at h1
      obtain ⟨r1, r2⟩ := h3 z
      have e1 : t' = f + 1 - ρ := by omega
      have x1 : (-b) * b' = t' * t' - s := by rw [Int.neg_mul]; omega
      have x2 : t' * t' - s < (1 - ρ) * (t' + f) := by
        have : (1 - ρ) * (t' + f) = t' * t' - f * f := by rw [e1]; grind
        omega
      have x3 : (1 - ρ) * (t' + f) ≤ (-b) * (t' + f) := Int.mul_le_mul_of_nonneg_right (by omega) (by omega)
      have x4 : (-b) * b' < (-b) * (t' + f) := by omega
      have x5 : b' < t' + f := Int.lt_of_mul_lt_mul_left x4 (by omega)
      have x6 : 0 < (-b) * b' := by
        have : (f + 1) * (f + 1) ≤ t' * t' := Int.mul_le_mul (by omega) (by omega) (by omega) (by omega)
        omega
      have x7 : 0 < b' := Int.pos_of_mul_pos_right x6 (by omega)
      exact ⟨.inl ⟨x7, by omega⟩, by omega⟩
    · rw [if_neg (by omega)] at h1
      obtain ⟨r1, r2⟩ := h2 z
      have e1 : t' = f - ρ := by omega
      rcases Int.lt_or_le (t' + f) 0 with g | g
      · have x2 : t' * t' - s < ((-t') - f) * ρ := by
          have : ((-t') - f) * ρ = t' * t' - f * f := by
            have : ρ = f - t' := by omega
            rw [this]; grind
          omega
        have x3 : ((-t') - f) * ρ ≤ ((-t') - f) * b := Int.mul_le_mul_of_nonneg_left (by omega) (by omega)
        have x4 : b * (-b') < b * ((-t') - f) := by
          have : b * (-b') = t' * t' - s := by rw [Int.mul_neg]; omega
          have : b * ((-t') - f) = ((-t') - f) * b := Int.mul_comm ..
          omega
        have x5 : (-b') < (-t') - f := Int.lt_of_mul_lt_mul_left x4 (by omega)
        have x6 : 0 < b * (-b') := by
          have h5 : (f + 1) * (f + 1) ≤ (-t') * (-t') := Int.mul_le_mul (by omega) (by omega) (by omega) (by omega)
          have : b * (-b') = t' * t' - s := by rw [Int.mul_neg]; omega
          have : (-t') * (-t') = t' * t' := by grind
          omega
        have x7 : 0 < -b' := Int.pos_of_mul_pos_right x6 (by omega)
        exact ⟨.inr ⟨by omega, by omega⟩, by omega⟩
      · have x1 : t' ≤ f := by omega
        have x2 : s - t' * t' < (ρ + 1) * (f + 1 + t') := by
          have : (ρ + 1) * (f + 1 + t') = (f + 1) * (f + 1) - t' * t' := by
            have : ρ = f - t' := by omega
            rw [this]; grind
          omega
        have x3 : (ρ + 1) * (f + 1 + t') ≤ b * (f + 1 + t') := Int.mul_le_mul_of_nonneg_right (by omega) (by omega)
        have x4 : b * b' < b * (f + 1 + t') := by omega
        have x5 : b' < f + 1 + t' := Int.lt_of_mul_lt_mul_left x4 (by omega)
        have x6 : 0 < b * b' := by
          have : t' * t' ≤ f * f := by
            rcases Int.le_total 0 t' with y | y
            · exact Int.mul_le_mul x1 x1 y f0
            · have : (-t') * (-t') ≤ f * f := Int.mul_le_mul (by omega) (by omega) (by omega) f0
              have : (-t') * (-t') = t' * t' := by grind
              omega
          omega
        have x7 : 0 < b' := Int.pos_of_mul_pos_right x6 (by omega)
        exact ⟨.inl ⟨x7, by omega⟩, by omega⟩
  have nb : b' ≠ 0 := by
    rcases key.1 with ⟨z, _⟩ | ⟨z, _⟩ <;> omega
  exact ⟨⟨f0, lo, hi, nb, b, by rw [Int.mul_comm]; exact hd⟩, key.1, hd, tl, key.2⟩
theorem rt_one {t b f : Int} (h : RtB t b f) : 1 ≤ (t + f + (if b < 0 then 1 else 0)).fdiv b := by
  rcases h with ⟨h1, h2⟩ | ⟨h1, h2⟩
  · rw [if_neg (by omega)]
    exact Bgn.floor (s := 1) (.inl rfl) ⟨by omega, by omega, by omega⟩ (by omega)
  · rw [if_pos h1]
    exact Bgn.floor (s := -1) (.inr rfl) ⟨by omega, by omega, by omega⟩ (by omega)
/-- a leaf, its parts short of P bits, for KM parts -/
def LfI (P KM : Nat) : R → Prop
  | .frac k t b => t.natAbs + 2 ≤ 2 ^ P ∧ b.natAbs + 2 ≤ 2 ^ P ∧ (k = 0 → b ≠ 0) ∧ (0 < k → ∃ s, Sg s ∧ Bgn s t b)
  | .root k t s b f => RtI t s b f ∧ (0 < k → RtB t b f) ∧ Sm s ∧ ∃ W, b.natAbs + (KM - k) * (2 * f.toNat + 2) ≤ W ∧ t.natAbs ≤ W ∧ 2 * W + 2 * f.toNat + 4 ≤ 2 ^ P
  | .ruled _ ps ring steps => 1 ≤ ps.length ∧ ps.length < 2 ^ 60 ∧ ring.length < 2 ^ 60 ∧ steps.length = ring.length ∧ (∀ n ∈ ps.drop 1 ++ ring, 1 ≤ n) ∧ (∀ n ∈ steps, 0 ≤ n) ∧ (∀ n ∈ ps ++ ring, n.natAbs + 2 ≤ 2 ^ P) ∧ ∀ n ∈ ring, ∀ m ∈ steps, n.natAbs + KM * m.natAbs + 2 ≤ 2 ^ P
  | _ => False
theorem LfI.kd {P KM : Nat} {r : R} (h : LfI P KM r) : r.kd = .leaf := by cases r <;> first | rfl | exact h.elim
theorem sm_p {x : Int} {P : Nat} (h : x.natAbs + 2 ≤ 2 ^ P) (hP : P ≤ 289900) : Sm x := by
  have : 2 ^ P ≤ 2 ^ 290000 := Nat.pow_le_pow_right (by decide) (by omega)
  unfold Sm
  omega
theorem leaf_step {P KM : Nat} (hP : P ≤ 289900) {r : R} (h : LfI P KM r) (hk : r.tk < KM) (hK : KM < 2 ^ 50) : (0 < r.tk ∧ ∀ m, Told 0 r m r m .fin) ∨
    (Told 0 r 0 r 0 .waits ∧ ∃ q r', (∀ m : Int, m ≠ 0 → Told 0 r m r' (m - 1) (.part q)) ∧ LfI P KM r' ∧ r'.tk = r.tk + 1 ∧ q.natAbs + 1 ≤ 2 ^ P ∧ (0 < r.tk → 1 ≤ q)) := by
  cases r with
  | frac k t b =>
    obtain ⟨h1, h2, h3, h4⟩ := h
    by_cases b0 : b = 0
    · subst b0
      refine .inl ⟨?_, fun m => .frEnd⟩
      rcases Nat.eq_zero_or_pos k with z | z
      · exact absurd rfl (h3 z)
      · exact z
    · refine .inr ⟨.frWait b0, t.fdiv b, .frac (k + 1) b (t - t.fdiv b * b), fun m hm => .frPart b0 hm (sm_p h1 hP) (sm_p h2 hP), ⟨h2, ?_, fun z => by omega, fun _ => ?_⟩, rfl, ?_, fun z => ?_⟩
      · rw [sub_fdiv]
        have := fmod_lt (t := t) b0
        omega
      · have rm : Rem t b (t.fdiv b) := by
          refine ⟨b0, ?_, ?_⟩ <;> rw [sub_fdiv]
          · rcases Int.lt_or_gt_of_ne b0 with z | z
            · exact Int.mul_nonneg_of_nonpos_of_nonpos (fmod_neg' z).2 (by omega)
            · exact Int.mul_nonneg (Int.fmod_nonneg_of_pos _ z) (by omega)
          · rcases Int.lt_or_gt_of_ne b0 with z | z
            · exact Int.mul_le_mul_of_nonpos_right (by have := (fmod_neg' (t := t) z).1; omega) (by omega)
            · exact Int.mul_le_mul_of_nonneg_right (by have := Int.fmod_lt_of_pos t z; omega) (by omega)
        rcases Int.lt_or_gt_of_ne b0 with z | z
        · exact ⟨-1, .inr rfl, rm.bgn (.inr rfl) (by omega)⟩
        · exact ⟨1, .inl rfl, rm.bgn (.inl rfl) (by omega)⟩
      · have := fdiv_le (t := t) (b := b)
        omega
      · obtain ⟨s, hs, hb⟩ := h4 z
        exact hb.floor hs b0
  | root k t s b f =>
    obtain ⟨h1, h2, h3, W, w1, w2, w3⟩ := h
    simp only [R.tk] at hk ⊢
    obtain ⟨g1, g2, g3, g4, g5⟩ := rt_next h1 rfl rfl rfl
    have hf := h1.f0
    have hkm : (KM - k) * (2 * f.toNat + 2) = (KM - (k + 1)) * (2 * f.toNat + 2) + (2 * f.toNat + 2) := by
      obtain ⟨e, he⟩ : ∃ e, KM - k = e + 1 := ⟨KM - k - 1, by omega⟩
      rw [he, show KM - (k + 1) = e by omega, Nat.add_mul, Nat.one_mul]
    have sm : ∀ x : Int, x.natAbs ≤ 2 * W + 2 * f.toNat + 2 → Sm x := fun x hx => sm_p (P := P) (by omega) hP
    refine .inr ⟨.rtWait, _, .root (k + 1) _ s _ f, fun m hm => .rtPart hm h1.b0 (sm _ (by omega)) h3 (sm _ (by omega)) (sm _ (by omega)) rfl rfl (sm _ ?_), ⟨g1, fun _ => g2, h3, W, ?_, ?_, w3⟩, rfl, ?_, fun z => rt_one (h2 z)⟩
    · refine Nat.le_trans g4 ?_
      omega
    · omega
    · omega
    · have := fdiv_le (t := t + f + (if b < 0 then 1 else 0)) (b := b)
      have e : (t + f + (if b < 0 then 1 else 0)).natAbs ≤ t.natAbs + f.toNat + 1 := by split <;> omega
      omega
  | ruled k ps ring steps =>
    obtain ⟨h1, h2, h3, h4, h5, h6, h7, h8⟩ := h
    simp only [R.tk] at hk ⊢
    have hsm : ∀ n ∈ ring ++ steps, Sm n := fun n hn => by
      rcases List.mem_append.mp hn with hn | hn
      · exact sm_p (h7 n (List.mem_append_right _ hn)) hP
      · by_cases hr : ring = []
        · have : steps = [] := List.length_eq_zero_iff.mp (by rw [h4, hr]; rfl)
          rw [this] at hn
          cases hn
        · obtain ⟨x, hx⟩ := List.exists_mem_of_ne_nil _ hr
          have := h8 x hx n hn
          have h9 : n.natAbs ≤ KM * n.natAbs := Nat.le_mul_of_pos_left _ (by omega)
          exact sm_p (P := P) (by omega) hP
    by_cases hend : ring = [] ∧ ps.length ≤ k
    · obtain ⟨rfl, hl⟩ := hend
      exact .inl ⟨by omega, fun m => .ruEnd hl⟩
    · have hgo : ring = [] → k < ps.length := fun z => by
        rcases Nat.lt_or_ge k ps.length with g | g
        · exact g
        · exact absurd ⟨z, g⟩ hend
      refine .inr ⟨.ruWait hgo, ruV k ps ring steps, .ruled (k + 1) ps ring steps, fun m hm => .ruPart hgo hm h4 (by omega) h2 h3 hsm, ⟨h1, h2, h3, h4, h5, h6, h7, h8⟩, rfl, ?_, fun z => ?_⟩
      · unfold ruV
        by_cases hl : k < ps.length
        · rw [if_pos hl]
          have := h7 _ (List.mem_append_left _ (getD_mem (xs := ps) hl))
          omega
        · rw [if_neg hl]
          have hr : 0 < ring.length := List.length_pos_iff.mpr fun z => hl (hgo z)
          have hm : (k - ps.length) % ring.length < ring.length := Nat.mod_lt _ hr
          have := h8 _ (getD_mem (xs := ring) hm) _ (getD_mem (xs := steps) (by rw [h4]; exact hm))
          generalize ring.getD ((k - ps.length) % ring.length) 0 = x at this ⊢
          generalize steps.getD ((k - ps.length) % ring.length) 0 = y at this ⊢
          have hd : (k - ps.length) / ring.length ≤ KM := by
            have := Nat.div_le_self (k - ps.length) ring.length
            omega
          have e1 : ((((k - ps.length) / ring.length : Nat) : Int) * y).natAbs = (k - ps.length) / ring.length * y.natAbs := by rw [Int.natAbs_mul]; rfl
          have e2 := Nat.mul_le_mul_right y.natAbs hd
          omega
      · unfold ruV
        by_cases hl : k < ps.length
        · rw [if_pos hl]
          refine h5 _ (List.mem_append_left _ ?_)
          rw [List.getD_eq_getElem?_getD, List.getElem?_eq_getElem hl]
          show ps[k] ∈ ps.drop 1
          rw [List.mem_iff_getElem?]
          refine ⟨k - 1, ?_⟩
          rw [List.getElem?_drop, show 1 + (k - 1) = k by omega, List.getElem?_eq_getElem hl]
        · rw [if_neg hl]
          have hr : 0 < ring.length := List.length_pos_iff.mpr fun z => hl (hgo z)
          have hm : (k - ps.length) % ring.length < ring.length := Nat.mod_lt _ hr
          have e1 := h5 _ (List.mem_append_right _ (getD_mem (xs := ring) hm))
          have e2 := h6 _ (getD_mem (xs := steps) (i := (k - ps.length) % ring.length) (by rw [h4]; exact hm))
          have := Int.mul_nonneg (Int.natCast_nonneg ((k - ps.length) / ring.length)) e2
          omega
  | _ => exact h.elim
structure Bgn4 (s a b c d : Int) : Prop where
  sg : Sg s
  i : Bgn s a c
  o : Bgn s (a + b) (c + d)
structure Bgn8 (s a b c d e f g h : Int) : Prop where
  sg : Sg s
  ii : Bgn s a e
  io : Bgn s (a + b) (e + f)
  oi : Bgn s (a + c) (e + g)
  oo : Bgn s (a + b + c + d) (e + f + g + h)
/-- r within bounds: whether it has told parts, what it told in short, how many bits it adds to P for each part of a leaf -/
inductive Gd (P KM : Nat) : R → Bool → Nat → Nat → Nat → Prop
  | fixed {t b bg k1 k0 β} : 2 * Ls k1 k0 t b + 8 ≤ 2 ^ β → 1 ≤ k1 → 1 ≤ k0 → k1 + k0 ≤ 2 ^ β → (bg = false → k1 = 1 ∧ k0 = 4) → (bg = true → ∃ s, Sg s ∧ Bgn s t b) → Gd P KM (.fixed t b bg) bg k1 k0 β
  | leaf {r bg k1 k0} : LfI P KM r → bg = decide (0 < r.tk) → 1 ≤ k1 → 1 ≤ k0 → k1 + k0 ≤ 2 ^ (P * r.tk + 3) → (bg = false → k1 = 1 ∧ k0 = 4) → Gd P KM r bg k1 k0 3
  | four {a b c d rdy bg x k1 k0 x1 x0 N ν β} : Gd P KM x rdy x1 x0 β → N < 2 ^ ν → 1 ≤ N → a * d ≠ b * c → 1 ≤ k1 → 1 ≤ k0 → (bg = false → k1 = 1 ∧ k0 = 4) → (rdy = false → bg = false ∧ Ls k1 k0 a c ≤ N ∧ Ls k1 k0 b d ≤ N) → (rdy = true → Ls k1 k0 a c ≤ N * x1 ∧ Ls k1 k0 (a + b) (c + d) ≤ N * (x1 + x0)) →
      (bg = true → k1 ≤ N * x1 ∧ k0 ≤ N * x1 + 1 ∧ ∃ s, Bgn4 s a b c d) → Gd P KM (.four a b c d rdy bg x) bg k1 k0 (β + ν + 3)
  | fourX {x t b bg k1 k0 β} : 2 * Ls k1 k0 t b + 8 ≤ 2 ^ (P * x.tk + β) → 3 ≤ β → 1 ≤ k1 → 1 ≤ k0 → k1 + k0 ≤ 2 ^ (P * x.tk + β) → (bg = false → k1 = 1 ∧ k0 = 4) → (bg = true → ∃ s, Sg s ∧ Bgn s t b) → Gd P KM (.fourX x t b bg) bg k1 k0 β
  | eight {a b c d e f g h m0 m1 bg x y k1 k0 x1 x0 y1 y0 N ν β γ} : Gd P KM x (decide (0 < m0)) x1 x0 β → Gd P KM y (decide (0 < m1)) y1 y0 γ → N < 2 ^ ν → 1 ≤ N → m1 ≤ m0 → m0 ≤ m1 + 1 → 1 ≤ k1 → 1 ≤ k0 → (bg = false → k1 = 1 ∧ k0 = 4) → (m1 = 0 → bg = false) →
      (m0 = 0 → Ls k1 k0 a e ≤ N ∧ Ls k1 k0 b f ≤ N ∧ Ls k1 k0 c g ≤ N ∧ Ls k1 k0 d h ≤ N) →
      (0 < m0 → m1 = 0 → Ls k1 k0 a e ≤ N * x1 ∧ Ls k1 k0 b f ≤ N * x1 ∧ Ls k1 k0 (a + c) (e + g) ≤ N * (x1 + x0) ∧ Ls k1 k0 (b + d) (f + h) ≤ N * (x1 + x0)) →
      (0 < m1 → Ls k1 k0 a e ≤ N * x1 * y1 ∧ Ls k1 k0 (a + b) (e + f) ≤ N * x1 * (y1 + y0) ∧ Ls k1 k0 (a + c) (e + g) ≤ N * (x1 + x0) * y1 ∧ Ls k1 k0 (a + b + c + d) (e + f + g + h) ≤ N * (x1 + x0) * (y1 + y0)) →
      (bg = true → k1 ≤ N * x1 * y1 ∧ k0 ≤ N * x1 * y1 + 1 ∧ ∃ s, Bgn8 s a b c d e f g h) → Gd P KM (.eight a b c d e f g h m0 m1 bg x y) bg k1 k0 (β + γ + ν + 3)
  | eightX {x y t b bg k1 k0 β} : 2 * Ls k1 k0 t b + 8 ≤ 2 ^ (P * (x.tk + y.tk) + β) → 3 ≤ β → 1 ≤ k1 → 1 ≤ k0 → k1 + k0 ≤ 2 ^ (P * (x.tk + y.tk) + β) → (bg = false → k1 = 1 ∧ k0 = 4) → (bg = true → ∃ s, Sg s ∧ Bgn s t b) → Gd P KM (.eightX x y t b bg) bg k1 k0 β
  | eightF {w dead fr bg k1 k0 β} : fr.kd = .four → 3 ≤ β → Gd P KM fr bg k1 k0 (P * dead.tk + β) → Gd P KM (.eightF w dead fr) bg k1 k0 β
theorem Gd.three {P KM : Nat} {r : R} {bg : Bool} {k1 k0 β : Nat} (h : Gd P KM r bg k1 k0 β) : 3 ≤ β := by
  cases h with
  | fixed h =>
    rcases Nat.lt_or_ge β 3 with z | z
    · have : 2 ^ β ≤ 2 ^ 2 := Nat.pow_le_pow_right (by decide) (by omega)
      omega
    · exact z
  | leaf => exact Nat.le_refl _
  | four => omega
  | fourX _ h => exact h
  | eight => omega
  | eightX _ h => exact h
  | eightF _ h => exact h
theorem pow_le3 {n : Nat} (h : 3 ≤ n) : 8 ≤ 2 ^ n := show 2 ^ 3 ≤ 2 ^ n from Nat.pow_le_pow_right (by decide) h
/-- N x1 (and x1 + x0) in bits -/
theorem nx_le {N ν x e : Nat} (h : N < 2 ^ ν) (hx : x ≤ 2 ^ e) : N * x ≤ 2 ^ (e + ν) := by
  rw [Nat.pow_add, Nat.mul_comm]
  exact Nat.mul_le_mul hx (Nat.le_of_lt h)
theorem Gd.bd {P KM : Nat} {r : R} {bg : Bool} {k1 k0 β : Nat} (h : Gd P KM r bg k1 k0 β) : k1 + k0 ≤ 2 ^ (P * r.tk + β) ∧ 1 ≤ k1 ∧ 1 ≤ k0 ∧ (bg = false → k1 = 1 ∧ k0 = 4) := by
  induction h with
  | @fixed t b bg k1 k0 β h1 h2 h3 h4 h5 h6 => exact ⟨by simp only [R.tk, Nat.mul_zero, Nat.zero_add]; exact h4, h2, h3, h5⟩
  | leaf h1 h2 h3 h4 h5 h6 => exact ⟨h5, h3, h4, h6⟩
  | @four a b c d rdy bg x k1 k0 x1 x0 N ν β hx h1 h2 h3 h4 h5 h6 h7 h8 h9 ih =>
    refine ⟨?_, h4, h5, h6⟩
    simp only [R.tk]
    have e1 : 2 ^ (P * x.tk + (β + ν + 3)) = 2 ^ (P * x.tk + β + ν) * 8 := by rw [show P * x.tk + (β + ν + 3) = P * x.tk + β + ν + 3 by omega, Nat.pow_add]
    have e2 := hx.three
    have e3 := pow_le3 (n := P * x.tk + β + ν) (by omega)
    cases bg with
    | false => have := h6 rfl; omega
    | true =>
      have h10 := h9 rfl
      have := nx_le h1 (x := x1) (e := P * x.tk + β) (by omega)
      omega
  | fourX h1 h2 h3 h4 h5 h6 h7 => exact ⟨h5, h3, h4, h6⟩
  | @eight a b c d e f g h m0 m1 bg x y k1 k0 x1 x0 y1 y0 N ν β γ hx hy h1 h2 h3 h4 h5 h6 h7 h8 h9 h10 h11 h12 ih1 ih2 =>
    refine ⟨?_, h5, h6, h7⟩
    simp only [R.tk]
    have e1 : 2 ^ (P * (x.tk + y.tk) + (β + γ + ν + 3)) = 2 ^ (P * y.tk + γ + (P * x.tk + β + ν)) * 8 := by rw [Nat.mul_add, show P * x.tk + P * y.tk + (β + γ + ν + 3) = P * y.tk + γ + (P * x.tk + β + ν) + 3 by omega, Nat.pow_add]
    have e2 := hx.three
    have e3 := pow_le3 (n := P * y.tk + γ + (P * x.tk + β + ν)) (by omega)
    cases bg with
    | false => have := h7 rfl; omega
    | true =>
      have h13 := h12 rfl
      have q1 := nx_le h1 (x := x1) (e := P * x.tk + β) (by omega)
      have q2 : N * x1 * y1 ≤ 2 ^ (P * y.tk + γ + (P * x.tk + β + ν)) := by
        rw [Nat.pow_add (m := P * y.tk + γ), Nat.mul_comm]
        exact Nat.mul_le_mul (by omega) q1
      omega
  | eightX h1 h2 h3 h4 h5 h6 h7 => exact ⟨h5, h3, h4, h6⟩
  | @eightF w dead fr bg k1 k0 β h1 h2 h3 ih =>
    refine ⟨?_, ih.2⟩
    have := ih.1
    simp only [R.tk]
    rw [Nat.mul_add, show P * dead.tk + P * fr.tk + β = P * fr.tk + (P * dead.tk + β) by omega]
    exact this
theorem sm_of {x : Int} {e : Nat} (h : x.natAbs ≤ 2 ^ e) (he : e < 290000) : Sm x := by
  have : 2 ^ e < 2 ^ 290000 := Nat.pow_lt_pow_right (by decide) he
  unfold Sm
  omega
theorem Ls_top {k1 k0 : Nat} {t b : Int} {n : Nat} (h : Ls k1 k0 t b ≤ n) (h1 : 1 ≤ k1) (h2 : 1 ≤ k0) : t.natAbs ≤ n ∧ b.natAbs ≤ n := by
  unfold Ls at h
  have e1 := Nat.mul_le_mul_right t.natAbs h1
  have e2 := Nat.mul_le_mul_right b.natAbs h2
  omega
/-- a four's numbers -/
theorem Gd.sm4 {P KM : Nat} {a b c d : Int} {rdy bg : Bool} {x : R} {k1 k0 B : Nat} (h : Gd P KM (.four a b c d rdy bg x) bg k1 k0 B) (hB : P * x.tk + B < 290000) : Sm a ∧ Sm b ∧ Sm c ∧ Sm d := by
  cases h with
  | leaf h => exact h.elim
  | @four _ _ _ _ _ _ _ _ _ x1 x0 N ν β hx h1 h2 h3 h4 h5 h6 h7 h8 h9 =>
    obtain ⟨b1, b2, b3, b4⟩ := hx.bd
    have e1 : 2 ^ (P * x.tk + (β + ν + 3)) = 2 ^ (P * x.tk + β + ν) * 8 := by rw [show P * x.tk + (β + ν + 3) = P * x.tk + β + ν + 3 by omega, Nat.pow_add]
    have q1 := nx_le h1 (x := x1 + x0) (e := P * x.tk + β) b1
    have q2 : N * x1 ≤ N * (x1 + x0) := Nat.mul_le_mul_left _ (by omega)
    have q3 : N ≤ N * x1 := Nat.le_mul_of_pos_right _ (by omega)
    have fin : ∀ y : Int, y.natAbs ≤ 2 * (N * (x1 + x0)) → Sm y := fun y hy => sm_of (by rw [e1]; omega) hB
    cases rdy with
    | false =>
      obtain ⟨_, g1, g2⟩ := h7 rfl
      have g1 := Ls_top g1 h4 h5
      have g2 := Ls_top g2 h4 h5
      exact ⟨fin _ (by omega), fin _ (by omega), fin _ (by omega), fin _ (by omega)⟩
    | true =>
      obtain ⟨g1, g2⟩ := h8 rfl
      have g1 := Ls_top g1 h4 h5
      have g2 := Ls_top g2 h4 h5
      exact ⟨fin _ (by omega), fin _ (by omega), fin _ (by omega), fin _ (by omega)⟩
theorem one_abs {u : Int} {Z : Nat} (h1 : u.natAbs ≤ Z) : u.natAbs ≤ 4 * Z := by omega
theorem two_abs {u v : Int} {Z : Nat} (h2 : u.natAbs ≤ Z) (h1 : (u + v).natAbs ≤ Z) : v.natAbs ≤ 4 * Z := by omega
theorem four_abs {a b c d : Int} {Z : Nat} (h1 : a.natAbs ≤ Z) (h2 : (a + b).natAbs ≤ Z) (h3 : (a + c).natAbs ≤ Z) (h4 : (a + b + c + d).natAbs ≤ Z) : d.natAbs ≤ 4 * Z := by omega
theorem Gd.sm8 {P KM : Nat} {a b c d e f g h : Int} {m0 m1 : Nat} {bg : Bool} {x y : R} {k1 k0 B : Nat} (hG : Gd P KM (.eight a b c d e f g h m0 m1 bg x y) bg k1 k0 B) (hB : P * (x.tk + y.tk) + B < 290000) : Sm8 a b c d e f g h := by
  cases hG with
  | leaf h => exact h.elim
  | @eight _ _ _ _ _ _ _ _ _ _ _ _ _ _ _ x1 x0 y1 y0 N ν β γ hx hy h1 h2 h3 h4 h5 h6 h7 h8 h9 h10 h11 h12 =>
    obtain ⟨b1, b2, b3, b4⟩ := hx.bd
    obtain ⟨c1, c2, c3, c4⟩ := hy.bd
    have e1 : 2 ^ (P * (x.tk + y.tk) + (β + γ + ν + 3)) = 2 ^ (P * y.tk + γ + (P * x.tk + β + ν)) * 8 := by rw [Nat.mul_add, show P * x.tk + P * y.tk + (β + γ + ν + 3) = P * y.tk + γ + (P * x.tk + β + ν) + 3 by omega, Nat.pow_add]
    have q0 := nx_le h1 (x := x1 + x0) (e := P * x.tk + β) b1
    have q1 : N * (x1 + x0) * (y1 + y0) ≤ 2 ^ (P * y.tk + γ + (P * x.tk + β + ν)) := by
      rw [Nat.pow_add (m := P * y.tk + γ), Nat.mul_comm]
      exact Nat.mul_le_mul c1 q0
    have q2 : N * x1 * (y1 + y0) ≤ N * (x1 + x0) * (y1 + y0) := Nat.mul_le_mul_right _ (Nat.mul_le_mul_left _ (by omega))
    have q3 : N * (x1 + x0) * y1 ≤ N * (x1 + x0) * (y1 + y0) := Nat.mul_le_mul_left _ (by omega)
    have q4 : N * x1 * y1 ≤ N * x1 * (y1 + y0) := Nat.mul_le_mul_left _ (by omega)
    have q5 : N * (x1 + x0) ≤ N * (x1 + x0) * y1 := Nat.le_mul_of_pos_right _ (by omega)
    have q6 : N * x1 ≤ N * (x1 + x0) := Nat.mul_le_mul_left _ (by omega)
    have q7 : N ≤ N * x1 := Nat.le_mul_of_pos_right _ (by omega)
    generalize hZ : 2 ^ (P * y.tk + γ + (P * x.tk + β + ν)) = Z at e1 q1
    have r6 := Nat.le_trans q2 q1
    have r5 := Nat.le_trans q3 q1
    have r4 := Nat.le_trans q4 r6
    have r3 := Nat.le_trans q5 r5
    have r2 := Nat.le_trans q6 r3
    have r1 := Nat.le_trans q7 r2
    have z8 : 4 * Z ≤ Z * 8 := by clear q1 q2 q3 q4 q5 q6 q7 r1 r2 r3 r4 r5 r6 e1; omega
    have fin : ∀ v : Int, v.natAbs ≤ 4 * Z → Sm v := fun v hv => sm_of (by rw [e1]; exact Nat.le_trans hv z8) hB
    by_cases z0 : m0 = 0
    · obtain ⟨g1, g2, g3, g4⟩ := h9 z0
      have y1 : _ ≤ Z ∧ _ ≤ Z := ⟨Nat.le_trans (Ls_top g1 h5 h6).1 (by first | exact r1 | exact r2 | exact r3 | exact r4 | exact r5 | exact r6 | exact q1), Nat.le_trans (Ls_top g1 h5 h6).2 (by first | exact r1 | exact r2 | exact r3 | exact r4 | exact r5 | exact r6 | exact q1)⟩
      have y2 : _ ≤ Z ∧ _ ≤ Z := ⟨Nat.le_trans (Ls_top g2 h5 h6).1 (by first | exact r1 | exact r2 | exact r3 | exact r4 | exact r5 | exact r6 | exact q1), Nat.le_trans (Ls_top g2 h5 h6).2 (by first | exact r1 | exact r2 | exact r3 | exact r4 | exact r5 | exact r6 | exact q1)⟩
      have y3 : _ ≤ Z ∧ _ ≤ Z := ⟨Nat.le_trans (Ls_top g3 h5 h6).1 (by first | exact r1 | exact r2 | exact r3 | exact r4 | exact r5 | exact r6 | exact q1), Nat.le_trans (Ls_top g3 h5 h6).2 (by first | exact r1 | exact r2 | exact r3 | exact r4 | exact r5 | exact r6 | exact q1)⟩
      have y4 : _ ≤ Z ∧ _ ≤ Z := ⟨Nat.le_trans (Ls_top g4 h5 h6).1 (by first | exact r1 | exact r2 | exact r3 | exact r4 | exact r5 | exact r6 | exact q1), Nat.le_trans (Ls_top g4 h5 h6).2 (by first | exact r1 | exact r2 | exact r3 | exact r4 | exact r5 | exact r6 | exact q1)⟩
      refine ⟨?_, ?_, ?_, ?_, ?_, ?_, ?_, ?_⟩ <;> first | exact fin _ (one_abs y1.1) | exact fin _ (one_abs y1.2) | exact fin _ (one_abs y2.1) | exact fin _ (one_abs y2.2) | exact fin _ (one_abs y3.1) | exact fin _ (one_abs y3.2) | exact fin _ (one_abs y4.1) | exact fin _ (one_abs y4.2) | exact fin _ (two_abs y1.1 y2.1) | exact fin _ (two_abs y1.2 y2.2) | exact fin _ (two_abs y1.1 y3.1) | exact fin _ (two_abs y1.2 y3.2) | exact fin _ (two_abs y1.1 y4.1) | exact fin _ (two_abs y1.2 y4.2) | exact fin _ (two_abs y2.1 y3.1) | exact fin _ (two_abs y2.2 y3.2) | exact fin _ (two_abs y2.1 y4.1) | exact fin _ (two_abs y2.2 y4.2) | exact fin _ (two_abs y3.1 y4.1) | exact fin _ (two_abs y3.2 y4.2) | exact fin _ (four_abs y1.1 y2.1 y3.1 y4.1) | exact fin _ (four_abs y1.2 y2.2 y3.2 y4.2)
    · by_cases z1 : m1 = 0
      · obtain ⟨g1, g2, g3, g4⟩ := h10 (Nat.pos_of_ne_zero z0) z1
        have y1 : _ ≤ Z ∧ _ ≤ Z := ⟨Nat.le_trans (Ls_top g1 h5 h6).1 (by first | exact r1 | exact r2 | exact r3 | exact r4 | exact r5 | exact r6 | exact q1), Nat.le_trans (Ls_top g1 h5 h6).2 (by first | exact r1 | exact r2 | exact r3 | exact r4 | exact r5 | exact r6 | exact q1)⟩
        have y2 : _ ≤ Z ∧ _ ≤ Z := ⟨Nat.le_trans (Ls_top g2 h5 h6).1 (by first | exact r1 | exact r2 | exact r3 | exact r4 | exact r5 | exact r6 | exact q1), Nat.le_trans (Ls_top g2 h5 h6).2 (by first | exact r1 | exact r2 | exact r3 | exact r4 | exact r5 | exact r6 | exact q1)⟩
        have y3 : _ ≤ Z ∧ _ ≤ Z := ⟨Nat.le_trans (Ls_top g3 h5 h6).1 (by first | exact r1 | exact r2 | exact r3 | exact r4 | exact r5 | exact r6 | exact q1), Nat.le_trans (Ls_top g3 h5 h6).2 (by first | exact r1 | exact r2 | exact r3 | exact r4 | exact r5 | exact r6 | exact q1)⟩
        have y4 : _ ≤ Z ∧ _ ≤ Z := ⟨Nat.le_trans (Ls_top g4 h5 h6).1 (by first | exact r1 | exact r2 | exact r3 | exact r4 | exact r5 | exact r6 | exact q1), Nat.le_trans (Ls_top g4 h5 h6).2 (by first | exact r1 | exact r2 | exact r3 | exact r4 | exact r5 | exact r6 | exact q1)⟩
        refine ⟨?_, ?_, ?_, ?_, ?_, ?_, ?_, ?_⟩ <;> first | exact fin _ (one_abs y1.1) | exact fin _ (one_abs y1.2) | exact fin _ (one_abs y2.1) | exact fin _ (one_abs y2.2) | exact fin _ (one_abs y3.1) | exact fin _ (one_abs y3.2) | exact fin _ (one_abs y4.1) | exact fin _ (one_abs y4.2) | exact fin _ (two_abs y1.1 y2.1) | exact fin _ (two_abs y1.2 y2.2) | exact fin _ (two_abs y1.1 y3.1) | exact fin _ (two_abs y1.2 y3.2) | exact fin _ (two_abs y1.1 y4.1) | exact fin _ (two_abs y1.2 y4.2) | exact fin _ (two_abs y2.1 y3.1) | exact fin _ (two_abs y2.2 y3.2) | exact fin _ (two_abs y2.1 y4.1) | exact fin _ (two_abs y2.2 y4.2) | exact fin _ (two_abs y3.1 y4.1) | exact fin _ (two_abs y3.2 y4.2) | exact fin _ (four_abs y1.1 y2.1 y3.1 y4.1) | exact fin _ (four_abs y1.2 y2.2 y3.2 y4.2)
      · obtain ⟨g1, g2, g3, g4⟩ := h11 (Nat.pos_of_ne_zero z1)
        have y1 : _ ≤ Z ∧ _ ≤ Z := ⟨Nat.le_trans (Ls_top g1 h5 h6).1 (by first | exact r1 | exact r2 | exact r3 | exact r4 | exact r5 | exact r6 | exact q1), Nat.le_trans (Ls_top g1 h5 h6).2 (by first | exact r1 | exact r2 | exact r3 | exact r4 | exact r5 | exact r6 | exact q1)⟩
        have y2 : _ ≤ Z ∧ _ ≤ Z := ⟨Nat.le_trans (Ls_top g2 h5 h6).1 (by first | exact r1 | exact r2 | exact r3 | exact r4 | exact r5 | exact r6 | exact q1), Nat.le_trans (Ls_top g2 h5 h6).2 (by first | exact r1 | exact r2 | exact r3 | exact r4 | exact r5 | exact r6 | exact q1)⟩
        have y3 : _ ≤ Z ∧ _ ≤ Z := ⟨Nat.le_trans (Ls_top g3 h5 h6).1 (by first | exact r1 | exact r2 | exact r3 | exact r4 | exact r5 | exact r6 | exact q1), Nat.le_trans (Ls_top g3 h5 h6).2 (by first | exact r1 | exact r2 | exact r3 | exact r4 | exact r5 | exact r6 | exact q1)⟩
        have y4 : _ ≤ Z ∧ _ ≤ Z := ⟨Nat.le_trans (Ls_top g4 h5 h6).1 (by first | exact r1 | exact r2 | exact r3 | exact r4 | exact r5 | exact r6 | exact q1), Nat.le_trans (Ls_top g4 h5 h6).2 (by first | exact r1 | exact r2 | exact r3 | exact r4 | exact r5 | exact r6 | exact q1)⟩
        refine ⟨?_, ?_, ?_, ?_, ?_, ?_, ?_, ?_⟩ <;> first | exact fin _ (one_abs y1.1) | exact fin _ (one_abs y1.2) | exact fin _ (one_abs y2.1) | exact fin _ (one_abs y2.2) | exact fin _ (one_abs y3.1) | exact fin _ (one_abs y3.2) | exact fin _ (one_abs y4.1) | exact fin _ (one_abs y4.2) | exact fin _ (two_abs y1.1 y2.1) | exact fin _ (two_abs y1.2 y2.2) | exact fin _ (two_abs y1.1 y3.1) | exact fin _ (two_abs y1.2 y3.2) | exact fin _ (two_abs y1.1 y4.1) | exact fin _ (two_abs y1.2 y4.2) | exact fin _ (two_abs y2.1 y3.1) | exact fin _ (two_abs y2.2 y3.2) | exact fin _ (two_abs y2.1 y4.1) | exact fin _ (two_abs y2.2 y4.2) | exact fin _ (two_abs y3.1 y4.1) | exact fin _ (two_abs y3.2 y4.2) | exact fin _ (four_abs y1.1 y2.1 y3.1 y4.1) | exact fin _ (four_abs y1.2 y2.2 y3.2 y4.2)
theorem gs_pos {bg : Bool} {k1 k0 : Nat} {q : Int} (h1 : 1 ≤ k1) (h0 : 1 ≤ k0) (hq : bg = true → 1 ≤ q) : 1 ≤ (gs bg k1 k0 q).1 ∧ 1 ≤ (gs bg k1 k0 q).2 := by
  unfold gs
  cases bg with
  | true =>
    have h := hq rfl
    simp only [if_true]
    have := Nat.le_mul_of_pos_right k1 (show 0 < q.toNat by omega)
    omega
  | false =>
    simp only [Bool.false_eq_true, if_false]
    split <;> simp only <;> omega
/-- what a part leaves of a corner, in short -/
theorem gs_rem {bg : Bool} {k1 k0 : Nat} {t b q : Int} (hb : bg = false → k1 = 1 ∧ k0 = 4) (hq : bg = true → 1 ≤ q) (h : Rem t b q) : Ls (gs bg k1 k0 q).1 (gs bg k1 k0 q).2 b (t - q * b) ≤ Ls k1 k0 t b := by
  cases bg with
  | true => exact Nat.le_of_eq (gs_next (hq rfl) h)
  | false =>
    obtain ⟨rfl, rfl⟩ := hb rfl
    exact gs_first h
theorem gs_k {bg : Bool} {k1 k0 n : Nat} {t b q : Int} (h1 : 1 ≤ k1) (h0 : 1 ≤ k0) (hq : bg = true → 1 ≤ q) (h : Ls (gs bg k1 k0 q).1 (gs bg k1 k0 q).2 b (t - q * b) ≤ n) (b0 : b ≠ 0) (hk : bg = true → k1 ≤ n) : (gs bg k1 k0 q).1 ≤ n ∧ (gs bg k1 k0 q).2 ≤ n + 1 := by
  obtain ⟨g1, g2⟩ := gs_pos h1 h0 hq
  unfold Ls at h
  have := Nat.le_mul_of_pos_right (gs bg k1 k0 q).1 (show 0 < b.natAbs by omega)
  refine ⟨by omega, ?_⟩
  cases bg with
  | true => unfold gs; simp only [if_true]; have := hk rfl; omega
  | false => unfold gs; simp only [Bool.false_eq_true, if_false]; split <;> simp only <;> omega
theorem sg_of {b : Int} (h : b ≠ 0) : ∃ s, Sg s ∧ 0 < s * b := by
  rcases Int.lt_or_gt_of_ne h with z | z
  · exact ⟨-1, .inr rfl, by omega⟩
  · exact ⟨1, .inl rfl, by omega⟩
theorem sg_same {s b b' : Int} (hs : Sg s) (h : 0 < s * b) (h' : 0 < b' * b) : 0 < s * b' := by
  rcases hs with rfl | rfl
  · have : 0 < b := by omega
    have := Int.pos_of_mul_pos_left h' this
    omega
  · have hb : b < 0 := by omega
    rcases Int.lt_or_le b' 0 with z | z
    · omega
    · have := Int.mul_nonpos_of_nonneg_of_nonpos z (by omega : b ≤ 0)
      omega
/-- all corners behind a sure part -/
theorem sure_rem {c0 : Int × Int} {r : List (Int × Int)} {q : Int} (h : belowAll (c0 :: r) = some q) : (∃ s, Sg s ∧ ∀ c ∈ c0 :: r, 0 < s * c.2) ∧ (∀ c ∈ c0 :: r, Rem c.1 c.2 q) ∧ ∃ c ∈ c0 :: r, q = c.1.fdiv c.2 := by
  obtain ⟨h1, h2, h3, h4⟩ := belowAll_spec.mp h
  have b0 : c0.2 ≠ 0 := fun e => by
    have := h1 c0 List.mem_cons_self
    rw [e, Int.zero_mul] at this
    omega
  obtain ⟨s, hs, hp⟩ := sg_of b0
  exact ⟨⟨s, hs, fun c hc => sg_same hs hp (h1 c hc)⟩, fun c hc => rem_of (h1 c hc) (h3 c hc) (h4 c hc), h2⟩
theorem Rem.lt {t b q : Int} (h : Rem t b q) (hq : 1 ≤ q) : (t - q * b).natAbs < t.natAbs := by
  have e := abs_split hq (t := t) (b := b) (r := t - q * b) (by omega) h.lo h.b0
  have h0 := h.b0
  have := Nat.le_mul_of_pos_left b.natAbs (show 0 < q.toNat by omega)
  omega
theorem Ls_lin {k1 k0 : Nat} {t b t' b' p : Int} {n m : Nat} (hp : 0 ≤ p) (h : Ls k1 k0 t b ≤ n) (h' : Ls k1 k0 t' b' ≤ m) : Ls k1 k0 (t * p + t') (b * p + b') ≤ p.toNat * n + m := by
  have h1 := Ls_add (k1 := k1) (k0 := k0) (t := t * p) (b := b * p) (t' := t') (b' := b')
  rw [Ls_mul] at h1
  have h2 := Nat.mul_le_mul_left p.natAbs h
  have : p.natAbs = p.toNat := by omega
  rw [this] at h1 h2
  omega
theorem Ls_lin' {k1 k0 : Nat} {t b t' b' p : Int} {n m : Nat} (h : Ls k1 k0 t b ≤ n) (h' : Ls k1 k0 t' b' ≤ m) : Ls k1 k0 (t * p + t') (b * p + b') ≤ p.natAbs * n + m := by
  have h1 := Ls_add (k1 := k1) (k0 := k0) (t := t * p) (b := b * p) (t' := t') (b' := b')
  rw [Ls_mul] at h1
  have h2 := Nat.mul_le_mul_left p.natAbs h
  omega
/-- the two corners in one chain's direction, behind a part of it -/
theorem two_in {k1 k0 M x1 x0 : Nat} {t b t' b' p : Int} (hp : 1 ≤ p) (h : Ls k1 k0 t b ≤ M * x1) (h' : Ls k1 k0 (t + t') (b + b') ≤ M * (x1 + x0)) :
    Ls k1 k0 (t * p + t') (b * p + b') ≤ M * (x1 * p.toNat + x0) ∧ Ls k1 k0 (t * p + t' + t) (b * p + b' + b) ≤ M * (x1 * p.toNat + x0 + x1) := by
  have e1 : t * p + t' = t * (p - 1) + (t + t') := by grind
  have e2 : b * p + b' = b * (p - 1) + (b + b') := by grind
  have e3 : t * p + t' + t = t * p + (t + t') := by grind
  have e4 : b * p + b' + b = b * p + (b + b') := by grind
  obtain ⟨n, rfl⟩ : ∃ n : Nat, p = (n : Int) + 1 := ⟨(p - 1).toNat, by omega⟩
  have q1 := Ls_lin (p := (n : Int) + 1 - 1) (by omega) h h'
  have q2 := Ls_lin (p := (n : Int) + 1) (by omega) h h'
  have t1 : ((n : Int) + 1 - 1).toNat = n := by omega
  have t2 : ((n : Int) + 1).toNat = n + 1 := by omega
  rw [t1] at q1
  rw [t2] at q2
  rw [e3, e4, e1, e2, t2]
  refine ⟨Nat.le_trans q1 (Nat.le_of_eq ?_), Nat.le_trans q2 (Nat.le_of_eq ?_)⟩ <;> grind
/-- .. the first part -/
theorem two_first {k1 k0 M : Nat} {t b t' b' p : Int} (h : Ls k1 k0 t b ≤ M) (h' : Ls k1 k0 t' b' ≤ M) : Ls k1 k0 (t * p + t') (b * p + b') ≤ M * (gs false 1 4 p).1 ∧ Ls k1 k0 (t * p + t' + t) (b * p + b' + b) ≤ M * ((gs false 1 4 p).1 + (gs false 1 4 p).2) := by
  have q1 := Ls_lin' (p := p) h h'
  have q2 := Ls_add (k1 := k1) (k0 := k0) (t := t * p + t') (b := b * p + b') (t' := t) (b' := b)
  have g1 : p.natAbs + 1 ≤ (gs false 1 4 p).1 := by unfold gs; simp only [Bool.false_eq_true, if_false]; split <;> simp only <;> omega
  have g2 : (gs false 1 4 p).2 = 1 := by unfold gs; simp only [Bool.false_eq_true, if_false]; split <;> rfl
  rw [g2]
  have g3 := Nat.mul_le_mul_left M g1
  have g4 : M * (p.natAbs + 1) = p.natAbs * M + M := by grind
  have g5 : M * ((gs false 1 4 p).1 + 1) = M * (gs false 1 4 p).1 + M := by grind
  omega
theorem gs_up {x1 x0 : Nat} {p : Int} (hp : 1 ≤ p) : (gs true x1 x0 p).1 = x1 * p.toNat + x0 ∧ (gs true x1 x0 p).2 = x1 ∧ x1 ≤ x1 * p.toNat + x0 := by
  refine ⟨by unfold gs; simp, by unfold gs; simp, ?_⟩
  have := Nat.le_mul_of_pos_right x1 (show 0 < p.toNat by omega)
  omega
/-- a four with the bounds of its inner reader in sight -/
structure G4 (a b c d : Int) (rdy bg : Bool) (k1 k0 x1 x0 N : Nat) : Prop where
  det : a * d ≠ b * c
  p1 : 1 ≤ k1
  p0 : 1 ≤ k0
  n1 : 1 ≤ N
  fst : bg = false → k1 = 1 ∧ k0 = 4
  off : rdy = false → bg = false ∧ Ls k1 k0 a c ≤ N ∧ Ls k1 k0 b d ≤ N
  on : rdy = true → Ls k1 k0 a c ≤ N * x1 ∧ Ls k1 k0 (a + b) (c + d) ≤ N * (x1 + x0)
  bgn : bg = true → k1 ≤ N * x1 ∧ k0 ≤ N * x1 + 1 ∧ ∃ s, Bgn4 s a b c d
theorem Gd.of4 {P KM : Nat} {a b c d : Int} {rdy bg : Bool} {x : R} {k1 k0 x1 x0 N ν β : Nat} (hx : Gd P KM x rdy x1 x0 β) (h : N < 2 ^ ν) (g : G4 a b c d rdy bg k1 k0 x1 x0 N) : Gd P KM (.four a b c d rdy bg x) bg k1 k0 (β + ν + 3) :=
  .four hx h g.n1 g.det g.p1 g.p0 g.fst g.off g.on g.bgn
theorem G4.tell {a b c d q : Int} {rdy bg : Bool} {k1 k0 x1 x0 N : Nat} (g : G4 a b c d rdy bg k1 k0 x1 x0 N) (hs : sure4 rdy a b c d = some q) :
    (bg = true → 1 ≤ q) ∧ G4 c d (a - q * c) (b - q * d) rdy true (gs bg k1 k0 q).1 (gs bg k1 k0 q).2 x1 x0 N ∧
      (bg = true → c.natAbs + (a - q * c).natAbs + (c + d).natAbs + (a - q * c + (b - q * d)).natAbs < a.natAbs + c.natAbs + (a + b).natAbs + (c + d).natAbs) := by
  obtain ⟨h3, h4, h5, h2, h6, h7, h8, h9⟩ := g
  unfold sure4 at hs
  split at hs
  · rename_i hr
    subst hr
    obtain ⟨⟨s, hs', hp⟩, hrem, c', hc', eq⟩ := sure_rem hs
    have m1 : (a, c) ∈ [(a, c), (a + b, c + d)] := by simp
    have m2 : (a + b, c + d) ∈ [(a, c), (a + b, c + d)] := by simp
    obtain ⟨g1, g2⟩ := h8 rfl
    have hq : bg = true → 1 ≤ q := fun hb => by
      obtain ⟨_, _, s, hb4⟩ := h9 hb
      rw [eq]
      have r0 := (hrem c' hc').b0
      simp only [List.mem_cons, List.not_mem_nil, or_false] at hc'
      rcases hc' with rfl | rfl
      · exact hb4.i.floor hb4.sg r0
      · exact hb4.o.floor hb4.sg r0
    have r1 := hrem _ m1
    have r2 := hrem _ m2
    simp only at r1 r2
    have e2 : a + b - q * (c + d) = a - q * c + (b - q * d) := by grind
    have l1 := Nat.le_trans (gs_rem h6 hq r1) g1
    have l2 := Nat.le_trans (gs_rem h6 hq r2) g2
    refine ⟨hq, ?_, fun hb => ?_⟩
    · rw [e2] at l2
      obtain ⟨p1, p2⟩ := gs_pos h4 h5 hq
      obtain ⟨q1, q2⟩ := gs_k h4 h5 hq l1 r1.b0 (fun hb => (h9 hb).1)
      refine ⟨?_, p1, p2, h2, fun z => (by cases z), fun z => (by cases z), fun _ => ⟨l1, l2⟩, fun _ => ⟨q1, q2, s, hs', r1.bgn hs' (hp _ m1), ?_⟩⟩
      · have : c * (b - q * d) - d * (a - q * c) = -(a * d - b * c) := by grind
        omega
      · have := r2.bgn hs' (hp _ m2)
        rw [e2] at this
        exact this
    · have w1 := r1.lt (hq hb)
      have w2 := r2.lt (hq hb)
      rw [e2] at w2
      omega
  · cases hs
theorem G4.take {a b c d p : Int} {rdy bg : Bool} {k1 k0 x1 x0 N : Nat} (g : G4 a b c d rdy bg k1 k0 x1 x0 N) (hp : rdy = true → 1 ≤ p) (hx : rdy = false → x1 = 1 ∧ x0 = 4) : G4 (a * p + b) a (c * p + d) c true bg k1 k0 (gs rdy x1 x0 p).1 (gs rdy x1 x0 p).2 N := by
  obtain ⟨det, p1, p0, n1, fst, off, on, bgn⟩ := g
  have hdet : (a * p + b) * c ≠ a * (c * p + d) := by
    have : (a * p + b) * c - a * (c * p + d) = -(a * d - b * c) := by grind
    omega
  cases rdy with
  | false =>
    obtain ⟨hb, o1, o2⟩ := off rfl
    obtain ⟨e1, e2⟩ := hx rfl
    subst e1 e2
    obtain ⟨q1, q2⟩ := two_first (p := p) o1 o2
    exact ⟨hdet, p1, p0, n1, fst, fun z => (by cases z), fun _ => ⟨q1, q2⟩, fun z => by rw [hb] at z; cases z⟩
  | true =>
    obtain ⟨o1, o2⟩ := on rfl
    have hp1 := hp rfl
    obtain ⟨u1, u2, u3⟩ := gs_up (x1 := x1) (x0 := x0) hp1
    rw [u1, u2]
    obtain ⟨q1, q2⟩ := two_in hp1 o1 o2
    refine ⟨hdet, p1, p0, n1, fst, fun z => (by cases z), fun _ => ⟨q1, q2⟩, fun z => ?_⟩
    obtain ⟨b1, b2, s, b3⟩ := bgn z
    have := Nat.mul_le_mul_left N u3
    refine ⟨by omega, by omega, s, b3.sg, ?_, ?_⟩
    · have e1 : a * p + b = a * (p - 1) + (a + b) := by grind
      have e2 : c * p + d = c * (p - 1) + (c + d) := by grind
      rw [e1, e2]
      exact Bgn.muladd (by omega) b3.i b3.o
    · have e3 : a * p + b + a = a * p + (a + b) := by grind
      have e4 : c * p + d + c = c * p + (c + d) := by grind
      rw [e3, e4]
      exact Bgn.muladd (by omega) b3.i b3.o
/-- .. an eight -/
structure G8 (a b c d e f g h : Int) (m0 m1 : Nat) (bg : Bool) (k1 k0 x1 x0 y1 y0 N : Nat) : Prop where
  p1 : 1 ≤ k1
  p0 : 1 ≤ k0
  n1 : 1 ≤ N
  m01 : m1 ≤ m0
  m10 : m0 ≤ m1 + 1
  fst : bg = false → k1 = 1 ∧ k0 = 4
  nb : m1 = 0 → bg = false
  z0 : m0 = 0 → Ls k1 k0 a e ≤ N ∧ Ls k1 k0 b f ≤ N ∧ Ls k1 k0 c g ≤ N ∧ Ls k1 k0 d h ≤ N
  z1 : 0 < m0 → m1 = 0 → Ls k1 k0 a e ≤ N * x1 ∧ Ls k1 k0 b f ≤ N * x1 ∧ Ls k1 k0 (a + c) (e + g) ≤ N * (x1 + x0) ∧ Ls k1 k0 (b + d) (f + h) ≤ N * (x1 + x0)
  on : 0 < m1 → Ls k1 k0 a e ≤ N * x1 * y1 ∧ Ls k1 k0 (a + b) (e + f) ≤ N * x1 * (y1 + y0) ∧ Ls k1 k0 (a + c) (e + g) ≤ N * (x1 + x0) * y1 ∧ Ls k1 k0 (a + b + c + d) (e + f + g + h) ≤ N * (x1 + x0) * (y1 + y0)
  bgn : bg = true → k1 ≤ N * x1 * y1 ∧ k0 ≤ N * x1 * y1 + 1 ∧ ∃ s, Bgn8 s a b c d e f g h
theorem Gd.of8 {P KM : Nat} {a b c d e f g h : Int} {m0 m1 : Nat} {bg : Bool} {x y : R} {k1 k0 x1 x0 y1 y0 N ν β γ : Nat} (hx : Gd P KM x (decide (0 < m0)) x1 x0 β) (hy : Gd P KM y (decide (0 < m1)) y1 y0 γ) (hN : N < 2 ^ ν) (q : G8 a b c d e f g h m0 m1 bg k1 k0 x1 x0 y1 y0 N) : Gd P KM (.eight a b c d e f g h m0 m1 bg x y) bg k1 k0 (β + γ + ν + 3) :=
  .eight hx hy hN q.n1 q.m01 q.m10 q.p1 q.p0 q.fst q.nb q.z0 q.z1 q.on q.bgn
theorem G8.tell {a b c d e f g h q : Int} {m0 m1 : Nat} {bg : Bool} {k1 k0 x1 x0 y1 y0 N : Nat} (hG : G8 a b c d e f g h m0 m1 bg k1 k0 x1 x0 y1 y0 N) (hs : sure8 m0 m1 a b c d e f g h = some q) :
    (bg = true → 1 ≤ q) ∧ G8 e f g h (a - q * e) (b - q * f) (c - q * g) (d - q * h) m0 m1 true (gs bg k1 k0 q).1 (gs bg k1 k0 q).2 x1 x0 y1 y0 N ∧
      (bg = true → e.natAbs + (a - q * e).natAbs + (e + f).natAbs + (a - q * e + (b - q * f)).natAbs + (e + g).natAbs + (a - q * e + (c - q * g)).natAbs + (e + f + g + h).natAbs + (a - q * e + (b - q * f) + (c - q * g) + (d - q * h)).natAbs <
        a.natAbs + e.natAbs + (a + b).natAbs + (e + f).natAbs + (a + c).natAbs + (e + g).natAbs + (a + b + c + d).natAbs + (e + f + g + h).natAbs) := by
  obtain ⟨p1, p0, n1, m01, m10, fst, nb, z0, z1, on, bgn⟩ := hG
  unfold sure8 at hs
  split at hs
  · rename_i hm
    obtain ⟨⟨s, hs', hp⟩, hrem, c', hc', eq⟩ := sure_rem hs
    have i1 : (a, e) ∈ [(a, e), (a + b, e + f), (a + c, e + g), (a + b + c + d, e + f + g + h)] := by simp
    have i2 : (a + b, e + f) ∈ [(a, e), (a + b, e + f), (a + c, e + g), (a + b + c + d, e + f + g + h)] := by simp
    have i3 : (a + c, e + g) ∈ [(a, e), (a + b, e + f), (a + c, e + g), (a + b + c + d, e + f + g + h)] := by simp
    have i4 : (a + b + c + d, e + f + g + h) ∈ [(a, e), (a + b, e + f), (a + c, e + g), (a + b + c + d, e + f + g + h)] := by simp
    obtain ⟨g1, g2, g3, g4⟩ := on hm.2
    have hq : bg = true → 1 ≤ q := fun hb => by
      obtain ⟨_, _, s, hb8⟩ := bgn hb
      rw [eq]
      have r0 := (hrem c' hc').b0
      simp only [List.mem_cons, List.not_mem_nil, or_false] at hc'
      rcases hc' with rfl | rfl | rfl | rfl
      · exact hb8.ii.floor hb8.sg r0
      · exact hb8.io.floor hb8.sg r0
      · exact hb8.oi.floor hb8.sg r0
      · exact hb8.oo.floor hb8.sg r0
    have r1 := hrem _ i1
    have r2 := hrem _ i2
    have r3 := hrem _ i3
    have r4 := hrem _ i4
    simp only at r1 r2 r3 r4
    have e2 : a + b - q * (e + f) = a - q * e + (b - q * f) := by grind
    have e3 : a + c - q * (e + g) = a - q * e + (c - q * g) := by grind
    have e4 : a + b + c + d - q * (e + f + g + h) = a - q * e + (b - q * f) + (c - q * g) + (d - q * h) := by grind
    refine ⟨hq, ?_, fun hb => ?_⟩
    rotate_left
    · have w1 := r1.lt (hq hb)
      have w2 := r2.lt (hq hb)
      have w3 := r3.lt (hq hb)
      have w4 := r4.lt (hq hb)
      rw [e2] at w2
      rw [e3] at w3
      rw [e4] at w4
      omega
    have l1 := Nat.le_trans (gs_rem fst hq r1) g1
    have l2 := Nat.le_trans (gs_rem fst hq r2) g2
    have l3 := Nat.le_trans (gs_rem fst hq r3) g3
    have l4 := Nat.le_trans (gs_rem fst hq r4) g4
    rw [e2] at l2
    rw [e3] at l3
    rw [e4] at l4
    obtain ⟨q1, q2⟩ := gs_pos p1 p0 hq
    obtain ⟨q3, q4⟩ := gs_k p1 p0 hq l1 r1.b0 (fun hb => (bgn hb).1)
    have b2 := r2.bgn hs' (hp _ i2)
    have b3 := r3.bgn hs' (hp _ i3)
    have b4 := r4.bgn hs' (hp _ i4)
    rw [e2] at b2
    rw [e3] at b3
    rw [e4] at b4
    exact ⟨q1, q2, n1, m01, m10, fun z => (by cases z), fun z => by omega, fun z => by omega, fun _ z => by omega, fun _ => ⟨l1, l2, l3, l4⟩, fun _ => ⟨q3, q4, s, hs', r1.bgn hs' (hp _ i1), b2, b3, b4⟩⟩
  · cases hs
/-- a part of the first chain -/
theorem G8.take0 {a b c d e f g h p : Int} {m0 m1 : Nat} {bg : Bool} {k1 k0 x1 x0 y1 y0 N : Nat} (hG : G8 a b c d e f g h m0 m1 bg k1 k0 x1 x0 y1 y0 N) (hm : ¬ m1 < m0) (hp : 0 < m0 → 1 ≤ p) (hx : m0 = 0 → x1 = 1 ∧ x0 = 4) :
    G8 (a * p + c) (b * p + d) a b (e * p + g) (f * p + h) e f (m0 + 1) m1 bg k1 k0 (gs (decide (0 < m0)) x1 x0 p).1 (gs (decide (0 < m0)) x1 x0 p).2 y1 y0 N := by
  obtain ⟨p1, p0, n1, m01, m10, fst, nb, z0, z1, on, bgn⟩ := hG
  have hmm : m0 = m1 := by omega
  by_cases z : m0 = 0
  · have zz : m1 = 0 := by omega
    obtain ⟨g1, g2, g3, g4⟩ := z0 z
    obtain ⟨e1, e2⟩ := hx z
    have hd : decide (0 < m0) = false := decide_eq_false (by omega)
    rw [hd]
    subst e1 e2
    obtain ⟨q1, q2⟩ := two_first (p := p) g1 g3
    obtain ⟨q3, q4⟩ := two_first (p := p) g2 g4
    exact ⟨p1, p0, n1, by omega, by omega, fst, nb, fun z => by omega, fun _ _ => ⟨q1, q3, q2, q4⟩, fun z => by omega, fun z => by rw [nb zz] at z; cases z⟩
  · have hp1 := hp (by omega)
    have hd : decide (0 < m0) = true := decide_eq_true (by omega)
    rw [hd]
    obtain ⟨u1, u2, u3⟩ := gs_up (x1 := x1) (x0 := x0) hp1
    rw [u1, u2]
    obtain ⟨g1, g2, g3, g4⟩ := on (by omega)
    rw [Nat.mul_right_comm] at g1 g2 g3 g4
    obtain ⟨q1, q2⟩ := two_in hp1 g1 g3
    have e4 : a + b + c + d = a + b + (c + d) := by grind
    have e5 : e + f + g + h = e + f + (g + h) := by grind
    rw [e4, e5] at g4
    obtain ⟨q3, q4⟩ := two_in hp1 g2 g4
    rw [Nat.mul_right_comm] at q1 q2 q3 q4
    have t1 : a * p + c + (b * p + d) = (a + b) * p + (c + d) := by grind
    have t2 : e * p + g + (f * p + h) = (e + f) * p + (g + h) := by grind
    have t3 : a * p + c + (b * p + d) + a + b = (a + b) * p + (c + d) + (a + b) := by grind
    have t4 : e * p + g + (f * p + h) + e + f = (e + f) * p + (g + h) + (e + f) := by grind
    refine ⟨p1, p0, n1, by omega, by omega, fst, fun z => by omega, fun z => by omega, fun _ z => by omega, fun _ => ⟨q1, by rw [t1, t2]; exact q3, q2, by rw [t3, t4]; exact q4⟩, fun z => ?_⟩
    obtain ⟨b1, b2, s, b3⟩ := bgn z
    have := Nat.mul_le_mul_right y1 (Nat.mul_le_mul_left N u3)
    have w1 : a * p + c = a * (p - 1) + (a + c) := by grind
    have w2 : e * p + g = e * (p - 1) + (e + g) := by grind
    have w3 : a * p + c + a = a * p + (a + c) := by grind
    have w4 : e * p + g + e = e * p + (e + g) := by grind
    have w5 : (a + b) * p + (c + d) = (a + b) * (p - 1) + (a + b + c + d) := by grind
    have w6 : (e + f) * p + (g + h) = (e + f) * (p - 1) + (e + f + g + h) := by grind
    have w7 : (a + b) * p + (c + d) + (a + b) = (a + b) * p + (a + b + c + d) := by grind
    have w8 : (e + f) * p + (g + h) + (e + f) = (e + f) * p + (e + f + g + h) := by grind
    refine ⟨by omega, by omega, s, b3.sg, ?_, ?_, ?_, ?_⟩
    · rw [w1, w2]; exact Bgn.muladd (by omega) b3.ii b3.oi
    · rw [t1, t2, w5, w6]; exact Bgn.muladd (by omega) b3.io b3.oo
    · rw [w3, w4]; exact Bgn.muladd (by omega) b3.ii b3.oi
    · rw [t3, t4, w7, w8]; exact Bgn.muladd (by omega) b3.io b3.oo
/-- .. of the second one -/
theorem G8.take1 {a b c d e f g h p : Int} {m0 m1 : Nat} {bg : Bool} {k1 k0 x1 x0 y1 y0 N : Nat} (hG : G8 a b c d e f g h m0 m1 bg k1 k0 x1 x0 y1 y0 N) (hm : m1 < m0) (hp : 0 < m1 → 1 ≤ p) (hx : m1 = 0 → y1 = 1 ∧ y0 = 4) :
    G8 (a * p + b) a (c * p + d) c (e * p + f) e (g * p + h) g m0 (m1 + 1) bg k1 k0 x1 x0 (gs (decide (0 < m1)) y1 y0 p).1 (gs (decide (0 < m1)) y1 y0 p).2 N := by
  obtain ⟨p1, p0, n1, m01, m10, fst, nb, z0, z1, on, bgn⟩ := hG
  by_cases z : m1 = 0
  · obtain ⟨g1, g2, g3, g4⟩ := z1 (by omega) z
    obtain ⟨e1, e2⟩ := hx z
    have hd : decide (0 < m1) = false := decide_eq_false (by omega)
    rw [hd]
    subst e1 e2
    obtain ⟨q1, q2⟩ := two_first (p := p) g1 g2
    obtain ⟨q3, q4⟩ := two_first (p := p) g3 g4
    have t1 : a * p + b + (c * p + d) = (a + c) * p + (b + d) := by grind
    have t2 : e * p + f + (g * p + h) = (e + g) * p + (f + h) := by grind
    have t3 : a * p + b + a + (c * p + d) + c = (a + c) * p + (b + d) + (a + c) := by grind
    have t4 : e * p + f + e + (g * p + h) + g = (e + g) * p + (f + h) + (e + g) := by grind
    exact ⟨p1, p0, n1, by omega, by omega, fst, fun z => by omega, fun z => by omega, fun _ z => by omega, fun _ => ⟨q1, q2, by rw [t1, t2]; exact q3, by rw [t3, t4]; exact q4⟩, fun z' => by rw [nb z] at z'; cases z'⟩
  · have hp1 := hp (by omega)
    have hd : decide (0 < m1) = true := decide_eq_true (by omega)
    rw [hd]
    obtain ⟨u1, u2, u3⟩ := gs_up (x1 := y1) (x0 := y0) hp1
    rw [u1, u2]
    obtain ⟨g1, g2, g3, g4⟩ := on (by omega)
    obtain ⟨q1, q2⟩ := two_in hp1 g1 g2
    have e4 : a + b + c + d = a + c + (b + d) := by grind
    have e5 : e + f + g + h = e + g + (f + h) := by grind
    rw [e4, e5] at g4
    obtain ⟨q3, q4⟩ := two_in hp1 g3 g4
    have t1 : a * p + b + (c * p + d) = (a + c) * p + (b + d) := by grind
    have t2 : e * p + f + (g * p + h) = (e + g) * p + (f + h) := by grind
    have t3 : a * p + b + a + (c * p + d) + c = (a + c) * p + (b + d) + (a + c) := by grind
    have t4 : e * p + f + e + (g * p + h) + g = (e + g) * p + (f + h) + (e + g) := by grind
    refine ⟨p1, p0, n1, by omega, by omega, fst, fun z => by omega, fun z => by omega, fun _ z => by omega, fun _ => ⟨q1, q2, by rw [t1, t2]; exact q3, by rw [t3, t4]; exact q4⟩, fun z => ?_⟩
    obtain ⟨b1, b2, s, b3⟩ := bgn z
    have := Nat.mul_le_mul_left (N * x1) u3
    have w1 : a * p + b = a * (p - 1) + (a + b) := by grind
    have w2 : e * p + f = e * (p - 1) + (e + f) := by grind
    have w3 : a * p + b + a = a * p + (a + b) := by grind
    have w4 : e * p + f + e = e * p + (e + f) := by grind
    have w5 : (a + c) * p + (b + d) = (a + c) * (p - 1) + (a + b + c + d) := by grind
    have w6 : (e + g) * p + (f + h) = (e + g) * (p - 1) + (e + f + g + h) := by grind
    have w7 : (a + c) * p + (b + d) + (a + c) = (a + c) * p + (a + b + c + d) := by grind
    have w8 : (e + g) * p + (f + h) + (e + g) = (e + g) * p + (e + f + g + h) := by grind
    refine ⟨by omega, by omega, s, b3.sg, ?_, ?_, ?_, ?_⟩
    · rw [w1, w2]; exact Bgn.muladd (by omega) b3.ii b3.io
    · rw [w3, w4]; exact Bgn.muladd (by omega) b3.ii b3.io
    · rw [t1, t2, w5, w6]; exact Bgn.muladd (by omega) b3.oi b3.oo
    · rw [t3, t4, w7, w8]; exact Bgn.muladd (by omega) b3.oi b3.oo
end PL
namespace PL
/-- r, asked with purse m and again with what is left, goes on to its end -/
inductive Tt (P KM : Nat) : R → Bool → Nat → Nat → Nat → Nat → Prop
  | part {n r r' bg k1 k0 β q} {m m' : Nat} : Told n r m r' m' (.part q) → (bg = true → 1 ≤ q) → Gd P KM r' true (gs bg k1 k0 q).1 (gs bg k1 k0 q).2 β → Tt P KM r' true (gs bg k1 k0 q).1 (gs bg k1 k0 q).2 β m' → r'.tk + m' = r.tk + m → Tt P KM r bg k1 k0 β m
  | waits {n r r' bg k1 k0 β} {m : Nat} : Told n r m r' 0 .waits → Gd P KM r' bg k1 k0 β → r'.tk = r.tk + m → Tt P KM r bg k1 k0 β m
  | fin {n r r' bg k1 k0 β} {m m' : Nat} : bg = true → Told n r m r' m' .fin → Gd P KM r' bg k1 k0 β → r'.tk + m' = r.tk + m → Tt P KM r bg k1 k0 β m
  | none {n r r' bg k1 k0 β} {m m' : Nat} : bg = false → Told n r m r' m' .none → Gd P KM r' bg k1 k0 β → r'.tk + m' = r.tk + m → Tt P KM r bg k1 k0 β m
section
variable {P KM : Nat}
theorem Tt.lift {r r0 : R} {bg : Bool} {k1 k0 β m m0 : Nat} (h : Tt P KM r bg k1 k0 β m) (ht : ∀ n r' (m' : Nat) ans, Told n r m r' m' ans → ∃ n', Told n' r0 m0 r' m' ans) (hk : r.tk + m = r0.tk + m0) : Tt P KM r0 bg k1 k0 β m0 := by
  cases h with
  | part h1 h2 h3 h4 h5 =>
    obtain ⟨n', h1'⟩ := ht _ _ _ _ h1
    exact .part h1' h2 h3 h4 (by omega)
  | waits h1 h2 h3 =>
    obtain ⟨n', h1'⟩ := ht _ _ 0 _ h1
    exact .waits h1' h2 (by omega)
  | fin h0 h1 h2 h3 =>
    obtain ⟨n', h1'⟩ := ht _ _ _ _ h1
    exact .fin h0 h1' h2 (by omega)
  | none h0 h1 h2 h3 =>
    obtain ⟨n', h1'⟩ := ht _ _ _ _ h1
    exact .none h0 h1' h2 (by omega)
/-- a plain fraction's next part -/
structure Fx (t b : Int) (bg : Bool) (k1 k0 E : Nat) : Prop where
  sz : 2 * Ls k1 k0 t b + 8 ≤ E
  p1 : 1 ≤ k1
  p0 : 1 ≤ k0
  ks : k1 + k0 ≤ E
  fst : bg = false → k1 = 1 ∧ k0 = 4
  bgn : bg = true → ∃ s, Sg s ∧ Bgn s t b
theorem Fx.rem {t b : Int} (b0 : b ≠ 0) : Rem t b (t.fdiv b) := by
  refine ⟨b0, ?_, ?_⟩ <;> rw [sub_fdiv]
  · rcases Int.lt_or_gt_of_ne b0 with z | z
    · exact Int.mul_nonneg_of_nonpos_of_nonpos (fmod_neg' z).2 (by omega)
    · exact Int.mul_nonneg (Int.fmod_nonneg_of_pos _ z) (by omega)
  · rcases Int.lt_or_gt_of_ne b0 with z | z
    · exact Int.mul_le_mul_of_nonpos_right (by have := (fmod_neg' (t := t) z).1; omega) (by omega)
    · exact Int.mul_le_mul_of_nonneg_right (by have := Int.fmod_lt_of_pos t z; omega) (by omega)
theorem Fx.next {t b : Int} {bg : Bool} {k1 k0 E : Nat} (h : Fx t b bg k1 k0 E) (b0 : b ≠ 0) : (bg = true → 1 ≤ t.fdiv b) ∧ Fx b (t - t.fdiv b * b) true (gs bg k1 k0 (t.fdiv b)).1 (gs bg k1 k0 (t.fdiv b)).2 E := by
  obtain ⟨sz, p1, p0, ks, fst, bgn⟩ := h
  have rm := Fx.rem (t := t) b0
  have hq : bg = true → 1 ≤ t.fdiv b := fun z => by
    obtain ⟨s, hs, hb⟩ := bgn z
    exact hb.floor hs b0
  have l1 := gs_rem fst hq rm
  have hk : bg = true → k1 ≤ Ls k1 k0 t b := fun z => by
    obtain ⟨s, hs, hb⟩ := bgn z
    have h3 := hb.ps
    have : t ≠ 0 := fun e => by rw [e, Int.mul_zero] at h3; omega
    unfold Ls
    have := Nat.le_mul_of_pos_right k1 (show 0 < t.natAbs by omega)
    omega
  obtain ⟨q1, q2⟩ := gs_k p1 p0 hq l1 b0 hk
  obtain ⟨q3, q4⟩ := gs_pos p1 p0 hq
  refine ⟨hq, by omega, q3, q4, by omega, (fun z => by cases z), fun _ => ?_⟩
  obtain ⟨s, hs, hp⟩ := sg_of b0
  exact ⟨s, hs, rm.bgn hs hp⟩
theorem Fx.sm {t b : Int} {bg : Bool} {k1 k0 e : Nat} (h : Fx t b bg k1 k0 (2 ^ e)) (he : e < 290000) : Sm t ∧ Sm b := by
  have := Ls_top (Nat.le_refl _) h.p1 h.p0 (t := t) (b := b)
  have := h.sz
  exact ⟨sm_of (e := e) (by omega) he, sm_of (e := e) (by omega) he⟩
theorem Gd.ofX {x : R} {t b : Int} {bg : Bool} {k1 k0 β : Nat} (h : Fx t b bg k1 k0 (2 ^ (P * x.tk + β))) (h3 : 3 ≤ β) : Gd P KM (.fourX x t b bg) bg k1 k0 β := .fourX h.sz h3 h.p1 h.p0 h.ks h.fst h.bgn
theorem Gd.of8X {x y : R} {t b : Int} {bg : Bool} {k1 k0 β : Nat} (h : Fx t b bg k1 k0 (2 ^ (P * (x.tk + y.tk) + β))) (h3 : 3 ≤ β) : Gd P KM (.eightX x y t b bg) bg k1 k0 β := .eightX h.sz h3 h.p1 h.p0 h.ks h.fst h.bgn
theorem Gd.ofF {t b : Int} {bg : Bool} {k1 k0 β : Nat} (h : Fx t b bg k1 k0 (2 ^ β)) : Gd P KM (.fixed t b bg) bg k1 k0 β := .fixed h.sz h.p1 h.p0 h.ks h.fst h.bgn
theorem fixed_tt {β m : Nat} (hb : β < 290000) : ∀ (n : Nat) (t b : Int) (bg : Bool) (k1 k0 : Nat), b.natAbs ≤ n → Fx t b bg k1 k0 (2 ^ β) → Tt P KM (.fixed t b bg) bg k1 k0 β m
  | n, t, b, bg, k1, k0, hn, h => by
    by_cases b0 : b = 0
    · subst b0
      cases bg with
      | true => exact .fin (m' := m) rfl .fxEnd (.ofF h) rfl
      | false => exact .none (m' := m) rfl .fxNo (.ofF h) rfl
    · obtain ⟨hq, h'⟩ := h.next b0
      obtain ⟨s1, s2⟩ := h.sm hb
      match n, hn with
      | 0, hn => omega
      | n + 1, hn => exact .part (m' := m) (.fxPart b0 s1 s2) hq (.ofF h') (fixed_tt hb n _ _ _ _ _ (by have := fmod_lt (t := t) b0; rw [sub_fdiv]; omega) h') rfl
theorem fourX_tt {x : R} {β m : Nat} (h3 : 3 ≤ β) (hb : P * x.tk + β < 290000) : ∀ (n : Nat) (t b : Int) (bg : Bool) (k1 k0 : Nat), b.natAbs ≤ n → Fx t b bg k1 k0 (2 ^ (P * x.tk + β)) → Tt P KM (.fourX x t b bg) bg k1 k0 β m
  | n, t, b, bg, k1, k0, hn, h => by
    by_cases b0 : b = 0
    · subst b0
      cases bg with
      | true => exact .fin (m' := m) rfl (.fxX .fxEnd) (.ofX h h3) rfl
      | false => exact .none (m' := m) rfl (.fxX .fxNo) (.ofX h h3) rfl
    · obtain ⟨hq, h'⟩ := h.next b0
      obtain ⟨s1, s2⟩ := h.sm hb
      match n, hn with
      | 0, hn => omega
      | n + 1, hn => exact .part (m' := m) (.fxX (.fxPart b0 s1 s2)) hq (.ofX h' h3) (fourX_tt h3 hb n _ _ _ _ _ (by have := fmod_lt (t := t) b0; rw [sub_fdiv]; omega) h') rfl
theorem eightX_tt {x y : R} {β m : Nat} (h3 : 3 ≤ β) (hb : P * (x.tk + y.tk) + β < 290000) : ∀ (n : Nat) (t b : Int) (bg : Bool) (k1 k0 : Nat), b.natAbs ≤ n → Fx t b bg k1 k0 (2 ^ (P * (x.tk + y.tk) + β)) → Tt P KM (.eightX x y t b bg) bg k1 k0 β m
  | n, t, b, bg, k1, k0, hn, h => by
    by_cases b0 : b = 0
    · subst b0
      cases bg with
      | true => exact .fin (m' := m) rfl (.exX .fxEnd) (.of8X h h3) rfl
      | false => exact .none (m' := m) rfl (.exX .fxNo) (.of8X h h3) rfl
    · obtain ⟨hq, h'⟩ := h.next b0
      obtain ⟨s1, s2⟩ := h.sm hb
      match n, hn with
      | 0, hn => omega
      | n + 1, hn => exact .part (m' := m) (.exX (.fxPart b0 s1 s2)) hq (.of8X h' h3) (eightX_tt h3 hb n _ _ _ _ _ (by have := fmod_lt (t := t) b0; rw [sub_fdiv]; omega) h') rfl
theorem leaf_tt (hP : P ≤ 289900) (hK : KM < 2 ^ 50) : ∀ (m : Nat) (r : R) (bg : Bool) (k1 k0 : Nat), LfI P KM r → r.tk + m < KM → bg = decide (0 < r.tk) → 1 ≤ k1 → 1 ≤ k0 → k1 + k0 ≤ 2 ^ (P * r.tk + 3) → (bg = false → k1 = 1 ∧ k0 = 4) → Tt P KM r bg k1 k0 3 m := by
  intro m
  induction m with
  | zero =>
    intro r bg k1 k0 h hk hb h1 h0 hs hf
    rcases leaf_step hP h (by omega) hK with ⟨g1, g2⟩ | ⟨g1, _⟩
    · exact .fin (m' := 0) (by rw [hb]; exact decide_eq_true g1) (g2 _) (.leaf h hb h1 h0 hs hf) rfl
    · exact .waits g1 (.leaf h hb h1 h0 hs hf) rfl
  | succ m ih =>
    intro r bg k1 k0 h hk hb h1 h0 hs hf
    rcases leaf_step hP h (by omega) hK with ⟨g1, g2⟩ | ⟨_, q, r', g1, g2, g3, g4, g5⟩
    · exact .fin (m' := m + 1) (by rw [hb]; exact decide_eq_true g1) (g2 _) (.leaf h hb h1 h0 hs hf) rfl
    · have hq : bg = true → 1 ≤ q := fun z => g5 (by rw [hb] at z; exact of_decide_eq_true z)
      obtain ⟨p1, p0⟩ := gs_pos h1 h0 hq
      have hb' : true = decide (0 < r'.tk) := (decide_eq_true (by omega)).symm
      have hs' : (gs bg k1 k0 q).1 + (gs bg k1 k0 q).2 ≤ 2 ^ (P * r'.tk + 3) := by
        have e : 2 ^ (P * r'.tk + 3) = 2 ^ P * 2 ^ (P * r.tk + 3) := by rw [g3, Nat.mul_add, Nat.mul_one, ← Nat.pow_add]; congr 1; omega
        rw [e]
        cases bg with
        | true =>
          obtain ⟨u1, u2, u3⟩ := gs_up (x1 := k1) (x0 := k0) (hq rfl)
          rw [u1, u2]
          have e1 : (q.toNat + 1) * (k1 + k0) ≤ 2 ^ P * 2 ^ (P * r.tk + 3) := Nat.mul_le_mul (by omega) hs
          have e2 : (q.toNat + 1) * (k1 + k0) = k1 * q.toNat + k0 + k1 + q.toNat * k0 := by grind
          omega
        | false =>
          have e1 : (q.natAbs + 1) * 8 ≤ 2 ^ P * 2 ^ (P * r.tk + 3) := Nat.mul_le_mul (by omega) (pow_le3 (by omega))
          unfold gs
          simp only [Bool.false_eq_true, if_false]
          split <;> simp only <;> omega
      have hm : ((m + 1 : Nat) : Int) - 1 = (m : Int) := by omega
      have ht := g1 ((m + 1 : Nat) : Int) (by omega)
      rw [hm] at ht
      exact .part ht hq (.leaf g2 hb' p1 p0 hs' (fun z => by cases z)) (ih r' true _ _ g2 (by omega) hb' p1 p0 hs' fun z => by cases z) (by omega)
/-- all fours over one inner reader, if those that are not sure -/
theorem four_close {x : R} {rdy : Bool} {x1 x0 N ν β m : Nat} (hx : Gd P KM x rdy x1 x0 β) (hN : N < 2 ^ ν) (hB : P * x.tk + (β + ν + 3) < 290000)
    (base : ∀ a b c d bg k1 k0, G4 a b c d rdy bg k1 k0 x1 x0 N → sure4 rdy a b c d = none → Tt P KM (.four a b c d rdy bg x) bg k1 k0 (β + ν + 3) m) :
    ∀ a b c d bg k1 k0, G4 a b c d rdy bg k1 k0 x1 x0 N → Tt P KM (.four a b c d rdy bg x) bg k1 k0 (β + ν + 3) m := by
  have on : ∀ (n : Nat) a b c d k1 k0, a.natAbs + c.natAbs + (a + b).natAbs + (c + d).natAbs ≤ n → G4 a b c d rdy true k1 k0 x1 x0 N → Tt P KM (.four a b c d rdy true x) true k1 k0 (β + ν + 3) m := by
    intro n
    induction n with
    | zero =>
      intro a b c d k1 k0 hn g
      exfalso
      have hd := g.det
      have : a = 0 := by omega
      have : c = 0 := by omega
      subst_vars
      simp at hd
    | succ n ih =>
      intro a b c d k1 k0 hn g
      cases hs : sure4 rdy a b c d with
      | none => exact base _ _ _ _ _ _ _ g hs
      | some q =>
        obtain ⟨s1, s2, s3, s4⟩ := (Gd.of4 hx hN g).sm4 hB
        obtain ⟨hq, g', hl⟩ := g.tell hs
        refine .part (m' := m) (.foTell s1 s2 s3 s4 hs) hq (.of4 hx hN g') (ih _ _ _ _ _ _ ?_ g') rfl
        have := hl rfl
        omega
  intro a b c d bg k1 k0 g
  cases bg with
  | true => exact on _ _ _ _ _ _ _ (Nat.le_refl _) g
  | false =>
    cases hs : sure4 rdy a b c d with
    | none => exact base _ _ _ _ _ _ _ g hs
    | some q =>
      obtain ⟨s1, s2, s3, s4⟩ := (Gd.of4 hx hN g).sm4 hB
      obtain ⟨hq, g', hl⟩ := g.tell hs
      exact .part (m' := m) (.foTell s1 s2 s3 s4 hs) hq (.of4 hx hN g') (on _ _ _ _ _ _ _ (Nat.le_refl _) g') rfl
theorem nx_fx {k1 k0 N ν x e : Nat} {t b : Int} (h : N < 2 ^ ν) (hx : x ≤ 2 ^ e) (hl : Ls k1 k0 t b ≤ N * x) (he : 3 ≤ e) : 2 * Ls k1 k0 t b + 8 ≤ 2 ^ (e + ν + 3) := by
  have := nx_le h hx
  have := pow_le3 (n := e + ν) (by omega)
  have e1 : 2 ^ (e + ν + 3) = 2 ^ (e + ν) * 8 := by rw [Nat.pow_add]
  omega
theorem four_tt {x : R} {rdy : Bool} {x1 x0 β m : Nat} (ht : Tt P KM x rdy x1 x0 β m) : ∀ {N ν : Nat}, Gd P KM x rdy x1 x0 β → N < 2 ^ ν → P * (x.tk + m) + (β + ν + 3) < 290000 →
    ∀ a b c d bg k1 k0, G4 a b c d rdy bg k1 k0 x1 x0 N → Tt P KM (.four a b c d rdy bg x) bg k1 k0 (β + ν + 3) m := by
  induction ht with
  | @part n r r' rdy k1 k0 β q m m' h1 h2 h3 h4 h5 ih =>
    intro N ν hx hN hB
    have hle : P * r.tk ≤ P * (r.tk + m) := Nat.mul_le_mul_left _ (by omega)
    refine four_close hx hN (by omega) fun a b c d bg u1 u0 g hs => ?_
    obtain ⟨s1, s2, s3, s4⟩ := (Gd.of4 hx hN g).sm4 (by omega)
    have hle' : P * r'.tk ≤ P * (r.tk + m) := Nat.mul_le_mul_left _ (by omega)
    have hq : Sm q := by
      have hb := h3.bd
      refine sm_of (e := P * r'.tk + β) ?_ (by omega)
      have : q.natAbs ≤ (gs rdy k1 k0 q).1 := by
        unfold gs
        cases rdy with
        | true =>
          simp only [if_true]
          have := h2 rfl
          have hx1 := hx.bd
          have := Nat.le_mul_of_pos_left q.toNat (show 0 < k1 by omega)
          omega
        | false => simp only [Bool.false_eq_true, if_false]; split <;> simp only <;> omega
      omega
    have t := ih h3 hN (by rw [h5]; omega) _ _ _ _ _ _ _ (g.take (p := q) h2 hx.bd.2.2.2)
    exact t.lift (fun n' r'' m'' ans h => ⟨_, .foIn s1 s2 s3 s4 hs h1 hq h⟩) (by simp only [R.tk]; omega)
  | @waits n r r' rdy k1 k0 β m h1 h2 h3 =>
    intro N ν hx hN hB
    have hle : P * r.tk ≤ P * (r.tk + m) := Nat.mul_le_mul_left _ (by omega)
    refine four_close hx hN (by omega) fun a b c d bg u1 u0 g hs => ?_
    obtain ⟨s1, s2, s3, s4⟩ := (Gd.of4 hx hN g).sm4 (by omega)
    exact .waits (.foWait s1 s2 s3 s4 hs h1) (.of4 h2 hN g) (by simp only [R.tk]; omega)
  | @fin n r r' rdy k1 k0 β m m' h0 h1 h2 h3 =>
    intro N ν hx hN hB
    have hle : P * r.tk ≤ P * (r.tk + m) := Nat.mul_le_mul_left _ (by omega)
    refine four_close hx hN (by omega) fun a b c d bg u1 u0 g hs => ?_
    obtain ⟨s1, s2, s3, s4⟩ := (Gd.of4 hx hN g).sm4 (by omega)
    have hle' : P * r'.tk ≤ P * (r.tk + m) := Nat.mul_le_mul_left _ (by omega)
    have e1 : P * r'.tk + (β + ν + 3) = P * r'.tk + β + ν + 3 := by omega
    have h3' := h2.three
    have hb2 := h2.bd.1
    have fx : Fx a c bg u1 u0 (2 ^ (P * r'.tk + (β + ν + 3))) := by
      have hGb := (Gd.of4 h2 hN g).bd.1
      refine ⟨?_, g.p1, g.p0, hGb, g.fst, fun z => ?_⟩
      · rw [e1]
        exact nx_fx hN (x := k1) (by omega) (g.on h0).1 (by omega)
      · obtain ⟨_, _, s, hb⟩ := g.bgn z
        exact ⟨s, hb.sg, hb.i⟩
    have t := fourX_tt (KM := KM) (x := r') (m := m') (by omega) (by omega) _ a c bg u1 u0 (Nat.le_refl _) fx
    refine t.lift (fun n' r'' m'' ans h => ?_) (by simp only [R.tk]; omega)
    cases h with
    | fxX h => exact ⟨_, .foEnd s1 s2 s3 s4 hs h1 h⟩
  | @none n r r' rdy k1 k0 β m m' h0 h1 h2 h3 =>
    intro N ν hx hN hB
    have hle : P * r.tk ≤ P * (r.tk + m) := Nat.mul_le_mul_left _ (by omega)
    refine four_close hx hN (by omega) fun a b c d bg u1 u0 g hs => ?_
    obtain ⟨s1, s2, s3, s4⟩ := (Gd.of4 hx hN g).sm4 (by omega)
    exact .none (m' := m') (g.off h0).1 (.foNo s1 s2 s3 s4 hs h1) (.of4 h2 hN g) (by simp only [R.tk]; omega)
theorem Told.tk_le {n : Nat} {r r' : R} {m m' : Int} {ans : Ans} (h : Told n r m r' m' ans) : r.tk ≤ r'.tk := by
  induction h with
  | @etWait a b c d e f g h m0 m1 bg x y m w i z m' _ _ _ _ ih => cases w <;> simp only [cond, R.tk] at * <;> omega
  | @etNo a b c d e f g h m0 m1 bg x y m w i z m' _ _ _ _ ih => cases w <;> simp only [cond, R.tk] at * <;> omega
  | @etFour a b c d e f g h m0 m1 bg x y m w i z m2 n fr m' ans _ _ _ _ _ _ ih1 ih2 => cases w <;> simp only [cond, R.tk] at * <;> omega
  | @etFix a b c d e f g h m0 m1 bg x y m w i z m2 t0 b0 t' b' g' m' ans _ _ _ _ _ _ _ ih1 ih2 => cases w <;> simp only [cond, R.tk] at * <;> omega
  | _ => simp only [R.tk] at * <;> omega
/-- one asking, and what holds behind a part -/
inductive On (P KM : Nat) (S : R → Nat → Nat → Nat → Prop) : R → Bool → Nat → Nat → Nat → Nat → Prop
  | part {n r r' bg k1 k0 β q} {m m' : Nat} : Told n r m r' m' (.part q) → (bg = true → 1 ≤ q) → Gd P KM r' true (gs bg k1 k0 q).1 (gs bg k1 k0 q).2 β → S r' (gs bg k1 k0 q).1 (gs bg k1 k0 q).2 m' → r'.tk + m' = r.tk + m → On P KM S r bg k1 k0 β m
  | waits {n r r' bg k1 k0 β} {m : Nat} : Told n r m r' 0 .waits → Gd P KM r' bg k1 k0 β → r'.tk = r.tk + m → On P KM S r bg k1 k0 β m
  | fin {n r r' bg k1 k0 β} {m m' : Nat} : bg = true → Told n r m r' m' .fin → Gd P KM r' bg k1 k0 β → r'.tk + m' = r.tk + m → On P KM S r bg k1 k0 β m
  | none {n r r' bg k1 k0 β} {m m' : Nat} : bg = false → Told n r m r' m' .none → Gd P KM r' bg k1 k0 β → r'.tk + m' = r.tk + m → On P KM S r bg k1 k0 β m
theorem Tt.rec' {β : Nat} {C : R → Bool → Nat → Nat → Nat → Prop} (h : ∀ r bg k1 k0 m, Tt P KM r bg k1 k0 β m → On P KM (fun r' a b m' => Tt P KM r' true a b β m' ∧ C r' true a b m') r bg k1 k0 β m → C r bg k1 k0 m) {r : R} {bg : Bool} {k1 k0 m : Nat} (t : Tt P KM r bg k1 k0 β m) : C r bg k1 k0 m := by
  induction t with
  | part h1 h2 h3 h4 h5 ih => exact h _ _ _ _ _ (.part h1 h2 h3 h4 h5) (.part h1 h2 h3 ⟨h4, ih h⟩ h5)
  | waits h1 h2 h3 => exact h _ _ _ _ _ (.waits h1 h2 h3) (.waits h1 h2 h3)
  | fin h0 h1 h2 h3 => exact h _ _ _ _ _ (.fin h0 h1 h2 h3) (.fin h0 h1 h2 h3)
  | none h0 h1 h2 h3 => exact h _ _ _ _ _ (.none h0 h1 h2 h3) (.none h0 h1 h2 h3)
theorem eight_close {x y : R} {m0 m1 : Nat} {x1 x0 y1 y0 N ν β γ m : Nat} (hx : Gd P KM x (decide (0 < m0)) x1 x0 β) (hy : Gd P KM y (decide (0 < m1)) y1 y0 γ) (hN : N < 2 ^ ν) (hB : P * (x.tk + y.tk) + (β + γ + ν + 3) < 290000)
    (base : ∀ a b c d e f g h bg k1 k0, G8 a b c d e f g h m0 m1 bg k1 k0 x1 x0 y1 y0 N → sure8 m0 m1 a b c d e f g h = none → Tt P KM (.eight a b c d e f g h m0 m1 bg x y) bg k1 k0 (β + γ + ν + 3) m) :
    ∀ a b c d e f g h bg k1 k0, G8 a b c d e f g h m0 m1 bg k1 k0 x1 x0 y1 y0 N → Tt P KM (.eight a b c d e f g h m0 m1 bg x y) bg k1 k0 (β + γ + ν + 3) m := by
  have on : ∀ (n : Nat) a b c d e f g h k1 k0, a.natAbs + e.natAbs + (a + b).natAbs + (e + f).natAbs + (a + c).natAbs + (e + g).natAbs + (a + b + c + d).natAbs + (e + f + g + h).natAbs < n → G8 a b c d e f g h m0 m1 true k1 k0 x1 x0 y1 y0 N → Tt P KM (.eight a b c d e f g h m0 m1 true x y) true k1 k0 (β + γ + ν + 3) m := by
    intro n
    induction n with
    | zero => intro a b c d e f g h k1 k0 hn; omega
    | succ n ih =>
      intro a b c d e f g h k1 k0 hn q8
      cases hs : sure8 m0 m1 a b c d e f g h with
      | none => exact base _ _ _ _ _ _ _ _ _ _ _ q8 hs
      | some q =>
        have s8 := (Gd.of8 hx hy hN q8).sm8 hB
        obtain ⟨hq, g', hl⟩ := q8.tell hs
        refine .part (m' := m) (.etTell s8 hs) hq (.of8 hx hy hN g') (ih _ _ _ _ _ _ _ _ _ _ ?_ g') rfl
        have := hl rfl
        omega
  intro a b c d e f g h bg k1 k0 q8
  cases bg with
  | true => exact on _ _ _ _ _ _ _ _ _ _ _ (Nat.lt_succ_self _) q8
  | false =>
    cases hs : sure8 m0 m1 a b c d e f g h with
    | none => exact base _ _ _ _ _ _ _ _ _ _ _ q8 hs
    | some q =>
      have s8 := (Gd.of8 hx hy hN q8).sm8 hB
      obtain ⟨hq, g', hl⟩ := q8.tell hs
      exact .part (m' := m) (.etTell s8 hs) hq (.of8 hx hy hN g') (on _ _ _ _ _ _ _ _ _ _ _ (Nat.lt_succ_self _) g') rfl
/-- the part that an inner reader told is small -/
theorem sm_part {r' : R} {bg : Bool} {k1 k0 β : Nat} {q : Int} (h3 : Gd P KM r' true (gs bg k1 k0 q).1 (gs bg k1 k0 q).2 β) (h2 : bg = true → 1 ≤ q) (h1 : 1 ≤ k1) (hB : P * r'.tk + β < 290000) : Sm q := by
  have hb := h3.bd
  refine sm_of (e := P * r'.tk + β) ?_ hB
  have : q.natAbs ≤ (gs bg k1 k0 q).1 := by
    unfold gs
    cases bg with
    | true =>
      simp only [if_true]
      have := h2 rfl
      have := Nat.le_mul_of_pos_left q.toNat (show 0 < k1 by omega)
      omega
    | false => simp only [Bool.false_eq_true, if_false]; split <;> simp only <;> omega
  omega
/-- what is left where the first chain ended, or the second one -/
theorem G8.left {a b c d e f g h : Int} {m0 m1 : Nat} {bg : Bool} {k1 k0 x1 x0 y1 y0 N : Nat} (w : Bool) (q : G8 a b c d e f g h m0 m1 bg k1 k0 x1 x0 y1 y0 N) (hm : 0 < m1) (hx : 1 ≤ x1) (hy : 1 ≤ y1) (hdet : a * cond w g f ≠ cond w c b * e) :
    G4 a (cond w c b) e (cond w g f) true bg k1 k0 (cond w x1 y1) (cond w x0 y0) (N * cond w y1 x1) := by
  obtain ⟨p1, p0, n1, m01, m10, fst, nb, z0, z1, on, bgn⟩ := q
  obtain ⟨g1, g2, g3, g4⟩ := on hm
  refine ⟨hdet, p1, p0, ?_, fst, fun z => (by cases z), fun _ => ?_, fun z => ?_⟩
  · cases w <;> exact Nat.mul_pos n1 (by assumption)
  · cases w with
    | true => simp only [cond]; rw [Nat.mul_right_comm, Nat.mul_right_comm N y1]; exact ⟨g1, g3⟩
    | false => simp only [cond]; exact ⟨g1, g2⟩
  · obtain ⟨b1, b2, s, b3⟩ := bgn z
    cases w with
    | true => simp only [cond]; rw [Nat.mul_right_comm]; exact ⟨b1, b2, s, b3.sg, b3.ii, b3.oi⟩
    | false => simp only [cond]; exact ⟨b1, b2, s, b3.sg, b3.ii, b3.io⟩
theorem eightF_tt {w : Bool} {dead : R} {β : Nat} (h3 : 3 ≤ β) {fr : R} {bg : Bool} {k1 k0 m : Nat} (hk : fr.kd = .four) (t : Tt P KM fr bg k1 k0 (P * dead.tk + β) m) : Tt P KM (.eightF w dead fr) bg k1 k0 β m := by
  refine Tt.rec' (C := fun fr bg k1 k0 m => fr.kd = .four → Tt P KM (.eightF w dead fr) bg k1 k0 β m) (fun r bg k1 k0 m _ o hk => ?_) t hk
  cases o with
  | part h1 h2 g3 h4 h5 => exact .part (.exF hk h1) h2 (.eightF (by rw [h1.kd]; exact hk) h3 g3) (h4.2 (by rw [h1.kd]; exact hk)) (by simp only [R.tk]; omega)
  | waits h1 h2 g3 => exact .waits (.exF hk h1) (.eightF (by rw [h1.kd]; exact hk) h3 h2) (by simp only [R.tk]; omega)
  | fin h0 h1 h2 g3 => exact .fin h0 (.exF hk h1) (.eightF (by rw [h1.kd]; exact hk) h3 h2) (by simp only [R.tk]; omega)
  | none h0 h1 h2 g3 => exact .none h0 (.exF hk h1) (.eightF (by rw [h1.kd]; exact hk) h3 h2) (by simp only [R.tk]; omega)
def E8 (P KM L : Nat) (x : R) (bgx : Bool) (x1 x0 β : Nat) (y : R) (bgy : Bool) (y1 y0 γ : Nat) (m : Nat) : Prop := ∀ N ν m0 m1, bgx = decide (0 < m0) → bgy = decide (0 < m1) → Gd P KM x bgx x1 x0 β → Gd P KM y bgy y1 y0 γ → x.lv ≤ L → y.lv ≤ L → N < 2 ^ ν → P * (x.tk + y.tk + m) + (β + γ + ν + 3) < 290000 → x.tk + y.tk + m < KM →
  ∀ a b c d e f g h bg k1 k0, G8 a b c d e f g h m0 m1 bg k1 k0 x1 x0 y1 y0 N → Tt P KM (.eight a b c d e f g h m0 m1 bg x y) bg k1 k0 (β + γ + ν + 3) m
/-- all readers so deep go on to their end -/
def TL (P KM L : Nat) : Prop := ∀ r bg k1 k0 β m, r.lv ≤ L → Gd P KM r bg k1 k0 β → P * (r.tk + m) + β < 290000 → r.tk + m < KM → Tt P KM r bg k1 k0 β m
theorem eight_left {L : Nat} (IH : TL P KM L) (w : Bool) {x y z : R} {m0 m1 m m' j : Nat} {x1 x0 y1 y0 N ν β γ : Nat} (hx : Gd P KM x (decide (0 < m0)) x1 x0 β) (hy : Gd P KM y (decide (0 < m1)) y1 y0 γ) (hN : N < 2 ^ ν) (hlx : x.lv ≤ L) (hly : y.lv ≤ L)
    (hB : P * (x.tk + y.tk + m) + (β + γ + ν + 3) < 290000) (hKM : x.tk + y.tk + m < KM) {a b c d e f g h : Int} {bg : Bool} {k1 k0 : Nat} (q8 : G8 a b c d e f g h m0 m1 bg k1 k0 x1 x0 y1 y0 N) (hs : sure8 m0 m1 a b c d e f g h = none)
    (hw : w = decide (m1 < m0)) (hm1 : 0 < m1) (ht : Told j (cond w y x) m z m' .fin) (hz : Gd P KM z true (cond w y1 x1) (cond w y0 x0) (cond w γ β)) (htk : z.tk + m' = (cond w y x).tk + m) : Tt P KM (.eight a b c d e f g h m0 m1 bg x y) bg k1 k0 (β + γ + ν + 3) m := by
  have s8 := (Gd.of8 hx hy hN q8).sm8 (Nat.lt_of_le_of_lt (Nat.add_le_add_right (Nat.mul_le_mul_left _ (by omega)) _) hB)
  have hle := ht.tk_le
  have hx1 := hx.bd.2.1
  have hy1 := hy.bd.2.1
  have hm0 : 0 < m0 := by have := q8.m01; omega
  have d0 : decide (0 < m0) = true := decide_eq_true hm0
  have d1 : decide (0 < m1) = true := decide_eq_true hm1
  rw [d0] at hx
  rw [d1] at hy
  have hzb := hz.bd.1
  by_cases hdet : a * cond w g f = cond w c b * e
  · -- a fraction
    obtain ⟨g1, g2, g3, g4⟩ := q8.on hm1
    obtain ⟨t0, b0, htb⟩ : ∃ t0 b0, (t0, b0) = (if a = 0 ∧ e = 0 then (cond w c b, cond w g f) else (a, e)) := ⟨_, _, rfl⟩
    have l0 : Ls k1 k0 t0 b0 ≤ N * (x1 + x0) * (y1 + y0) := by
      have q2 : N * x1 * (y1 + y0) ≤ N * (x1 + x0) * (y1 + y0) := Nat.mul_le_mul_right _ (Nat.mul_le_mul_left _ (by omega))
      have q3 : N * (x1 + x0) * y1 ≤ N * (x1 + x0) * (y1 + y0) := Nat.mul_le_mul_left _ (by omega)
      have q4 : N * x1 * y1 ≤ N * x1 * (y1 + y0) := Nat.mul_le_mul_left _ (by omega)
      split at htb
      · rename_i hz0
        obtain ⟨rfl, rfl⟩ := hz0
        cases w with
        | true =>
          simp only [cond, Prod.mk.injEq] at htb
          obtain ⟨rfl, rfl⟩ := htb
          rw [Int.zero_add, Int.zero_add] at g3
          omega
        | false =>
          simp only [cond, Prod.mk.injEq] at htb
          obtain ⟨rfl, rfl⟩ := htb
          rw [Int.zero_add, Int.zero_add] at g2
          omega
      · cases htb
        omega
    have hT : P * ((cond w x z).tk + (cond w z y).tk) + (β + γ + ν + 3) < 290000 := by
      refine Nat.lt_of_le_of_lt (Nat.add_le_add_right (Nat.mul_le_mul_left _ ?_) _) hB
      cases w <;> simp only [cond] at htk ⊢ <;> omega
    have hmono : 2 ^ (P * (x.tk + y.tk) + (β + γ + ν + 3)) ≤ 2 ^ (P * ((cond w x z).tk + (cond w z y).tk) + (β + γ + ν + 3)) := by
      refine Nat.pow_le_pow_right (by decide) (Nat.add_le_add_right (Nat.mul_le_mul_left _ ?_) _)
      cases w <;> simp only [cond] at hle ⊢ <;> omega
    have hsz : 2 * Ls k1 k0 t0 b0 + 8 ≤ 2 ^ (P * (x.tk + y.tk) + (β + γ + ν + 3)) := by
      have e1 : 2 ^ (P * (x.tk + y.tk) + (β + γ + ν + 3)) = 2 ^ (P * y.tk + γ + (P * x.tk + β + ν)) * 8 := by rw [Nat.mul_add, show P * x.tk + P * y.tk + (β + γ + ν + 3) = P * y.tk + γ + (P * x.tk + β + ν) + 3 by omega, Nat.pow_add]
      have q1 := nx_le hN (x := x1 + x0) (e := P * x.tk + β) hx.bd.1
      have q2 : N * (x1 + x0) * (y1 + y0) ≤ 2 ^ (P * y.tk + γ + (P * x.tk + β + ν)) := by
        rw [Nat.pow_add (m := P * y.tk + γ), Nat.mul_comm]
        exact Nat.mul_le_mul hy.bd.1 q1
      have e2 := hx.three
      have e3 := pow_le3 (n := P * y.tk + γ + (P * x.tk + β + ν)) (by omega)
      omega
    have fx : Fx t0 b0 bg k1 k0 (2 ^ (P * ((cond w x z).tk + (cond w z y).tk) + (β + γ + ν + 3))) := by
      have hks := (Gd.of8 (m0 := m0) (m1 := m1) (by rw [d0]; exact hx) (by rw [d1]; exact hy) hN q8).bd.1
      simp only [R.tk] at hks
      refine ⟨by omega, q8.p1, q8.p0, by omega, q8.fst, fun zb => ?_⟩
      obtain ⟨_, _, s, hb⟩ := q8.bgn zb
      have h3 := hb.ii.ps
      rw [if_neg (fun zz => by rw [zz.1, Int.mul_zero] at h3; omega)] at htb
      cases htb
      exact ⟨s, hb.sg, hb.ii⟩
    have t := eightX_tt (KM := KM) (m := m') (by omega) hT _ t0 b0 bg k1 k0 (Nat.le_refl _) fx
    refine t.lift (fun n' r'' m'' ans hh => ?_) (by simp only [R.tk]; cases w <;> simp only [cond] at htk ⊢ <;> omega)
    cases hh with
    | exX hh => exact ⟨_, .etFix s8 hs hw ht hdet htb hh⟩
  · have g4 := q8.left w hm1 hx1 hy1 hdet
    -- the other one
    have go : Gd P KM (cond w x y) true (cond w x1 y1) (cond w x0 y0) (cond w β γ) := by cases w; exact hy; exact hx
    have hlo : (cond w x y).lv ≤ L := by cases w; exact hly; exact hlx
    have hnu : N * cond w y1 x1 < 2 ^ (ν + (P * z.tk + cond w γ β)) := by
      rw [Nat.pow_add]
      refine Nat.mul_lt_mul_of_lt_of_le hN (by omega) ?_
      have := hz.bd.2.1
      omega
    have e1 : cond w β γ + (ν + (P * z.tk + cond w γ β)) + 3 = P * z.tk + (β + γ + ν + 3) := by cases w <;> simp only [cond] <;> omega
    have e2 : P * ((cond w x y).tk + m') + (P * z.tk + (β + γ + ν + 3)) ≤ P * (x.tk + y.tk + m) + (β + γ + ν + 3) := by
      rw [← Nat.add_assoc, ← Nat.mul_add]
      refine Nat.add_le_add_right (Nat.mul_le_mul_left _ ?_) _
      cases w <;> simp only [cond] at htk ⊢ <;> omega
    have e3 : P * ((cond w x y).tk + m') + cond w β γ ≤ P * ((cond w x y).tk + m') + (P * z.tk + (β + γ + ν + 3)) := by
      refine Nat.add_le_add_left ?_ _
      cases w <;> simp only [cond] <;> omega
    have to := IH _ _ _ _ _ m' hlo go (by omega) (by cases w <;> simp only [cond] at htk hle ⊢ <;> omega)
    have t4 := four_tt to go hnu (by rw [e1]; omega) _ _ _ _ bg k1 k0 g4
    rw [e1] at t4
    have t := eightF_tt (w := w) (dead := z) (by omega) rfl t4
    refine t.lift (fun n' r'' m'' ans hh => ?_) (by simp only [R.tk]; cases w <;> simp only [cond] at htk ⊢ <;> omega)
    cases hh with
    | exF _ hh =>
      have hd : decide (0 < cond w m0 m1) = true := by cases w; exact d1; exact d0
      exact ⟨_, .etFour s8 hs hw ht hdet (by rw [hd]; exact hh)⟩
theorem eight_step' {L m : Nat} (IH : TL P KM L) {x y : R} {bgx bgy : Bool} {x1 x0 β y1 y0 γ : Nat} (IHm : ∀ m' < m, ∀ x bgx x1 x0 y bgy y1 y0, E8 P KM L x bgx x1 x0 β y bgy y1 y0 γ m')
    (ox : On P KM (fun x' u1 u0 m' => m' = m → E8 P KM L x' true u1 u0 β y bgy y1 y0 γ m) x bgx x1 x0 β m) (oy : On P KM (fun y' u1 u0 m' => m' = m → E8 P KM L x bgx x1 x0 β y' true u1 u0 γ m) y bgy y1 y0 γ m) : E8 P KM L x bgx x1 x0 β y bgy y1 y0 γ m := by
  intro N ν m0 m1 hbx hby hx hy hlx hly hN hB hKM
  subst hbx hby
  have hB0 : P * (x.tk + y.tk) + (β + γ + ν + 3) < 290000 := Nat.lt_of_le_of_lt (Nat.add_le_add_right (Nat.mul_le_mul_left _ (by omega)) _) hB
  refine eight_close hx hy hN hB0 fun a b c d e f g h bg k1 k0 q8 hs => ?_
  have s8 := (Gd.of8 hx hy hN q8).sm8 hB0
  have b0 : m1 = 0 → bg = false := q8.nb
  by_cases hw : m1 < m0
  · -- the second chain
    have hwt : true = decide (m1 < m0) := (decide_eq_true hw).symm
    cases oy with
    | @part n r r' bgy k1 k0 β' q m' m'' h1 h2 h3 h4 h5 =>
      have hle := h1.tk_le
      have hq : Sm q := sm_part h3 h2 hy.bd.2.1 (Nat.lt_of_le_of_lt (by
        have : P * r'.tk ≤ P * (x.tk + y.tk + m) := Nat.mul_le_mul_left _ (by omega)
        omega) hB)
      have g' := q8.take1 (p := q) hw (fun z => h2 (decide_eq_true z)) (fun z => hy.bd.2.2.2 (decide_eq_false (by omega)))
      have E : E8 P KM L x (decide (0 < m0)) x1 x0 β r' true (gs (decide (0 < m1)) y1 y0 q).1 (gs (decide (0 < m1)) y1 y0 q).2 γ m'' := by
        by_cases z : m'' = m
        · subst z; exact h4 rfl
        · exact IHm m'' (by omega) _ _ _ _ _ _ _ _
      have t := E N ν m0 (m1 + 1) rfl (decide_eq_true (by omega)).symm hx h3 hlx (Nat.le_trans h1.lv hly) hN (by rw [show x.tk + r'.tk + m'' = x.tk + y.tk + m by omega]; exact hB) (by omega) _ _ _ _ _ _ _ _ _ _ _ g'
      exact t.lift (fun n' r'' m3 ans hh => ⟨_, .etIn1 s8 hs hw h1 hq hh⟩) (by simp only [R.tk]; omega)
    | waits h1 h2 h3 => exact .waits (.etWait s8 hs hwt h1) (.of8 hx h2 hN q8) (by simp only [R.tk, cond]; omega)
    | @fin n r r' bgy k1 k0 β' m' m'' h0 h1 h2 h3 =>
      have hm1 : 0 < m1 := of_decide_eq_true h0
      exact eight_left IH true hx hy hN hlx hly hB hKM q8 hs hwt hm1 h1 (by rw [h0] at h2; exact h2) h3
    | @none n r r' bgy k1 k0 β' m' m'' h0 h1 h2 h3 =>
      have hm1 : m1 = 0 := by have := of_decide_eq_false h0; omega
      exact .none (m' := m'') (b0 hm1) (.etNo s8 hs hwt h1) (.of8 hx h2 hN q8) (by simp only [R.tk, cond]; omega)
  · have hwf : false = decide (m1 < m0) := (decide_eq_false hw).symm
    have hmm : m0 = m1 := by have := q8.m01; omega
    cases ox with
    | @part n r r' bgx k1 k0 β' q m' m'' h1 h2 h3 h4 h5 =>
      have hle := h1.tk_le
      have hq : Sm q := sm_part h3 h2 hx.bd.2.1 (Nat.lt_of_le_of_lt (by
        have : P * r'.tk ≤ P * (x.tk + y.tk + m) := Nat.mul_le_mul_left _ (by omega)
        omega) hB)
      have g' := q8.take0 (p := q) hw (fun z => h2 (decide_eq_true z)) (fun z => hx.bd.2.2.2 (decide_eq_false (by omega)))
      have E : E8 P KM L r' true (gs (decide (0 < m0)) x1 x0 q).1 (gs (decide (0 < m0)) x1 x0 q).2 β y (decide (0 < m1)) y1 y0 γ m'' := by
        by_cases z : m'' = m
        · subst z; exact h4 rfl
        · exact IHm m'' (by omega) _ _ _ _ _ _ _ _
      have t := E N ν (m0 + 1) m1 (decide_eq_true (by omega)).symm rfl h3 hy (Nat.le_trans h1.lv hlx) hly hN (by rw [show r'.tk + y.tk + m'' = x.tk + y.tk + m by omega]; exact hB) (by omega) _ _ _ _ _ _ _ _ _ _ _ g'
      exact t.lift (fun n' r'' m3 ans hh => ⟨_, .etIn0 s8 hs hw h1 hq hh⟩) (by simp only [R.tk]; omega)
    | waits h1 h2 h3 => exact .waits (.etWait s8 hs hwf h1) (.of8 h2 hy hN q8) (by simp only [R.tk, cond]; omega)
    | @fin n r r' bgx k1 k0 β' m' m'' h0 h1 h2 h3 =>
      have hm0 : 0 < m0 := of_decide_eq_true h0
      exact eight_left IH false hx hy hN hlx hly hB hKM q8 hs hwf (by omega) h1 (by rw [h0] at h2; exact h2) h3
    | @none n r r' bgx k1 k0 β' m' m'' h0 h1 h2 h3 =>
      have hm0 : m0 = 0 := by have := of_decide_eq_false h0; omega
      exact .none (m' := m'') (b0 (by omega)) (.etNo s8 hs hwf h1) (.of8 h2 hy hN q8) (by simp only [R.tk, cond]; omega)
theorem On.imp {S S' : R → Nat → Nat → Nat → Prop} {r : R} {bg : Bool} {k1 k0 β m : Nat} (o : On P KM S r bg k1 k0 β m) (h : ∀ r' a b m', S r' a b m' → S' r' a b m') : On P KM S' r bg k1 k0 β m := by
  cases o with
  | part h1 h2 h3 h4 h5 => exact .part h1 h2 h3 (h _ _ _ _ h4) h5
  | waits h1 h2 h3 => exact .waits h1 h2 h3
  | fin h0 h1 h2 h3 => exact .fin h0 h1 h2 h3
  | none h0 h1 h2 h3 => exact .none h0 h1 h2 h3
theorem eight_tt {L β γ : Nat} (IH : TL P KM L) : ∀ m x bgx x1 x0 y bgy y1 y0, E8 P KM L x bgx x1 x0 β y bgy y1 y0 γ m := by
  intro m
  induction m using Nat.strongRecOn with
  | _ m IHm =>
    have key : ∀ x bgx x1 x0, Tt P KM x bgx x1 x0 β m → ∀ y bgy y1 y0, Tt P KM y bgy y1 y0 γ m → E8 P KM L x bgx x1 x0 β y bgy y1 y0 γ m := by
      intro x bgx x1 x0 tx
      refine Tt.rec' (C := fun x bgx x1 x0 mm => mm = m → ∀ y bgy y1 y0, Tt P KM y bgy y1 y0 γ m → E8 P KM L x bgx x1 x0 β y bgy y1 y0 γ m) (fun x bgx x1 x0 mm tx ox hm => ?_) tx rfl
      subst hm
      intro y bgy y1 y0 ty
      refine Tt.rec' (C := fun y bgy y1 y0 m2 => m2 = mm → E8 P KM L x bgx x1 x0 β y bgy y1 y0 γ mm) (fun yy bgyy yy1 yy0 m2 tyy oy hm2 => ?_) ty rfl
      subst hm2
      exact eight_step' IH IHm (ox.imp fun x' u1 u0 m' hc e => hc.2 e _ _ _ _ tyy) (oy.imp fun y' u1 u0 m' hc e => hc.2 e)
    intro x bgx x1 x0 y bgy y1 y0 N ν m0 m1 hbx hby hx hy hlx hly hN hB hKM
    have e1 : P * (x.tk + m) + β < 290000 := by
      have : P * (x.tk + m) ≤ P * (x.tk + y.tk + m) := Nat.mul_le_mul_left _ (by omega)
      omega
    have e2 : P * (y.tk + m) + γ < 290000 := by
      have : P * (y.tk + m) ≤ P * (x.tk + y.tk + m) := Nat.mul_le_mul_left _ (by omega)
      omega
    exact key x bgx x1 x0 (IH _ _ _ _ _ m hlx hx e1 (by omega)) y bgy y1 y0 (IH _ _ _ _ _ m hly hy e2 (by omega)) N ν m0 m1 hbx hby hx hy hlx hly hN hB hKM
theorem total (hP : P ≤ 289900) (hK : KM < 2 ^ 50) : ∀ L, TL P KM L := by
  intro L
  induction L with
  | zero =>
    intro r bg k1 k0 β m hl
    cases r <;> simp only [R.lv] at hl <;> omega
  | succ L ih =>
    intro r bg k1 k0 β m hl hG hB hKM
    cases hG with
    | fixed h1 h2 h3 h4 h5 h6 => exact fixed_tt (by simp only [R.tk] at hB; omega) _ _ _ _ _ _ (Nat.le_refl _) ⟨h1, h2, h3, h4, h5, h6⟩
    | leaf h1 h2 h3 h4 h5 h6 => exact leaf_tt hP hK m _ _ _ _ h1 hKM h2 h3 h4 h5 h6
    | @four a b c d rdy bg x k1 k0 x1 x0 N ν β hx h1 h2 h3 h4 h5 h6 h7 h8 h9 =>
      simp only [R.tk] at hB hKM
      have hlx : x.lv ≤ L := by simp only [R.lv] at hl; omega
      exact four_tt (ih _ _ _ _ _ m hlx hx (by omega) hKM) hx h1 hB _ _ _ _ _ _ _ ⟨h3, h4, h5, h2, h6, h7, h8, h9⟩
    | fourX h1 h2 h3 h4 h5 h6 h7 =>
      simp only [R.tk] at hB
      exact fourX_tt h2 (Nat.lt_of_le_of_lt (Nat.add_le_add_right (Nat.mul_le_mul_left _ (by omega)) _) hB) _ _ _ _ _ _ (Nat.le_refl _) ⟨h1, h3, h4, h5, h6, h7⟩
    | @eight a b c d e f g h m0 m1 bg x y k1 k0 x1 x0 y1 y0 N ν β γ hx hy h1 h2 h3 h4 h5 h6 h7 h8 h9 h10 h11 h12 =>
      simp only [R.tk] at hB hKM
      have hlx : x.lv ≤ L := by simp only [R.lv] at hl; omega
      have hly : y.lv ≤ L := by simp only [R.lv] at hl; omega
      exact eight_tt ih m x _ x1 x0 y _ y1 y0 N ν m0 m1 rfl rfl hx hy hlx hly h1 hB hKM _ _ _ _ _ _ _ _ _ _ _ ⟨h5, h6, h2, h3, h4, h7, h8, h9, h10, h11, h12⟩
    | eightX h1 h2 h3 h4 h5 h6 h7 =>
      simp only [R.tk] at hB
      exact eightX_tt h2 (Nat.lt_of_le_of_lt (Nat.add_le_add_right (Nat.mul_le_mul_left _ (by omega)) _) hB) _ _ _ _ _ _ (Nat.le_refl _) ⟨h1, h3, h4, h5, h6, h7⟩
    | @eightF w dead fr bg k1 k0 β hk h3 hf =>
      simp only [R.tk] at hB hKM
      have hlf : fr.lv ≤ L := by simp only [R.lv] at hl; omega
      have e : P * (fr.tk + m) + (P * dead.tk + β) = P * (dead.tk + fr.tk + m) + β := by rw [← Nat.add_assoc, ← Nat.mul_add]; congr 2; omega
      exact eightF_tt h3 hk (ih _ _ _ _ _ m hlf hf (by omega) (by omega))
end
end PL
namespace PL
abbrev KK : Nat := 2 ^ 20
theorem sq_of_ratio {x s y : Int} (hy : y ≠ 0) (h : x * x = s * y * y) : ∃ z : Int, s = z * z := by
  have hd : y ∣ x := by
    have h2 : y.natAbs ^ 2 ∣ x.natAbs ^ 2 := by
      refine ⟨s.natAbs, ?_⟩
      have := congrArg Int.natAbs h
      rw [Int.natAbs_mul, Int.natAbs_mul, Int.natAbs_mul] at this
      rw [Nat.pow_two, Nat.pow_two, this]
      grind
    exact Int.natAbs_dvd_natAbs.mp ((Nat.pow_dvd_pow_iff (by decide)).mp h2)
  obtain ⟨z, rfl⟩ := hd
  refine ⟨z, ?_⟩
  have h3 : y * y * (s - z * z) = 0 := by grind
  rcases Int.mul_eq_zero.mp h3 with h4 | h4
  · rcases Int.mul_eq_zero.mp h4 with h5 | h5 <;> exact absurd h5 hy
  · omega
theorem no_sq {s f z : Int} (f0 : 0 ≤ f) (h1 : f * f < s) (h2 : s < (f + 1) * (f + 1)) : s ≠ z * z := by
  intro e
  have hz : ∀ w : Int, 0 ≤ w → w * w = s → False := fun w w0 hw => by
    rcases Int.lt_or_le f w with g | g
    · have := Int.mul_le_mul (a := f + 1) (b := f + 1) (c := w) (d := w) (by omega) (by omega) (by omega) (by omega)
      omega
    · have := Int.mul_le_mul g g w0 f0
      omega
  rcases Int.le_total 0 z with g | g
  · exact hz z g e.symm
  · exact hz (-z) (by omega) (by rw [e]; grind)
theorem abI_sq {b : Int} : abI b * abI b = b * b := by unfold abI; split <;> grind
theorem few_le {b : Int} (h : Few b) : -10 ^ 12 ≤ b ∧ b ≤ 10 ^ 12 := by unfold Few at h; omega
theorem root_lf {t s b f f' : Int} (ht : Few t) (hs : Few s) (hb : Few b) (s0 : 0 ≤ s) (b0 : b ≠ 0) (h0 : 0 ≤ f) (h1 : f * f < s) (h2 : s < (f + 1) * (f + 1)) (h3 : 0 ≤ f') (h4 : f' * f' ≤ s * abI b * abI b) (h5 : s * abI b * abI b < (f' + 1) * (f' + 1)) :
    LfI 84 KK (.root 0 (t * abI b) (s * abI b * abI b) (b * abI b) f') := by
  have ha : abI b ≠ 0 := by unfold abI; split <;> omega
  have ha1 : 0 ≤ abI b ∧ abI b ≤ 10 ^ 12 := by have := few_le hb; unfold abI; split <;> omega
  obtain ⟨t1, t2⟩ := few_le ht
  obtain ⟨s1, s2⟩ := few_le hs
  obtain ⟨b1, b2⟩ := few_le hb
  have q1 : 0 ≤ s * abI b := Int.mul_nonneg s0 ha1.1
  have q2 : s * abI b ≤ 10 ^ 12 * 10 ^ 12 := Int.mul_le_mul s2 ha1.2 ha1.1 (by decide)
  have q3 : 0 ≤ s * abI b * abI b := Int.mul_nonneg q1 ha1.1
  have q4 : s * abI b * abI b ≤ 10 ^ 12 * 10 ^ 12 * 10 ^ 12 := Int.mul_le_mul q2 ha1.2 ha1.1 (by decide)
  have q5 : f' ≤ 10 ^ 18 := by
    rcases Int.lt_or_le (10 ^ 18) f' with g | g
    · have := Int.mul_le_mul (a := 10 ^ 18 + 1) (b := 10 ^ 18 + 1) (c := f') (d := f') (by omega) (by omega) (by decide) (by omega)
      omega
    · exact g
  have bd : ∀ x : Int, -10 ^ 12 ≤ x → x ≤ 10 ^ 12 → (x * abI b).natAbs ≤ 10 ^ 24 := fun x x1 x2 => by
    rw [Int.natAbs_mul]
    have : x.natAbs * (abI b).natAbs ≤ 10 ^ 12 * 10 ^ 12 := Nat.mul_le_mul (by omega) (by omega)
    omega
  refine ⟨⟨h3, ?_, h5, ?_, ?_⟩, fun z => by omega, ?_, 10 ^ 24 + 2 ^ 20 * (2 * 10 ^ 18 + 2), ?_, ?_, ?_⟩
  · rcases Int.lt_or_le (f' * f') (s * abI b * abI b) with g | g
    · exact g
    · obtain ⟨z, hz⟩ := sq_of_ratio (x := f') (s := s) (y := abI b) ha (by omega)
      exact absurd hz (no_sq h0 h1 h2)
  · intro e
    rcases Int.mul_eq_zero.mp e with z | z
    · exact b0 z
    · exact ha z
  · have e2 := abI_sq (b := b)
    rcases Int.lt_or_le b 0 with g | g
    · refine ⟨-(s - t * t), ?_⟩
      have : abI b = -b := by unfold abI; rw [if_pos g]
      rw [this]
      grind
    · refine ⟨s - t * t, ?_⟩
      have : abI b = b := by unfold abI; rw [if_neg (by omega)]
      rw [this]
      grind
  · have : (s * abI b * abI b).natAbs ≤ 10 ^ 36 := by omega
    have h9 : (10 : Nat) ^ 36 ≤ 2 ^ 120 := by decide +kernel
    exact sm_of (Nat.le_trans this h9) (show 120 < 290000 by omega)
  · have := bd b b1 b2
    exact Nat.add_le_add this (Nat.mul_le_mul (by decide) (by omega))
  · have := bd t t1 t2
    omega
  · have : f'.toNat ≤ 10 ^ 18 := by omega
    omega
theorem pow84 : (2 : Nat) ^ 84 = 19342813113834066795298816 := by decide
theorem frac_lf {t b : Int} (ht : t.natAbs ≤ 10 ^ 13) (hb : b.natAbs ≤ 10 ^ 13) (b0 : b ≠ 0) : LfI 84 KK (.frac 0 t b) := ⟨by rw [pow84]; omega, by rw [pow84]; omega, fun _ => b0, fun z => by omega⟩
theorem leaf_gd {r : R} (h : LfI 84 KK r) (hk : r.tk = 0) : Gd 84 KK r false 1 4 3 := .leaf h (by rw [hk]; rfl) (by decide) (by decide) (by rw [hk]; decide) fun _ => ⟨rfl, rfl⟩
theorem ls_few {a c : Int} (ha : Few a) (hc : Few c) : Ls 1 4 a c ≤ 5 * 10 ^ 12 := by
  unfold Few at ha hc
  unfold Ls
  omega
theorem pows_tk {r : R} (h : r.tk = 0) : ∀ n, (pows r n).tk = 0
  | 0 => h
  | n + 1 => by simp only [pows, R.tk, h, pows_tk h n]
theorem pows_gd {r : R} {β : Nat} (h : Gd 84 KK r false 1 4 β) : ∀ n, ∃ γ, Gd 84 KK (pows r n) false 1 4 γ ∧ γ + 46 = (n + 1) * (β + 46)
  | 0 => ⟨β, h, by omega⟩
  | n + 1 => by
    obtain ⟨γ, h1, h2⟩ := pows_gd h n
    refine ⟨_, .eight (N := 5) (ν := 43) h h1 (by decide) (by decide) (Nat.le_refl _) (by decide) (by decide) (by decide) (fun _ => ⟨rfl, rfl⟩) (fun _ => rfl) (fun _ => ⟨by decide, by decide, by decide, by decide⟩) (fun z => by omega) (fun z => by omega) (fun z => by cases z), ?_⟩
    rw [Nat.add_mul (n + 1) 1, Nat.one_mul]
    omega
theorem Opened.tk0 {tr : Tr} {r : R} (h : Opened tr r) : r.tk = 0 := by
  induction h with
  | power _ ih => exact pows_tk ih _
  | eight _ _ ih1 ih2 => simp only [R.tk, ih1, ih2]
  | four _ ih => exact ih
  | _ => rfl
theorem opened_gd : ∀ (k : Nat) (tr : Tr) (r : R), tr.good k → Opened tr r → ∃ β, Gd 84 KK r false 1 4 β ∧ β + 46 ≤ 50 * 4 ^ k
  | 0, tr, r, h, _ => by cases tr <;> exact h.elim
  | k + 1, .frac t b, r, h, o => by
    obtain ⟨h1, h2, h3⟩ := h
    cases o
    have := Nat.pow_pos (n := k) (show 0 < 4 by decide)
    exact ⟨3, leaf_gd (frac_lf (by unfold Few at h1; omega) (by unfold Few at h2; omega) h3) rfl, by rw [Nat.pow_succ]; omega⟩
  | k + 1, .root t s b, r, h, o => by
    obtain ⟨h1, h2, h3, h4, h5⟩ := h
    have := Nat.pow_pos (n := k) (show 0 < 4 by decide)
    cases o with
    | rootF g1 g2 =>
      rename_i f
      have : f ≤ 10 ^ 12 := by
        rcases Int.lt_or_le (10 ^ 12) f with g | g
        · have := Int.mul_le_mul (a := 1) (b := f) (c := f) (d := f) (by omega) (by omega) (by omega) (by omega)
          have := few_le h2
          omega
        · exact g
      exact ⟨3, leaf_gd (frac_lf (by unfold Few at h1; omega) (by unfold Few at h3; omega) h5) rfl, by rw [Nat.pow_succ]; omega⟩
    | rootR g1 g2 g3 g4 g5 g6 => exact ⟨3, leaf_gd (root_lf h1 h2 h3 h4 h5 g1 g2 g3 g4 g5 g6) rfl, by rw [Nat.pow_succ]; omega⟩
  | k + 1, .ruled ps ring steps, r, h, o => by
    obtain ⟨h1, h2, h3, h4, h5, h6, h7, h8⟩ := h
    have := Nat.pow_pos (n := k) (show 0 < 4 by decide)
    cases o
    have hf : ∀ n ∈ ps ++ ring ++ steps, n.natAbs ≤ 10 ^ 12 := h5
    refine ⟨3, leaf_gd ⟨h1, by omega, by omega, h4.symm, h6, h7, fun n hn => by have := hf n (List.mem_append_left _ hn); rw [pow84]; omega, fun n hn m hm => ?_⟩ rfl, by rw [Nat.pow_succ]; omega⟩
    have e1 := hf n (List.mem_append_left _ (List.mem_append_right _ hn))
    have e2 := hf m (List.mem_append_right _ hm)
    rw [pow84]
    have : KK * m.natAbs ≤ 2 ^ 20 * 10 ^ 12 := Nat.mul_le_mul (by decide) e2
    omega
  | k + 1, .four a b c d x, r, h, o => by
    obtain ⟨h1, h2, h3, h4, h5, h6⟩ := h
    cases o with
    | four ho =>
      obtain ⟨β, g1, g2⟩ := opened_gd k x _ h6 ho
      have := Nat.pow_pos (n := k) (show 0 < 4 by decide)
      refine ⟨_, .four (N := 5 * 10 ^ 12) (ν := 43) g1 (by decide) (by decide) h5 (by decide) (by decide) (fun _ => ⟨rfl, rfl⟩) (fun _ => ⟨rfl, ls_few h1 h3, ls_few h2 h4⟩) (fun z => by cases z) (fun z => by cases z), by rw [Nat.pow_succ]; omega⟩
  | k + 1, .eight a b c d e f g i x y, r, h, o => by
    obtain ⟨h1, h2, h3, h4⟩ := h
    cases o with
    | eight ho ho2 =>
      obtain ⟨β, g1, g2⟩ := opened_gd k x _ h3 ho
      obtain ⟨γ, g3, g4⟩ := opened_gd k y _ h4 ho2
      have fw : ∀ n ∈ [a, b, c, d, e, f, g, i], Few n := h1
      refine ⟨_, .eight (N := 5 * 10 ^ 12) (ν := 43) g1 g3 (by decide) (by decide) (Nat.le_refl _) (by decide) (by decide) (by decide) (fun _ => ⟨rfl, rfl⟩) (fun _ => rfl) (fun _ => ⟨ls_few (fw _ (by simp)) (fw _ (by simp)), ls_few (fw _ (by simp)) (fw _ (by simp)), ls_few (fw _ (by simp)) (fw _ (by simp)), ls_few (fw _ (by simp)) (fw _ (by simp))⟩) (fun z => by omega) (fun z => by omega) (fun z => by cases z), by rw [Nat.pow_succ]; omega⟩
  | k + 1, .power x n, r, h, o => by
    obtain ⟨h1, h2, h3⟩ := h
    cases o with
    | power ho =>
      obtain ⟨β, g1, g2⟩ := opened_gd k x _ h3 ho
      obtain ⟨γ, g3, g4⟩ := pows_gd g1 (n - 1).toNat
      refine ⟨γ, g3, ?_⟩
      rw [g4, Nat.pow_succ]
      have : ((n - 1).toNat + 1) * (β + 46) ≤ 4 * (50 * 4 ^ k) := Nat.mul_le_mul (by omega) g2
      omega
theorem pows_lv {r : R} : ∀ n, (pows r n).lv ≤ max r.lv 3 + 2 * n
  | 0 => by simp only [pows]; omega
  | n + 1 => by
    have := pows_lv (r := r) n
    simp only [pows, R.lv]
    omega
theorem opened_lv : ∀ (k : Nat) (tr : Tr) (r : R), tr.good k → Opened tr r → r.lv ≤ 3 + 6 * k
  | 0, tr, r, h, _ => by cases tr <;> exact h.elim
  | k + 1, tr, r, h, o => by
    cases o with
    | four ho =>
      have := opened_lv k _ _ h.2.2.2.2.2 ho
      simp only [R.lv]; omega
    | eight ho ho2 =>
      have := opened_lv k _ _ h.2.2.1 ho
      have := opened_lv k _ _ h.2.2.2 ho2
      simp only [R.lv]; omega
    | @power x n r0 ho =>
      obtain ⟨h1, h2, h3⟩ := h
      have := opened_lv k _ _ h3 ho
      have := pows_lv (r := r0) (n - 1).toNat
      omega
    | _ => simp only [R.lv]; omega
/-- one asking of a reader within bounds -/
theorem ask {r : R} {bg : Bool} {k1 k0 β : Nat} (h : Gd 84 KK r bg k1 k0 β) (m : Nat) (hB : 84 * (r.tk + m) + β < 290000) : ∃ n r' ans, ∃ m' : Nat, Told n r m r' m' ans ∧ r'.tk + m' = r.tk + m ∧ ∃ bg' k1' k0', Gd 84 KK r' bg' k1' k0' β ∧
    ((∃ q, ans = .part q ∧ (bg = true → 1 ≤ q) ∧ bg' = true) ∨ (ans = .waits ∧ m' = 0 ∧ bg' = bg) ∨ (ans = .fin ∧ bg = true ∧ bg' = true) ∨ (ans = .none ∧ bg = false ∧ bg' = false)) := by
  have t := total (P := 84) (KM := KK) (by decide) (by decide) r.lv r bg k1 k0 β m (Nat.le_refl _) h hB (by have : KK = 1048576 := rfl; omega)
  cases t with
  | part h1 h2 h3 h4 h5 => exact ⟨_, _, _, _, h1, h5, _, _, _, h3, .inl ⟨_, rfl, h2, rfl⟩⟩
  | waits h1 h2 h3 => exact ⟨_, _, _, 0, h1, by omega, _, _, _, h2, .inr (.inl ⟨rfl, rfl, rfl⟩)⟩
  | fin h0 h1 h2 h3 => exact ⟨_, _, _, _, h1, h3, _, _, _, h2, .inr (.inr (.inl ⟨rfl, h0, h0⟩))⟩
  | none h0 h1 h2 h3 => exact ⟨_, _, _, _, h1, h3, _, _, _, h2, .inr (.inr (.inr ⟨rfl, h0, h0⟩))⟩
end PL
namespace PL
open PySem PySem.Spec PyProof.Rows L2
section
variable {X : Cx} {ca : CA} {W : WX} {pos pos' np : Pos} {x n : Str} {cv : Value} {body suite : List Stmt} {b0 : Stmt} {tb : WX → TS} {rb : ATS} {tsu : TS} {rsu : ATS}
/-- a wish of an exception that nothing is asked of -/
theorem any_takes (hs : X.stack = X.env :: X.outer) (hf : X.env.frame = some X.env.locals) (W : WX) : ∃ xe, Takes (X.tr [] xe) W ∧ PassesOwn (model X.prog X.w) X.A X.env xe := by
  refine ⟨fun e s => wpAny (model X.prog X.w) X.A (noteFrame e X.env) (fun _ s2 => wpAny (model X.prog X.w) X.A (setFlight e none) (fun _ _ => True) (fun _ _ => True) s2) (fun _ _ => True) s, fun u s' xx => ?_, PassesOwn.looking⟩
  obtain ⟨a, B, sI, pins', σ', H', cls, d, rfl, J', nb, up, sky, na, os, ag, w⟩ := xx
  have hfr : X.A.frames = some (X.env :: X.outer) := by rw [J'.ok.frames.symm.symm]; exact congrArg some hs
  have sky' : Sky B (X.env :: X.outer) a (Zc cls d) X.env.locals s'.heap := by rw [← hs]; exact sky
  show wpAny (model X.prog X.w) X.A (noteFrame (.ref a) X.env) (fun _ s2 => wpAny (model X.prog X.w) X.A (setFlight (.ref a) none) (fun _ _ => True) (fun _ _ => True) s2) (fun _ _ => True) s'
  refine Sky.land Zc.steady hfr hf sky' fun h3 fl3 up3 => ?_
  exact True.intro
def aTry (c : Value → Option Bool) (b h : ATS) : ATS := fun Wa Da ρ Ω => b (fun cls ρ' Ω' => ∃ k, c cls = some k ∧ if k = true then h Wa Da ρ' Ω' else Wa cls ρ' Ω') Da ρ Ω
theorem as_tryOnly (hs : X.stack = X.env :: X.outer) (hf : X.env.frame = some X.env.locals) (hc : Names X x cv) (tk : Takes X W)
    (hb : ∀ (W' : WX) (pn : List (Addr × Obj)) (xe : Value → Shared → Prop), Takes (X.tr pn xe) W' → PassesOwn (model X.prog X.w) X.A X.env xe → ASs (X.tr pn xe) ca W' body (tb W') rb)
    (hsu : ∀ (a : Addr) (pn : List (Addr × Obj)), ASs (X.suite a pn) ca W (b0 :: suite) tsu rsu) :
    AS X ca W (.Try body [.ExceptHandler (some (.Name x np)) none (b0 :: suite) pos'] [] [] pos) (fun D σ H => tb (wOnly X.K cv (fun _ _ _ => tsu) W D) D σ H) (aTry (fun cls => PySem.W.exmOne X.K cls cv) rb rsu) := by
  refine ⟨ps_try_only hs hf hc tk (fun W' pn xe h1 h2 => (hb W' pn xe h1 h2).pe) (fun a oe cls d pn _ _ => (hsu a ((a, oe) :: pn)).pe), fun σ H G own ρ Ω Wa Da Dc r s h k => ?_⟩
  obtain ⟨xe, h1, h2⟩ := any_takes (W := wOnly X.K cv (fun _ _ _ => tsu) W Dc) hs hf
  refine (hb _ [] xe h1 h2).sim σ H G own ρ Ω _ Da Dc r s h ⟨k.nx, k.rt, k.bk, k.ct, fun cls σ' H' G' own' ρ' Ω' e r' s' q => ?_⟩
  obtain ⟨b, hb', q⟩ := q
  refine ⟨b, hb', fun e1 a _ => ?_, fun e1 => ?_⟩
  · subst e1
    exact (hsu a []).sim σ' H' G' own' ρ' Ω' Wa Da Dc r' s' q (k.mono e)
  · subst e1
    exact k.ex _ _ _ _ _ _ _ e r' s' q
end
end PL
namespace PL
open PySem L2
section
variable {X : Cx} {ca : CA} {W : WX} {a b e : Expr} {ta tb te : TE} {ra rb re : ATE} {pos p p2 : Pos} {ts : TS} {rs : ATS}
def pairD (xs ys : List D) : List D := List.zipWith (fun x y => .tup [x, y]) xs ys
theorem pairD_length {xs ys : List D} (h : xs.length = ys.length) : (pairD xs ys).length = xs.length := by unfold pairD; rw [List.length_zipWith, ← h, Nat.min_self]
theorem pairD_get {xs ys : List D} {i : Nat} {x y : D} (hx : xs[i]? = some x) (hy : ys[i]? = some y) : (pairD xs ys)[i]? = some (.tup [x, y]) := by
  unfold pairD
  rw [List.getElem?_zipWith, hx, hy]
def aForZip (ra rb : ATE) (g : AG) (b : ATS) : ATS := fun Wa Da ρ Ω => ra Wa ρ Ω fun d Ω1 => rb Wa ρ Ω1 fun d2 Ω2 => ∃ xs ys, d = .lst xs ∧ d2 = .lst ys ∧ xs.length = ys.length ∧ forL g b (pairD xs ys) Wa Da ρ Ω2
/-- [elt for (..) in zip(xs, ys)] -/
def aLcZip (ra rb : ATE) (g : AG) (re : ATE) (vs : List Nat) : ATE := fun Wa ρ Ω Q => ra Wa ρ Ω fun d Ω1 => rb Wa ρ Ω1 fun d2 Ω2 => ∃ xs ys, d = .lst xs ∧ d2 = .lst ys ∧ xs.length = ys.length ∧ compL g aYes re vs (pairD xs ys) [] Wa0 ρ Ω2 Q
end
end PL
namespace PL
open PySem L2
theorem ASs.cast {X : Cx} {ca : CA} {W : WX} {l : List Stmt} {ts ts' : TS} {rs rs' : ATS} (h : ASs X ca W l ts' rs') (h1 : ts' = ts) (h2 : rs' = rs) : ASs X ca W l ts rs := h2 ▸ h1 ▸ h
instance seer_tr {X : Cx} {pn : List (Addr × Obj)} {xe : Value → Shared → Prop} [sr : Seer X.prog X.base] : Seer (X.tr pn xe).prog (X.tr pn xe).base := sr
end PL
namespace PL
open PySem L2
def forO (a : Addr) (ns : List Int) (g : AG) (b : ATS) : List Int → ATS
  | [], _, Da, ρ, Ω => Ω a = some (.lst (ns.map D.int)) ∧ Da.nx ρ Ω
  | x :: xs, Wa, Da, ρ, Ω => Ω a = some (.lst (ns.map D.int)) ∧ g (.int x) ρ Ω fun ρ1 Ω1 => b Wa { Da with nx := forO a ns g b xs Wa Da, ct := forO a ns g b xs Wa Da, bk := Da.nx } ρ1 Ω1
def aForO (ra : ATE) (g : AG) (b : ATS) : ATS := fun Wa Da ρ Ω => ra Wa ρ Ω fun d Ω1 => ∃ a ns, d = .o a ∧ forO a ns g b ns Wa Da ρ Ω1
end PL
namespace PL
open PySem PySem.Spec PyProof.Rows L2
theorem five {z TI TO i1 i2 c : Addr} (h : c ∈ [z, TI, TO, i1, i2]) {P : Addr → Prop} (p1 : P z) (p2 : P TI) (p3 : P TO) (p4 : P i1) (p5 : P i2) : P c := by
  simp only [List.mem_cons, List.not_mem_nil, or_false] at h
  rcases h with rfl | rfl | rfl | rfl | rfl <;> assumption
/-- the tuple at a, the list at b, the items in new pairs -/
def ItzM (K : PySem.W.Frag) (a b : Addr) : It where
  go := fun i H => ∃ us ws : List V, SqT K H a us ∧ SqL K H b ws ∧ ∃ u v, us[i]? = some u ∧ ws[i]? = some v
  yld := fun i H v H' => ∃ T u u', v = .ref T ∧ H T = none ∧ H' = upd H T (.tup [u, u']) ∧ (∀ l, SqT K H a l → l[i]? = some u) ∧ ∀ l, SqL K H b l → l[i]? = some u'
  stop := fun i H => ∃ us ws : List V, SqT K H a us ∧ SqL K H b ws ∧ us.length = i ∧ ws.length = i
theorem sep_of {z TI TO i1 i2 a b : Addr} (D : ZipApart z TI TO i1 i2 a b) : ZipSep2 z TI TO i1 i2 [i1, a] [i2, b] where
  TIz := D.TIz
  TOz := D.TOz
  TITO := D.TITO
  TIi1 := D.TIi1
  TIi2 := D.TIi2
  mem1 := List.mem_cons_self
  mem2 := List.mem_cons_self
  zf1 := by simp only [List.mem_cons, List.not_mem_nil, or_false, not_or]; exact ⟨D.i1z.symm, D.l1z.symm⟩
  zf2 := by simp only [List.mem_cons, List.not_mem_nil, or_false, not_or]; exact ⟨D.i2z.symm, D.l2z.symm⟩
  Tf1 := by simp only [List.mem_cons, List.not_mem_nil, or_false, not_or]; exact ⟨D.TOi1, D.l1TO.symm⟩
  Tf2 := by simp only [List.mem_cons, List.not_mem_nil, or_false, not_or]; exact ⟨D.TOi2, D.l2TO.symm⟩
  sep1_2 := by simp only [List.mem_cons, List.not_mem_nil, or_false, not_or]; exact ⟨D.i12, D.l2i1.symm⟩
  sep2_1 := by simp only [List.mem_cons, List.not_mem_nil, or_false, not_or]; exact ⟨D.i12.symm, D.l1i2.symm⟩
section
variable {X : Cx} {pins : List (Addr × Obj)} {s : Shared} {σ : L2.St} {H : Hp} {E : Value → Shared → Prop} {z TI TO i1 i2 a b : Addr} {i : Nat} {elts : List Expr} {kk : Nat} {tpos : Pos}
def ZSt (z TI TO i1 i2 a b : Addr) (i : Nat) (h : Heap) : Prop := IsZip h z TI TO .none ∧ IsPair h TI (.ref i1) (.ref i2) ∧ (∃ u v, IsPair h TO u v) ∧ h.IsTupleIter i1 a i ∧ h.IsListIter i2 b i
theorem zm_item (D : ZipApart z TI TO i1 i2 a b) (hcalm : X.calm = true) (I : Inv X pins σ H s) (hf : ∀ c ∈ [z, TI, TO, i1, i2], FpOk X pins H c) (st : ZSt z TI TO i1 i2 a b i s.heap) (hg : (ItzM X.K a b).go i H) :
    wpAny (model X.prog X.w) X.A (pyNext (.ref z)) (fun r s1 => ∃ u, r = some u ∧
      wpAny (model X.prog X.w) X.A (letOwnedTupleGo (.Tuple elts kk tpos) (.ref z) u) (fun _ s2 => ∃ x H', Inv X pins σ H' s2 ∧ RelV x u ∧ (ItzM X.K a b).yld i H x H' ∧ ZSt z TI TO i1 i2 a b (i + 1) s2.heap ∧ ∀ c ∈ [z, TI, TO, i1, i2], H' c = none) E s1) E s := by
  obtain ⟨sz, sTI, ⟨t1, t2, sTO⟩, s1, s2⟩ := st
  obtain ⟨us, ws, qa, qb, u, v, hu, hv⟩ := hg
  obtain ⟨A1, r1, pa, _⟩ := I.tuple qa
  obtain ⟨A2, r2, pb, _⟩ := I.list qb
  obtain ⟨u1, e1, k1⟩ := r1.get hu
  obtain ⟨v1, e2, k2⟩ := r2.get hv
  have hh : X.A.in1.handled = none := I.ok.hd hcalm
  have l1 : i < A1.toArray.size := by have := (List.getElem?_eq_some_iff.mp e1).1; simpa using this
  have l2 : i < A2.toArray.size := by have := (List.getElem?_eq_some_iff.mp e2).1; simpa using this
  refine wpAny_pyNext_zipD2_item (sep_of D) (Draws.tuple hh i1 a D.l1i1 A1.toArray) (Draws.list hh i2 b D.l2i2 A2.toArray) sz sTI sTO ⟨s1, pa⟩ ⟨s2, pb.isList⟩ l1 l2 (fun x1 x2 h' tk y1 y2 z' TO' n1 n2 hT hsz hk => ?_)
  have y1' : x1 = u1 := by simpa [e1] using y1.symm
  have y2' : x2 = v1 := by simpa [e2] using y2.symm
  subst y1' y2'
  refine ⟨_, rfl, wpAny_letOwnedTupleGo_zip (s := { s with heap := h', toks := tk }) z' fun g gz gs => ?_⟩
  have zlt : z < s.heap.objs.size := Heap.lt_size sz
  have gT : IsPair g s.heap.objs.size x1 x2 := (gs.2 _ (Nat.ne_of_gt zlt)).trans hT
  have nw : ObjOk X.prog X.w (upd H s.heap.objs.size (.tup [u, v])) g s.heap.objs.size (.tup [u, v]) := ⟨(by show 2 ≤ sizeLine; decide), _, .cons k1 (.cons k2 .nil), _, gT, rfl, _, rfl⟩
  have out : ∀ c, c ∉ [z, TI, TO, i1, i2] → c ≠ z ∧ c ≠ TO ∧ c ≠ i1 ∧ c ≠ i2 := fun c hc => ⟨fun q => hc (by simp [q]), fun q => hc (by simp [q]), fun q => hc (by simp [q]), fun q => hc (by simp [q])⟩
  have J : Inv X pins σ (upd H s.heap.objs.size (.tup [u, v])) { s with heap := g, toks := tk } := by
    refine I.turnedNew (ch := [z, TI, TO, i1, i2]) (fun c o hc q => ?_) hf (Nat.le_refl _) nw
    obtain ⟨c1, c2, c3, c4⟩ := out c hc
    rw [gs.2 c c1]
    exact hk c o c1 c2 c3 c4 q
  refine ⟨.ref s.heap.objs.size, _, J, rfl, ⟨_, u, v, rfl, I.hok.fresh (Nat.le_refl _), rfl, fun l hl => ?_, fun l hl => ?_⟩, ⟨gz, ?_, ⟨x1, x2, ?_⟩, ?_, ?_⟩, fun c hc => ?_⟩
  · rw [I.tuple_inj hl qa]; exact hu
  · rw [I.list_inj hl qb]; exact hv
  · show g.get? TI = _
    rw [gs.2 TI D.TIz]
    exact hk TI _ D.TIz D.TITO D.TIi1 D.TIi2 sTI
  · show g.get? TO = _
    rw [gs.2 TO D.TOz]
    exact TO'
  · exact n1.1.at fun o q => by rw [gs.2 i1 D.i1z]; exact q
  · exact n2.1.at fun o q => by rw [gs.2 i2 D.i2z]; exact q
  · have lt : c < s.heap.objs.size := by
      obtain ⟨_, f1, _⟩ := s1
      obtain ⟨_, f2, _⟩ := s2
      exact five (P := fun c => c < s.heap.objs.size) hc zlt (Heap.lt_size sTI) (Heap.lt_size sTO) (Heap.lt_size f1) (Heap.lt_size f2)
    show (if c = s.heap.objs.size then _ else H c) = none
    rw [if_neg (Nat.ne_of_lt lt)]
    exact (hf c hc).1
theorem zm_done (D : ZipApart z TI TO i1 i2 a b) (hcalm : X.calm = true) (I : Inv X pins σ H s) (hf : ∀ c ∈ [z, TI, TO, i1, i2], FpOk X pins H c) (st : ZSt z TI TO i1 i2 a b i s.heap) (hg : (ItzM X.K a b).stop i H) :
    wpAny (model X.prog X.w) X.A (pyNext (.ref z)) (fun r s1 => r = none ∧ Inv X pins σ H s1) E s := by
  obtain ⟨sz, sTI, ⟨t1, t2, sTO⟩, s1, s2⟩ := st
  obtain ⟨us, ws, qa, qb, hu, hv⟩ := hg
  obtain ⟨A1, r1, pa, _⟩ := I.tuple qa
  obtain ⟨A2, r2, pb, _⟩ := I.list qb
  have hh : X.A.in1.handled = none := I.ok.hd hcalm
  have l1 : A1.toArray.size = i := by have := r1.length; simp; omega
  have l2 : A2.toArray.size = i := by have := r2.length; simp; omega
  refine wpAny_pyNext_zipD2_end (sep_of D) (Draws.tuple hh i1 a D.l1i1 A1.toArray) (Draws.list hh i2 b D.l2i2 A2.toArray) sz sTI sTO ⟨s1, pa⟩ ⟨s2, pb.isList⟩ (Nat.le_of_eq l1.symm) (Nat.le_of_eq l2.symm) (.inl l1.symm) (fun h' tk hk => ⟨rfl, ?_⟩)
  refine I.turnedL (ch := [z, TI, TO, i1, i2]) (fun c o hc q => ?_) hf
  exact hk c o (fun q => hc (by simp [q])) (fun q => hc (by simp [q])) (fun q => hc (by simp [q])) (fun q => hc (by simp [q])) q
end
theorem turn_zipM {P : Program} {w : World} {K : PySem.W.Frag} {elts : List Expr} {kk : Nat} {tpos : Pos} {a b z TI TO i1 i2 : Addr} (D : ZipApart z TI TO i1 i2 a b) : Turn P w K (.Tuple elts kk tpos) (ItzM K a b) [z, TI, TO, i1, i2] z (ZSt z TI TO i1 i2 a b) where
  mem := List.mem_cons_self
  obj := fun i h st c hc => by
    obtain ⟨sz, sTI, ⟨t1, t2, sTO⟩, ⟨o1, f1, _, d1⟩, o2, f2, _, d2⟩ := st
    refine five (P := fun c => ∃ o, h.get? c = some o ∧ ∀ v, o.data ≠ .cell v) hc ⟨_, sz, fun v q => nomatch q⟩ ⟨_, sTI, fun v q => nomatch q⟩ ⟨_, sTO, fun v q => nomatch q⟩ ⟨o1, f1, fun v => ?_⟩ ⟨o2, f2, fun v => ?_⟩
    · rw [d1]; exact fun q => nomatch q
    · rw [d2]; exact fun q => nomatch q
  keep := fun i h h' st k => ⟨k z (by simp) _ st.1, k TI (by simp) _ st.2.1, let ⟨u, v, e⟩ := st.2.2.1; ⟨u, v, k TO (by simp) _ e⟩, st.2.2.2.1.at (k i1 (by simp)), st.2.2.2.2.at (k i2 (by simp))⟩
  item := fun X hP hw hK hc i pins s σ H E I hf st hg => by subst hP hw hK; exact zm_item D hc I hf st hg
  done := fun X hP hw hK hc i pins s σ H E I hf st hg => by subst hP hw hK; exact zm_done D hc I hf st hg
  self := fun A i s Q E st h => wpAny_pyIter_zip st.1 h
def iZipM (K : PySem.W.Frag) (ta : TA) : TI := fun σ H R => ta σ H fun vs H1 => ∃ a b us ws, vs = [.ref a, .ref b] ∧ SqT K H1 a us ∧ SqL K H1 b ws ∧ R (ItzM K a b) H1
theorem two_rel {a b : Addr} {us : List Value} (h : Paired L2.RelV [V.ref a, V.ref b] us) : us = [.ref a, .ref b] := by
  cases h with
  | cons p t =>
    cases t with
    | cons q t =>
      cases t
      cases p
      cases q
      rfl
theorem pi_zipM {X : Cx} {e e2 : Expr} {ta : TA} {p pos tpos : Pos} {elts : List Expr} {kk : Nat} (hg : Gl X "zip") (hm : X.mg "zip" = none) (ha : PA X [e, e2] ta) (hs : starEach [e, e2] X.env = (false, eval e X.env) :: starEach [e2] X.env := by rfl)
    (hpl : (backTo pos (starEach [e2] X.env)).any (·.1) = false := by rfl) : PI X (.Tuple elts kk tpos) (.Call (.Name "zip" p) [e, e2] [] pos) (iZipM X.K ta) := by
  refine ⟨fun pins s σ H R I h => Call_ (ld_blt I hg hm PyProof.Rows.boot_zip (PyProof.Rows.callWith_type1 (thn (ha.run pos pins s σ H _ I h) fun us s1 w1 => ?_) hs hpl))⟩
  obtain ⟨vs, H1, J, rv, a, b, xs, ys, rfl, qa, qb, q⟩ := w1
  obtain rfl := two_rel rv
  obtain ⟨A1, r1, pa, _⟩ := J.tuple qa
  obtain ⟨A2, r2, pb, _⟩ := J.list qb
  obtain ⟨oa, fa, _⟩ := id pa
  have J' := J
  refine zip_begins2 (begins_tuple a A1.toArray) (begins_list b A2.toArray) pa pb.isList fun h' hz hTI hTO g1 g2 hsz hk => wpAny_pyIter_zip hz ?_
  refine ⟨_, [s1.heap.objs.size + 4, s1.heap.objs.size + 2, s1.heap.objs.size + 3, s1.heap.objs.size, s1.heap.objs.size + 1], _, _, H1, rfl, J.kept (t' := s1.toks) hk, turn_zipM (PySem.W.ktu_apart s1.heap.objs.size a b (Heap.lt_size fa) pb.lt), ⟨hz, hTI, ⟨_, _, hTO⟩, ⟨_, g1, rfl, rfl⟩, _, g2, rfl, rfl⟩, fun c hc => ?_, q⟩
  have le : s1.heap.objs.size ≤ c := five (P := fun c => s1.heap.objs.size ≤ c) hc (Nat.le_add_right _ _) (Nat.le_add_right _ _) (Nat.le_add_right _ _) (Nat.le_refl _) (Nat.le_add_right _ _)
  exact J.fpOk le (J.hok.fresh le)
section
variable {X : Cx} {ca : CA} {W : WX} {a b e : Expr} {ta tb te : TE} {ra rb re : ATE} {pos p p2 : Pos} {ts : TS} {rs : ATS}
/-- for x, y in zip(a tuple, a list) -/
def aForZipM (ra rb : ATE) (g : AG) (b : ATS) : ATS := fun Wa Da ρ Ω => ra Wa ρ Ω fun d Ω1 => rb Wa ρ Ω1 fun d2 Ω2 => ∃ xs ys, d = .tup xs ∧ d2 = .lst ys ∧ xs.length = ys.length ∧ forL g b (pairD xs ys) Wa Da ρ Ω2
theorem as_forZipM {elts : List Expr} {kk : Nat} {tpos : Pos} {l : List Stmt} {g : TG} {ag : AG} (hp : PassesOwn (model X.prog X.w) X.A X.env X.xe) (hc : X.calm = true) (hgl : Gl X "zip") (hm : X.mg "zip" = none) (ha : AE X ca W a ta ra) (hb' : AE X ca W b tb rb) (hg : AGt X ca (.Tuple elts kk tpos) g ag) (hb : ASs X ca W l ts rs)
    (hs1 : starEach [a, b] X.env = (false, eval a X.env) :: starEach [b] X.env := by rfl) (hs2 : starEach [b] X.env = (false, eval b X.env) :: starEach [] X.env := by rfl) (hpl : (backTo p2 (starEach [b] X.env)).any (·.1) = false := by rfl) (hs : ∀ x, foldedSetIterable (.Call (.Name "zip" p) [a, b] [] p2) X.env x = pure x := by intro _; rfl) :
    AS X ca W (.For (.Tuple elts kk tpos) (.Call (.Name "zip" p) [a, b] [] p2) l [] pos) (tFor (iZipM X.K (tCons ta (tCons tb tNil))) g ts) (aForZipM ra rb ag rs) :=
  ⟨ps_for hp hc (pi_zipM hgl hm (pa_cons ha.pe (pa_cons hb'.pe pa_nil hs2) hs1) hs1 hpl) hg.pe hb.pe hs, fun σ H G own ρ Ω Wa Da Dc r s h k => by
  refine ha.sim σ H G own ρ Ω Wa _ _ r s h (fun v H1 G1 own1 d Ω1 e1 r1 dv1 q1 => hb'.sim σ H1 G1 own1 ρ Ω1 Wa _ _ r1 (s.mono e1.same) q1 (fun v2 H2 G2 own2 d2 Ω2 e2 r2 dv2 q2 => ?_) ((k.kx s).mono e1)) (k.kx s)
  obtain ⟨xs, ys, rfl, rfl, hl, q⟩ := q2
  cases dv1 with
  | tup hq ds =>
  cases dv2 with
  | lst hq2 ds2 =>
    rename_i a1 us b1 ws
    have k1 := k.mono (e1.trans e2)
    have sq1 := same_seqT r2.sub (same_seqT e2.same hq)
    have sq2 := r2.sub.seq hq2
    have ds' := ds.mono e2.same
    have hlen : us.length = ws.length := by rw [ds.length, ds2.length]; exact hl
    refine ⟨a1, b1, us, ws, rfl, sq1, sq2, fun i m σ' H' => m = us.length - i ∧ i ≤ us.length ∧ ForI X.K ca ag rs (pairD xs ys) Wa Da G2 own2 H2 i σ' H', ⟨_, rfl, Nat.zero_le _, G2, own2, ρ, Ω2, Stp.refl, r2, s.mono (e1.trans e2).same, q⟩, ?_⟩
    rintro i m σ' H' ⟨rfl, hi, p⟩
    have stand : SqT X.K H' a1 us ∧ SqL X.K H' b1 ws := by
      obtain ⟨G3, own3, ρ3, Ω3, e3, r3, _⟩ := p
      exact ⟨same_seqT r3.sub (same_seqT e3.same (same_seqT e2.same hq)), r3.sub.seq (e3.same.seq hq2)⟩
    rcases Nat.lt_or_ge i us.length with hlt | hge
    · refine .inr ⟨⟨us, ws, stand.1, stand.2, _, _, List.getElem?_eq_getElem hlt, List.getElem?_eq_getElem (by omega)⟩, ForI X.K ca ag rs (pairD xs ys) Wa Da G2 own2 H2 (i + 1), fun σ3 H3 p3 => ⟨us.length - (i + 1), by omega, rfl, hlt, p3⟩, fun v H3 y => ?_⟩
      obtain ⟨T, x, y, rfl, hT, rfl, hx, hy⟩ := y
      obtain ⟨G3, own3, ρ3, Ω3, e3, r3, s3, q3⟩ := p
      obtain ⟨d1, hd1, dx⟩ := ds'.getV (hx _ stand.1)
      obtain ⟨d2, hd2, dy⟩ := ds2.getV (hy _ stand.2)
      obtain ⟨r4, e4⟩ := r3.data (u := .tup [x, y]) hT
      have st := stp_data (own := own3) (u := .tup [x, y]) e4 hT
      have hx' := pairD_get hd1 hd2
      have hlt : i < (pairD xs ys).length := (List.getElem?_eq_some_iff.mp hx').1
      have hd : (pairD xs ys).drop i = .tup [d1, d2] :: (pairD xs ys).drop (i + 1) := by
        rw [List.drop_eq_getElem_cons hlt, (List.getElem?_eq_some_iff.mp hx').2]
      rw [hd] at q3
      refine hg.sim σ' _ _ _ ρ3 Ω3 (.ref T) (.tup [d1, d2]) _ _ r4 (s3.mono e4) (.tup (SqT.of upd_same) (.cons ((dx.mono e3.same).mono e4) (.cons ((dy.mono e3.same).mono e4) .nil))) q3 fun σ2 H5 G5 own5 ρ5 Ω5 e5 r5 s5 q5 => ?_
      have e12 := (e3.trans st).trans e5
      exact hb.sim σ2 H5 G5 own5 ρ5 Ω5 Wa _ _ r5 s5 q5 ⟨fun σ3 H6 G6 own6 ρ6 Ω6 e6 r6 s6 q6 => ⟨G6, own6, ρ6, Ω6, e12.trans e6, r6, s6, q6⟩, fun _ _ _ _ _ _ e6 => k1.rt _ _ _ _ _ _ (e12.trans e6), fun _ _ _ _ _ _ e6 => k1.nx _ _ _ _ _ _ (e12.trans e6),
        fun σ3 H6 G6 own6 ρ6 Ω6 e6 r6 s6 q6 => ⟨G6, own6, ρ6, Ω6, e12.trans e6, r6, s6, q6⟩, fun _ _ _ _ _ _ _ e6 => k1.ex _ _ _ _ _ _ _ (e12.trans e6)⟩
    · have e : i = us.length := by omega
      refine .inl ⟨⟨us, ws, stand.1, stand.2, e.symm, by omega⟩, forI_end (by rw [pairD_length hl, e]; exact ds.length) k1 p⟩⟩
end
section
variable {X : Cx} {ca : CA} {W : WX} {a b : Expr} {ta tb : TE} {ra rb : ATE} {pos : Pos}
def fInD (neg : Bool) : D → D → Om → AQ → Prop := fun x y Ω Q => ∃ (ys : List D) (p : PyData) (ps : List PyData), y = .lst ys ∧ x.py = some p ∧ D.pys ys = some ps ∧ SeqAt.shaped p = true ∧ SeqAt.shaped (.list ps) = true ∧ Q (.bl (if neg then !(ps.any fun z => PyData.eqv z p) else ps.any fun z => PyData.eqv z p)) Ω
theorem simr_inD {K : PySem.W.Frag} : SimR K ca (rInD K) (fInD false) := by
  intro H G own Ω x y v w Qa Qc r dx dy h k
  obtain ⟨ys, p, ps, rfl, e1, e2, s1, s2, h⟩ := h
  exact ⟨p, ps, dx.dp r.sub e1, dy.dp r.sub (by simp only [D.py, e2, Option.map_some]), s1, s2, k _ _ _ _ _ _ Stp.refl r (.bl _) h⟩
theorem simr_notInD {K : PySem.W.Frag} : SimR K ca (rNotInD K) (fInD true) := by
  intro H G own Ω x y v w Qa Qc r dx dy h k
  obtain ⟨ys, p, ps, rfl, e1, e2, s1, s2, h⟩ := h
  exact ⟨p, ps, dx.dp r.sub e1, dy.dp r.sub (by simp only [D.py, e2, Option.map_some]), s1, s2, k _ _ _ _ _ _ Stp.refl r (.bl _) h⟩
def aInD := aOp (fInD false)
def aNotInD := aOp (fInD true)
theorem at_inD (hu : X.A.units + 65 < cLine) (ha : AE X ca W a ta ra) (hb : AE X ca W b tb rb) (hm : behindInMarks .In b = false := by rfl) : AT X ca W (.Compare a [.In] [b] pos) (tTest (tOp (rInD X.K) ta tb)) (aB (aInD ra rb)) := at_cmp (op_inD hu) simr_inD ha hb hm
theorem at_notInD (hu : X.A.units + 65 < cLine) (ha : AE X ca W a ta ra) (hb : AE X ca W b tb rb) (hm : behindInMarks .NotIn b = false := by rfl) : AT X ca W (.Compare a [.NotIn] [b] pos) (tTest (tOp (rNotInD X.K) ta tb)) (aB (aNotInD ra rb)) := at_cmp (op_notInD hu) simr_notInD ha hb hm
end
theorem u65 {k : Nat} {A : Around} (r : Room k A) : A.units + 65 < cLine := by have := r.un; omega
end PL
namespace PySem.W
open PySem
end PySem.W
namespace PL
open PySem PySem.Spec PyProof.Rows L2
section
variable {X : Cx} {ca : CA} {W : WX} {pos pos' np p p2 : Pos} {a : Addr} {oe : Obj} {cls : Value} {pn : List (Addr × Obj)} {e e1 e2 : Expr} {te : TE} {re : ATE}
def aIsE (K : PySem.W.Frag) (cls : Value) (a : Addr) (cv : Value) (re : ATE) : ATE := fun Wa ρ Ω Q => re Wa ρ Ω fun x Ω1 => x = .o a ∧ ∃ D b, cls = .ref D ∧ ExcC K D ∧ PySem.W.kitOne K (.ref D) cv = some b ∧ Q (.bl b) Ω1
def aIsET (K : PySem.W.Frag) (cls : Value) (a : Addr) (cvs : List Value) (re : ATE) : ATE := fun Wa ρ Ω Q => re Wa ρ Ω fun x Ω1 => x = .o a ∧ ∃ D b, cls = .ref D ∧ ExcC K D ∧ PySem.W.kitAny K (.ref D) cvs = some b ∧ Q (.bl b) Ω1
end
section
variable {X : Cx} {ca : CA} {W : WX} {pos pos' np : Pos} {x n : Str} {cv : Value} {i : Nat} {body suite : List Stmt} {b0 : Stmt} {tb : WX → TS} {rb : ATS} {tsu : Addr → Value → TS} {rsu : Addr → Value → ATS}
def aTryAs (c : Value → Option Bool) (i : Nat) (b : ATS) (h : Addr → Value → ATS) : ATS := fun Wa Da ρ Ω => b (fun cls ρ' Ω' => ∃ k, c cls = some k ∧ if k = true then (∀ a, Ω' a = none → h a cls Wa ⟨fun ρ Ω => Da.nx (ρ.set i none) Ω, Da.rt, fun ρ Ω => Da.bk (ρ.set i none) Ω, fun ρ Ω => Da.ct (ρ.set i none) Ω⟩ (ρ'.set i (some (.o a))) Ω') else Wa cls ρ' Ω') Da ρ Ω
end
section
variable {X : Cx} {ca : CA} {es : List Expr} {pos : Pos}
def agTupL (n : Nat) (is : List Nat) : AG := fun d ρ Ω Q => ∃ xs, d = .lst xs ∧ xs.length = n ∧ is.length = n ∧ Q (setAll ρ is xs) Ω
end
end PL
namespace PL
open PySem L2
def valD : List (Key × D) → Key → Option D
  | [], _ => none
  | p :: r, k => if p.1 = k then some p.2 else valD r k
def putD : List (Key × D) → Key → D → List (Key × D)
  | [], k, v => [(k, v)]
  | p :: r, k, v => if p.1 = k then (p.1, v) :: r.map (fun kv => if kv.1 = k then (kv.1, v) else kv) else p :: putD r k v
section
variable {K : PySem.W.Frag} {G : Hp}
theorem KVs.len {l : List (Key × V)} {m : List (Key × D)} (h : KVs K G l m) : l.length = m.length := Paired.length h
theorem KVs.val {l : List (Key × V)} {m : List (Key × D)} (h : KVs K G l m) {k : Key} {d : D} (e : valD m k = some d) : ∃ v, valV l k = some v ∧ DV K G v d := by
  unfold KVs at h
  induction h with
  | nil => cases e
  | @cons p q l m h t ih =>
    simp only [valD] at e
    by_cases c : q.1 = k
    · rw [if_pos c] at e
      cases e
      exact ⟨p.2, valV_pos (h.1.trans c), h.2⟩
    · rw [if_neg c] at e
      obtain ⟨v, h1, h2⟩ := ih e
      exact ⟨v, by rw [valV_neg (fun z => c (h.1.symm.trans z))]; exact h1, h2⟩
end
section
variable {X : Cx} {ca : CA} {W : WX} {o i e v : Expr} {pos pos' : Pos} {td ty tv : TE} {rd ry rv : ATE}
/-- d[k] -/
def aDGet (rd ry : ATE) : ATE := fun Wa ρ Ω Q => rd Wa ρ Ω fun x Ω1 => ry Wa ρ Ω1 fun y Ω2 => ∃ a m k d, x = .o a ∧ Ω2 a = some (.dic m) ∧ y = .str k ∧ valD m (.inr k) = some d ∧ Q d Ω2
/-- d[k] = v -/
def aDPut (rd ry rv : ATE) : ATS := fun Wa Da ρ Ω => rv Wa ρ Ω fun z Ω1 => rd Wa ρ Ω1 fun x Ω2 => ry Wa ρ Ω2 fun y Ω3 => ∃ a m k, x = .o a ∧ Ω3 a = some (.dic m) ∧ y = .str k ∧ m.length < 1000 ∧ Da.nx ρ (oset Ω3 a (.dic (putD m (.inr k) z)))
def aDisp (ks : List Str) (rr : ATA) : ATE := fun Wa ρ Ω Q => rr Wa ρ Ω fun ds Ω1 => ∀ p, Ω1 p = none → Q (.o p) (oset Ω1 p (.dic ((ks.map Sum.inr).zip ds)))
end
end PL
namespace RT
open PySem PySem.Spec PyProof.Rows
section
variable {prog : Program} {w : World} {A : Around} {s : Shared} {R : Result → Shared → Prop}
theorem extend_rev {it l : Addr} {items : Array Value} (hh : A.in1.handled = none) (S : Addr) (res : Value) (hit : s.heap.IsRevIter it l ((items.size : Int) - 1)) (hl : s.heap.IsList l items) (hne : l ≠ it) (hSf : S ∉ [it, l]) {c₀ : Nat} (hn : items.size ≤ sizeLine)
    (hS : s.heap.get? S = some { cls := .type "list", data := .seq #[] c₀ })
    (hR : ∀ s' acc' c', (∀ b o, b ≠ it → b ≠ S → s.heap.get? b = some o → s'.heap.get? b = some o) → (∃ tk h', s' = { s with heap := h', toks := tk }) → s'.heap.get? S = some { cls := .type "list", dict := none, data := .seq acc' c', slots := #[] } → ItemsOf (fun i v => items[items.size - 1 - i]? = some v) acc' items.size → R (.ok (.ret res)) s') :
    wpAny (model prog w) A.in1 (Builtin.List.listExtendWith (.ref S) (.ref it) res)
      (fun fin s' => match fin with | .done f => R (.ok f) s' | .again c' => c'.quiet = true ∧ codeAny (model prog w) A c' R s') (fun e s' => R (.error e) s') s := by
  have W := (Walks.listRev (prog := prog) (w := w) (A := A.in1) hh it l hne items).toS
  have hT : s.TypeIs (.ref it) "list_reverseiterator" := Heap.IsRevIter.typeIs (s := s) hit
  have hSi : S ≠ it := fun e => hSf (by rw [e]; simp)
  have h1 : Builtin.List.listSameRef (.ref S) (.ref it) = false := by simp [Builtin.List.listSameRef, hSi]
  unfold Builtin.List.listExtendWith
  refine wpAny_bind (wpAny_typeOf hT ?_)
  rw [if_neg (by rw [h1]; decide)]
  refine wpAny_bind (wpAny_pyIter_revIter (s := s) hit ?_)
  refine wpAny_bind (wpAny_holding ?_)
  unfold Builtin.List.listLengthHint
  refine wpAny_bind (wpAny_specialOf hT nolen_lri ?_)
  show wpAny _ A.in1 (specialOf (Value.ref it) (Str.ofString "__length_hint__") >>= _) _ _ _
  refine wpAny_bind (wpAny_specialOf hT hint_lri ?_)
  generalize hid : ("list_reverseiterator.__length_hint__" : String) = id0
  wp_delta
  rw [show splitId id0 = some ("list_reverseiterator", "__length_hint__") from by subst hid; decide +kernel]
  subst hid
  refine wpAny_bind (wpAny_isInstance (b := true) hT (by rw [isSubtype_type]; kernel_rfl) ?_)
  refine wpAny_pure ?_
  rw [if_neg (by decide)]
  have e0 : ((items.size : Nat) : Int) - 1 - ((0 : Nat) : Int) = (items.size : Int) - 1 := by omega
  refine wpAny_pure ⟨plainId_quiet F.plain_extend_loop _, codeAny_extend_loopS W hn _ hSf _ items.size 0 _ _ _ rfl (Nat.zero_le _) ⟨Nat.zero_le _, by rw [e0]; exact hit, hl⟩ hS (ItemsOf.nil _) fun s' acc' c' hm hS' hacc => ?_⟩
  refine hR s' acc' c' (fun b o hb hbS e => hm.heap b o (fun hmem => ?_) e) ⟨_, _, Moved.eq_with hm⟩ hS' hacc
  rcases List.mem_cons.mp hmem with e' | hmem
  · exact hbS e'
  · exact hb (List.mem_singleton.mp hmem)
theorem init_rev {it l : Addr} {items : Array Value} (hh : A.in1.handled = none) (S : Addr) (hit : s.heap.IsRevIter it l ((items.size : Int) - 1)) (hl : s.heap.IsList l items) (hne : l ≠ it) (hSf : S ∉ [it, l]) (hn : items.size ≤ sizeLine)
    (hS : s.heap.get? S = some { cls := .type "list", data := .seq #[] })
    (hR : ∀ s' acc' c', (∀ b o, b ≠ it → b ≠ S → s.heap.get? b = some o → s'.heap.get? b = some o) → (∃ tk h', s' = { s with heap := h', toks := tk }) → s'.heap.get? S = some { cls := .type "list", dict := none, data := .seq acc' c', slots := #[] } → ItemsOf (fun i v => items[items.size - 1 - i]? = some v) acc' items.size → R (.ok (.ret .none)) s') :
    wpAny (model prog w) A.in1 (Builtin.«list.__init__» ⟨[.ref S, .ref it], []⟩)
      (fun fin s' => match fin with | .done f => R (.ok f) s' | .again c' => c'.quiet = true ∧ codeAny (model prog w) A c' R s') (fun e s' => R (.error e) s') s := by
  have hSi : S ≠ it := fun e => hSf (by rw [e]; simp)
  have hSl : S ≠ l := fun e => hSf (by rw [e]; simp)
  show wpAny _ A.in1 (do let old ← Builtin.List.listItems (.ref S); Builtin.List.listUpdate (.ref S) (fun _ => #[]); letGo old.toList.reverse; Builtin.List.listExtendWith (.ref S) (.ref it) .none) _ _ s
  refine wpAny_bind ?_
  unfold Builtin.List.listItems
  refine wpAny_bind (wpAny_seqItems hS rfl (wpAny_pure ?_))
  show wpAny _ A.in1 (updateSeq S (fun _ => #[]) >>= fun _ => letGo (#[] : Array Value).toList.reverse >>= fun _ => Builtin.List.listExtendWith (.ref S) (.ref it) .none) _ _ s
  refine wpAny_bind (wpAny_updateSeq hS rfl ?_)
  have hS₂ := Heap.get?_update_self (Obj.mapSeq (fun _ => (#[] : Array Value))) hS rfl
  have oth : ∀ b o, b ≠ S → s.heap.get? b = some o → (s.heap.update S (Obj.mapSeq (fun _ => (#[] : Array Value)))).get? b = some o :=
    fun b o hb e => (Heap.get?_update_other _ _ (Ne.symm hb)).trans e
  refine wpAny_bind (wpAny_letGo ?_)
  refine extend_rev (s := { s with heap := s.heap.update S (Obj.mapSeq (fun _ => (#[] : Array Value))) }) hh S .none (hit.at fun o e => oth it o (Ne.symm hSi) e) ?_ hne hSf hn hS₂ fun s' acc' c' hk he hS' hacc => ?_
  · obtain ⟨o, e, c⟩ := id hl
    exact ⟨o, oth l o (Ne.symm hSl) e, c⟩
  · refine hR s' acc' c' (fun b o hb hbS e => hk b o hb hbS (oth b o hbS e)) ?_ hS' hacc
    obtain ⟨tk, h', e⟩ := he
    exact ⟨tk, h', e⟩
theorem call_list_rev {it l : Addr} {items : Array Value} {Q : Value → Shared → Prop} {E : Value → Shared → Prop} (hh : A.in1.in1.handled = none) (hit : s.heap.IsRevIter it l ((items.size : Int) - 1)) (hl : s.heap.IsList l items) (hne : l ≠ it) (hn : items.size ≤ sizeLine)
    (hQ : ∀ (h' : Heap) (tk : Nat) (acc : Array Value) (c : Nat), (∀ b o, b ≠ it → s.heap.get? b = some o → h'.get? b = some o) → h'.get? s.heap.objs.size = some { cls := .type "list", dict := none, data := .seq acc c, slots := #[] } → ItemsOf (fun i v => items[items.size - 1 - i]? = some v) acc items.size →
      Q (.ref s.heap.objs.size) { s with heap := h', toks := tk }) :
    wpAny (model prog w) A (call (.type "list") [.ref it]) Q E s := by
  obtain ⟨oi, hoi, ci⟩ := id hit
  obtain ⟨ol, hol, cl⟩ := id hl
  have hSi : s.heap.objs.size ≠ it := Nat.ne_of_gt (Heap.lt_size hoi)
  have hSl : s.heap.objs.size ≠ l := Nat.ne_of_gt (Heap.lt_size hol)
  have hSf : s.heap.objs.size ∉ [it, l] := by simp only [List.mem_cons, List.not_mem_nil, or_false, not_or]; exact ⟨hSi, hSl⟩
  refine callType_codes (Q₁ := fun obj s₁ => obj = .ref s.heap.objs.size ∧ s₁ = { s with heap := s.heap.push { cls := .type "list", data := .seq #[] } }) F.called_list (F.typeCall_list_1 _) F.entry_list_init
    (code_list_new _ ⟨rfl, rfl⟩) fun obj s₁ h₁ => ?_
  obtain ⟨rfl, rfl⟩ := h₁
  have hS : (s.heap.push { cls := .type "list", data := .seq #[] }).get? s.heap.objs.size = some { cls := .type "list", data := .seq #[] } := Heap.get?_push_size _ rfl
  refine ⟨⟨_, hS, rfl⟩, F.args_list_init_2 _ _, init_rev (s := { s with heap := s.heap.push { cls := .type "list", data := .seq #[] } }) hh _ (hit.at fun o e => Heap.get?_push_of_some _ e) (hl.push _) hne hSf hn hS fun s' acc' c' hk he hS' hacc => ?_⟩
  obtain ⟨tk, h', rfl⟩ := he
  refine ⟨rfl, hQ h' tk acc' c' (fun b o hb e => hk b o hb (fun z => ?_) (Heap.get?_push_of_some _ e)) hS' hacc⟩
  exact absurd (Heap.lt_size e) (by rw [z]; exact Nat.lt_irrefl _)
end
open PySem PySem.Spec PyProof.Rows L2
def tListRev (K : PySem.W.Frag) (te : TE) : TE := fun σ H Q => te σ H fun v H1 => ∃ (a : Addr) (xs : List V), v = .ref a ∧ SqL K H1 a xs ∧ ∀ q, H1 q = none → Q (.ref q) (upd H1 q (.lst xs.reverse))
section
variable {X : Cx}
theorem pe_listRev {e : Expr} {te : TE} {p p2 pos pos2 : Pos} (hc : X.calm = true) (hg : Gl X "list") (hm : X.mg "list" = none) (hg2 : Gl X "reversed") (hm2 : X.mg "reversed" = none) (he : PE X e te)
    (hs : starEach [e] X.env = (false, eval e X.env) :: starEach [] X.env := by rfl)
    (hs2 : starEach [.Call (.Name "reversed" p2) [e] [] pos2] X.env = (false, eval (.Call (.Name "reversed" p2) [e] [] pos2) X.env) :: starEach [] X.env := by rfl) :
    PE X (.Call (.Name "list" p) [.Call (.Name "reversed" p2) [e] [] pos2] [] pos) (tListRev X.K te) := by
  refine ⟨fun pins s σ H Q I h => ?_⟩
  refine Call_ (ld_blt I hg hm PL.boot_list' (PyProof.Rows.callWith_type1 (args_cons (Call_ (ld_blt I hg2 hm2 PyProof.Rows.boot_reversed (PyProof.Rows.callWith_type1 (args_cons (thn (he.run pins s σ H _ I h) fun u s1 ⟨v, H1, I1, r1, q1⟩ => args_nil ?_) hs) hs rfl))) hs2) hs2 rfl))
  obtain ⟨a, xs, ev, hq, q⟩ := q1
  subst ev
  obtain rfl : u = Value.ref a := r1
  obtain ⟨its, rv, p', hz⟩ := I1.list hq
  refine call_reversed_list p'.isList (args_nil ?_)
  have hl := p'.isList
  obtain ⟨ol, hol, _⟩ := id hl
  have hne : a ≠ s1.heap.objs.size := Nat.ne_of_lt (Heap.lt_size hol)
  have hn : its.toArray.size ≤ sizeLine := by rw [List.size_toArray, ← rv.length]; exact hz
  refine call_list_rev (s := { s1 with heap := s1.heap.push (revObj a ((its.toArray.size : Int) - 1)) }) (I1.ok.hd hc) ⟨_, Heap.get?_push_size _ rfl, rfl, rfl⟩ (hl.push _) hne hn fun h' tk acc c hk hS hi => ?_
  have hlen : (s1.heap.push (revObj a ((its.toArray.size : Int) - 1))).objs.size = s1.heap.objs.size + 1 := by simp [Heap.push]
  have hk1 : ∀ b o, s1.heap.get? b = some o → h'.get? b = some o := fun b o e => hk b o (Nat.ne_of_lt (Heap.lt_size e)) (Heap.get?_push_of_some _ e)
  refine ⟨.ref (s1.heap.push (revObj a ((its.toArray.size : Int) - 1))).objs.size, upd H1 _ (.lst xs.reverse), I1.laid (t' := tk) (a := (s1.heap.push (revObj a ((its.toArray.size : Int) - 1))).objs.size) hk1 (by rw [hlen]; omega) (show ObjOk X.prog X.w _ _ _ (.lst xs.reverse) from ⟨by rw [List.length_reverse]; exact hz, acc.toList, c, vals_rev rv hi, ?_⟩), rfl, q _ (I1.hok.fresh (by rw [hlen]; omega))⟩
  rw [Array.toArray_toList]
  exact hS
end
end RT
namespace PL
open PySem PySem.Spec PyProof.Rows L2 RT
section
variable {X : Cx} {ca : CA} {W : WX} {e : Expr} {te : TE} {re : ATE}
/-- list(reversed(x)), x a list -/
def aListRev (re : ATE) : ATE := fun Wa ρ Ω Q => re Wa ρ Ω fun d Ω1 => ∃ xs, (d = .lst xs ∨ ∃ a, d = .o a ∧ Ω1 a = some (.lst xs)) ∧ Q (.lst xs.reverse) Ω1
theorem ae_listRev {p p2 pos pos2 : Pos} (hc : X.calm = true) (hg : Gl X "list") (hm : X.mg "list" = none) (hg2 : Gl X "reversed") (hm2 : X.mg "reversed" = none) (ha : AE X ca W e te re)
    (hs : starEach [e] X.env = (false, eval e X.env) :: starEach [] X.env := by rfl)
    (hs2 : starEach [.Call (.Name "reversed" p2) [e] [] pos2] X.env = (false, eval (.Call (.Name "reversed" p2) [e] [] pos2) X.env) :: starEach [] X.env := by rfl) :
    AE X ca W (.Call (.Name "list" p) [.Call (.Name "reversed" p2) [e] [] pos2] [] pos) (tListRev X.K te) (aListRev re) :=
  ⟨pe_listRev hc hg hm hg2 hm2 ha.pe hs hs2, fun σ H G own ρ Ω Wa Qa Qc r s h k kx => ha.sim σ H G own ρ Ω Wa _ _ r s h (fun v H1 G1 own1 d Ω1 e1 r1 dv1 q1 => by
    obtain ⟨xs, hx, q⟩ := q1
    obtain ⟨p, vs, rfl, ds, hv⟩ : ∃ p vs, v = .ref p ∧ DVs X.K G1 vs xs ∧ SqL X.K H1 p vs := by
      rcases hx with rfl | ⟨a, rfl, ha⟩
      · cases dv1 with
        | lst a b => exact ⟨_, _, rfl, b, r1.sub.seq a⟩
      · cases dv1
        obtain ⟨vs, hv, dv⟩ := r1.lstAt ha
        exact ⟨_, vs, rfl, dv, SqL.of hv⟩
    refine ⟨p, vs, rfl, hv, fun q' hq => ?_⟩
    obtain ⟨r4, e4⟩ := r1.data (u := .lst vs.reverse) hq
    exact k _ _ _ _ _ _ (e1.trans (stp_data e4 hq)) r4 (.lst (SqL.of upd_same) (ds.rev.mono e4)) q) kx⟩
end
end PL
namespace PL
abbrev T3 := Int × Int × Int
theorem sqNN (x : Int) : 0 ≤ x * x := by
  rcases Int.le_total 0 x with h | h
  · exact Int.mul_nonneg h h
  · exact Int.mul_nonneg_of_nonpos_of_nonpos h h
/-- the greatest whole number whose square is no greater -/
def isqN : Nat → Nat
  | 0 => 0
  | n + 1 => if (isqN n + 1) * (isqN n + 1) ≤ n + 1 then isqN n + 1 else isqN n
def isq (n : Int) : Int := (isqN n.toNat : Nat)
theorem isqN_spec : ∀ n : Nat, isqN n * isqN n ≤ n ∧ n < (isqN n + 1) * (isqN n + 1)
  | 0 => by simp [isqN]
  | n + 1 => by
    obtain ⟨h1, h2⟩ := isqN_spec n
    unfold isqN
    split
    · rename_i h
      refine ⟨h, ?_⟩
      have : (isqN n + 1 + 1) * (isqN n + 1 + 1) = (isqN n + 1) * (isqN n + 1) + 2 * isqN n + 3 := by grind
      omega
    · omega
theorem isq_spec {n : Int} (h : 0 ≤ n) : 0 ≤ isq n ∧ isq n * isq n ≤ n ∧ n < (isq n + 1) * (isq n + 1) := by
  obtain ⟨m, rfl⟩ := Int.eq_ofNat_of_zero_le h
  obtain ⟨h1, h2⟩ := isqN_spec m
  unfold isq
  rw [Int.toNat_natCast]
  refine ⟨by omega, ?_, ?_⟩
  · exact_mod_cast h1
  · exact_mod_cast h2
/-- x no greater than a root of s -/
theorem le_isq {s g : Int} (h0 : 0 ≤ g) (h1 : g * g ≤ s) (h2 : s < (g + 1) * (g + 1)) (z : Int) : z ≤ g ↔ z ≤ 0 ∨ z * z ≤ s := by
  constructor
  · intro h
    rcases Int.lt_or_le 0 z with w | w
    · have : z * z ≤ g * g := Int.mul_le_mul h h (by omega) h0
      exact .inr (by omega)
    · exact .inl w
  · rintro (h | h)
    · omega
    · rcases Int.lt_or_le g z with w | w
      · have : (g + 1) * (g + 1) ≤ z * z := Int.mul_le_mul (by omega) (by omega) (by omega) (by omega)
        omega
      · exact w
theorem isq_uniq {s g : Int} (h0 : 0 ≤ g) (h1 : g * g ≤ s) (h2 : s < (g + 1) * (g + 1)) : isq s = g := by
  have hs : 0 ≤ s := by have := Int.mul_nonneg h0 h0; omega
  obtain ⟨k0, k1, k2⟩ := isq_spec hs
  have a1 := (le_isq h0 h1 h2 (isq s)).mpr (.inr k1)
  have a2 := (le_isq k0 k1 k2 g).mpr (.inr h1)
  omega
theorem isq_scale {s g f k : Int} (hk : 0 < k) (g0 : 0 ≤ g) (g1 : g * g ≤ s) (g2 : s < (g + 1) * (g + 1)) (f0 : 0 ≤ f) (f1 : f * f ≤ k * k * s) (f2 : k * k * s < (f + 1) * (f + 1)) (z : Int) : z ≤ g ↔ k * z ≤ f := by
  rw [le_isq g0 g1 g2, le_isq f0 f1 f2]
  have e : k * z * (k * z) = k * k * (z * z) := by grind
  have hkk : 0 < k * k := Int.mul_pos hk hk
  rw [e]
  constructor
  · rintro (h | h)
    · exact .inl (Int.mul_nonpos_of_nonneg_of_nonpos (Int.le_of_lt hk) h)
    · exact .inr (Int.mul_le_mul_of_nonneg_left h (Int.le_of_lt hkk))
  · rintro (h | h)
    · left
      rcases Int.lt_or_le 0 z with w | w
      · have := Int.mul_pos hk w; omega
      · exact w
    · exact .inr (Int.le_of_mul_le_mul_left h hkk)
theorem le_fdiv_pos {x c y : Int} (hc : 0 < c) : y ≤ x.fdiv c ↔ y * c ≤ x := by
  have e := Int.mul_fdiv_add_fmod x c
  have h1 := Int.fmod_nonneg_of_pos x hc
  have h2 := Int.fmod_lt_of_pos x hc
  generalize x.fdiv c = q at *
  constructor
  · intro h
    have := Int.mul_le_mul_of_nonneg_right h (Int.le_of_lt hc)
    have e2 : q * c = c * q := Int.mul_comm ..
    omega
  · intro h
    rcases Int.lt_or_le q y with w | w
    · have := Int.mul_le_mul_of_nonneg_right (show q + 1 ≤ y by omega) (Int.le_of_lt hc)
      have e2 : (q + 1) * c = c * q + c := by grind
      omega
    · exact w
theorem le_fdiv_neg {x c y : Int} (hc : c < 0) : y ≤ x.fdiv c ↔ x ≤ y * c := by
  have e := Int.mul_fdiv_add_fmod x c
  obtain ⟨h1, h2⟩ := fmod_neg' (t := x) hc
  generalize x.fdiv c = q at *
  constructor
  · intro h
    have := Int.mul_le_mul_of_nonpos_right h (Int.le_of_lt hc)
    have e2 : q * c = c * q := Int.mul_comm ..
    omega
  · intro h
    rcases Int.lt_or_le q y with w | w
    · have := Int.mul_le_mul_of_nonpos_right (show q + 1 ≤ y by omega) (Int.le_of_lt hc)
      have e2 : (q + 1) * c = c * q + c := by grind
      omega
    · exact w
def gcd3 (x y z : Int) : Nat := Int.gcd ((Int.gcd x y : Nat) : Int) z
def madeT (x y z : Int) : T3 := (x.fdiv (if z < 0 then 0 - (gcd3 x y z : Int) else gcd3 x y z), y.fdiv (if z < 0 then 0 - (gcd3 x y z : Int) else gcd3 x y z), z.fdiv (if z < 0 then 0 - (gcd3 x y z : Int) else gcd3 x y z))
structure Nm (p : T3) : Prop where
  pos : 0 < p.2.2
  one : gcd3 p.1 p.2.1 p.2.2 = 1
theorem gcd3_mul (k a b c : Int) : gcd3 (k * a) (k * b) (k * c) = k.natAbs * gcd3 a b c := by
  unfold gcd3
  rw [Int.gcd_mul_left]
  have e : ((k.natAbs * Int.gcd a b : Nat) : Int) = (k.natAbs : Int) * (Int.gcd a b : Nat) := by simp
  have e2 : Int.gcd ((k.natAbs : Int) * (Int.gcd a b : Nat)) (k * c) = Int.gcd (k * (Int.gcd a b : Nat)) (k * c) := by
    rcases Int.natAbs_eq k with h | h
    · conv => lhs; rw [show ((k.natAbs : Int)) = k from h.symm]
    · have : (k.natAbs : Int) = -k := by omega
      rw [this, Int.neg_mul, Int.neg_gcd]
  rw [e, e2, Int.gcd_mul_left]
theorem gcd3_dvd (x y z : Int) : ((gcd3 x y z : Nat) : Int) ∣ x ∧ ((gcd3 x y z : Nat) : Int) ∣ y ∧ ((gcd3 x y z : Nat) : Int) ∣ z := by
  unfold gcd3
  have h1 : ((Int.gcd ((Int.gcd x y : Nat) : Int) z : Nat) : Int) ∣ ((Int.gcd x y : Nat) : Int) := Int.gcd_dvd_left ..
  exact ⟨Int.dvd_trans h1 (Int.gcd_dvd_left ..), Int.dvd_trans h1 (Int.gcd_dvd_right ..), Int.gcd_dvd_right ..⟩
theorem dvd_gcd3 {c x y z : Int} (h1 : c ∣ x) (h2 : c ∣ y) (h3 : c ∣ z) : c ∣ (gcd3 x y z : Nat) := by
  unfold gcd3
  exact Int.dvd_coe_gcd (Int.dvd_coe_gcd h1 h2) h3
theorem madeT_spec {x y z : Int} (hz : z ≠ 0) : ∃ g : Int, g ≠ 0 ∧ x = g * (madeT x y z).1 ∧ y = g * (madeT x y z).2.1 ∧ z = g * (madeT x y z).2.2 ∧ Nm (madeT x y z) := by
  obtain ⟨⟨a, ha⟩, ⟨b, hb⟩, ⟨c, hc⟩⟩ := gcd3_dvd x y z
  have g0 : 0 < gcd3 x y z := Int.gcd_pos_of_ne_zero_right _ hz
  have hg : gcd3 x y z = (gcd3 x y z) * gcd3 a b c := by
    have := gcd3_mul (gcd3 x y z) a b c
    rw [← ha, ← hb, ← hc] at this
    simpa using this
  have one : gcd3 a b c = 1 := Nat.eq_of_mul_eq_mul_left g0 (by rw [← hg, Nat.mul_one])
  unfold madeT
  generalize gcd3 x y z = g at *
  by_cases e : z < 0
  · rw [if_pos e]
    have hcn : c < 0 := by
      rcases Int.lt_or_le c 0 with w | w
      · exact w
      · have := Int.mul_nonneg (show (0 : Int) ≤ g by omega) w; omega
    have f : ∀ u v : Int, u = (g : Int) * v → u.fdiv (0 - (g : Int)) = -v := fun u v h => by
      rw [h, show (g : Int) * v = (0 - (g : Int)) * (-v) by grind, Int.mul_fdiv_cancel_left _ (by omega)]
    rw [f x a ha, f y b hb, f z c hc]
    refine ⟨-(g : Int), by omega, by simp only; grind, by simp only; grind, by simp only; grind, ⟨by simp only; omega, ?_⟩⟩
    have := gcd3_mul (-1) a b c
    simp only [Int.neg_mul, Int.one_mul] at this
    simp only
    rw [this, one]
    rfl
  · rw [if_neg e]
    have hcp : 0 < c := by
      rcases Int.lt_trichotomy c 0 with w | w | w
      · have := Int.mul_neg_of_pos_of_neg (show (0 : Int) < g by omega) w; omega
      · rw [w, Int.mul_zero] at hc; exact absurd hc hz
      · exact w
    have f : ∀ u v : Int, u = (g : Int) * v → u.fdiv (g : Int) = v := fun u v h => by rw [h, Int.mul_fdiv_cancel_left _ (by omega)]
    rw [f x a ha, f y b hb, f z c hc]
    exact ⟨(g : Int), by omega, ha, hb, hc, ⟨hcp, one⟩⟩
/-- the same number, told by t, m and β -/
structure Px (p : T3) (t m β : Int) : Prop where
  one : p.1 * β = t * p.2.2
  two : p.2.1 * β = m * p.2.2
  ne : β ≠ 0
theorem Px.k {p : T3} {t m β : Int} (hp : Nm p) (h : Px p t m β) : ∃ k : Int, k ≠ 0 ∧ t = k * p.1 ∧ m = k * p.2.1 ∧ β = k * p.2.2 := by
  obtain ⟨h1, h2, h3⟩ := h
  obtain ⟨hc, hg⟩ := hp
  obtain ⟨a, b, c⟩ := p
  simp only at *
  have d1 : c ∣ (gcd3 (β * a) (β * b) (β * c) : Nat) := dvd_gcd3 ⟨t, by grind⟩ ⟨m, by grind⟩ ⟨β, by grind⟩
  rw [gcd3_mul, hg, Nat.mul_one] at d1
  have d2 : c ∣ β := by
    rcases Int.natAbs_eq β with w | w
    · rw [w]; exact d1
    · rw [w]; exact Int.dvd_neg.mpr d1
  obtain ⟨k, hk⟩ := d2
  have hcc : c ≠ 0 := by omega
  refine ⟨k, fun z => by rw [z, Int.mul_zero] at hk; exact h3 hk, ?_, ?_, by rw [hk]; grind⟩
  · refine Int.eq_of_mul_eq_mul_right hcc ?_
    rw [← h1, hk]; grind
  · refine Int.eq_of_mul_eq_mul_right hcc ?_
    rw [← h2, hk]; grind
theorem Px.le {p : T3} {t m β : Int} (hp : Nm p) (h : Px p t m β) : p.1.natAbs ≤ t.natAbs ∧ p.2.1.natAbs ≤ m.natAbs ∧ p.2.2.natAbs ≤ β.natAbs := by
  obtain ⟨k, k0, h1, h2, h3⟩ := h.k hp
  rw [h1, h2, h3, Int.natAbs_mul, Int.natAbs_mul, Int.natAbs_mul]
  exact ⟨Nat.le_mul_of_pos_left _ (by omega), Nat.le_mul_of_pos_left _ (by omega), Nat.le_mul_of_pos_left _ (by omega)⟩
theorem madeT_px {x y z : Int} (hz : z ≠ 0) : Px (madeT x y z) x y z ∧ Nm (madeT x y z) := by
  obtain ⟨g, g0, h1, h2, h3, h4⟩ := madeT_spec (x := x) (y := y) hz
  generalize madeT x y z = p at *
  exact ⟨⟨by rw [h1, h3]; grind, by rw [h2, h3]; grind, hz⟩, h4⟩
def sumT (p q : T3) (k : Int) : T3 := madeT (p.1 * q.2.2 + k * q.1 * p.2.2) (p.2.1 * q.2.2 + k * q.2.1 * p.2.2) (p.2.2 * q.2.2)
def prodT (p q : T3) (d : Int) : T3 := madeT (p.1 * q.1 + d * p.2.1 * q.2.1) (p.1 * q.2.1 + p.2.1 * q.1) (p.2.2 * q.2.2)
def quotT (p q : T3) (d : Int) : Option T3 := if q.1 = 0 ∧ q.2.1 = 0 then none else some (prodT p (madeT (q.2.2 * q.1) (0 - q.2.2 * q.2.1) (q.1 * q.1 - d * q.2.1 * q.2.1)) d)
def rootT (p : T3) (d : Int) : Int := if p.2.1 < 0 then 0 - isq (p.2.1 * p.2.1 * d) - (if isq (p.2.1 * p.2.1 * d) * isq (p.2.1 * p.2.1 * d) < p.2.1 * p.2.1 * d then 1 else 0) else isq (p.2.1 * p.2.1 * d)
def belowT (p : T3) (d : Int) : Int := (p.1 + rootT p d).fdiv p.2.2
def nextT (p : T3) (d : Int) : Option T3 := quotT (1, 0, 1) (sumT p (belowT p d, 0, 1) (-1)) d
def partsT (d : Int) : Nat → Option T3 → List Int
  | 0, _ => []
  | _, none => []
  | n + 1, some p => belowT p d :: partsT d n (nextT p d)
/-- d is no square -/
def NSq (d : Int) : Prop := 0 < d ∧ ∀ x y : Int, y ≠ 0 → x * x ≠ d * y * y
theorem alg_q {a b c d q z1 z2 z3 a1 b1 c1 a2 b2 c2 a3 b3 c3 : Int} (u1 : a + -1 * q * c = z1 * a1) (u2 : b = z1 * b1) (u3 : c = z1 * c1) (v1 : c1 * a1 = z2 * a2) (v2 : 0 - c1 * b1 = z2 * b2) (v3 : a1 * a1 - d * b1 * b1 = z2 * c2) (w1 : a2 = z3 * a3) (w2 : b2 = z3 * b3) (w3 : c2 = z3 * c3) :
    z1 * z1 * z2 * z3 * a3 = c * (a - q * c) ∧ z1 * z1 * z2 * z3 * b3 = - (c * b) ∧ z1 * z1 * z2 * z3 * c3 = (a - q * c) * (a - q * c) - d * b * b := by
  have e1 : a - q * c = z1 * a1 := by rw [← u1]; grind
  rw [e1]
  subst w1 w2 w3 u2 u3
  refine ⟨?_, ?_, ?_⟩
  · have : z1 * z1 * z2 * z3 * a3 = z1 * z1 * (z2 * (z3 * a3)) := by grind
    rw [this, ← v1]; grind
  · have : z1 * z1 * z2 * z3 * b3 = z1 * z1 * (z2 * (z3 * b3)) := by grind
    rw [this, ← v2]; grind
  · have : z1 * z1 * z2 * z3 * c3 = z1 * z1 * (z2 * (z3 * c3)) := by grind
    rw [this, ← v3]; grind
theorem alg_r {a b c d q k t m β s : Int} (ht : t = k * a) (hmk : m = k * b) (hβ : β = k * c) (hs : s = d * m * m) :
    c * (a - q * c) * (s - (q * β - t) * (q * β - t)) = ((a - q * c) * (a - q * c) - d * b * b) * (β * (q * β - t)) ∧
    -(c * b) * (s - (q * β - t) * (q * β - t)) = ((a - q * c) * (a - q * c) - d * b * b) * (β * m) := by
  subst ht hmk hβ hs
  constructor <;> grind
/-- the next number, of a root's -/
theorem stepQ {d : Int} (hd : NSq d) {p : T3} (hp : Nm p) {t m s β f : Int} (hm : 0 < m) (hs : s = d * m * m) (R : RtI t s β f) (P : Px p t m β) :
    belowT p d = (t + f + (if β < 0 then 1 else 0)).fdiv β ∧ ∃ p', nextT p d = some p' ∧ Nm p' ∧ Px p' (belowT p d * β - t) m ((s - (belowT p d * β - t) * (belowT p d * β - t)).fdiv β) := by
  obtain ⟨k, k0, ht, hmk, hβ⟩ := P.k hp
  have hc := hp.pos
  have R' := R
  obtain ⟨f0, lo, hi, b0, e, he⟩ := R
  obtain ⟨hd0, hns⟩ := hd
  obtain ⟨a, b, c⟩ := p
  simp only at *
  have hb0 : b ≠ 0 := fun z => by rw [z, Int.mul_zero] at hmk; omega
  have hS : 0 ≤ b * b * d := Int.mul_nonneg (sqNN b) (Int.le_of_lt hd0)
  obtain ⟨g0, g1, g2⟩ := isq_spec hS
  have hne : isq (b * b * d) * isq (b * b * d) ≠ b * b * d := fun z => hns (isq (b * b * d)) b hb0 (by rw [z]; grind)
  have hsk : s = k * k * (b * b * d) := by rw [hs, hmk]; grind
  have hq : belowT (a, b, c) d = (t + f + (if β < 0 then 1 else 0)).fdiv β := by
    unfold belowT rootT
    simp only
    generalize hg : isq (b * b * d) = g at *
    rcases Int.lt_or_gt_of_ne k0 with hk | hk
    · have hbn : b < 0 := by
        rcases Int.lt_or_le b 0 with w | w
        · exact w
        · have := Int.mul_nonpos_of_nonpos_of_nonneg (Int.le_of_lt hk) w; omega
      have hβn : β < 0 := by rw [hβ]; exact Int.mul_neg_of_neg_of_pos hk hc
      rw [if_pos hbn, if_pos (by omega), if_pos hβn]
      have key : ∀ y : Int, y ≤ (a + (0 - g - 1)).fdiv c ↔ y ≤ (t + f + 1).fdiv β := fun y => by
        rw [le_fdiv_pos hc, le_fdiv_neg hβn]
        have hsc := isq_scale (s := b * b * d) (g := g) (f := f) (k := -k) (by omega) g0 g1 g2 f0 (by rw [show -k * -k = k * k by grind, ← hsk]; omega) (by rw [show -k * -k = k * k by grind, ← hsk]; exact hi) (a - y * c)
        have e1 : -k * (a - y * c) = y * β - t := by rw [hβ, ht]; grind
        rw [e1] at hsc
        constructor
        · intro h
          rcases Int.lt_or_le (y * β) (t + f + 1) with w | w
          · have := hsc.mpr (by omega); omega
          · exact w
        · intro h
          rcases Int.lt_or_le (a + (0 - g - 1)) (y * c) with w | w
          · have := hsc.mp (by omega); omega
          · exact w
      have a1 := (key _).mp (Int.le_refl _)
      have a2 := (key _).mpr (Int.le_refl _)
      omega
    · have hbp : ¬ b < 0 := fun w => by
        have := Int.mul_neg_of_pos_of_neg hk w; omega
      have hβp : 0 < β := by rw [hβ]; exact Int.mul_pos hk hc
      rw [if_neg hbp, if_neg (by omega), Int.add_zero]
      have key : ∀ y : Int, y ≤ (a + g).fdiv c ↔ y ≤ (t + f).fdiv β := fun y => by
        rw [le_fdiv_pos hc, le_fdiv_pos hβp]
        have hsc := isq_scale (s := b * b * d) (g := g) (f := f) (k := k) hk g0 g1 g2 f0 (by rw [← hsk]; omega) (by rw [← hsk]; exact hi) (y * c - a)
        have e1 : k * (y * c - a) = y * β - t := by rw [hβ, ht]; grind
        rw [e1] at hsc
        constructor
        · intro h; have := hsc.mp (by omega); omega
        · intro h; have := hsc.mpr (by omega); omega
      have a1 := (key _).mp (Int.le_refl _)
      have a2 := (key _).mpr (Int.le_refl _)
      omega
  refine ⟨hq, ?_⟩
  obtain ⟨R2, _, hbb, _, _⟩ := rt_next R' hq rfl rfl
  generalize hqq : belowT (a, b, c) d = q at *
  generalize hb' : (s - (q * β - t) * (q * β - t)).fdiv β = β' at *
  unfold nextT
  rw [hqq]
  unfold sumT
  simp only [Int.mul_one, Int.mul_zero, Int.zero_mul, Int.add_zero]
  obtain ⟨z1, z10, u1, u2, u3, u4⟩ := madeT_spec (x := a + -1 * q * c) (y := b) (z := c) (by omega)
  generalize madeT (a + -1 * q * c) b c = p1 at *
  obtain ⟨a1, b1, c1⟩ := p1
  simp only at *
  have b10 : b1 ≠ 0 := fun w => by rw [w, Int.mul_zero] at u2; exact hb0 u2
  unfold quotT
  simp only
  rw [if_neg (fun w => b10 w.2)]
  have hsz : a1 * a1 - d * b1 * b1 ≠ 0 := fun w => hns a1 b1 b10 (by omega)
  obtain ⟨z2, z20, v1, v2, v3, v4⟩ := madeT_spec (x := c1 * a1) (y := 0 - c1 * b1) hsz
  generalize madeT (c1 * a1) (0 - c1 * b1) (a1 * a1 - d * b1 * b1) = p2 at *
  obtain ⟨a2, b2, c2⟩ := p2
  simp only at *
  unfold prodT
  simp only [Int.one_mul, Int.mul_zero, Int.zero_mul, Int.add_zero]
  obtain ⟨z3, z30, w1, w2, w3, w4⟩ := madeT_spec (x := a2) (y := b2) (z := c2) (Int.ne_of_gt v4.pos)
  refine ⟨_, rfl, w4, ?_⟩
  generalize madeT a2 b2 c2 = p3 at *
  obtain ⟨a3, b3, c3⟩ := p3
  simp only at *
  have hG : z1 * z1 * z2 * z3 * β ≠ 0 := Int.mul_ne_zero (Int.mul_ne_zero (Int.mul_ne_zero (Int.mul_ne_zero z10 z10) z20) z30) b0
  obtain ⟨x1, x2, x3⟩ := alg_q (q := q) (d := d) u1 u2 u3 v1 v2 v3 w1 w2 w3
  obtain ⟨y1, y2⟩ := alg_r (q := q) (d := d) (a := a) (b := b) (c := c) ht hmk hβ hs
  refine ⟨?_, ?_, R2.b0⟩
  · refine Int.eq_of_mul_eq_mul_left hG ?_
    have e1 : z1 * z1 * z2 * z3 * β * (a3 * β') = (z1 * z1 * z2 * z3 * a3) * (β * β') := by
      generalize z1 * z1 * z2 * z3 = G
      rw [Int.mul_assoc, Int.mul_left_comm β a3, ← Int.mul_assoc]
    have e2 : z1 * z1 * z2 * z3 * β * ((q * β - t) * c3) = (z1 * z1 * z2 * z3 * c3) * (β * (q * β - t)) := by
      generalize z1 * z1 * z2 * z3 = G
      generalize q * β - t = T
      rw [Int.mul_assoc, Int.mul_comm T c3, Int.mul_left_comm β c3, ← Int.mul_assoc]
    simp only
    rw [e1, x1, hbb, e2, x3]
    exact y1
  · refine Int.eq_of_mul_eq_mul_left hG ?_
    have e1 : z1 * z1 * z2 * z3 * β * (b3 * β') = (z1 * z1 * z2 * z3 * b3) * (β * β') := by
      generalize z1 * z1 * z2 * z3 = G
      rw [Int.mul_assoc, Int.mul_left_comm β b3, ← Int.mul_assoc]
    have e2 : z1 * z1 * z2 * z3 * β * (m * c3) = (z1 * z1 * z2 * z3 * c3) * (β * m) := by
      generalize z1 * z1 * z2 * z3 = G
      rw [Int.mul_assoc, Int.mul_comm m c3, Int.mul_left_comm β c3, ← Int.mul_assoc]
    simp only
    rw [e1, x2, hbb, e2, x3]
    exact y2
theorem nsq_desc {d f : Int} (f0 : 0 ≤ f) (h1 : f * f < d) (h2 : d < (f + 1) * (f + 1)) : ∀ n : Nat, ∀ x y : Int, 0 ≤ x → 0 < y → y.toNat = n → x * x ≠ d * y * y := by
  intro n
  induction n using Nat.strongRecOn with
  | ind n ih =>
    intro x y x0 y0 hn he
    have a1 : f * y < x := by
      rcases Int.lt_or_le (f * y) x with w | w
      · exact w
      · have k1 : x * x ≤ (f * y) * (f * y) := Int.mul_le_mul w w x0 (Int.mul_nonneg f0 (Int.le_of_lt y0))
        have k2 : (f * y) * (f * y) = f * f * (y * y) := by grind
        have k3 : f * f * (y * y) < d * (y * y) := Int.mul_lt_mul_of_pos_right h1 (Int.mul_pos y0 y0)
        have k4 : d * y * y = d * (y * y) := Int.mul_assoc ..
        omega
    have a2 : x < (f + 1) * y := by
      rcases Int.lt_or_le x ((f + 1) * y) with w | w
      · exact w
      · have k1 : ((f + 1) * y) * ((f + 1) * y) ≤ x * x := Int.mul_le_mul w w (Int.mul_nonneg (by omega) (Int.le_of_lt y0)) x0
        have k2 : ((f + 1) * y) * ((f + 1) * y) = (f + 1) * (f + 1) * (y * y) := by grind
        have k3 : d * (y * y) < (f + 1) * (f + 1) * (y * y) := Int.mul_lt_mul_of_pos_right h2 (Int.mul_pos y0 y0)
        have k4 : d * y * y = d * (y * y) := Int.mul_assoc ..
        omega
    have e1 : (f + 1) * y = f * y + y := by grind
    have b1 : 0 ≤ d * y - f * x := by
      have k1 : y * (d * y - f * x) = x * (x - f * y) := by
        have : y * (d * y - f * x) = d * y * y - f * x * y := by grind
        rw [this, ← he]; grind
      have k2 : 0 ≤ x * (x - f * y) := Int.mul_nonneg x0 (by omega)
      rw [← k1] at k2
      rcases Int.lt_or_le (d * y - f * x) 0 with w | w
      · have := Int.mul_neg_of_pos_of_neg y0 w; omega
      · exact w
    refine ih (x - f * y).toNat (by omega) (d * y - f * x) (x - f * y) b1 (by omega) rfl ?_
    have : (d * y - f * x) * (d * y - f * x) - d * (x - f * y) * (x - f * y) = (x * x - d * y * y) * (f * f - d) := by grind
    rw [he, Int.sub_self, Int.zero_mul] at this
    omega
theorem nsq_of {d f : Int} (f0 : 0 ≤ f) (h1 : f * f < d) (h2 : d < (f + 1) * (f + 1)) : NSq d := by
  refine ⟨by have := Int.mul_nonneg f0 f0; omega, fun x y hy he => ?_⟩
  refine nsq_desc f0 h1 h2 _ (if x < 0 then -x else x) (if y < 0 then -y else y) (by split <;> omega) (by split <;> omega) rfl ?_
  split <;> split <;> grind
theorem fdiv_k {a c k : Int} (hc : 0 < c) (hk : k ≠ 0) : a.fdiv c = (k * a).fdiv (k * c) := by
  have key : ∀ y, y ≤ a.fdiv c ↔ y ≤ (k * a).fdiv (k * c) := fun y => by
    have e : y * (k * c) = k * (y * c) := by grind
    rcases Int.lt_or_gt_of_ne hk with h | h
    · rw [le_fdiv_pos hc, le_fdiv_neg (Int.mul_neg_of_neg_of_pos h hc), e]
      constructor
      · intro w; exact Int.mul_le_mul_of_nonpos_left (Int.le_of_lt h) w
      · intro w
        rcases Int.lt_or_le a (y * c) with z | z
        · have := Int.mul_lt_mul_of_neg_left z h; omega
        · exact z
    · rw [le_fdiv_pos hc, le_fdiv_pos (Int.mul_pos h hc), e]
      constructor
      · intro w; exact Int.mul_le_mul_of_nonneg_left w (Int.le_of_lt h)
      · intro w; exact Int.le_of_mul_le_mul_left w h
  have a1 := (key _).mp (Int.le_refl _)
  have a2 := (key _).mpr (Int.le_refl _)
  omega
/-- the next number, of a fraction's -/
theorem stepF {d : Int} {p : T3} (hp : Nm p) {t b : Int} (P : Px p t 0 b) :
    belowT p d = t.fdiv b ∧ ((t - t.fdiv b * b = 0 ∧ nextT p d = none) ∨ (t - t.fdiv b * b ≠ 0 ∧ ∃ p', nextT p d = some p' ∧ Nm p' ∧ Px p' b 0 (t - t.fdiv b * b))) := by
  obtain ⟨k, k0, ht, hm, hb⟩ := P.k hp
  have hc := hp.pos
  have hb0 := P.ne
  obtain ⟨a, z, c⟩ := p
  simp only at *
  have hz : z = 0 := by
    rcases Int.mul_eq_zero.mp hm.symm with w | w
    · exact absurd w k0
    · exact w
  subst hz
  have hq : belowT (a, 0, c) d = t.fdiv b := by
    unfold belowT rootT
    simp only [Int.lt_irrefl, if_false, Int.mul_zero, Int.zero_mul]
    rw [show isq 0 = 0 from rfl, Int.add_zero, ht, hb]
    exact fdiv_k hc k0
  refine ⟨hq, ?_⟩
  generalize t.fdiv b = q at *
  have hr : t - q * b = k * (a - q * c) := by rw [ht, hb]; grind
  unfold nextT
  rw [hq]
  unfold sumT
  simp only [Int.mul_one, Int.mul_zero, Int.zero_mul, Int.add_zero]
  obtain ⟨z1, z10, u1, u2, u3, u4⟩ := madeT_spec (x := a + -1 * q * c) (y := 0) (z := c) (by omega)
  generalize madeT (a + -1 * q * c) 0 c = p1 at *
  obtain ⟨a1, b1, c1⟩ := p1
  simp only at *
  have b10 : b1 = 0 := by
    rcases Int.mul_eq_zero.mp u2.symm with w | w
    · exact absurd w z10
    · exact w
  subst b10
  have e1 : a - q * c = z1 * a1 := by rw [← u1]; grind
  rw [hr, e1]
  unfold quotT
  simp only [and_true]
  by_cases h1 : a1 = 0
  · subst h1
    rw [if_pos rfl]
    exact .inl ⟨by simp, rfl⟩
  · rw [if_neg h1]
    refine .inr ⟨Int.mul_ne_zero k0 (Int.mul_ne_zero z10 h1), ?_⟩
    simp only [Int.mul_zero, Int.sub_zero, Int.zero_mul]
    obtain ⟨z2, z20, v1, v2, v3, v4⟩ := madeT_spec (x := c1 * a1) (y := 0) (z := a1 * a1) (Int.mul_ne_zero h1 h1)
    generalize madeT (c1 * a1) 0 (a1 * a1) = p2 at *
    obtain ⟨a2, b2, c2⟩ := p2
    simp only at *
    have b20 : b2 = 0 := by
      rcases Int.mul_eq_zero.mp v2.symm with w | w
      · exact absurd w z20
      · exact w
    subst b20
    unfold prodT
    simp only [Int.one_mul, Int.mul_zero, Int.zero_mul, Int.add_zero]
    obtain ⟨z3, z30, w1, w2, w3, w4⟩ := madeT_spec (x := a2) (y := 0) (z := c2) (Int.ne_of_gt v4.pos)
    refine ⟨_, rfl, w4, ?_⟩
    generalize madeT a2 0 c2 = p3 at *
    obtain ⟨a3, b3, c3⟩ := p3
    simp only at *
    have b30 : b3 = 0 := by
      rcases Int.mul_eq_zero.mp w2.symm with w | w
      · exact absurd w z30
      · exact w
    subst b30
    refine ⟨?_, by simp only [Int.zero_mul], Int.mul_ne_zero k0 (Int.mul_ne_zero z10 h1)⟩
    simp only
    -- a3 * (k z1 a1) = k c1 z1 * c3, with z2 z3 a3 = c1 a1 and z2 z3 c3 = a1 a1
    refine Int.eq_of_mul_eq_mul_left (a := z2 * z3) (Int.mul_ne_zero z20 z30) ?_
    have x1 : z2 * z3 * a3 = c1 * a1 := by rw [v1, w1, Int.mul_assoc]
    have x3 : z2 * z3 * c3 = a1 * a1 := by rw [v3, w3, Int.mul_assoc]
    rw [← Int.mul_assoc, x1, hb, u3]
    have : z2 * z3 * (k * (z1 * c1) * c3) = (z2 * z3 * c3) * (k * (z1 * c1)) := by
      generalize z2 * z3 = G
      generalize k * (z1 * c1) = L
      rw [Int.mul_comm L c3, Int.mul_assoc]
    rw [this, x3]
    grind
def Ht (B : Nat) (p : T3) : Prop := p.1.natAbs < 2 ^ B ∧ p.2.1.natAbs < 2 ^ B ∧ p.2.2.natAbs < 2 ^ B
/-- a quotient's own square is no nought -/
def Sz (d : Int) (s : T3) : Prop := (s.1 = 0 ∧ s.2.1 = 0) ∨ s.1 * s.1 - d * s.2.1 * s.2.1 ≠ 0
theorem sz_of {d : Int} {s : T3} (h : NSq d ∨ s.2.1 = 0) : Sz d s := by
  by_cases hz : s.2.1 = 0
  · by_cases h1 : s.1 = 0
    · exact .inl ⟨h1, hz⟩
    · right
      rw [hz, Int.mul_zero, Int.sub_zero]
      exact Int.mul_ne_zero h1 h1
  · rcases h with h | h
    · exact .inr fun e => h.2 s.1 s.2.1 hz (by omega)
    · exact absurd h hz
def PB (B : Nat) (d : Int) : Nat → Option T3 → Prop
  | 0, _ => True
  | _ + 1, none => True
  | n + 1, some p => Ht B p ∧ (belowT p d).natAbs < 2 ^ B ∧ 0 < p.2.2 ∧ Sz d (sumT p (belowT p d, 0, 1) (-1)) ∧ PB B d n (nextT p d)
theorem fmodr_lt {t b : Int} (hb : b ≠ 0) : (t - t.fdiv b * b).natAbs < b.natAbs := by
  have e := Int.mul_fdiv_add_fmod t b
  have h := fmod_lt (t := t) hb
  rw [Int.mul_comm] at e
  have : t - t.fdiv b * b = t.fmod b := by omega
  rw [this]
  exact h
theorem PB_frac {B : Nat} {d : Int} : ∀ (n : Nat) {p : T3} {t b : Int}, Nm p → Px p t 0 b → t.natAbs < 2 ^ B → b.natAbs < 2 ^ B → PB B d n (some p)
  | 0, _, _, _, _, _, _, _ => True.intro
  | n + 1, p, t, b, hp, P, ht, hb => by
    obtain ⟨h1, h2⟩ := stepF (d := d) hp P
    obtain ⟨l1, l2, l3⟩ := P.le hp
    have hB : 0 < 2 ^ B := Nat.pow_pos (by decide)
    refine ⟨⟨by omega, by simp only [Int.natAbs_zero] at l2; omega, by omega⟩, by rw [h1]; exact Nat.lt_of_le_of_lt fdiv_le ht, hp.pos, sz_of (.inr ?_), ?_⟩
    · unfold sumT
      have hz : p.2.1 = 0 := by
        have := P.two
        rw [Int.zero_mul] at this
        rcases Int.mul_eq_zero.mp this with w | w
        · exact w
        · exact absurd w P.ne
      simp only [Int.mul_one, Int.mul_zero, Int.zero_mul, Int.add_zero, hz]
      unfold madeT
      simp
    · rcases h2 with ⟨_, h⟩ | ⟨h0, p', h, hn, hx⟩
      · rw [h]; cases n <;> exact True.intro
      · rw [h]
        exact PB_frac n hn hx hb (Nat.lt_trans (fmodr_lt P.ne) hb)
theorem PB_root {B : Nat} {d : Int} (hd : NSq d) {m s f : Int} (hm : 0 < m) (hs : s = d * m * m) {W : Nat} (hW : W + f.toNat + 1 < 2 ^ B) (hmW : m.natAbs ≤ W) : ∀ (n : Nat) {p : T3} {t β : Int}, Nm p → RtI t s β f → Px p t m β → t.natAbs ≤ W → β.natAbs + n * (2 * f.toNat + 2) ≤ W → PB B d n (some p)
  | 0, _, _, _, _, _, _, _, _ => True.intro
  | n + 1, p, t, β, hp, R, P, ht, hb => by
    obtain ⟨h1, p', h2, h3, h4⟩ := stepQ hd hp hm hs R P
    obtain ⟨l1, l2, l3⟩ := P.le hp
    obtain ⟨R', _, _, k1, k2⟩ := rt_next R h1 rfl rfl
    rw [Nat.succ_mul] at hb
    refine ⟨⟨by omega, by omega, by omega⟩, ?_, hp.pos, sz_of (.inl hd), ?_⟩
    · rw [h1]
      refine Nat.lt_of_le_of_lt fdiv_le ?_
      have := R.f0
      split <;> omega
    · rw [h2]
      exact PB_root hd hm hs hW hmW n h3 R' h4 (by omega) (by omega)
/-- a triple's number beside a leaf's -/
inductive QR (d : Int) : Option T3 → R → Prop
  | root {p : T3} {k : Nat} {t m s β f : Int} : NSq d → Nm p → 0 < m → s = d * m * m → RtI t s β f → Px p t m β → QR d (some p) (.root k t s β f)
  | frac {p : T3} {k : Nat} {t b : Int} : Nm p → Px p t 0 b → QR d (some p) (.frac k t b)
  | done {k : Nat} {t : Int} : QR d none (.frac k t 0)
theorem QR.part {d : Int} {p : T3} {r r' : R} {n : Nat} {m m' : Int} {ans : Ans} (h : QR d (some p) r) (hm : m ≠ 0) (ht : Told n r m r' m' ans) : ans = .part (belowT p d) ∧ QR d (nextT p d) r' ∧ r'.tk = r.tk + 1 ∧ m' = m - 1 := by
  cases h with
  | root h1 h2 h3 h4 h5 h6 =>
    obtain ⟨e1, p', e2, e3, e4⟩ := stepQ h1 h2 h3 h4 h5 h6
    cases ht with
    | rtWait => exact absurd rfl hm
    | rtPart _ _ _ _ _ _ hq ht' _ =>
      subst hq ht'
      rw [← e1]
      refine ⟨rfl, ?_, rfl, rfl⟩
      rw [e2]
      obtain ⟨R', _⟩ := rt_next h5 e1 rfl rfl
      exact .root h1 e3 h3 h4 R' e4
  | frac h1 h2 =>
    obtain ⟨e1, e2⟩ := stepF (d := d) h1 h2
    cases ht with
    | frEnd => exact absurd rfl h2.ne
    | frWait => exact absurd rfl hm
    | frPart _ _ _ _ =>
      rw [← e1]
      refine ⟨rfl, ?_, rfl, rfl⟩
      rw [e1]
      rcases e2 with ⟨z, hn⟩ | ⟨z, p', hn, h3, h4⟩
      · rw [hn, z]; exact .done
      · rw [hn]; exact .frac h3 h4
theorem QR.fin {d : Int} {r r' : R} {n : Nat} {m m' : Int} {ans : Ans} (h : QR d none r) (ht : Told n r m r' m' ans) : ans = .fin ∧ r' = r ∧ m' = m := by
  cases h with
  | done =>
    cases ht with
    | frEnd => exact ⟨rfl, rfl, rfl⟩
    | frWait h => exact absurd rfl h
    | frPart h => exact absurd rfl h
theorem partsT_length {d : Int} : ∀ (n : Nat) (o : Option T3), (partsT d n o).length ≤ n
  | 0, _ => by simp [partsT]
  | n + 1, none => by simp [partsT]
  | n + 1, some p => by
    have := partsT_length (d := d) n (nextT p d)
    simp only [partsT, List.length_cons]
    omega
/-- how a root's reader begins -/
theorem rt_start {top d b g : Int} (b0 : b ≠ 0) (hd : NSq d) (g0 : 0 ≤ g) (g1 : g * g ≤ d * abI b * abI b) (g2 : d * abI b * abI b < (g + 1) * (g + 1)) : RtI (top * abI b) (d * abI b * abI b) (b * abI b) g ∧ 0 < abI b := by
  have ha : 0 < abI b ∧ ∃ e : Int, e * e = 1 ∧ b = e * abI b := by
    unfold abI
    split
    · exact ⟨by omega, -1, by decide, by omega⟩
    · exact ⟨by omega, 1, by decide, by omega⟩
  obtain ⟨a0, e, he, hb⟩ := ha
  refine ⟨⟨g0, ?_, g2, Int.mul_ne_zero b0 (by omega), (d - top * top) * e, ?_⟩, a0⟩
  · have := hd.2 g (abI b) (by omega)
    omega
  · generalize abI b = u at *
    rw [hb]
    have : e * u * u * ((d - top * top) * e) = (e * e) * (u * u * (d - top * top)) := by grind
    rw [this, he]
    grind
end PL
namespace PL
@[ext] structure Zd (d : Int) where
  x : Int
  y : Int
class NS (d : Int) : Prop where
  nsq : NSq d
namespace Zd
variable {d : Int}
instance : Add (Zd d) := ⟨fun a b => ⟨a.x + b.x, a.y + b.y⟩⟩
instance : Sub (Zd d) := ⟨fun a b => ⟨a.x - b.x, a.y - b.y⟩⟩
instance : Neg (Zd d) := ⟨fun a => ⟨-a.x, -a.y⟩⟩
instance : Mul (Zd d) := ⟨fun a b => ⟨a.x * b.x + d * a.y * b.y, a.x * b.y + a.y * b.x⟩⟩
instance : NatCast (Zd d) := ⟨fun n => ⟨n, 0⟩⟩
instance : IntCast (Zd d) := ⟨fun n => ⟨n, 0⟩⟩
instance (n : Nat) : OfNat (Zd d) n := ⟨⟨n, 0⟩⟩
def pow (a : Zd d) : Nat → Zd d
  | 0 => ⟨1, 0⟩
  | n + 1 => pow a n * a
instance : HPow (Zd d) Nat (Zd d) := ⟨pow⟩
instance : SMul Nat (Zd d) := ⟨fun n a => (⟨n, 0⟩ : Zd d) * a⟩
instance : SMul Int (Zd d) := ⟨fun n a => (⟨n, 0⟩ : Zd d) * a⟩
theorem add_x (a b : Zd d) : (a + b).x = a.x + b.x := rfl
theorem add_y (a b : Zd d) : (a + b).y = a.y + b.y := rfl
theorem sub_x (a b : Zd d) : (a - b).x = a.x - b.x := rfl
theorem sub_y (a b : Zd d) : (a - b).y = a.y - b.y := rfl
theorem neg_x (a : Zd d) : (-a).x = -a.x := rfl
theorem neg_y (a : Zd d) : (-a).y = -a.y := rfl
theorem mul_x (a b : Zd d) : (a * b).x = a.x * b.x + d * a.y * b.y := rfl
theorem mul_y (a b : Zd d) : (a * b).y = a.x * b.y + a.y * b.x := rfl
theorem zero_x : (0 : Zd d).x = 0 := rfl
theorem zero_y : (0 : Zd d).y = 0 := rfl
theorem one_x : (1 : Zd d).x = 1 := rfl
theorem one_y : (1 : Zd d).y = 0 := rfl
theorem int_x (n : Int) : ((n : Int) : Zd d).x = n := rfl
theorem int_y (n : Int) : ((n : Int) : Zd d).y = 0 := rfl
instance : Lean.Grind.CommRing (Zd d) where
  add_zero a := by ext <;> simp [add_x, add_y, zero_x, zero_y]
  add_comm a b := by ext <;> simp [add_x, add_y, Int.add_comm]
  add_assoc a b c := by ext <;> simp [add_x, add_y, Int.add_assoc]
  mul_assoc a b c := by ext <;> simp only [mul_x, mul_y] <;> grind
  mul_one a := by ext <;> simp [mul_x, mul_y, one_x, one_y]
  left_distrib a b c := by ext <;> simp only [mul_x, mul_y, add_x, add_y] <;> grind
  right_distrib a b c := by ext <;> simp only [mul_x, mul_y, add_x, add_y] <;> grind
  zero_mul a := by ext <;> simp [mul_x, mul_y, zero_x, zero_y]
  one_mul a := by ext <;> simp [mul_x, mul_y, one_x, one_y]
  mul_zero a := by ext <;> simp [mul_x, mul_y, zero_x, zero_y]
  mul_comm a b := by ext <;> simp only [mul_x, mul_y] <;> grind
  pow_zero a := rfl
  pow_succ a n := rfl
  neg_add_cancel a := by ext <;> simp [add_x, add_y, neg_x, neg_y, zero_x, zero_y] <;> omega
  sub_eq_add_neg a b := by ext <;> simp only [sub_x, sub_y, add_x, add_y, neg_x, neg_y] <;> omega
  neg_zsmul i a := by
    show (⟨-i, 0⟩ : Zd d) * a = -((⟨i, 0⟩ : Zd d) * a)
    ext <;> simp only [mul_x, mul_y, neg_x, neg_y] <;> grind
  intCast_neg i := by
    show (⟨-i, 0⟩ : Zd d) = -(⟨i, 0⟩ : Zd d)
    ext <;> simp [neg_x, neg_y]
def rt (d N : Int) : Int := isq (d * N * N)
/-- no less than nought -/
def nn (z : Zd d) : Prop := ∃ c : Int, ∀ N : Int, 1 ≤ N → -c ≤ N * z.x + z.y * rt d N
theorem rt_spec (hd : 0 < d) {N : Int} (hN : 1 ≤ N) : 0 ≤ rt d N ∧ rt d N * rt d N ≤ d * N * N ∧ d * N * N ≤ rt d N * rt d N + 2 * rt d N ∧ rt d N ≤ d * N := by
  have h0 : 0 ≤ d * N * N := Int.mul_nonneg (Int.mul_nonneg (Int.le_of_lt hd) (by omega)) (by omega)
  obtain ⟨a, b, c⟩ := isq_spec h0
  have e : (isq (d * N * N) + 1) * (isq (d * N * N) + 1) = isq (d * N * N) * isq (d * N * N) + 2 * isq (d * N * N) + 1 := by grind
  refine ⟨a, b, by unfold rt; omega, ?_⟩
  unfold rt
  rcases Int.lt_or_le (d * N) (isq (d * N * N)) with w | w
  · exfalso
    have hp : 0 < d * N := Int.mul_pos hd (by omega)
    have k1 : d * N * (d * N) < isq (d * N * N) * isq (d * N * N) := Int.lt_of_lt_of_le (Int.mul_lt_mul_of_pos_left w hp) (Int.mul_le_mul_of_nonneg_right (Int.le_of_lt w) a)
    have k2 : d * N * N ≤ d * N * (d * N) := Int.mul_le_mul_of_nonneg_left (by
      have := Int.mul_le_mul_of_nonneg_right (show (1 : Int) ≤ d by omega) (show 0 ≤ N by omega)
      omega) (Int.le_of_lt hp)
    omega
  · exact w
theorem nn_add {a b : Zd d} (ha : nn a) (hb : nn b) : nn (a + b) := by
  obtain ⟨c1, h1⟩ := ha
  obtain ⟨c2, h2⟩ := hb
  refine ⟨c1 + c2, fun N hN => ?_⟩
  have e1 := h1 N hN
  have e2 := h2 N hN
  rw [add_x, add_y, Int.mul_add, Int.add_mul]
  omega
theorem nn_int {n : Int} (h : 0 ≤ n) : nn (⟨n, 0⟩ : Zd d) := ⟨0, fun N hN => by
  have := Int.mul_nonneg (show 0 ≤ N by omega) h
  simp only [Int.zero_mul]
  omega⟩
theorem nn_total [hs : NS d] (z : Zd d) : nn z ∨ nn (-z) := by
  obtain ⟨hd, hns⟩ := hs.nsq
  -- x against a root of d * y * y
  have big : ∀ x y : Int, 0 ≤ x → 0 ≤ y → d * y * y ≤ x * x → ∀ N, 1 ≤ N → y * rt d N ≤ N * x := fun x y hx hy h N hN => by
    obtain ⟨r0, r1, _, _⟩ := rt_spec hd hN
    rcases Int.lt_or_le (N * x) (y * rt d N) with w | w
    · exfalso
      have n0 : 0 ≤ N * x := Int.mul_nonneg (by omega) hx
      have k1 : N * x * (N * x) < y * rt d N * (y * rt d N) := Int.lt_of_le_of_lt (Int.mul_le_mul_of_nonneg_left (Int.le_of_lt w) n0) (Int.mul_lt_mul_of_pos_right w (by omega))
      have k2 : y * rt d N * (y * rt d N) = y * y * (rt d N * rt d N) := by grind
      have k3 : y * y * (rt d N * rt d N) ≤ y * y * (d * N * N) := Int.mul_le_mul_of_nonneg_left r1 (sqNN y)
      have k4 : N * x * (N * x) = N * N * (x * x) := by grind
      have k5 : N * N * (d * y * y) ≤ N * N * (x * x) := Int.mul_le_mul_of_nonneg_left h (sqNN N)
      have k6 : y * y * (d * N * N) = N * N * (d * y * y) := by grind
      omega
    · exact w
  have small : ∀ x y : Int, 0 ≤ x → 0 ≤ y → x * x ≤ d * y * y → ∀ N, 1 ≤ N → N * x ≤ y * rt d N + y := fun x y hx hy h N hN => by
    obtain ⟨r0, _, r2, _⟩ := rt_spec hd hN
    rcases Int.lt_or_le (y * rt d N + y) (N * x) with w | w
    · exfalso
      have e0 : y * rt d N + y = y * (rt d N + 1) := by grind
      rw [e0] at w
      have n0 : 0 ≤ y * (rt d N + 1) := Int.mul_nonneg hy (by omega)
      have k1 : y * (rt d N + 1) * (y * (rt d N + 1)) < N * x * (N * x) := Int.lt_of_le_of_lt (Int.mul_le_mul_of_nonneg_left (Int.le_of_lt w) n0) (Int.mul_lt_mul_of_pos_right w (by omega))
      have k2 : y * (rt d N + 1) * (y * (rt d N + 1)) = y * y * (rt d N * rt d N + 2 * rt d N + 1) := by grind
      have k3 : y * y * (d * N * N) ≤ y * y * (rt d N * rt d N + 2 * rt d N + 1) := Int.mul_le_mul_of_nonneg_left (by omega) (sqNN y)
      have k4 : N * x * (N * x) = N * N * (x * x) := by grind
      have k5 : N * N * (x * x) ≤ N * N * (d * y * y) := Int.mul_le_mul_of_nonneg_left h (sqNN N)
      have k6 : y * y * (d * N * N) = N * N * (d * y * y) := by grind
      omega
    · exact w
  obtain ⟨x, y⟩ := z
  rcases Int.le_total 0 x with hx | hx <;> rcases Int.le_total 0 y with hy | hy
  · left
    refine ⟨0, fun N hN => ?_⟩
    obtain ⟨r0, _⟩ := rt_spec hd hN
    have := Int.mul_nonneg (show 0 ≤ N by omega) hx
    have := Int.mul_nonneg hy r0
    simp only; omega
  · rcases Int.le_total (d * -y * -y) (x * x) with h | h
    · left
      refine ⟨0, fun N hN => ?_⟩
      have := big x (-y) hx (by omega) h N hN
      rw [Int.neg_mul] at this
      simp only; omega
    · right
      refine ⟨-y, fun N hN => ?_⟩
      have := small x (-y) hx (by omega) h N hN
      simp only [neg_x, neg_y]
      rw [Int.mul_neg]
      omega
  · rcases Int.le_total (d * y * y) (-x * -x) with h | h
    · right
      refine ⟨0, fun N hN => ?_⟩
      have := big (-x) y (by omega) hy h N hN
      simp only [neg_x, neg_y]
      rw [Int.neg_mul]
      omega
    · left
      refine ⟨y, fun N hN => ?_⟩
      have := small (-x) y (by omega) hy h N hN
      rw [Int.mul_neg] at this
      simp only; omega
  · right
    refine ⟨0, fun N hN => ?_⟩
    obtain ⟨r0, _⟩ := rt_spec hd hN
    have := Int.mul_nonneg (show 0 ≤ N by omega) (show 0 ≤ -x by omega)
    have := Int.mul_nonneg (show 0 ≤ -y by omega) r0
    simp only [neg_x, neg_y]; omega
theorem nn_anti [hs : NS d] {z : Zd d} (h1 : nn z) (h2 : nn (-z)) : z = 0 := by
  obtain ⟨hd, hns⟩ := hs.nsq
  obtain ⟨c1, g1⟩ := h1
  obtain ⟨c2, g2⟩ := h2
  obtain ⟨x, y⟩ := z
  simp only [neg_x, neg_y] at g1 g2
  rcases Classical.em (x * x = d * y * y) with hz | hz
  · have y0 : y = 0 := Decidable.not_not.mp fun w => hns x y w hz
    subst y0
    have x0 : x = 0 := by
      rw [Int.mul_zero] at hz
      rcases Int.mul_eq_zero.mp hz with w | w <;> exact w
    subst x0
    rfl
  · exfalso
    -- bounds
    obtain ⟨c, hc⟩ : ∃ c : Int, c = c1.natAbs + c2.natAbs := ⟨_, rfl⟩
    obtain ⟨K, hK⟩ : ∃ K : Int, K = c * (x.natAbs + y.natAbs * d) + y * y * (2 * d) + 1 := ⟨_, rfl⟩
    have c0 : 0 ≤ c := by omega
    have hdn : 0 ≤ (y.natAbs : Int) * d := Int.mul_nonneg (by omega) (Int.le_of_lt hd)
    have p1 : 0 ≤ c * (x.natAbs + y.natAbs * d) := Int.mul_nonneg c0 (by omega)
    have p2 : 0 ≤ y * y * (2 * d) := Int.mul_nonneg (sqNN y) (by omega)
    have hN : 1 ≤ K := by omega
    obtain ⟨r0, r1, r2, r3⟩ := rt_spec hd hN
    have a1 := g1 K hN
    have a2 := g2 K hN
    rw [Int.mul_neg, Int.neg_mul] at a2
    generalize rt d K = r at *
    obtain ⟨A, hA⟩ : ∃ A : Int, A = K * x + y * r := ⟨_, rfl⟩
    have hAc : A.natAbs ≤ c.toNat := by omega
    obtain ⟨B, hB⟩ : ∃ B : Int, B = K * x - y * r := ⟨_, rfl⟩
    have hBc : (B.natAbs : Int) ≤ K * (x.natAbs + y.natAbs * d) := by
      have b1 : (B.natAbs : Int) ≤ (K * x).natAbs + (y * r).natAbs := by rw [hB]; omega
      have b2 : ((K * x).natAbs : Int) = K * x.natAbs := by rw [Int.natAbs_mul]; have : (K.natAbs : Int) = K := by omega
                                                            rw [Int.natCast_mul, this]
      have b3 : ((y * r).natAbs : Int) = y.natAbs * r := by rw [Int.natAbs_mul]; have : (r.natAbs : Int) = r := by omega
                                                            rw [Int.natCast_mul, this]
      have b4 : (y.natAbs : Int) * r ≤ y.natAbs * (d * K) := Int.mul_le_mul_of_nonneg_left r3 (by omega)
      have b5 : K * ((x.natAbs : Int) + y.natAbs * d) = K * x.natAbs + y.natAbs * (d * K) := by grind
      omega
    have hAB : ((A * B).natAbs : Int) ≤ c * (K * (x.natAbs + y.natAbs * d)) := by
      rw [Int.natAbs_mul, Int.natCast_mul]
      exact Int.mul_le_mul (by omega) hBc (by omega) c0
    have hid : A * B = K * K * (x * x - d * y * y) + y * y * (d * K * K - r * r) := by rw [hA, hB]; grind
    have q1 : 0 ≤ y * y * (d * K * K - r * r) := Int.mul_nonneg (sqNN y) (by omega)
    have q2 : y * y * (d * K * K - r * r) ≤ y * y * (2 * (d * K)) := Int.mul_le_mul_of_nonneg_left (by omega) (sqNN y)
    have q3 : K * K ≤ (K * K * (x * x - d * y * y)).natAbs := by
      have hne : x * x - d * y * y ≠ 0 := fun w => hz (by omega)
      have k0 : 0 ≤ K * K := sqNN K
      rcases Int.lt_or_gt_of_ne hne with w | w
      · have := Int.mul_le_mul_of_nonneg_left (show x * x - d * y * y ≤ -1 by omega) k0
        omega
      · have := Int.mul_le_mul_of_nonneg_left (show (1 : Int) ≤ x * x - d * y * y by omega) k0
        omega
    have q4 : K * K = K * (c * (x.natAbs + y.natAbs * d)) + K * (y * y * (2 * d)) + K := by
      conv => lhs; rw [show K * K = K * (c * (x.natAbs + y.natAbs * d) + y * y * (2 * d) + 1) by rw [← hK]]
      grind
    have q5 : c * (K * (x.natAbs + y.natAbs * d)) = K * (c * (x.natAbs + y.natAbs * d)) := by grind
    have q6 : y * y * (2 * (d * K)) = K * (y * y * (2 * d)) := by grind
    omega
theorem nn_mul (hd : 0 < d) {a b : Zd d} (ha : nn a) (hb : nn b) : nn (a * b) := by
  obtain ⟨c1, g1⟩ := ha
  obtain ⟨c2, g2⟩ := hb
  obtain ⟨x1, y1⟩ := a
  obtain ⟨x2, y2⟩ := b
  simp only at g1 g2
  obtain ⟨k1, hk1⟩ : ∃ k : Int, k = x1.natAbs + y1.natAbs * d := ⟨_, rfl⟩
  obtain ⟨k2, hk2⟩ : ∃ k : Int, k = x2.natAbs + y2.natAbs * d := ⟨_, rfl⟩
  refine ⟨c1.natAbs * k2 + c2.natAbs * k1 + (y1 * y2).natAbs * (2 * d), fun N hN => ?_⟩
  simp only [mul_x, mul_y]
  obtain ⟨r0, r1, r2, r3⟩ := rt_spec hd hN
  have a1 := g1 N hN
  have a2 := g2 N hN
  generalize rt d N = r at *
  have bnd : ∀ x y : Int, ((N * x + y * r).natAbs : Int) ≤ N * (x.natAbs + y.natAbs * d) := fun x y => by
    have b1 : ((N * x + y * r).natAbs : Int) ≤ (N * x).natAbs + (y * r).natAbs := by omega
    have b2 : ((N * x).natAbs : Int) = N * x.natAbs := by rw [Int.natAbs_mul, Int.natCast_mul, show (N.natAbs : Int) = N by omega]
    have b3 : ((y * r).natAbs : Int) = y.natAbs * r := by rw [Int.natAbs_mul, Int.natCast_mul, show (r.natAbs : Int) = r by omega]
    have b4 : (y.natAbs : Int) * r ≤ y.natAbs * (d * N) := Int.mul_le_mul_of_nonneg_left r3 (by omega)
    have b5 : N * ((x.natAbs : Int) + y.natAbs * d) = N * x.natAbs + y.natAbs * (d * N) := by grind
    omega
  have u1 := bnd x1 y1
  have u2 := bnd x2 y2
  rw [← hk1] at u1
  rw [← hk2] at u2
  have hid : N * (N * (x1 * x2 + d * y1 * y2) + (x1 * y2 + y1 * x2) * r) = (N * x1 + y1 * r) * (N * x2 + y2 * r) + y1 * y2 * (d * N * N - r * r) := by grind
  generalize N * x1 + y1 * r = A at *
  generalize N * x2 + y2 * r = B at *
  have n1 : (0 : Int) ≤ N * k1 := by omega
  have n2 : (0 : Int) ≤ N * k2 := by omega
  have m1 : 0 ≤ (c1.natAbs : Int) * (N * k2) := Int.mul_nonneg (by omega) n2
  have m2 : 0 ≤ (c2.natAbs : Int) * (N * k1) := Int.mul_nonneg (by omega) n1
  have hAB : -(c1.natAbs * (N * k2) + c2.natAbs * (N * k1)) ≤ A * B := by
    rcases Int.le_total 0 A with p | p <;> rcases Int.le_total 0 B with q | q
    · have := Int.mul_nonneg p q; omega
    · have e : A * (-B) ≤ N * k1 * c2.natAbs := Int.mul_le_mul (by omega) (by omega) (by omega) n1
      rw [Int.mul_neg, Int.mul_comm (N * k1)] at e
      omega
    · have e : (-A) * B ≤ c1.natAbs * (N * k2) := Int.mul_le_mul (by omega) (by omega) q (by omega)
      rw [Int.neg_mul] at e
      omega
    · have := Int.mul_nonneg_of_nonpos_of_nonpos p q; omega
  have hy : -((y1 * y2).natAbs * (2 * (d * N))) ≤ y1 * y2 * (d * N * N - r * r) := by
    have e0 : 0 ≤ d * N * N - r * r := by omega
    have e1 : ((y1 * y2).natAbs : Int) * (d * N * N - r * r) ≤ (y1 * y2).natAbs * (2 * (d * N)) := Int.mul_le_mul_of_nonneg_left (by omega) (by omega)
    have e2 : -((y1 * y2).natAbs : Int) * (d * N * N - r * r) ≤ y1 * y2 * (d * N * N - r * r) := Int.mul_le_mul_of_nonneg_right (by omega) e0
    rw [Int.neg_mul] at e2
    omega
  have fin : N * -(c1.natAbs * k2 + c2.natAbs * k1 + (y1 * y2).natAbs * (2 * d)) ≤ N * (N * (x1 * x2 + d * y1 * y2) + (x1 * y2 + y1 * x2) * r) := by
    rw [hid]
    have : N * -(c1.natAbs * k2 + c2.natAbs * k1 + (y1 * y2).natAbs * (2 * d)) = -(c1.natAbs * (N * k2) + c2.natAbs * (N * k1)) + -((y1 * y2).natAbs * (2 * (d * N))) := by grind
    rw [this]
    omega
  exact Int.le_of_mul_le_mul_left fin (by omega)
instance : LE (Zd d) := ⟨fun a b => nn (b - a)⟩
instance : LT (Zd d) := ⟨fun a b => nn (b - a) ∧ ¬ nn (a - b)⟩
theorem le_def (a b : Zd d) : a ≤ b ↔ nn (b - a) := Iff.rfl
instance : Std.LawfulOrderLT (Zd d) := ⟨fun _ _ => Iff.rfl⟩
instance [NS d] : Std.IsLinearOrder (Zd d) where
  le_refl a := by
    rw [le_def]
    have : a - a = (⟨0, 0⟩ : Zd d) := by ext <;> simp [sub_x, sub_y]
    rw [this]
    exact nn_int (Int.le_refl 0)
  le_trans a b c h1 h2 := by
    rw [le_def] at *
    have : c - a = (c - b) + (b - a) := by grind
    rw [this]
    exact nn_add h2 h1
  le_antisymm a b h1 h2 := by
    rw [le_def] at *
    have e : a - b = -(b - a) := by grind
    rw [e] at h2
    have := nn_anti h1 h2
    grind
  le_total a b := by
    rw [le_def, le_def]
    have e : a - b = -(b - a) := by grind
    rw [e]
    exact nn_total _
theorem no_zero [hs : NS d] {a b : Zd d} (h : a * b = 0) : a = 0 ∨ b = 0 := by
  obtain ⟨hd, hns⟩ := hs.nsq
  obtain ⟨x1, y1⟩ := a
  obtain ⟨x2, y2⟩ := b
  have hx := congrArg Zd.x h
  have hy := congrArg Zd.y h
  simp only [mul_x, mul_y, zero_x, zero_y] at hx hy
  have key : (x1 * x1 - d * y1 * y1) * (x2 * x2 - d * y2 * y2) = 0 := by
    have : (x1 * x1 - d * y1 * y1) * (x2 * x2 - d * y2 * y2) = (x1 * x2 + d * y1 * y2) * (x1 * x2 + d * y1 * y2) - d * ((x1 * y2 + y1 * x2) * (x1 * y2 + y1 * x2)) := by grind
    rw [this, hx, hy]; simp
  have zz : ∀ x y : Int, x * x - d * y * y = 0 → (⟨x, y⟩ : Zd d) = 0 := fun x y e => by
    have y0 : y = 0 := Decidable.not_not.mp fun w => hns x y w (by omega)
    subst y0
    rw [Int.mul_zero, Int.sub_zero] at e
    have : x = 0 := by rcases Int.mul_eq_zero.mp e with w | w <;> exact w
    subst this
    rfl
  rcases Int.mul_eq_zero.mp key with e | e
  · exact .inl (zz _ _ e)
  · exact .inr (zz _ _ e)
theorem mul_lt [hs : NS d] {a b c : Zd d} (h : a < b) (hc : 0 < c) : c * a < c * b := by
  have hd := hs.nsq.1
  obtain ⟨h1, h2⟩ := h
  obtain ⟨g1, g2⟩ := hc
  have e1 : c * b - c * a = (c - 0) * (b - a) := by grind
  refine ⟨by rw [e1]; exact nn_mul hd g1 h1, fun w => ?_⟩
  have e2 : c * a - c * b = -((c - 0) * (b - a)) := by grind
  rw [e2] at w
  have z := nn_anti (nn_mul hd g1 h1) w
  rcases no_zero z with q | q
  · apply g2
    have : (0 : Zd d) - c = -(c - 0) := by grind
    rw [this, q]
    exact nn_int (d := d) (n := 0) (Int.le_refl 0)
  · apply h2
    have : a - b = -(b - a) := by grind
    rw [this, q]
    exact nn_int (d := d) (n := 0) (Int.le_refl 0)
instance [hs : NS d] : Lean.Grind.OrderedRing (Zd d) where
  add_le_left_iff {a b} c := by
    rw [le_def, le_def]
    have : b + c - (a + c) = b - a := by grind
    rw [this]
  zero_lt_one := by
    refine ⟨nn_int (d := d) (n := 1) (by decide), fun w => ?_⟩
    have := nn_anti (d := d) (z := ⟨1, 0⟩) (nn_int (by decide)) w
    have := congrArg Zd.x this
    simp [zero_x] at this
  mul_lt_mul_of_pos_left h hc := mul_lt h hc
  mul_lt_mul_of_pos_right {a b c} h hc := by
    have := mul_lt h hc
    have e1 : a * c = c * a := by grind
    have e2 : b * c = c * b := by grind
    rw [e1, e2]
    exact this
end Zd
end PL
namespace PL
open Lean.Grind
instance (priority := low) intc {A : Type} [Lean.Grind.Ring A] : IntCast A := Lean.Grind.Ring.intCast
section
variable {A : Type} [CommRing A] [LE A] [LT A] [Std.LawfulOrderLT A] [Std.IsLinearOrder A] [OrderedRing A]
theorem lt_or (a b : A) : a < b ∨ a = b ∨ b < a := by grind
theorem mul_pp {a b : A} (ha : 0 < a) (hb : 0 < b) : 0 < a * b := OrderedRing.mul_pos ha hb
theorem mul_nn {a b : A} (ha : 0 ≤ a) (hb : 0 ≤ b) : 0 ≤ a * b := OrderedRing.mul_nonneg ha hb
theorem mul_nz {a b : A} (ha : a ≠ 0) (hb : b ≠ 0) : a * b ≠ 0 := by
  rcases lt_or a 0 with h | h | h
  · rcases lt_or b 0 with g | g | g
    · have := mul_pp (a := -a) (b := -b) (by grind) (by grind)
      grind
    · exact absurd g hb
    · have := mul_pp (a := -a) (b := b) (by grind) (by grind)
      grind
  · exact absurd h ha
  · rcases lt_or b 0 with g | g | g
    · have := mul_pp (a := a) (b := -b) (by grind) (by grind)
      grind
    · exact absurd g hb
    · have := mul_pp (a := a) (b := b) (by grind) (by grind)
      grind
theorem sq_pos {a : A} (ha : a ≠ 0) : 0 < a * a := by
  rcases lt_or a 0 with h | h | h
  · have := mul_pp (a := -a) (b := -a) (by grind) (by grind)
    grind
  · exact absurd h ha
  · exact mul_pp h h
theorem pos_of_mul {a b : A} (h : 0 < a * b) (hb : 0 < b) : 0 < a := by
  rcases lt_or a 0 with g | g | g
  · have := mul_pp (a := -a) (b := b) (by grind) hb
    grind
  · subst g; grind
  · exact g
theorem nn_of_mul {a b : A} (h : 0 ≤ a * b) (hb : 0 < b) : 0 ≤ a := by
  rcases lt_or a 0 with g | g | g
  · have := mul_pp (a := -a) (b := b) (by grind) hb
    grind
  · grind
  · grind
theorem cancel {a b c : A} (hc : c ≠ 0) (h : a * c = b * c) : a = b := by
  rcases lt_or (a - b) 0 with g | g | g
  · have := mul_nz (a := a - b) (b := c) (by grind) hc
    grind
  · grind
  · have := mul_nz (a := a - b) (b := c) (by grind) hc
    grind
theorem zero_mul_or {a b : A} (h : a * b = 0) : a = 0 ∨ b = 0 := by
  rcases Classical.em (a = 0) with z | z
  · exact .inl z
  · right
    rcases Classical.em (b = 0) with w | w
    · exact w
    · exact absurd h (mul_nz z w)
theorem cast_pos {n : Int} (h : 0 < n) : (0 : A) < (n : A) := OrderedRing.pos_intCast_of_pos n h
theorem cast_nn {n : Int} (h : 0 ≤ n) : (0 : A) ≤ (n : A) := OrderedRing.nonneg_intCast_of_nonneg n h
theorem cast_add (a b : Int) : ((a + b : Int) : A) = (a : A) + b := Ring.intCast_add a b
theorem cast_sub (a b : Int) : ((a - b : Int) : A) = (a : A) - b := Ring.intCast_sub a b
theorem cast_mul (a b : Int) : ((a * b : Int) : A) = (a : A) * b := Ring.intCast_mul a b
theorem cast_neg (a : Int) : ((-a : Int) : A) = -(a : A) := Ring.intCast_neg a
theorem cast_zero : ((0 : Int) : A) = 0 := Ring.intCast_zero
theorem cast_one : ((1 : Int) : A) = 1 := Ring.intCast_one
theorem cast_ne {n : Int} (h : n ≠ 0) : (n : A) ≠ 0 := by
  rcases Int.lt_or_gt_of_ne h with w | w
  · have := cast_pos (A := A) (n := -n) (by omega)
    rw [cast_neg] at this
    grind
  · have := cast_pos (A := A) w
    grind
theorem cast_inj {a b : Int} (h : (a : A) = b) : a = b := by
  rcases Classical.em (a = b) with z | z
  · exact z
  · have := cast_ne (A := A) (n := a - b) (by omega)
    rw [cast_sub] at this
    grind
theorem cast_lt {a b : Int} (h : a < b) : (a : A) < b := by
  have := cast_pos (A := A) (n := b - a) (by omega)
  rw [cast_sub] at this
  grind
theorem cast_le {a b : Int} (h : a ≤ b) : (a : A) ≤ b := by
  have := cast_nn (A := A) (n := b - a) (by omega)
  rw [cast_sub] at this
  grind
/-- not both nought -/
def Nz (u v : A) : Prop := ¬ (u = 0 ∧ v = 0)
/-- the same number -/
structure Pr (u v s t : A) : Prop where
  cross : u * t = v * s
  nz : Nz u v
  nz2 : Nz s t
theorem Pr.refl {u v : A} (h : Nz u v) : Pr u v u v := ⟨by grind, h, h⟩
theorem Pr.symm {u v s t : A} (h : Pr u v s t) : Pr s t u v := ⟨by have := h.cross; grind, h.nz2, h.nz⟩
theorem Pr.trans {u v s t a b : A} (h : Pr u v s t) (g : Pr s t a b) : Pr u v a b := by
  refine ⟨?_, h.nz, g.nz2⟩
  have h1 := h.cross
  have h2 := g.cross
  rcases Classical.em (t = 0) with z | z
  · subst z
    have s0 : s ≠ 0 := fun w => h.nz2 ⟨w, rfl⟩
    have v0 : v = 0 := by
      rcases zero_mul_or (a := v) (b := s) (by grind) with w | w
      · exact w
      · exact absurd w s0
    have b0 : b = 0 := by
      rcases zero_mul_or (a := s) (b := b) (by grind) with w | w
      · exact absurd w s0
      · exact w
    rw [v0, b0]; grind
  · refine cancel z ?_
    grind
theorem Pr.zero {u v s t : A} (h : Pr u v s t) : v = 0 ↔ t = 0 := by
  have h1 := h.cross
  constructor
  · rintro rfl
    have u0 : u ≠ 0 := fun w => h.nz ⟨w, rfl⟩
    rcases zero_mul_or (a := u) (b := t) (by grind) with w | w
    · exact absurd w u0
    · exact w
  · rintro rfl
    have s0 : s ≠ 0 := fun w => h.nz2 ⟨w, rfl⟩
    rcases zero_mul_or (a := v) (b := s) (by grind) with w | w
    · exact w
    · exact absurd w s0
theorem Pr.next {u v s t q : A} (h : Pr u v s t) : Pr v (u - q * v) t (s - q * t) := by
  have h1 := h.cross
  refine ⟨by grind, fun w => h.nz ?_, fun w => h.nz2 ?_⟩
  · obtain ⟨a, b⟩ := w; subst a; exact ⟨by grind, rfl⟩
  · obtain ⟨a, b⟩ := w; subst a; exact ⟨by grind, rfl⟩
/-- q is the first part of u over v -/
structure IsPart (q : Int) (u v : A) : Prop where
  lo : 0 ≤ (u - q * v) * v
  hi : (u - q * v) * v < v * v
theorem IsPart.ne {q : Int} {u v : A} (h : IsPart q u v) : v ≠ 0 := by
  rintro rfl
  have := h.hi
  grind
theorem IsPart.of_pr {q : Int} {u v s t : A} (h : IsPart q s t) (p : Pr u v s t) : IsPart q u v := by
  have h1 := p.cross
  have t0 := h.ne
  have v0 : v ≠ 0 := fun w => t0 (p.zero.mp w)
  have tt := sq_pos t0
  have vv := sq_pos v0
  obtain ⟨lo, hi⟩ := h
  have e : (u - q * v) * v * (t * t) = (s - q * t) * t * (v * v) := by
    have : (u - q * v) * v * (t * t) = (u * t - q * v * t) * (v * t) := by grind
    rw [this, h1]; grind
  refine ⟨nn_of_mul (b := t * t) ?_ tt, ?_⟩
  · rw [e]; exact mul_nn lo (by grind)
  · have g := mul_pp (a := t * t - (s - q * t) * t) (b := v * v) (by grind) vv
    have : 0 < (v * v - (u - q * v) * v) * (t * t) := by
      have : (v * v - (u - q * v) * v) * (t * t) = (t * t - (s - q * t) * t) * (v * v) := by
        have : (v * v - (u - q * v) * v) * (t * t) = v * v * (t * t) - (u - q * v) * v * (t * t) := by grind
        rw [this, e]; grind
      rw [this]; exact g
    have := pos_of_mul this tt
    grind
theorem IsPart.uniq {q q' : Int} {u v : A} (h : IsPart q u v) (g : IsPart q' u v) : q = q' := by
  have key : ∀ {q q' : Int}, IsPart q u v → IsPart q' u v → ¬ q < q' := fun {q q'} h g w => by
    have vv := sq_pos h.ne
    have c := cast_le (A := A) (a := 1) (b := q' - q) (by omega)
    rw [cast_sub, cast_one] at c
    have := mul_nn (a := ((q' : A) - q) - 1) (b := v * v) (by grind) (by grind)
    have h1 := h.hi
    have g1 := g.lo
    have e : (u - q * v) * v - (u - q' * v) * v = ((q' : A) - q) * (v * v) := by grind
    grind
  have a := key h g
  have b := key g h
  omega
/-- above one, or without bound -/
def BgV (u v : A) : Prop := (v = 0 ∧ u ≠ 0) ∨ 0 < (u - v) * v
theorem BgV.of_pr {u v s t : A} (h : BgV s t) (p : Pr u v s t) : BgV u v := by
  have h1 := p.cross
  rcases h with ⟨t0, _⟩ | h
  · have v0 := p.zero.mpr t0
    exact .inl ⟨v0, fun w => p.nz ⟨w, v0⟩⟩
  · right
    have t0 : t ≠ 0 := by rintro rfl; grind
    have v0 : v ≠ 0 := fun w => t0 (p.zero.mp w)
    have tt := sq_pos t0
    have g := mul_pp h (sq_pos v0)
    have e : (u - v) * v * (t * t) = (s - t) * t * (v * v) := by
      have : (u - v) * v * (t * t) = (u * t - v * t) * (v * t) := by grind
      rw [this, h1]; grind
    exact pos_of_mul (b := t * t) (by rw [e]; exact g) tt
theorem IsPart.bg {q : Int} {u v : A} (h : IsPart q u v) : BgV v (u - q * v) := by
  have v0 := h.ne
  obtain ⟨lo, hi⟩ := h
  generalize u - q * v = w at *
  rcases Classical.em (w = 0) with z | z
  · exact .inl ⟨z, v0⟩
  · right
    -- 0 < w * v, w * v < v * v
    have vv := sq_pos v0
    have ww := sq_pos z
    have p : 0 < w * v := by
      rcases lt_or (w * v) 0 with g | g | g
      · grind
      · exact absurd g (mul_nz z v0)
      · exact g
    have g : 0 < (v - w) * v := by grind
    have : 0 < ((v - w) * w) * (v * v) := by
      have e : ((v - w) * w) * (v * v) = ((v - w) * v) * (w * v) := by grind
      rw [e]; exact mul_pp g p
    exact pos_of_mul this vv
/-- from the corners -/
theorem part_of {q : Int} {u v w m : A} (hm : m ≠ 0) (hw : w = u - q * v) (h1 : 0 ≤ w * m) (h2 : w * m < v * m) : IsPart q u v := by
  have mm := sq_pos hm
  have hv : 0 < v * m := by grind
  subst hw
  refine ⟨nn_of_mul (b := m * m) ?_ mm, ?_⟩
  · have e : (u - q * v) * v * (m * m) = ((u - q * v) * m) * (v * m) := by grind
    rw [e]; exact mul_nn h1 (by grind)
  · have : 0 < (v * v - (u - q * v) * v) * (m * m) := by
      have e : (v * v - (u - q * v) * v) * (m * m) = (v * m - (u - q * v) * m) * (v * m) := by grind
      rw [e]; exact mul_pp (by grind) hv
    have := pos_of_mul this mm
    grind
end
end PL
namespace PL
open Lean.Grind
theorem sg_lo {t b q : Int} (hb : b ≠ 0) (h : q ≤ t.fdiv b) : (0 < b → 0 ≤ t - q * b) ∧ (b < 0 → t - q * b ≤ 0) := by
  constructor
  · intro z; have := (le_fdiv_pos z).mp h; omega
  · intro z; have := (le_fdiv_neg z).mp h; omega
theorem sg_hi {t b q : Int} (h : ¬ 0 < (t - (q + 1) * b) * b) : (0 < b → t - q * b ≤ b) ∧ (b < 0 → b ≤ t - q * b) := by
  have e : t - (q + 1) * b = t - q * b - b := by grind
  rw [e] at h
  generalize t - q * b = s at h ⊢
  constructor
  · intro z
    rcases Int.lt_or_le b s with w | w
    · exact absurd (Int.mul_pos (show 0 < s - b by omega) z) h
    · exact w
  · intro z
    rcases Int.lt_or_le s b with w | w
    · exact absurd (Int.mul_pos_of_neg_of_neg (show s - b < 0 by omega) z) h
    · exact w
theorem same_sg {x y : Int} (h : 0 < x * y) : (0 < y → 0 < x) ∧ (y < 0 → x < 0) := by
  constructor
  · intro z
    rcases Int.lt_or_le 0 x with w | w
    · exact w
    · have := Int.mul_nonpos_of_nonpos_of_nonneg w (Int.le_of_lt z); omega
  · intro z
    rcases Int.lt_or_le x 0 with w | w
    · exact w
    · have := Int.mul_nonpos_of_nonneg_of_nonpos w (Int.le_of_lt z); omega
/-- the corners, all on one side -/
theorem corners_of {c0 : Int × Int} {r : List (Int × Int)} {q : Int} (h : belowAll (c0 :: r) = some q) :
    ((∀ c ∈ c0 :: r, 0 < c.2 ∧ 0 ≤ c.1 - q * c.2 ∧ c.1 - q * c.2 ≤ c.2) ∧ c0.1 - q * c0.2 < c0.2) ∨ ((∀ c ∈ c0 :: r, 0 < -c.2 ∧ 0 ≤ -(c.1 - q * c.2) ∧ -(c.1 - q * c.2) ≤ -c.2) ∧ -(c0.1 - q * c0.2) < -c0.2) := by
  obtain ⟨g1, _, g3, g4⟩ := belowAll_spec.mp h
  have z0 : c0.2 ≠ 0 := fun z => by have := g1 c0 List.mem_cons_self; rw [z] at this; simp at this
  have key : ∀ c ∈ c0 :: r, c.2 ≠ 0 ∧ ((0 < c0.2 → 0 < c.2) ∧ (c0.2 < 0 → c.2 < 0)) ∧ ((0 < c.2 → 0 ≤ c.1 - q * c.2) ∧ (c.2 < 0 → c.1 - q * c.2 ≤ 0)) ∧ ((0 < c.2 → c.1 - q * c.2 ≤ c.2) ∧ (c.2 < 0 → c.2 ≤ c.1 - q * c.2)) := fun c hc => by
    have p := g1 c hc
    have z : c.2 ≠ 0 := fun z => by rw [z] at p; simp at p
    exact ⟨z, same_sg p, sg_lo z (g3 c hc), sg_hi fun w => g4 c hc (.inl w)⟩
  have st : c0.1 - q * c0.2 ≠ c0.2 := fun w => g4 c0 List.mem_cons_self (.inr ⟨by
    have : c0.1 - (q + 1) * c0.2 = 0 := by grind
    rw [this, Int.zero_mul], rfl⟩)
  rcases Int.lt_or_gt_of_ne z0 with w | w
  · right
    refine ⟨fun c hc => ?_, ?_⟩
    · obtain ⟨_, k1, k2, k3⟩ := key c hc
      have n := k1.2 w
      have := k2.2 n
      have := k3.2 n
      omega
    · obtain ⟨_, k1, k2, k3⟩ := key c0 List.mem_cons_self
      have := k3.2 w
      omega
  · left
    refine ⟨fun c hc => ?_, ?_⟩
    · obtain ⟨_, k1, k2, k3⟩ := key c hc
      have n := k1.1 w
      exact ⟨n, k2.1 n, k3.1 n⟩
    · obtain ⟨_, k1, k2, k3⟩ := key c0 List.mem_cons_self
      have := k3.1 w
      omega
section
variable {A : Type} [CommRing A] [LE A] [LT A] [Std.LawfulOrderLT A] [Std.IsLinearOrder A] [OrderedRing A]
/-- a row's number by its corners: i, j the weights -/
theorem tell4 {a b c d q : Int} {ux vx u v : A} (hs : belowAll [(a, c), (a + b, c + d)] = some q) (hb : BgV ux vx) (hu : u = (a : A) * ux + b * vx) (hv : v = (c : A) * ux + d * vx) : IsPart q u v := by
  obtain ⟨i, hi⟩ : ∃ i : A, i = ux - vx := ⟨_, rfl⟩
  have i0 : i ≠ 0 := by
    rcases hb with ⟨z, w⟩ | h
    · subst z; subst hi; intro e; apply w; grind
    · intro e; rw [← hi, e] at h; grind
  have ij : 0 ≤ i * vx := by
    rcases hb with ⟨z, w⟩ | h
    · subst z; grind
    · rw [← hi] at h; grind
  have ii := sq_pos i0
  -- the numbers at the corners
  have eb : ((a + b - q * (c + d) : Int) : A) = (a : A) + b - q * (c + d) := by rw [cast_sub, cast_add, cast_mul, cast_add]
  have ea : ((a - q * c : Int) : A) = (a : A) - q * c := by rw [cast_sub, cast_mul]
  have ed : ((c + d : Int) : A) = (c : A) + d := cast_add ..
  obtain ⟨e0, he0⟩ : ∃ e : A, e = (a : A) - q * c := ⟨_, rfl⟩
  obtain ⟨e1, he1⟩ : ∃ e : A, e = (a : A) + b - q * (c + d) := ⟨_, rfl⟩
  obtain ⟨d1, hd1⟩ : ∃ e : A, e = (c : A) + d := ⟨_, rfl⟩
  have wm : (u - q * v) * i = e0 * (i * i) + e1 * (i * vx) := by rw [hu, hv, he0, he1, hi]; grind
  have vm : v * i = c * (i * i) + d1 * (i * vx) := by rw [hv, hd1, hi]; grind
  rw [← he0] at ea
  rw [← he1] at eb
  rw [← hd1] at ed
  rcases corners_of hs with ⟨h, st⟩ | ⟨h, st⟩
  · obtain ⟨p1, p2, p3⟩ := h (a, c) (by simp)
    obtain ⟨q1, q2, q3⟩ := h (a + b, c + d) (by simp)
    simp only at *
    have p1 := cast_pos (A := A) p1
    have p2 := cast_nn (A := A) p2
    have st := cast_pos (A := A) (n := c - (a - q * c)) (by omega)
    have q2 := cast_nn (A := A) q2
    have q3 := cast_nn (A := A) (n := c + d - (a + b - q * (c + d))) (by omega)
    rw [ea] at p2
    rw [cast_sub, ea] at st
    rw [eb] at q2
    rw [cast_sub, ed, eb] at q3
    refine part_of i0 rfl ?_ ?_
    · rw [wm]
      have := mul_nn p2 (Std.le_of_lt ii)
      have := mul_nn q2 ij
      grind
    · rw [wm, vm]
      have := mul_pp st ii
      have := mul_nn q3 ij
      grind
  · obtain ⟨p1, p2, p3⟩ := h (a, c) (by simp)
    obtain ⟨q1, q2, q3⟩ := h (a + b, c + d) (by simp)
    simp only at *
    have p2 := cast_nn (A := A) p2
    have st := cast_pos (A := A) (n := -(c - (a - q * c))) (by omega)
    have q2 := cast_nn (A := A) q2
    have q3 := cast_nn (A := A) (n := -(c + d - (a + b - q * (c + d)))) (by omega)
    rw [cast_neg, ea] at p2
    rw [cast_neg, cast_sub, ea] at st
    rw [cast_neg, eb] at q2
    rw [cast_neg, cast_sub, ed, eb] at q3
    refine part_of (m := -i) (by grind) rfl ?_ ?_
    · have e : (u - q * v) * -i = -((u - q * v) * i) := by grind
      rw [e, wm]
      have := mul_nn p2 (Std.le_of_lt ii)
      have := mul_nn q2 ij
      grind
    · have e : (u - q * v) * -i = -((u - q * v) * i) := by grind
      have e' : v * -i = -(v * i) := by grind
      rw [e, e', wm, vm]
      have := mul_pp st ii
      have := mul_nn q3 ij
      grind
theorem bg_w {u v : A} (h : BgV u v) : u - v ≠ 0 ∧ 0 ≤ (u - v) * v := by
  rcases h with ⟨z, w⟩ | h
  · subst z; refine ⟨fun e => w (by grind), by grind⟩
  · refine ⟨fun e => ?_, Std.le_of_lt h⟩
    rw [e] at h; grind
theorem tell8 {a b c d e f g h q : Int} {ux vx uy vy u v : A} (hs : belowAll [(a, e), (a + b, e + f), (a + c, e + g), (a + b + c + d, e + f + g + h)] = some q) (hx : BgV ux vx) (hy : BgV uy vy)
    (hu : u = (a : A) * ux * uy + b * ux * vy + c * vx * uy + d * vx * vy) (hv : v = (e : A) * ux * uy + f * ux * vy + g * vx * uy + h * vx * vy) : IsPart q u v := by
  obtain ⟨i0, ij⟩ := bg_w hx
  obtain ⟨k0, kl⟩ := bg_w hy
  obtain ⟨i, hi⟩ : ∃ i : A, i = ux - vx := ⟨_, rfl⟩
  obtain ⟨k, hk⟩ : ∃ k : A, k = uy - vy := ⟨_, rfl⟩
  rw [← hi] at i0 ij
  rw [← hk] at k0 kl
  have ii := sq_pos i0
  have kk := sq_pos k0
  have m0 : i * k ≠ 0 := mul_nz i0 k0
  -- weights
  have w0 := mul_pp ii kk
  have w1 := mul_nn (Std.le_of_lt ii) kl
  have w2 := mul_nn ij (Std.le_of_lt kk)
  have w3 := mul_nn ij kl
  obtain ⟨e0, he0⟩ : ∃ x : A, x = (a : A) - q * e := ⟨_, rfl⟩
  obtain ⟨e1, he1⟩ : ∃ x : A, x = (a : A) + b - q * (e + f) := ⟨_, rfl⟩
  obtain ⟨e2, he2⟩ : ∃ x : A, x = (a : A) + c - q * (e + g) := ⟨_, rfl⟩
  obtain ⟨e3, he3⟩ : ∃ x : A, x = (a : A) + b + c + d - q * (e + f + g + h) := ⟨_, rfl⟩
  obtain ⟨d1, hd1⟩ : ∃ x : A, x = (e : A) + f := ⟨_, rfl⟩
  obtain ⟨d2, hd2⟩ : ∃ x : A, x = (e : A) + g := ⟨_, rfl⟩
  obtain ⟨d3, hd3⟩ : ∃ x : A, x = (e : A) + f + g + h := ⟨_, rfl⟩
  have wm : (u - q * v) * (i * k) = e0 * (i * i * (k * k)) + e1 * (i * i * (k * vy)) + e2 * (i * vx * (k * k)) + e3 * (i * vx * (k * vy)) := by
    have x1 : ux = i + vx := by rw [hi]; grind
    have x2 : uy = k + vy := by rw [hk]; grind
    rw [hu, hv, he0, he1, he2, he3, x1, x2]; grind
  have vm : v * (i * k) = e * (i * i * (k * k)) + d1 * (i * i * (k * vy)) + d2 * (i * vx * (k * k)) + d3 * (i * vx * (k * vy)) := by
    have x1 : ux = i + vx := by rw [hi]; grind
    have x2 : uy = k + vy := by rw [hk]; grind
    rw [hv, hd1, hd2, hd3, x1, x2]; grind
  have c0 : ((a - q * e : Int) : A) = e0 := by rw [cast_sub, cast_mul, he0]
  have c1 : ((a + b - q * (e + f) : Int) : A) = e1 := by rw [cast_sub, cast_add, cast_mul, cast_add, he1]
  have c2 : ((a + c - q * (e + g) : Int) : A) = e2 := by rw [cast_sub, cast_add, cast_mul, cast_add, he2]
  have c3 : ((a + b + c + d - q * (e + f + g + h) : Int) : A) = e3 := by rw [cast_sub, cast_add, cast_add, cast_add, cast_mul, cast_add, cast_add, cast_add, he3]
  have f1 : ((e + f : Int) : A) = d1 := by rw [cast_add, hd1]
  have f2 : ((e + g : Int) : A) = d2 := by rw [cast_add, hd2]
  have f3 : ((e + f + g + h : Int) : A) = d3 := by rw [cast_add, cast_add, cast_add, hd3]
  generalize i * i * (k * k) = W0 at *
  generalize i * i * (k * vy) = W1 at *
  generalize i * vx * (k * k) = W2 at *
  generalize i * vx * (k * vy) = W3 at *
  clear he0 he1 he2 he3 hd1 hd2 hd3
  rcases corners_of hs with ⟨H, st⟩ | ⟨H, st⟩
  · obtain ⟨_, p2, _⟩ := H (a, e) (by simp)
    obtain ⟨_, q2, q3⟩ := H (a + b, e + f) (by simp)
    obtain ⟨_, r2, r3⟩ := H (a + c, e + g) (by simp)
    obtain ⟨_, s2, s3⟩ := H (a + b + c + d, e + f + g + h) (by simp)
    simp only at *
    have p2 := cast_nn (A := A) p2
    have q2 := cast_nn (A := A) q2
    have r2 := cast_nn (A := A) r2
    have s2 := cast_nn (A := A) s2
    have st := cast_pos (A := A) (n := e - (a - q * e)) (by omega)
    have q3 := cast_nn (A := A) (n := (e + f) - (a + b - q * (e + f))) (by omega)
    have r3 := cast_nn (A := A) (n := (e + g) - (a + c - q * (e + g))) (by omega)
    have s3 := cast_nn (A := A) (n := (e + f + g + h) - (a + b + c + d - q * (e + f + g + h))) (by omega)
    rw [c0] at p2
    rw [c1] at q2
    rw [c2] at r2
    rw [c3] at s2
    rw [cast_sub, c0] at st
    rw [cast_sub, c1, f1] at q3
    rw [cast_sub, c2, f2] at r3
    rw [cast_sub, c3, f3] at s3
    refine part_of m0 rfl ?_ ?_
    · rw [wm]
      have := mul_nn p2 (Std.le_of_lt w0)
      have := mul_nn q2 w1
      have := mul_nn r2 w2
      have := mul_nn s2 w3
      grind
    · rw [wm, vm]
      have := mul_pp st w0
      have := mul_nn q3 w1
      have := mul_nn r3 w2
      have := mul_nn s3 w3
      grind
  · obtain ⟨_, p2, _⟩ := H (a, e) (by simp)
    obtain ⟨_, q2, q3⟩ := H (a + b, e + f) (by simp)
    obtain ⟨_, r2, r3⟩ := H (a + c, e + g) (by simp)
    obtain ⟨_, s2, s3⟩ := H (a + b + c + d, e + f + g + h) (by simp)
    simp only at *
    have p2 := cast_nn (A := A) p2
    have q2 := cast_nn (A := A) q2
    have r2 := cast_nn (A := A) r2
    have s2 := cast_nn (A := A) s2
    have st := cast_pos (A := A) (n := -(e - (a - q * e))) (by omega)
    have q3 := cast_nn (A := A) (n := -((e + f) - (a + b - q * (e + f)))) (by omega)
    have r3 := cast_nn (A := A) (n := -((e + g) - (a + c - q * (e + g)))) (by omega)
    have s3 := cast_nn (A := A) (n := -((e + f + g + h) - (a + b + c + d - q * (e + f + g + h)))) (by omega)
    rw [cast_neg, c0] at p2
    rw [cast_neg, c1] at q2
    rw [cast_neg, c2] at r2
    rw [cast_neg, c3] at s2
    rw [cast_neg, cast_sub, c0] at st
    rw [cast_neg, cast_sub, c1, f1] at q3
    rw [cast_neg, cast_sub, c2, f2] at r3
    rw [cast_neg, cast_sub, c3, f3] at s3
    refine part_of (m := -(i * k)) (by grind) rfl ?_ ?_
    · have e' : (u - q * v) * -(i * k) = -((u - q * v) * (i * k)) := by grind
      rw [e', wm]
      have := mul_nn p2 (Std.le_of_lt w0)
      have := mul_nn q2 w1
      have := mul_nn r2 w2
      have := mul_nn s2 w3
      grind
    · have e' : (u - q * v) * -(i * k) = -((u - q * v) * (i * k)) := by grind
      have e2 : v * -(i * k) = -(v * (i * k)) := by grind
      rw [e', e2, wm, vm]
      have := mul_pp st w0
      have := mul_nn q3 w1
      have := mul_nn r3 w2
      have := mul_nn s3 w3
      grind
end
end PL
namespace PL
open Lean.Grind
/-- a row of parts as a chain that ends has them -/
structure Gl (l : List Int) : Prop where
  one : ∀ n ∈ l.drop 1, 1 ≤ n
  two : ∀ n, (l.drop 1).getLast? = some n → 2 ≤ n
theorem Gl.tail {p : Int} {l : List Int} (h : Gl (p :: l)) : Gl l := by
  obtain ⟨h1, h2⟩ := h
  refine ⟨fun n hn => h1 n (List.mem_of_mem_drop hn), fun n hn => h2 n ?_⟩
  cases l with
  | nil => simp at hn
  | cons x l =>
    rw [List.drop_one, List.tail_cons] at hn
    show (x :: l).getLast? = some n
    cases l with
    | nil => simp at hn
    | cons y l => rw [List.getLast?_cons_cons]; exact hn
theorem cf_pos : ∀ {ps : List Int}, (∀ n ∈ ps, 1 ≤ n) → 1 ≤ (cfold ps).1 ∧ 0 ≤ (cfold ps).2
  | [], _ => by simp [cfold]
  | p :: ps, h => by
    obtain ⟨h1, h2⟩ := cf_pos (ps := ps) fun n hn => h n (List.mem_cons_of_mem _ hn)
    have hp := h p List.mem_cons_self
    have := Int.mul_le_mul hp h1 (by decide) (by omega)
    simp only [cfold]
    omega
theorem cfold_lt : ∀ {l : List Int}, (∀ n ∈ l, 1 ≤ n) → (∀ n, l.getLast? = some n → 2 ≤ n) → 0 ≤ (cfold l).2 ∧ (cfold l).2 < (cfold l).1
  | [], _, _ => by simp [cfold]
  | [n], _, h2 => by have := h2 n rfl; simp [cfold]; omega
  | n :: m :: l, h1, h2 => by
    have hn := h1 n List.mem_cons_self
    have k1 := (cf_pos (ps := m :: l) fun x hx => h1 x (List.mem_cons_of_mem _ hx)).1
    have k2 := (cf_pos (ps := l) fun x hx => h1 x (List.mem_cons_of_mem _ (List.mem_cons_of_mem _ hx))).1
    have e : (cfold (n :: m :: l)) = (n * (cfold (m :: l)).1 + (cfold (m :: l)).2, (cfold (m :: l)).1) := rfl
    have e2 : (cfold (m :: l)).2 = (cfold l).1 := rfl
    rw [e]
    rw [← e2] at k2
    generalize cfold (m :: l) = z at *
    have := Int.mul_le_mul_of_nonneg_right hn (show 0 ≤ z.1 by omega)
    simp only
    omega
section
variable {A : Type} [CommRing A] [LE A] [LT A] [Std.LawfulOrderLT A] [Std.IsLinearOrder A] [OrderedRing A]
/-- u over v is what is left of the reader's number; bb: parts of it were told -/
def Sem (A : Type) [CommRing A] [LE A] [LT A] [Std.LawfulOrderLT A] [Std.IsLinearOrder A] [OrderedRing A] : Bool → R → A → A → Prop
  | bb, .fixed t b g, u, v => g = bb ∧ (bb = false → v ≠ 0) ∧ Pr u v (t : A) b
  | bb, .frac k t b, u, v => bb = decide (0 < k) ∧ (bb = false → v ≠ 0) ∧ Pr u v (t : A) b
  | bb, .root k t s b f, u, v => bb = decide (0 < k) ∧ (bb = false → v ≠ 0) ∧ ∃ ρ : A, 0 ≤ ρ ∧ ρ * ρ = (s : A) ∧ RtI t s b f ∧ Pr u v ((t : A) + ρ) b
  | bb, .ruled k ps ring _, u, v => bb = decide (0 < k) ∧ (bb = false → v ≠ 0) ∧ ring = [] ∧ k ≤ ps.length ∧ Gl (ps.drop k) ∧ Pr u v ((cfold (ps.drop k)).1 : A) (cfold (ps.drop k)).2
  | bb, .four a b c d rdy bg x, u, v => bg = bb ∧ (bb = false → v ≠ 0) ∧ ∃ ux vx, Sem A rdy x ux vx ∧ (rdy = true → BgV ux vx) ∧ Pr u v ((a : A) * ux + b * vx) ((c : A) * ux + d * vx)
  | bb, .fourX _ t b g, u, v => g = bb ∧ (bb = false → v ≠ 0) ∧ Pr u v (t : A) b
  | bb, .eight a b c d e f g h m0 m1 bg x y, u, v => bg = bb ∧ (bb = false → v ≠ 0) ∧ ∃ ux vx uy vy, Sem A (decide (0 < m0)) x ux vx ∧ Sem A (decide (0 < m1)) y uy vy ∧ (0 < m0 → BgV ux vx) ∧ (0 < m1 → BgV uy vy) ∧
      Pr u v ((a : A) * ux * uy + b * ux * vy + c * vx * uy + d * vx * vy) ((e : A) * ux * uy + f * ux * vy + g * vx * uy + h * vx * vy)
  | bb, .eightX _ _ t b g, u, v => g = bb ∧ (bb = false → v ≠ 0) ∧ Pr u v (t : A) b
  | bb, .eightF _ _ fr, u, v => Sem A bb fr u v
theorem Sem.nz : ∀ {bb : Bool} {r : R} {u v : A}, Sem A bb r u v → Nz u v ∧ (bb = false → v ≠ 0)
  | _, .fixed .., _, _, ⟨_, g, h⟩ => ⟨h.nz, g⟩
  | _, .frac .., _, _, ⟨_, g, h⟩ => ⟨h.nz, g⟩
  | _, .root .., _, _, ⟨_, g, _, _, _, _, h⟩ => ⟨h.nz, g⟩
  | _, .ruled .., _, _, ⟨_, g, _, _, _, h⟩ => ⟨h.nz, g⟩
  | _, .four .., _, _, ⟨_, g, _, _, _, _, h⟩ => ⟨h.nz, g⟩
  | _, .fourX .., _, _, ⟨_, g, h⟩ => ⟨h.nz, g⟩
  | _, .eight .., _, _, ⟨_, g, _, _, _, _, _, _, _, _, h⟩ => ⟨h.nz, g⟩
  | _, .eightX .., _, _, ⟨_, g, h⟩ => ⟨h.nz, g⟩
  | _, .eightF _ _ fr, _, _, h => Sem.nz (r := fr) h
theorem rem_sg {t b : Int} (hb : b ≠ 0) : 0 ≤ (t - t.fdiv b * b) * b ∧ (t - t.fdiv b * b) * b < b * b := by
  have e := Int.mul_fdiv_add_fmod t b
  have e2 : t - t.fdiv b * b = t.fmod b := by rw [Int.mul_comm] at e; omega
  rw [e2]
  rcases Int.lt_or_gt_of_ne hb with z | z
  · obtain ⟨h1, h2⟩ := fmod_neg' (t := t) z
    exact ⟨Int.mul_nonneg_of_nonpos_of_nonpos h2 (Int.le_of_lt z), Int.mul_lt_mul_of_neg_right h1 z⟩
  · have h1 := Int.fmod_nonneg_of_pos t z
    have h2 := Int.fmod_lt_of_pos t z
    exact ⟨Int.mul_nonneg h1 (Int.le_of_lt z), Int.mul_lt_mul_of_pos_right h2 z⟩
/-- floor division's part -/
theorem part_fdiv {t b : Int} (hb : b ≠ 0) {u v : A} (h : Pr u v (t : A) b) : IsPart (t.fdiv b) u v ∧ Pr v (u - (t.fdiv b : Int) * v) (b : A) ((t - t.fdiv b * b : Int) : A) := by
  refine ⟨IsPart.of_pr ?_ h, ?_⟩
  · obtain ⟨h1, h2⟩ := rem_sg (t := t) hb
    generalize t.fdiv b = q at *
    refine ⟨?_, ?_⟩
    · have := cast_nn (A := A) h1
      rwa [cast_mul, cast_sub, cast_mul] at this
    · have := cast_lt (A := A) h2
      rwa [cast_mul, cast_sub, cast_mul, cast_mul] at this
  · rw [cast_sub, cast_mul]
    exact h.next
theorem sqr_lt {x y : A} (hx : 0 ≤ x) (hy : 0 ≤ y) (h : x * x < y * y) : x < y := by
  rcases lt_or x y with g | g | g
  · exact g
  · subst g; grind
  · have := mul_nn (a := x - y) (b := x) (by grind) hx
    have := mul_nn (a := x - y) (b := y) (by grind) hy
    grind
theorem part_root {t s b f q : Int} {ρ u v : A} (R : RtI t s b f) (r0 : 0 ≤ ρ) (rr : ρ * ρ = (s : A)) (hq : q = (t + f + (if b < 0 then 1 else 0)).fdiv b) (h : Pr u v ((t : A) + ρ) b) :
    IsPart q u v ∧ Pr v (u - q * v) (((q * b - t : Int) : A) + ρ) (((s - (q * b - t) * (q * b - t)).fdiv b : Int) : A) := by
  obtain ⟨f0, lo, hi, b0, _⟩ := R
  have lo' : (f : A) < ρ := sqr_lt (cast_nn f0) r0 (by rw [rr, ← cast_mul]; exact cast_lt lo)
  have hi' : ρ < (f : A) + 1 := by
    have : ρ < ((f + 1 : Int) : A) := sqr_lt r0 (cast_nn (by omega)) (by rw [rr, ← cast_mul]; exact cast_lt hi)
    rwa [cast_add, cast_one] at this
  obtain ⟨R', _, hbb, _, _⟩ := rt_next ⟨f0, lo, hi, b0, by assumption⟩ hq rfl rfl
  generalize (s - (q * b - t) * (q * b - t)).fdiv b = b' at *
  have hbz := cast_ne (A := A) b0
  have part : IsPart q ((t : A) + ρ) (b : A) := by
    rcases Int.lt_or_gt_of_ne b0 with z | z
    · rw [if_pos z] at hq
      have k1 := (le_fdiv_neg (x := t + f + 1) (y := q) z).mp (by omega)
      have k2 : ¬ t + f + 1 ≤ (q + 1) * b := fun w => by have := (le_fdiv_neg (x := t + f + 1) (y := q + 1) z).mpr w; omega
      have k1 := cast_le (A := A) k1
      have k2 := cast_le (A := A) (show (q + 1) * b ≤ t + f by omega)
      have zb := cast_pos (A := A) (n := -b) (by omega)
      rw [cast_add, cast_add, cast_mul, cast_one] at k1
      rw [cast_mul, cast_add, cast_add, cast_one] at k2
      rw [cast_neg] at zb
      refine ⟨?_, ?_⟩
      · have := mul_pp (a := (q : A) * b - (t + ρ)) (b := -b) (by grind) zb
        grind
      · have := mul_pp (a := (t : A) + ρ - q * b - b) (b := -b) (by grind) zb
        grind
    · rw [if_neg (by omega), Int.add_zero] at hq
      have k1 := (le_fdiv_pos (x := t + f) (y := q) z).mp (by omega)
      have k2 : ¬ (q + 1) * b ≤ t + f := fun w => by have := (le_fdiv_pos (x := t + f) (y := q + 1) z).mpr w; omega
      have k1 := cast_le (A := A) k1
      have k2 := cast_le (A := A) (show t + f + 1 ≤ (q + 1) * b by omega)
      have zb := cast_pos (A := A) z
      rw [cast_mul, cast_add] at k1
      rw [cast_mul, cast_add, cast_add, cast_add, cast_one] at k2
      refine ⟨?_, ?_⟩
      · have := mul_nn (a := (t : A) + ρ - q * b) (b := b) (by grind) (Std.le_of_lt zb)
        grind
      · have := mul_pp (a := (b : A) - (t + ρ - q * b)) (b := b) (by grind) zb
        grind
  refine ⟨part.of_pr h, ?_⟩
  have g := h.next (q := (q : A))
  refine g.trans ⟨?_, g.nz2, fun w => ?_⟩
  · rw [cast_sub, cast_mul]
    have e : ((b * b' : Int) : A) = ((s - (q * b - t) * (q * b - t) : Int) : A) := by rw [hbb]
    rw [cast_mul, cast_sub, cast_mul, cast_sub, cast_mul, ← rr] at e
    rw [e]
    grind
  · exact cast_ne (A := A) R'.b0 w.2
theorem ruled_part {k : Nat} {ps : List Int} (h : k < ps.length) : ps.drop k = ps.getD k 0 :: ps.drop (k + 1) := by
  rw [List.drop_eq_getElem_cons h, List.getD_eq_getElem?_getD, List.getElem?_eq_getElem h]
  rfl
/-- the answer is the number's -/
def AnsOk (A : Type) [CommRing A] [LE A] [LT A] [Std.LawfulOrderLT A] [Std.IsLinearOrder A] [OrderedRing A] (bb : Bool) (r' : R) (u v : A) : Ans → Prop
  | .part q => IsPart q u v ∧ Sem A true r' v (u - q * v)
  | .fin => v = 0 ∧ Sem A true r' u v ∧ bb = true
  | .waits => Sem A bb r' u v
  | .none => False
theorem pr_smul {s t : A} {k : A} (hk : k ≠ 0) (h : Nz (s * k) (t * k)) : Pr (s * k) (t * k) s t := ⟨by grind, h, fun w => h ⟨by rw [w.1]; grind, by rw [w.2]; grind⟩⟩
/-- a fraction's reader -/
theorem fixed_ok {t b : Int} {g : Bool} {m m' : Int} {n : Nat} {r' : R} {ans : Ans} (ht : Told n (.fixed t b g) m r' m' ans) {u v : A} (hv : g = false → v ≠ 0) (h : Pr u v (t : A) b) : ∃ t' b' g', r' = .fixed t' b' g' ∧
    ((∃ q, ans = .part q ∧ IsPart q u v ∧ g' = true ∧ Pr v (u - q * v) (t' : A) b') ∨ (ans = .fin ∧ v = 0 ∧ t' = t ∧ b' = b ∧ g = true ∧ g' = true)) := by
  cases ht with
  | fxEnd => exact ⟨_, _, _, rfl, .inr ⟨rfl, h.zero.mpr cast_zero, rfl, rfl, rfl, rfl⟩⟩
  | fxNo => exact absurd (h.zero.mpr cast_zero) (hv rfl)
  | fxPart hb =>
    obtain ⟨h1, h2⟩ := part_fdiv hb h
    exact ⟨_, _, _, rfl, .inl ⟨_, rfl, h1, rfl, h2⟩⟩
theorem dec_succ (k : Nat) : true = decide (0 < k + 1) := by simp
theorem sound {n : Nat} {r r' : R} {m m' : Int} {ans : Ans} (ht : Told n r m r' m' ans) : ∀ {bb : Bool} {u v : A}, Sem A bb r u v → AnsOk A bb r' u v ans := by
  induction ht with
  | fxEnd => rintro bb u v ⟨rfl, hv, h⟩; exact ⟨h.zero.mpr cast_zero, ⟨rfl, hv, h⟩, rfl⟩
  | fxNo => rintro bb u v ⟨rfl, hv, h⟩; exact absurd (h.zero.mpr cast_zero) (hv rfl)
  | fxPart hb => rintro bb u v ⟨rfl, hv, h⟩; exact ⟨(part_fdiv hb h).1, rfl, fun z => (by cases z), (part_fdiv hb h).2⟩
  | @frEnd k t m =>
    rintro bb u v ⟨e, hv, h⟩
    have v0 := h.zero.mpr cast_zero
    cases bb with
    | false => exact absurd v0 (hv rfl)
    | true => exact ⟨v0, ⟨e, hv, h⟩, rfl⟩
  | frWait => intro bb u v h; exact h
  | frPart hb => rintro bb u v ⟨e, hv, h⟩; exact ⟨(part_fdiv hb h).1, dec_succ _, fun z => (by cases z), (part_fdiv hb h).2⟩
  | rtWait => intro bb u v h; exact h
  | rtPart _ _ _ _ _ _ hq ht' _ =>
    rintro bb u v ⟨e, hv, ρ, r0, rr, R, h⟩
    subst ht'
    obtain ⟨h1, h2⟩ := part_root R r0 rr hq h
    exact ⟨h1, dec_succ _, fun z => (by cases z), ρ, r0, rr, (rt_next R hq rfl rfl).1, h2⟩
  | @ruEnd k ps steps m hk =>
    rintro bb u v ⟨e, hv, hr, hl, hG, h⟩
    have v0 : v = 0 := by
      rw [List.drop_eq_nil_of_le hk] at h
      exact h.zero.mpr cast_zero
    cases bb with
    | false => exact absurd v0 (hv rfl)
    | true => exact ⟨v0, ⟨e, hv, hr, hl, hG, h⟩, rfl⟩
  | ruWait => intro bb u v h; exact h
  | @ruPart k ps ring steps m hk _ _ _ _ _ _ =>
    rintro bb u v ⟨eb, hv, hr, hl, hG, h⟩
    have hlt := hk hr
    rw [ruled_part hlt] at h hG
    have e : ruV k ps ring steps = ps.getD k 0 := by unfold ruV; rw [if_pos hlt]
    rw [e]
    generalize ps.getD k 0 = p at *
    obtain ⟨l1, l2⟩ := cfold_lt hG.one hG.two
    have ec : cfold (p :: ps.drop (k + 1)) = (p * (cfold (ps.drop (k + 1))).1 + (cfold (ps.drop (k + 1))).2, (cfold (ps.drop (k + 1))).1) := rfl
    rw [ec] at h
    simp only [List.drop_one, List.tail_cons] at l1 l2
    have hp : IsPart p u v := by
      refine IsPart.of_pr ?_ h
      refine ⟨?_, ?_⟩
      · have := cast_nn (A := A) (n := (cfold (ps.drop (k + 1))).2 * (cfold (ps.drop (k + 1))).1) (Int.mul_nonneg l1 (by omega))
        rw [cast_mul] at this
        rw [cast_add, cast_mul]
        grind
      · have := cast_lt (A := A) (a := (cfold (ps.drop (k + 1))).2 * (cfold (ps.drop (k + 1))).1) (b := (cfold (ps.drop (k + 1))).1 * (cfold (ps.drop (k + 1))).1) (Int.mul_lt_mul_of_pos_right l2 (by omega))
        rw [cast_mul, cast_mul] at this
        rw [cast_add, cast_mul]
        grind
    refine ⟨hp, dec_succ _, fun z => (by cases z), hr, hlt, hG.tail, ?_⟩
    have g := h.next (q := (p : A))
    rw [cast_add, cast_mul] at g
    have : (p : A) * (cfold (ps.drop (k + 1))).1 + (cfold (ps.drop (k + 1))).2 - p * (cfold (ps.drop (k + 1))).1 = ((cfold (ps.drop (k + 1))).2 : A) := by grind
    rw [this] at g
    exact g
  | @foTell a b c d rdy bg x m q _ _ _ _ hs =>
    rintro bb u v ⟨rfl, hv, ux, vx, hx, hb, h⟩
    cases rdy with
    | false => cases hs
    | true =>
      have hp := tell4 hs (hb rfl) rfl rfl
      refine ⟨hp.of_pr h, rfl, fun z => (by cases z), ux, vx, hx, hb, ?_⟩
      have g := h.next (q := (q : A))
      rw [cast_sub, cast_sub, cast_mul, cast_mul]
      have e : ((a : A) * ux + b * vx) - q * ((c : A) * ux + d * vx) = ((a : A) - q * c) * ux + ((b : A) - q * d) * vx := by grind
      rw [e] at g
      exact g
  | foWait _ _ _ _ _ _ ih =>
    rintro bb u v ⟨rfl, hv, ux, vx, hx, hb, h⟩
    exact ⟨rfl, hv, ux, vx, ih hx, hb, h⟩
  | foNo _ _ _ _ _ _ ih =>
    rintro bb u v ⟨rfl, hv, ux, vx, hx, hb, h⟩
    exact ih hx
  | @foEnd a b c d rdy bg x m i x' m1 t' b' g' m' ans _ _ _ _ _ _ hf ih1 ih2 =>
    rintro bb u v ⟨rfl, hv, ux, vx, hx, hb, h⟩
    obtain ⟨v0, hx', _⟩ := ih1 hx
    subst v0
    have u0 : ux ≠ 0 := fun w => hx.nz.1 ⟨w, rfl⟩
    have e1 : (a : A) * ux + b * 0 = a * ux := by grind
    have e2 : (c : A) * ux + d * 0 = c * ux := by grind
    rw [e1, e2] at h
    have h2 : Pr u v (a : A) c := h.trans (pr_smul u0 h.nz2)
    obtain ⟨t1, b1, g1, e, hor⟩ := fixed_ok hf hv h2
    cases e
    rcases hor with ⟨q, rfl, k1, rfl, k2⟩ | ⟨rfl, k1, rfl, rfl, k3, rfl⟩
    · exact ⟨k1, rfl, fun z => (by cases z), k2⟩
    · exact ⟨k1, ⟨rfl, fun z => (by cases z), h2⟩, k3⟩
  | @foIn a b c d rdy bg x m i x' m1 q n r' m' ans _ _ _ _ _ _ _ _ ih1 ih2 =>
    rintro bb u v ⟨rfl, hv, ux, vx, hx, hb, h⟩
    obtain ⟨hp, hx'⟩ := ih1 hx
    refine ih2 ⟨rfl, hv, vx, ux - q * vx, hx', fun _ => hp.bg, ?_⟩
    rw [cast_add, cast_add, cast_mul, cast_mul]
    have e1 : ((a : A) * q + b) * vx + a * (ux - q * vx) = a * ux + b * vx := by grind
    have e2 : ((c : A) * q + d) * vx + c * (ux - q * vx) = c * ux + d * vx := by grind
    rw [e1, e2]
    exact h
  | fxX ht ih =>
    rintro bb u v ⟨rfl, hv, h⟩
    obtain ⟨t1, b1, g1, e, hor⟩ := fixed_ok ht hv h
    cases e
    rcases hor with ⟨q, rfl, k1, rfl, k2⟩ | ⟨rfl, k1, rfl, rfl, k3, rfl⟩
    · exact ⟨k1, rfl, fun z => (by cases z), k2⟩
    · exact ⟨k1, ⟨rfl, fun z => (by cases z), h⟩, k3⟩
  | exX ht ih =>
    rintro bb u v ⟨rfl, hv, h⟩
    obtain ⟨t1, b1, g1, e, hor⟩ := fixed_ok ht hv h
    cases e
    rcases hor with ⟨q, rfl, k1, rfl, k2⟩ | ⟨rfl, k1, rfl, rfl, k3, rfl⟩
    · exact ⟨k1, rfl, fun z => (by cases z), k2⟩
    · exact ⟨k1, ⟨rfl, fun z => (by cases z), h⟩, k3⟩
  | @exF w dead fr m n fr' m' ans _ _ ih =>
    intro bb u v h
    have := ih (bb := bb) (u := u) (v := v) h
    cases ans <;> exact this
  | @etTell a b c d e f g h m0 m1 bg x y m q _ hs =>
    rintro bb u v ⟨rfl, hv, ux, vx, uy, vy, hx, hy, hbx, hby, hP⟩
    unfold sure8 at hs
    by_cases hm : 0 < m0 ∧ 0 < m1
    · rw [if_pos hm] at hs
      have hp := tell8 hs (hbx hm.1) (hby hm.2) rfl rfl
      refine ⟨hp.of_pr hP, rfl, fun z => (by cases z), ux, vx, uy, vy, hx, hy, hbx, hby, ?_⟩
      have g' := hP.next (q := (q : A))
      rw [cast_sub, cast_sub, cast_sub, cast_sub, cast_mul, cast_mul, cast_mul, cast_mul]
      have e' : ((a : A) * ux * uy + b * ux * vy + c * vx * uy + d * vx * vy) - q * ((e : A) * ux * uy + f * ux * vy + g * vx * uy + h * vx * vy) = ((a : A) - q * e) * ux * uy + ((b : A) - q * f) * ux * vy + ((c : A) - q * g) * vx * uy + ((d : A) - q * h) * vx * vy := by grind
      rw [e'] at g'
      exact g'
    · rw [if_neg hm] at hs; cases hs
  | @etWait a b c d e f g h m0 m1 bg x y m w i z m' _ _ hw _ ih =>
    rintro bb u v ⟨rfl, hv, ux, vx, uy, vy, hx, hy, hbx, hby, hP⟩
    cases w with
    | true => exact ⟨rfl, hv, ux, vx, uy, vy, hx, ih hy, hbx, hby, hP⟩
    | false => exact ⟨rfl, hv, ux, vx, uy, vy, ih hx, hy, hbx, hby, hP⟩
  | @etNo a b c d e f g h m0 m1 bg x y m w i z m' _ _ hw _ ih =>
    rintro bb u v ⟨rfl, hv, ux, vx, uy, vy, hx, hy, hbx, hby, hP⟩
    cases w with
    | true => exact ih hy
    | false => exact ih hx
  | @etFour a b c d e f g h m0 m1 bg x y m w i z m2 n fr m' ans _ _ hw _ _ _ ih1 ih2 =>
    rintro bb u v ⟨rfl, hv, ux, vx, uy, vy, hx, hy, hbx, hby, hP⟩
    have key : Sem A bg (.four a (cond w c b) e (cond w g f) (decide (0 < cond w m0 m1)) bg (cond w x y)) u v := by
      cases w with
      | true =>
        obtain ⟨v0, hy', _⟩ := ih1 hy
        subst v0
        have u0 : uy ≠ 0 := fun w => hy.nz.1 ⟨w, rfl⟩
        refine ⟨rfl, hv, ux, vx, hx, fun w => hbx (by simpa using w), ?_⟩
        have e1 : (a : A) * ux * uy + b * ux * 0 + c * vx * uy + d * vx * 0 = ((a : A) * ux + c * vx) * uy := by grind
        have e2 : (e : A) * ux * uy + f * ux * 0 + g * vx * uy + h * vx * 0 = ((e : A) * ux + g * vx) * uy := by grind
        rw [e1, e2] at hP
        exact hP.trans (pr_smul u0 hP.nz2)
      | false =>
        obtain ⟨v0, hx', _⟩ := ih1 hx
        subst v0
        have u0 : ux ≠ 0 := fun w => hx.nz.1 ⟨w, rfl⟩
        refine ⟨rfl, hv, uy, vy, hy, fun w => hby (by simpa using w), ?_⟩
        have e1 : (a : A) * ux * uy + b * ux * vy + c * 0 * uy + d * 0 * vy = ((a : A) * uy + b * vy) * ux := by grind
        have e2 : (e : A) * ux * uy + f * ux * vy + g * 0 * uy + h * 0 * vy = ((e : A) * uy + f * vy) * ux := by grind
        rw [e1, e2] at hP
        exact hP.trans (pr_smul u0 hP.nz2)
    have := ih2 key
    cases ans <;> exact this
  | @etFix a b c d e f g h m0 m1 bg x y m w i z m2 t0 b0 t' b' g' m' ans _ _ hw _ hdet ht0 hf ih1 ih2 =>
    rintro bb u v ⟨rfl, hv, ux, vx, uy, vy, hx, hy, hbx, hby, hP⟩
    have flat : ∀ {b1 f1 : Int} {uo vo : A}, a * f1 = b1 * e → (t0, b0) = (if a = 0 ∧ e = 0 then (b1, f1) else (a, e)) → Pr u v ((a : A) * uo + b1 * vo) ((e : A) * uo + f1 * vo) → Pr u v (t0 : A) b0 := fun {b1 f1 uo vo} h1 h2 h3 => by
      have e1 : (a : A) * f1 = b1 * e := by rw [← cast_mul, ← cast_mul, h1]
      by_cases hz : a = 0 ∧ e = 0
      · rw [if_pos hz] at h2
        cases h2
        obtain ⟨rfl, rfl⟩ := hz
        rw [cast_zero] at h3
        have v0 : vo ≠ 0 := fun w => h3.nz2 ⟨by rw [w]; grind, by rw [w]; grind⟩
        have q1 : (0 : A) * uo + t0 * vo = t0 * vo := by grind
        have q2 : (0 : A) * uo + b0 * vo = b0 * vo := by grind
        rw [q1, q2] at h3
        exact h3.trans (pr_smul v0 h3.nz2)
      · rw [if_neg hz] at h2
        cases h2
        refine h3.trans ⟨by grind, h3.nz2, fun w => hz ?_⟩
        exact ⟨cast_inj (A := A) (by rw [w.1, cast_zero]), cast_inj (A := A) (by rw [w.2, cast_zero])⟩
    have key : Pr u v (t0 : A) b0 := by
      cases w with
      | true =>
        obtain ⟨v0, hy', _⟩ := ih1 hy
        subst v0
        have u0 : uy ≠ 0 := fun w => hy.nz.1 ⟨w, rfl⟩
        have e1 : (a : A) * ux * uy + b * ux * 0 + c * vx * uy + d * vx * 0 = ((a : A) * ux + c * vx) * uy := by grind
        have e2 : (e : A) * ux * uy + f * ux * 0 + g * vx * uy + h * vx * 0 = ((e : A) * ux + g * vx) * uy := by grind
        rw [e1, e2] at hP
        exact flat hdet ht0 (hP.trans (pr_smul u0 hP.nz2))
      | false =>
        obtain ⟨v0, hx', _⟩ := ih1 hx
        subst v0
        have u0 : ux ≠ 0 := fun w => hx.nz.1 ⟨w, rfl⟩
        have e1 : (a : A) * ux * uy + b * ux * vy + c * 0 * uy + d * 0 * vy = ((a : A) * uy + b * vy) * ux := by grind
        have e2 : (e : A) * ux * uy + f * ux * vy + g * 0 * uy + h * 0 * vy = ((e : A) * uy + f * vy) * ux := by grind
        rw [e1, e2] at hP
        exact flat hdet ht0 (hP.trans (pr_smul u0 hP.nz2))
    obtain ⟨t1, b1, g1, e', hor⟩ := fixed_ok hf hv key
    cases e'
    rcases hor with ⟨q, rfl, k1, rfl, k2⟩ | ⟨rfl, k1, rfl, rfl, k3, rfl⟩
    · exact ⟨k1, rfl, fun z => (by cases z), k2⟩
    · exact ⟨k1, ⟨rfl, fun z => (by cases z), key⟩, k3⟩
  | @etIn0 a b c d e f g h m0 m1 bg x y m i z m2 q n r' m' ans _ _ _ _ _ _ ih1 ih2 =>
    rintro bb u v ⟨rfl, hv, ux, vx, uy, vy, hx, hy, hbx, hby, hP⟩
    obtain ⟨hp, hx'⟩ := ih1 hx
    refine ih2 ⟨rfl, hv, vx, ux - q * vx, uy, vy, dec_succ m0 ▸ hx', hy, fun _ => hp.bg, hby, ?_⟩
    rw [cast_add, cast_add, cast_add, cast_add, cast_mul, cast_mul, cast_mul, cast_mul]
    have e1 : ((a : A) * q + c) * vx * uy + ((b : A) * q + d) * vx * vy + a * (ux - q * vx) * uy + b * (ux - q * vx) * vy = (a : A) * ux * uy + b * ux * vy + c * vx * uy + d * vx * vy := by grind
    have e2 : ((e : A) * q + g) * vx * uy + ((f : A) * q + h) * vx * vy + e * (ux - q * vx) * uy + f * (ux - q * vx) * vy = (e : A) * ux * uy + f * ux * vy + g * vx * uy + h * vx * vy := by grind
    rw [e1, e2]
    exact hP
  | @etIn1 a b c d e f g h m0 m1 bg x y m i z m2 q n r' m' ans _ _ _ _ _ _ ih1 ih2 =>
    rintro bb u v ⟨rfl, hv, ux, vx, uy, vy, hx, hy, hbx, hby, hP⟩
    obtain ⟨hp, hy'⟩ := ih1 hy
    refine ih2 ⟨rfl, hv, ux, vx, vy, uy - q * vy, hx, dec_succ m1 ▸ hy', hbx, fun _ => hp.bg, ?_⟩
    rw [cast_add, cast_add, cast_add, cast_add, cast_mul, cast_mul, cast_mul, cast_mul]
    have e1 : ((a : A) * q + b) * ux * vy + a * ux * (uy - q * vy) + ((c : A) * q + d) * vx * vy + c * vx * (uy - q * vy) = (a : A) * ux * uy + b * ux * vy + c * vx * uy + d * vx * vy := by grind
    have e2 : ((e : A) * q + f) * ux * vy + e * ux * (uy - q * vy) + ((g : A) * q + h) * vx * vy + g * vx * (uy - q * vy) = (e : A) * ux * uy + f * ux * vy + g * vx * uy + h * vx * vy := by grind
    rw [e1, e2]
    exact hP
end
end PL
namespace PL
open Lean.Grind
section
variable {d : Int}
def vu (p : T3) : Zd d := ⟨p.1, p.2.1⟩
def vv (p : T3) : Zd d := ⟨p.2.2, 0⟩
/-- p tells the number of u over v -/
abbrev Va (p : T3) (u v : Zd d) : Prop := Pr u v (vu p) (vv p)
theorem zd_int (n : Int) : ((n : Int) : Zd d) = ⟨n, 0⟩ := rfl
theorem vv_ne {p : T3} (h : p.2.2 ≠ 0) : (vv p : Zd d) ≠ 0 := fun w => h (congrArg Zd.x w)
theorem vv_nz {p : T3} (h : p.2.2 ≠ 0) : Nz (vu p : Zd d) (vv p) := fun w => vv_ne h w.2
variable [hs : NS d]
theorem made_va {x y z : Int} (hz : z ≠ 0) : Va (madeT x y z) (⟨x, y⟩ : Zd d) ⟨z, 0⟩ ∧ Nm (madeT x y z) := by
  obtain ⟨⟨h1, h2, _⟩, hn⟩ := madeT_px (x := x) (y := y) hz
  generalize madeT x y z = p at *
  refine ⟨⟨?_, fun w => hz (congrArg Zd.x w.2), vv_nz (Int.ne_of_gt hn.pos)⟩, hn⟩
  ext
  · simp only [Zd.mul_x, vv, vu, Int.mul_zero, Int.zero_mul, Int.add_zero]
    rw [← h1]; grind
  · simp only [Zd.mul_y, vv, vu, Int.mul_zero, Int.zero_mul, Int.zero_add, Int.add_zero]
    rw [← h2]; grind
theorem pr_mul {u v s t a b x y : Zd d} (h : Pr u v s t) (g : Pr a b x y) (n1 : Nz (u * a) (v * b)) (n2 : Nz (s * x) (t * y)) : Pr (u * a) (v * b) (s * x) (t * y) := by
  refine ⟨?_, n1, n2⟩
  have h1 := h.cross
  have h2 := g.cross
  have : u * a * (t * y) = (u * t) * (a * y) := by grind
  rw [this, h1, h2]; grind
theorem sum_va {p q : T3} {k : Int} {u v s t : Zd d} (hp : p.2.2 ≠ 0) (hq : q.2.2 ≠ 0) (h : Va p u v) (g : Va q s t) (v0 : v ≠ 0) (t0 : t ≠ 0) : Va (sumT p q k) (u * t + ((k : Int) : Zd d) * s * v) (v * t) ∧ Nm (sumT p q k) := by
  obtain ⟨m, n⟩ := made_va (d := d) (x := p.1 * q.2.2 + k * q.1 * p.2.2) (y := p.2.1 * q.2.2 + k * q.2.1 * p.2.2) (Int.mul_ne_zero hp hq)
  refine ⟨Pr.trans ?_ m, n⟩
  have e1 : (⟨p.1 * q.2.2 + k * q.1 * p.2.2, p.2.1 * q.2.2 + k * q.2.1 * p.2.2⟩ : Zd d) = vu p * vv q + ((k : Int) : Zd d) * vu q * vv p := by
    ext
    · simp only [Zd.add_x, Zd.mul_x, Zd.mul_y, vu, vv, zd_int, Int.mul_zero, Int.zero_mul, Int.add_zero]
    · simp only [Zd.add_y, Zd.mul_y, Zd.mul_x, vu, vv, zd_int, Int.mul_zero, Int.zero_mul, Int.add_zero, Int.zero_add]
  have e2 : (⟨p.2.2 * q.2.2, 0⟩ : Zd d) = vv p * vv q := by
    ext <;> simp [Zd.mul_x, Zd.mul_y, vv]
  rw [e1, e2]
  have h1 := h.cross
  have h2 := g.cross
  refine ⟨?_, fun w => mul_nz v0 t0 w.2, fun w => mul_nz (vv_ne hp) (vv_ne hq) w.2⟩
  generalize vu p = a at *
  generalize vv p = b at *
  generalize vu q = a' at *
  generalize vv q = b' at *
  have x1 : (u * t + ((k : Int) : Zd d) * s * v) * (b * b') = (u * b) * (t * b') + ((k : Int) : Zd d) * (s * b') * (v * b) := by grind
  rw [x1, h1, h2]
  grind
theorem prod_va {p q : T3} {u v s t : Zd d} (hp : p.2.2 ≠ 0) (hq : q.2.2 ≠ 0) (h : Va p u v) (g : Va q s t) (v0 : v ≠ 0) (t0 : t ≠ 0) : Va (prodT p q d) (u * s) (v * t) ∧ Nm (prodT p q d) := by
  obtain ⟨m, n⟩ := made_va (d := d) (x := p.1 * q.1 + d * p.2.1 * q.2.1) (y := p.1 * q.2.1 + p.2.1 * q.1) (Int.mul_ne_zero hp hq)
  refine ⟨Pr.trans ?_ m, n⟩
  have e1 : (⟨p.1 * q.1 + d * p.2.1 * q.2.1, p.1 * q.2.1 + p.2.1 * q.1⟩ : Zd d) = vu p * vu q := rfl
  have e2 : (⟨p.2.2 * q.2.2, 0⟩ : Zd d) = vv p * vv q := by
    ext <;> simp [Zd.mul_x, Zd.mul_y, vv]
  rw [e1, e2]
  exact pr_mul h g (fun w => mul_nz v0 t0 w.2) (fun w => mul_nz (vv_ne hp) (vv_ne hq) w.2)
theorem va_ne {p : T3} {u v : Zd d} (hp : p.2.2 ≠ 0) (h : Va p u v) : v ≠ 0 := fun w => vv_ne hp (h.zero.mp w)
theorem quot_va {p q r : T3} {u v s t : Zd d} (hp : p.2.2 ≠ 0) (hq : q.2.2 ≠ 0) (h : Va p u v) (g : Va q s t) (hr : quotT p q d = some r) : Va r (u * t) (v * s) ∧ Nm r ∧ s ≠ 0 := by
  unfold quotT at hr
  have v0 := va_ne hp h
  have t0 := va_ne hq g
  by_cases hz : q.1 = 0 ∧ q.2.1 = 0
  · rw [if_pos hz] at hr; cases hr
  · rw [if_neg hz, Option.some.injEq] at hr
    have hsz : q.1 * q.1 - d * q.2.1 * q.2.1 ≠ 0 := by
      rcases sz_of (s := q) (.inl hs.nsq) with w | w
      · exact absurd w hz
      · exact w
    have s0 : s ≠ 0 := fun w => by
      have h1 := g.cross
      rw [w] at h1
      have : vu q = (0 : Zd d) := by
        rcases zero_mul_or (a := t) (b := (vu q : Zd d)) (by grind) with z | z
        · exact absurd z t0
        · exact z
      exact hz ⟨congrArg Zd.x this, congrArg Zd.y this⟩
    obtain ⟨m, n⟩ := made_va (d := d) (x := q.2.2 * q.1) (y := 0 - q.2.2 * q.2.1) hsz
    have inv : Va (madeT (q.2.2 * q.1) (0 - q.2.2 * q.2.1) (q.1 * q.1 - d * q.2.1 * q.2.1)) t s := by
      refine Pr.trans (s := (⟨q.2.2 * q.1, 0 - q.2.2 * q.2.1⟩ : Zd d)) (t := ⟨q.1 * q.1 - d * q.2.1 * q.2.1, 0⟩) ⟨?_, fun w => s0 w.2, fun w => hsz (congrArg Zd.x w.2)⟩ m
      have h1 := g.cross
      refine cancel (vv_ne (d := d) hq) ?_
      have x1 : (⟨q.2.2 * q.1, 0 - q.2.2 * q.2.1⟩ : Zd d) = vv q * ⟨q.1, -q.2.1⟩ := by
        ext
        · simp [Zd.mul_x, Zd.mul_y, vv]
        · simp only [Zd.mul_y, vv]; grind
      have x2 : (⟨q.1 * q.1 - d * q.2.1 * q.2.1, 0⟩ : Zd d) = vu q * ⟨q.1, -q.2.1⟩ := by
        ext
        · simp only [Zd.mul_x, vu]; grind
        · simp only [Zd.mul_y, vu]; grind
      rw [x1, x2]
      generalize (⟨q.1, -q.2.1⟩ : Zd d) = cj at *
      have : s * (vv q * cj) * vv q = (s * vv q) * (cj * vv q) := by grind
      rw [this, h1]
      grind
    obtain ⟨k1, k2⟩ := prod_va hp (Int.ne_of_gt n.pos) h inv v0 s0
    rw [hr] at k1 k2
    exact ⟨k1, k2, s0⟩
theorem quot_none {p q : T3} {s t : Zd d} (hq : q.2.2 ≠ 0) (g : Va q s t) : quotT p q d = none ↔ s = 0 := by
  unfold quotT
  have t0 := va_ne hq g
  have h1 := g.cross
  constructor
  · intro h
    by_cases hz : q.1 = 0 ∧ q.2.1 = 0
    · have : vu q = (0 : Zd d) := by ext; exact hz.1; exact hz.2
      rw [this] at h1
      rcases zero_mul_or (a := s) (b := (vv q : Zd d)) (by grind) with z | z
      · exact z
      · exact absurd z (vv_ne hq)
    · rw [if_neg hz] at h; cases h
  · rintro rfl
    have : vu q = (0 : Zd d) := by
      rcases zero_mul_or (a := t) (b := (vu q : Zd d)) (by grind) with z | z
      · exact absurd z t0
      · exact z
    rw [if_pos ⟨congrArg Zd.x this, congrArg Zd.y this⟩]
/-- the first part of a triple -/
theorem below_part {p : T3} (hp : Nm p) : IsPart (belowT p d) (vu p : Zd d) (vv p) := by
  obtain ⟨hd, hns⟩ := hs.nsq
  by_cases hb : p.2.1 = 0
  · have P : Px p p.1 0 p.2.2 := ⟨rfl, by rw [hb], Int.ne_of_gt hp.pos⟩
    obtain ⟨e, _⟩ := stepF (d := d) hp P
    rw [e]
    have h1 : Pr (vu p : Zd d) (vv p) ((p.1 : Int) : Zd d) ((p.2.2 : Int) : Zd d) := by
      have : (vu p : Zd d) = ((p.1 : Int) : Zd d) := by ext; rfl; exact hb
      rw [← this]
      exact Pr.refl (vv_nz (Int.ne_of_gt hp.pos))
    exact (part_fdiv (Int.ne_of_gt hp.pos) h1).1
  · -- as a root's reader
    obtain ⟨e, he, hbe⟩ : ∃ e : Int, e * e = 1 ∧ 0 < p.2.1 * e := by
      rcases Int.lt_or_gt_of_ne hb with w | w
      · exact ⟨-1, by decide, by omega⟩
      · exact ⟨1, by decide, by omega⟩
    have e0 : e ≠ 0 := fun w => by rw [w] at he; simp at he
    obtain ⟨k, hk⟩ : ∃ k : Int, k = p.2.2 * e := ⟨_, rfl⟩
    have k0 : k ≠ 0 := by rw [hk]; exact Int.mul_ne_zero (Int.ne_of_gt hp.pos) e0
    have hm : 0 < k * p.2.1 := by
      have : k * p.2.1 = p.2.2 * (p.2.1 * e) := by rw [hk]; grind
      rw [this]; exact Int.mul_pos hp.pos hbe
    have P : Px p (k * p.1) (k * p.2.1) (k * p.2.2) := ⟨by grind, by grind, Int.mul_ne_zero k0 (Int.ne_of_gt hp.pos)⟩
    have hS : 0 ≤ d * (k * p.2.1) * (k * p.2.1) := Int.mul_nonneg (Int.mul_nonneg (Int.le_of_lt hd) (Int.le_of_lt hm)) (Int.le_of_lt hm)
    obtain ⟨f0, f1, f2⟩ := isq_spec hS
    have R : RtI (k * p.1) (d * (k * p.2.1) * (k * p.2.1)) (k * p.2.2) (isq (d * (k * p.2.1) * (k * p.2.1))) := by
      refine ⟨f0, ?_, f2, P.ne, e * (d * p.2.1 * p.2.1 - p.1 * p.1) , ?_⟩
      · have := hns (isq (d * (k * p.2.1) * (k * p.2.1))) (k * p.2.1) (by omega)
        omega
      · have e1 : k * p.2.2 * (e * (d * p.2.1 * p.2.1 - p.1 * p.1)) = (k * (p.2.2 * e)) * (d * p.2.1 * p.2.1 - p.1 * p.1) := by grind
        rw [e1, ← hk]; grind
    obtain ⟨hq, _⟩ := stepQ hs.nsq hp hm rfl R P
    have r0 : (0 : Zd d) ≤ ⟨0, k * p.2.1⟩ := by
      show Zd.nn _
      refine ⟨0, fun N hN => ?_⟩
      have := (Zd.rt_spec hd hN).1
      have := Int.mul_nonneg (Int.le_of_lt hm) this
      simp only [Zd.sub_x, Zd.sub_y, Zd.zero_x, Zd.zero_y]
      simp
      exact this
    have rr : (⟨0, k * p.2.1⟩ : Zd d) * ⟨0, k * p.2.1⟩ = ((d * (k * p.2.1) * (k * p.2.1) : Int) : Zd d) := by
      ext
      · simp [Zd.mul_x, zd_int]
      · simp [Zd.mul_y, zd_int]
    have h1 : Pr (vu p : Zd d) (vv p) (((k * p.1 : Int) : Zd d) + ⟨0, k * p.2.1⟩) ((k * p.2.2 : Int) : Zd d) := by
      refine ⟨?_, vv_nz (Int.ne_of_gt hp.pos), fun w => P.ne (congrArg Zd.x w.2)⟩
      ext
      · simp only [Zd.mul_x, Zd.mul_y, Zd.add_x, Zd.add_y, vu, vv, zd_int]; grind
      · simp only [Zd.mul_x, Zd.mul_y, Zd.add_x, Zd.add_y, vu, vv, zd_int]; grind
    exact (part_root R r0 rr hq h1).1
/-- what a value's next triple stands for; none behind the end -/
def VO (o : Option T3) (u v : Zd d) : Prop := match o with
  | some p => Nm p ∧ Va p u v
  | none => v = 0
theorem VO.next {p : T3} {u v : Zd d} (h : VO (some p) u v) : IsPart (belowT p d) u v ∧ VO (nextT p d) v (u - (belowT p d : Int) * v) := by
  obtain ⟨hn, h⟩ := h
  have c0 := Int.ne_of_gt hn.pos
  have hp := (below_part hn).of_pr h
  refine ⟨hp, ?_⟩
  have v0 := va_ne c0 h
  obtain ⟨q, hq⟩ : ∃ q, q = belowT p d := ⟨_, rfl⟩
  have one : Va (q, 0, 1) ((q : Int) : Zd d) 1 := by
    have : (vu (q, 0, 1) : Zd d) = ((q : Int) : Zd d) := rfl
    have e2 : (vv (q, 0, 1) : Zd d) = 1 := rfl
    show Pr _ _ _ _
    rw [this, e2]
    exact Pr.refl fun w => by have := congrArg Zd.x w.2; simp [Zd.one_x, Zd.zero_x] at this
  have one0 : (1 : Zd d) ≠ 0 := fun w => by have := congrArg Zd.x w; simp [Zd.one_x, Zd.zero_x] at this
  obtain ⟨g1, g2⟩ := sum_va (k := -1) c0 (show (1 : Int) ≠ 0 by decide) h one v0 one0
  have e1 : u * 1 + ((-1 : Int) : Zd d) * ((q : Int) : Zd d) * v = u - (q : Int) * v := by
    have : ((-1 : Int) : Zd d) = -1 := rfl
    rw [this]; grind
  have e2 : v * 1 = v := by grind
  rw [e1, e2] at g1
  rw [← hq]
  have hnx : nextT p d = quotT (1, 0, 1) (sumT p (q, 0, 1) (-1)) d := by unfold nextT; rw [← hq]
  rw [hnx]
  have o1 : Va (1, 0, 1) (1 : Zd d) 1 := Pr.refl fun w => one0 w.2
  cases hr : quotT (1, 0, 1) (sumT p (q, 0, 1) (-1)) d with
  | none => exact (quot_none (Int.ne_of_gt g2.pos) g1).mp hr
  | some r =>
    obtain ⟨k1, k2, k3⟩ := quot_va (show ((1, 0, 1) : T3).2.2 ≠ 0 by decide) (Int.ne_of_gt g2.pos) o1 g1 hr
    refine ⟨k2, ?_⟩
    have e3 : (1 : Zd d) * v = v := by grind
    have e4 : (1 : Zd d) * (u - (q : Int) * v) = u - (q : Int) * v := by grind
    rw [e3, e4] at k1
    exact k1
/-- a part that is the number's is the law's -/
theorem VO.part {o : Option T3} {u v : Zd d} {q : Int} (h : VO o u v) (hq : IsPart q u v) : ∃ p, o = some p ∧ q = belowT p d ∧ VO (nextT p d) v (u - (q : Int) * v) := by
  cases o with
  | none => exact absurd h hq.ne
  | some p =>
    obtain ⟨h1, h2⟩ := h.next
    have e := hq.uniq h1
    subst e
    exact ⟨p, rfl, rfl, h2⟩
theorem VO.fin {o : Option T3} {u v : Zd d} (h : VO o u v) (hv : v = 0) : o = none := by
  cases o with
  | none => rfl
  | some p => exact absurd hv (va_ne (Int.ne_of_gt h.1.pos) h.2)
end
end PL
namespace PL
open Lean.Grind
def mixL : T3 → List Int → List T3 → T3
  | acc, n :: ns, p :: ps => mixL (sumT acc p n) ns ps
  | acc, _, _ => acc
def somes : List (Option T3) → Option (List T3)
  | [] => some []
  | none :: _ => none
  | some p :: r => (somes r).map (p :: ·)
def boxL (d : Int) (ns : List Int) (os : List (Option T3)) : Option T3 := match somes os with
  | none => none
  | some ps => quotT (mixL (0, 0, 1) (ns.take os.length) ps) (mixL (0, 0, 1) (ns.drop os.length) ps) d
def powT (d : Int) (p : T3) : Nat → T3
  | 0 => p
  | k + 1 => prodT (powT d p k) p d
def box8 (d : Int) (ns : List Int) (o1 o2 : Option T3) : Option T3 := match o1, o2 with
  | some p, some q => boxL d ns [some (prodT p q d), some p, some q, some (1, 0, 1)]
  | _, _ => none
inductive TV (d : Int) : Nat → Tr → Option T3 → Prop
  | frac {k : Nat} {t b : Int} : b ≠ 0 → t.natAbs ≤ 9 → b.natAbs ≤ 9 → TV d k (.frac t b) (some (madeT t 0 b))
  | root {k : Nat} {t m b : Int} : b ≠ 0 → 1 ≤ m → m ≤ 3 → t.natAbs ≤ 5 → b.natAbs ≤ 3 → TV d k (.root t (d * m * m) b) (some (madeT t m b))
  | ruled {k : Nat} {p : Int} {ps : List Int} : Gl (p :: ps) → ps.length ≤ 3 → p.natAbs ≤ 4 → (∀ n ∈ ps, n.natAbs ≤ 6) → TV d k (.ruled (p :: ps) [] []) (some (madeT (cfold (p :: ps)).1 0 (cfold (p :: ps)).2))
  | four {k : Nat} {a b c e : Int} {x : Tr} {o : Option T3} : (∀ n ∈ [a, b, c, e], n.natAbs ≤ 4) → a * e ≠ b * c → TV d k x o → TV d (k + 1) (.four a b c e x) (boxL d [a, b, c, e] [o, some (1, 0, 1)])
  | power {k : Nat} {x : Tr} {n : Int} {o : Option T3} : 1 ≤ n → n ≤ 4 → TV d k x o → TV d (k + 1) (.power x n) (o.map fun p => powT d p (n - 1).toNat)
  | eight {k : Nat} {a b c e a' b' c' e' : Int} {x y : Tr} {o1 o2 : Option T3} : (∀ n ∈ [a, b, c, e, a', b', c', e'], n.natAbs ≤ 2) → (b * a' ≠ a * b' ∨ c * a' ≠ a * c' ∨ c * b' ≠ b * c' ∨ e * a' ≠ a * e' ∨ e * b' ≠ b * e' ∨ e * c' ≠ c * e') →
      TV d k x o1 → TV d k y o2 → TV d (k + 1) (.eight a b c e a' b' c' e' x y) (box8 d [a, b, c, e, a', b', c', e'] o1 o2)
def NN : Nat → Nat
  | 0 => 14
  | k + 1 => 12 * NN k + 109
theorem fewLe {n : Int} {b : Nat} (h : n.natAbs ≤ b) (hb : b ≤ 10 ^ 12) : Few n := Nat.le_trans h hb
theorem TV.good {d : Int} (hd0 : 0 < d) (hd : d ≤ 1000) {k : Nat} {tr : Tr} {o : Option T3} (h : TV d k tr o) : tr.good (k + 1) := by
  induction h with
  | frac h1 h2 h3 => exact ⟨fewLe h2 (by decide), fewLe h3 (by decide), h1⟩
  | @root k t m b h1 h2 h3 h4 h5 =>
    have e1 : d * m ≤ 1000 * 3 := Int.mul_le_mul hd h3 (by omega) (by decide)
    have e2 : d * m * m ≤ 1000 * 3 * 3 := Int.mul_le_mul e1 h3 (by omega) (by decide)
    have e3 : 0 ≤ d * m * m := Int.mul_nonneg (Int.mul_nonneg (Int.le_of_lt hd0) (by omega)) (by omega)
    exact ⟨fewLe h4 (by decide), by unfold Few; omega, fewLe h5 (by decide), e3, h1⟩
  | @ruled k p ps h1 h2 h3 h4 =>
    refine ⟨by simp, by simp only [List.length_cons]; omega, by simp, rfl, fun n hn => ?_, fun n hn => ?_, by simp, fun _ hl n hn => h1.two n ?_⟩
    · simp only [List.append_nil, List.mem_cons] at hn
      rcases hn with rfl | hn
      · exact fewLe h3 (by decide)
      · exact fewLe (h4 n hn) (by decide)
    · rw [List.append_nil] at hn
      exact h1.one n hn
    · rw [List.drop_one, List.tail_cons]
      cases ps with
      | nil => simp at hl
      | cons y ys => rw [List.getLast?_cons_cons] at hn; exact hn
  | four h1 h2 _ ih => exact ⟨fewLe (h1 _ (by simp)) (by decide), fewLe (h1 _ (by simp)) (by decide), fewLe (h1 _ (by simp)) (by decide), fewLe (h1 _ (by simp)) (by decide), h2, ih⟩
  | power h1 h2 _ ih => exact ⟨h1, h2, ih⟩
  | eight h1 h2 _ _ ih1 ih2 => exact ⟨fun n hn => fewLe (h1 n hn) (by decide), h2, ih1, ih2⟩
section
variable {d : Int} [hs : NS d]
theorem zd_one0 : (1 : Zd d) ≠ 0 := fun w => by have := congrArg Zd.x w; simp [Zd.one_x, Zd.zero_x] at this
theorem va_one : Va (1, 0, 1) (1 : Zd d) 1 := Pr.refl fun w => zd_one0 w.2
theorem va_zero : Va (0, 0, 1) (0 : Zd d) 1 := Pr.refl fun w => zd_one0 w.2
theorem mul_ne {a b : Zd d} (ha : a ≠ 0) (hb : b ≠ 0) : a * b ≠ 0 := mul_nz ha hb
theorem nm_ne {p : T3} (h : Nm p) : p.2.2 ≠ 0 := Int.ne_of_gt h.pos
/-- two values mixed -/
theorem mix2_va {a b : Int} {p : T3} {u v : Zd d} (hp : Nm p) (h : Va p u v) : Va (mixL (0, 0, 1) [a, b] [p, (1, 0, 1)]) (((a : Int) : Zd d) * u + ((b : Int) : Zd d) * v) v ∧ Nm (mixL (0, 0, 1) [a, b] [p, (1, 0, 1)]) := by
  have v0 := va_ne (nm_ne hp) h
  obtain ⟨g1, n1⟩ := sum_va (k := a) (show ((0, 0, 1) : T3).2.2 ≠ 0 by decide) (nm_ne hp) va_zero h zd_one0 v0
  obtain ⟨g2, n2⟩ := sum_va (k := b) (nm_ne n1) (show ((1, 0, 1) : T3).2.2 ≠ 0 by decide) g1 va_one (mul_ne zd_one0 v0) zd_one0
  refine ⟨?_, n2⟩
  have e1 : ((0 : Zd d) * v + ((a : Int) : Zd d) * u * 1) * 1 + ((b : Int) : Zd d) * 1 * (1 * v) = ((a : Int) : Zd d) * u + ((b : Int) : Zd d) * v := by grind
  have e2 : (1 : Zd d) * v * 1 = v := by grind
  rw [e1, e2] at g2
  exact g2
theorem mix4_va {a b c e : Int} {pq p q : T3} {u v s t : Zd d} (hpq : Nm pq) (hp : Nm p) (hq : Nm q) (h0 : Va pq (u * s) (v * t)) (h : Va p u v) (g : Va q s t) :
    ∃ k : Zd d, k ≠ 0 ∧ Va (mixL (0, 0, 1) [a, b, c, e] [pq, p, q, (1, 0, 1)]) ((((a : Int) : Zd d) * u * s + ((b : Int) : Zd d) * u * t + ((c : Int) : Zd d) * v * s + ((e : Int) : Zd d) * v * t) * k) (v * t * k) ∧ Nm (mixL (0, 0, 1) [a, b, c, e] [pq, p, q, (1, 0, 1)]) := by
  have v0 := va_ne (nm_ne hp) h
  have t0 := va_ne (nm_ne hq) g
  have vt := mul_ne v0 t0
  obtain ⟨g1, n1⟩ := sum_va (k := a) (show ((0, 0, 1) : T3).2.2 ≠ 0 by decide) (nm_ne hpq) va_zero h0 zd_one0 vt
  obtain ⟨g2, n2⟩ := sum_va (k := b) (nm_ne n1) (nm_ne hp) g1 h (mul_ne zd_one0 vt) v0
  obtain ⟨g3, n3⟩ := sum_va (k := c) (nm_ne n2) (nm_ne hq) g2 g (mul_ne (mul_ne zd_one0 vt) v0) t0
  obtain ⟨g4, n4⟩ := sum_va (k := e) (nm_ne n3) (show ((1, 0, 1) : T3).2.2 ≠ 0 by decide) g3 va_one (mul_ne (mul_ne (mul_ne zd_one0 vt) v0) t0) zd_one0
  refine ⟨v * t, vt, ?_, n4⟩
  have e1 : (((((0 : Zd d) * (v * t) + ((a : Int) : Zd d) * (u * s) * 1) * v + ((b : Int) : Zd d) * u * (1 * (v * t))) * t + ((c : Int) : Zd d) * s * (1 * (v * t) * v)) * 1 + ((e : Int) : Zd d) * 1 * (1 * (v * t) * v * t)) =
      (((a : Int) : Zd d) * u * s + ((b : Int) : Zd d) * u * t + ((c : Int) : Zd d) * v * s + ((e : Int) : Zd d) * v * t) * (v * t) := by grind
  have e2 : (1 : Zd d) * (v * t) * v * t * 1 = v * t * (v * t) := by grind
  rw [e1, e2] at g4
  exact g4
/-- what the law's value of a tree stands for -/
theorem TV.nm {k : Nat} {tr : Tr} {o : Option T3} (h : TV d k tr o) : ∀ p, o = some p → Nm p := by
  induction h with
  | frac h1 => intro p e; cases e; exact (madeT_px h1).2
  | root h1 => intro p e; cases e; exact (madeT_px h1).2
  | ruled h1 =>
    intro p e
    cases e
    refine (madeT_px ?_).2
    have := (cf_pos (ps := _) fun n hn => h1.one n (by rw [List.drop_one, List.tail_cons]; exact hn)).1
    simp only [cfold]
    omega
  | @four k a b c e x o _ _ _ ih =>
    intro p hp
    cases o with
    | none => cases hp
    | some q =>
      have nq := ih q rfl
      have hv : Va q (vu q : Zd d) (vv q) := Pr.refl (vv_nz (nm_ne nq))
      obtain ⟨g1, n1⟩ := mix2_va (a := a) (b := b) nq hv
      obtain ⟨g2, n2⟩ := mix2_va (a := c) (b := e) nq hv
      exact (quot_va (nm_ne n1) (nm_ne n2) g1 g2 hp).2.1
  | @power k x n o _ _ _ ih =>
    intro p hp
    cases o with
    | none => cases hp
    | some q =>
      have nq := ih q rfl
      simp only [Option.map_some, Option.some.injEq] at hp
      subst hp
      have key : ∀ j, Nm (powT d q j) := fun j => by
        induction j with
        | zero => exact nq
        | succ j ihj => exact (prod_va (u := (vu (powT d q j) : Zd d)) (s := (vu q : Zd d)) (nm_ne ihj) (nm_ne nq) (Pr.refl (vv_nz (nm_ne ihj))) (Pr.refl (vv_nz (nm_ne nq))) (vv_ne (nm_ne ihj)) (vv_ne (nm_ne nq))).2
      exact key _
  | @eight k a b c e a' b' c' e' x y o1 o2 _ _ _ _ ih1 ih2 =>
    intro r hr
    cases o1 with
    | none => cases hr
    | some p =>
    cases o2 with
    | none => cases hr
    | some q =>
      have np := ih1 p rfl
      have nq := ih2 q rfl
      have hp : Va p (vu p : Zd d) (vv p) := Pr.refl (vv_nz (nm_ne np))
      have hq : Va q (vu q : Zd d) (vv q) := Pr.refl (vv_nz (nm_ne nq))
      obtain ⟨g0, n0⟩ := prod_va (nm_ne np) (nm_ne nq) hp hq (vv_ne (nm_ne np)) (vv_ne (nm_ne nq))
      obtain ⟨k1, _, g1, n1⟩ := mix4_va (a := a) (b := b) (c := c) (e := e) n0 np nq g0 hp hq
      obtain ⟨k2, _, g2, n2⟩ := mix4_va (a := a') (b := b') (c := c') (e := e') n0 np nq g0 hp hq
      exact (quot_va (nm_ne n1) (nm_ne n2) g1 g2 hr).2.1
theorem pows_sem {r0 : R} {u v : Zd d} {p : T3} (hn : Nm p) (h : Sem (Zd d) false r0 u v) (hv : Va p u v) : ∀ j : Nat, ∃ uj vj : Zd d, Sem (Zd d) false (pows r0 j) uj vj ∧ Nm (powT d p j) ∧ Va (powT d p j) uj vj
  | 0 => ⟨u, v, h, hn, hv⟩
  | j + 1 => by
    obtain ⟨uj, vj, s1, n1, a1⟩ := pows_sem hn h hv j
    have v0 := h.nz.2 rfl
    have w0 := s1.nz.2 rfl
    obtain ⟨g1, g2⟩ := prod_va (nm_ne n1) (nm_ne hn) a1 hv w0 v0
    have e1 : uj * u = u * uj := by grind
    have e2 : vj * v = v * vj := by grind
    rw [e1, e2] at g1
    refine ⟨u * uj, v * vj, ⟨rfl, fun _ => mul_ne v0 w0, u, v, uj, vj, h, s1, fun w => absurd w (by decide), fun w => absurd w (by decide), ?_⟩, g2, g1⟩
    have z0 : ((0 : Int) : Zd d) = 0 := rfl
    have z1 : ((1 : Int) : Zd d) = 1 := rfl
    rw [z0, z1]
    have x1 : (1 : Zd d) * u * uj + 0 * u * vj + 0 * v * uj + 0 * v * vj = u * uj := by grind
    have x2 : (0 : Zd d) * u * uj + 0 * u * vj + 0 * v * uj + 1 * v * vj = v * vj := by grind
    rw [x1, x2]
    exact Pr.refl fun w => mul_ne v0 w0 w.2
theorem TV.sem {k : Nat} {tr : Tr} {o : Option T3} (h : TV d k tr o) : ∀ p r, o = some p → Opened tr r → ∃ u v : Zd d, Sem (Zd d) false r u v ∧ Va p u v := by
  induction h with
  | @frac k t b h1 =>
    intro p r e hop
    cases e
    cases hop
    have hb : ((b : Int) : Zd d) ≠ 0 := cast_ne h1
    exact ⟨_, _, ⟨rfl, fun _ => hb, Pr.refl fun w => hb w.2⟩, (made_va h1).1⟩
  | @root k t m b h1 h2 =>
    intro p r e hop
    cases e
    have hns : NSq (d * m * m) := ⟨Int.mul_pos (Int.mul_pos hs.nsq.1 (by omega)) (by omega), fun x y hy he => hs.nsq.2 x (m * y) (Int.mul_ne_zero (by omega) hy) (by rw [he]; grind)⟩
    cases hop with
    | @rootF _ _ _ f g1 g2 => exact absurd g2 (by have := hns.2 f 1 (by decide); simpa using this)
    | @rootR _ _ _ f f' g1 g2 g3 g4 g5 g6 =>
      obtain ⟨R, ha⟩ := rt_start (top := t) h1 hns g4 g5 g6
      have hb : ((b * abI b : Int) : Zd d) ≠ 0 := cast_ne R.b0
      have mb : 0 < m * abI b := Int.mul_pos (by omega) ha
      have r0 : (0 : Zd d) ≤ ⟨0, m * abI b⟩ := by
        show Zd.nn _
        refine ⟨0, fun N hN => ?_⟩
        have := (Zd.rt_spec hs.nsq.1 hN).1
        have := Int.mul_nonneg (Int.le_of_lt mb) this
        simp only [Zd.sub_x, Zd.sub_y, Zd.zero_x, Zd.zero_y]
        simp
        exact this
      refine ⟨((t * abI b : Int) : Zd d) + ⟨0, m * abI b⟩, ((b * abI b : Int) : Zd d), ⟨rfl, fun _ => hb, ⟨0, m * abI b⟩, r0, ?_, R, Pr.refl fun w => hb w.2⟩, ?_⟩
      · ext
        · simp only [Zd.mul_x, zd_int]; grind
        · simp [Zd.mul_y, zd_int]
      · refine Pr.trans ?_ (made_va (d := d) (x := t) (y := m) h1).1
        refine ⟨?_, fun w => hb w.2, fun w => h1 (congrArg Zd.x w.2)⟩
        ext
        · simp only [Zd.mul_x, Zd.mul_y, Zd.add_x, Zd.add_y, zd_int]; grind
        · simp only [Zd.mul_x, Zd.mul_y, Zd.add_x, Zd.add_y, zd_int]; grind
  | @ruled k p ps h1 =>
    intro q r e hop
    cases e
    cases hop
    have pos := (cf_pos (ps := ps) fun n hn => h1.one n (by rw [List.drop_one, List.tail_cons]; exact hn)).1
    have e2 : (cfold (p :: ps)).2 = (cfold ps).1 := rfl
    have hb : (((cfold (p :: ps)).2 : Int) : Zd d) ≠ 0 := cast_ne (by rw [e2]; omega)
    exact ⟨_, _, ⟨rfl, fun _ => hb, rfl, Nat.zero_le _, h1, Pr.refl fun w => hb w.2⟩, (made_va (by rw [e2]; omega)).1⟩
  | @four k a b c e x o _ _ hx ih =>
    intro p r hp hop
    cases hop with
    | @four _ _ _ _ _ r0 hop =>
      cases o with
      | none => cases hp
      | some q =>
        obtain ⟨u, v, s1, a1⟩ := ih q r0 rfl hop
        have nq := hx.nm q rfl
        obtain ⟨g1, n1⟩ := mix2_va (a := a) (b := b) nq a1
        obtain ⟨g2, n2⟩ := mix2_va (a := c) (b := e) nq a1
        obtain ⟨q1, q2, q3⟩ := quot_va (nm_ne n1) (nm_ne n2) g1 g2 hp
        have v0 := s1.nz.2 rfl
        refine ⟨((a : Int) : Zd d) * u + ((b : Int) : Zd d) * v, ((c : Int) : Zd d) * u + ((e : Int) : Zd d) * v, ⟨rfl, fun _ => q3, u, v, s1, (fun w => by cases w), Pr.refl fun w => q3 w.2⟩, ?_⟩
        refine Pr.trans ?_ q1
        have e1 : v * (((c : Int) : Zd d) * u + ((e : Int) : Zd d) * v) = (((c : Int) : Zd d) * u + ((e : Int) : Zd d) * v) * v := by grind
        rw [e1]
        exact (pr_smul v0 fun w => mul_ne q3 v0 w.2).symm
  | @power k x n o _ _ hx ih =>
    intro p r hp hop
    cases hop with
    | @power _ _ r0 hop =>
      cases o with
      | none => cases hp
      | some q =>
        obtain ⟨u, v, s1, a1⟩ := ih q r0 rfl hop
        simp only [Option.map_some, Option.some.injEq] at hp
        subst hp
        obtain ⟨uj, vj, k1, _, k3⟩ := pows_sem (hx.nm q rfl) s1 a1 (n - 1).toNat
        exact ⟨uj, vj, k1, k3⟩
  | @eight k a b c e a' b' c' e' x y o1 o2 _ _ hx hy ih1 ih2 =>
    intro p r hp hop
    cases hop with
    | @eight _ _ _ _ _ _ _ _ _ _ r0 q0 hop1 hop2 =>
      cases o1 with
      | none => cases hp
      | some p1 =>
      cases o2 with
      | none => cases hp
      | some p2 =>
        obtain ⟨u, v, s1, a1⟩ := ih1 p1 r0 rfl hop1
        obtain ⟨s, t, s2, a2⟩ := ih2 p2 q0 rfl hop2
        have n1 := hx.nm p1 rfl
        have n2 := hy.nm p2 rfl
        have v0 := s1.nz.2 rfl
        have t0 := s2.nz.2 rfl
        obtain ⟨g0, n0⟩ := prod_va (nm_ne n1) (nm_ne n2) a1 a2 v0 t0
        obtain ⟨k1, k10, g1, m1⟩ := mix4_va (a := a) (b := b) (c := c) (e := e) n0 n1 n2 g0 a1 a2
        obtain ⟨k2, k20, g2, m2⟩ := mix4_va (a := a') (b := b') (c := c') (e := e') n0 n1 n2 g0 a1 a2
        obtain ⟨q1, q2, q3⟩ := quot_va (nm_ne m1) (nm_ne m2) g1 g2 hp
        have q4 : ((a' : Int) : Zd d) * u * s + ((b' : Int) : Zd d) * u * t + ((c' : Int) : Zd d) * v * s + ((e' : Int) : Zd d) * v * t ≠ 0 := fun w => q3 (by rw [w]; grind)
        refine ⟨((a : Int) : Zd d) * u * s + ((b : Int) : Zd d) * u * t + ((c : Int) : Zd d) * v * s + ((e : Int) : Zd d) * v * t, _, ⟨rfl, fun _ => q4, u, v, s, t, s1, s2, fun w => absurd w (by decide), fun w => absurd w (by decide), Pr.refl fun w => q4 w.2⟩, ?_⟩
        refine Pr.trans ?_ q1
        generalize ((a : Int) : Zd d) * u * s + ((b : Int) : Zd d) * u * t + ((c : Int) : Zd d) * v * s + ((e : Int) : Zd d) * v * t = X at *
        generalize ((a' : Int) : Zd d) * u * s + ((b' : Int) : Zd d) * u * t + ((c' : Int) : Zd d) * v * s + ((e' : Int) : Zd d) * v * t = Y at *
        have e1 : X * k1 * (v * t * k2) = X * (k1 * (v * t * k2)) := by grind
        have e2 : v * t * k1 * (Y * k2) = Y * (k1 * (v * t * k2)) := by grind
        rw [e1, e2]
        have kk : k1 * (v * t * k2) ≠ 0 := mul_ne k10 (mul_ne (mul_ne v0 t0) k20)
        exact (pr_smul kk fun w => mul_ne q4 kk w.2).symm
end
end PL
namespace PL
theorem nM {i j : Int} {a b : Nat} (hi : i.natAbs < 2 ^ a) (hj : j.natAbs < 2 ^ b) : (i * j).natAbs < 2 ^ (a + b) := by
  rw [Int.natAbs_mul, Nat.pow_add]
  exact Nat.mul_lt_mul_of_lt_of_le hi (Nat.le_of_lt hj) (Nat.pow_pos (by decide))
theorem nA {i j : Int} {a : Nat} (hi : i.natAbs < 2 ^ a) (hj : j.natAbs < 2 ^ a) : (i + j).natAbs < 2 ^ (a + 1) := by
  rw [Nat.pow_succ]; omega
theorem nS {i j : Int} {a : Nat} (hi : i.natAbs < 2 ^ a) (hj : j.natAbs < 2 ^ a) : (i - j).natAbs < 2 ^ (a + 1) := by
  rw [Nat.pow_succ]; omega
theorem nU {i : Int} {a : Nat} {b : Nat} (hi : i.natAbs < 2 ^ a) (h : a ≤ b) : i.natAbs < 2 ^ b := Nat.lt_of_lt_of_le hi (Nat.pow_le_pow_right (by decide) h)
theorem Ht.up {B C : Nat} {p : T3} (h : Ht B p) (hc : B ≤ C) : Ht C p := ⟨nU h.1 hc, nU h.2.1 hc, nU h.2.2 hc⟩
theorem madeHt {x y z : Int} {B : Nat} (hz : z ≠ 0) (h1 : x.natAbs < 2 ^ B) (h2 : y.natAbs < 2 ^ B) (h3 : z.natAbs < 2 ^ B) : Ht B (madeT x y z) := by
  obtain ⟨P, N⟩ := madeT_px (x := x) (y := y) hz
  obtain ⟨l1, l2, l3⟩ := P.le N
  exact ⟨Nat.lt_of_le_of_lt l1 h1, Nat.lt_of_le_of_lt l2 h2, Nat.lt_of_le_of_lt l3 h3⟩
theorem sumHt {B C : Nat} {p q : T3} {k : Int} (hp : Ht B p) (hq : Ht C q) (hk : k.natAbs < 2 ^ 3) (p0 : p.2.2 ≠ 0) (q0 : q.2.2 ≠ 0) : Ht (B + C + 4) (sumT p q k) := by
  unfold sumT
  refine madeHt (Int.mul_ne_zero p0 q0) ?_ ?_ ?_
  · exact nU (nA (a := B + C + 3) (nU (nM hp.1 hq.2.2) (by omega)) (nU (nM (nM hk hq.1) hp.2.2) (by omega))) (by omega)
  · exact nU (nA (a := B + C + 3) (nU (nM hp.2.1 hq.2.2) (by omega)) (nU (nM (nM hk hq.2.1) hp.2.2) (by omega))) (by omega)
  · exact nU (nM hp.2.2 hq.2.2) (by omega)
theorem prodHt {B C : Nat} {p q : T3} {d : Int} (hp : Ht B p) (hq : Ht C q) (hd : d.natAbs < 2 ^ 10) (p0 : p.2.2 ≠ 0) (q0 : q.2.2 ≠ 0) : Ht (B + C + 11) (prodT p q d) := by
  unfold prodT
  refine madeHt (Int.mul_ne_zero p0 q0) ?_ ?_ ?_
  · exact nU (nA (a := B + C + 10) (nU (nM hp.1 hq.1) (by omega)) (nU (nM (nM hd hp.2.1) hq.2.1) (by omega))) (by omega)
  · exact nU (nA (a := B + C + 10) (nU (nM hp.1 hq.2.1) (by omega)) (nU (nM hp.2.1 hq.1) (by omega))) (by omega)
  · exact nU (nM hp.2.2 hq.2.2) (by omega)
theorem quotHt {B C : Nat} {p q r : T3} {d : Int} (hp : Ht B p) (hq : Ht C q) (hd : d.natAbs < 2 ^ 10) (p0 : p.2.2 ≠ 0) (hs : Sz d q) (hr : quotT p q d = some r) : Ht (B + 2 * C + 22) r := by
  unfold quotT at hr
  by_cases hz : q.1 = 0 ∧ q.2.1 = 0
  · rw [if_pos hz] at hr; cases hr
  · rw [if_neg hz, Option.some.injEq] at hr
    have hsz : q.1 * q.1 - d * q.2.1 * q.2.1 ≠ 0 := by
      rcases hs with w | w
      · exact absurd w hz
      · exact w
    have k1 : (q.2.2 * q.1).natAbs < 2 ^ (2 * C + 11) := nU (nM hq.2.2 hq.1) (by omega)
    have k2 : (0 - q.2.2 * q.2.1).natAbs < 2 ^ (2 * C + 11) := by
      rw [Int.zero_sub, Int.natAbs_neg]
      exact nU (nM hq.2.2 hq.2.1) (by omega)
    have k3 : (q.1 * q.1 - d * q.2.1 * q.2.1).natAbs < 2 ^ (2 * C + 11) := nU (nS (a := 2 * C + 10) (nU (nM hq.1 hq.1) (by omega)) (nU (nM (nM hd hq.2.1) hq.2.1) (by omega))) (by omega)
    have := prodHt hp (madeHt hsz k1 k2 k3) hd p0 (Int.ne_of_gt (madeT_px (x := q.2.2 * q.1) (y := 0 - q.2.2 * q.2.1) hsz).2.pos)
    rw [hr] at this
    exact this.up (by omega)
/-- what the walk of a mix wants -/
def MB : T3 → List Int → List T3 → Prop
  | acc, n :: ns, p :: ps => Ht 200000 acc ∧ Ht 200000 p ∧ n.natAbs < 2 ^ 1000 ∧ acc.2.2 ≠ 0 ∧ p.2.2 ≠ 0 ∧ MB (sumT acc p n) ns ps
  | _, _, _ => True
structure BoxOk (d : Int) (ns : List Int) (ps : List T3) : Prop where
  m1 : MB (0, 0, 1) (ns.take ps.length) ps
  m2 : MB (0, 0, 1) (ns.drop ps.length) ps
  h1 : Ht 200000 (mixL (0, 0, 1) (ns.take ps.length) ps)
  h2 : Ht 200000 (mixL (0, 0, 1) (ns.drop ps.length) ps)
  z1 : (mixL (0, 0, 1) (ns.take ps.length) ps).2.2 ≠ 0
  z2 : (mixL (0, 0, 1) (ns.drop ps.length) ps).2.2 ≠ 0
  sz : Sz d (mixL (0, 0, 1) (ns.drop ps.length) ps)
theorem ht0 : Ht 1 (0, 0, 1) := ⟨by decide, by decide, by decide⟩
theorem ht1 : Ht 1 (1, 0, 1) := ⟨by decide, by decide, by decide⟩
theorem sum3 {p q : T3} {k : Int} (p0 : p.2.2 ≠ 0) (q0 : q.2.2 ≠ 0) : (sumT p q k).2.2 ≠ 0 := Int.ne_of_gt (madeT_px (Int.mul_ne_zero p0 q0)).2.pos
theorem prod3 {p q : T3} {d : Int} (p0 : p.2.2 ≠ 0) (q0 : q.2.2 ≠ 0) : (prodT p q d).2.2 ≠ 0 := Int.ne_of_gt (madeT_px (Int.mul_ne_zero p0 q0)).2.pos
theorem mb2 {a b : Int} {N : Nat} {p : T3} (hN : N ≤ 20000) (hp : Ht N p) (p0 : p.2.2 ≠ 0) (ha : a.natAbs < 2 ^ 3) (hb : b.natAbs < 2 ^ 3) : MB (0, 0, 1) [a, b] [p, (1, 0, 1)] ∧ Ht (N + 10) (mixL (0, 0, 1) [a, b] [p, (1, 0, 1)]) ∧ (mixL (0, 0, 1) [a, b] [p, (1, 0, 1)]).2.2 ≠ 0 := by
  have z1 : ((0, 0, 1) : T3).2.2 ≠ 0 := by decide
  have z2 : ((1, 0, 1) : T3).2.2 ≠ 0 := by decide
  have g1 := sumHt ht0 hp ha z1 p0
  have g2 := sumHt g1 ht1 hb (sum3 z1 p0) z2
  exact ⟨⟨ht0.up (by omega), hp.up (by omega), nU ha (by decide), z1, p0, g1.up (by omega), ht1.up (by decide), nU hb (by decide), sum3 z1 p0, z2, True.intro⟩, g2.up (by omega), sum3 (sum3 z1 p0) z2⟩
theorem mb4 {a b c e : Int} {N : Nat} {pq p q : T3} (hN : N ≤ 20000) (hpq : Ht (2 * N + 11) pq) (hp : Ht N p) (hq : Ht N q) (pq0 : pq.2.2 ≠ 0) (p0 : p.2.2 ≠ 0) (q0 : q.2.2 ≠ 0) (ha : a.natAbs < 2 ^ 3) (hb : b.natAbs < 2 ^ 3) (hc : c.natAbs < 2 ^ 3) (he : e.natAbs < 2 ^ 3) :
    MB (0, 0, 1) [a, b, c, e] [pq, p, q, (1, 0, 1)] ∧ Ht (4 * N + 29) (mixL (0, 0, 1) [a, b, c, e] [pq, p, q, (1, 0, 1)]) ∧ (mixL (0, 0, 1) [a, b, c, e] [pq, p, q, (1, 0, 1)]).2.2 ≠ 0 := by
  have z1 : ((0, 0, 1) : T3).2.2 ≠ 0 := by decide
  have z2 : ((1, 0, 1) : T3).2.2 ≠ 0 := by decide
  have g1 := sumHt ht0 hpq ha z1 pq0
  have y1 := sum3 (k := a) z1 pq0
  have g2 := sumHt g1 hp hb y1 p0
  have y2 := sum3 (k := b) y1 p0
  have g3 := sumHt g2 hq hc y2 q0
  have y3 := sum3 (k := c) y2 q0
  have g4 := sumHt g3 ht1 he y3 z2
  exact ⟨⟨ht0.up (by omega), hpq.up (by omega), nU ha (by decide), z1, pq0, g1.up (by omega), hp.up (by omega), nU hb (by decide), y1, p0, g2.up (by omega), hq.up (by omega), nU hc (by decide), y2, q0, g3.up (by omega), ht1.up (by decide), nU he (by decide), y3, z2, True.intro⟩, g4.up (by omega), sum3 y3 z2⟩
section
variable {d : Int} [hs : NS d]
theorem box4_ok {a b c e : Int} {N : Nat} {p : T3} (hN : N ≤ 20000) (hp : Ht N p) (p0 : p.2.2 ≠ 0) (h : ∀ n ∈ [a, b, c, e], n.natAbs ≤ 4) : BoxOk d [a, b, c, e] [p, (1, 0, 1)] := by
  have hh : ∀ n ∈ [a, b, c, e], n.natAbs < 2 ^ 3 := fun n hn => Nat.lt_of_le_of_lt (h n hn) (by decide)
  obtain ⟨m1, h1, z1⟩ := mb2 hN hp p0 (hh a (by simp)) (hh b (by simp))
  obtain ⟨m2, h2, z2⟩ := mb2 hN hp p0 (hh c (by simp)) (hh e (by simp))
  exact ⟨m1, m2, h1.up (by omega), h2.up (by omega), z1, z2, sz_of (.inl hs.nsq)⟩
theorem boxL_ht4 {a b c e : Int} {N : Nat} {p r : T3} (hd : d.natAbs < 2 ^ 10) (hN : N ≤ 20000) (hp : Ht N p) (p0 : p.2.2 ≠ 0) (h : ∀ n ∈ [a, b, c, e], n.natAbs ≤ 4) (hr : boxL d [a, b, c, e] [some p, some (1, 0, 1)] = some r) : Ht (12 * N + 109) r := by
  have hh : ∀ n ∈ [a, b, c, e], n.natAbs < 2 ^ 3 := fun n hn => Nat.lt_of_le_of_lt (h n hn) (by decide)
  obtain ⟨m1, h1, z1⟩ := mb2 hN hp p0 (hh a (by simp)) (hh b (by simp))
  obtain ⟨m2, h2, z2⟩ := mb2 hN hp p0 (hh c (by simp)) (hh e (by simp))
  exact (quotHt h1 h2 hd z1 (sz_of (.inl hs.nsq)) hr).up (by omega)
theorem boxL_ht8 {a b c e a' b' c' e' : Int} {N : Nat} {p q r : T3} (hd : d.natAbs < 2 ^ 10) (hN : N ≤ 20000) (hp : Ht N p) (hq : Ht N q) (p0 : p.2.2 ≠ 0) (q0 : q.2.2 ≠ 0) (h : ∀ n ∈ [a, b, c, e, a', b', c', e'], n.natAbs ≤ 4)
    (hr : boxL d [a, b, c, e, a', b', c', e'] [some (prodT p q d), some p, some q, some (1, 0, 1)] = some r) : Ht (12 * N + 109) r := by
  have hh : ∀ n ∈ [a, b, c, e, a', b', c', e'], n.natAbs < 2 ^ 3 := fun n hn => Nat.lt_of_le_of_lt (h n hn) (by decide)
  have hpq := (prodHt hp hq hd p0 q0).up (C := 2 * N + 11) (by omega)
  have pq0 := prod3 (d := d) p0 q0
  obtain ⟨m1, h1, z1⟩ := mb4 hN hpq hp hq pq0 p0 q0 (hh a (by simp)) (hh b (by simp)) (hh c (by simp)) (hh e (by simp))
  obtain ⟨m2, h2, z2⟩ := mb4 hN hpq hp hq pq0 p0 q0 (hh a' (by simp)) (hh b' (by simp)) (hh c' (by simp)) (hh e' (by simp))
  exact (quotHt h1 h2 hd z1 (sz_of (.inl hs.nsq)) hr).up (by omega)
theorem powHt {N : Nat} {p : T3} (hd : d.natAbs < 2 ^ 10) (hp : Ht N p) (p0 : p.2.2 ≠ 0) : ∀ j, Ht ((j + 1) * (N + 11)) (powT d p j) ∧ (powT d p j).2.2 ≠ 0
  | 0 => ⟨hp.up (by omega), p0⟩
  | j + 1 => by
    obtain ⟨h1, h2⟩ := powHt hd hp p0 j
    refine ⟨(prodHt h1 hp hd h2 p0).up ?_, prod3 h2 p0⟩
    rw [Nat.succ_mul (j + 1)]
    omega
theorem NN_mono {k : Nat} : NN k ≤ NN (k + 1) := by
  show NN k ≤ 12 * NN k + 109
  omega
theorem NN_14 : ∀ k, 14 ≤ NN k
  | 0 => Nat.le_refl _
  | k + 1 => Nat.le_trans (NN_14 k) NN_mono
theorem TV.ht {k : Nat} {tr : Tr} {o : Option T3} (hd : d.natAbs < 2 ^ 10) (h : TV d k tr o) (hk : k ≤ 3) : ∀ p, o = some p → Ht (NN k) p := by
  induction h with
  | @frac k t b h1 h2 h3 =>
    intro p e
    cases e
    exact (madeHt (B := 14) h1 (Nat.lt_of_le_of_lt h2 (by decide)) (by decide) (Nat.lt_of_le_of_lt h3 (by decide))).up (NN_14 k)
  | @root k t m b h1 h2 h3 h4 h5 =>
    intro p e
    cases e
    exact (madeHt (B := 14) h1 (Nat.lt_of_le_of_lt h4 (by decide)) (by omega) (Nat.lt_of_le_of_lt h5 (by decide))).up (NN_14 k)
  | @ruled k p ps h1 h2 h3 h4 =>
    intro q e
    cases e
    have hpos := cf_pos (ps := ps) fun n hn => h1.one n (by rw [List.drop_one, List.tail_cons]; exact hn)
    have e2 : (cfold (p :: ps)).2 = (cfold ps).1 := rfl
    have e1 : (cfold (p :: ps)).1 = p * (cfold ps).1 + (cfold ps).2 := rfl
    -- parts to 6, three of them
    have bnd : ∀ l : List Int, l.length ≤ 3 → (∀ n ∈ l, n.natAbs ≤ 6) → (cfold l).1.natAbs ≤ 300 ∧ (cfold l).2.natAbs ≤ 300 := by
      intro l hl hm
      have mul6 : ∀ (x y : Int) (b : Nat), x.natAbs ≤ 6 → y.natAbs ≤ b → (x * y).natAbs ≤ 6 * b := fun x y b h1 h2 => by rw [Int.natAbs_mul]; exact Nat.mul_le_mul h1 h2
      match l, hl with
      | [], _ => simp [cfold]
      | [a], _ => have := hm a (by simp); simp only [cfold]; omega
      | [a, b], _ =>
        have ha := hm a (by simp)
        have hb := hm b (by simp)
        have := mul6 a b 6 ha hb
        simp only [cfold, Int.mul_one, Int.add_zero]; omega
      | [a, b, c], _ =>
        have ha := hm a (by simp)
        have hb := hm b (by simp)
        have hc := hm c (by simp)
        have k1 := mul6 b c 6 hb hc
        have k2 := mul6 a (b * c + 1) 37 ha (by omega)
        simp only [cfold, Int.mul_one, Int.add_zero]; omega
    obtain ⟨b1, b2⟩ := bnd ps h2 h4
    have k3 : (p * (cfold ps).1).natAbs ≤ 4 * 300 := by rw [Int.natAbs_mul]; exact Nat.mul_le_mul h3 b1
    exact (madeHt (B := 14) (by rw [e2]; omega) (by rw [e1]; omega) (by decide) (by rw [e2]; omega)).up (NN_14 k)
  | @four k a b c e x o h1 h2 hx ih =>
    intro r hr
    cases o with
    | none => cases hr
    | some q =>
      have hq := ih (by omega) q rfl
      have hN : NN k ≤ 20000 := by
        have : k = 0 ∨ k = 1 ∨ k = 2 := by omega
        rcases this with rfl | rfl | rfl <;> decide
      exact boxL_ht4 hd hN hq (nm_ne (hx.nm q rfl)) h1 hr
  | @power k x n o h1 h2 hx ih =>
    intro r hr
    cases o with
    | none => cases hr
    | some q =>
      have hq := ih (by omega) q rfl
      simp only [Option.map_some, Option.some.injEq] at hr
      subst hr
      refine ((powHt hd hq (nm_ne (hx.nm q rfl)) (n - 1).toNat).1).up ?_
      have : ((n - 1).toNat + 1) * (NN k + 11) ≤ 4 * (NN k + 11) := Nat.mul_le_mul_right _ (by omega)
      show _ ≤ 12 * NN k + 109
      omega
  | @eight k a b c e a' b' c' e' x y o1 o2 h1 h2 hx hy ih1 ih2 =>
    intro r hr
    cases o1 with
    | none => cases hr
    | some p =>
    cases o2 with
    | none => cases hr
    | some q =>
      have hp := ih1 (by omega) p rfl
      have hq := ih2 (by omega) q rfl
      have hN : NN k ≤ 20000 := by
        have : k = 0 ∨ k = 1 ∨ k = 2 := by omega
        rcases this with rfl | rfl | rfl <;> decide
      exact boxL_ht8 hd hN hp hq (nm_ne (hx.nm p rfl)) (nm_ne (hy.nm q rfl)) (fun n hn => Nat.le_trans (h1 n hn) (by decide)) hr
/-- the parts of a value are reckoned within bounds -/
theorem PB_val {N n : Nat} {p : T3} (hd : d.natAbs < 2 ^ 10) (hN : N ≤ 45000) (hn : n ≤ 50) (hp : Nm p) (h : Ht N p) : PB 100000 d n (some p) := by
  obtain ⟨hd0, hns⟩ := hs.nsq
  by_cases hb : p.2.1 = 0
  · exact PB_frac n hp (t := p.1) (b := p.2.2) ⟨rfl, by rw [hb], nm_ne hp⟩ (nU h.1 (by omega)) (nU h.2.2 (by omega))
  · obtain ⟨e, he, hbe⟩ : ∃ e : Int, (e = 1 ∨ e = -1) ∧ 0 < p.2.1 * e := by
      rcases Int.lt_or_gt_of_ne hb with w | w
      · exact ⟨-1, .inr rfl, by omega⟩
      · exact ⟨1, .inl rfl, by omega⟩
    have hee : e * e = 1 := by rcases he with rfl | rfl <;> decide
    have e0 : e ≠ 0 := fun w => by rw [w] at hee; simp at hee
    obtain ⟨k, hk⟩ : ∃ k : Int, k = p.2.2 * e := ⟨_, rfl⟩
    have k0 : k ≠ 0 := by rw [hk]; exact Int.mul_ne_zero (nm_ne hp) e0
    have hkb : k.natAbs < 2 ^ N := by rw [hk, Int.natAbs_mul]; rcases he with rfl | rfl <;> simpa using h.2.2
    have hm : 0 < k * p.2.1 := by
      have : k * p.2.1 = p.2.2 * (p.2.1 * e) := by rw [hk]; grind
      rw [this]; exact Int.mul_pos hp.pos hbe
    have P : Px p (k * p.1) (k * p.2.1) (k * p.2.2) := ⟨by grind, by grind, Int.mul_ne_zero k0 (nm_ne hp)⟩
    have hS : 0 ≤ d * (k * p.2.1) * (k * p.2.1) := Int.mul_nonneg (Int.mul_nonneg (Int.le_of_lt hd0) (Int.le_of_lt hm)) (Int.le_of_lt hm)
    obtain ⟨f0, f1, f2⟩ := isq_spec hS
    obtain ⟨f, hf⟩ : ∃ f, f = isq (d * (k * p.2.1) * (k * p.2.1)) := ⟨_, rfl⟩
    rw [← hf] at f0 f1 f2
    have R : RtI (k * p.1) (d * (k * p.2.1) * (k * p.2.1)) (k * p.2.2) f := by
      refine ⟨f0, ?_, f2, P.ne, e * (d * p.2.1 * p.2.1 - p.1 * p.1) , ?_⟩
      · have := hns f (k * p.2.1) (by omega)
        omega
      · have e1 : k * p.2.2 * (e * (d * p.2.1 * p.2.1 - p.1 * p.1)) = (k * (p.2.2 * e)) * (d * p.2.1 * p.2.1 - p.1 * p.1) := by grind
        rw [e1, ← hk]; grind
    have b1 := nM hkb h.1
    have b2 := nM hkb h.2.1
    have b3 := nM hkb h.2.2
    -- the root
    have b4 : f.natAbs < 2 ^ (2 * N + 5) := by
      rcases Nat.lt_or_ge f.natAbs (2 ^ (2 * N + 5)) with w | w
      · exact w
      · exfalso
        have h1 : 2 ^ (2 * N + 5) * 2 ^ (2 * N + 5) ≤ f.natAbs * f.natAbs := Nat.mul_le_mul w w
        have h2 := nM (nM hd b2) b2
        have h3 : (f * f).natAbs = f.natAbs * f.natAbs := Int.natAbs_mul ..
        have h4 : (2 : Nat) ^ (2 * N + 5) * 2 ^ (2 * N + 5) = 2 ^ (10 + (N + N) + (N + N)) := by rw [← Nat.pow_add]; congr 1; omega
        have h5 : (f * f).natAbs ≤ (d * (k * p.2.1) * (k * p.2.1)).natAbs := by
          have := Int.mul_nonneg f0 f0
          omega
        omega
    have eW : (2 : Nat) ^ (2 * N + 13) = 2 ^ (2 * N + 5) * 256 := by rw [← Nat.pow_add 2 (2 * N + 5) 8]
    have e5 : (2 : Nat) ^ (2 * N + 5) = 2 ^ (N + N) * 32 := by rw [show 2 * N + 5 = N + N + 5 by omega, Nat.pow_add]
    have e14 : (2 : Nat) ^ (2 * N + 14) = 2 ^ (2 * N + 5) * 512 := by rw [← Nat.pow_add 2 (2 * N + 5) 9]
    have hbig : (2 : Nat) ^ (2 * N + 14) ≤ 2 ^ 100000 := Nat.pow_le_pow_right (by decide) (by omega)
    have hpos : 0 < (2 : Nat) ^ (N + N) := Nat.pow_pos (by decide)
    have hmul : n * (2 * f.toNat + 2) ≤ 50 * (2 * f.toNat + 2) := Nat.mul_le_mul_right _ hn
    refine PB_root hs.nsq hm rfl (f := f) (W := 2 ^ (2 * N + 13)) ?_ ?_ n hp R P ?_ ?_
    · generalize (2 : Nat) ^ (N + N) = X at *
      generalize (2 : Nat) ^ (2 * N + 5) = Y at *
      generalize (2 : Nat) ^ 100000 = Z at *
      omega
    · generalize (2 : Nat) ^ (N + N) = X at *
      generalize (2 : Nat) ^ (2 * N + 5) = Y at *
      omega
    · generalize (2 : Nat) ^ (N + N) = X at *
      generalize (2 : Nat) ^ (2 * N + 5) = Y at *
      omega
    · generalize (2 : Nat) ^ (N + N) = X at *
      generalize (2 : Nat) ^ (2 * N + 5) = Y at *
      omega
theorem NN_45000 {k : Nat} (hk : k ≤ 3) : NN k ≤ 45000 := by
  have : k = 0 ∨ k = 1 ∨ k = 2 ∨ k = 3 := by omega
  rcases this with rfl | rfl | rfl | rfl <;> decide
end
end PL
namespace PL
theorem Told.det {n : Nat} {r r1 : R} {m m1 : Int} {a1 : Ans} (h : Told n r m r1 m1 a1) : ∀ {n' : Nat} {r2 : R} {m2 : Int} {a2 : Ans}, Told n' r m r2 m2 a2 → r1 = r2 ∧ m1 = m2 ∧ a1 = a2 := by
  induction h with
  | fxEnd =>
    intro _ _ _ _ g
    cases g with
    | fxEnd => exact ⟨rfl, rfl, rfl⟩
    | fxPart h => exact absurd rfl h
  | fxNo =>
    intro _ _ _ _ g
    cases g with
    | fxNo => exact ⟨rfl, rfl, rfl⟩
    | fxPart h => exact absurd rfl h
  | fxPart h =>
    intro _ _ _ _ g
    cases g with
    | fxEnd => exact absurd rfl h
    | fxNo => exact absurd rfl h
    | fxPart _ => exact ⟨rfl, rfl, rfl⟩
  | frEnd =>
    intro _ _ _ _ g
    cases g with
    | frEnd => exact ⟨rfl, rfl, rfl⟩
    | frWait h => exact absurd rfl h
    | frPart h => exact absurd rfl h
  | frWait h =>
    intro _ _ _ _ g
    cases g with
    | frEnd => exact absurd rfl h
    | frWait _ => exact ⟨rfl, rfl, rfl⟩
    | frPart _ h2 => exact absurd rfl h2
  | frPart h h2 =>
    intro _ _ _ _ g
    cases g with
    | frEnd => exact absurd rfl h
    | frWait _ => exact absurd rfl h2
    | frPart => exact ⟨rfl, rfl, rfl⟩
  | rtWait =>
    intro _ _ _ _ g
    cases g with
    | rtWait => exact ⟨rfl, rfl, rfl⟩
    | rtPart h => exact absurd rfl h
  | rtPart h _ _ _ _ _ e1 e2 =>
    intro _ _ _ _ g
    cases g with
    | rtWait => exact absurd rfl h
    | rtPart _ _ _ _ _ _ f1 f2 => subst e1; subst e2; subst f1; subst f2; exact ⟨rfl, rfl, rfl⟩
  | ruEnd h =>
    intro _ _ _ _ g
    cases g with
    | ruEnd => exact ⟨rfl, rfl, rfl⟩
    | ruWait h2 => exact absurd (h2 rfl) (by omega)
    | ruPart h2 => exact absurd (h2 rfl) (by omega)
  | ruWait h =>
    intro _ _ _ _ g
    cases g with
    | ruEnd h2 => exact absurd (h rfl) (by omega)
    | ruWait => exact ⟨rfl, rfl, rfl⟩
    | ruPart _ h3 => exact absurd rfl h3
  | ruPart h h3 =>
    intro _ _ _ _ g
    cases g with
    | ruEnd h2 => exact absurd (h rfl) (by omega)
    | ruWait => exact absurd rfl h3
    | ruPart => exact ⟨rfl, rfl, rfl⟩
  | foTell _ _ _ _ e =>
    intro _ _ _ _ g
    cases g with
    | foTell _ _ _ _ e2 => rw [e] at e2; cases e2; exact ⟨rfl, rfl, rfl⟩
    | foWait _ _ _ _ e2 | foNo _ _ _ _ e2 | foEnd _ _ _ _ e2 | foIn _ _ _ _ e2 => rw [e] at e2; cases e2
  | foWait _ _ _ _ e _ ih =>
    intro _ _ _ _ g
    cases g with
    | foTell _ _ _ _ e2 => rw [e] at e2; cases e2
    | foWait _ _ _ _ _ t | foNo _ _ _ _ _ t | foEnd _ _ _ _ _ t | foIn _ _ _ _ _ t =>
      obtain ⟨x1, x2, x3⟩ := ih t
      first | cases x3; done | (subst x1; subst x2; exact ⟨rfl, rfl, rfl⟩)
  | foNo _ _ _ _ e _ ih =>
    intro _ _ _ _ g
    cases g with
    | foTell _ _ _ _ e2 => rw [e] at e2; cases e2
    | foWait _ _ _ _ _ t | foNo _ _ _ _ _ t | foEnd _ _ _ _ _ t | foIn _ _ _ _ _ t =>
      obtain ⟨x1, x2, x3⟩ := ih t
      first | cases x3; done | (subst x1; subst x2; exact ⟨rfl, rfl, rfl⟩)
  | foEnd _ _ _ _ e _ _ ih1 ih2 =>
    intro _ _ _ _ g
    cases g with
    | foTell _ _ _ _ e2 => rw [e] at e2; cases e2
    | foWait _ _ _ _ _ t | foNo _ _ _ _ _ t | foIn _ _ _ _ _ t => obtain ⟨x1, x2, x3⟩ := ih1 t; cases x3
    | foEnd _ _ _ _ _ t t2 =>
      obtain ⟨x1, x2, x3⟩ := ih1 t
      subst x1; subst x2
      obtain ⟨y1, y2, y3⟩ := ih2 t2
      cases y1; subst y2; subst y3
      exact ⟨rfl, rfl, rfl⟩
  | foIn _ _ _ _ e _ _ _ ih1 ih2 =>
    intro _ _ _ _ g
    cases g with
    | foTell _ _ _ _ e2 => rw [e] at e2; cases e2
    | foWait _ _ _ _ _ t | foNo _ _ _ _ _ t | foEnd _ _ _ _ _ t => obtain ⟨x1, x2, x3⟩ := ih1 t; cases x3
    | foIn _ _ _ _ _ t _ t2 =>
      obtain ⟨x1, x2, x3⟩ := ih1 t
      cases x3; subst x1; subst x2
      exact ih2 t2
  | fxX _ ih =>
    intro _ _ _ _ g
    cases g with
    | fxX t =>
      obtain ⟨x1, x2, x3⟩ := ih t
      cases x1; subst x2; subst x3
      exact ⟨rfl, rfl, rfl⟩
  | exX _ ih =>
    intro _ _ _ _ g
    cases g with
    | exX t =>
      obtain ⟨x1, x2, x3⟩ := ih t
      cases x1; subst x2; subst x3
      exact ⟨rfl, rfl, rfl⟩
  | exF _ _ ih =>
    intro _ _ _ _ g
    cases g with
    | exF _ t =>
      obtain ⟨x1, x2, x3⟩ := ih t
      subst x1; subst x2; subst x3
      exact ⟨rfl, rfl, rfl⟩
  | etTell _ e =>
    intro _ _ _ _ g
    cases g with
    | etTell _ e2 => rw [e] at e2; cases e2; exact ⟨rfl, rfl, rfl⟩
    | etWait _ e2 | etNo _ e2 | etFour _ e2 | etFix _ e2 | etIn0 _ e2 | etIn1 _ e2 => rw [e] at e2; cases e2
  | etWait _ e hw _ ih =>
    intro _ _ _ _ g
    subst hw
    cases g with
    | etTell _ e2 => rw [e] at e2; cases e2
    | etWait _ _ hw2 t | etNo _ _ hw2 t | etFour _ _ hw2 t | etFix _ _ hw2 t =>
      subst hw2
      obtain ⟨x1, x2, x3⟩ := ih t
      first | cases x3; done | (subst x1; subst x2; exact ⟨rfl, rfl, rfl⟩)
    | etIn0 _ _ hw2 t | etIn1 _ _ hw2 t =>
      simp only [hw2, decide_true, decide_false, cond] at ih
      obtain ⟨x1, x2, x3⟩ := ih t
      cases x3
  | etNo _ e hw _ ih =>
    intro _ _ _ _ g
    subst hw
    cases g with
    | etTell _ e2 => rw [e] at e2; cases e2
    | etWait _ _ hw2 t | etNo _ _ hw2 t | etFour _ _ hw2 t | etFix _ _ hw2 t =>
      subst hw2
      obtain ⟨x1, x2, x3⟩ := ih t
      first | cases x3; done | (subst x1; subst x2; exact ⟨rfl, rfl, rfl⟩)
    | etIn0 _ _ hw2 t | etIn1 _ _ hw2 t =>
      simp only [hw2, decide_true, decide_false, cond] at ih
      obtain ⟨x1, x2, x3⟩ := ih t
      cases x3
  | etFour _ e hw _ hd _ ih ih2 =>
    intro _ _ _ _ g
    subst hw
    cases g with
    | etTell _ e2 => rw [e] at e2; cases e2
    | etWait _ _ hw2 t | etNo _ _ hw2 t => subst hw2; obtain ⟨x1, x2, x3⟩ := ih t; cases x3
    | etFix _ _ hw2 t hd2 => subst hw2; exact absurd hd2 hd
    | etFour _ _ hw2 t hd2 t2 =>
      subst hw2
      obtain ⟨x1, x2, x3⟩ := ih t
      subst x1; subst x2
      obtain ⟨y1, y2, y3⟩ := ih2 t2
      subst y1; subst y2; subst y3
      exact ⟨rfl, rfl, rfl⟩
    | etIn0 _ _ hw2 t | etIn1 _ _ hw2 t =>
      simp only [hw2, decide_true, decide_false, cond] at ih
      obtain ⟨x1, x2, x3⟩ := ih t
      cases x3
  | etFix _ e hw _ hd he _ ih ih2 =>
    intro _ _ _ _ g
    subst hw
    cases g with
    | etTell _ e2 => rw [e] at e2; cases e2
    | etWait _ _ hw2 t | etNo _ _ hw2 t => subst hw2; obtain ⟨x1, x2, x3⟩ := ih t; cases x3
    | etFour _ _ hw2 t hd2 => subst hw2; exact absurd hd hd2
    | etFix _ _ hw2 t hd2 he2 t2 =>
      subst hw2
      obtain ⟨x1, x2, x3⟩ := ih t
      subst x1; subst x2
      have he3 := he.trans he2.symm
      cases he3
      obtain ⟨y1, y2, y3⟩ := ih2 t2
      cases y1; subst y2; subst y3
      exact ⟨rfl, rfl, rfl⟩
    | etIn0 _ _ hw2 t | etIn1 _ _ hw2 t =>
      simp only [hw2, decide_true, decide_false, cond] at ih
      obtain ⟨x1, x2, x3⟩ := ih t
      cases x3
  | etIn0 _ e hw _ _ _ ih ih2 =>
    intro _ _ _ _ g
    cases g with
    | etTell _ e2 => rw [e] at e2; cases e2
    | etWait _ _ hw2 t | etNo _ _ hw2 t | etFour _ _ hw2 t | etFix _ _ hw2 t =>
      subst hw2
      simp only [hw, decide_false, cond] at t
      obtain ⟨x1, x2, x3⟩ := ih t
      cases x3
    | etIn1 _ _ hw2 => exact absurd hw2 hw
    | etIn0 _ _ _ t _ t2 =>
      obtain ⟨x1, x2, x3⟩ := ih t
      cases x3; subst x1; subst x2
      exact ih2 t2
  | etIn1 _ e hw _ _ _ ih ih2 =>
    intro _ _ _ _ g
    cases g with
    | etTell _ e2 => rw [e] at e2; cases e2
    | etWait _ _ hw2 t | etNo _ _ hw2 t | etFour _ _ hw2 t | etFix _ _ hw2 t =>
      subst hw2
      simp only [hw, decide_true, cond] at t
      obtain ⟨x1, x2, x3⟩ := ih t
      cases x3
    | etIn0 _ _ hw2 => exact absurd hw hw2
    | etIn1 _ _ _ t _ t2 =>
      obtain ⟨x1, x2, x3⟩ := ih t
      cases x3; subst x1; subst x2
      exact ih2 t2
/-- with more to take, the same is told -/
theorem Told.mono {k : Int} (hk : 0 ≤ k) {n : Nat} {r r1 : R} {m m1 : Int} {a1 : Ans} (h : Told n r m r1 m1 a1) : 0 ≤ m → 0 ≤ m1 ∧ (a1 ≠ .waits → Told n r (m + k) r1 (m1 + k) a1) := by
  have sh : ∀ m : Int, m - 1 + k = m + k - 1 := fun m => by omega
  induction h with
  | fxEnd => exact fun h => ⟨h, fun _ => .fxEnd⟩
  | fxNo => exact fun h => ⟨h, fun _ => .fxNo⟩
  | fxPart h1 h2 h3 => exact fun h => ⟨h, fun _ => .fxPart h1 h2 h3⟩
  | frEnd => exact fun h => ⟨h, fun _ => .frEnd⟩
  | frWait => exact fun h => ⟨h, fun z => absurd rfl z⟩
  | frPart h1 h2 h3 h4 => exact fun h => ⟨by omega, fun _ => by rw [sh]; exact .frPart h1 (by omega) h3 h4⟩
  | rtWait => exact fun h => ⟨h, fun z => absurd rfl z⟩
  | rtPart h1 h2 h3 h4 h5 h6 h7 h8 h9 => exact fun h => ⟨by omega, fun _ => by rw [sh]; exact .rtPart (by omega) h2 h3 h4 h5 h6 h7 h8 h9⟩
  | ruEnd h1 => exact fun h => ⟨h, fun _ => .ruEnd h1⟩
  | ruWait => exact fun h => ⟨h, fun z => absurd rfl z⟩
  | ruPart h1 h2 h3 h4 h5 h6 h7 => exact fun h => ⟨by omega, fun _ => by rw [sh]; exact .ruPart h1 (by omega) h3 h4 h5 h6 h7⟩
  | foTell h1 h2 h3 h4 h5 => exact fun h => ⟨h, fun _ => .foTell h1 h2 h3 h4 h5⟩
  | foWait h1 h2 h3 h4 h5 _ ih => exact fun h => ⟨(ih h).1, fun z => absurd rfl z⟩
  | foNo h1 h2 h3 h4 h5 _ ih => exact fun h => ⟨(ih h).1, fun _ => .foNo h1 h2 h3 h4 h5 ((ih h).2 (by simp))⟩
  | foEnd h1 h2 h3 h4 h5 _ _ ih1 ih2 => exact fun h => ⟨(ih2 (ih1 h).1).1, fun z => .foEnd h1 h2 h3 h4 h5 ((ih1 h).2 (by simp)) ((ih2 (ih1 h).1).2 z)⟩
  | foIn h1 h2 h3 h4 h5 _ h6 _ ih1 ih2 => exact fun h => ⟨(ih2 (ih1 h).1).1, fun z => .foIn h1 h2 h3 h4 h5 ((ih1 h).2 (by simp)) h6 ((ih2 (ih1 h).1).2 z)⟩
  | fxX _ ih => exact fun h => ⟨(ih h).1, fun z => .fxX ((ih h).2 z)⟩
  | exX _ ih => exact fun h => ⟨(ih h).1, fun z => .exX ((ih h).2 z)⟩
  | exF hf _ ih => exact fun h => ⟨(ih h).1, fun z => .exF hf ((ih h).2 z)⟩
  | etTell h1 h2 => exact fun h => ⟨h, fun _ => .etTell h1 h2⟩
  | etWait h1 h2 h3 _ ih => exact fun h => ⟨(ih h).1, fun z => absurd rfl z⟩
  | etNo h1 h2 h3 _ ih => exact fun h => ⟨(ih h).1, fun _ => .etNo h1 h2 h3 ((ih h).2 (by simp))⟩
  | etFour h1 h2 h3 _ h4 _ ih1 ih2 => exact fun h => ⟨(ih2 (ih1 h).1).1, fun z => .etFour h1 h2 h3 ((ih1 h).2 (by simp)) h4 ((ih2 (ih1 h).1).2 z)⟩
  | etFix h1 h2 h3 _ h4 h5 _ ih1 ih2 => exact fun h => ⟨(ih2 (ih1 h).1).1, fun z => .etFix h1 h2 h3 ((ih1 h).2 (by simp)) h4 h5 ((ih2 (ih1 h).1).2 z)⟩
  | etIn0 h1 h2 h3 _ h4 _ ih1 ih2 => exact fun h => ⟨(ih2 (ih1 h).1).1, fun z => .etIn0 h1 h2 h3 ((ih1 h).2 (by simp)) h4 ((ih2 (ih1 h).1).2 z)⟩
  | etIn1 h1 h2 h3 _ h4 _ ih1 ih2 => exact fun h => ⟨(ih2 (ih1 h).1).1, fun z => .etIn1 h1 h2 h3 ((ih1 h).2 (by simp)) h4 ((ih2 (ih1 h).1).2 z)⟩
theorem fix_nowait {n : Nat} {t b : Int} {g : Bool} {r1 : R} {m m1 : Int} (h : Told n (.fixed t b g) m r1 m1 .waits) : False := by cases h
/-- a waiting, and then the rest -/
theorem Told.add {k : Int} (hk : 0 ≤ k) {n : Nat} {r r1 : R} {m m1 : Int} {a1 : Ans} (h : Told n r m r1 m1 a1) : 0 ≤ m → a1 = .waits → m1 = 0 ∧ ∀ {n2 : Nat} {r2 : R} {m2 : Int} {a2 : Ans}, Told n2 r1 k r2 m2 a2 → ∃ n3, Told n3 r (m + k) r2 m2 a2 := by
  induction h with
  | fxEnd | fxNo | fxPart | frEnd | frPart | rtPart | ruEnd | ruPart | foTell | foNo | etTell | etNo => exact fun _ z => by cases z
  | frWait | rtWait | ruWait => exact fun _ _ => ⟨rfl, fun g => ⟨_, by rw [Int.zero_add]; exact g⟩⟩
  | foWait h1 h2 h3 h4 h5 _ ih =>
    refine fun h _ => ⟨(ih h rfl).1, fun g => ?_⟩
    cases g with
    | foTell _ _ _ _ e2 => rw [h5] at e2; cases e2
    | foWait _ _ _ _ _ t => obtain ⟨_, t'⟩ := (ih h rfl).2 t; exact ⟨_, .foWait h1 h2 h3 h4 h5 t'⟩
    | foNo _ _ _ _ _ t => obtain ⟨_, t'⟩ := (ih h rfl).2 t; exact ⟨_, .foNo h1 h2 h3 h4 h5 t'⟩
    | foEnd _ _ _ _ _ t t2 => obtain ⟨_, t'⟩ := (ih h rfl).2 t; exact ⟨_, .foEnd h1 h2 h3 h4 h5 t' t2⟩
    | foIn _ _ _ _ _ t h6 t2 => obtain ⟨_, t'⟩ := (ih h rfl).2 t; exact ⟨_, .foIn h1 h2 h3 h4 h5 t' h6 t2⟩
  | foEnd _ _ _ _ _ _ t2 => exact fun _ z => by subst z; exact (fix_nowait t2).elim
  | fxX t2 => exact fun _ z => by subst z; exact (fix_nowait t2).elim
  | exX t2 => exact fun _ z => by subst z; exact (fix_nowait t2).elim
  | etFix _ _ _ _ _ _ t2 => exact fun _ z => by subst z; exact (fix_nowait t2).elim
  | foIn h1 h2 h3 h4 h5 t h6 _ ih1 ih2 =>
    refine fun h z => ?_
    obtain ⟨p1, p2⟩ := t.mono hk h
    obtain ⟨q1, q2⟩ := ih2 p1 z
    refine ⟨q1, fun g => ?_⟩
    obtain ⟨_, g'⟩ := q2 g
    exact ⟨_, .foIn h1 h2 h3 h4 h5 (p2 (by simp)) h6 g'⟩
  | exF hf _ ih =>
    refine fun h z => ⟨(ih h z).1, fun g => ?_⟩
    cases g with
    | exF _ t => obtain ⟨_, t'⟩ := (ih h z).2 t; exact ⟨_, .exF hf t'⟩
  | @etWait a b c d e f g' h' m0 m1 bg x y m w i z m' h1 h2 h3 _ ih =>
    refine fun h _ => ⟨(ih h rfl).1, fun g => ?_⟩
    have key : ∀ {n2 : Nat} {r2 : R} {m2 : Int} {a2 : Ans}, Told n2 z k r2 m2 a2 → ∃ n3, Told n3 (cond w y x) (m + k) r2 m2 a2 := (ih h rfl).2
    cases w
    · have hw : ¬ m1 < m0 := of_decide_eq_false h3.symm
      have hs : decide (m1 < m0) = false := h3.symm
      cases g with
      | etTell _ e2 => rw [h2] at e2; cases e2
      | etWait _ _ w2 t => rw [hs] at w2; subst w2; obtain ⟨_, t'⟩ := key t; exact ⟨_, .etWait h1 h2 h3 t'⟩
      | etNo _ _ w2 t => rw [hs] at w2; subst w2; obtain ⟨_, t'⟩ := key t; exact ⟨_, .etNo h1 h2 h3 t'⟩
      | etFour _ _ w2 t u1 u2 => rw [hs] at w2; subst w2; obtain ⟨_, t'⟩ := key t; exact ⟨_, .etFour h1 h2 h3 t' u1 u2⟩
      | etFix _ _ w2 t u1 u2 u3 => rw [hs] at w2; subst w2; obtain ⟨_, t'⟩ := key t; exact ⟨_, .etFix h1 h2 h3 t' u1 u2 u3⟩
      | etIn0 _ _ w2 t u1 u2 => obtain ⟨_, t'⟩ := key t; exact ⟨_, .etIn0 h1 h2 hw t' u1 u2⟩
      | etIn1 _ _ w2 => exact absurd w2 hw
    · have hw : m1 < m0 := of_decide_eq_true h3.symm
      have hs : decide (m1 < m0) = true := h3.symm
      cases g with
      | etTell _ e2 => rw [h2] at e2; cases e2
      | etWait _ _ w2 t => rw [hs] at w2; subst w2; obtain ⟨_, t'⟩ := key t; exact ⟨_, .etWait h1 h2 h3 t'⟩
      | etNo _ _ w2 t => rw [hs] at w2; subst w2; obtain ⟨_, t'⟩ := key t; exact ⟨_, .etNo h1 h2 h3 t'⟩
      | etFour _ _ w2 t u1 u2 => rw [hs] at w2; subst w2; obtain ⟨_, t'⟩ := key t; exact ⟨_, .etFour h1 h2 h3 t' u1 u2⟩
      | etFix _ _ w2 t u1 u2 u3 => rw [hs] at w2; subst w2; obtain ⟨_, t'⟩ := key t; exact ⟨_, .etFix h1 h2 h3 t' u1 u2 u3⟩
      | etIn0 _ _ w2 => exact absurd hw w2
      | etIn1 _ _ w2 t u1 u2 => obtain ⟨_, t'⟩ := key t; exact ⟨_, .etIn1 h1 h2 hw t' u1 u2⟩
  | etFour h1 h2 h3 t h4 _ ih1 ih2 =>
    refine fun h z => ?_
    obtain ⟨p1, p2⟩ := t.mono hk h
    obtain ⟨q1, q2⟩ := ih2 p1 z
    refine ⟨q1, fun g => ?_⟩
    cases g with
    | exF _ g1 =>
      obtain ⟨_, g'⟩ := q2 g1
      exact ⟨_, .etFour h1 h2 h3 (p2 (by simp)) h4 g'⟩
  | etIn0 h1 h2 h3 t h4 _ ih1 ih2 =>
    refine fun h z => ?_
    obtain ⟨p1, p2⟩ := t.mono hk h
    obtain ⟨q1, q2⟩ := ih2 p1 z
    refine ⟨q1, fun g => ?_⟩
    obtain ⟨_, g'⟩ := q2 g
    exact ⟨_, .etIn0 h1 h2 h3 (p2 (by simp)) h4 g'⟩
  | etIn1 h1 h2 h3 t h4 _ ih1 ih2 =>
    refine fun h z => ?_
    obtain ⟨p1, p2⟩ := t.mono hk h
    obtain ⟨q1, q2⟩ := ih2 p1 z
    refine ⟨q1, fun g => ?_⟩
    obtain ⟨_, g'⟩ := q2 g
    exact ⟨_, .etIn1 h1 h2 h3 (p2 (by simp)) h4 g'⟩
end PL
namespace PL
open Lean.Grind
section
variable {A : Type} [CommRing A] [LE A] [LT A] [Std.LawfulOrderLT A] [Std.IsLinearOrder A] [OrderedRing A]
def Dead (A : Type) [CommRing A] [LE A] [LT A] [Std.LawfulOrderLT A] [Std.IsLinearOrder A] [OrderedRing A] : R → Prop
  | .four a b c d rdy bg x => bg = false ∧ ∃ ux vx : A, Sem A rdy x ux vx ∧ (rdy = true → BgV ux vx) ∧ (c : A) * ux + d * vx = 0 ∧ (a : A) * ux + b * vx ≠ 0
  | .fourX _ _ b g => b = 0 ∧ g = false
  | .eight _ _ _ _ _ _ _ _ m0 m1 bg x _ => m0 = 0 ∧ m1 = 0 ∧ bg = false ∧ Dead A x
  | _ => False
theorem dead {n : Nat} {r r' : R} {m m' : Int} {ans : Ans} (ht : Told n r m r' m' ans) : Dead A r → Dead A r' ∧ (ans = .waits ∨ ans = .none) := by
  induction ht with
  | @foTell a b c d rdy bg x m q _ _ _ _ hs =>
    rintro ⟨rfl, ux, vx, hx, hb, h0, h1⟩
    cases rdy with
    | false => cases hs
    | true => exact absurd h0 (tell4 hs (hb rfl) rfl rfl).ne
  | foWait _ _ _ _ _ ht =>
    rintro ⟨rfl, ux, vx, hx, hb, h0, h1⟩
    exact ⟨⟨rfl, ux, vx, sound ht hx, hb, h0, h1⟩, .inl rfl⟩
  | foNo _ _ _ _ _ ht =>
    rintro ⟨rfl, ux, vx, hx, hb, h0, h1⟩
    exact (sound ht hx).elim
  | @foEnd a b c d rdy bg x m i x' m1 t' b' g' m' ans _ _ _ _ _ ht hf _ _ =>
    rintro ⟨rfl, ux, vx, hx, hb, h0, h1⟩
    obtain ⟨v0, hx', _⟩ := sound ht hx
    subst v0
    have u0 : ux ≠ 0 := fun w => hx.nz.1 ⟨w, rfl⟩
    have e2 : (c : A) * ux = 0 := by grind
    have c0 : c = 0 := by
      refine Classical.byContradiction fun w => ?_
      exact mul_nz (cast_ne (A := A) w) u0 e2
    subst c0
    cases hf with
    | fxNo => exact ⟨⟨rfl, rfl⟩, .inr rfl⟩
    | fxPart h => exact absurd rfl h
  | @foIn a b c d rdy bg x m i x' m1 q n r' m' ans _ _ _ _ _ ht _ _ ih1 ih2 =>
    rintro ⟨rfl, ux, vx, hx, hb, h0, h1⟩
    obtain ⟨hp, hx'⟩ := sound ht hx
    refine ih2 ⟨rfl, vx, ux - q * vx, hx', fun _ => hp.bg, ?_, ?_⟩
    · rw [cast_add, cast_mul]; rw [← h0]; grind
    · rw [cast_add, cast_mul]
      intro w; apply h1; rw [← w]; grind
  | @fxX x t b g m t' b' g' m' ans ht =>
    rintro ⟨rfl, rfl⟩
    cases ht with
    | fxNo => exact ⟨⟨rfl, rfl⟩, .inr rfl⟩
    | fxPart h => exact absurd rfl h
  | etTell _ hs => rintro ⟨rfl, rfl, rfl, hx⟩; cases hs
  | etWait _ _ hw _ ih =>
    rintro ⟨rfl, rfl, rfl, hx⟩
    cases hw
    exact ⟨⟨rfl, rfl, rfl, (ih hx).1⟩, .inl rfl⟩
  | etNo _ _ hw _ ih =>
    rintro ⟨rfl, rfl, rfl, hx⟩
    cases hw
    exact ⟨⟨rfl, rfl, rfl, (ih hx).1⟩, .inr rfl⟩
  | etFour _ _ hw _ _ _ ih =>
    rintro ⟨rfl, rfl, rfl, hx⟩
    cases hw
    rcases (ih hx).2 with z | z <;> cases z
  | etFix _ _ hw _ _ _ _ ih =>
    rintro ⟨rfl, rfl, rfl, hx⟩
    cases hw
    rcases (ih hx).2 with z | z <;> cases z
  | etIn0 _ _ _ _ _ _ ih =>
    rintro ⟨rfl, rfl, rfl, hx⟩
    rcases (ih hx).2 with z | z <;> cases z
  | etIn1 _ _ hw =>
    rintro ⟨rfl, rfl, rfl, hx⟩
    exact absurd hw (by decide)
  | _ => exact fun h => h.elim
end
theorem det_c {d : Int} [NS d] {a b c e : Int} {u v : Zd d} (hdet : a * e ≠ b * c) (h0 : (c : Zd d) * u + e * v = 0) (hnz : Nz u v) : (a : Zd d) * u + b * v ≠ 0 := fun h1 => by
  have e1 : ((a * e - b * c : Int) : Zd d) * v = 0 := by
    rw [cast_sub, cast_mul, cast_mul]
    have : ((a : Zd d) * e - b * c) * v = a * ((c : Zd d) * u + e * v) - c * ((a : Zd d) * u + b * v) := by grind
    rw [this, h0, h1]; grind
  have e2 : ((a * e - b * c : Int) : Zd d) * u = 0 := by
    rw [cast_sub, cast_mul, cast_mul]
    have : ((a : Zd d) * e - b * c) * u = e * ((a : Zd d) * u + b * v) - b * ((c : Zd d) * u + e * v) := by grind
    rw [this, h0, h1]; grind
  have k : ((a * e - b * c : Int) : Zd d) ≠ 0 := cast_ne (by omega)
  refine hnz ⟨?_, ?_⟩
  · rcases zero_mul_or e2 with z | z
    · exact absurd z k
    · exact z
  · rcases zero_mul_or e1 with z | z
    · exact absurd z k
    · exact z
end PL
namespace PL
open PySem L2
/-- a reader within bounds: it can be asked for 2600 parts of leaves in all -/
def GdC (r : R) : Prop := ∃ bg u1 u0 β, Gd 84 KK r bg u1 u0 β ∧ β ≤ 60000
theorem GdC.ask {r : R} (h : GdC r) (m : Nat) (hm : r.tk + m ≤ 2600) : ∃ n r' ans, ∃ m' : Nat, Told n r m r' m' ans ∧ r'.tk + m' = r.tk + m ∧ GdC r' ∧ (ans = .waits → m' = 0) := by
  obtain ⟨bg, u1, u0, β, hG, hβ⟩ := h
  obtain ⟨n, r', ans, m', t0, htk, bg', v1, v0, hG2, hor⟩ := PL.ask hG m (by omega)
  refine ⟨n, r', ans, m', t0, htk, ⟨bg', v1, v0, β, hG2, hβ⟩, fun e => ?_⟩
  rcases hor with ⟨q, h1, _⟩ | ⟨h1, h2, _⟩ | ⟨h1, _⟩ | ⟨h1, _⟩
  · rw [h1] at e; cases e
  · exact h2
  · rw [h1] at e; cases e
  · rw [h1] at e; cases e
inductive Wd where
  | less | same | more | waits | none
def Wd.s : Wd → Str
  | .less => "less"
  | .same => "same"
  | .more => "more"
  | .waits => "waits"
  | .none => "none"
def Ans.stp : Ans → Bool
  | .part _ => true
  | .fin => true
  | _ => false
/-- whether the first of two unlike steps belongs to the greater number -/
def gfB (a b : Ans) (n : Nat) : Bool :=
  decide ((match a, b with
    | .fin, _ => true
    | _, .fin => false
    | .part x, .part y => decide (y < x)
    | _, _ => false) = decide (n % 2 = 0))
inductive Bes (most : Int) : Nat → Nat → R → R → Wd → Prop
  | w1 {i n r s r1 m1} : Told i r (most - r.tk - s.tk) r1 m1 .waits → Bes most 0 n r s .waits
  | n1 {i n r s r1 m1} : Told i r (most - r.tk - s.tk) r1 m1 .none → Bes most 0 n r s .none
  | w2 {i j n r s r1 s1 m1 m2 a} : a.stp = true → Told i r (most - r.tk - s.tk) r1 m1 a → Told j s (most - r1.tk - s.tk) s1 m2 .waits → Bes most 0 n r s .waits
  | n2 {i j n r s r1 s1 m1 m2 a} : a.stp = true → Told i r (most - r.tk - s.tk) r1 m1 a → Told j s (most - r1.tk - s.tk) s1 m2 .none → Bes most 0 n r s .none
  | diff {i j n r s r1 s1 m1 m2 a b} : a.stp = true → b.stp = true → Told i r (most - r.tk - s.tk) r1 m1 a → Told j s (most - r1.tk - s.tk) s1 m2 b → a ≠ b → Bes most 0 n r s (if gfB a b n = true then .more else .less)
  | same {i j n r s r1 s1 m1 m2} : Told i r (most - r.tk - s.tk) r1 m1 .fin → Told j s (most - r1.tk - s.tk) s1 m2 .fin → Bes most 0 n r s .same
  | next {i j d n r s r1 s1 m1 m2 q w} : Told i r (most - r.tk - s.tk) r1 m1 (.part q) → Told j s (most - r1.tk - s.tk) s1 m2 (.part q) → Bes most d (n + 1) r1 s1 w → Bes most (d + 1) n r s w
def Wd.ok (C : CT) (w : Wd) (Q : AQ) (E : Value → Om → Prop) (Ω : Om) : Prop := match w with
  | .none => E (.ref C.c_NoValue) Ω
  | w => Q (.str w.s) Ω
/-- two readers in one store -/
structure Two (C : CT) (Ω0 : Om) (S1 S2 : List Addr) (Ω : Om) (p : Addr) (r : R) (A : List Addr) (q : Addr) (s : R) (B : List Addr) : Prop where
  r1 : RdO C Ω p r A
  r2 : RdO C Ω q s B
  dj : ∀ b ∈ A, b ∉ B
  n1 : ∀ b ∈ A, b ∈ S1 ∨ b ∈ S2 ∨ Ω0 b = none
  n2 : ∀ b ∈ B, b ∈ S1 ∨ b ∈ S2 ∨ Ω0 b = none
  fr : ∀ b, b ∉ S1 → b ∉ S2 → Ω0 b ≠ none → Ω b = Ω0 b
section
variable {C : CT} {Ω0 Ω Ω' : Om} {S1 S2 A B A' : List Addr} {p q : Addr} {r s r' : R}
theorem Two.start (h1 : RdO C Ω0 p r S1) (h2 : RdO C Ω0 q s S2) (hd : ∀ b ∈ S1, b ∉ S2) : Two C Ω0 S1 S2 Ω0 p r S1 q s S2 := ⟨h1, h2, hd, fun _ h => .inl h, fun _ h => .inr (.inl h), fun _ _ _ _ => rfl⟩
theorem Two.old (t : Two C Ω0 S1 S2 Ω p r A q s B) {b : Addr} (h : Ω b = none) : b ∈ S1 ∨ b ∈ S2 ∨ Ω0 b = none := by
  by_cases h1 : b ∈ S1
  · exact .inl h1
  by_cases h2 : b ∈ S2
  · exact .inr (.inl h2)
  refine .inr (.inr ?_)
  cases e : Ω0 b with
  | none => rfl
  | some o => have := t.fr b h1 h2 (by rw [e]; simp); rw [h, e] at this; cases this
theorem Two.swap (t : Two C Ω0 S1 S2 Ω p r A q s B) : Two C Ω0 S1 S2 Ω q s B p r A := ⟨t.r2, t.r1, fun b h1 h2 => t.dj b h2 h1, t.n2, t.n1, t.fr⟩
theorem Two.fst (t : Two C Ω0 S1 S2 Ω p r A q s B) (h : RdO C Ω' p r' A') (k1 : ∀ b, b ∉ A → Ω b ≠ none → Ω' b = Ω b) (k2 : ∀ b ∈ A', b ∈ A ∨ Ω b = none) : Two C Ω0 S1 S2 Ω' p r' A' q s B := by
  refine ⟨h, t.r2.keep fun b hb => k1 b (fun z => t.dj b z hb) (t.r2.there b hb), fun b h1 h2 => ?_, fun b hb => ?_, t.n2, fun b h1 h2 h3 => ?_⟩
  · rcases k2 b h1 with z | z
    · exact t.dj b z h2
    · exact t.r2.there b h2 z
  · rcases k2 b hb with z | z
    · exact t.n1 b z
    · exact t.old z
  · have e := t.fr b h1 h2 h3
    rw [k1 b (fun z => ?_) (by rw [e]; exact h3), e]
    rcases t.n1 b z with w | w | w
    · exact h1 w
    · exact h2 w
    · exact h3 w
theorem Two.snd (t : Two C Ω0 S1 S2 Ω p r A q s B) {s' : R} {B' : List Addr} (h : RdO C Ω' q s' B') (k1 : ∀ b, b ∉ B → Ω b ≠ none → Ω' b = Ω b) (k2 : ∀ b ∈ B', b ∈ B ∨ Ω b = none) : Two C Ω0 S1 S2 Ω' p r A q s' B' := (t.swap.fst h k1 k2).swap
theorem Two.set (t : Two C Ω0 S1 S2 Ω p r A q s B) {a : Addr} {o : AO} (h1 : a ∉ A) (h2 : a ∉ B) (h3 : a ∈ S1 ∨ a ∈ S2 ∨ Ω0 a = none) : Two C Ω0 S1 S2 (oset Ω a o) p r A q s B := by
  refine ⟨t.r1.keep fun b hb => oset_ne fun e => h1 (by rw [← e]; exact hb), t.r2.keep fun b hb => oset_ne fun e => h2 (by rw [← e]; exact hb), t.dj, t.n1, t.n2, fun b k1 k2 k3 => ?_⟩
  rw [oset_ne (fun e => ?_)]
  · exact t.fr b k1 k2 k3
  · subst e
    rcases h3 with w | w | w
    · exact k1 w
    · exact k2 w
    · exact k3 w
end
/-- the first parts, and how it stopped -/
inductive Hw where
  | parts | fin | waits | none
def Hw.s : Hw → Str
  | .parts => "parts"
  | .fin => "end"
  | .waits => "waits"
  | .none => "none"
end PL
namespace PL
open Lean.Grind
section
variable {A : Type} [CommRing A] [LE A] [LT A] [Std.LawfulOrderLT A] [Std.IsLinearOrder A] [OrderedRing A]
/-- no further from nought than so much -/
structure Bd (z : A) (B : Int) : Prop where
  lo : -(B : A) ≤ z
  hi : z ≤ (B : A)
theorem Bd.nn {z : A} {B : Int} (h : Bd z B) : 0 ≤ B := by
  rcases Int.lt_or_le B 0 with w | w
  · have := cast_lt (A := A) w
    rw [cast_zero] at this
    have h1 := h.lo
    have h2 := h.hi
    grind
  · exact w
theorem Bd.up {z : A} {B C : Int} (h : Bd z B) (l : B ≤ C) : Bd z C := by
  have := cast_le (A := A) l
  have h1 := h.lo
  have h2 := h.hi
  exact ⟨by grind, by grind⟩
theorem Bd.add {z w : A} {B C : Int} (h : Bd z B) (g : Bd w C) : Bd (z + w) (B + C) := by
  have h1 := h.lo
  have h2 := h.hi
  have g1 := g.lo
  have g2 := g.hi
  exact ⟨by rw [cast_add]; grind, by rw [cast_add]; grind⟩
theorem Bd.neg {z : A} {B : Int} (h : Bd z B) : Bd (-z) B := by
  have h1 := h.lo
  have h2 := h.hi
  exact ⟨by grind, by grind⟩
theorem Bd.sub {z w : A} {B C : Int} (h : Bd z B) (g : Bd w C) : Bd (z - w) (B + C) := by
  have := h.add g.neg
  have e : z + -w = z - w := by grind
  rwa [e] at this
theorem Bd.mul {z w : A} {B C : Int} (h : Bd z B) (g : Bd w C) : Bd (z * w) (B * C) := by
  have h1 := h.lo
  have h2 := h.hi
  have g1 := g.lo
  have g2 := g.hi
  have p1 := mul_nn (a := (B : A) - z) (b := (C : A) - w) (by grind) (by grind)
  have p2 := mul_nn (a := (B : A) + z) (b := (C : A) + w) (by grind) (by grind)
  have p3 := mul_nn (a := (B : A) - z) (b := (C : A) + w) (by grind) (by grind)
  have p4 := mul_nn (a := (B : A) + z) (b := (C : A) - w) (by grind) (by grind)
  exact ⟨by rw [cast_mul]; grind, by rw [cast_mul]; grind⟩
theorem Bd.int {n B : Int} (h : n.natAbs ≤ B) : Bd (n : A) B := by
  have a := cast_le (A := A) (a := -B) (b := n) (by omega)
  have b := cast_le (A := A) (a := n) (b := B) (by omega)
  rw [cast_neg] at a
  exact ⟨a, b⟩
theorem Bd.to {n B : Int} (h : Bd (n : A) B) : (n.natAbs : Int) ≤ B := by
  have h1 := h.lo
  have h2 := h.hi
  rcases Int.lt_or_le B n with w | w
  · have := cast_lt (A := A) w; grind
  rcases Int.lt_or_le n (-B) with x | x
  · have := cast_lt (A := A) x
    rw [cast_neg] at this
    grind
  omega
/-- .. of a number that is nought or more -/
theorem Bd.le {z w : A} {B : Int} (h : Bd w B) (h0 : 0 ≤ z) (h1 : z ≤ w) : Bd z B := by
  have h2 := h.hi
  have := cast_nn (A := A) h.nn
  exact ⟨by grind, by grind⟩
theorem of_cast_le {a b : Int} (h : (a : A) ≤ b) : a ≤ b := by
  rcases Int.lt_or_le b a with w | w
  · have := cast_lt (A := A) w; grind
  · exact w
end
section
variable {d : Int}
def cj (z : Zd d) : Zd d := ⟨z.x, -z.y⟩
theorem cj_add (a b : Zd d) : cj (a + b) = cj a + cj b := by ext <;> simp [cj, Zd.add_x, Zd.add_y] <;> omega
theorem cj_sub (a b : Zd d) : cj (a - b) = cj a - cj b := by ext <;> simp [cj, Zd.sub_x, Zd.sub_y] <;> omega
theorem cj_mul (a b : Zd d) : cj (a * b) = cj a * cj b := by
  ext
  · simp only [cj, Zd.mul_x]; grind
  · simp only [cj, Zd.mul_y]; grind
theorem cj_int (n : Int) : cj ((n : Int) : Zd d) = ((n : Int) : Zd d) := by
  ext
  · rfl
  · show -(0 : Int) = 0; rfl
theorem cj_cj (a : Zd d) : cj (cj a) = a := by ext <;> simp [cj]
theorem norm_int (z : Zd d) : z * cj z = ((z.x * z.x - d * z.y * z.y : Int) : Zd d) := by
  ext
  · show z.x * z.x + d * z.y * -z.y = z.x * z.x - d * z.y * z.y; grind
  · show z.x * -z.y + z.y * z.x = 0; grind
variable [hs : NS d]
theorem norm_ne {z : Zd d} (h : z ≠ 0) : z.x * z.x - d * z.y * z.y ≠ 0 := fun w => by
  obtain ⟨hd, hns⟩ := hs.nsq
  apply h
  have y0 : z.y = 0 := Decidable.not_not.mp fun e => hns z.x z.y e (by omega)
  have x0 : z.x = 0 := by
    rw [y0, Int.mul_zero, Int.sub_zero] at w
    rcases Int.mul_eq_zero.mp w with e | e <;> exact e
  ext
  · exact x0
  · exact y0
theorem zd_norm {z : Zd d} (h : z ≠ 0) : (1 : Zd d) ≤ z * cj z ∨ z * cj z ≤ -1 := by
  have n := norm_ne h
  rw [norm_int]
  generalize z.x * z.x - d * z.y * z.y = k at n
  rcases Int.lt_or_gt_of_ne n with w | w
  · right
    have := cast_le (A := Zd d) (a := k) (b := -1) (by omega)
    rw [cast_neg, cast_one] at this
    exact this
  · left
    have := cast_le (A := Zd d) (a := 1) (b := k) (by omega)
    rw [cast_one] at this
    exact this
/-- a form above nought, and its conjugate's size -/
theorem norm_key {L R : Zd d} {T M N : Int} (hT : 0 ≤ T) (h0 : 0 < L) (h1 : L * (T : Zd d) ≤ R) (hR : R ≤ (M : Zd d)) (hN : Bd (cj L) N) : T ≤ M * N := by
  refine of_cast_le (A := Zd d) ?_
  rw [cast_mul]
  have t0 := cast_nn (A := Zd d) hT
  have g1 := hN.lo
  have g2 := hN.hi
  have N0 := cast_nn (A := Zd d) hN.nn
  generalize (T : Zd d) = t at *
  generalize (M : Zd d) = m at *
  generalize (N : Zd d) = n at *
  have hn := zd_norm (z := L) (by grind)
  generalize cj L = l at *
  have lt0 := mul_nn (a := L) (b := t) (by grind) t0
  rcases hn with w | w
  · have k1 := mul_nn (a := L * l - 1) (b := t) (by grind) t0
    have lp : 0 < l := by
      rcases lt_or l 0 with z | z | z
      · have := mul_pp (a := L) (b := -l) h0 (by grind)
        grind
      · subst z; grind
      · exact z
    have k2 := mul_nn (a := m - L * t) (b := l) (by grind) (by grind)
    have k3 := mul_nn (a := m) (b := n - l) (by grind) (by grind)
    grind
  · have k1 := mul_nn (a := -(L * l) - 1) (b := t) (by grind) t0
    have lp : 0 < -l := by
      rcases lt_or l 0 with z | z | z
      · grind
      · subst z; grind
      · have := mul_pp (a := L) (b := l) h0 z
        grind
    have k2 := mul_nn (a := m - L * t) (b := -l) (by grind) (by grind)
    have k3 := mul_nn (a := m) (b := n + l) (by grind) (by grind)
    grind
/-- the root of d is below r -/
theorem rt_bd {r : Int} (hr : 0 ≤ r) (h : d ≤ r * r) : Bd (⟨0, 1⟩ : Zd d) r := by
  have hd := hs.nsq.1
  have up : (⟨0, 1⟩ : Zd d) ≤ ((r : Int) : Zd d) := by
    show Zd.nn _
    refine ⟨0, fun N hN => ?_⟩
    obtain ⟨r0, r1, _, _⟩ := Zd.rt_spec hd hN
    show -0 ≤ N * (r - 0) + (0 - 1) * Zd.rt d N
    have : Zd.rt d N ≤ N * r := by
      rcases Int.lt_or_le (N * r) (Zd.rt d N) with w | w
      · exfalso
        have n0 : 0 ≤ N * r := Int.mul_nonneg (by omega) hr
        have k1 : N * r * (N * r) < Zd.rt d N * Zd.rt d N := Int.lt_of_le_of_lt (Int.mul_le_mul_of_nonneg_left (Int.le_of_lt w) n0) (Int.mul_lt_mul_of_pos_right w (by omega))
        have k2 : N * r * (N * r) = N * N * (r * r) := by grind
        have k3 : N * N * d ≤ N * N * (r * r) := Int.mul_le_mul_of_nonneg_left h (Int.mul_nonneg (by omega) (by omega))
        have k4 : d * N * N = N * N * d := by grind
        omega
      · exact w
    rw [Int.sub_zero]
    omega
  have lo : (0 : Zd d) ≤ ⟨0, 1⟩ := by
    show Zd.nn _
    refine ⟨0, fun N hN => ?_⟩
    have := (Zd.rt_spec hd hN).1
    show -0 ≤ N * (0 - 0) + (1 - 0) * Zd.rt d N
    omega
  have := cast_nn (A := Zd d) hr
  exact ⟨by grind, up⟩
theorem zd_bd {r : Int} (hr : 0 ≤ r) (h : d ≤ r * r) {z : Zd d} {B C : Int} (hx : z.x.natAbs ≤ B) (hy : z.y.natAbs ≤ C) : Bd z (B + C * r) ∧ Bd (cj z) (B + C * r) := by
  have k : ∀ {x y : Int}, (x.natAbs : Int) ≤ B → (y.natAbs : Int) ≤ C → Bd (⟨x, y⟩ : Zd d) (B + C * r) := fun {x y} h1 h2 => by
    have e : (⟨x, y⟩ : Zd d) = ((x : Int) : Zd d) + ((y : Int) : Zd d) * ⟨0, 1⟩ := by
      ext
      · show x = x + (y * 0 + d * 0 * 1); grind
      · show y = 0 + (y * 1 + 0 * 0); grind
    rw [e]
    exact (Bd.int h1).add ((Bd.int h2).mul (rt_bd hr h))
  exact ⟨k hx hy, k hx (by omega)⟩
end
end PL
namespace PL
open Lean.Grind
section
variable {A : Type} [CommRing A] [LE A] [LT A] [Std.LawfulOrderLT A] [Std.IsLinearOrder A] [OrderedRing A]
/-- p over q stands near u over v -/
structure Nr (Q : Int) (u v : A) (p q : Int) : Prop where
  qq : Q ≤ q
  lo : -v ≤ (u * q - v * p) * Q
  hi : (u * q - v * p) * Q ≤ v
theorem Bd.ht {z : A} {B : Int} {b : Int} (h : Bd z B) (hb : 0 ≤ b) : z * b ≤ (B : A) * b := by
  have := mul_nn (a := (B : A) - z) (b := (b : A)) (by have := h.hi; grind) (cast_nn hb)
  grind
theorem shrink {L : A} {a b T M0 M1 M2 : Int} (hT : 1 ≤ T) (ha : T ≤ a) (hb : T ≤ b) (m0 : 0 ≤ M0) (m1 : 0 ≤ M1) (m2 : 0 ≤ M2) (h : L * a * b ≤ ((b * M2 + a * M1 + M0 : Int) : A)) : L * T ≤ ((M2 + M1 + M0 : Int) : A) := by
  rcases lt_or (L * T) ((M2 + M1 + M0 : Int) : A) with w | w | w
  · grind
  · grind
  · exfalso
    have ab : 0 < a * b := Int.mul_pos (by omega) (by omega)
    have k1 := mul_pp (a := L * T - ((M2 + M1 + M0 : Int) : A)) (b := ((a * b : Int) : A)) (by grind) (cast_pos ab)
    have k2 := mul_nn (a := ((b * M2 + a * M1 + M0 : Int) : A) - L * a * b) (b := (T : A)) (by grind) (cast_nn (by omega))
    have i1 : T * b * M2 ≤ a * b * M2 := Int.mul_le_mul_of_nonneg_right (Int.mul_le_mul_of_nonneg_right ha (by omega)) m2
    have i2 : T * a * M1 ≤ b * a * M1 := Int.mul_le_mul_of_nonneg_right (Int.mul_le_mul_of_nonneg_right hb (by omega)) m1
    have i3 : T * M0 ≤ a * b * M0 := Int.mul_le_mul_of_nonneg_right (by
      have := Int.mul_le_mul_of_nonneg_left (show (1 : Int) ≤ b by omega) (show 0 ≤ a by omega)
      omega) m0
    have i4 : (b * M2 + a * M1 + M0) * T ≤ (M2 + M1 + M0) * (a * b) := by
      have e1 : (b * M2 + a * M1 + M0) * T = T * b * M2 + T * a * M1 + T * M0 := by grind
      have e2 : (M2 + M1 + M0) * (a * b) = a * b * M2 + b * a * M1 + a * b * M0 := by grind
      omega
    have k3 := cast_le (A := A) i4
    rw [cast_mul, cast_mul] at k3
    rw [cast_mul] at k1 k3
    generalize ((b * M2 + a * M1 + M0 : Int) : A) = x at *
    generalize ((M2 + M1 + M0 : Int) : A) = y at *
    grind
def bil (α β γ δ : Int) (u v s t : A) : A := (α : A) * u * s + β * u * t + γ * v * s + δ * v * t
theorem box {α β γ δ κ t Q S p q r s U1 V1 U2 V2 : Int} {u v u2 v2 : A} (ht : 1 ≤ t) (hQ : t ≤ Q) (hS : t ≤ S) (h1 : Nr Q u v p q) (h2 : Nr S u2 v2 r s) (v0 : 0 < v) (w0 : 0 < v2)
    (kα : α.natAbs ≤ κ) (kβ : β.natAbs ≤ κ) (kγ : γ.natAbs ≤ κ) (bu : Bd u U1) (bv : Bd v V1) (bu2 : Bd u2 U2) (bv2 : Bd v2 V2)
    (hc : α * p * r + β * p * s + γ * q * r + δ * q * s ≤ 0) : bil α β γ δ u v u2 v2 * ((t * t : Int) : A) ≤ ((κ * (V1 * (U2 + V2) + V2 * (U1 + V1) + V1 * V2) : Int) : A) := by
  have k0 : 0 ≤ κ := by omega
  obtain ⟨X, hX⟩ : ∃ X, X = (u * q - v * p) * Q := ⟨_, rfl⟩
  obtain ⟨Y, hY⟩ : ∃ Y, Y = (u2 * s - v2 * r) * S := ⟨_, rfl⟩
  have bX : Bd X V1 := by
    have a1 := h1.lo
    have a2 := h1.hi
    have := bv.hi
    rw [← hX] at a1 a2
    exact ⟨by grind, by grind⟩
  have bY : Bd Y V2 := by
    have a1 := h2.lo
    have a2 := h2.hi
    have := bv2.hi
    rw [← hY] at a1 a2
    exact ⟨by grind, by grind⟩
  have a0 : t * t ≤ Q * q := Int.mul_le_mul hQ (Int.le_trans hQ h1.qq) (by omega) (by omega)
  have b0 : t * t ≤ S * s := Int.mul_le_mul hS (Int.le_trans hS h2.qq) (by omega) (by omega)
  have t0 : 1 ≤ t * t := by
    have := Int.mul_le_mul ht ht (by omega) (by omega)
    omega
  have eE2 : Bd (X * ((α : A) * u2 + β * v2)) (V1 * (κ * U2 + κ * V2)) := bX.mul (((Bd.int kα).mul bu2).add ((Bd.int kβ).mul bv2))
  have eE1 : Bd (Y * ((α : A) * u + γ * v)) (V2 * (κ * U1 + κ * V1)) := bY.mul (((Bd.int kα).mul bu).add ((Bd.int kγ).mul bv))
  have eE0 : Bd (-((α : A) * X * Y)) (κ * V1 * V2) := (((Bd.int kα).mul bX).mul bY).neg
  have f2 := eE2.ht (b := S * s) (by omega)
  have f1 := eE1.ht (b := Q * q) (by omega)
  have f0 := eE0.hi
  have QS : 0 ≤ Q * S := Int.mul_nonneg (by omega) (by omega)
  have nc : v * v2 * ((α * p * r + β * p * s + γ * q * r + δ * q * s : Int) : A) * ((Q * S : Int) : A) ≤ 0 := by
    have g1 := mul_nn (a := v * v2 * ((Q * S : Int) : A)) (b := ((-(α * p * r + β * p * s + γ * q * r + δ * q * s) : Int) : A)) (mul_nn (mul_nn (Std.le_of_lt v0) (Std.le_of_lt w0)) (cast_nn QS)) (cast_nn (by omega))
    rw [cast_neg] at g1
    generalize ((α * p * r + β * p * s + γ * q * r + δ * q * s : Int) : A) = z at *
    grind
  have id : bil α β γ δ u v u2 v2 * ((Q * q : Int) : A) * ((S * s : Int) : A) = v * v2 * ((α * p * r + β * p * s + γ * q * r + δ * q * s : Int) : A) * ((Q * S : Int) : A) + X * ((α : A) * u2 + β * v2) * ((S * s : Int) : A) + Y * ((α : A) * u + γ * v) * ((Q * q : Int) : A) + -((α : A) * X * Y) := by
    subst hX hY
    unfold bil
    simp only [cast_mul, cast_add]
    grind
  have n0 : 0 ≤ κ * V1 * V2 := eE0.nn
  have n1 : 0 ≤ V2 * (κ * U1 + κ * V1) := eE1.nn
  have n2 : 0 ≤ V1 * (κ * U2 + κ * V2) := eE2.nn
  have := shrink (A := A) t0 a0 b0 n0 n1 n2 (L := bil α β γ δ u v u2 v2) (by
    rw [id]
    generalize α * p * r + β * p * s + γ * q * r + δ * q * s = zc at *
    rw [cast_add, cast_add, cast_mul (S * s) (V1 * (κ * U2 + κ * V2)), cast_mul (Q * q) (V2 * (κ * U1 + κ * V1))]
    generalize ((V2 * (κ * U1 + κ * V1) : Int) : A) = z1 at *
    generalize ((V1 * (κ * U2 + κ * V2) : Int) : A) = z2 at *
    generalize ((κ * V1 * V2 : Int) : A) = z0 at *
    grind)
  have e : V1 * (κ * U2 + κ * V2) + V2 * (κ * U1 + κ * V1) + κ * V1 * V2 = κ * (V1 * (U2 + V2) + V2 * (U1 + V1) + V1 * V2) := by grind
  rw [e] at this
  exact this
end
/-- .. and so the corners are not far apart -/
theorem box_no {d : Int} [hs : NS d] {α β γ δ κ t Q S p q r s U1 V1 U2 V2 : Int} {u v u2 v2 : Zd d} (ht : 1 ≤ t) (hQ : t ≤ Q) (hS : t ≤ S) (h1 : Nr Q u v p q) (h2 : Nr S u2 v2 r s) (v0 : 0 < v) (w0 : 0 < v2)
    (kα : α.natAbs ≤ κ) (kβ : β.natAbs ≤ κ) (kγ : γ.natAbs ≤ κ) (kδ : δ.natAbs ≤ κ) (bu : Bd u U1) (bv : Bd v V1) (bu2 : Bd u2 U2) (bv2 : Bd v2 V2) (cu : Bd (cj u) U1) (cv : Bd (cj v) V1) (cu2 : Bd (cj u2) U2) (cv2 : Bd (cj v2) V2)
    (hL : 0 < bil α β γ δ u v u2 v2) (hc : α * p * r + β * p * s + γ * q * r + δ * q * s ≤ 0) : t * t ≤ κ * (V1 * (U2 + V2) + V2 * (U1 + V1) + V1 * V2) * (κ * ((U1 + V1) * (U2 + V2))) := by
  have hb := box ht hQ hS h1 h2 v0 w0 kα kβ kγ bu bv bu2 bv2 hc
  refine norm_key (Int.mul_nonneg (by omega) (by omega)) hL hb (Std.le_refl _) ?_
  unfold bil
  simp only [cj_add, cj_mul, cj_int]
  have := ((((Bd.int (A := Zd d) kα).mul cu).mul cu2).add (((Bd.int (A := Zd d) kβ).mul cu).mul cv2)).add (((Bd.int (A := Zd d) kγ).mul cv).mul cu2) |>.add (((Bd.int (A := Zd d) kδ).mul cv).mul cv2)
  refine this.up (Int.le_of_eq ?_)
  grind
end PL
namespace PL
open Lean.Grind
def fb : Nat → Int
  | 0 => 0
  | 1 => 1
  | n + 2 => fb (n + 1) + fb n
theorem fb_nn : ∀ n, 0 ≤ fb n ∧ 0 ≤ fb (n + 1)
  | 0 => by decide
  | n + 1 => by
    obtain ⟨a, b⟩ := fb_nn n
    refine ⟨b, ?_⟩
    show 0 ≤ fb (n + 1) + fb n
    omega
theorem fb_pos : ∀ n, 1 ≤ fb (n + 1)
  | 0 => by decide
  | n + 1 => by
    have := fb_pos n
    have := (fb_nn n).1
    show 1 ≤ fb (n + 1) + fb n
    omega
theorem fb_up : ∀ n, fb n ≤ fb (n + 1)
  | 0 => by decide
  | n + 1 => by
    have := (fb_nn n).1
    show fb (n + 1) ≤ fb (n + 1) + fb n
    omega
theorem fb_mono {n m : Nat} (h : n ≤ m) : fb n ≤ fb m := by
  induction h with
  | refl => exact Int.le_refl _
  | step _ ih => exact Int.le_trans ih (fb_up _)
section
variable {A : Type} [CommRing A] [LE A] [LT A] [Std.LawfulOrderLT A] [Std.IsLinearOrder A] [OrderedRing A]
structure Cv (n : Nat) (u v : A) (P P' Q Q' : Int) (w w' : A) : Prop where
  eu : u = P * w + P' * w'
  ev : v = Q * w + Q' * w'
  det : P * Q' - P' * Q = 1 ∨ P * Q' - P' * Q = -1
  g0 : n = 0 → Q = 0 ∧ Q' = 1
  g1 : 1 ≤ n → fb n ≤ Q ∧ fb (n - 1) ≤ Q' ∧ 0 ≤ w' ∧ w' < w
  v0 : 0 < v
theorem Cv.start {u v : A} (v0 : 0 < v) : Cv 0 u v 1 0 0 1 u v := ⟨by rw [cast_one, cast_zero]; grind, by rw [cast_one, cast_zero]; grind, .inl (by decide), fun _ => ⟨rfl, rfl⟩, fun h => absurd h (by decide), v0⟩
theorem Cv.wp {n : Nat} {u v w w' : A} {P P' Q Q' : Int} (h : Cv n u v P P' Q Q' w w') (hw : w' ≠ 0) : 0 < w' := by
  rcases Nat.eq_zero_or_pos n with z | z
  · obtain ⟨a, b⟩ := h.g0 z
    have e := h.ev
    rw [a, b, cast_zero, cast_one] at e
    have := h.v0
    grind
  · obtain ⟨_, _, c, _⟩ := h.g1 z
    grind
theorem Cv.step {n : Nat} {u v w w' : A} {P P' Q Q' q : Int} (h : Cv n u v P P' Q Q' w w') (hp : IsPart q w w') : Cv (n + 1) u v (P * q + P') P (Q * q + Q') Q w' (w - q * w') := by
  have w0 := h.wp hp.ne
  have l1 : 0 ≤ w - q * w' := nn_of_mul hp.lo w0
  have l2 : w - q * w' < w' := by
    have := pos_of_mul (a := w' - (w - q * w')) (b := w') (by have := hp.hi; grind) w0
    grind
  refine ⟨?_, ?_, ?_, fun z => by omega, fun _ => ?_, h.v0⟩
  · rw [cast_add, cast_mul]
    have := h.eu
    grind
  · rw [cast_add, cast_mul]
    have := h.ev
    grind
  · have e : (P * q + P') * Q - P * (Q * q + Q') = -(P * Q' - P' * Q) := by grind
    rw [e]
    have := h.det
    omega
  · rcases Nat.eq_zero_or_pos n with z | z
    · subst z
      obtain ⟨a, b⟩ := h.g0 rfl
      subst a b
      refine ⟨?_, ?_, l1, l2⟩
      · rw [Int.zero_mul]; decide
      · decide
    · obtain ⟨a, b, c, e⟩ := h.g1 z
      have hq : 1 ≤ q := by
        rcases Int.lt_or_le q 1 with y | y
        · exfalso
          have h1 := mul_nn (a := ((-q : Int) : A)) (b := w') (cast_nn (by omega)) c
          rw [cast_neg] at h1
          grind
        · exact y
      obtain ⟨k, rfl⟩ : ∃ k, n = k + 1 := ⟨n - 1, by omega⟩
      refine ⟨?_, a, l1, l2⟩
      have n1 := (fb_nn k).2
      have : Q * 1 ≤ Q * q := Int.mul_le_mul_of_nonneg_left hq (by omega)
      show fb (k + 1) + fb k ≤ _
      simp only [Nat.add_sub_cancel] at b
      omega
theorem Cv.near {n : Nat} {u v w w' : A} {P P' Q Q' : Int} (h : Cv n u v P P' Q Q' w w') (hn : 1 ≤ n) : Nr Q u v P Q ∧ Nr Q u v (P + P') (Q + Q') ∧ fb n ≤ Q := by
  obtain ⟨a, b, c, e⟩ := h.g1 hn
  have n1 := (fb_nn n).1
  have n2 := (fb_nn (n - 1)).1
  have Q0 := cast_nn (A := A) (show 0 ≤ Q by omega)
  have Q1 := cast_nn (A := A) (show 0 ≤ Q' by omega)
  have k1 := mul_nn (a := (Q : A)) (b := w') Q0 c
  have k2 := mul_nn (a := (Q' : A)) (b := w') Q1 c
  have k3 := mul_nn (a := (Q : A)) (b := w - w') Q0 (by grind)
  have ev := h.ev
  have eu := h.eu
  have dt : ((P * Q' - P' * Q : Int) : A) = 1 ∨ ((P * Q' - P' * Q : Int) : A) = -1 := by
    rcases h.det with z | z
    · left; rw [z, cast_one]
    · right; rw [z, cast_neg, cast_one]
  have e1 : (u * Q - v * P) * Q = -(((P * Q' - P' * Q : Int) : A) * (Q * w')) := by rw [eu, ev, cast_sub, cast_mul, cast_mul]; grind
  have e2 : (u * ((Q + Q' : Int) : A) - v * ((P + P' : Int) : A)) * Q = ((P * Q' - P' * Q : Int) : A) * (Q * (w - w')) := by rw [eu, ev, cast_sub, cast_mul, cast_mul, cast_add, cast_add]; grind
  refine ⟨⟨Int.le_refl _, ?_, ?_⟩, ⟨by omega, ?_, ?_⟩, a⟩
  · rw [e1]; rcases dt with z | z <;> rw [z] <;> grind
  · rw [e1]; rcases dt with z | z <;> rw [z] <;> grind
  · rw [e2]; rcases dt with z | z <;> rw [z] <;> grind
  · rw [e2]; rcases dt with z | z <;> rw [z] <;> grind
/-- a chain that has ended stands where its number does -/
theorem Cv.ended {n : Nat} {u v w : A} {P P' Q Q' : Int} (h : Cv n u v P P' Q Q' w 0) : 1 ≤ n ∧ u = P * w ∧ v = Q * w ∧ 1 ≤ Q ∧ 0 < w := by
  have hn : 1 ≤ n := by
    rcases Nat.eq_zero_or_pos n with z | z
    · obtain ⟨a, b⟩ := h.g0 z
      have := h.ev
      rw [a, b, cast_zero, cast_one] at this
      have := h.v0
      grind
    · exact z
  obtain ⟨a, b, c, e⟩ := h.g1 hn
  obtain ⟨k, rfl⟩ : ∃ k, n = k + 1 := ⟨n - 1, by omega⟩
  have := fb_pos k
  exact ⟨hn, by have := h.eu; grind, by have := h.ev; grind, by omega, e⟩
/-- of whole numbers: it has not come far -/
theorem Cv.ended_few {n : Nat} {p q : Int} {w : A} {P P' Q Q' : Int} (h : Cv n (p : A) (q : A) P P' Q Q' w 0) : fb n ≤ q := by
  obtain ⟨hn, e1, e2, hQ, w0⟩ := h.ended
  obtain ⟨D, hD, hd⟩ : ∃ D : Int, (D = 1 ∨ D = -1) ∧ D * (P * Q' - P' * Q) = 1 := by
    rcases h.det with z | z
    · exact ⟨1, .inl rfl, by rw [z]; decide⟩
    · exact ⟨-1, .inr rfl, by rw [z]; decide⟩
  have ew : w = ((D * (Q' * p - P' * q) : Int) : A) := by
    have k : w * ((D * (P * Q' - P' * Q) : Int) : A) = ((D * (Q' * p - P' * q) : Int) : A) := by
      rw [cast_mul, cast_mul, cast_sub, cast_sub, cast_mul, cast_mul, cast_mul, cast_mul, e1, e2]; grind
    rw [hd, cast_one] at k
    grind
  have w1 : 1 ≤ D * (Q' * p - P' * q) := by
    rcases Int.lt_or_le 0 (D * (Q' * p - P' * q)) with z | z
    · omega
    · have := cast_le (A := A) z
      rw [cast_zero] at this
      grind
  obtain ⟨a, _⟩ := h.g1 hn
  rw [ew, ← cast_mul] at e2
  have e3 := cast_inj (A := A) e2
  have := Int.mul_le_mul_of_nonneg_left w1 (show 0 ≤ Q by omega)
  omega
end
end PL
namespace PL
open Lean.Grind
structure F4 where
  a : Int
  b : Int
  c : Int
  d : Int
namespace F4
/-- at whole numbers -/
def at_ (f : F4) (p q r s : Int) : Int := f.a * p * r + f.b * p * s + f.c * q * r + f.d * q * s
def sub (f g : F4) (n : Int) : F4 := ⟨f.a - n * g.a, f.b - n * g.b, f.c - n * g.c, f.d - n * g.d⟩
def mul (f : F4) (n : Int) : F4 := ⟨n * f.a, n * f.b, n * f.c, n * f.d⟩
def tr (f : F4) : F4 := ⟨f.a, f.c, f.b, f.d⟩
def le (f : F4) (κ : Int) : Prop := f.a.natAbs ≤ κ ∧ f.b.natAbs ≤ κ ∧ f.c.natAbs ≤ κ ∧ f.d.natAbs ≤ κ
def ev {A : Type} [CommRing A] (f : F4) (u v s t : A) : A := bil f.a f.b f.c f.d u v s t
theorem tr_at (f : F4) (p q r s : Int) : f.tr.at_ r s p q = f.at_ p q r s := by unfold at_ tr; grind
theorem sub_at (f g : F4) (n p q r s : Int) : (f.sub g n).at_ p q r s = f.at_ p q r s - n * g.at_ p q r s := by unfold at_ sub; grind
theorem mul_at (f : F4) (n p q r s : Int) : (f.mul n).at_ p q r s = n * f.at_ p q r s := by unfold at_ mul; grind
theorem add_at (f : F4) (p p' q q' r s : Int) : f.at_ (p + p') (q + q') r s = f.at_ p q r s + f.at_ p' q' r s := by unfold at_; grind
theorem add_at2 (f : F4) (p q r r' s s' : Int) : f.at_ p q (r + r') (s + s') = f.at_ p q r s + f.at_ p q r' s' := by unfold at_; grind
theorem mul_at1 (f : F4) (n p q r s p' q' : Int) : f.at_ (p * n + p') (q * n + q') r s = f.at_ p q r s * n + f.at_ p' q' r s := by unfold at_; grind
theorem mul_at2 (f : F4) (n p q r s r' s' : Int) : f.at_ p q (r * n + r') (s * n + s') = f.at_ p q r s * n + f.at_ p q r' s' := by unfold at_; grind
theorem sc_at (f : F4) (n p q r s : Int) : f.at_ p q (n * r) (n * s) = n * f.at_ p q r s := by unfold at_; grind
section
variable {A : Type} [CommRing A] [LE A] [LT A] [Std.LawfulOrderLT A] [Std.IsLinearOrder A] [OrderedRing A]
theorem tr_ev (f : F4) (u v s t : A) : f.tr.ev s t u v = f.ev u v s t := by unfold ev tr bil; grind
theorem sub_ev (f g : F4) (n : Int) (u v s t : A) : (f.sub g n).ev u v s t = f.ev u v s t - n * g.ev u v s t := by
  unfold ev sub bil
  simp only [cast_sub, cast_mul]
  grind
theorem mul_ev (f : F4) (n : Int) (u v s t : A) : (f.mul n).ev u v s t = n * f.ev u v s t := by
  unfold ev mul bil
  simp only [cast_mul]
  grind
end
theorem le.up {f : F4} {κ κ' : Int} (h : f.le κ) (hk : κ ≤ κ') : f.le κ' := by obtain ⟨a, b, c, d⟩ := h; exact ⟨by omega, by omega, by omega, by omega⟩
theorem le.mul {f : F4} {κ : Int} (h : f.le κ) {n : Int} (hn : n = 1 ∨ n = -1) : (f.mul n).le κ := by
  obtain ⟨a, b, c, d⟩ := h
  rcases hn with rfl | rfl <;> exact ⟨by simp [F4.mul]; omega, by simp [F4.mul]; omega, by simp [F4.mul]; omega, by simp [F4.mul]; omega⟩
theorem le.tr {f : F4} {κ : Int} (h : f.le κ) : f.tr.le κ := ⟨h.1, h.2.2.1, h.2.1, h.2.2.2⟩
theorem le.sub {f g : F4} {κ μ n ν : Int} (h : f.le κ) (k : g.le μ) (hn : n.natAbs ≤ ν) : (f.sub g n).le (κ + ν * μ) := by
  have m : ∀ y x : Int, (y.natAbs : Int) ≤ κ → (x.natAbs : Int) ≤ μ → ((y - n * x).natAbs : Int) ≤ κ + ν * μ := fun y x hy hx => by
    have : ((n * x).natAbs : Int) ≤ ν * μ := by
      rw [Int.natAbs_mul, Int.natCast_mul]
      exact Int.mul_le_mul hn hx (by omega) (by omega)
    clear hx hn
    generalize n * x = z at *
    generalize ν * μ = k at *
    omega
  exact ⟨m _ _ h.1 k.1, m _ _ h.2.1 k.2.1, m _ _ h.2.2.1 k.2.2.1, m _ _ h.2.2.2 k.2.2.2⟩
end F4
theorem fdiv_of {σ t b N : Int} (hσ : σ = 1 ∨ σ = -1) (h1 : 0 < σ * b) (h2 : 0 < σ * (t - N * b)) (h3 : 0 < σ * ((N + 1) * b - t)) : t.fdiv b = N := by
  have pos : ∀ {t b : Int}, 0 < b → 0 < t - N * b → 0 < (N + 1) * b - t → t.fdiv b = N := fun {t b} a1 a2 a3 => by
    have g1 := (le_fdiv_pos (x := t) (y := N) a1).mpr (by omega)
    have g2 : ¬ N + 1 ≤ t.fdiv b := fun w => by have := (le_fdiv_pos (x := t) (y := N + 1) a1).mp w; omega
    omega
  rcases hσ with rfl | rfl
  · exact pos (by omega) (by omega) (by omega)
  · rw [← Int.neg_fdiv_neg]
    exact pos (by omega) (by rw [Int.mul_neg]; omega) (by rw [Int.mul_neg]; omega)
/-- all corners within one and the same -/
theorem all_in {σ N : Int} (hσ : σ = 1 ∨ σ = -1) {c0 : Int × Int} {r : List (Int × Int)} (h : ∀ c ∈ c0 :: r, 0 < σ * c.2 ∧ 0 < σ * (c.1 - N * c.2) ∧ 0 < σ * ((N + 1) * c.2 - c.1)) : belowAll (c0 :: r) = some N := by
  have ss : σ * σ = 1 := by rcases hσ with rfl | rfl <;> rfl
  have pp : ∀ {x y : Int}, 0 < σ * x → 0 < σ * y → 0 < x * y := fun {x y} h1 h2 => by
    have := Int.mul_pos h1 h2
    have e : σ * x * (σ * y) = σ * σ * (x * y) := by grind
    rw [e, ss] at this
    omega
  have fd : ∀ c ∈ c0 :: r, N = c.1.fdiv c.2 := fun c hc => by
    obtain ⟨a, b, d⟩ := h c hc
    exact (fdiv_of hσ a b d).symm
  refine belowAll_spec.mpr ⟨fun c hc => pp (h c hc).1 (h c0 (by simp)).1, ⟨c0, by simp, fd c0 (by simp)⟩, fun c hc => Int.le_of_eq (fd c hc), fun c hc w => ?_⟩
  obtain ⟨a, b, d⟩ := h c hc
  have := pp d a
  have e : ((N + 1) * c.2 - c.1) * c.2 = -((c.1 - (N + 1) * c.2) * c.2) := by grind
  rw [e] at this
  omega
section
variable {d : Int} [hs : NS d]
/-- sizes of two numbers, and how far their parts must be taken that all forms f with coefficients to κ keep their sign -/
structure Sz2 (u v s t : Zd d) (κ T : Int) : Prop where
  ex : ∃ U1 V1 U2 V2 : Int, Bd u U1 ∧ Bd v V1 ∧ Bd s U2 ∧ Bd t V2 ∧ Bd (cj u) U1 ∧ Bd (cj v) V1 ∧ Bd (cj s) U2 ∧ Bd (cj t) V2 ∧ κ * (V1 * (U2 + V2) + V2 * (U1 + V1) + V1 * V2) * (κ * ((U1 + V1) * (U2 + V2))) < T * T
theorem Sz2.tr {u v s t : Zd d} {κ T : Int} (h : Sz2 u v s t κ T) : Sz2 s t u v κ T := by
  obtain ⟨U1, V1, U2, V2, a1, a2, a3, a4, a5, a6, a7, a8, a9⟩ := h
  refine ⟨U2, V2, U1, V1, a3, a4, a1, a2, a7, a8, a5, a6, Int.lt_of_le_of_lt (Int.le_of_eq ?_) a9⟩
  grind
theorem keeps {f : F4} {κ T Q S p q r s : Int} {u v u2 v2 : Zd d} (z : Sz2 u v u2 v2 κ T) (hf : f.le κ) (ht : 1 ≤ T) (hQ : T ≤ Q) (hS : T ≤ S) (h1 : Nr Q u v p q) (h2 : Nr S u2 v2 r s) (v0 : 0 < v) (w0 : 0 < v2) (hL : 0 < f.ev u v u2 v2) : 0 < f.at_ p q r s := by
  obtain ⟨U1, V1, U2, V2, a1, a2, a3, a4, a5, a6, a7, a8, a9⟩ := z
  obtain ⟨k1, k2, k3, k4⟩ := hf
  rcases Int.lt_or_le 0 (f.at_ p q r s) with w | w
  · exact w
  · have := box_no ht hQ hS h1 h2 v0 w0 k1 k2 k3 k4 a1 a2 a3 a4 a5 a6 a7 a8 hL w
    omega
/-- the value's next part is N, and the forms that tell so are bounded -/
structure Nxt (f g : F4) (u v s t : Zd d) (N κ : Int) : Prop where
  ex : ∃ σ : Int, (σ = 1 ∨ σ = -1) ∧ 0 < (g.mul σ).ev u v s t ∧ 0 < ((f.sub g N).mul σ).ev u v s t ∧ 0 < ((f.sub g (N + 1)).mul (-σ)).ev u v s t
  l1 : g.le κ
  l2 : (f.sub g N).le κ
  l3 : (f.sub g (N + 1)).le κ
theorem Nxt.tr {f g : F4} {u v s t : Zd d} {N κ : Int} (h : Nxt f g u v s t N κ) : Nxt f.tr g.tr s t u v N κ := by
  obtain ⟨⟨σ, hσ, a, b, c⟩, l1, l2, l3⟩ := h
  refine ⟨⟨σ, hσ, ?_, ?_, ?_⟩, l1.tr, l2.tr, l3.tr⟩
  · rw [← F4.tr_ev] at a; exact a
  · rw [← F4.tr_ev] at b; exact b
  · rw [← F4.tr_ev] at c; exact c
theorem Nxt.corner {f g : F4} {u v u2 v2 : Zd d} {N κ T Q S p q r s : Int} (h : Nxt f g u v u2 v2 N κ) (z : Sz2 u v u2 v2 κ T) (ht : 1 ≤ T) (hQ : T ≤ Q) (hS : T ≤ S) (v0 : 0 < v) (w0 : 0 < v2) :
    ∃ σ : Int, (σ = 1 ∨ σ = -1) ∧ ∀ p q r s, Nr Q u v p q → Nr S u2 v2 r s → 0 < σ * g.at_ p q r s ∧ 0 < σ * (f.at_ p q r s - N * g.at_ p q r s) ∧ 0 < σ * ((N + 1) * g.at_ p q r s - f.at_ p q r s) := by
  obtain ⟨⟨σ, hσ, a, b, c⟩, l1, l2, l3⟩ := h
  refine ⟨σ, hσ, fun p q r s h1 h2 => ?_⟩
  have k1 := keeps z (l1.mul hσ) ht hQ hS h1 h2 v0 w0 a
  have k2 := keeps z (l2.mul hσ) ht hQ hS h1 h2 v0 w0 b
  have k3 := keeps z (l3.mul (n := -σ) (by omega)) ht hQ hS h1 h2 v0 w0 c
  rw [F4.mul_at] at k1
  rw [F4.mul_at, F4.sub_at] at k2 k3
  refine ⟨k1, k2, ?_⟩
  have e : -σ * (f.at_ p q r s - (N + 1) * g.at_ p q r s) = σ * ((N + 1) * g.at_ p q r s - f.at_ p q r s) := by grind
  rw [e] at k3
  exact k3
/-- eight numbers: sure -/
theorem sure8_of {f g : F4} {u v u2 v2 w w' z z' : Zd d} {N κ T P P' Q Q' R R' S S' : Int} {m0 m1 : Nat} (h : Nxt f g u v u2 v2 N κ) (hz : Sz2 u v u2 v2 κ T) (ht : 1 ≤ T) (h0 : T ≤ fb m0) (h1 : T ≤ fb m1) (c1 : Cv m0 u v P P' Q Q' w w') (c2 : Cv m1 u2 v2 R R' S S' z z') :
    sure8 m0 m1 (f.at_ P Q R S) (f.at_ P Q R' S') (f.at_ P' Q' R S) (f.at_ P' Q' R' S') (g.at_ P Q R S) (g.at_ P Q R' S') (g.at_ P' Q' R S) (g.at_ P' Q' R' S') = some N := by
  have p0 : 0 < m0 := by
    rcases Nat.eq_zero_or_pos m0 with e | e
    · rw [e] at h0; have : fb 0 = 0 := rfl; omega
    · exact e
  have p1 : 0 < m1 := by
    rcases Nat.eq_zero_or_pos m1 with e | e
    · rw [e] at h1; have : fb 0 = 0 := rfl; omega
    · exact e
  obtain ⟨n1, n2, q1⟩ := c1.near p0
  obtain ⟨n3, n4, q2⟩ := c2.near p1
  obtain ⟨σ, hσ, key⟩ := h.corner hz ht (Q := Q) (S := S) (p := 0) (q := 0) (r := 0) (s := 0) (by omega) (by omega) c1.v0 c2.v0
  unfold sure8
  rw [if_pos ⟨p0, p1⟩]
  refine all_in hσ fun c hc => ?_
  simp only [List.mem_cons, List.not_mem_nil, or_false] at hc
  rcases hc with rfl | rfl | rfl | rfl
  · exact key _ _ _ _ n1 n3
  · have := key _ _ _ _ n1 n4
    rw [F4.add_at2, F4.add_at2] at this
    exact this
  · have := key _ _ _ _ n2 n3
    rw [F4.add_at, F4.add_at] at this
    exact this
  · have := key _ _ _ _ n2 n4
    rw [F4.add_at, F4.add_at, F4.add_at2, F4.add_at2, F4.add_at2, F4.add_at2] at this
    have e1 : ∀ x y z w : Int, x + y + (z + w) = x + y + z + w := fun x y z w => by omega
    rw [e1, e1] at this
    exact this
/-- four numbers: sure -/
theorem sure4_of {f g : F4} {u v w w' : Zd d} {N κ T P P' Q Q' r s : Int} {n : Nat} {e : Zd d} (h : Nxt f g u v (r * e) (s * e) N κ) (hz : Sz2 u v (r * e) (s * e) κ T) (ht : 1 ≤ T) (h0 : T ≤ fb n) (hs1 : 1 ≤ s) (he : 0 < e) (c1 : Cv n u v P P' Q Q' w w') :
    sure4 (decide (0 < n)) (f.at_ P Q r s) (f.at_ P' Q' r s) (g.at_ P Q r s) (g.at_ P' Q' r s) = some N := by
  have p0 : 0 < n := by
    rcases Nat.eq_zero_or_pos n with e | e
    · rw [e] at h0; have : fb 0 = 0 := rfl; omega
    · exact e
  obtain ⟨n1, n2, q1⟩ := c1.near p0
  have w0 : (0 : Zd d) < s * e := mul_pp (cast_pos (by omega)) he
  have nr : Nr T (r * e : Zd d) (s * e) (T * r) (T * s) := by
    have z : ((r : Zd d) * e * ((T * s : Int) : Zd d) - s * e * ((T * r : Int) : Zd d)) * T = 0 := by rw [cast_mul, cast_mul]; grind
    have := Int.mul_le_mul_of_nonneg_left hs1 (show 0 ≤ T by omega)
    exact ⟨by omega, by rw [z]; grind, by rw [z]; grind⟩
  obtain ⟨σ, hσ, key⟩ := h.corner hz ht (Q := Q) (S := T) (p := 0) (q := 0) (r := 0) (s := 0) (by omega) (Int.le_refl _) c1.v0 w0
  have key2 : ∀ p q, Nr Q u v p q → 0 < σ * g.at_ p q r s ∧ 0 < σ * (f.at_ p q r s - N * g.at_ p q r s) ∧ 0 < σ * ((N + 1) * g.at_ p q r s - f.at_ p q r s) := fun p q hn => by
    obtain ⟨k1, k2, k3⟩ := key p q _ _ hn nr
    rw [F4.sc_at] at k1 k2 k3
    rw [F4.sc_at] at k2 k3
    have cn : ∀ {x : Int}, 0 < T * x → 0 < x := fun {x} hx => by
      rcases Int.lt_or_le 0 x with y | y
      · exact y
      · have := Int.mul_nonpos_of_nonneg_of_nonpos (show 0 ≤ T by omega) y
        omega
    generalize f.at_ p q r s = x at *
    generalize g.at_ p q r s = y at *
    refine ⟨cn ?_, cn ?_, cn ?_⟩
    · have e : T * (σ * y) = σ * (T * y) := by grind
      rw [e]; exact k1
    · have e : T * (σ * (x - N * y)) = σ * (T * x - N * (T * y)) := by grind
      rw [e]; exact k2
    · have e : T * (σ * ((N + 1) * y - x)) = σ * ((N + 1) * (T * y) - T * x) := by grind
      rw [e]; exact k3
  unfold sure4
  rw [if_pos (decide_eq_true p0)]
  refine all_in hσ fun c hc => ?_
  simp only [List.mem_cons, List.not_mem_nil, or_false] at hc
  rcases hc with rfl | rfl
  · exact key2 _ _ n1
  · have := key2 _ _ n2
    rw [F4.add_at, F4.add_at] at this
    exact this
end
end PL
namespace PL
open Lean.Grind
theorem Told.tkm {n : Nat} {r r' : R} {m m' : Int} {ans : Ans} (h : Told n r m r' m' ans) : (r'.tk : Int) + m' = r.tk + m := by
  induction h with
  | @etWait _ _ _ _ _ _ _ _ _ _ _ x y _ w _ _ _ _ _ _ _ ih => cases w <;> simp only [cond, R.tk] at * <;> omega
  | @etNo _ _ _ _ _ _ _ _ _ _ _ x y _ w _ _ _ _ _ _ _ ih => cases w <;> simp only [cond, R.tk] at * <;> omega
  | @etFour _ _ _ _ _ _ _ _ _ _ _ x y _ w _ _ _ _ _ _ _ _ _ _ _ _ _ ih1 ih2 => cases w <;> simp only [cond, R.tk] at * <;> omega
  | @etFix _ _ _ _ _ _ _ _ _ _ _ x y _ w _ _ _ _ _ _ _ _ _ _ _ _ _ _ _ _ _ ih1 ih2 => cases w <;> simp only [cond, R.tk] at * <;> omega
  | _ => simp only [R.tk] at * <;> omega
section
variable {d : Int} [hs : NS d]
def Lk (x : R) (u v : Zd d) : Prop := x.kd = .leaf ∧ ((∃ k t s b f, x = .root k t s b f) ∨ ∃ p q : Int, u = (p : Zd d) ∧ v = (q : Zd d))
theorem leaf_told {i : Nat} {x x' : R} {m m2 : Int} {ans : Ans} {u v : Zd d} (h : Lk x u v) (ht : Told i x m x' m2 ans) : (ans = .waits ∧ m = 0) ∨ (ans = .fin ∧ x' = x ∧ m2 = m ∧ ∃ p q : Int, u = (p : Zd d) ∧ v = (q : Zd d)) ∨ (∃ q, ans = .part q ∧ Lk x' u v ∧ x'.tk = x.tk + 1 ∧ m2 = m - 1) := by
  obtain ⟨hk, hor⟩ := h
  have rt : ∀ (P : Prop), x.kd = .leaf → (∀ k t s b f, x ≠ .root k t s b f) → ((∃ p q : Int, u = (p : Zd d) ∧ v = (q : Zd d)) → P) → P := fun P _ hn k => by
    rcases hor with ⟨a, b, c, e, f, z⟩ | z
    · exact absurd z (hn a b c e f)
    · exact k z
  cases ht with
  | frEnd => exact .inr (.inl ⟨rfl, rfl, rfl, rt _ rfl (fun _ _ _ _ _ z => by cases z) id⟩)
  | frWait => exact .inl ⟨rfl, rfl⟩
  | frPart => exact .inr (.inr ⟨_, rfl, ⟨rfl, .inr (rt _ rfl (fun _ _ _ _ _ z => by cases z) id)⟩, rfl, rfl⟩)
  | rtWait => exact .inl ⟨rfl, rfl⟩
  | rtPart => exact .inr (.inr ⟨_, rfl, ⟨rfl, .inl ⟨_, _, _, _, _, rfl⟩⟩, rfl, rfl⟩)
  | ruEnd => exact .inr (.inl ⟨rfl, rfl, rfl, rt _ rfl (fun _ _ _ _ _ z => by cases z) id⟩)
  | ruWait => exact .inl ⟨rfl, rfl⟩
  | ruPart => exact .inr (.inr ⟨_, rfl, ⟨rfl, .inr (rt _ rfl (fun _ _ _ _ _ z => by cases z) id)⟩, rfl, rfl⟩)
  | _ => cases hk
/-- a leaf's reader beside its number -/
structure Lv (x : R) (u v : Zd d) (P P' Q Q' : Int) (w w' : Zd d) : Prop where
  cv : Cv x.tk u v P P' Q Q' w w'
  sm : Sem (Zd d) (decide (0 < x.tk)) x w w'
  lk : Lk x u v
theorem Lv.part {i : Nat} {x x' : R} {m m2 : Int} {q : Int} {u v w w' : Zd d} {P P' Q Q' : Int} (h : Lv x u v P P' Q Q' w w') (ht : Told i x m x' m2 (.part q)) : Lv x' u v (P * q + P') P (Q * q + Q') Q w' (w - q * w') ∧ x'.tk = x.tk + 1 ∧ m2 = m - 1 := by
  obtain ⟨hp, hs2⟩ := sound ht h.sm
  rcases leaf_told h.lk ht with ⟨z, _⟩ | ⟨z, _⟩ | ⟨q', z, h1, h2, h3⟩
  · cases z
  · cases z
  · cases z
    refine ⟨⟨by rw [h2]; exact h.cv.step hp, ?_, h1⟩, h2, h3⟩
    rw [h2, decide_eq_true (Nat.succ_pos _)]
    exact hs2
/-- a four over a leaf: the forms f over g at the leaf's number and r over s -/
inductive E4 (f g : F4) (u v : Zd d) (r s : Int) : R → Prop
  | four {bg : Bool} {x : R} {P P' Q Q' : Int} {w w' : Zd d} : Lv x u v P P' Q Q' w w' → E4 f g u v r s (.four (f.at_ P Q r s) (f.at_ P' Q' r s) (g.at_ P Q r s) (g.at_ P' Q' r s) (decide (0 < x.tk)) bg x)
  | fourX {x : R} {t b : Int} {bg : Bool} : E4 f g u v r s (.fourX x t b bg)
/-- one that waits waits for want of parts -/
structure Big (f g : F4) (u v s t : Zd d) (n0 : Nat) : Prop where
  ex : ∃ N κ T : Int, Nxt f g u v s t N κ ∧ Sz2 u v s t κ T ∧ 1 ≤ T ∧ T ≤ fb n0
theorem Big.tr {f g : F4} {u v s t : Zd d} {n0 : Nat} (h : Big f g u v s t n0) : Big f.tr g.tr s t u v n0 := by
  obtain ⟨N, κ, T, a, b, c, e⟩ := h
  exact ⟨N, κ, T, a.tr, b.tr, c, e⟩
theorem Big.up {f g : F4} {u v s t : Zd d} {n0 n1 : Nat} (h : Big f g u v s t n0) (hn : n0 ≤ n1) : Big f g u v s t n1 := by
  obtain ⟨N, κ, T, a, b, c, e⟩ := h
  exact ⟨N, κ, T, a, b, c, Int.le_trans e (fb_mono hn)⟩
theorem fixed_told {n : Nat} {t b : Int} {g : Bool} {m m' : Int} {r' : R} {ans : Ans} (ht : Told n (.fixed t b g) m r' m' ans) : ans ≠ .waits := by cases ht <;> simp
theorem pg4 {n : Nat} {rd rd' : R} {m m' : Int} {ans : Ans} (ht : Told n rd m rd' m' ans) : ∀ {f g : F4} {u v e : Zd d} {r s : Int} {n0 : Nat}, E4 f g u v r s rd →
    (ans = .waits → 1 ≤ s → 0 < e → Big f g u v (r * e) (s * e) n0 → (rd.tk : Int) + m < n0) ∧ (∀ q, ans = .part q → E4 g (f.sub g q) u v r s rd') := by
  induction ht with
  | @foTell a b c d' rdy bg x m q _ _ _ _ hs' =>
    intro f g u v e r s n0 h
    cases h with
    | four hl =>
      refine ⟨fun z => (by cases z), fun q' z => ?_⟩
      cases z
      have := E4.four (f := g) (g := f.sub g q) (bg := true) (r := r) (s := s) hl
      rw [F4.sub_at, F4.sub_at] at this
      exact this
  | @foWait a b c d' rdy bg x m i x' m' _ _ _ _ hsn ht _ =>
    intro f g u v e r s n0 h
    cases h with
    | four hl =>
      refine ⟨fun _ h1 h2 hb => ?_, fun q z => by cases z⟩
      obtain ⟨N, κ, T, a1, a2, a3, a4⟩ := hb
      rcases leaf_told hl.lk ht with ⟨_, z⟩ | ⟨z, _⟩ | ⟨q', z, _⟩
      · subst z
        simp only [R.tk]
        rcases Nat.lt_or_ge x.tk n0 with y | y
        · omega
        · rw [sure4_of a1 a2 a3 (Int.le_trans a4 (fb_mono y)) h1 h2 hl.cv] at hsn
          cases hsn
      · cases z
      · cases z
  | foNo => intro f g u v e r s n0 h; exact ⟨fun z => (by cases z), fun q z => by cases z⟩
  | foEnd _ _ _ _ _ _ hf _ _ =>
    intro f g u v e r s n0 h
    exact ⟨fun z => absurd z (fixed_told hf), fun q z => .fourX⟩
  | @foIn a b c d' rdy bg x m i x' m1 q n r' m' ans _ _ _ _ _ ht _ ht2 _ ih =>
    intro f g u v e r s n0 h
    cases h with
    | four hl =>
      obtain ⟨hl2, tk, hm⟩ := hl.part ht
      have key := E4.four (f := f) (g := g) (bg := bg) (r := r) (s := s) hl2
      rw [F4.mul_at1, F4.mul_at1, tk, decide_eq_true (Nat.succ_pos _)] at key
      obtain ⟨k1, k2⟩ := ih (e := e) (n0 := n0) key
      refine ⟨fun z h1 h2 hb => ?_, k2⟩
      have := k1 z h1 h2 hb
      simp only [R.tk] at this ⊢
      omega
  | fxX ht => 
    intro f g u v e r s n0 h
    exact ⟨fun z => absurd z (fixed_told ht), fun q z => .fourX⟩
  | _ =>
    intro f g u v e r s n0 h
    cases h
end
end PL
namespace PL
open Lean.Grind
section
variable {d : Int} [hs : NS d]
/-- an eight over leaves; kd: how many parts a leaf has that ends -/
inductive Ei8 (kd : Nat) (f g : F4) (u v u2 v2 : Zd d) : R → Prop
  | eight {bg : Bool} {x y : R} {P P' Q Q' : Int} {w w' : Zd d} {R R' S S' : Int} {z z' : Zd d} : Lv x u v P P' Q Q' w w' → Lv y u2 v2 R R' S S' z z' → y.tk ≤ x.tk → x.tk ≤ y.tk + 1 →
      Ei8 kd f g u v u2 v2 (.eight (f.at_ P Q R S) (f.at_ P Q R' S') (f.at_ P' Q' R S) (f.at_ P' Q' R' S') (g.at_ P Q R S) (g.at_ P Q R' S') (g.at_ P' Q' R S) (g.at_ P' Q' R' S') x.tk y.tk bg x y)
  | fT {dead fr : R} {r s : Int} {e : Zd d} : 1 ≤ s → 0 < e → u2 = r * e → v2 = s * e → dead.tk ≤ kd → E4 f g u v r s fr → Ei8 kd f g u v u2 v2 (.eightF true dead fr)
  | fF {dead fr : R} {r s : Int} {e : Zd d} : 1 ≤ s → 0 < e → u = r * e → v = s * e → dead.tk ≤ kd → E4 f.tr g.tr u2 v2 r s fr → Ei8 kd f g u v u2 v2 (.eightF false dead fr)
  | eX {x y : R} {t b : Int} {bg : Bool} : Ei8 kd f g u v u2 v2 (.eightX x y t b bg)
theorem few_of {kd n : Nat} {q : Int} (h : fb n ≤ q) (hq : q < fb (kd + 1)) : n ≤ kd := by
  rcases Nat.lt_or_ge kd n with w | w
  · have := fb_mono (show kd + 1 ≤ n from w)
    omega
  · exact w
theorem Lv.fin {i : Nat} {x x' : R} {m m2 : Int} {u v w w' : Zd d} {P P' Q Q' : Int} {kd : Nat} (h : Lv x u v P P' Q Q' w w') (ht : Told i x m x' m2 .fin) (hkd : ∀ q : Int, v = (q : Zd d) → q < fb (kd + 1)) : x' = x ∧ m2 = m ∧ x.tk ≤ kd ∧ u = P * w ∧ v = Q * w ∧ 1 ≤ Q ∧ 0 < w := by
  obtain ⟨v0, _⟩ := sound ht h.sm
  subst v0
  obtain ⟨h1, h2, h3, h4, h5⟩ := h.cv.ended
  rcases leaf_told h.lk ht with ⟨z, _⟩ | ⟨_, k1, k2, p, q, e1, e2⟩ | ⟨q', z, _⟩
  · cases z
  · refine ⟨k1, k2, ?_, h2, h3, h4, h5⟩
    have cv := h.cv
    rw [e1, e2] at cv
    exact few_of cv.ended_few (hkd q e2)
  · cases z
theorem pg8 {n : Nat} {rd rd' : R} {m m' : Int} {ans : Ans} (ht : Told n rd m rd' m' ans) : ∀ {f g : F4} {u v u2 v2 : Zd d} {kd n0 : Nat}, Ei8 kd f g u v u2 v2 rd → (∀ q : Int, v = (q : Zd d) → q < fb (kd + 1)) → (∀ q : Int, v2 = (q : Zd d) → q < fb (kd + 1)) →
    (ans = .waits → Big f g u v u2 v2 n0 → (rd.tk : Int) + m ≤ 2 * n0 + kd) ∧ (∀ q, ans = .part q → Ei8 kd g (f.sub g q) u v u2 v2 rd') := by
  induction ht with
  | @etTell a b c d' e f' g' h m0 m1 bg x y m q _ hs' =>
    intro f g u v u2 v2 kd n0 hE _ _
    cases hE with
    | eight h1 h2 h3 h4 =>
      refine ⟨fun z => (by cases z), fun q' z => ?_⟩
      cases z
      have := Ei8.eight (kd := kd) (f := g) (g := f.sub g q) (bg := true) h1 h2 h3 h4
      rw [F4.sub_at, F4.sub_at, F4.sub_at, F4.sub_at] at this
      exact this
  | @etWait a b c d' e f' g' h m0 m1 bg x y m w i z m' _ hsn hw ht _ =>
    intro f g u v u2 v2 kd n0 hE _ _
    cases hE with
    | eight h1 h2 h3 h4 =>
      refine ⟨fun _ hb => ?_, fun q z => by cases z⟩
      obtain ⟨N, κ, T, a1, a2, a3, a4⟩ := hb
      have m0 : m = 0 := by
        cases w with
        | true =>
          rcases leaf_told h2.lk ht with ⟨_, k⟩ | ⟨k, _⟩ | ⟨q', k, _⟩
          · exact k
          · cases k
          · cases k
        | false =>
          rcases leaf_told h1.lk ht with ⟨_, k⟩ | ⟨k, _⟩ | ⟨q', k, _⟩
          · exact k
          · cases k
          · cases k
      subst m0
      simp only [R.tk]
      rcases Nat.lt_or_ge y.tk n0 with k | k
      · omega
      · rw [sure8_of a1 a2 a3 (Int.le_trans a4 (fb_mono (Nat.le_trans k h3))) (Int.le_trans a4 (fb_mono k)) h1.cv h2.cv] at hsn
        cases hsn
  | etNo => intro f g u v u2 v2 kd n0 hE _ _; exact ⟨fun z => (by cases z), fun q z => by cases z⟩
  | @etFour a b c d' e f' g' h m0 m1 bg x y m w i z m2 n fr m' ans _ _ hw ht _ ht2 _ _ =>
    intro f g u v u2 v2 kd n0 hE k1 k2
    cases hE with
    | @eight _ _ _ P P' Q Q' w1 w1' R1 R' S S' z1 z1' h1 h2 h3 h4 =>
      cases w with
      | true =>
        obtain ⟨rfl, rfl, b1, b2, b3, b4, b5⟩ := h2.fin ht k2
        obtain ⟨c1, c2⟩ := pg4 ht2 (n0 := n0) (E4.four (f := f) (g := g) (bg := bg) h1)
        refine ⟨fun e hb => ?_, fun q e => .fT b4 b5 b2 b3 b1 (c2 q e)⟩
        rw [b2, b3] at hb
        have := c1 e b4 b5 hb
        simp only [R.tk] at this ⊢
        simp only [cond] at this
        omega
      | false =>
        obtain ⟨rfl, rfl, b1, b2, b3, b4, b5⟩ := h1.fin ht k1
        have key := E4.four (f := f.tr) (g := g.tr) (r := P) (s := Q) (bg := bg) h2
        rw [F4.tr_at, F4.tr_at, F4.tr_at, F4.tr_at] at key
        obtain ⟨c1, c2⟩ := pg4 ht2 (n0 := n0) key
        refine ⟨fun e hb => ?_, fun q e => .fF b4 b5 b2 b3 b1 (c2 q e)⟩
        have hb2 := hb.tr
        rw [b2, b3] at hb2
        have := c1 e b4 b5 hb2
        simp only [R.tk] at this ⊢
        simp only [cond] at this
        omega
  | etFix _ _ _ _ _ _ hf _ _ =>
    intro f g u v u2 v2 kd n0 hE _ _
    exact ⟨fun z => absurd z (fixed_told hf), fun q z => .eX⟩
  | @etIn0 a b c d' e f' g' h m0 m1 bg x y m i z m2 q n r' m' ans _ _ hw ht _ ht2 _ ih =>
    intro f g u v u2 v2 kd n0 hE k1 k2
    cases hE with
    | eight h1 h2 h3 h4 =>
      obtain ⟨hl2, tk, hm⟩ := h1.part ht
      have key := Ei8.eight (kd := kd) (f := f) (g := g) (bg := bg) hl2 h2 (by omega) (by omega)
      rw [F4.mul_at1, F4.mul_at1, F4.mul_at1, F4.mul_at1, tk] at key
      obtain ⟨c1, c2⟩ := ih (n0 := n0) key k1 k2
      refine ⟨fun e hb => ?_, c2⟩
      have := c1 e hb
      simp only [R.tk] at this ⊢
      omega
  | @etIn1 a b c d' e f' g' h m0 m1 bg x y m i z m2 q n r' m' ans _ _ hw ht _ ht2 _ ih =>
    intro f g u v u2 v2 kd n0 hE k1 k2
    cases hE with
    | eight h1 h2 h3 h4 =>
      obtain ⟨hl2, tk, hm⟩ := h2.part ht
      have key := Ei8.eight (kd := kd) (f := f) (g := g) (bg := bg) h1 hl2 (by omega) (by omega)
      rw [F4.mul_at2, F4.mul_at2, F4.mul_at2, F4.mul_at2, tk] at key
      obtain ⟨c1, c2⟩ := ih (n0 := n0) key k1 k2
      refine ⟨fun e hb => ?_, c2⟩
      have := c1 e hb
      simp only [R.tk] at this ⊢
      omega
  | exX ht =>
    intro f g u v u2 v2 kd n0 hE _ _
    exact ⟨fun z => absurd z (fixed_told ht), fun q z => .eX⟩
  | exF _ ht _ =>
    intro f g u v u2 v2 kd n0 hE _ _
    cases hE with
    | fT b4 b5 b2 b3 b1 h =>
      obtain ⟨c1, c2⟩ := pg4 ht (n0 := n0) h
      refine ⟨fun e hb => ?_, fun q e => .fT b4 b5 b2 b3 b1 (c2 q e)⟩
      rw [b2, b3] at hb
      have := c1 e b4 b5 hb
      simp only [R.tk] at this ⊢
      omega
    | fF b4 b5 b2 b3 b1 h =>
      obtain ⟨c1, c2⟩ := pg4 ht (n0 := n0) h
      refine ⟨fun e hb => ?_, fun q e => .fF b4 b5 b2 b3 b1 (c2 q e)⟩
      have hb2 := hb.tr
      rw [b2, b3] at hb2
      have := c1 e b4 b5 hb2
      simp only [R.tk] at this ⊢
      omega
  | _ =>
    intro f g u v u2 v2 kd n0 hE _ _
    cases hE
end
end PL
namespace PL
open Lean.Grind
section
variable {d : Int} [hs : NS d]
/-- another pair for the same number -/
theorem Sem.of_pr : ∀ {bb : Bool} {r : R} {u v s t : Zd d}, Sem (Zd d) bb r u v → Pr s t u v → (bb = false → t ≠ 0) → Sem (Zd d) bb r s t
  | _, .fixed .., _, _, _, _, ⟨a, _, h⟩, p, z => ⟨a, z, p.trans h⟩
  | _, .frac .., _, _, _, _, ⟨a, _, h⟩, p, z => ⟨a, z, p.trans h⟩
  | _, .root .., _, _, _, _, ⟨a, _, ρ, r0, rr, R, h⟩, p, z => ⟨a, z, ρ, r0, rr, R, p.trans h⟩
  | _, .ruled .., _, _, _, _, ⟨a, _, b, c, e, h⟩, p, z => ⟨a, z, b, c, e, p.trans h⟩
  | _, .four .., _, _, _, _, ⟨a, _, ux, vx, hx, hb, h⟩, p, z => ⟨a, z, ux, vx, hx, hb, p.trans h⟩
  | _, .fourX .., _, _, _, _, ⟨a, _, h⟩, p, z => ⟨a, z, p.trans h⟩
  | _, .eight .., _, _, _, _, ⟨a, _, ux, vx, uy, vy, hx, hy, h1, h2, h⟩, p, z => ⟨a, z, ux, vx, uy, vy, hx, hy, h1, h2, p.trans h⟩
  | _, .eightX .., _, _, _, _, ⟨a, _, h⟩, p, z => ⟨a, z, p.trans h⟩
  | _, .eightF _ _ fr, _, _, _, _, h, p, z => Sem.of_pr (r := fr) h p z
/-- sizes of a leaf's number -/
structure LS (u v : Zd d) (U V : Int) : Prop where
  b1 : Bd u U
  b2 : Bd v V
  b3 : Bd (cj u) U
  b4 : Bd (cj v) V
/-- a leaf of the laws: with a root, or without -/
def Lz (u v : Zd d) : Prop := LS u v 68 3 ∨ (LS u v 1500 300 ∧ ∃ p q : Int, u = (p : Zd d) ∧ v = (q : Zd d))
theorem Lz.big {u v : Zd d} (h : Lz u v) : LS u v 1500 300 := by
  rcases h with h | h
  · exact ⟨h.b1.up (by decide), h.b2.up (by decide), h.b3.up (by decide), h.b4.up (by decide)⟩
  · exact h.1
theorem Lz.few {u v : Zd d} (h : Lz u v) : ∀ q : Int, v = (q : Zd d) → q < fb (13 + 1) := fun q e => by
  have := h.big.b2
  rw [e] at this
  have := this.to
  have : fb (13 + 1) = 377 := by decide
  omega
theorem tv_lv {tr : Tr} {q : T3} {r : R} (h : TV d 0 tr (some q)) (ho : Opened tr r) (hd : d ≤ 441) : Lv r (vu q : Zd d) (vv q) 1 0 0 1 (vu q) (vv q) ∧ Lz (vu q : Zd d) (vv q) ∧ r.tk = 0 := by
  obtain ⟨u, v, s1, a1⟩ := h.sem q r rfl ho
  have nq := h.nm q rfl
  have t0 := ho.tk0
  have vp : (0 : Zd d) < vv q := cast_pos (A := Zd d) nq.pos
  have s2 : Sem (Zd d) false r (vu q) (vv q) := s1.of_pr a1.symm fun _ => vv_ne (nm_ne nq)
  have hk : r.kd = .leaf := by cases h <;> cases ho <;> rfl
  have hlz : Lz (vu q : Zd d) (vv q) ∧ ((∃ k t s b f, r = .root k t s b f) ∨ ∃ p q' : Int, (vu q : Zd d) = (p : Zd d) ∧ (vv q : Zd d) = (q' : Zd d)) := by
    cases h with
    | @frac _ t b h1 h2 h3 =>
      obtain ⟨P, N⟩ := madeT_px (x := t) (y := 0) h1
      obtain ⟨l1, l2, l3⟩ := P.le N
      have y0 : (madeT t 0 b).2.1 = 0 := by simp at l2; exact l2
      have b1 := zd_bd (d := d) (r := 21) (by decide) (by omega) (z := vu (madeT t 0 b)) (B := 1500) (C := 0) (by simp only [vu]; omega) (by simp only [vu]; omega)
      have b2 := zd_bd (d := d) (r := 21) (by decide) (by omega) (z := vv (madeT t 0 b)) (B := 300) (C := 0) (by simp only [vv]; omega) (by simp only [vv]; decide)
      have e1 : (vu (madeT t 0 b) : Zd d) = (((madeT t 0 b).1 : Int) : Zd d) := by ext; rfl; exact y0
      exact ⟨.inr ⟨⟨b1.1, b2.1, b1.2, b2.2⟩, _, _, e1, rfl⟩, .inr ⟨_, _, e1, rfl⟩⟩
    | @root _ t m b h1 h2 h3 h4 h5 =>
      obtain ⟨P, N⟩ := madeT_px (x := t) (y := m) h1
      obtain ⟨l1, l2, l3⟩ := P.le N
      have b1 := zd_bd (d := d) (r := 21) (by decide) (by omega) (z := vu (madeT t m b)) (B := 5) (C := 3) (by simp only [vu]; omega) (by simp only [vu]; omega)
      have b2 := zd_bd (d := d) (r := 21) (by decide) (by omega) (z := vv (madeT t m b)) (B := 3) (C := 0) (by simp only [vv]; omega) (by simp only [vv]; decide)
      refine ⟨.inl ⟨b1.1, b2.1, b1.2, b2.2⟩, .inl ?_⟩
      cases ho with
      | @rootF _ _ _ f g1 g2 => exact absurd g2 (hs.nsq.2 f m (by omega))
      | rootR => exact ⟨_, _, _, _, _, rfl⟩
    | @ruled _ p ps h1 h2 h3 h4 =>
      have hpos := cf_pos (ps := ps) fun n hn => h1.one n (by rw [List.drop_one, List.tail_cons]; exact hn)
      have e2 : (cfold (p :: ps)).2 = (cfold ps).1 := rfl
      have e1 : (cfold (p :: ps)).1 = p * (cfold ps).1 + (cfold ps).2 := rfl
      have bnd : ∀ l : List Int, l.length ≤ 3 → (∀ n ∈ l, n.natAbs ≤ 6) → (cfold l).1.natAbs ≤ 300 ∧ (cfold l).2.natAbs ≤ 300 := by
        intro l hl hm
        have mul6 : ∀ (x y : Int) (b : Nat), x.natAbs ≤ 6 → y.natAbs ≤ b → (x * y).natAbs ≤ 6 * b := fun x y b h1 h2 => by rw [Int.natAbs_mul]; exact Nat.mul_le_mul h1 h2
        match l, hl with
        | [], _ => simp [cfold]
        | [a], _ => have := hm a (by simp); simp only [cfold]; omega
        | [a, b], _ =>
          have ha := hm a (by simp)
          have hb := hm b (by simp)
          have := mul6 a b 6 ha hb
          simp only [cfold, Int.mul_one, Int.add_zero]; omega
        | [a, b, c], _ =>
          have ha := hm a (by simp)
          have hb := hm b (by simp)
          have hc := hm c (by simp)
          have k1 := mul6 b c 6 hb hc
          have k2 := mul6 a (b * c + 1) 37 ha (by omega)
          simp only [cfold, Int.mul_one, Int.add_zero]; omega
      obtain ⟨b1, b2⟩ := bnd ps h2 h4
      have k3 : (p * (cfold ps).1).natAbs ≤ 4 * 300 := by rw [Int.natAbs_mul]; exact Nat.mul_le_mul h3 b1
      have z0 : (cfold (p :: ps)).2 ≠ 0 := by rw [e2]; omega
      obtain ⟨P, N⟩ := madeT_px (x := (cfold (p :: ps)).1) (y := 0) z0
      obtain ⟨l1, l2, l3⟩ := P.le N
      generalize hq : madeT (cfold (p :: ps)).1 0 (cfold (p :: ps)).2 = q at *
      have y0 : q.2.1 = 0 := by simp at l2; exact l2
      have k4 : (cfold (p :: ps)).1.natAbs ≤ 1500 := by rw [e1]; omega
      have k5 : (cfold (p :: ps)).2.natAbs ≤ 300 := by rw [e2]; omega
      have b1 := zd_bd (d := d) (r := 21) (by decide) (by omega) (z := vu q) (B := 1500) (C := 0) (by simp only [vu]; omega) (by simp only [vu]; omega)
      have b2 := zd_bd (d := d) (r := 21) (by decide) (by omega) (z := vv q) (B := 300) (C := 0) (by simp only [vv]; omega) (by simp only [vv]; decide)
      have e1 : (vu q : Zd d) = ((q.1 : Int) : Zd d) := by ext; rfl; exact y0
      exact ⟨.inr ⟨⟨b1.1, b2.1, b1.2, b2.2⟩, _, _, e1, rfl⟩, .inr ⟨_, _, e1, rfl⟩⟩
  refine ⟨⟨?_, ?_, hk, hlz.2⟩, hlz.1, t0⟩
  · rw [t0]; exact Cv.start vp
  · rw [t0]; exact s2
theorem zc (n : Int) : ((n : Int) : Zd d) = ⟨n, 0⟩ := rfl
/-- how large a part may be -/
theorem part_size {N a b b' : Int} {U V : Zd d} (hp : IsPart N U V) (hU : Bd U a) (hV : Bd V b) (hc : Bd (cj V) b') : (N.natAbs : Int) ≤ (a + b) * b' := by
  have v0 := hp.ne
  have key : ∀ {U V : Zd d}, IsPart N U V → Bd U a → Bd V b → Bd (cj V) b' → 0 < V → (N.natAbs : Int) ≤ (a + b) * b' := fun {U V} hp hU hV hc vp => by
    refine norm_key (L := V) (R := (((a + b : Int)) : Zd d)) (by omega) vp ?_ (Std.le_refl _) hc
    have l1 : 0 ≤ U - N * V := nn_of_mul hp.lo vp
    have l2 : U - N * V < V := by
      have := pos_of_mul (a := V - (U - N * V)) (b := V) (by have := hp.hi; grind) vp
      grind
    have h1 := hU.lo
    have h2 := hU.hi
    have h3 := hV.hi
    have h4 := cast_nn (A := Zd d) hV.nn
    rw [cast_add]
    rcases Int.le_total 0 N with w | w
    · have e : (N.natAbs : Int) = N := by omega
      rw [e]; grind
    · have e : (N.natAbs : Int) = -N := by omega
      rw [e, cast_neg]; grind
  rcases lt_or V 0 with w | w | w
  · have e : cj (-V) = -cj V := by ext <;> simp [cj, Zd.neg_x, Zd.neg_y]
    refine key (U := -U) (V := -V) ⟨?_, ?_⟩ hU.neg hV.neg (by rw [e]; exact hc.neg) (by grind)
    · have := hp.lo; grind
    · have := hp.hi; grind
  · exact absurd w v0
  · exact key hp hU hV hc w
theorem F4.bd {f : F4} {κ U1 V1 U2 V2 : Int} {u v s t : Zd d} (h : f.le κ) (h1 : LS u v U1 V1) (h2 : LS s t U2 V2) : Bd (f.ev u v s t) (κ * ((U1 + V1) * (U2 + V2))) ∧ Bd (cj (f.ev u v s t)) (κ * ((U1 + V1) * (U2 + V2))) := by
  obtain ⟨k1, k2, k3, k4⟩ := h
  have e : κ * U1 * U2 + κ * U1 * V2 + κ * V1 * U2 + κ * V1 * V2 = κ * ((U1 + V1) * (U2 + V2)) := by grind
  constructor
  · unfold F4.ev bil
    have := ((((Bd.int (A := Zd d) k1).mul h1.b1).mul h2.b1).add (((Bd.int (A := Zd d) k2).mul h1.b1).mul h2.b2)).add (((Bd.int (A := Zd d) k3).mul h1.b2).mul h2.b1) |>.add (((Bd.int (A := Zd d) k4).mul h1.b2).mul h2.b2)
    exact this.up (Int.le_of_eq e)
  · unfold F4.ev bil
    simp only [cj_add, cj_mul, cj_int]
    have := ((((Bd.int (A := Zd d) k1).mul h1.b3).mul h2.b3).add (((Bd.int (A := Zd d) k2).mul h1.b3).mul h2.b4)).add (((Bd.int (A := Zd d) k3).mul h1.b4).mul h2.b3) |>.add (((Bd.int (A := Zd d) k4).mul h1.b4).mul h2.b4)
    exact this.up (Int.le_of_eq e)
/-- what comes next, where the number is none of a fraction -/
theorem nxt_of {f g : F4} {u v s t : Zd d} {N κ : Int} (hp : IsPart N (f.ev u v s t) (g.ev u v s t)) (hi : f.ev u v s t - N * g.ev u v s t ≠ 0) (l1 : g.le κ) (l2 : (f.sub g N).le κ) (l3 : (f.sub g (N + 1)).le κ) : Nxt f g u v s t N κ := by
  refine ⟨?_, l1, l2, l3⟩
  have v0 := hp.ne
  have lo := hp.lo
  have hi2 := hp.hi
  simp only [F4.mul_ev, F4.sub_ev]
  generalize f.ev u v s t = U at *
  generalize g.ev u v s t = V at *
  have e1 : ((N + 1 : Int) : Zd d) = (N : Zd d) + 1 := by rw [cast_add, cast_one]
  have m1 : ((-1 : Int) : Zd d) = -1 := by rw [cast_neg, cast_one]
  rcases lt_or V 0 with w | w | w
  · refine ⟨-1, .inr rfl, ?_, ?_, ?_⟩
    · rw [m1]; grind
    · rw [m1]
      have := nn_of_mul (a := -(U - N * V)) (b := -V) (by grind) (by grind)
      grind
    · rw [show (-(-1) : Int) = 1 from rfl, cast_one, e1]
      have := pos_of_mul (a := (U - N * V) - V) (b := -V) (by grind) (by grind)
      grind
  · exact absurd w v0
  · refine ⟨1, .inl rfl, ?_, ?_, ?_⟩
    · rw [cast_one]; grind
    · rw [cast_one]
      have := nn_of_mul (a := U - N * V) (b := V) lo w
      grind
    · rw [m1, e1]
      have := pos_of_mul (a := V - (U - N * V)) (b := V) (by grind) w
      grind
theorem F4.le.sub1 {f g : F4} {c n : Int} {ν : Int} (h : f.le c) (k : g.le c) (hn : n.natAbs ≤ ν) : (f.sub g n).le (c * (ν + 1)) ∧ (f.sub g (n + 1)).le (c * (ν + 2)) := by
  constructor
  · exact (F4.le.sub h k hn).up (Int.le_of_eq (by grind))
  · exact (F4.le.sub (ν := ν + 1) h k (by omega)).up (Int.le_of_eq (by grind))
end
end PL
namespace PL
theorem Told.left {n : Nat} {r r' : R} {m m' : Int} {ans : Ans} (h : Told n r m r' m' ans) : m' ≤ m := by
  have := h.tkm
  have := h.tk_le
  omega
theorem Told.less {k : Int} (hk : 0 ≤ k) {n : Nat} {r r' : R} {m m' : Int} {ans : Ans} (h : Told n r m r' m' ans) : k ≤ m' → ans ≠ .waits → Told n r (m - k) r' (m' - k) ans := by
  have sh : ∀ m : Int, m - 1 - k = m - k - 1 := fun m => by omega
  induction h with
  | fxEnd => exact fun _ _ => .fxEnd
  | fxNo => exact fun _ _ => .fxNo
  | fxPart h1 h2 h3 => exact fun _ _ => .fxPart h1 h2 h3
  | frEnd => exact fun _ _ => .frEnd
  | frWait => exact fun _ z => absurd rfl z
  | frPart h1 h2 h3 h4 => exact fun g _ => by rw [sh]; exact .frPart h1 (by omega) h3 h4
  | rtWait => exact fun _ z => absurd rfl z
  | rtPart h1 h2 h3 h4 h5 h6 h7 h8 h9 => exact fun g _ => by rw [sh]; exact .rtPart (by omega) h2 h3 h4 h5 h6 h7 h8 h9
  | ruEnd h1 => exact fun _ _ => .ruEnd h1
  | ruWait => exact fun _ z => absurd rfl z
  | ruPart h1 h2 h3 h4 h5 h6 h7 => exact fun g _ => by rw [sh]; exact .ruPart h1 (by omega) h3 h4 h5 h6 h7
  | foTell h1 h2 h3 h4 h5 => exact fun _ _ => .foTell h1 h2 h3 h4 h5
  | foWait h1 h2 h3 h4 h5 _ ih => exact fun _ z => absurd rfl z
  | foNo h1 h2 h3 h4 h5 _ ih => exact fun g _ => .foNo h1 h2 h3 h4 h5 (ih g (by simp))
  | foEnd h1 h2 h3 h4 h5 t1 t2 ih1 ih2 => exact fun g z => .foEnd h1 h2 h3 h4 h5 (ih1 (Int.le_trans g t2.left) (by simp)) (ih2 g z)
  | foIn h1 h2 h3 h4 h5 t1 h6 t2 ih1 ih2 => exact fun g z => .foIn h1 h2 h3 h4 h5 (ih1 (Int.le_trans g t2.left) (by simp)) h6 (ih2 g z)
  | fxX _ ih => exact fun g z => .fxX (ih g z)
  | exX _ ih => exact fun g z => .exX (ih g z)
  | exF hf _ ih => exact fun g z => .exF hf (ih g z)
  | etTell h1 h2 => exact fun _ _ => .etTell h1 h2
  | etWait h1 h2 h3 _ ih => exact fun _ z => absurd rfl z
  | etNo h1 h2 h3 _ ih => exact fun g _ => .etNo h1 h2 h3 (ih g (by simp))
  | etFour h1 h2 h3 t1 h4 t2 ih1 ih2 => exact fun g z => .etFour h1 h2 h3 (ih1 (Int.le_trans g t2.left) (by simp)) h4 (ih2 g z)
  | etFix h1 h2 h3 t1 h4 h5 t2 ih1 ih2 => exact fun g z => .etFix h1 h2 h3 (ih1 (Int.le_trans g t2.left) (by simp)) h4 h5 (ih2 g z)
  | etIn0 h1 h2 h3 t1 h4 t2 ih1 ih2 => exact fun g z => .etIn0 h1 h2 h3 (ih1 (Int.le_trans g t2.left) (by simp)) h4 (ih2 g z)
  | etIn1 h1 h2 h3 t1 h4 t2 ih1 ih2 => exact fun g z => .etIn1 h1 h2 h3 (ih1 (Int.le_trans g t2.left) (by simp)) h4 (ih2 g z)
end PL
namespace PL
open Lean.Grind
def Wd.turn : Wd → Wd
  | .less => .more
  | .more => .less
  | w => w
section
variable {A : Type} [CommRing A] [LE A] [LT A] [Std.LawfulOrderLT A] [Std.IsLinearOrder A] [OrderedRing A]
/-- a reader behind k parts told of u over v -/
structure Rk (k : Nat) (u v : A) (P P' Q Q' : Int) (w w' : A) (r : R) : Prop where
  cv : Cv k u v P P' Q Q' w w'
  sm : Sem A (decide (0 < k)) r w w'
theorem Rk.part {k i : Nat} {u v w w' : A} {P P' Q Q' q : Int} {r r' : R} {m m' : Int} (h : Rk k u v P P' Q Q' w w' r) (ht : Told i r m r' m' (.part q)) : Rk (k + 1) u v (P * q + P') P (Q * q + Q') Q w' (w - q * w') r' := by
  obtain ⟨hp, hs⟩ := sound ht h.sm
  exact ⟨h.cv.step hp, by rw [decide_eq_true (Nat.succ_pos k)]; exact hs⟩
end
end PL
namespace PL
open Lean.Grind
theorem norm_key2 {d : Int} [hs : NS d] {L R : Zd d} {T M : Int} (hT : 0 ≤ T) (h0 : 0 < L) (h1 : L * (T : Zd d) ≤ R) (hR : Bd (R * cj L) M) : T ≤ M := by
  refine of_cast_le (A := Zd d) ?_
  have t0 := cast_nn (A := Zd d) hT
  have g1 := hR.lo
  have g2 := hR.hi
  generalize (T : Zd d) = t at *
  generalize (M : Zd d) = m at *
  have hn := zd_norm (z := L) (by grind)
  generalize cj L = l at *
  rcases hn with w | w
  · have k1 := mul_nn (a := L * l - 1) (b := t) (by grind) t0
    have lp : 0 < l := by
      rcases lt_or l 0 with z | z | z
      · have := mul_pp (a := L) (b := -l) h0 (by grind)
        grind
      · subst z; grind
      · exact z
    have k2 := mul_nn (a := R - L * t) (b := l) (by grind) (by grind)
    grind
  · have k1 := mul_nn (a := -(L * l) - 1) (b := t) (by grind) t0
    have lp : 0 < -l := by
      rcases lt_or l 0 with z | z | z
      · grind
      · subst z; grind
      · have := mul_pp (a := L) (b := l) h0 z
        grind
    have k2 := mul_nn (a := R - L * t) (b := -l) (by grind) (by grind)
    grind
section
variable {d : Int} [hs : NS d]
/-- sizes of a value, and of its conjugate -/
structure Sv (U V : Zd d) (B : Int) : Prop where
  b1 : Bd U B
  b2 : Bd V B
  b3 : Bd (cj U) B
  b4 : Bd (cj V) B
theorem Sv.up {U V : Zd d} {B C : Int} (h : Sv U V B) (hc : B ≤ C) : Sv U V C := ⟨h.b1.up hc, h.b2.up hc, h.b3.up hc, h.b4.up hc⟩
/-- how large the numbers above are -/
theorem Cv.top {k : Nat} {U V w w' : Zd d} {P P' Q Q' B : Int} (h : Cv k U V P P' Q Q' w w') (hk : 1 ≤ k) (hB : Sv U V B) (hQ : 1 ≤ Q) : (P.natAbs : Int) ≤ 2 * B * B * Q ∧ Bd ((P : Zd d) * V) (2 * B * Q) := by
  obtain ⟨n1, _, _⟩ := h.near hk
  have v0 := h.v0
  have B0 := hB.b1.nn
  have Q1 := cast_le (A := Zd d) hQ
  rw [cast_one] at Q1
  -- |U Q - V P| ≤ V
  obtain ⟨X, hX⟩ : ∃ X, X = U * Q - V * P := ⟨_, rfl⟩
  have lo := n1.lo
  have hi := n1.hi
  rw [← hX] at lo hi
  have xlo : -V ≤ X := by
    rcases lt_or X 0 with z | z | z
    · have := mul_nn (a := -X) (b := (Q : Zd d) - 1) (by grind) (by grind)
      grind
    · grind
    · grind
  have xhi : X ≤ V := by
    rcases lt_or X 0 with z | z | z
    · grind
    · grind
    · have := mul_nn (a := X) (b := (Q : Zd d) - 1) (by grind) (by grind)
      grind
  have bX : Bd X B := by
    have := hB.b2.hi
    exact ⟨by grind, by grind⟩
  have eP : (P : Zd d) * V = U * Q - X := by rw [hX]; grind
  have bP : Bd ((P : Zd d) * V) (2 * B * Q) := by
    rw [eP]
    refine ((hB.b1.mul (Bd.int (A := Zd d) (n := Q) (B := Q) (by omega))).sub bX).up ?_
    have : B * 1 ≤ B * Q := Int.mul_le_mul_of_nonneg_left hQ B0
    have e : 2 * B * Q = B * Q + B * Q := by grind
    omega
  refine ⟨?_, bP⟩
  have e2 : 2 * B * B * Q = (2 * B * Q) * B := by grind
  rw [e2]
  refine norm_key (L := V) (R := ((2 * B * Q : Int) : Zd d)) (by omega) v0 ?_ (Std.le_refl _) hB.b4
  rcases Int.le_total 0 P with w | w
  · have e : (P.natAbs : Int) = P := by omega
    rw [e]
    have := bP.hi
    grind
  · have e : (P.natAbs : Int) = -P := by omega
    rw [e, cast_neg]
    have := bP.lo
    grind
/-- how large the next part is -/
theorem Cv.nextPart {k : Nat} {U V w w' : Zd d} {P P' Q Q' B N : Int} (h : Cv k U V P P' Q Q' w w') (hk : 1 ≤ k) (hB : Sv U V B) (hQ : 1 ≤ Q) (hp : IsPart N w w') : 1 ≤ N ∧ Q * N + Q' ≤ 3 * B * B * Q := by
  obtain ⟨a, b, c, e⟩ := h.g1 hk
  have w0 := h.wp hp.ne
  have v0 := h.v0
  have B0 := hB.b1.nn
  have n2 := (fb_nn (k - 1)).1
  have l1 : 0 ≤ w - N * w' := nn_of_mul hp.lo w0
  have l2 : w - N * w' < w' := by
    have := pos_of_mul (a := w' - (w - N * w')) (b := w') (by have := hp.hi; grind) w0
    grind
  have hN : 1 ≤ N := by
    rcases Int.lt_or_le N 1 with y | y
    · exfalso
      have h1 := mul_nn (a := ((-N : Int) : Zd d)) (b := w') (cast_nn (by omega)) c
      rw [cast_neg] at h1
      grind
    · exact y
  refine ⟨hN, ?_⟩
  have Q0 := cast_nn (A := Zd d) (show 0 ≤ Q by omega)
  have Q0' := cast_nn (A := Zd d) (show 0 ≤ Q' by omega)
  have ev := h.ev
  have eu := h.eu
  -- (Q N + Q') w' ≤ V
  have k1 : w' * ((Q * N + Q' : Int) : Zd d) ≤ V := by
    rw [cast_add, cast_mul]
    have g1 := mul_nn (a := (Q : Zd d)) (b := w - N * w') Q0 l1
    rw [ev]; grind
  obtain ⟨D, hD, hd⟩ : ∃ D : Int, (D = 1 ∨ D = -1) ∧ D * (P * Q' - P' * Q) = 1 := by
    rcases h.det with z | z
    · exact ⟨1, .inl rfl, by rw [z]; decide⟩
    · exact ⟨-1, .inr rfl, by rw [z]; decide⟩
  have ew : w' = (D : Zd d) * (P * V - Q * U) := by
    have k : w' * ((D * (P * Q' - P' * Q) : Int) : Zd d) = (D : Zd d) * (P * V - Q * U) := by
      rw [cast_mul, cast_sub, cast_mul, cast_mul, eu, ev]; grind
    rw [hd, cast_one] at k
    grind
  obtain ⟨_, bP⟩ := h.top hk hB hQ
  have bcw : Bd (V * cj w') (3 * B * B * Q) := by
    rw [ew]
    simp only [cj_mul, cj_sub, cj_int]
    have e3 : V * ((D : Zd d) * (P * cj V - Q * cj U)) = (D : Zd d) * ((P * V) * cj V - (Q * V) * cj U) := by grind
    rw [e3]
    have g1 := (bP.mul hB.b4).sub (((Bd.int (A := Zd d) (n := Q) (B := Q) (by omega)).mul hB.b2).mul hB.b3)
    refine ((Bd.int (A := Zd d) (n := D) (B := 1) (by omega)).mul g1).up (Int.le_of_eq ?_)
    grind
  have QN := Int.mul_nonneg (show 0 ≤ Q by omega) (show 0 ≤ N by omega)
  exact norm_key2 (L := w') (R := V) (M := 3 * B * B * Q) (by omega) w0 k1 bcw
/-- the same first parts: the numbers below are bounded by how far the values are apart -/
theorem same_few {k : Nat} {U V X Y w w' y y' : Zd d} {P P' Q Q' B C : Int} (h : Cv k U V P P' Q Q' w w') (g : Cv k X Y P P' Q Q' y y') (hk : 1 ≤ k) (hB : Sv U V B) (hC : Sv X Y C) (hne : U * Y - V * X ≠ 0) : Q * Q ≤ B * C * (2 * (B * C)) := by
  obtain ⟨a, b, c, e⟩ := h.g1 hk
  obtain ⟨a2, b2, c2, e2⟩ := g.g1 hk
  have n1 := (fb_nn k).1
  have n2 := (fb_nn (k - 1)).1
  have Q0 := cast_nn (A := Zd d) (show 0 ≤ Q by omega)
  have Q0' := cast_nn (A := Zd d) (show 0 ≤ Q' by omega)
  -- Q w ≤ V, Q y ≤ Y
  have q1 : (Q : Zd d) * w ≤ V := by
    have := mul_nn Q0' c
    rw [h.ev]; grind
  have q2 : (Q : Zd d) * y ≤ Y := by
    have := mul_nn Q0' c2
    rw [g.ev]; grind
  have w0 : 0 < w := by grind
  have y0 : 0 < y := by grind
  have m1 := mul_nn (a := (Q : Zd d)) (b := w) Q0 (by grind)
  have m2 := mul_nn (a := (Q : Zd d)) (b := y) Q0 (by grind)
  have vY : (Q * w : Zd d) * (Q * y) ≤ V * Y := by
    have k1 := mul_nn (a := V - Q * w) (b := (Q : Zd d) * y) (by grind) m2
    have k2 := mul_nn (a := V) (b := Y - Q * y) (Std.le_of_lt h.v0) (by grind)
    grind
  have dt : ((P * Q' - P' * Q : Int) : Zd d) = 1 ∨ ((P * Q' - P' * Q : Int) : Zd d) = -1 := by
    rcases h.det with z | z
    · left; rw [z, cast_one]
    · right; rw [z, cast_neg, cast_one]
  have id : U * Y - V * X = ((P * Q' - P' * Q : Int) : Zd d) * (w * y' - w' * y) := by
    rw [h.eu, h.ev, g.eu, g.ev, cast_sub, cast_mul, cast_mul]; grind
  -- |w y' - w' y| ≤ w y
  have lo : -(w * y) ≤ w * y' - w' * y := by
    have k1 := mul_nn (a := w) (b := y') (by grind) c2
    have k2 := mul_nn (a := w - w') (b := y) (by grind) (by grind)
    grind
  have hi : w * y' - w' * y ≤ w * y := by
    have k1 := mul_nn (a := w) (b := y - y') (by grind) (by grind)
    have k2 := mul_nn (a := w') (b := y) c (by grind)
    grind
  have QQ := cast_nn (A := Zd d) (show 0 ≤ Q * Q from Int.mul_nonneg (by omega) (by omega))
  have Z : ∀ L : Zd d, (L = U * Y - V * X ∨ L = -(U * Y - V * X)) → 0 < L → Q * Q ≤ B * C * (2 * (B * C)) := fun L hL L0 => by
    have Lw : L ≤ w * y := by
      rcases hL with z | z <;> rw [z, id] <;> rcases dt with t | t <;> rw [t] <;> grind
    have bL : Bd (cj L) (2 * (B * C)) := by
      have g1 := (hB.b3.mul hC.b4).sub (hB.b4.mul hC.b3)
      have g2 : Bd (cj (U * Y - V * X)) (2 * (B * C)) := by
        rw [cj_sub, cj_mul, cj_mul]
        exact g1.up (Int.le_of_eq (by grind))
      rcases hL with z | z
      · rw [z]; exact g2
      · have en : cj (-(U * Y - V * X)) = -cj (U * Y - V * X) := by ext <;> simp [cj, Zd.neg_x, Zd.neg_y]
        rw [z, en]; exact g2.neg
    refine norm_key (L := L) (R := V * Y) (Int.mul_nonneg (by omega) (by omega)) L0 ?_ (hB.b2.mul hC.b2).hi bL
    rw [cast_mul]
    rw [cast_mul] at QQ
    have k1 := mul_nn (a := w * y - L) (b := (Q : Zd d) * Q) (by grind) QQ
    grind
  rcases lt_or (U * Y - V * X) 0 with z | z | z
  · exact Z _ (.inr rfl) (by grind)
  · exact absurd z hne
  · exact Z _ (.inl rfl) z
end
end PL
namespace PL
open Lean.Grind
def F4.comb (P : Int) (f : F4) (P' : Int) (g : F4) : F4 := ⟨P * f.a + P' * g.a, P * f.b + P' * g.b, P * f.c + P' * g.c, P * f.d + P' * g.d⟩
theorem IsPart.sg {A : Type} [CommRing A] [LE A] [LT A] [Std.LawfulOrderLT A] [Std.IsLinearOrder A] [OrderedRing A] {N σ : Int} {U V : A} (h : IsPart N U V) (hσ : σ = 1 ∨ σ = -1) : IsPart N ((σ : A) * U) ((σ : A) * V) := by
  have h1 := h.lo
  have h2 := h.hi
  rcases hσ with rfl | rfl
  · rw [cast_one]; exact ⟨by grind, by grind⟩
  · rw [cast_neg, cast_one]; exact ⟨by grind, by grind⟩
section
variable {d : Int} [hs : NS d]
structure Vch (f0 g0 : F4) (u v s t : Zd d) (σ : Int) (k : Nat) (P P' Q Q' : Int) (f g : F4) : Prop where
  sg : σ = 1 ∨ σ = -1
  cv : Cv k ((σ : Zd d) * f0.ev u v s t) ((σ : Zd d) * g0.ev u v s t) P P' Q Q' ((σ : Zd d) * f.ev u v s t) ((σ : Zd d) * g.ev u v s t)
  ef : f0 = F4.comb P f P' g
  eg : g0 = F4.comb Q f Q' g
theorem Vch.start {f0 g0 : F4} {u v s t : Zd d} {σ : Int} (hσ : σ = 1 ∨ σ = -1) (h : 0 < (σ : Zd d) * g0.ev u v s t) : Vch f0 g0 u v s t σ 0 1 0 0 1 f0 g0 :=
  ⟨hσ, Cv.start h, by simp [F4.comb], by simp [F4.comb]⟩
theorem Vch.step {f0 g0 f g : F4} {u v s t : Zd d} {σ P P' Q Q' a : Int} {k : Nat} (h : Vch f0 g0 u v s t σ k P P' Q Q' f g) (hp : IsPart a (f.ev u v s t) (g.ev u v s t)) : Vch f0 g0 u v s t σ (k + 1) (P * a + P') P (Q * a + Q') Q g (f.sub g a) := by
  obtain ⟨h1, h2, h3, h4⟩ := h
  refine ⟨h1, ?_, ?_, ?_⟩
  · have := h2.step (hp.sg h1)
    have e : (σ : Zd d) * f.ev u v s t - (a : Zd d) * ((σ : Zd d) * g.ev u v s t) = (σ : Zd d) * (f.sub g a).ev u v s t := by rw [F4.sub_ev]; grind
    rw [e] at this
    exact this
  · rw [h3]; simp only [F4.comb, F4.sub, F4.mk.injEq]; refine ⟨?_, ?_, ?_, ?_⟩ <;> grind
  · rw [h4]; simp only [F4.comb, F4.sub, F4.mk.injEq]; refine ⟨?_, ?_, ?_, ?_⟩ <;> grind
theorem abs_of {D x y c P Q f g : Int} (hD : D = 1 ∨ D = -1) (e : P * y - Q * x = D * g) (hx : (x.natAbs : Int) ≤ c) (hy : (y.natAbs : Int) ≤ c) : (g.natAbs : Int) ≤ c * (P.natAbs + Q.natAbs) := by
  have e1 : (g.natAbs : Int) = (P * y - Q * x).natAbs := by
    rw [e, Int.natAbs_mul]
    rcases hD with rfl | rfl <;> simp
  have e2 : ((P * y).natAbs : Int) ≤ P.natAbs * c := by
    rw [Int.natAbs_mul, Int.natCast_mul]
    exact Int.mul_le_mul_of_nonneg_left hy (by omega)
  have e3 : ((Q * x).natAbs : Int) ≤ Q.natAbs * c := by
    rw [Int.natAbs_mul, Int.natCast_mul]
    exact Int.mul_le_mul_of_nonneg_left hx (by omega)
  have e4 : c * ((P.natAbs : Int) + Q.natAbs) = P.natAbs * c + Q.natAbs * c := by grind
  rw [e1, e4]
  clear e e1 hx hy hD
  generalize P * y = p at *
  generalize Q * x = q at *
  generalize (P.natAbs : Int) * c = p2 at *
  generalize (Q.natAbs : Int) * c = q2 at *
  omega
theorem Vch.le {f0 g0 f g : F4} {u v s t : Zd d} {σ P P' Q Q' c : Int} {k : Nat} (h : Vch f0 g0 u v s t σ k P P' Q Q' f g) (h1 : f0.le c) (h2 : g0.le c) : g.le (c * (P.natAbs + Q.natAbs)) := by
  obtain ⟨_, cv, ef, eg⟩ := h
  have dt := cv.det
  obtain ⟨D, hD⟩ : ∃ D, D = P * Q' - P' * Q := ⟨_, rfl⟩
  rw [← hD] at dt
  have ea : f0.a = P * f.a + P' * g.a := by rw [ef]; rfl
  have eb : f0.b = P * f.b + P' * g.b := by rw [ef]; rfl
  have ec : f0.c = P * f.c + P' * g.c := by rw [ef]; rfl
  have ed : f0.d = P * f.d + P' * g.d := by rw [ef]; rfl
  have ga : g0.a = Q * f.a + Q' * g.a := by rw [eg]; rfl
  have gb : g0.b = Q * f.b + Q' * g.b := by rw [eg]; rfl
  have gc : g0.c = Q * f.c + Q' * g.c := by rw [eg]; rfl
  have gd : g0.d = Q * f.d + Q' * g.d := by rw [eg]; rfl
  obtain ⟨a1, a2, a3, a4⟩ := h1
  obtain ⟨b1, b2, b3, b4⟩ := h2
  exact ⟨abs_of (f := 0) dt (by rw [ea, ga, hD]; grind) a1 b1, abs_of (f := 0) dt (by rw [eb, gb, hD]; grind) a2 b2, abs_of (f := 0) dt (by rw [ec, gc, hD]; grind) a3 b3, abs_of (f := 0) dt (by rw [ed, gd, hD]; grind) a4 b4⟩
theorem F4.le.sub2 {f g : F4} {a b N : Int} (h : (f.sub g N).le a) (k : g.le b) : (f.sub g (N + 1)).le (a + b) := by
  have e : ∀ x y : Int, x - (N + 1) * y = (x - N * y) - y := fun x y => by grind
  obtain ⟨h1, h2, h3, h4⟩ := h
  obtain ⟨k1, k2, k3, k4⟩ := k
  simp only [F4.sub] at h1 h2 h3 h4
  have m : ∀ x y : Int, (x.natAbs : Int) ≤ a → (y.natAbs : Int) ≤ b → ((x - y).natAbs : Int) ≤ a + b := fun x y hx hy => by omega
  exact ⟨by simp only [F4.sub]; rw [e]; exact m _ _ h1 k1, by simp only [F4.sub]; rw [e]; exact m _ _ h2 k2, by simp only [F4.sub]; rw [e]; exact m _ _ h3 k3, by simp only [F4.sub]; rw [e]; exact m _ _ h4 k4⟩
/-- behind k parts told: the next one comes within so many parts of leaves -/
theorem Vch.big {f0 g0 f g : F4} {u v s t : Zd d} {σ P P' Q Q' c B M N U1 V1 U2 V2 : Int} {k n0 : Nat} (h : Vch f0 g0 u v s t σ k P P' Q Q' f g) (hk : 1 ≤ k) (h1 : f0.le c) (h2 : g0.le c) (hB : Sv ((σ : Zd d) * f0.ev u v s t) ((σ : Zd d) * g0.ev u v s t) B) (l1 : LS u v U1 V1) (l2 : LS s t U2 V2)
    (hp : IsPart N (f.ev u v s t) (g.ev u v s t)) (hi : f.ev u v s t - N * g.ev u v s t ≠ 0) (hM : Q * Q ≤ M) (hQ : 1 ≤ Q)
    (hn : c * (3 * B * B + 1) * (2 * B * B + 1) * (c * (3 * B * B + 1) * (2 * B * B + 1)) * ((V1 * (U2 + V2) + V2 * (U1 + V1) + V1 * V2) * ((U1 + V1) * (U2 + V2))) * M < fb n0 * fb n0) (hn0 : 1 ≤ n0) : Big f g u v s t n0 := by
  have c0 : 0 ≤ c := by have := h1.1; omega
  have B0 := hB.b1.nn
  have BB := Int.mul_nonneg B0 B0
  obtain ⟨N1, N2⟩ := h.cv.nextPart hk hB hQ (hp.sg h.sg)
  obtain ⟨a, b, _⟩ := h.cv.g1 hk
  have n2 := (fb_nn (k - 1)).1
  have st := h.step hp
  obtain ⟨p1, _⟩ := h.cv.top hk hB hQ
  have QN := Int.mul_nonneg (show 0 ≤ Q by omega) (show 0 ≤ N by omega)
  have QN1 := Int.mul_le_mul_of_nonneg_left N1 (show 0 ≤ Q by omega)
  obtain ⟨p2, _⟩ := st.cv.top (by omega) hB (by omega)
  have z1 := h.le h1 h2
  have z2 := st.le h1 h2
  obtain ⟨Q1, hQ1⟩ : ∃ Q1, Q1 = Q * N + Q' := ⟨_, rfl⟩
  rw [← hQ1] at z2 p2 N2
  obtain ⟨κ, hκ⟩ : ∃ κ, κ = c * (3 * B * B + 1) * (2 * B * B + 1) := ⟨_, rfl⟩
  rw [← hκ] at hn
  have q1 : (P.natAbs : Int) + Q.natAbs ≤ (2 * B * B + 1) * Q := by
    have e : (2 * B * B + 1) * Q = 2 * B * B * Q + Q := by grind
    omega
  have q2 : ((P * N + P').natAbs : Int) + Q1.natAbs ≤ (2 * B * B + 1) * Q1 := by
    have e : (2 * B * B + 1) * Q1 = 2 * B * B * Q1 + Q1 := by grind
    omega
  have e2 : (2 * B * B + 1) * (Q1 + Q) ≤ (2 * B * B + 1) * ((3 * B * B + 1) * Q) := by
    refine Int.mul_le_mul_of_nonneg_left ?_ ?_
    · have e : (3 * B * B + 1) * Q = 3 * B * B * Q + Q := by grind
      omega
    · have e : 2 * B * B = 2 * (B * B) := by grind
      omega
  have kk : c * ((2 * B * B + 1) * (Q1 + Q)) ≤ κ * Q := by
    have e3 : κ * Q = c * ((2 * B * B + 1) * ((3 * B * B + 1) * Q)) := by rw [hκ]; grind
    rw [e3]
    exact Int.mul_le_mul_of_nonneg_left e2 c0
  have s1 : c * ((P.natAbs : Int) + Q.natAbs) ≤ c * ((2 * B * B + 1) * Q) := Int.mul_le_mul_of_nonneg_left q1 c0
  have s2 : c * (((P * N + P').natAbs : Int) + Q1.natAbs) ≤ c * ((2 * B * B + 1) * Q1) := Int.mul_le_mul_of_nonneg_left q2 c0
  have s3 : c * ((2 * B * B + 1) * (Q1 + Q)) = c * ((2 * B * B + 1) * Q1) + c * ((2 * B * B + 1) * Q) := by grind
  have s4 : 0 ≤ c * ((P.natAbs : Int) + Q.natAbs) := Int.mul_nonneg c0 (by omega)
  have s5 : 0 ≤ c * (((P * N + P').natAbs : Int) + Q1.natAbs) := Int.mul_nonneg c0 (by omega)
  have l3 := F4.le.sub2 z2 z1
  obtain ⟨j, rfl⟩ : ∃ j, n0 = j + 1 := ⟨n0 - 1, by omega⟩
  refine ⟨N, κ * Q, fb (j + 1), nxt_of hp hi (z1.up (by omega)) (z2.up (by omega)) (l3.up (by omega)), ⟨U1, V1, U2, V2, l1.b1, l1.b2, l2.b1, l2.b2, l1.b3, l1.b4, l2.b3, l2.b4, ?_⟩, fb_pos j, Int.le_refl _⟩
  have nn1 : 0 ≤ U1 := l1.b1.nn
  have nn2 : 0 ≤ V1 := l1.b2.nn
  have nn3 : 0 ≤ U2 := l2.b1.nn
  have nn4 : 0 ≤ V2 := l2.b2.nn
  refine Int.lt_of_le_of_lt ?_ hn
  have e6 : κ * Q * (V1 * (U2 + V2) + V2 * (U1 + V1) + V1 * V2) * (κ * Q * ((U1 + V1) * (U2 + V2))) = κ * κ * ((V1 * (U2 + V2) + V2 * (U1 + V1) + V1 * V2) * ((U1 + V1) * (U2 + V2))) * (Q * Q) := by grind
  rw [e6]
  have w1 : 0 ≤ κ * κ := sqNN κ
  have w2 : 0 ≤ V1 * (U2 + V2) + V2 * (U1 + V1) + V1 * V2 := by
    have := Int.mul_nonneg nn2 (show 0 ≤ U2 + V2 by omega)
    have := Int.mul_nonneg nn4 (show 0 ≤ U1 + V1 by omega)
    have := Int.mul_nonneg nn2 nn4
    omega
  have w3 : 0 ≤ (U1 + V1) * (U2 + V2) := Int.mul_nonneg (by omega) (by omega)
  exact Int.mul_le_mul_of_nonneg_left hM (Int.mul_nonneg w1 (Int.mul_nonneg w2 w3))
end
end PL
namespace PL
open Lean.Grind
section
variable {A : Type} [CommRing A] [LE A] [LT A] [Std.LawfulOrderLT A] [Std.IsLinearOrder A] [OrderedRing A]
theorem Cv.few {n : Nat} {p q : Int} {w w' : A} {P P' Q Q' : Int} (h : Cv n (p : A) (q : A) P P' Q Q' w w') (hn : 1 ≤ n) : fb n ≤ q := by
  obtain ⟨a, b, c, e⟩ := h.g1 hn
  have n1 := (fb_nn n).1
  have n2 := (fb_nn (n - 1)).1
  obtain ⟨D, hD, hd⟩ : ∃ D : Int, (D = 1 ∨ D = -1) ∧ D * (P * Q' - P' * Q) = 1 := by
    rcases h.det with z | z
    · exact ⟨1, .inl rfl, by rw [z]; decide⟩
    · exact ⟨-1, .inr rfl, by rw [z]; decide⟩
  have ew : w = ((D * (Q' * p - P' * q) : Int) : A) := by
    have k : w * ((D * (P * Q' - P' * Q) : Int) : A) = ((D * (Q' * p - P' * q) : Int) : A) := by
      rw [cast_mul, cast_mul, cast_sub, cast_sub, cast_mul, cast_mul, cast_mul, cast_mul, h.eu, h.ev]; grind
    rw [hd, cast_one] at k
    grind
  have w0 : 0 < w := by grind
  have w1 : 1 ≤ D * (Q' * p - P' * q) := by
    rcases Int.lt_or_le 0 (D * (Q' * p - P' * q)) with z | z
    · omega
    · have := cast_le (A := A) z
      rw [cast_zero] at this
      grind
  have ev := h.ev
  have Q0' := mul_nn (a := (Q' : A)) (b := w') (cast_nn (by omega)) c
  have le : (((Q * (D * (Q' * p - P' * q))) : Int) : A) ≤ (q : A) := by
    rw [cast_mul, ← ew]; grind
  have := of_cast_le (A := A) le
  have := Int.mul_le_mul_of_nonneg_left w1 (show 0 ≤ Q by omega)
  omega
end
section
variable {d : Int} [hs : NS d]
def Rat2 (u v : Zd d) : Prop := ∃ p q : Int, u = (p : Zd d) ∧ v = (q : Zd d)
/-- how many parts are taken at the most -/
structure Lim (kd n0 : Nat) (L : Int) (u v s t : Zd d) : Prop where
  one : (n0 : Int) + kd ≤ L + 1
  two : 2 * (n0 : Int) ≤ L + 1 ∨ (2 * (kd : Int) + 1 ≤ L ∧ (Rat2 u v ∨ Rat2 s t))
theorem Lv.few {x : R} {p q : Int} {u v w w' : Zd d} {P P' Q Q' : Int} {kd : Nat} (h : Lv x u v P P' Q Q' w w') (e1 : u = (p : Zd d)) (e2 : v = (q : Zd d)) (hkd : ∀ q : Int, v = (q : Zd d) → q < fb (kd + 1)) : x.tk ≤ kd := by
  rcases Nat.eq_zero_or_pos x.tk with z | z
  · omega
  · have cv := h.cv
    rw [e1, e2] at cv
    exact few_of (cv.few z) (hkd q e2)
theorem pg8L {n : Nat} {rd rd' : R} {m m' : Int} {ans : Ans} (ht : Told n rd m rd' m' ans) : ∀ {f g : F4} {u v u2 v2 : Zd d} {kd n0 : Nat} {L : Int}, Ei8 kd f g u v u2 v2 rd → (∀ q : Int, v = (q : Zd d) → q < fb (kd + 1)) → (∀ q : Int, v2 = (q : Zd d) → q < fb (kd + 1)) →
    ans = .waits → Big f g u v u2 v2 n0 → Lim kd n0 L u v u2 v2 → (rd.tk : Int) + m ≤ L := by
  induction ht with
  | @etWait a b c d' e f' g' h m0 m1 bg x y m w i z m' _ hsn hw ht _ =>
    intro f g u v u2 v2 kd n0 L hE k1 k2 _ hb hL
    cases hE with
    | eight h1 h2 h3 h4 =>
      obtain ⟨N, κ, T, a1, a2, a3, a4⟩ := hb
      have m0 : m = 0 := by
        cases w with
        | true =>
          rcases leaf_told h2.lk ht with ⟨_, k⟩ | ⟨k, _⟩ | ⟨q', k, _⟩
          · exact k
          · cases k
          · cases k
        | false =>
          rcases leaf_told h1.lk ht with ⟨_, k⟩ | ⟨k, _⟩ | ⟨q', k, _⟩
          · exact k
          · cases k
          · cases k
      subst m0
      simp only [R.tk]
      obtain ⟨l1, l2⟩ := hL
      rcases l2 with l2 | ⟨l2, l3 | l3⟩
      · rcases Nat.lt_or_ge y.tk n0 with k | k
        · omega
        · rw [sure8_of a1 a2 a3 (Int.le_trans a4 (fb_mono (Nat.le_trans k h3))) (Int.le_trans a4 (fb_mono k)) h1.cv h2.cv] at hsn
          cases hsn
      · obtain ⟨p, q, e1, e2⟩ := l3
        have := h1.few e1 e2 k1
        omega
      · obtain ⟨p, q, e1, e2⟩ := l3
        have := h2.few e1 e2 k2
        omega
  | @etFour a b c d' e f' g' h m0 m1 bg x y m w i z m2 n fr m' ans _ _ hw ht _ ht2 _ _ =>
    intro f g u v u2 v2 kd n0 L hE k1 k2 ew hb hL
    cases hE with
    | @eight _ _ _ P P' Q Q' w1 w1' R1 R' S S' z1 z1' h1 h2 h3 h4 =>
      have l1 := hL.one
      cases w with
      | true =>
        obtain ⟨rfl, rfl, b1, b2, b3, b4, b5⟩ := h2.fin ht k2
        obtain ⟨c1, c2⟩ := pg4 ht2 (n0 := n0) (E4.four (f := f) (g := g) (bg := bg) h1)
        rw [b2, b3] at hb
        have := c1 ew b4 b5 hb
        simp only [R.tk] at this ⊢
        simp only [cond] at this
        omega
      | false =>
        obtain ⟨rfl, rfl, b1, b2, b3, b4, b5⟩ := h1.fin ht k1
        have key := E4.four (f := f.tr) (g := g.tr) (r := P) (s := Q) (bg := bg) h2
        rw [F4.tr_at, F4.tr_at, F4.tr_at, F4.tr_at] at key
        obtain ⟨c1, c2⟩ := pg4 ht2 (n0 := n0) key
        have hb2 := hb.tr
        rw [b2, b3] at hb2
        have := c1 ew b4 b5 hb2
        simp only [R.tk] at this ⊢
        simp only [cond] at this
        omega
  | etFix _ _ _ _ _ _ hf _ _ =>
    intro f g u v u2 v2 kd n0 L hE _ _ ew
    exact absurd ew (fixed_told hf)
  | @etIn0 a b c d' e f' g' h m0 m1 bg x y m i z m2 q n r' m' ans _ _ hw ht _ ht2 _ ih =>
    intro f g u v u2 v2 kd n0 L hE k1 k2 ew hb hL
    cases hE with
    | eight h1 h2 h3 h4 =>
      obtain ⟨hl2, tk, hm⟩ := h1.part ht
      have key := Ei8.eight (kd := kd) (f := f) (g := g) (bg := bg) hl2 h2 (by omega) (by omega)
      rw [F4.mul_at1, F4.mul_at1, F4.mul_at1, F4.mul_at1, tk] at key
      have := ih key k1 k2 ew hb hL
      simp only [R.tk] at this ⊢
      omega
  | @etIn1 a b c d' e f' g' h m0 m1 bg x y m i z m2 q n r' m' ans _ _ hw ht _ ht2 _ ih =>
    intro f g u v u2 v2 kd n0 L hE k1 k2 ew hb hL
    cases hE with
    | eight h1 h2 h3 h4 =>
      obtain ⟨hl2, tk, hm⟩ := h2.part ht
      have key := Ei8.eight (kd := kd) (f := f) (g := g) (bg := bg) h1 hl2 (by omega) (by omega)
      rw [F4.mul_at2, F4.mul_at2, F4.mul_at2, F4.mul_at2, tk] at key
      have := ih key k1 k2 ew hb hL
      simp only [R.tk] at this ⊢
      omega
  | exX ht =>
    intro f g u v u2 v2 kd n0 L hE _ _ ew
    exact absurd ew (fixed_told ht)
  | exF _ ht _ =>
    intro f g u v u2 v2 kd n0 L hE k1 k2 ew hb hL
    have l1 := hL.one
    cases hE with
    | fT b4 b5 b2 b3 b1 h =>
      obtain ⟨c1, c2⟩ := pg4 ht (n0 := n0) h
      rw [b2, b3] at hb
      have := c1 ew b4 b5 hb
      simp only [R.tk] at this ⊢
      omega
    | fF b4 b5 b2 b3 b1 h =>
      obtain ⟨c1, c2⟩ := pg4 ht (n0 := n0) h
      have hb2 := hb.tr
      rw [b2, b3] at hb2
      have := c1 ew b4 b5 hb2
      simp only [R.tk] at this ⊢
      omega
  | _ =>
    intro f g u v u2 v2 kd n0 L hE _ _ ew
    first | (cases ew; done) | cases hE
/-- a box of the laws, over leaves -/
inductive Pst (kd : Nat) (f g : F4) (u v s t : Zd d) (rd : R) : Prop
  | e8 : Ei8 kd f g u v s t rd → Pst kd f g u v s t rd
  | e4 : s = 1 → t = 1 → E4 f g u v 1 1 rd → Pst kd f g u v s t rd
theorem Pst.wait {kd n0 n : Nat} {f g : F4} {u v s t : Zd d} {rd rd' : R} {m m' L : Int} (h : Pst kd f g u v s t rd) (ht : Told n rd m rd' m' .waits) (k1 : ∀ q : Int, v = (q : Zd d) → q < fb (kd + 1)) (k2 : ∀ q : Int, t = (q : Zd d) → q < fb (kd + 1)) (hb : Big f g u v s t n0) (hL : Lim kd n0 L u v s t) : (rd.tk : Int) + m ≤ L := by
  cases h with
  | e8 h => exact pg8L ht h k1 k2 rfl hb hL
  | e4 e1 e2 h =>
    have e : (1 : Zd d) = ((1 : Int) : Zd d) * 1 := by rw [cast_one]; grind
    have o : (0 : Zd d) < 1 := OrderedRing.zero_lt_one
    rw [e1, e2, e] at hb
    have := (pg4 ht (n0 := n0) h).1 rfl (by decide) o hb
    have := hL.one
    omega
theorem Pst.part {kd n : Nat} {f g : F4} {u v s t : Zd d} {rd rd' : R} {m m' q : Int} (h : Pst kd f g u v s t rd) (ht : Told n rd m rd' m' (.part q)) (k1 : ∀ q : Int, v = (q : Zd d) → q < fb (kd + 1)) (k2 : ∀ q : Int, t = (q : Zd d) → q < fb (kd + 1)) : Pst kd g (f.sub g q) u v s t rd' := by
  cases h with
  | e8 h => exact .e8 ((pg8 ht (n0 := 0) h k1 k2).2 q rfl)
  | e4 e1 e2 h => exact .e4 e1 e2 ((pg4 ht (n0 := 0) (e := (1 : Zd d)) h).2 q rfl)
theorem exists_part (u : Zd d) {v : Zd d} (h : v ≠ 0) : ∃ N : Int, IsPart N u v := by
  have hn := norm_ne h
  have hc : cj v ≠ 0 := fun w => h (by rw [← cj_cj v, w]; rfl)
  obtain ⟨h1, h2⟩ := made_va (d := d) (x := (u * cj v).x) (y := (u * cj v).y) hn
  refine ⟨_, (below_part h2).of_pr (Pr.trans ?_ h1)⟩
  have e1 : (⟨(u * cj v).x, (u * cj v).y⟩ : Zd d) = u * cj v := rfl
  have e2 : (⟨v.x * v.x - d * v.y * v.y, 0⟩ : Zd d) = v * cj v := (norm_int v).symm
  rw [e1, e2]
  exact (pr_smul hc fun w => mul_nz h hc w.2).symm
/-- no fraction -/
def Irr (U V : Zd d) : Prop := ∀ a b : Int, (a : Zd d) * U + b * V = 0 → a = 0 ∧ b = 0
theorem Irr.next {k : Nat} {U V w w' : Zd d} {P P' Q Q' : Int} (h : Irr U V) (cv : Cv k U V P P' Q Q' w w') (N : Int) : w' ≠ 0 ∧ w - N * w' ≠ 0 := by
  have key : ∀ a b : Int, (a : Zd d) * w + b * w' = 0 → a = 0 ∧ b = 0 := fun a b e => by
    obtain ⟨D, hD, hd⟩ : ∃ D : Int, (D = 1 ∨ D = -1) ∧ D * (P * Q' - P' * Q) = 1 := by
      rcases cv.det with z | z
      · exact ⟨1, .inl rfl, by rw [z]; decide⟩
      · exact ⟨-1, .inr rfl, by rw [z]; decide⟩
    have k : ((a * Q' - b * Q : Int) : Zd d) * U + ((b * P - a * P' : Int) : Zd d) * V = ((P * Q' - P' * Q : Int) : Zd d) * ((a : Zd d) * w + b * w') := by
      rw [cv.eu, cv.ev, cast_sub, cast_sub, cast_sub, cast_mul, cast_mul, cast_mul, cast_mul, cast_mul, cast_mul]; grind
    rw [e] at k
    obtain ⟨k1, k2⟩ := h (a * Q' - b * Q) (b * P - a * P') (by rw [k]; grind)
    have x1 : a * (P * Q' - P' * Q) = 0 := by
      have : a * (P * Q' - P' * Q) = P * (a * Q' - b * Q) + Q * (b * P - a * P') := by grind
      rw [this, k1, k2]; simp
    have x2 : b * (P * Q' - P' * Q) = 0 := by
      have : b * (P * Q' - P' * Q) = P' * (a * Q' - b * Q) + Q' * (b * P - a * P') := by grind
      rw [this, k1, k2]; simp
    have dn : P * Q' - P' * Q ≠ 0 := fun z => by rw [z] at hd; simp at hd
    exact ⟨(Int.mul_eq_zero.mp x1).resolve_right dn, (Int.mul_eq_zero.mp x2).resolve_right dn⟩
  refine ⟨fun e => ?_, fun e => ?_⟩
  · have := (key 0 1 (by rw [e, cast_zero]; grind)).2
    omega
  · have := (key 1 (-N) (by rw [cast_one, cast_neg]; grind)).1
    omega
/-- the numbers of a box of the laws -/
structure BoxN (M L : Int) (f0 g0 : F4) (u v s t : Zd d) (σ : Int) (kd : Nat) : Prop where
  irr : Irr (f0.ev u v s t) (g0.ev u v s t)
  k1 : ∀ q : Int, v = (q : Zd d) → q < fb (kd + 1)
  k2 : ∀ q : Int, t = (q : Zd d) → q < fb (kd + 1)
  num : ∃ (c B U1 V1 U2 V2 : Int) (n0 : Nat), f0.le c ∧ g0.le c ∧ Sv ((σ : Zd d) * f0.ev u v s t) ((σ : Zd d) * g0.ev u v s t) B ∧ LS u v U1 V1 ∧ LS s t U2 V2 ∧ 1 ≤ B ∧ 1 ≤ M ∧ 1 ≤ n0 ∧ Lim kd n0 L u v s t ∧
    c * (3 * B * B + 1) * (2 * B * B + 1) * (c * (3 * B * B + 1) * (2 * B * B + 1)) * ((V1 * (U2 + V2) + V2 * (U1 + V1) + V1 * V2) * ((U1 + V1) * (U2 + V2))) * M < fb n0 * fb n0
theorem BoxN.big {M L : Int} {f0 g0 f g : F4} {u v s t : Zd d} {σ P P' Q Q' : Int} {k kd : Nat} (h : BoxN M L f0 g0 u v s t σ kd) (V : Vch f0 g0 u v s t σ k P P' Q Q' f g) (hz : k = 0 → f = f0 ∧ g = g0) (hQ : Q * Q ≤ M) : ∃ n0, Big f g u v s t n0 ∧ Lim kd n0 L u v s t := by
  obtain ⟨c, B, U1, V1, U2, V2, n0, c1, c2, hB, l1, l2, B1, M1, hn0, hL, hn⟩ := h.num
  refine ⟨n0, ?_, hL⟩
  have sq : (σ : Zd d) * σ = 1 := by rcases V.sg with z | z <;> rw [z] <;> simp only [cast_neg, cast_one] <;> grind
  have irr : Irr ((σ : Zd d) * f0.ev u v s t) ((σ : Zd d) * g0.ev u v s t) := fun a b e => h.irr a b (by
    have : (a : Zd d) * f0.ev u v s t + b * g0.ev u v s t = ((σ : Zd d) * σ) * ((a : Zd d) * f0.ev u v s t + b * g0.ev u v s t) := by rw [sq]; grind
    rw [this]
    have e2 : ((σ : Zd d) * σ) * ((a : Zd d) * f0.ev u v s t + b * g0.ev u v s t) = (σ : Zd d) * ((a : Zd d) * ((σ : Zd d) * f0.ev u v s t) + b * ((σ : Zd d) * g0.ev u v s t)) := by grind
    rw [e2, e]; grind)
  have g0' : g.ev u v s t ≠ 0 := fun e => (irr.next V.cv 0).1 (by rw [e]; grind)
  obtain ⟨N, hN⟩ := exists_part (f.ev u v s t) g0'
  have hi : f.ev u v s t - N * g.ev u v s t ≠ 0 := fun e => (irr.next V.cv N).2 (by
    have : (σ : Zd d) * f.ev u v s t - N * ((σ : Zd d) * g.ev u v s t) = (σ : Zd d) * (f.ev u v s t - N * g.ev u v s t) := by grind
    rw [this, e]; grind)
  rcases Nat.eq_zero_or_pos k with z | z
  · subst z
    have c0 : 0 ≤ c := by have := c1.1; omega
    obtain ⟨rfl, rfl⟩ := hz rfl
    have BB := Int.mul_nonneg (show 0 ≤ B by omega) (show 0 ≤ B by omega)
    have hNs := part_size (hN.sg V.sg) hB.b1 hB.b2 hB.b4
    obtain ⟨m2, m3⟩ := F4.le.sub1 c1 c2 hNs
    obtain ⟨b, hb⟩ : ∃ b, b = B * B := ⟨_, rfl⟩
    have e0 : (B + B) * B = 2 * b := by rw [hb]; grind
    have e1 : 3 * B * B + 1 = 3 * b + 1 := by rw [hb]; grind
    have e2 : 2 * B * B + 1 = 2 * b + 1 := by rw [hb]; grind
    rw [e0] at m2 m3
    rw [e1, e2] at hn
    have b1 : 1 ≤ b := by
      have := Int.mul_le_mul B1 B1 (by omega) (by omega)
      omega
    obtain ⟨j, rfl⟩ : ∃ j, n0 = j + 1 := ⟨n0 - 1, by omega⟩
    obtain ⟨κ, hκ⟩ : ∃ κ, κ = c * (3 * b + 1) * (2 * b + 1) := ⟨_, rfl⟩
    have le : c * (2 * b + 2) ≤ κ := by
      have e3 : κ = c * ((3 * b + 1) * (2 * b + 1)) := by rw [hκ]; grind
      rw [e3]
      refine Int.mul_le_mul_of_nonneg_left ?_ c0
      have := Int.mul_le_mul_of_nonneg_right (show (2 : Int) ≤ 3 * b + 1 by omega) (show 0 ≤ 2 * b + 1 by omega)
      omega
    have x1 : c * 1 ≤ c * (2 * b + 2) := Int.mul_le_mul_of_nonneg_left (by omega) c0
    have x2 : c * (2 * b + 1) ≤ c * (2 * b + 2) := Int.mul_le_mul_of_nonneg_left (by omega) c0
    rw [← hκ] at hn
    refine ⟨N, κ, fb (j + 1), nxt_of hN hi (c2.up (by omega)) (m2.up (by omega)) (m3.up (by omega)), ⟨U1, V1, U2, V2, l1.b1, l1.b2, l2.b1, l2.b2, l1.b3, l1.b4, l2.b3, l2.b4, ?_⟩, fb_pos j, Int.le_refl _⟩
    have nn1 : 0 ≤ U1 := l1.b1.nn
    have nn2 : 0 ≤ V1 := l1.b2.nn
    have nn3 : 0 ≤ U2 := l2.b1.nn
    have nn4 : 0 ≤ V2 := l2.b2.nn
    refine Int.lt_of_le_of_lt ?_ hn
    have e6 : κ * (V1 * (U2 + V2) + V2 * (U1 + V1) + V1 * V2) * (κ * ((U1 + V1) * (U2 + V2))) = κ * κ * ((V1 * (U2 + V2) + V2 * (U1 + V1) + V1 * V2) * ((U1 + V1) * (U2 + V2))) * 1 := by grind
    rw [e6]
    have w1 : 0 ≤ κ * κ := sqNN κ
    have w2 : 0 ≤ V1 * (U2 + V2) + V2 * (U1 + V1) + V1 * V2 := by
      have := Int.mul_nonneg nn2 (show 0 ≤ U2 + V2 by omega)
      have := Int.mul_nonneg nn4 (show 0 ≤ U1 + V1 by omega)
      have := Int.mul_nonneg nn2 nn4
      omega
    have w3 : 0 ≤ (U1 + V1) * (U2 + V2) := Int.mul_nonneg (by omega) (by omega)
    exact Int.mul_le_mul_of_nonneg_left M1 (Int.mul_nonneg w1 (Int.mul_nonneg w2 w3))
  · have ⟨a, _⟩ := V.cv.g1 z
    obtain ⟨j, rfl⟩ : ∃ j, k = j + 1 := ⟨k - 1, by omega⟩
    have := fb_pos j
    exact V.big (by omega) c1 c2 hB l1 l2 hN hi hQ (by omega) hn hn0
/-- a reader of a law's tree behind k parts told -/
inductive Ps (M L : Int) (U V : Zd d) (k : Nat) (P P' Q Q' : Int) (w w' : Zd d) (rd : R) : Prop
  | box {f0 g0 f g : F4} {u v s t : Zd d} {σ : Int} {kd : Nat} : BoxN M L f0 g0 u v s t σ kd → Vch f0 g0 u v s t σ k P P' Q Q' f g → (k = 0 → f = f0 ∧ g = g0) → Pst kd f g u v s t rd →
      U = (σ : Zd d) * f0.ev u v s t → V = (σ : Zd d) * g0.ev u v s t → w = (σ : Zd d) * f.ev u v s t → w' = (σ : Zd d) * g.ev u v s t → Ps M L U V k P P' Q Q' w w' rd
  | leaf {l : Nat} : Cv k U V P P' Q Q' w w' → Lk rd U V → rd.tk = k → (l : Int) ≤ L → M < fb (l + 1) * fb (l + 1) → Ps M L U V k P P' Q Q' w w' rd
theorem Ps.cv {M L : Int} {U V : Zd d} {k : Nat} {P P' Q Q' : Int} {w w' : Zd d} {rd : R} (h : Ps M L U V k P P' Q Q' w w' rd) : Cv k U V P P' Q Q' w w' := by
  cases h with
  | box h1 h2 h3 h4 e1 e2 e3 e4 => rw [e1, e2, e3, e4]; exact h2.cv
  | leaf h1 => exact h1
theorem Ps.part {M L : Int} {U V : Zd d} {k n : Nat} {P P' Q Q' q : Int} {w w' : Zd d} {rd rd' : R} {m m' : Int} (h : Ps M L U V k P P' Q Q' w w' rd) (ht : Told n rd m rd' m' (.part q)) (hp : IsPart q w w') : Ps M L U V (k + 1) (P * q + P') P (Q * q + Q') Q w' (w - q * w') rd' := by
  cases h with
  | @box f0 g0 f g u v s t σ kd h1 h2 h3 h4 e1 e2 e3 e4 =>
    have sg := h2.sg
    have hp2 : IsPart q (f.ev u v s t) (g.ev u v s t) := by
      have := hp.sg sg
      rw [e3, e4] at this
      have sq : ∀ z : Zd d, (σ : Zd d) * ((σ : Zd d) * z) = z := fun z => by rcases sg with y | y <;> rw [y] <;> simp only [cast_neg, cast_one] <;> grind
      rw [sq, sq] at this
      exact this
    refine .box h1 (h2.step hp2) (fun e => absurd e (by omega)) (h4.part ht h1.k1 h1.k2) e1 e2 e4 ?_
    rw [e3, e4, F4.sub_ev]; grind
  | leaf h1 h2 h3 h4 h5 =>
    rcases leaf_told h2 ht with ⟨z, _⟩ | ⟨z, _⟩ | ⟨q', z, k1, k2, k3⟩
    · cases z
    · cases z
    · exact .leaf (h1.step hp) k1 (by rw [k2, h3]) h4 h5
theorem Ps.wait {M L : Int} {U V : Zd d} {k n : Nat} {P P' Q Q' : Int} {w w' : Zd d} {rd rd' : R} {m m' : Int} (h : Ps M L U V k P P' Q Q' w w' rd) (ht : Told n rd m rd' m' .waits) (hQ : Q * Q ≤ M) : (rd.tk : Int) + m ≤ L := by
  cases h with
  | box h1 h2 h3 h4 e1 e2 e3 e4 =>
    obtain ⟨n0, hb, hL⟩ := h1.big h2 h3 hQ
    exact h4.wait ht h1.k1 h1.k2 hb hL
  | @leaf l h1 h2 h3 h4 h5 =>
    rcases leaf_told h2 ht with ⟨_, z⟩ | ⟨z, _⟩ | ⟨q', z, _⟩
    · subst z
      rw [h3]
      have : k ≤ l := by
        rcases Nat.lt_or_ge l k with y | y
        · exfalso
          obtain ⟨a, _⟩ := h1.g1 (by omega)
          have b := fb_mono (show l + 1 ≤ k from y)
          have c := fb_pos l
          have := Int.mul_le_mul (Int.le_trans b a) (Int.le_trans b a) (by omega) (by omega)
          omega
        · exact y
      omega
    · cases z
    · cases z
/-- not much more is taken than it might wait for -/
theorem Ps.took {M L : Int} {U V : Zd d} {k n : Nat} {P P' Q Q' : Int} {w w' : Zd d} {rd rd' : R} {m m' : Int} {a : Ans} (h : Ps M L U V k P P' Q Q' w w' rd) (hg : GdC rd) (ht : Told n rd m rd' m' a) (ha : a ≠ .waits) (hm : 0 ≤ m') (h26 : (rd.tk : Int) + m ≤ 2600) (hQ : Q * Q ≤ M) (hk : (rd.tk : Int) ≤ L + 1) : (rd'.tk : Int) ≤ L + 1 := by
  have e := ht.tkm
  rcases Nat.lt_or_ge rd.tk rd'.tk with z | z
  · obtain ⟨c, hc⟩ : ∃ c : Nat, (c : Int) + 1 = rd'.tk - rd.tk := ⟨rd'.tk - rd.tk - 1, by omega⟩
    obtain ⟨n2, r2, a2, m2, t2, _, _, _⟩ := hg.ask c (by omega)
    by_cases h2 : a2 = .waits
    · subst h2
      have := h.wait t2 hQ
      omega
    · have := (t2.mono (k := m - c) (by omega) (by omega)).2 h2
      rw [show (c : Int) + (m - c) = m by omega] at this
      obtain ⟨_, x, _⟩ := ht.det this
      omega
  · omega
/-- two readers of unlike numbers are told apart ahead of so many parts -/
theorem bes_go {most : Int} {dp n : Nat} {r s : R} {wd : Wd} (hB : Bes most dp n r s wd) : ∀ {M L L' : Int} {U V w w' X Y z z' : Zd d} {P P' Q Q' B C : Int}, Ps M L U V n P P' Q Q' w w' r → Ps M L' X Y n P P' Q Q' z z' s → Sem (Zd d) (decide (0 < n)) r w w' → Sem (Zd d) (decide (0 < n)) s z z' →
    Sv U V B → Sv X Y C → B * C * (2 * (B * C)) ≤ M → U * Y - V * X ≠ 0 → GdC r → GdC s → (r.tk : Int) ≤ L + 1 → (s.tk : Int) ≤ L' + 1 → L + L' + 1 < most → most ≤ 2600 → (r.tk : Int) + s.tk ≤ most → wd ≠ .waits := by
  have small : ∀ {n : Nat} {M L L' : Int} {U V w w' X Y z z' : Zd d} {P P' Q Q' B C : Int} {r s : R}, Ps M L U V n P P' Q Q' w w' r → Ps M L' X Y n P P' Q Q' z z' s → Sv U V B → Sv X Y C → B * C * (2 * (B * C)) ≤ M → U * Y - V * X ≠ 0 → Q * Q ≤ M := fun {n M L L' U V w w' X Y z z' P P' Q Q' B C r s} h g hB hC hM hne => by
    rcases Nat.eq_zero_or_pos n with e | e
    · have := (h.cv.g0 e).1
      rw [this]
      have b0 := hB.b1.nn
      have c0 := hC.b1.nn
      have b1 := Int.mul_nonneg b0 c0
      have := Int.mul_nonneg b1 (show 0 ≤ 2 * (B * C) by omega)
      omega
    · exact Int.le_trans (same_few h.cv g.cv e hB hC hne) hM
  have gd : ∀ {r r1 : R} {i : Nat} {m m1 : Int} {a : Ans}, GdC r → 0 ≤ m → (r.tk : Int) + m ≤ 2600 → Told i r m r1 m1 a → GdC r1 ∧ 0 ≤ m1 := fun {r r1 i m m1 a} hr h0 hm t => by
    obtain ⟨n, r', ans, m', t', h1, h2, _⟩ := hr.ask m.toNat (by omega)
    rw [Int.toNat_of_nonneg h0] at t'
    obtain ⟨rfl, rfl, rfl⟩ := t.det t'
    exact ⟨h2, by omega⟩
  induction hB with
  | @w1 i n r s r1 m1 t =>
    intro M L L' U V w w' X Y z z' P P' Q Q' B C h g sr ss hB hC hM hne hr hs k1 k2 hL h26 hk
    have := h.wait t (small h g hB hC hM hne)
    omega
  | n1 => intros; simp
  | @w2 i j n r s r1 s1 m1 m2 a ha t1 t2 =>
    intro M L L' U V w w' X Y z z' P P' Q Q' B C h g sr ss hB hC hM hne hr hs k1 k2 hL h26 hk
    have hQ := small h g hB hC hM hne
    have hna : a ≠ .waits := fun e => by rw [e] at ha; cases ha
    obtain ⟨_, l1⟩ := gd hr (by omega) (by omega) t1
    have := h.took hr t1 hna l1 (by omega) hQ k1
    have := g.wait t2 hQ
    omega
  | n2 => intros; simp
  | @diff i j n r s r1 s1 m1 m2 a b => intros; cases gfB a b n <;> simp
  | same => intros; simp
  | @next i j dp n r s r1 s1 m1 m2 q wd t1 t2 _ ih =>
    intro M L L' U V w w' X Y z z' P P' Q Q' B C h g sr ss hB hC hM hne hr hs k1 k2 hL h26 hk
    have hQ := small h g hB hC hM hne
    obtain ⟨hp, sr2⟩ := sound t1 sr
    obtain ⟨hq, ss2⟩ := sound t2 ss
    obtain ⟨gr, l1⟩ := gd hr (by omega) (by omega) t1
    have e1 := t1.tkm
    obtain ⟨gs, l2⟩ := gd hs (by omega) (by omega) t2
    have e2 := t2.tkm
    have x1 := h.took hr t1 (by simp) l1 (by omega) hQ k1
    have x2 := g.took hs t2 (by simp) l2 (by omega) hQ k2
    refine ih (h.part t1 hp) (g.part t2 hq) ?_ ?_ hB hC hM hne gr gs x1 x2 hL h26 (by omega)
    · rw [decide_eq_true (Nat.succ_pos n)]; exact sr2
    · rw [decide_eq_true (Nat.succ_pos n)]; exact ss2
end
end PL
namespace PL
open Lean.Grind
section
variable {d : Int} [hs : NS d]
/-- the value of eight numbers -/
theorem box8_va {a b c e a' b' c' e' : Int} {p q : T3} (np : Nm p) (nq : Nm q) : 
    (boxL d [a, b, c, e, a', b', c', e'] [some (prodT p q d), some p, some q, some (1, 0, 1)] = none ↔ (F4.mk a' b' c' e').ev (vu p : Zd d) (vv p) (vu q) (vv q) = 0) ∧
    (∀ r, boxL d [a, b, c, e, a', b', c', e'] [some (prodT p q d), some p, some q, some (1, 0, 1)] = some r → Nm r ∧ Va r ((F4.mk a b c e).ev (vu p : Zd d) (vv p) (vu q) (vv q)) ((F4.mk a' b' c' e').ev (vu p : Zd d) (vv p) (vu q) (vv q))) ∧
    ((F4.mk a b c e).ev (vu p : Zd d) (vv p) (vu q) (vv q) = 0 → mixL (0, 0, 1) [a, b, c, e] [prodT p q d, p, q, (1, 0, 1)] = (0, 0, 1)) := by
  have hp : Va p (vu p : Zd d) (vv p) := Pr.refl (vv_nz (nm_ne np))
  have hq : Va q (vu q : Zd d) (vv q) := Pr.refl (vv_nz (nm_ne nq))
  have v0 : (vv p : Zd d) ≠ 0 := vv_ne (nm_ne np)
  have t0 : (vv q : Zd d) ≠ 0 := vv_ne (nm_ne nq)
  obtain ⟨g0, n0⟩ := prod_va (nm_ne np) (nm_ne nq) hp hq v0 t0
  obtain ⟨k1, k10, g1, m1⟩ := mix4_va (a := a) (b := b) (c := c) (e := e) n0 np nq g0 hp hq
  obtain ⟨k2, k20, g2, m2⟩ := mix4_va (a := a') (b := b') (c := c') (e := e') n0 np nq g0 hp hq
  have eb : boxL d [a, b, c, e, a', b', c', e'] [some (prodT p q d), some p, some q, some (1, 0, 1)] = quotT (mixL (0, 0, 1) [a, b, c, e] [prodT p q d, p, q, (1, 0, 1)]) (mixL (0, 0, 1) [a', b', c', e'] [prodT p q d, p, q, (1, 0, 1)]) d := rfl
  rw [eb]
  unfold F4.ev bil
  dsimp only
  refine ⟨?_, fun r hr => ?_, fun hU => ?_⟩
  · rw [quot_none (nm_ne m2) g2]
    constructor
    · intro w
      rcases zero_mul_or w with z | z
      · exact z
      · exact absurd z k20
    · intro w; rw [w]; grind
  · obtain ⟨q1, q2, q3⟩ := quot_va (nm_ne m1) (nm_ne m2) g1 g2 hr
    have q4 : ((a' : Int) : Zd d) * vu p * vu q + ((b' : Int) : Zd d) * vu p * vv q + ((c' : Int) : Zd d) * vv p * vu q + ((e' : Int) : Zd d) * vv p * vv q ≠ 0 := fun w => q3 (by rw [w]; grind)
    refine ⟨q2, Pr.trans ?_ q1⟩
    generalize ((a : Int) : Zd d) * vu p * vu q + ((b : Int) : Zd d) * vu p * vv q + ((c : Int) : Zd d) * vv p * vu q + ((e : Int) : Zd d) * vv p * vv q = X at *
    generalize ((a' : Int) : Zd d) * vu p * vu q + ((b' : Int) : Zd d) * vu p * vv q + ((c' : Int) : Zd d) * vv p * vu q + ((e' : Int) : Zd d) * vv p * vv q = Y at *
    have e1 : X * k1 * (vv p * vv q * k2) = X * (k1 * (vv p * vv q * k2)) := by grind
    have e2 : vv p * vv q * k1 * (Y * k2) = Y * (k1 * (vv p * vv q * k2)) := by grind
    have kk : k1 * (vv p * vv q * k2) ≠ 0 := mul_ne k10 (mul_ne (mul_ne v0 t0) k20)
    rw [e1, e2]
    exact (pr_smul kk fun w => mul_ne q4 kk w.2).symm
  · generalize mixL (0, 0, 1) [a, b, c, e] [prodT p q d, p, q, (1, 0, 1)] = m at *
    have h1 := g1.cross
    rw [hU] at h1
    have z : (vu m : Zd d) = 0 := by
      rcases zero_mul_or (a := vv p * vv q * k1) (b := (vu m : Zd d)) (by grind) with w | w
      · exact absurd w (mul_ne (mul_ne v0 t0) k10)
      · exact w
    obtain ⟨x, y, w⟩ := m
    have x0 : x = 0 := congrArg Zd.x z
    have y0 : y = 0 := congrArg Zd.y z
    subst x0 y0
    have hp := m1.pos
    have ho := m1.one
    simp only [gcd3] at ho hp
    have : w = 1 := by
      have e3 : Int.gcd ((Int.gcd 0 0 : Nat) : Int) w = w.natAbs := by simp
      rw [e3] at ho
      omega
    rw [this]
theorem rat_of {r : T3} {f g : F4} {u v s t : Zd d} (h : Va r (f.ev u v s t) (g.ev u v s t)) (hn : Nm r) (h1 : ∃ p q : Int, u = (p : Zd d) ∧ v = (q : Zd d)) (h2 : ∃ p q : Int, s = (p : Zd d) ∧ t = (q : Zd d)) : r.2.1 = 0 := by
  obtain ⟨p1, p2, rfl, rfl⟩ := h1
  obtain ⟨p3, p4, rfl, rfl⟩ := h2
  have key : ∀ f : F4, f.ev (p1 : Zd d) p2 p3 p4 = ((f.at_ p1 p2 p3 p4 : Int) : Zd d) := fun f => by
    unfold F4.ev bil F4.at_
    simp only [cast_add, cast_mul]
  rw [key, key] at h
  have v0 := va_ne (nm_ne hn) h
  have := congrArg Zd.y h.cross
  simp only [Zd.mul_y, vu, vv, Zd.int_x, Zd.int_y, Int.mul_zero, Int.zero_mul, Int.zero_add, Int.add_zero] at this
  rcases Int.mul_eq_zero.mp this.symm with z | z
  · exact absurd (by rw [z]; rfl) v0
  · exact z
theorem irr_va {r : T3} {U V : Zd d} (h : Va r U V) (hr : r.2.1 ≠ 0) (hn : Nm r) : Irr U V := fun a b e => by
  have v0 := va_ne (nm_ne hn) h
  have w0 : (vv r : Zd d) ≠ 0 := vv_ne (nm_ne hn)
  have h1 := h.cross
  have z : (a : Zd d) * vu r + (b : Zd d) * vv r = 0 := by
    refine cancel v0 ?_
    have : ((a : Zd d) * vu r + (b : Zd d) * vv r) * V = ((a : Zd d) * U + (b : Zd d) * V) * vv r := by grind
    rw [this, e]; grind
  have a0 : a = 0 := by
    have := congrArg Zd.y z
    simp only [Zd.add_y, Zd.mul_y, vu, vv, Zd.int_x, Zd.int_y, Zd.zero_y, Int.mul_zero, Int.zero_mul, Int.add_zero] at this
    rcases Int.mul_eq_zero.mp this with y | y
    · exact y
    · exact absurd y hr
  refine ⟨a0, ?_⟩
  rw [a0, cast_zero] at e
  have e2 : (b : Zd d) * V = 0 := by rw [← e]; grind
  rcases zero_mul_or e2 with y | y
  · exact cast_inj (A := Zd d) (by rw [y, cast_zero])
  · exact absurd y v0
theorem sgn_of {V : Zd d} (h : V ≠ 0) : ∃ σ : Int, (σ = 1 ∨ σ = -1) ∧ 0 < (σ : Zd d) * V := by
  rcases lt_or V 0 with w | w | w
  · exact ⟨-1, .inr rfl, by rw [cast_neg, cast_one]; grind⟩
  · exact absurd w h
  · exact ⟨1, .inl rfl, by rw [cast_one]; grind⟩
theorem sv_of {f g : F4} {c U1 V1 U2 V2 B σ : Int} {u v s t : Zd d} (hσ : σ = 1 ∨ σ = -1) (hf : f.le c) (hg : g.le c) (l1 : LS u v U1 V1) (l2 : LS s t U2 V2) (hB : c * ((U1 + V1) * (U2 + V2)) ≤ B) : Sv ((σ : Zd d) * f.ev u v s t) ((σ : Zd d) * g.ev u v s t) B := by
  have b1 := F4.bd hf l1 l2
  have b2 := F4.bd hg l1 l2
  have k : ∀ {z : Zd d}, Bd z (c * ((U1 + V1) * (U2 + V2))) → Bd ((σ : Zd d) * z) B := fun {z} h => ((Bd.int (A := Zd d) (n := σ) (B := 1) (by omega)).mul h).up (by omega)
  refine ⟨k b1.1, k b2.1, ?_, ?_⟩
  · rw [cj_mul, cj_int]; exact k b1.2
  · rw [cj_mul, cj_int]; exact k b2.2
theorem box_ps {f g : F4} {c U1 V1 U2 V2 B M L : Int} {kd n0 : Nat} {u v s t : Zd d} {r : T3} {rd : R} (hP : Pst kd f g u v s t rd) (hva : Va r (f.ev u v s t) (g.ev u v s t)) (hr : r.2.1 ≠ 0) (hn : Nm r) (hf : f.le c) (hg : g.le c) (l1 : LS u v U1 V1) (l2 : LS s t U2 V2)
    (hB : c * ((U1 + V1) * (U2 + V2)) ≤ B) (k1 : ∀ q : Int, v = (q : Zd d) → q < fb (kd + 1)) (k2 : ∀ q : Int, t = (q : Zd d) → q < fb (kd + 1)) (hL : Lim kd n0 L u v s t) (B1 : 1 ≤ B) (M1 : 1 ≤ M) (n1 : 1 ≤ n0)
    (num : c * (3 * B * B + 1) * (2 * B * B + 1) * (c * (3 * B * B + 1) * (2 * B * B + 1)) * ((V1 * (U2 + V2) + V2 * (U1 + V1) + V1 * V2) * ((U1 + V1) * (U2 + V2))) * M < fb n0 * fb n0) {σ : Int} (hσ : σ = 1 ∨ σ = -1) (hs1 : 0 < (σ : Zd d) * g.ev u v s t) :
    Ps M L ((σ : Zd d) * f.ev u v s t) ((σ : Zd d) * g.ev u v s t) 0 1 0 0 1 ((σ : Zd d) * f.ev u v s t) ((σ : Zd d) * g.ev u v s t) rd :=
  .box ⟨irr_va hva hr hn, k1, k2, c, B, U1, V1, U2, V2, n0, hf, hg, sv_of hσ hf hg l1 l2 hB, l1, l2, B1, M1, n1, hL, num⟩ (Vch.start hσ hs1) (fun _ => ⟨rfl, rfl⟩) hP rfl rfl rfl rfl
theorem LS.one : LS (1 : Zd d) 1 1 1 := by
  have b : Bd (1 : Zd d) 1 := by
    have := Bd.int (A := Zd d) (n := 1) (B := 1) (by decide)
    rwa [cast_one] at this
  have c1 : cj (1 : Zd d) = 1 := by have := cj_int (d := d) 1; rwa [cast_one] at this
  exact ⟨b, b, by rw [c1]; exact b, by rw [c1]; exact b⟩
theorem LS.few3 {u v : Zd d} (h : LS u v 68 3) : ∀ q : Int, v = (q : Zd d) → q < fb (4 + 1) := fun q e => by
  have := h.b2
  rw [e] at this
  have := this.to
  have : fb (4 + 1) = 5 := by decide
  omega
theorem one_few {kd : Nat} (h : 1 < fb (kd + 1)) : ∀ q : Int, (1 : Zd d) = (q : Zd d) → q < fb (kd + 1) := fun q e => by
  rw [← cast_one] at e
  have := cast_inj (A := Zd d) e
  omega
/-- a leaf, a four of one, an eight of two -/
inductive STr (d : Int) : Tr → Option T3 → Prop
  | leaf {tr : Tr} {q : T3} : TV d 0 tr (some q) → STr d tr (some q)
  | four {a b c e : Int} {x : Tr} {q : T3} : (∀ n ∈ [a, b, c, e], n.natAbs ≤ 4) → a * e ≠ b * c → TV d 0 x (some q) → STr d (.four a b c e x) (boxL d [a, b, c, e] [some q, some (1, 0, 1)])
  | eight {a b c e a' b' c' e' : Int} {x y : Tr} {p q : T3} : (∀ n ∈ [a, b, c, e, a', b', c', e'], n.natAbs ≤ 2) → (b * a' ≠ a * b' ∨ c * a' ≠ a * c' ∨ c * b' ≠ b * c' ∨ e * a' ≠ a * e' ∨ e * b' ≠ b * e' ∨ e * c' ≠ c * e') →
      TV d 0 x (some p) → TV d 0 y (some q) → STr d (.eight a b c e a' b' c' e' x y) (box8 d [a, b, c, e, a', b', c', e'] (some p) (some q))
theorem tv_up {k : Nat} {tr : Tr} {o : Option T3} (h : TV d 0 tr o) : TV d k tr o := by
  cases h with
  | frac h1 h2 h3 => exact .frac h1 h2 h3
  | root h1 h2 h3 h4 h5 => exact .root h1 h2 h3 h4 h5
  | ruled h1 h2 h3 h4 => exact .ruled h1 h2 h3 h4
theorem STr.tv {tr : Tr} {o : Option T3} (h : STr d tr o) : TV d 1 tr o := by
  cases h with
  | leaf h => exact tv_up h
  | four h1 h2 h3 => exact .four h1 h2 h3
  | eight h1 h2 h3 h4 => exact .eight h1 h2 h3 h4
theorem four_va {a b c e : Int} {q r : T3} (nq : Nm q) (h : boxL d [a, b, c, e] [some q, some (1, 0, 1)] = some r) : Va r ((F4.mk a 0 b 0).ev (vu q : Zd d) (vv q) 1 1) ((F4.mk c 0 e 0).ev (vu q : Zd d) (vv q) 1 1) ∧ Nm r := by
  have hv : Va q (vu q : Zd d) (vv q) := Pr.refl (vv_nz (nm_ne nq))
  have v0 : (vv q : Zd d) ≠ 0 := vv_ne (nm_ne nq)
  obtain ⟨g1, n1⟩ := mix2_va (a := a) (b := b) nq hv
  obtain ⟨g2, n2⟩ := mix2_va (a := c) (b := e) nq hv
  obtain ⟨q1, q2, q3⟩ := quot_va (nm_ne n1) (nm_ne n2) g1 g2 h
  refine ⟨?_, q2⟩
  have ev2 : ∀ x y : Int, (F4.mk x 0 y 0).ev (vu q : Zd d) (vv q) 1 1 = (x : Zd d) * vu q + (y : Zd d) * vv q := fun x y => by
    unfold F4.ev bil
    simp only [cast_zero]; grind
  rw [ev2, ev2]
  refine Pr.trans ?_ q1
  have e1 : vv q * (((c : Int) : Zd d) * vu q + ((e : Int) : Zd d) * vv q) = (((c : Int) : Zd d) * vu q + ((e : Int) : Zd d) * vv q) * vv q := by grind
  rw [e1]
  exact (pr_smul v0 fun w => mul_ne q3 v0 w.2).symm
/-- sizes of a small tree's value, and how many parts of leaves its reader takes: with a fraction within, or not -/
def Cla (r : R) (U V : Zd d) : Prop := Sv U V 10082 ∧ Ps 20664112999864352 275 U V 0 1 0 0 1 U V r ∧ Ps 13281437436929280000 289 U V 0 1 0 0 1 U V r
def Clb2 (r : R) (U V : Zd d) : Prop := Sv U V 255600 ∧ Ps 13281437436929280000 198 U V 0 1 0 0 1 U V r ∧ Ps 8536373198899200000000 198 U V 0 1 0 0 1 U V r
theorem STr.cl {tr : Tr} {q : T3} {r : R} (hd : d ≤ 441) (h : STr d tr (some q)) (ho : Opened tr r) (hq : q.2.1 ≠ 0) : ∃ U V : Zd d, Va q U V ∧ (Cla r U V ∨ Clb2 r U V) := by
  have hnq := h.tv.nm q rfl
  generalize hoo : some q = o at h
  cases h with
  | @leaf _ q0 hT =>
    cases hoo
    obtain ⟨L, Z, t0⟩ := tv_lv hT ho hd
    have hva : Va q (vu q : Zd d) (vv q) := Pr.refl (vv_nz (nm_ne hnq))
    refine ⟨vu q, vv q, hva, .inl ?_⟩
    have l : LS (vu q : Zd d) (vv q) 68 3 := by
      rcases Z with z | ⟨_, p1, p2, e1, e2⟩
      · exact z
      · exfalso
        apply hq
        have := congrArg Zd.y e1
        exact this
    have cv := L.cv
    rw [t0] at cv
    exact ⟨⟨l.b1.up (by decide), l.b2.up (by decide), l.b3.up (by decide), l.b4.up (by decide)⟩, .leaf (l := 60) cv L.lk t0 (by decide) (by decide +kernel), .leaf (l := 60) cv L.lk t0 (by decide) (by decide +kernel)⟩
  | @four a b c e x p hm hdet hT =>
    cases ho with
    | @four _ _ _ _ _ x0 ho =>
    have np := hT.nm p rfl
    obtain ⟨hva, _⟩ := four_va np hoo.symm
    obtain ⟨L, Z, t0⟩ := tv_lv hT ho hd
    have mF : (F4.mk a 0 b 0).le 4 := ⟨by have := hm a (by simp); simp only; omega, by simp, by have := hm b (by simp); simp only; omega, by simp⟩
    have mG : (F4.mk c 0 e 0).le 4 := ⟨by have := hm c (by simp); simp only; omega, by simp, by have := hm e (by simp); simp only; omega, by simp⟩
    obtain ⟨FF, hF⟩ : ∃ FF, FF = F4.mk a 0 b 0 := ⟨_, rfl⟩
    obtain ⟨GG, hG⟩ : ∃ GG, GG = F4.mk c 0 e 0 := ⟨_, rfl⟩
    have hE : Pst 4 FF GG (vu p : Zd d) (vv p) 1 1 (.four a b c e false false x0) := by
      have := E4.four (f := FF) (g := GG) (r := 1) (s := 1) (bg := false) L
      rw [t0, hF, hG] at this
      rw [hF, hG]
      exact .e4 rfl rfl (by simpa [F4.at_] using this)
    rw [← hF, ← hG] at hva
    rw [← hF] at mF
    rw [← hG] at mG
    have l : LS (vu p : Zd d) (vv p) 68 3 := by
      rcases Z with z | ⟨_, z⟩
      · exact z
      · exact absurd (rat_of hva hnq z ⟨1, 1, by rw [cast_one], by rw [cast_one]⟩) hq
    obtain ⟨σ, hσ, s1⟩ := sgn_of (va_ne (nm_ne hnq) hva)
    refine ⟨(σ : Zd d) * FF.ev (vu p) (vv p) 1 1, (σ : Zd d) * GG.ev (vu p) (vv p) 1 1, ?_, .inl ⟨sv_of hσ mF mG l LS.one (by decide), ?_, ?_⟩⟩
    · refine Pr.trans ?_ hva
      have s0 : (σ : Zd d) ≠ 0 := cast_ne (by omega)
      have v0 := va_ne (nm_ne hnq) hva
      exact ⟨by grind, fun w => mul_ne s0 v0 w.2, fun w => v0 w.2⟩
    · exact box_ps (n0 := 117) (B := 568) hE hva hq hnq mF mG l LS.one (by decide) l.few3 (one_few (by decide)) ⟨by decide, .inl (by decide)⟩ (by decide) (by decide) (by decide) (by decide +kernel) hσ s1
    · exact box_ps (n0 := 117) (B := 568) hE hva hq hnq mF mG l LS.one (by decide) l.few3 (one_few (by decide)) ⟨by decide, .inl (by decide)⟩ (by decide) (by decide) (by decide) (by decide +kernel) hσ s1
  | @eight a b c e a' b' c' e' x y p1 p2 hm hap hT1 hT2 =>
    cases ho with
    | @eight _ _ _ _ _ _ _ _ _ _ x0 y0 ho1 ho2 =>
    have n1 := hT1.nm p1 rfl
    have n2 := hT2.nm p2 rfl
    obtain ⟨_, x2, _⟩ := box8_va (d := d) (a := a) (b := b) (c := c) (e := e) (a' := a') (b' := b') (c' := c') (e' := e') n1 n2
    obtain ⟨_, hva⟩ := x2 q hoo.symm
    obtain ⟨L1, Z1, t1⟩ := tv_lv hT1 ho1 hd
    obtain ⟨L2, Z2, t2⟩ := tv_lv hT2 ho2 hd
    have mF : (F4.mk a b c e).le 2 := ⟨by have := hm a (by simp); simp only; omega, by have := hm b (by simp); simp only; omega, by have := hm c (by simp); simp only; omega, by have := hm e (by simp); simp only; omega⟩
    have mG : (F4.mk a' b' c' e').le 2 := ⟨by have := hm a' (by simp); simp only; omega, by have := hm b' (by simp); simp only; omega, by have := hm c' (by simp); simp only; omega, by have := hm e' (by simp); simp only; omega⟩
    obtain ⟨FF, hF⟩ : ∃ FF, FF = F4.mk a b c e := ⟨_, rfl⟩
    obtain ⟨GG, hG⟩ : ∃ GG, GG = F4.mk a' b' c' e' := ⟨_, rfl⟩
    have hE : ∀ kd, Pst kd FF GG (vu p1 : Zd d) (vv p1) (vu p2) (vv p2) (.eight a b c e a' b' c' e' 0 0 false x0 y0) := fun kd => by
      have := Ei8.eight (kd := kd) (f := FF) (g := GG) (bg := false) L1 L2 (by omega) (by omega)
      rw [t1, t2, hF, hG] at this
      rw [hF, hG]
      exact .e8 (by simpa [F4.at_] using this)
    rw [← hF, ← hG] at hva
    rw [← hF] at mF
    rw [← hG] at mG
    obtain ⟨σ, hσ, s1⟩ := sgn_of (va_ne (nm_ne hnq) hva)
    refine ⟨(σ : Zd d) * FF.ev (vu p1) (vv p1) (vu p2) (vv p2), (σ : Zd d) * GG.ev (vu p1) (vv p1) (vu p2) (vv p2), ?_, ?_⟩
    · refine Pr.trans ?_ hva
      have s0 : (σ : Zd d) ≠ 0 := cast_ne (by omega)
      have v0 := va_ne (nm_ne hnq) hva
      exact ⟨by grind, fun w => mul_ne s0 v0 w.2, fun w => v0 w.2⟩
    rcases Z1 with l1 | ⟨l1, r1⟩
    · rcases Z2 with l2 | ⟨l2, r2⟩
      · refine .inl ⟨sv_of hσ mF mG l1 l2 (by decide), ?_, ?_⟩
        · exact box_ps (n0 := 138) (B := 10082) (hE 4) hva hq hnq mF mG l1 l2 (by decide) l1.few3 l2.few3 ⟨by decide, .inl (by decide)⟩ (by decide) (by decide) (by decide) (by decide +kernel) hσ s1
        · exact box_ps (n0 := 145) (B := 10082) (hE 4) hva hq hnq mF mG l1 l2 (by decide) l1.few3 l2.few3 ⟨by decide, .inl (by decide)⟩ (by decide) (by decide) (by decide) (by decide +kernel) hσ s1
      · refine .inr ⟨sv_of hσ mF mG l1 l2 (by decide), ?_, ?_⟩
        · exact box_ps (n0 := 186) (B := 255600) (hE 13) hva hq hnq mF mG l1 l2 (by decide) (Lz.few (.inl l1)) (Lz.few (.inr ⟨l2, r2⟩)) ⟨by decide, .inr ⟨by decide, .inr r2⟩⟩ (by decide) (by decide) (by decide) (by decide +kernel) hσ s1
        · exact box_ps (n0 := 186) (B := 255600) (hE 13) hva hq hnq mF mG l1 l2 (by decide) (Lz.few (.inl l1)) (Lz.few (.inr ⟨l2, r2⟩)) ⟨by decide, .inr ⟨by decide, .inr r2⟩⟩ (by decide) (by decide) (by decide) (by decide +kernel) hσ s1
    · rcases Z2 with l2 | ⟨l2, r2⟩
      · refine .inr ⟨sv_of hσ mF mG l1 l2 (by decide), ?_, ?_⟩
        · exact box_ps (n0 := 186) (B := 255600) (hE 13) hva hq hnq mF mG l1 l2 (by decide) (Lz.few (.inr ⟨l1, r1⟩)) (Lz.few (.inl l2)) ⟨by decide, .inr ⟨by decide, .inl r1⟩⟩ (by decide) (by decide) (by decide) (by decide +kernel) hσ s1
        · exact box_ps (n0 := 186) (B := 255600) (hE 13) hva hq hnq mF mG l1 l2 (by decide) (Lz.few (.inr ⟨l1, r1⟩)) (Lz.few (.inl l2)) ⟨by decide, .inr ⟨by decide, .inl r1⟩⟩ (by decide) (by decide) (by decide) (by decide +kernel) hσ s1
      · exact absurd (rat_of hva hnq r1 r2) hq
/-- the value's own pair beside the reader -/
theorem STr.rk {tr : Tr} {q : T3} {r : R} (h : STr d tr (some q)) (ho : Opened tr r) : Rk 0 (vu q : Zd d) (vv q) 1 0 0 1 (vu q) (vv q) r := by
  have hnq := h.tv.nm q rfl
  obtain ⟨u, v, s1, a1⟩ := h.tv.sem q r rfl ho
  exact ⟨Cv.start (cast_pos (A := Zd d) hnq.pos), s1.of_pr a1.symm fun _ => vv_ne (nm_ne hnq)⟩
/-- unlike numbers, none of a fraction: told apart ahead of 600 -/
theorem STr.go {t1 t2 : Tr} {p q : T3} {r s : R} {dp : Nat} {wd : Wd} (hd : d ≤ 441) (h1 : STr d t1 (some p)) (h2 : STr d t2 (some q)) (o1 : Opened t1 r) (o2 : Opened t2 s) (hp : p.2.1 ≠ 0) (hq : q.2.1 ≠ 0) (hne : (vu p : Zd d) * vv q ≠ vv p * vu q) (g1 : GdC r) (g2 : GdC s) (hB : Bes 600 dp 0 r s wd) : wd ≠ .waits := by
  obtain ⟨U, V, a1, c1⟩ := h1.cl hd o1 hp
  obtain ⟨X, Y, a2, c2⟩ := h2.cl hd o2 hq
  have n1 := h1.tv.nm p rfl
  have n2 := h2.tv.nm q rfl
  have k1 := h1.rk o1
  have k2 := h2.rk o2
  have V0 := va_ne (nm_ne n1) a1
  have Y0 := va_ne (nm_ne n2) a2
  have s1 : Sem (Zd d) false r U V := k1.sm.of_pr a1 fun _ => V0
  have s2 : Sem (Zd d) false s X Y := k2.sm.of_pr a2 fun _ => Y0
  have hne2 : U * Y - V * X ≠ 0 := fun e => hne (by
    have e1 : Pr U V X Y := ⟨by grind, fun w => V0 w.2, fun w => Y0 w.2⟩
    exact ((a1.symm.trans e1).trans a2).cross)
  have t1 := o1.tk0
  have t2 := o2.tk0
  rcases c1 with ⟨b1, x1, x2⟩ | ⟨b1, x1, x2⟩
  · rcases c2 with ⟨b2, y1, y2⟩ | ⟨b2, y1, y2⟩
    · exact bes_go hB x1 y1 s1 s2 b1 b2 (by decide) hne2 g1 g2 (by omega) (by omega) (by decide) (by decide) (by omega)
    · exact bes_go hB x2 y1 s1 s2 b1 b2 (by decide) hne2 g1 g2 (by omega) (by omega) (by decide) (by decide) (by omega)
  · rcases c2 with ⟨b2, y1, y2⟩ | ⟨b2, y1, y2⟩
    · exact bes_go hB x1 y2 s1 s2 b1 b2 (by decide) hne2 g1 g2 (by omega) (by omega) (by decide) (by decide) (by omega)
    · exact bes_go hB x2 y2 s1 s2 b1 b2 (by decide) hne2 g1 g2 (by omega) (by omega) (by decide) (by decide) (by omega)
end
end PL
namespace PL
open Lean.Grind
section
variable {d : Int} [hs : NS d]
/-- two numbers made of four, as forms -/
def fm (x y : Int) : F4 := ⟨0, x, 0, y⟩
theorem fm_at (x y p q : Int) : (fm x y).at_ p q 0 1 = x * p + y * q := by unfold fm F4.at_; grind
theorem fm_ev (x y : Int) (u v : Zd d) : (fm x y).ev u v (((0 : Int) : Zd d) * 1) (((1 : Int) : Zd d) * 1) = (x : Zd d) * u + y * v := by
  unfold fm F4.ev bil
  simp only [cast_zero, cast_one]
  grind
theorem sure4_Q {f g : F4} {u v w w' : Zd d} {N κ T P P' Q Q' r s : Int} {n : Nat} {e : Zd d} (h : Nxt f g u v (r * e) (s * e) N κ) (hz : Sz2 u v (r * e) (s * e) κ T) (ht : 1 ≤ T) (p0 : 0 < n) (h0 : T ≤ Q) (hs1 : 1 ≤ s) (he : 0 < e) (c1 : Cv n u v P P' Q Q' w w') :
    sure4 (decide (0 < n)) (f.at_ P Q r s) (f.at_ P' Q' r s) (g.at_ P Q r s) (g.at_ P' Q' r s) = some N := by
  obtain ⟨n1, n2, q1⟩ := c1.near p0
  have w0 : (0 : Zd d) < s * e := mul_pp (cast_pos (by omega)) he
  have nr : Nr T (r * e : Zd d) (s * e) (T * r) (T * s) := by
    have z : ((r : Zd d) * e * ((T * s : Int) : Zd d) - s * e * ((T * r : Int) : Zd d)) * T = 0 := by rw [cast_mul, cast_mul]; grind
    have := Int.mul_le_mul_of_nonneg_left hs1 (show 0 ≤ T by omega)
    exact ⟨by omega, by rw [z]; grind, by rw [z]; grind⟩
  obtain ⟨σ, hσ, key⟩ := h.corner hz ht (Q := Q) (S := T) (p := 0) (q := 0) (r := 0) (s := 0) (by omega) (Int.le_refl _) c1.v0 w0
  have key2 : ∀ p q, Nr Q u v p q → 0 < σ * g.at_ p q r s ∧ 0 < σ * (f.at_ p q r s - N * g.at_ p q r s) ∧ 0 < σ * ((N + 1) * g.at_ p q r s - f.at_ p q r s) := fun p q hn => by
    obtain ⟨k1, k2, k3⟩ := key p q _ _ hn nr
    rw [F4.sc_at] at k1 k2 k3
    rw [F4.sc_at] at k2 k3
    have cn : ∀ {x : Int}, 0 < T * x → 0 < x := fun {x} hx => by
      rcases Int.lt_or_le 0 x with y | y
      · exact y
      · have := Int.mul_nonpos_of_nonneg_of_nonpos (show 0 ≤ T by omega) y
        omega
    generalize f.at_ p q r s = x at *
    generalize g.at_ p q r s = y at *
    refine ⟨cn ?_, cn ?_, cn ?_⟩
    · have e : T * (σ * y) = σ * (T * y) := by grind
      rw [e]; exact k1
    · have e : T * (σ * (x - N * y)) = σ * (T * x - N * (T * y)) := by grind
      rw [e]; exact k2
    · have e : T * (σ * ((N + 1) * y - x)) = σ * ((N + 1) * (T * y) - T * x) := by grind
      rw [e]; exact k3
  unfold sure4
  rw [if_pos (decide_eq_true p0)]
  refine all_in hσ fun c hc => ?_
  simp only [List.mem_cons, List.not_mem_nil, or_false] at hc
  rcases hc with rfl | rfl
  · exact key2 _ _ n1
  · have := key2 _ _ n2
    rw [F4.add_at, F4.add_at] at this
    exact this
/-- how large the numbers of a level are -/
def KB : Int := 524288
def KT : Int := 80 * (2 * KB * KB + 1) * (KB * KB * KB)
/-- a reader of fours over a root, t parts told: beside its number -/
inductive Tow : Nat → R → Nat → Zd d → Zd d → Int → Int → Int → Int → Zd d → Zd d → Prop
  | leaf {x : R} {u v w w' : Zd d} {P P' Q Q' : Int} : Lv x u v P P' Q Q' w w' → Sv u v KB → Irr u v → (∃ k t s b f, x = .root k t s b f) → Tow 0 x x.tk u v P P' Q Q' w w'
  | four {l n t : Nat} {x : R} {u v y y' U V W W' : Zd d} {p p' q q' P P' Q Q' f1 f2 g1 g2 σ : Int} {rdy bg : Bool} : Tow l x n u v p p' q q' y y' → rdy = decide (0 < n) → bg = decide (0 < t) → Sv U V KB → Irr U V → Cv t U V P P' Q Q' W W' →
      (σ = 1 ∨ σ = -1) → (f1 : Zd d) * u + f2 * v = σ * W → (g1 : Zd d) * u + g2 * v = σ * W' →
      (P * f1 + P' * g1).natAbs ≤ 4 → (P * f2 + P' * g2).natAbs ≤ 4 → (Q * f1 + Q' * g1).natAbs ≤ 4 → (Q * f2 + Q' * g2).natAbs ≤ 4 →
      Tow (l + 1) (.four (f1 * p + f2 * q) (f1 * p' + f2 * q') (g1 * p + g2 * q) (g1 * p' + g2 * q') rdy bg x) t U V P P' Q Q' W W'
theorem Tow.base {l t : Nat} {r : R} {U V W W' : Zd d} {P P' Q Q' : Int} (h : Tow l r t U V P P' Q Q' W W') : Cv t U V P P' Q Q' W W' ∧ Sv U V KB ∧ Irr U V := by
  cases h with
  | leaf hl hB hI _ => exact ⟨hl.cv, hB, hI⟩
  | four _ _ _ hB hI hC => exact ⟨hC, hB, hI⟩
theorem Tow.sem {l t : Nat} {r : R} {U V W W' : Zd d} {P P' Q Q' : Int} (h : Tow l r t U V P P' Q Q' W W') : Sem (Zd d) (decide (0 < t)) r W W' := by
  induction h with
  | leaf hl _ _ _ => exact hl.sm
  | @four l n t x u v y y' U V W W' p p' q q' P P' Q Q' f1 f2 g1 g2 σ rdy bg hT er eb hB hI hC hσ e1 e2 _ _ _ _ ih =>
    obtain ⟨c1, _, _⟩ := hT.base
    have i1 := (hI.next hC 0).1
    have hw : ∀ z : Zd d, (z * ((σ : Int) : Zd d)) = 0 → z = 0 := fun z e => by
      rcases hσ with rfl | rfl
      · rw [cast_one] at e; grind
      · rw [cast_neg, cast_one] at e; grind
    refine ⟨eb, fun _ => i1, y, y', by rw [er]; exact ih, fun hr => ?_, ?_⟩
    · rw [er] at hr
      obtain ⟨_, _, a, b⟩ := c1.g1 (of_decide_eq_true hr)
      have y0 := (hT.base.2.2.next c1 0).1
      have yp : 0 < y' := by grind
      exact .inr (mul_pp (by grind) yp)
    · have k1 : ((f1 * p + f2 * q : Int) : Zd d) * y + ((f1 * p' + f2 * q' : Int) : Zd d) * y' = σ * W := by
        rw [← e1, c1.eu, c1.ev, cast_add, cast_add, cast_mul, cast_mul, cast_mul, cast_mul]; grind
      have k2 : ((g1 * p + g2 * q : Int) : Zd d) * y + ((g1 * p' + g2 * q' : Int) : Zd d) * y' = σ * W' := by
        rw [← e2, c1.eu, c1.ev, cast_add, cast_add, cast_mul, cast_mul, cast_mul, cast_mul]; grind
      rw [k1, k2]
      refine ⟨by grind, fun z => i1 z.2, fun z => i1 (hw _ ?_)⟩
      have := z.2
      grind
theorem mul4 {a b : Int} {n : Nat} (h : b.natAbs ≤ n) (m : Int) (hm : (a.natAbs : Int) ≤ m) : ((a * b).natAbs : Int) ≤ m * n := by
  rw [Int.natAbs_mul, Int.natCast_mul]
  exact Int.mul_le_mul hm (by omega) (by omega) (by omega)
/-- the rows are bounded by the numbers above and below -/
theorem row_bd {P P' Q Q' f g M S : Int} (hd : P * Q' - P' * Q = 1 ∨ P * Q' - P' * Q = -1) (h1 : (P * f + P' * g).natAbs ≤ 4) (h2 : (Q * f + Q' * g).natAbs ≤ 4) (hP : (P.natAbs : Int) ≤ M) (hQ : (Q.natAbs : Int) ≤ S) : (g.natAbs : Int) ≤ 4 * (M + S) := by
  have a := mul4 h2 M hP
  have b := mul4 h1 S hQ
  have e : P * (Q * f + Q' * g) - Q * (P * f + P' * g) = (P * Q' - P' * Q) * g := by grind
  have k : ((P * Q' - P' * Q) * g).natAbs = g.natAbs := by
    rcases hd with z | z <;> rw [z] <;> omega
  rw [← k, ← e]
  generalize P * (Q * f + Q' * g) = x at *
  generalize Q * (P * f + P' * g) = y at *
  omega
theorem top_bd {t : Nat} {U V W W' : Zd d} {P P' Q Q' X : Int} (h : Cv t U V P P' Q Q' W W') (hB : Sv U V KB) (hX : 1 ≤ X) (hQ : Q ≤ X) : (P.natAbs : Int) ≤ 2 * KB * KB * X ∧ (Q.natAbs : Int) ≤ X := by
  rcases Nat.eq_zero_or_pos t with z | z
  · obtain ⟨a, b⟩ := h.g0 z
    have dt := h.det
    rw [a, b, Int.mul_one, Int.mul_zero, Int.sub_zero] at dt
    have : 2 * KB * KB * X ≥ 2 * KB * KB * 1 := Int.mul_le_mul_of_nonneg_left hX (by decide)
    have k : (2 * KB * KB * 1 : Int) = 549755813888 := by decide
    exact ⟨by omega, by omega⟩
  · obtain ⟨a, b, _, _⟩ := h.g1 z
    obtain ⟨j, rfl⟩ : ∃ j, t = j + 1 := ⟨t - 1, by omega⟩
    have f1 := fb_pos j
    obtain ⟨p1, _⟩ := h.top z hB (by omega)
    have : 2 * KB * KB * Q ≤ 2 * KB * KB * X := Int.mul_le_mul_of_nonneg_left hQ (by decide)
    exact ⟨by omega, by omega⟩
theorem next_bd {t : Nat} {U V W W' : Zd d} {P P' Q Q' N : Int} (h : Cv t U V P P' Q Q' W W') (hp : IsPart N W W') : Q ≤ Q * N + Q' ∧ fb (t + 1) ≤ Q * N + Q' := by
  have g := (h.step hp).g1 (by omega)
  refine ⟨?_, g.1⟩
  rcases Nat.eq_zero_or_pos t with z | z
  · obtain ⟨a, b⟩ := h.g0 z
    rw [a, b]; omega
  · obtain ⟨a, b, c, e⟩ := h.g1 z
    have w0 := h.wp hp.ne
    have l2 : W - N * W' < W' := by
      have := pos_of_mul (a := W' - (W - N * W')) (b := W') (by have := hp.hi; grind) w0
      grind
    have hN : 1 ≤ N := by
      rcases Int.lt_or_le N 1 with y | y
      · exfalso
        have h1 := mul_nn (a := ((-N : Int) : Zd d)) (b := W') (cast_nn (by omega)) c
        rw [cast_neg] at h1
        grind
      · exact y
    have q0 := (fb_nn t).1
    have q1 := (fb_nn (t - 1)).1
    have := Int.mul_le_mul_of_nonneg_left hN (show 0 ≤ Q by omega)
    omega
/-- where a four is not sure, the one within has told few parts -/
theorem tow_in {l n t : Nat} {x : R} {u v y y' U V W W' : Zd d} {p p' q q' P P' Q Q' f1 f2 g1 g2 σ N X M : Int} (hT : Tow l x n u v p p' q q' y y') (hB : Sv U V KB) (hI : Irr U V) (hC : Cv t U V P P' Q Q' W W')
    (hσ : σ = 1 ∨ σ = -1) (e1 : (f1 : Zd d) * u + f2 * v = σ * W) (e2 : (g1 : Zd d) * u + g2 * v = σ * W')
    (m1 : (P * f1 + P' * g1).natAbs ≤ 4) (m2 : (P * f2 + P' * g2).natAbs ≤ 4) (m3 : (Q * f1 + Q' * g1).natAbs ≤ 4) (m4 : (Q * f2 + Q' * g2).natAbs ≤ 4)
    (hp : IsPart N W W') (hN : Q * N + Q' ≤ X) (hX : 1 ≤ X) (hs : sure4 (decide (0 < n)) (f1 * p + f2 * q) (f1 * p' + f2 * q') (g1 * p + g2 * q) (g1 * p' + g2 * q') = none) (hM : IsPart M y y') : q * M + q' ≤ KT * X := by
  obtain ⟨c1, b1, i1⟩ := hT.base
  have hKT : (1 : Int) ≤ KT := by decide
  have kx := Int.mul_le_mul_of_nonneg_left hX (show (0 : Int) ≤ KT by decide)
  rcases Nat.eq_zero_or_pos n with z | z
  · obtain ⟨a, b⟩ := c1.g0 z
    rw [a, b]; omega
  obtain ⟨nb1, _⟩ := next_bd hC hp
  obtain ⟨t1, t2⟩ := top_bd hC hB hX (Int.le_trans nb1 hN)
  have hC2 := hC.step hp
  obtain ⟨t3, t4⟩ := top_bd hC2 hB hX hN
  obtain ⟨κ, hκ⟩ : ∃ κ, κ = 8 * ((2 * KB * KB + 1) * X) := ⟨_, rfl⟩
  have kk : (2 * KB * KB + 1) * X = 2 * KB * KB * X + X := by rw [Int.add_mul, Int.one_mul]
  -- the rows of this part and of the next one
  have g1b := row_bd hC.det m1 m3 t1 t2
  have g2b := row_bd hC.det m2 m4 t1 t2
  have h1b := row_bd (f := g1) (g := f1 - N * g1) hC2.det (by rw [show (P * N + P') * g1 + P * (f1 - N * g1) = P * f1 + P' * g1 by grind]; exact m1) (by rw [show (Q * N + Q') * g1 + Q * (f1 - N * g1) = Q * f1 + Q' * g1 by grind]; exact m3) t3 t4
  have h2b := row_bd (f := g2) (g := f2 - N * g2) hC2.det (by rw [show (P * N + P') * g2 + P * (f2 - N * g2) = P * f2 + P' * g2 by grind]; exact m2) (by rw [show (Q * N + Q') * g2 + Q * (f2 - N * g2) = Q * f2 + Q' * g2 by grind]; exact m4) t3 t4
  have k0 : 0 ≤ κ := by omega
  have le1 : (fm g1 g2).le κ := ⟨by show ((0 : Int).natAbs : Int) ≤ κ; omega, by show (g1.natAbs : Int) ≤ κ; omega, by show ((0 : Int).natAbs : Int) ≤ κ; omega, by show (g2.natAbs : Int) ≤ κ; omega⟩
  have le2 : ((fm f1 f2).sub (fm g1 g2) N).le κ := ⟨by show ((0 - N * 0 : Int).natAbs : Int) ≤ κ; omega, by show ((f1 - N * g1).natAbs : Int) ≤ κ; omega, by show ((0 - N * 0 : Int).natAbs : Int) ≤ κ; omega, by show ((f2 - N * g2).natAbs : Int) ≤ κ; omega⟩
  have x1 : f1 - (N + 1) * g1 = (f1 - N * g1) - g1 := by rw [Int.add_mul]; omega
  have x2 : f2 - (N + 1) * g2 = (f2 - N * g2) - g2 := by rw [Int.add_mul]; omega
  have le3 : ((fm f1 f2).sub (fm g1 g2) (N + 1)).le κ := ⟨by show ((0 - (N + 1) * 0 : Int).natAbs : Int) ≤ κ; omega, by show ((f1 - (N + 1) * g1).natAbs : Int) ≤ κ; rw [x1]; omega, by show ((0 - (N + 1) * 0 : Int).natAbs : Int) ≤ κ; omega, by show ((f2 - (N + 1) * g2).natAbs : Int) ≤ κ; rw [x2]; omega⟩
  have i2 := hI.next hC N
  have sg : (σ : Zd d) * σ = 1 := by
    rcases hσ with rfl | rfl
    · rw [cast_one]; grind
    · rw [cast_neg, cast_one]; grind
  have hw : ∀ z : Zd d, (σ : Zd d) * z = 0 → z = 0 := fun z e => by
    have : (σ : Zd d) * ((σ : Zd d) * z) = z := by
      have : (σ : Zd d) * ((σ : Zd d) * z) = ((σ : Zd d) * σ) * z := by grind
      rw [this, sg]; grind
    rw [← this, e]; grind
  have hpe : IsPart N ((σ : Zd d) * W) ((σ : Zd d) * W') := hp.of_pr ⟨by grind, fun z => i2.1 (hw _ z.2), fun z => i2.1 z.2⟩
  have nx : Nxt (fm f1 f2) (fm g1 g2) u v (((0 : Int) : Zd d) * 1) (((1 : Int) : Zd d) * 1) N κ := by
    refine nxt_of ?_ ?_ le1 le2 le3
    · rw [fm_ev, fm_ev, e1, e2]; exact hpe
    · rw [fm_ev, fm_ev, e1, e2]
      intro z
      exact i2.2 (hw _ (by rw [← z]; grind))
  have κ1 : 1 ≤ κ := by
    have : (0 : Int) ≤ 2 * KB * KB * X := Int.mul_nonneg (by decide) (by omega)
    omega
  have sz : Sz2 u v (((0 : Int) : Zd d) * 1) (((1 : Int) : Zd d) * 1) κ (3 * κ * KB) := by
    have z0 : (((0 : Int) : Zd d) * 1) = ((0 : Int) : Zd d) := by grind
    have z1 : (((1 : Int) : Zd d) * 1) = ((1 : Int) : Zd d) := by grind
    rw [z0, z1]
    refine ⟨KB, KB, 0, 1, b1.b1, b1.b2, Bd.int (by decide), Bd.int (by decide), b1.b3, b1.b4, by rw [cj_int]; exact Bd.int (by decide), by rw [cj_int]; exact Bd.int (by decide), ?_⟩
    have kp := Int.mul_pos (show 0 < κ by omega) (show 0 < κ by omega)
    have e3 : κ * (KB * (0 + 1) + 1 * (KB + KB) + KB * 1) * (κ * ((KB + KB) * (0 + 1))) = (8 * KB * KB) * (κ * κ) := by grind
    have e4 : 3 * κ * KB * (3 * κ * KB) = (9 * KB * KB) * (κ * κ) := by grind
    rw [e3, e4]
    exact Int.mul_lt_mul_of_pos_right (by decide) kp
  have hq : q < 3 * κ * KB := by
    rcases Int.lt_or_le q (3 * κ * KB) with w | w
    · exact w
    · exfalso
      have T1 : 1 ≤ 3 * κ * KB := by
        have := Int.mul_le_mul_of_nonneg_left (show (1 : Int) ≤ KB by decide) (show 0 ≤ 3 * κ by omega)
        omega
      have := sure4_Q (r := 0) (s := 1) (e := 1) nx sz T1 z w (by decide) (by grind) c1
      simp only [fm_at] at this
      rw [this] at hs
      cases hs
  obtain ⟨a, b, _, _⟩ := c1.g1 z
  obtain ⟨j, rfl⟩ : ∃ j, n = j + 1 := ⟨n - 1, by omega⟩
  have f1p := fb_pos j
  obtain ⟨_, nb⟩ := c1.nextPart z b1 (by omega) hM
  have k5 : 3 * KB * KB * q ≤ 3 * KB * KB * (3 * κ * KB) := Int.mul_le_mul_of_nonneg_left (by omega) (by decide)
  have k6 : 3 * KB * KB * (3 * κ * KB) = 72 * (2 * KB * KB + 1) * (KB * KB * KB) * X := by rw [hκ]; grind
  have k7 : 72 * (2 * KB * KB + 1) * (KB * KB * KB) * X ≤ KT * X := Int.mul_le_mul_of_nonneg_right (by decide) (by omega)
  omega
/-- a four of four numbers, as it is made -/
theorem Tow.of_four {l n t : Nat} {x : R} {u v y y' U V W W' : Zd d} {p p' q q' P P' Q Q' f1 f2 g1 g2 σ a b c e : Int} {rdy bg : Bool} (hT : Tow l x n u v p p' q q' y y') (er : rdy = decide (0 < n)) (eb : bg = decide (0 < t)) (hB : Sv U V KB) (hI : Irr U V) (hC : Cv t U V P P' Q Q' W W')
    (hσ : σ = 1 ∨ σ = -1) (e1 : (f1 : Zd d) * u + f2 * v = σ * W) (e2 : (g1 : Zd d) * u + g2 * v = σ * W')
    (m1 : (P * f1 + P' * g1).natAbs ≤ 4) (m2 : (P * f2 + P' * g2).natAbs ≤ 4) (m3 : (Q * f1 + Q' * g1).natAbs ≤ 4) (m4 : (Q * f2 + Q' * g2).natAbs ≤ 4)
    (ha : a = f1 * p + f2 * q) (hb : b = f1 * p' + f2 * q') (hc : c = g1 * p + g2 * q) (he : e = g1 * p' + g2 * q') : Tow (l + 1) (.four a b c e rdy bg x) t U V P P' Q Q' W W' := by
  subst ha hb hc he
  exact .four hT er eb hB hI hC hσ e1 e2 m1 m2 m3 m4
/-- it tells its next part, where the root has some left -/
theorem tow_told {n : Nat} {r r' : R} {m m' : Int} {ans : Ans} (ht : Told n r m r' m' ans) : ∀ {l t : Nat} {U V W W' : Zd d} {P P' Q Q' N X : Int}, Tow l r t U V P P' Q Q' W W' → IsPart N W W' → Q * N + Q' ≤ X → 1 ≤ X → KT ^ l * X < fb 900 → 900 ≤ (r.tk : Int) + m →
    ans = .part N ∧ Tow l r' (t + 1) U V (P * N + P') P (Q * N + Q') Q W' (W - N * W') := by
  have lf : ∀ {n : Nat} {r r' : R} {m m' : Int} {ans : Ans} {l t : Nat} {U V W W' : Zd d} {P P' Q Q' N X : Int}, Told n r m r' m' ans → r.kd = .leaf → Tow l r t U V P P' Q Q' W W' → IsPart N W W' → Q * N + Q' ≤ X → 1 ≤ X → KT ^ l * X < fb 900 → 900 ≤ (r.tk : Int) + m →
    ans = .part N ∧ Tow l r' (t + 1) U V (P * N + P') P (Q * N + Q') Q W' (W - N * W') := fun {n r r' m m' ans l t U V W W' P P' Q Q' N X} ht hk hT hp hN hX hF hm => by
    cases hT with
    | four => cases hk
    | leaf hl hB hI hr =>
      have hi := (hI.next hl.cv 0).1
      rcases leaf_told hl.lk ht with ⟨_, z⟩ | ⟨_, _, _, p, q, e1, e2⟩ | ⟨q, rfl, h1, h2, h3⟩
      · exfalso
        obtain ⟨_, f1⟩ := next_bd hl.cv hp
        rw [Int.pow_zero, Int.one_mul] at hF
        have : fb 900 ≤ fb (r.tk + 1) := fb_mono (by omega)
        omega
      · exfalso
        obtain ⟨k1, k2⟩ := hI q (-p) (by rw [e1, e2, cast_neg]; grind)
        have v0 := hl.cv.v0
        rw [e2, k1, cast_zero] at v0
        grind
      · obtain ⟨g1, g2, _⟩ := hl.part ht
        obtain ⟨hq, _⟩ := sound ht hl.sm
        have e := hq.uniq hp
        subst e
        refine ⟨rfl, ?_⟩
        rw [← g2]
        refine .leaf g1 hB hI ?_
        obtain ⟨k, t', s, b, f, rfl⟩ := hr
        cases ht with
        | rtPart => exact ⟨_, _, _, _, _, rfl⟩
  induction ht with
  | rtWait => intro l t U V W W' P P' Q Q' N X h; exact lf .rtWait rfl h
  | rtPart h1 h2 h3 h4 h5 h6 h7 h8 h9 => intro l t U V W W' P P' Q Q' N X h; exact lf (.rtPart h1 h2 h3 h4 h5 h6 h7 h8 h9) rfl h
  | frEnd => intro l t U V W W' P P' Q Q' N X h; exact lf .frEnd rfl h
  | frWait h1 => intro l t U V W W' P P' Q Q' N X h; exact lf (.frWait h1) rfl h
  | frPart h1 h2 h3 h4 => intro l t U V W W' P P' Q Q' N X h; exact lf (.frPart h1 h2 h3 h4) rfl h
  | ruEnd h1 => intro l t U V W W' P P' Q Q' N X h; exact lf (.ruEnd h1) rfl h
  | ruWait h1 => intro l t U V W W' P P' Q Q' N X h; exact lf (.ruWait h1) rfl h
  | ruPart h1 h2 h3 h4 h5 h6 h7 => intro l t U V W W' P P' Q Q' N X h; exact lf (.ruPart h1 h2 h3 h4 h5 h6 h7) rfl h
  | @foTell a b c e rdy bg x m q s1 s2 s3 s4 hs' =>
    intro l t U V W W' P P' Q Q' N X h hp hN hX hF hm
    obtain ⟨hq, _⟩ := sound (Told.foTell (m := m) s1 s2 s3 s4 hs') h.sem
    have e := hq.uniq hp
    subst e
    refine ⟨rfl, ?_⟩
    cases h with
    | leaf _ _ _ hr => obtain ⟨_, _, _, _, _, z⟩ := hr; cases z
    | @four l n _ _ u v y y' _ _ _ _ p p' q1 q1' _ _ _ _ f1 f2 g1 g2 σ _ _ hT er eb hB hI hC hσ e1 e2 m1 m2 m3 m4 =>
      refine Tow.of_four (f1 := g1) (f2 := g2) (g1 := f1 - q * g1) (g2 := f2 - q * g2) (σ := σ) hT er (by rw [decide_eq_true (Nat.succ_pos _)]) hB hI (hC.step hp) hσ e2 ?_ ?_ ?_ ?_ ?_ rfl rfl (by grind) (by grind)
      · rw [cast_sub, cast_sub, cast_mul, cast_mul]; grind
      · rw [show (P * q + P') * g1 + P * (f1 - q * g1) = P * f1 + P' * g1 by grind]; exact m1
      · rw [show (P * q + P') * g2 + P * (f2 - q * g2) = P * f2 + P' * g2 by grind]; exact m2
      · rw [show (Q * q + Q') * g1 + Q * (f1 - q * g1) = Q * f1 + Q' * g1 by grind]; exact m3
      · rw [show (Q * q + Q') * g2 + Q * (f2 - q * g2) = Q * f2 + Q' * g2 by grind]; exact m4
  | @foWait a b c e rdy bg x m i x' m' _ _ _ _ hsn ht ih =>
    intro l t U V W W' P P' Q Q' N X h hp hN hX hF hm
    cases h with
    | leaf _ _ _ hr => obtain ⟨_, _, _, _, _, z⟩ := hr; cases z
    | four hT er eb hB hI hC hσ e1 e2 m1 m2 m3 m4 =>
      obtain ⟨M, hM⟩ := exists_part _ (hT.base.2.2.next hT.base.1 0).1
      rw [er] at hsn
      have k := tow_in hT hB hI hC hσ e1 e2 m1 m2 m3 m4 hp hN hX hsn hM
      have hK := Int.mul_le_mul_of_nonneg_left hX (show (0 : Int) ≤ KT by decide)
      have k1 : (1 : Int) ≤ KT := by decide
      obtain ⟨z, _⟩ := ih hT hM k (by omega) (by rw [← Int.mul_assoc, ← Int.pow_succ]; exact hF) hm
      cases z
  | @foNo a b c e rdy bg x m i x' m' _ _ _ _ hsn ht ih =>
    intro l t U V W W' P P' Q Q' N X h hp hN hX hF hm
    cases h with
    | leaf _ _ _ hr => obtain ⟨_, _, _, _, _, z⟩ := hr; cases z
    | four hT er eb hB hI hC hσ e1 e2 m1 m2 m3 m4 =>
      obtain ⟨M, hM⟩ := exists_part _ (hT.base.2.2.next hT.base.1 0).1
      rw [er] at hsn
      have k := tow_in hT hB hI hC hσ e1 e2 m1 m2 m3 m4 hp hN hX hsn hM
      have hK := Int.mul_le_mul_of_nonneg_left hX (show (0 : Int) ≤ KT by decide)
      have k1 : (1 : Int) ≤ KT := by decide
      obtain ⟨z, _⟩ := ih hT hM k (by omega) (by rw [← Int.mul_assoc, ← Int.pow_succ]; exact hF) hm
      cases z
  | @foEnd a b c e rdy bg x m i x' m1' t' b' g' m' ans _ _ _ _ hsn ht hf ih _ =>
    intro l t U V W W' P P' Q Q' N X h hp hN hX hF hm
    cases h with
    | leaf _ _ _ hr => obtain ⟨_, _, _, _, _, z⟩ := hr; cases z
    | four hT er eb hB hI hC hσ e1 e2 m1 m2 m3 m4 =>
      obtain ⟨M, hM⟩ := exists_part _ (hT.base.2.2.next hT.base.1 0).1
      rw [er] at hsn
      have k := tow_in hT hB hI hC hσ e1 e2 m1 m2 m3 m4 hp hN hX hsn hM
      have hK := Int.mul_le_mul_of_nonneg_left hX (show (0 : Int) ≤ KT by decide)
      have k1 : (1 : Int) ≤ KT := by decide
      obtain ⟨z, _⟩ := ih hT hM k (by omega) (by rw [← Int.mul_assoc, ← Int.pow_succ]; exact hF) hm
      cases z
  | @foIn a b c e rdy bg x m i x' m1' q n r' m' ans _ _ _ _ hsn ht _ ht2 ih ih2 =>
    intro l t U V W W' P P' Q Q' N X h hp hN hX hF hm
    cases h with
    | leaf _ _ _ hr => obtain ⟨_, _, _, _, _, z⟩ := hr; cases z
    | @four l n _ _ u v y y' _ _ _ _ p p' q1 q1' _ _ _ _ f1 f2 g1 g2 σ _ _ hT er eb hB hI hC hσ e1 e2 m1 m2 m3 m4 =>
      obtain ⟨M, hM⟩ := exists_part _ (hT.base.2.2.next hT.base.1 0).1
      rw [er] at hsn
      have k := tow_in hT hB hI hC hσ e1 e2 m1 m2 m3 m4 hp hN hX hsn hM
      have hK := Int.mul_le_mul_of_nonneg_left hX (show (0 : Int) ≤ KT by decide)
      have k1 : (1 : Int) ≤ KT := by decide
      obtain ⟨z, hT2⟩ := ih hT hM k (by omega) (by rw [← Int.mul_assoc, ← Int.pow_succ]; exact hF) hm
      cases z
      have hm2 := ht.tkm
      refine ih2 (Tow.of_four (f1 := f1) (f2 := f2) (g1 := g1) (g2 := g2) (σ := σ) hT2 (by rw [decide_eq_true (Nat.succ_pos _)]) eb hB hI hC hσ e1 e2 m1 m2 m3 m4 (by grind) rfl (by grind) rfl) hp hN hX hF ?_
      show 900 ≤ (x'.tk : Int) + m1'
      have : (R.four (f1 * p + f2 * q1) (f1 * p' + f2 * q1') (g1 * p + g2 * q1) (g1 * p' + g2 * q1') rdy bg x).tk = x.tk := rfl
      rw [this] at hm
      omega
  | _ =>
    intro l t U V W W' P P' Q Q' N X h
    cases h with
    | leaf _ _ _ hr => obtain ⟨_, _, _, _, _, z⟩ := hr; cases z
end
end PL
namespace PL
open Lean.Grind
/-- over a leaf that ends -/
inductive FinT (K : Nat) : R → Prop
  | frac {k : Nat} {t b : Int} : k + (chainF t b).length ≤ K → FinT K (.frac k t b)
  | ruled {k : Nat} {ps steps : List Int} : k ≤ ps.length → ps.length ≤ K → FinT K (.ruled k ps [] steps)
  | four {a b c e : Int} {rdy bg : Bool} {x : R} : FinT K x → FinT K (.four a b c e rdy bg x)
  | fourX {x : R} {t b : Int} {g : Bool} : FinT K x → FinT K (.fourX x t b g)
theorem FinT.tk {K : Nat} {r : R} (h : FinT K r) : r.tk ≤ K := by
  induction h with
  | frac h => exact Nat.le_trans (Nat.le_add_right _ _) h
  | ruled h1 h2 => exact Nat.le_trans h1 h2
  | four _ ih => exact ih
  | fourX _ ih => exact ih
theorem fin_told {K : Nat} {n : Nat} {r r' : R} {m m' : Int} {ans : Ans} (ht : Told n r m r' m' ans) : FinT K r → FinT K r' ∧ (ans = .waits → m' = 0) := by
  induction ht with
  | frEnd => exact fun h => ⟨h, fun z => by cases z⟩
  | frWait _ => exact fun h => ⟨h, fun _ => rfl⟩
  | frPart hb =>
    intro h
    cases h with
    | frac h =>
      refine ⟨.frac ?_, fun z => by cases z⟩
      rw [sub_fdiv]
      rw [chainF_step hb, List.length_cons] at h
      omega
  | ruEnd _ => exact fun h => ⟨h, fun z => by cases z⟩
  | ruWait _ => exact fun h => ⟨h, fun _ => rfl⟩
  | ruPart h1 =>
    intro h
    cases h with
    | ruled h3 h2 => exact ⟨.ruled (h1 rfl) h2, fun z => by cases z⟩
  | foTell =>
    intro h
    cases h with
    | four h => exact ⟨.four h, fun z => by cases z⟩
  | foWait _ _ _ _ _ _ ih =>
    intro h
    cases h with
    | four h => exact ⟨.four (ih h).1, (ih h).2⟩
  | foNo _ _ _ _ _ _ ih =>
    intro h
    cases h with
    | four h => exact ⟨.four (ih h).1, fun z => by cases z⟩
  | foEnd _ _ _ _ _ _ hf ih _ =>
    intro h
    cases h with
    | four h => exact ⟨.fourX (ih h).1, fun z => absurd z (fixed_told hf)⟩
  | foIn _ _ _ _ _ _ _ _ ih ih2 =>
    intro h
    cases h with
    | four h => exact ih2 (.four (ih h).1)
  | fxX ht =>
    intro h
    cases h with
    | fourX h => exact ⟨.fourX h, fun z => absurd z (fixed_told ht)⟩
  | _ => intro h; cases h
section
variable {d : Int} [hs : NS d]
/-- fours over one that divides by nought -/
inductive DeadF (d : Int) [NS d] : R → Prop
  | base {r : R} : Dead (Zd d) r → DeadF d r
  | four {a b c e : Int} {x : R} : DeadF d x → DeadF d (.four a b c e false false x)
theorem dead_f {r : R} (h : DeadF d r) : ∀ {n : Nat} {r' : R} {m m' : Int} {ans : Ans}, Told n r m r' m' ans → DeadF d r' ∧ (ans = .waits ∨ ans = .none) := by
  induction h with
  | base h => exact fun ht => ⟨.base (dead ht h).1, (dead ht h).2⟩
  | four _ ih =>
    intro n r' m m' ans ht
    cases ht with
    | foTell _ _ _ _ hs => cases hs
    | foWait _ _ _ _ _ t => exact ⟨.four (ih t).1, .inl rfl⟩
    | foNo _ _ _ _ _ t => exact ⟨.four (ih t).1, .inr rfl⟩
    | foEnd _ _ _ _ _ t _ => rcases (ih t).2 with z | z <;> cases z
    | foIn _ _ _ _ _ t _ _ => rcases (ih t).2 with z | z <;> cases z
/-- the value of a four -/
theorem box4_va {a b c e : Int} {q p : T3} {u v : Zd d} (hn : Nm q) (h : Va q u v) (hb : boxL d [a, b, c, e] [some q, some (1, 0, 1)] = some p) : Va p ((a : Zd d) * u + (b : Zd d) * v) ((c : Zd d) * u + (e : Zd d) * v) ∧ Nm p ∧ (c : Zd d) * u + (e : Zd d) * v ≠ 0 := by
  obtain ⟨g1, n1⟩ := mix2_va (a := a) (b := b) hn h
  obtain ⟨g2, n2⟩ := mix2_va (a := c) (b := e) hn h
  obtain ⟨k, n3, z⟩ := quot_va (nm_ne n1) (nm_ne n2) g1 g2 hb
  have v0 := va_ne (nm_ne hn) h
  exact ⟨Pr.trans ⟨by grind, fun y => z y.2, fun y => mul_ne v0 z y.2⟩ k, n3, z⟩
theorem box4_no {a b c e : Int} {q : T3} {u v : Zd d} (hn : Nm q) (h : Va q u v) (hb : boxL d [a, b, c, e] [some q, some (1, 0, 1)] = none) : (c : Zd d) * u + (e : Zd d) * v = 0 := by
  obtain ⟨g2, n2⟩ := mix2_va (a := c) (b := e) hn h
  exact (quot_none (nm_ne n2) g2).mp hb
theorem sem_four {a b c e : Int} {x : R} {u v : Zd d} (h : Sem (Zd d) false x u v) (h0 : (c : Zd d) * u + (e : Zd d) * v ≠ 0) : Sem (Zd d) false (.four a b c e false false x) ((a : Zd d) * u + (b : Zd d) * v) ((c : Zd d) * u + (e : Zd d) * v) :=
  ⟨rfl, fun _ => h0, u, v, h, fun z => absurd z (by decide), Pr.refl fun z => h0 z.2⟩
theorem dead_four {a b c e : Int} {x : R} {u v : Zd d} (hdet : a * e ≠ b * c) (h : Sem (Zd d) false x u v) (h0 : (c : Zd d) * u + (e : Zd d) * v = 0) : Dead (Zd d) (.four a b c e false false x) :=
  ⟨rfl, u, v, h, fun z => absurd z (by decide), h0, det_c hdet h0 h.nz.1⟩
/-- one four more over a root -/
theorem Tow.up {l : Nat} {x : R} {u v : Zd d} {a b c e B : Int} (h : Tow l x 0 u v 1 0 0 1 u v) (hB : Sv u v B) (hK : 8 * B ≤ KB) (hdet : a * e ≠ b * c) (hm : ∀ n ∈ [a, b, c, e], n.natAbs ≤ 4) :
    ∃ σ : Int, (σ = 1 ∨ σ = -1) ∧ Tow (l + 1) (.four a b c e false false x) 0 ((σ : Zd d) * ((a : Zd d) * u + (b : Zd d) * v)) ((σ : Zd d) * ((c : Zd d) * u + (e : Zd d) * v)) 1 0 0 1 ((σ : Zd d) * ((a : Zd d) * u + (b : Zd d) * v)) ((σ : Zd d) * ((c : Zd d) * u + (e : Zd d) * v)) ∧
      Sv ((σ : Zd d) * ((a : Zd d) * u + (b : Zd d) * v)) ((σ : Zd d) * ((c : Zd d) * u + (e : Zd d) * v)) (8 * B) := by
  obtain ⟨c0, _, hI⟩ := h.base
  have B0 := hB.b1.nn
  have ma := hm a (by simp)
  have mb := hm b (by simp)
  have mc := hm c (by simp)
  have me := hm e (by simp)
  have hne : (c : Zd d) * u + (e : Zd d) * v ≠ 0 := fun z => by
    obtain ⟨z1, z2⟩ := hI c e z
    subst z1 z2
    exact hdet (by rw [Int.mul_zero, Int.mul_zero])
  obtain ⟨σ, hσ, hp⟩ : ∃ σ : Int, (σ = 1 ∨ σ = -1) ∧ 0 < (σ : Zd d) * ((c : Zd d) * u + (e : Zd d) * v) := by
    rcases lt_or ((c : Zd d) * u + (e : Zd d) * v) 0 with z | z | z
    · exact ⟨-1, .inr rfl, by rw [cast_neg, cast_one]; grind⟩
    · exact absurd z hne
    · exact ⟨1, .inl rfl, by rw [cast_one]; grind⟩
  have sg : (σ : Zd d) * σ = 1 := by
    rcases hσ with rfl | rfl
    · rw [cast_one]; grind
    · rw [cast_neg, cast_one]; grind
  have bd : ∀ {x y : Int} {U V : Zd d}, x.natAbs ≤ 4 → y.natAbs ≤ 4 → Bd U B → Bd V B → Bd ((σ : Zd d) * ((x : Zd d) * U + (y : Zd d) * V)) (8 * B) := fun {x y U V} h1 h2 h3 h4 => by
    have := (Bd.int (A := Zd d) (n := σ) (B := 1) (by omega)).mul (((Bd.int (A := Zd d) (n := x) (B := 4) (by omega)).mul h3).add ((Bd.int (A := Zd d) (n := y) (B := 4) (by omega)).mul h4))
    refine this.up ?_
    omega
  have sv : Sv ((σ : Zd d) * ((a : Zd d) * u + (b : Zd d) * v)) ((σ : Zd d) * ((c : Zd d) * u + (e : Zd d) * v)) (8 * B) := by
    refine ⟨bd ma mb hB.b1 hB.b2, bd mc me hB.b1 hB.b2, ?_, ?_⟩
    · simp only [cj_mul, cj_add, cj_int]
      exact bd ma mb hB.b3 hB.b4
    · simp only [cj_mul, cj_add, cj_int]
      exact bd mc me hB.b3 hB.b4
  have irr : Irr ((σ : Zd d) * ((a : Zd d) * u + (b : Zd d) * v)) ((σ : Zd d) * ((c : Zd d) * u + (e : Zd d) * v)) := fun i j z => by
    obtain ⟨z1, z2⟩ := hI (i * a + j * c) (i * b + j * e) (by
      have k : (σ : Zd d) * ((i : Zd d) * ((σ : Zd d) * ((a : Zd d) * u + (b : Zd d) * v)) + j * ((σ : Zd d) * ((c : Zd d) * u + (e : Zd d) * v))) = ((σ : Zd d) * σ) * ((((i * a + j * c : Int)) : Zd d) * u + ((i * b + j * e : Int) : Zd d) * v) := by
        rw [cast_add, cast_add, cast_mul, cast_mul, cast_mul, cast_mul]; grind
      rw [z, sg] at k
      grind)
    have d1 : (a * e - b * c) * i = 0 := by
      have : (i * a + j * c) * e - (i * b + j * e) * c = (a * e - b * c) * i := by grind
      rw [← this, z1, z2]; simp
    have d2 : (a * e - b * c) * j = 0 := by
      have : (i * b + j * e) * a - (i * a + j * c) * b = (a * e - b * c) * j := by grind
      rw [← this, z1, z2]; simp
    have dn : a * e - b * c ≠ 0 := by omega
    rcases Int.mul_eq_zero.mp d1 with y | y
    · exact absurd y dn
    rcases Int.mul_eq_zero.mp d2 with y2 | y2
    · exact absurd y2 dn
    exact ⟨y, y2⟩
  refine ⟨σ, hσ, ?_, sv⟩
  refine Tow.of_four (f1 := a) (f2 := b) (g1 := c) (g2 := e) (σ := σ) h rfl rfl (sv.up hK) irr (Cv.start hp) hσ ?_ ?_ ?_ ?_ ?_ ?_ ?_ ?_ ?_ ?_
  · have : (σ : Zd d) * ((σ : Zd d) * ((a : Zd d) * u + (b : Zd d) * v)) = ((σ : Zd d) * σ) * ((a : Zd d) * u + (b : Zd d) * v) := by grind
    rw [this, sg]; grind
  · have : (σ : Zd d) * ((σ : Zd d) * ((c : Zd d) * u + (e : Zd d) * v)) = ((σ : Zd d) * σ) * ((c : Zd d) * u + (e : Zd d) * v) := by grind
    rw [this, sg]; grind
  all_goals omega
/-- the root's own parts are bounded -/
theorem next_few {t : Nat} {U V W W' : Zd d} {P P' Q Q' N B : Int} (h : Cv t U V P P' Q Q' W W') (hB : Sv U V B) (b1 : 1 ≤ 3 * B * B) (hp : IsPart N W W') (hQ : 1 ≤ t → Q ≤ (3 * B * B) ^ (t - 1)) : Q * N + Q' ≤ (3 * B * B) ^ t := by
  rcases Nat.eq_zero_or_pos t with z | z
  · obtain ⟨a, b⟩ := h.g0 z
    rw [a, b, z]; simp
  · obtain ⟨a, b, c, e⟩ := h.g1 z
    obtain ⟨j, rfl⟩ : ∃ j, t = j + 1 := ⟨t - 1, by omega⟩
    have f1 := fb_pos j
    obtain ⟨_, k⟩ := h.nextPart z hB (by omega) hp
    have k2 := Int.mul_le_mul_of_nonneg_left (hQ z) (show 0 ≤ 3 * B * B by omega)
    rw [Int.pow_succ, Int.mul_comm (_ ^ j)]
    have e : j + 1 - 1 = j := by omega
    rw [e] at k2
    omega
theorem pow_mono {b : Int} (h : 1 ≤ b) {i j : Nat} (hij : i ≤ j) : b ^ i ≤ b ^ j := by
  induction hij with
  | refl => exact Int.le_refl _
  | @step m _ ih =>
    have p : 0 < b ^ m := Int.pow_pos (by omega)
    have := Int.mul_le_mul_of_nonneg_left h (Int.le_of_lt p)
    rw [Int.pow_succ]
    omega
/-- a reader of fours over a root, whose number is again the root's -/
structure Back (l : Nat) (r : R) (t : Nat) (P P' Q Q' : Int) : Prop where
  ex : ∃ (U V W W' U0 V0 W0 W0' : Zd d) (k : Int), Tow l r t U V P P' Q Q' W W' ∧ Cv t U0 V0 P P' Q Q' W0 W0' ∧ Sv U0 V0 68 ∧ k ≠ 0 ∧ W = k * W0 ∧ W' = k * W0' ∧ (1 ≤ t → Q ≤ (3 * 68 * 68) ^ (t - 1))
theorem Back.told {l n t : Nat} {r r' : R} {m m' : Int} {ans : Ans} {P P' Q Q' : Int} (h : Back (d := d) l r t P P' Q Q') (ht : Told n r m r' m' ans) (hl : l ≤ 4) (h11 : t ≤ 11) (hm : 900 ≤ (r.tk : Int) + m) : ∃ N, ans = .part N ∧ Back (d := d) l r' (t + 1) (P * N + P') P (Q * N + Q') Q := by
  obtain ⟨U, V, W, W', U0, V0, W0, W0', k, hT, hC, hB, hk, e1, e2, hQ⟩ := h.ex
  have i1 := (hT.base.2.2.next hT.base.1 0).1
  obtain ⟨N, hN⟩ := exists_part W i1
  have k0 : (k : Zd d) ≠ 0 := cast_ne hk
  have w0 : W0' ≠ 0 := fun z => i1 (by rw [e2, z]; grind)
  have hN0 : IsPart N W0 W0' := hN.of_pr ⟨by rw [e1, e2]; grind, fun z => w0 z.2, fun z => i1 z.2⟩
  have hf := next_few hC hB (by decide) hN0 hQ
  have up : (3 * 68 * 68 : Int) ^ t ≤ (3 * 68 * 68) ^ 11 := pow_mono (by decide) h11
  have kl : KT ^ l ≤ KT ^ 4 := pow_mono (by decide) hl
  have km : KT ^ l * (3 * 68 * 68) ^ 11 ≤ KT ^ 4 * (3 * 68 * 68) ^ 11 := Int.mul_le_mul_of_nonneg_right kl (by decide)
  have kf : KT ^ 4 * (3 * 68 * 68) ^ 11 < fb 900 := by decide +kernel
  obtain ⟨rfl, hT2⟩ := tow_told ht hT hN (Int.le_trans hf up) (by decide) (Int.lt_of_le_of_lt km kf) hm
  refine ⟨N, rfl, ⟨U, V, _, _, U0, V0, _, _, k, hT2, hC.step hN0, hB, hk, e2, ?_, fun _ => ?_⟩⟩
  · rw [e1, e2]; grind
  · rw [show t + 1 - 1 = t by omega]
    exact hf
end
end PL
namespace PL
open Lean.Grind
abbrev Q4 := Int × Int × Int × Int
def Q4.inv (n : Q4) : Q4 := (n.2.2.2, 0 - n.2.1, 0 - n.2.2.1, n.1)
def Q4.tr (n : Q4) (x : Tr) : Tr := .four n.1 n.2.1 n.2.2.1 n.2.2.2 x
def Q4.r (n : Q4) (x : R) : R := .four n.1 n.2.1 n.2.2.1 n.2.2.2 false false x
def Gq4 (n : Q4) : Prop := (∀ v ∈ [n.1, n.2.1, n.2.2.1, n.2.2.2], v.natAbs ≤ 4) ∧ n.1 * n.2.2.2 ≠ n.2.1 * n.2.2.1
theorem Gq4.inv {n : Q4} (h : Gq4 n) : Gq4 n.inv := by
  obtain ⟨a, b, c, e⟩ := n
  obtain ⟨h1, h2⟩ := h
  simp only [List.mem_cons, List.not_mem_nil, or_false, forall_eq_or_imp, forall_eq] at h1
  refine ⟨?_, ?_⟩
  · show ∀ v ∈ [e, 0 - b, 0 - c, a], v.natAbs ≤ 4
    simp only [List.mem_cons, List.not_mem_nil, or_false, forall_eq_or_imp, forall_eq]
    omega
  · show e * a ≠ (0 - b) * (0 - c)
    have h2 : a * e ≠ b * c := h2
    intro z
    apply h2
    grind
def nestTr : List Q4 → Tr → Tr
  | [], x => x
  | n :: fs, x => n.inv.tr (nestTr fs (n.tr x))
def nestR : List Q4 → R → R
  | [], x => x
  | n :: fs, x => n.inv.r (nestR fs (n.r x))
def towTr : List Q4 → Tr → Tr := fun fs x => fs.foldl (fun x n => n.tr x) x
theorem nest_tow : ∀ (fs : List Q4) (x : Tr), towTr (fs.reverse.map Q4.inv) (towTr fs x) = nestTr fs x
  | [], x => rfl
  | n :: fs, x => by
    have ih := nest_tow fs (n.tr x)
    unfold towTr at ih ⊢
    rw [List.reverse_cons, List.map_append, List.foldl_append, List.foldl_cons]
    unfold nestTr
    rw [← ih]
    rfl
theorem opened_nest : ∀ (fs : List Q4) {x : Tr} {r : R}, Opened (nestTr fs x) r → ∃ r0, Opened x r0 ∧ r = nestR fs r0
  | [], x, r, h => ⟨r, h, rfl⟩
  | n :: fs, x, r, h => by
    have h : Opened (.four n.inv.1 n.inv.2.1 n.inv.2.2.1 n.inv.2.2.2 (nestTr fs (n.tr x))) r := h
    cases h with
    | four h0 =>
      obtain ⟨r1, h1, rfl⟩ := opened_nest fs h0
      have h1 : Opened (.four n.1 n.2.1 n.2.2.1 n.2.2.2 x) r1 := h1
      cases h1 with
      | four h2 => exact ⟨_, h2, rfl⟩
theorem nest_good : ∀ (fs : List Q4) {x : Tr} {k : Nat}, (∀ n ∈ fs, Gq4 n) → x.good k → (nestTr fs x).good (k + 2 * fs.length)
  | [], x, k, _, h => h
  | n :: fs, x, k, hg, h => by
    have gn := hg n (by simp)
    have fw : ∀ {v : Int}, v.natAbs ≤ 4 → Few v := fun {v} h => Nat.le_trans h (by decide)
    have one : ∀ {m : Q4} {y : Tr} {j : Nat}, Gq4 m → y.good j → (m.tr y).good (j + 1) := fun {m y j} h1 h2 =>
      ⟨fw (h1.1 _ (by simp)), fw (h1.1 _ (by simp)), fw (h1.1 _ (by simp)), fw (h1.1 _ (by simp)), h1.2, h2⟩
    have ih := nest_good fs (fun m hm => hg m (by simp [hm])) (one gn h)
    have := one gn.inv ih
    rw [show k + 1 + 2 * fs.length + 1 = k + 2 * (n :: fs).length by rw [List.length_cons]; omega] at this
    exact this
theorem fin_nest {K : Nat} : ∀ (fs : List Q4) {x : R}, FinT K x → FinT K (nestR fs x)
  | [], x, h => h
  | n :: fs, x, h => .four (fin_nest fs (.four h))
section
variable {d : Int} [hs : NS d]
def valF (d : Int) : List Q4 → Option T3 → Option T3 := fun fs o => fs.foldl (fun o n => boxL d [n.1, n.2.1, n.2.2.1, n.2.2.2] [o, some (1, 0, 1)]) o
theorem valF_none : ∀ fs, valF d fs none = none
  | [] => rfl
  | n :: fs => valF_none fs
theorem dead_nest : ∀ (fs : List Q4) {x : R}, DeadF d x → DeadF d (nestR fs x)
  | [], x, h => h
  | n :: fs, x, h => .four (dead_nest fs (.four h))
theorem sem_nest : ∀ (fs : List Q4) {x : R} {q : T3} {u v : Zd d}, (∀ n ∈ fs, Gq4 n) → Nm q → Va q u v → Sem (Zd d) false x u v → (valF d fs (some q) = none ∧ DeadF d (nestR fs x)) ∨ (valF d fs (some q) ≠ none ∧ Sem (Zd d) false (nestR fs x) u v)
  | [], x, q, u, v, _, _, _, h => .inr ⟨by simp [valF], h⟩
  | n :: fs, x, q, u, v, hg, hn, hv, h => by
    obtain ⟨a, b, c, e⟩ := n
    obtain ⟨g1, g2⟩ := hg (a, b, c, e) (by simp)
    have g2 : a * e ≠ b * c := g2
    have v0 := va_ne (nm_ne hn) hv
    have ev : valF d ((a, b, c, e) :: fs) (some q) = valF d fs (boxL d [a, b, c, e] [some q, some (1, 0, 1)]) := rfl
    rw [ev]
    cases hb : boxL d [a, b, c, e] [some q, some (1, 0, 1)] with
    | none =>
      refine .inl ⟨valF_none fs, ?_⟩
      exact .four (dead_nest fs (.base (dead_four g2 h (box4_no hn hv hb))))
    | some p =>
      obtain ⟨k1, k2, k3⟩ := box4_va hn hv hb
      have s1 : Sem (Zd d) false (Q4.r (a, b, c, e) x) _ _ := sem_four (a := a) (b := b) h k3
      rcases sem_nest fs (fun m hm => hg m (by simp [hm])) k2 k1 s1 with ⟨z1, z2⟩ | ⟨z1, z2⟩
      · exact .inl ⟨z1, .four z2⟩
      · refine .inr ⟨z1, ?_⟩
        have dn : (((a * e - b * c : Int)) : Zd d) ≠ 0 := cast_ne (by omega)
        have e1 : ((e : Int) : Zd d) * (((a : Int) : Zd d) * u + ((b : Int) : Zd d) * v) + (((0 - b : Int)) : Zd d) * (((c : Int) : Zd d) * u + ((e : Int) : Zd d) * v) = (((a * e - b * c : Int)) : Zd d) * u := by
          simp only [cast_sub, cast_mul, cast_zero]; grind
        have e2 : (((0 - c : Int)) : Zd d) * (((a : Int) : Zd d) * u + ((b : Int) : Zd d) * v) + ((a : Int) : Zd d) * (((c : Int) : Zd d) * u + ((e : Int) : Zd d) * v) = (((a * e - b * c : Int)) : Zd d) * v := by
          simp only [cast_sub, cast_mul, cast_zero]; grind
        have nz : (((0 - c : Int)) : Zd d) * (((a : Int) : Zd d) * u + ((b : Int) : Zd d) * v) + ((a : Int) : Zd d) * (((c : Int) : Zd d) * u + ((e : Int) : Zd d) * v) ≠ 0 := by
          rw [e2]; exact mul_ne dn v0
        have s2 := sem_four (a := e) (b := 0 - b) (c := 0 - c) (e := a) z2 nz
        rw [e1, e2] at s2
        exact s2.of_pr ⟨by grind, fun z => v0 z.2, fun z => mul_ne dn v0 z.2⟩ fun _ => v0
theorem tow_nest : ∀ (fs : List Q4) {l : Nat} {x : R} {u v : Zd d} {B : Int}, (∀ n ∈ fs, Gq4 n) → Tow l x 0 u v 1 0 0 1 u v → Sv u v B → 64 ^ fs.length * B ≤ KB →
    ∃ (k : Int) (U V : Zd d), k ≠ 0 ∧ Tow (l + 2 * fs.length) (nestR fs x) 0 U V 1 0 0 1 U V ∧ U = (k : Zd d) * u ∧ V = (k : Zd d) * v ∧ Sv U V (64 ^ fs.length * B)
  | [], l, x, u, v, B, _, h, hB, _ => ⟨1, u, v, by decide, h, by rw [cast_one]; grind, by rw [cast_one]; grind, by simpa using hB⟩
  | n :: fs, l, x, u, v, B, hg, h, hB, hK => by
    obtain ⟨a, b, c, e⟩ := n
    obtain ⟨g1, g2⟩ := hg (a, b, c, e) (by simp)
    have gi := (hg (a, b, c, e) (by simp)).inv
    have g2 : a * e ≠ b * c := g2
    have B0 := hB.b1.nn
    rw [List.length_cons, Int.pow_succ] at hK
    have p1 : (1 : Int) ≤ 64 ^ fs.length := pow_mono (b := 64) (by decide) (Nat.zero_le _)
    have p2 := Int.mul_le_mul_of_nonneg_right p1 (show 0 ≤ 64 * B by omega)
    have e64 : (64 : Int) ^ fs.length * 64 * B = 64 ^ fs.length * (64 * B) := by grind
    have e8 : (64 : Int) ^ fs.length * (64 * B) = 8 * (64 ^ fs.length * (8 * B)) := by grind
    rw [e64] at hK
    obtain ⟨σ, hσ, t1, s1⟩ := h.up (a := a) (b := b) (c := c) (e := e) hB (by omega) g2 g1
    have p3 : 0 ≤ (64 : Int) ^ fs.length * (8 * B) := Int.mul_nonneg (by omega) (by omega)
    obtain ⟨k, U, V, k0, t2, eU, eV, s2⟩ := tow_nest fs (fun m hm => hg m (by simp [hm])) t1 s1 (by omega)
    obtain ⟨τ, hτ, t3, s3⟩ := t2.up (a := e) (b := 0 - b) (c := 0 - c) (e := a) s2 (by omega) gi.2 gi.1
    generalize hU2 : (τ : Zd d) * (((e : Int) : Zd d) * U + (((0 - b : Int)) : Zd d) * V) = U2 at t3 s3
    generalize hV2 : (τ : Zd d) * ((((0 - c : Int)) : Zd d) * U + ((a : Int) : Zd d) * V) = V2 at t3 s3
    refine ⟨τ * (k * (σ * (a * e - b * c))), U2, V2, ?_, ?_, ?_, ?_, ?_⟩
    · refine Int.mul_ne_zero (by omega) (Int.mul_ne_zero k0 (Int.mul_ne_zero (by omega) (by omega)))
    · have : l + 1 + 2 * fs.length + 1 = l + 2 * ((a, b, c, e) :: fs).length := by rw [List.length_cons]; omega
      rw [← this]
      exact t3
    · rw [← hU2, eU, eV]
      simp only [cast_sub, cast_mul, cast_zero]; grind
    · rw [← hV2, eU, eV]
      simp only [cast_sub, cast_mul, cast_zero]; grind
    · rw [List.length_cons, Int.pow_succ, e64, e8]
      exact s3
/-- over a root, it tells all its parts -/
theorem back_of {fs : List Q4} {tr : Tr} {q : T3} {r0 : R} (hg : ∀ n ∈ fs, Gq4 n) (hf : fs.length ≤ 2) (h : TV d 0 tr (some q)) (ho : Opened tr r0) (hd : d ≤ 441) (hr : ∃ k t s b f, r0 = .root k t s b f) (hI : Irr (vu q : Zd d) (vv q)) (hL : LS (vu q : Zd d) (vv q) 68 3) : Back (d := d) (2 * fs.length) (nestR fs r0) 0 1 0 0 1 := by
  obtain ⟨hl, _, tk⟩ := tv_lv h ho hd
  have s68 : Sv (vu q : Zd d) (vv q) 68 := ⟨hL.b1, hL.b2.up (by decide), hL.b3, hL.b4.up (by decide)⟩
  have T0 : Tow (d := d) 0 r0 r0.tk (vu q) (vv q) 1 0 0 1 (vu q) (vv q) := .leaf hl (s68.up (by decide)) hI hr
  rw [tk] at T0
  have hK : (64 : Int) ^ fs.length * 68 ≤ KB := by
    have p : (64 : Int) ^ fs.length ≤ 64 ^ 2 := pow_mono (by decide) hf
    have e : (64 : Int) ^ 2 * 68 ≤ KB := by decide
    have := Int.mul_le_mul_of_nonneg_right p (show (0 : Int) ≤ 68 by decide)
    omega
  obtain ⟨k, U, V, k0, t2, eU, eV, _⟩ := tow_nest fs hg T0 s68 hK
  rw [Nat.zero_add] at t2
  have cv := hl.cv
  rw [tk] at cv
  exact ⟨U, V, U, V, vu q, vv q, vu q, vv q, k, t2, cv, s68, k0, eU, eV, fun z => absurd z (by decide)⟩
end
end PL
namespace PL
open PySem L2
local macro_rules | `(tactic| walk_at "pl") => `(tactic| try simp only [aSeq, aSet, aAsg, agName, agTup, setAll, aVar, aC, aOp, aAdd, aSub, aMul, aFdv, aMod, aPow, aPowB, aShl1, aLt, aLe, aGt, aGe, aEqI, aNeI, aEqD, aNeD, aEqS, aNeS, fI, fB, aIfS, aNext, aRet, aRetN, aDrop, aB, aAnd, aOr, aNot,
  aAndV, aOrV, aNotV, aIf, aCons, aNil, aTup, aLst, aLstO, aCall, fAbs, fIntB, fLen, fListD, fListO, fTuple, aFn, aIx, fIx, aBits, aIsi, aIsN, aNotN, TT2, aSetIx, aApp, aFor, aForT, aForR1, aForR2, aLc, aLcR, aCatL, fCatL, aCatO, fCatO, aCatT, fCatT, aForRev, aForO, aForZipM, aInD, aNotInD, aForZip, aLcZip, aTry, aTryAs, aIsE, aIsET, agTupL, aDGet, aDPut, aDisp, aChain, fLe, fLt, lseq_lst, lseq_o, aFrz, aTake, aFld, agFld, agNew, aMeth, aMake, agTupG, glNil, glCons, aRaise, fInI, aNever, Prod.mk.injEq, AO.obj.injEq, and_assoc, aSl, aPart, aNoPart, reduceCtorEq, false_and, and_false, exists_false, or_false, false_or, exists_const, aPar, astart, seq_lst, seq_tup, seq_o, ty_int, ty_bl, isT_ii, isT_ib, isT_bi, isT_bb, isT_tt, isT_ss, isT_ll, ty_tup, ty_str, ty_lst, ty_non, at_0, at_1, at_2, at_3, at_l, ix_40, ix_41, ix_42, ix_43, aAsRow, oset_same, oset_oset, AO.lst.injEq, List.cons.injEq,
  List.map_cons, List.map_nil, List.length_cons, List.length_nil, List.replicate, Nat.sub_self, Nat.zero_add, Nat.reduceSub, Nat.reduceAdd, List.cons_append, List.nil_append, List.append_nil, List.set_cons_zero, List.set_cons_succ, List.getElem?_cons_zero, List.getElem?_cons_succ,
  Option.some.injEq, D.int.injEq, D.bl.injEq, D.str.injEq, D.o.injEq, D.lst.injEq, D.tup.injEq, exists_and_left, exists_eq_left', exists_eq_left, true_and, and_true, decide_eq_true_eq, Bool.true_eq_false, Bool.false_eq_true, if_true, if_false, Int.toNat_natCast])
local macro_rules | `(tactic| walk_at "nm") => `(tactic| (intro z; simp only [List.map_cons, List.map_nil, List.mem_cons, List.not_mem_nil, or_false] at z; try (revert z; decide)))
theorem boot_ty_int : bootBuiltins "int" = some (.type "int") := by decide +kernel
theorem boot_ty_bool : bootBuiltins "bool" = some (.type "bool") := by decide +kernel
theorem boot_ty_tuple : bootBuiltins "tuple" = some (.type "tuple") := by decide +kernel
theorem sq_nn (x : Int) : 0 ≤ x * x := by
  rcases Int.le_total 0 x with h | h
  · exact Int.mul_nonneg h h
  · exact Int.mul_nonneg_of_nonpos_of_nonpos h h
def topS (i : Nat) : Stmt := PySem.Challenge.pw_chainparts_k22_whole_there_and_back.main.body.getD i (.Pass ⟨0, 0, 0, 0⟩)
abbrev s_root_below : Stmt := topS 5
theorem sc_root_below : FnScope ["number", "found"] ["number"] (defScope s_root_below) := ⟨rfl, rfl, rfl, by decide +kernel, rfl, by decide +kernel, by decide +kernel⟩
abbrev s_Purse___init__ : Stmt := inClass (topS 7) 0
theorem sc_Purse___init__ : FnScope ["self", "left"] ["self", "left"] (defScope s_Purse___init__) := ⟨rfl, rfl, rfl, by decide +kernel, rfl, by decide +kernel, by decide +kernel⟩
abbrev s_Reader_part : Stmt := inClass (topS 8) 0
theorem sc_Reader_part : FnScope ["self", "most"] ["self", "most"] (defScope s_Reader_part) := ⟨rfl, rfl, rfl, by decide +kernel, rfl, by decide +kernel, by decide +kernel⟩
abbrev s_Reader_took : Stmt := inClass (topS 8) 2
theorem sc_Reader_took : FnScope ["self"] ["self"] (defScope s_Reader_took) := ⟨rfl, rfl, rfl, by decide +kernel, rfl, by decide +kernel, by decide +kernel⟩
abbrev s_Fixed___init__ : Stmt := inClass (topS 9) 0
theorem sc_Fixed___init__ : FnScope ["self", "top", "below", "begun"] ["self", "top", "below", "begun"] (defScope s_Fixed___init__) := ⟨rfl, rfl, rfl, by decide +kernel, rfl, by decide +kernel, by decide +kernel⟩
abbrev s_Fixed_told : Stmt := inClass (topS 9) 1
theorem sc_Fixed_told : FnScope ["self", "purse", "found"] ["self", "purse"] (defScope s_Fixed_told) := ⟨rfl, rfl, rfl, by decide +kernel, rfl, by decide +kernel, by decide +kernel⟩
abbrev s_Leaf___init__ : Stmt := inClass (topS 10) 0
theorem sc_Leaf___init__ : FnScope ["self"] ["self"] (defScope s_Leaf___init__) := ⟨rfl, rfl, rfl, by decide +kernel, rfl, by decide +kernel, by decide +kernel⟩
abbrev s_Leaf_told : Stmt := inClass (topS 10) 1
theorem sc_Leaf_told : FnScope ["self", "purse"] ["self", "purse"] (defScope s_Leaf_told) := ⟨rfl, rfl, rfl, by decide +kernel, rfl, by decide +kernel, by decide +kernel⟩
abbrev s_Leaf_at_end : Stmt := inClass (topS 10) 2
theorem sc_Leaf_at_end : FnScope ["self"] ["self"] (defScope s_Leaf_at_end) := ⟨rfl, rfl, rfl, by decide +kernel, rfl, by decide +kernel, by decide +kernel⟩
abbrev s_Leaf_took : Stmt := inClass (topS 10) 4
theorem sc_Leaf_took : FnScope ["self"] ["self"] (defScope s_Leaf_took) := ⟨rfl, rfl, rfl, by decide +kernel, rfl, by decide +kernel, by decide +kernel⟩
abbrev s_Fraction___init__ : Stmt := inClass (topS 11) 0
theorem sc_Fraction___init__ : FnScope ["self", "top", "below"] ["self", "top", "below"] (defScope s_Fraction___init__) := ⟨rfl, rfl, rfl, by decide +kernel, rfl, by decide +kernel, by decide +kernel⟩
abbrev s_Fraction_at_end : Stmt := inClass (topS 11) 1
theorem sc_Fraction_at_end : FnScope ["self"] ["self"] (defScope s_Fraction_at_end) := ⟨rfl, rfl, rfl, by decide +kernel, rfl, by decide +kernel, by decide +kernel⟩
abbrev s_Fraction_following : Stmt := inClass (topS 11) 2
theorem sc_Fraction_following : FnScope ["self", "found"] ["self"] (defScope s_Fraction_following) := ⟨rfl, rfl, rfl, by decide +kernel, rfl, by decide +kernel, by decide +kernel⟩
abbrev s_Root___init__ : Stmt := inClass (topS 12) 0
theorem sc_Root___init__ : FnScope ["self", "top", "square", "below"] ["self", "top", "square", "below"] (defScope s_Root___init__) := ⟨rfl, rfl, rfl, by decide +kernel, rfl, by decide +kernel, by decide +kernel⟩
abbrev s_Root_following : Stmt := inClass (topS 12) 1
theorem sc_Root_following : FnScope ["self", "found"] ["self"] (defScope s_Root_following) := ⟨rfl, rfl, rfl, by decide +kernel, rfl, by decide +kernel, by decide +kernel⟩
abbrev s_Ruled___init__ : Stmt := inClass (topS 13) 0
theorem sc_Ruled___init__ : FnScope ["self", "parts", "ring", "steps"] ["self", "parts", "ring", "steps"] (defScope s_Ruled___init__) := ⟨rfl, rfl, rfl, by decide +kernel, rfl, by decide +kernel, by decide +kernel⟩
abbrev s_Ruled_at_end : Stmt := inClass (topS 13) 1
theorem sc_Ruled_at_end : FnScope ["self"] ["self"] (defScope s_Ruled_at_end) := ⟨rfl, rfl, rfl, by decide +kernel, rfl, by decide +kernel, by decide +kernel⟩
abbrev s_Ruled_following : Stmt := inClass (topS 13) 2
theorem sc_Ruled_following : FnScope ["self", "at", "turn"] ["self"] (defScope s_Ruled_following) := ⟨rfl, rfl, rfl, by decide +kernel, rfl, by decide +kernel, by decide +kernel⟩
abbrev s_root_of : Stmt := topS 14
theorem sc_root_of : FnScope ["top", "square", "below", "floor", "size"] ["top", "square", "below"] (defScope s_root_of) := ⟨rfl, rfl, rfl, by decide +kernel, rfl, by decide +kernel, by decide +kernel⟩
abbrev s_below_all : Stmt := topS 16
theorem sc_below_all : FnScope ["corners", "top", "below", "least", "rest"] ["corners"] (defScope s_below_all) := ⟨rfl, rfl, rfl, by decide +kernel, rfl, by decide +kernel, by decide +kernel⟩
abbrev s_Four___init__ : Stmt := inClass (topS 17) 0
theorem sc_Four___init__ : FnScope ["self", "numbers", "inner", "ready", "begun"] ["self", "numbers", "inner", "ready", "begun"] (defScope s_Four___init__) := ⟨rfl, rfl, rfl, by decide +kernel, rfl, by decide +kernel, by decide +kernel⟩
abbrev s_Four_took : Stmt := inClass (topS 17) 1
theorem sc_Four_took : FnScope ["self"] ["self"] (defScope s_Four_took) := ⟨rfl, rfl, rfl, by decide +kernel, rfl, by decide +kernel, by decide +kernel⟩
abbrev s_Four_sure : Stmt := inClass (topS 17) 2
theorem sc_Four_sure : FnScope ["self", "a", "b", "c", "d"] ["self"] (defScope s_Four_sure) := ⟨rfl, rfl, rfl, by decide +kernel, rfl, by decide +kernel, by decide +kernel⟩
abbrev s_Four_told : Stmt := inClass (topS 17) 3
theorem sc_Four_told : FnScope ["self", "purse", "a", "b", "c", "d", "found", "got"] ["self", "purse"] (defScope s_Four_told) := ⟨rfl, rfl, rfl, by decide +kernel, rfl, by decide +kernel, by decide +kernel⟩
abbrev s_Eight___init__ : Stmt := inClass (topS 18) 0
theorem sc_Eight___init__ : FnScope ["self", "numbers", "one", "other"] ["self", "numbers", "one", "other"] (defScope s_Eight___init__) := ⟨rfl, rfl, rfl, by decide +kernel, rfl, by decide +kernel, by decide +kernel⟩
abbrev s_Eight_took : Stmt := inClass (topS 18) 1
theorem sc_Eight_took : FnScope ["self"] ["self"] (defScope s_Eight_took) := ⟨rfl, rfl, rfl, by decide +kernel, rfl, by decide +kernel, by decide +kernel⟩
abbrev s_Eight_sure : Stmt := inClass (topS 18) 2
theorem sc_Eight_sure : FnScope ["self", "a", "b", "c", "d", "e", "f", "g", "h"] ["self"] (defScope s_Eight_sure) := ⟨rfl, rfl, rfl, by decide +kernel, rfl, by decide +kernel, by decide +kernel⟩
abbrev s_Eight_told : Stmt := inClass (topS 18) 3
theorem sc_Eight_told : FnScope ["self", "purse", "found", "rows", "which", "got", "k"] ["self", "purse"] (defScope s_Eight_told) := ⟨rfl, rfl, rfl, by decide +kernel, rfl, by decide +kernel, by decide +kernel⟩
abbrev s_Eight_take : Stmt := inClass (topS 18) 4
theorem sc_Eight_take : FnScope ["self", "which", "part", "a", "b", "c", "d", "e", "f", "g", "h"] ["self", "which", "part"] (defScope s_Eight_take) := ⟨rfl, rfl, rfl, by decide +kernel, rfl, by decide +kernel, by decide +kernel⟩
abbrev s_Eight_left_of : Stmt := inClass (topS 18) 5
theorem sc_Eight_left_of : FnScope ["self", "which", "a", "b", "c", "d", "e", "f", "g", "h", "four"] ["self", "which"] (defScope s_Eight_left_of) := ⟨rfl, rfl, rfl, by decide +kernel, rfl, by decide +kernel, by decide +kernel⟩
abbrev s_must : Stmt := topS 24
theorem sc_must : FnScope ["good"] ["good"] (defScope s_must) := ⟨rfl, rfl, rfl, by decide +kernel, rfl, by decide +kernel, by decide +kernel⟩
abbrev s_need_numbers : Stmt := topS 25
theorem sc_need_numbers : FnScope ["numbers", "number"] ["numbers"] (defScope s_need_numbers) := ⟨rfl, rfl, rfl, by decide +kernel, rfl, by decide +kernel, by decide +kernel⟩
abbrev s_need_ruled : Stmt := topS 26
theorem sc_need_ruled : FnScope ["parts", "ring", "steps", "part", "step"] ["parts", "ring", "steps"] (defScope s_need_ruled) := ⟨rfl, rfl, rfl, by decide +kernel, rfl, by decide +kernel, by decide +kernel⟩
abbrev s_need_eight : Stmt := topS 27
theorem sc_need_eight : FnScope ["numbers", "apart", "i", "j"] ["numbers"] (defScope s_need_eight) := ⟨rfl, rfl, rfl, by decide +kernel, rfl, by decide +kernel, by decide +kernel⟩
abbrev s_need_tree : Stmt := topS 28
theorem sc_need_tree : FnScope ["tree", "deep", "kind"] ["tree", "deep"] (defScope s_need_tree) := ⟨rfl, rfl, rfl, by decide +kernel, rfl, by decide +kernel, by decide +kernel⟩
abbrev s_opened : Stmt := topS 31
theorem sc_opened : FnScope ["tree", "kind", "made", "k"] ["tree"] (defScope s_opened) := ⟨rfl, rfl, rfl, by decide +kernel, rfl, by decide +kernel, by decide +kernel⟩
abbrev s_reader : Stmt := topS 32
theorem sc_reader : FnScope ["tree"] ["tree"] (defScope s_reader) := ⟨rfl, rfl, rfl, by decide +kernel, rfl, by decide +kernel, by decide +kernel⟩
abbrev s__law_row : Stmt := topS 34
theorem sc__law_row : FnScope ["_law_script", "_law_mixed", "_law_cell"] ["_law_script"] (defScope s__law_row) := ⟨rfl, rfl, rfl, by decide +kernel, rfl, by decide +kernel, by decide +kernel⟩
abbrev s__law_taken : Stmt := topS 35
theorem sc__law_taken : FnScope ["_law_row_here", "_law_many", "_law_found", "_law_cell"] ["_law_row_here", "_law_many"] (defScope s__law_taken) := ⟨rfl, rfl, rfl, by decide +kernel, rfl, by decide +kernel, by decide +kernel⟩
abbrev s__law_whole : Stmt := topS 36
theorem sc__law_whole : FnScope ["_law_found"] ["_law_found"] (defScope s__law_whole) := ⟨rfl, rfl, rfl, by decide +kernel, rfl, by decide +kernel, by decide +kernel⟩
abbrev s__law_signed : Stmt := topS 37
theorem sc__law_signed : FnScope ["_law_row_here", "_law_most"] ["_law_row_here", "_law_most"] (defScope s__law_signed) := ⟨rfl, rfl, rfl, by decide +kernel, rfl, by decide +kernel, by decide +kernel⟩
abbrev s__law_root : Stmt := topS 38
theorem sc__law_root : FnScope ["_law_number", "_law_low", "_law_high", "_law_middle"] ["_law_number"] (defScope s__law_root) := ⟨rfl, rfl, rfl, by decide +kernel, rfl, by decide +kernel, by decide +kernel⟩
abbrev s__law_common : Stmt := topS 39
theorem sc__law_common : FnScope ["_law_one", "_law_other"] ["_law_one", "_law_other"] (defScope s__law_common) := ⟨rfl, rfl, rfl, by decide +kernel, rfl, by decide +kernel, by decide +kernel⟩
abbrev s__law_lowest : Stmt := topS 40
theorem sc__law_lowest : FnScope ["_law_top", "_law_below_here", "_law_part"] ["_law_top", "_law_below_here"] (defScope s__law_lowest) := ⟨rfl, rfl, rfl, by decide +kernel, rfl, by decide +kernel, by decide +kernel⟩
abbrev s__law_folded : Stmt := topS 41
theorem sc__law_folded : FnScope ["_law_parts_here", "_law_top", "_law_below_here", "_law_k", "_law_part"] ["_law_parts_here"] (defScope s__law_folded) := ⟨rfl, rfl, rfl, by decide +kernel, rfl, by decide +kernel, by decide +kernel⟩
abbrev s__law_made : Stmt := topS 42
theorem sc__law_made : FnScope ["_law_a", "_law_b", "_law_c", "_law_part"] ["_law_a", "_law_b", "_law_c"] (defScope s__law_made) := ⟨rfl, rfl, rfl, by decide +kernel, rfl, by decide +kernel, by decide +kernel⟩
abbrev s__law_sum : Stmt := topS 43
theorem sc__law_sum : FnScope ["_law_one", "_law_other", "_law_by", "_law_a"] ["_law_one", "_law_other", "_law_by"] (defScope s__law_sum) := ⟨rfl, rfl, rfl, by decide +kernel, rfl, by decide +kernel, by decide +kernel⟩
abbrev s__law_product : Stmt := topS 44
theorem sc__law_product : FnScope ["_law_one", "_law_other", "_law_d", "_law_a"] ["_law_one", "_law_other", "_law_d"] (defScope s__law_product) := ⟨rfl, rfl, rfl, by decide +kernel, rfl, by decide +kernel, by decide +kernel⟩
abbrev s__law_quotient : Stmt := topS 45
theorem sc__law_quotient : FnScope ["_law_one", "_law_other", "_law_d", "_law_size"] ["_law_one", "_law_other", "_law_d"] (defScope s__law_quotient) := ⟨rfl, rfl, rfl, by decide +kernel, rfl, by decide +kernel, by decide +kernel⟩
abbrev s__law_below : Stmt := topS 46
theorem sc__law_below : FnScope ["_law_one", "_law_d", "_law_size", "_law_root_here"] ["_law_one", "_law_d"] (defScope s__law_below) := ⟨rfl, rfl, rfl, by decide +kernel, rfl, by decide +kernel, by decide +kernel⟩
abbrev s__law_parts : Stmt := topS 47
theorem sc__law_parts : FnScope ["_law_one", "_law_d", "_law_many", "_law_found", "_law_part"] ["_law_one", "_law_d", "_law_many"] (defScope s__law_parts) := ⟨rfl, rfl, rfl, by decide +kernel, rfl, by decide +kernel, by decide +kernel⟩
abbrev s__law_mix : Stmt := topS 48
theorem sc__law_mix : FnScope ["_law_numbers", "_law_values", "_law_found", "_law_number", "_law_one"] ["_law_numbers", "_law_values"] (defScope s__law_mix) := ⟨rfl, rfl, rfl, by decide +kernel, rfl, by decide +kernel, by decide +kernel⟩
abbrev s__law_boxed : Stmt := topS 49
theorem sc__law_boxed : FnScope ["_law_numbers", "_law_values", "_law_d", "_law_many"] ["_law_numbers", "_law_values", "_law_d"] (defScope s__law_boxed) := ⟨rfl, rfl, rfl, by decide +kernel, rfl, by decide +kernel, by decide +kernel⟩
abbrev s__law_square : Stmt := topS 50
theorem sc__law_square : FnScope ["_law_row_here", "_law_d"] ["_law_row_here"] (defScope s__law_square) := ⟨rfl, rfl, rfl, by decide +kernel, rfl, by decide +kernel, by decide +kernel⟩
abbrev s__law_leaf : Stmt := topS 51
theorem sc__law_leaf : FnScope ["_law_row_here", "_law_d", "_law_way", "_law_top", "_law_below_here", "_law_many", "_law_parts_here", "_law_told", "_law_k"] ["_law_row_here", "_law_d"] (defScope s__law_leaf) := ⟨rfl, rfl, rfl, by decide +kernel, rfl, by decide +kernel, by decide +kernel⟩
abbrev s__law_read : Stmt := topS 52
theorem sc__law_read : FnScope ["_law_made_here", "_law_many", "_law_most", "_law_found", "_law_k", "_law_step"] ["_law_made_here", "_law_many", "_law_most"] (defScope s__law_read) := ⟨rfl, rfl, rfl, by decide +kernel, rfl, by decide +kernel, by decide +kernel⟩
abbrev s__law_four : Stmt := topS 53
theorem sc__law_four : FnScope ["_law_row_here", "_law_numbers", "_law_k"] ["_law_row_here"] (defScope s__law_four) := ⟨rfl, rfl, rfl, by decide +kernel, rfl, by decide +kernel, by decide +kernel⟩
abbrev s_law : Stmt := topS 54
theorem sc_law : FnScope ["_law_script", "_law_row_here", "_law_d", "_law_tree", "_law_one", "_law_fours", "_law_made_here", "_law_value", "_law_numbers", "_law_a", "_law_b", "_law_c", "_law_e", "_law_found", "_law_due", "_law_k"] ["_law_script"] (defScope s_law) := ⟨rfl, rfl, rfl, by decide +kernel, rfl, by decide +kernel, by decide +kernel⟩
structure Txt (K : PySem.W.Frag) (mg : Str → Option Value) (C : CT) : Prop where
  d_root_below : Dfn K mg "root_below" "root_below" s_root_below ["number"]
  d_root_of : Dfn K mg "root_of" "root_of" s_root_of ["top", "square", "below"]
  d_below_all : Dfn K mg "below_all" "below_all" s_below_all ["corners"]
  d_must : Dfn K mg "must" "must" s_must ["good"]
  d_need_numbers : Dfn K mg "need_numbers" "need_numbers" s_need_numbers ["numbers"]
  d_need_ruled : Dfn K mg "need_ruled" "need_ruled" s_need_ruled ["parts", "ring", "steps"]
  d_need_eight : Dfn K mg "need_eight" "need_eight" s_need_eight ["numbers"]
  d_need_tree : Dfn K mg "need_tree" "need_tree" s_need_tree ["tree", "deep"]
  d_opened : Dfn K mg "opened" "opened" s_opened ["tree"]
  d_reader : Dfn K mg "reader" "reader" s_reader ["tree"]
  d_law_row : Dfn K mg "_law_row" "_law_row" s__law_row ["_law_script"]
  d_law_taken : Dfn K mg "_law_taken" "_law_taken" s__law_taken ["_law_row_here", "_law_many"]
  d_law_whole : Dfn K mg "_law_whole" "_law_whole" s__law_whole ["_law_found"]
  d_law_signed : Dfn K mg "_law_signed" "_law_signed" s__law_signed ["_law_row_here", "_law_most"]
  d_law_root : Dfn K mg "_law_root" "_law_root" s__law_root ["_law_number"]
  d_law_common : Dfn K mg "_law_common" "_law_common" s__law_common ["_law_one", "_law_other"]
  d_law_lowest : Dfn K mg "_law_lowest" "_law_lowest" s__law_lowest ["_law_top", "_law_below_here"]
  d_law_folded : Dfn K mg "_law_folded" "_law_folded" s__law_folded ["_law_parts_here"]
  d_law_made : Dfn K mg "_law_made" "_law_made" s__law_made ["_law_a", "_law_b", "_law_c"]
  d_law_sum : Dfn K mg "_law_sum" "_law_sum" s__law_sum ["_law_one", "_law_other", "_law_by"]
  d_law_product : Dfn K mg "_law_product" "_law_product" s__law_product ["_law_one", "_law_other", "_law_d"]
  d_law_quotient : Dfn K mg "_law_quotient" "_law_quotient" s__law_quotient ["_law_one", "_law_other", "_law_d"]
  d_law_below : Dfn K mg "_law_below" "_law_below" s__law_below ["_law_one", "_law_d"]
  d_law_parts : Dfn K mg "_law_parts" "_law_parts" s__law_parts ["_law_one", "_law_d", "_law_many"]
  d_law_mix : Dfn K mg "_law_mix" "_law_mix" s__law_mix ["_law_numbers", "_law_values"]
  d_law_boxed : Dfn K mg "_law_boxed" "_law_boxed" s__law_boxed ["_law_numbers", "_law_values", "_law_d"]
  d_law_square : Dfn K mg "_law_square" "_law_square" s__law_square ["_law_row_here"]
  d_law_leaf : Dfn K mg "_law_leaf" "_law_leaf" s__law_leaf ["_law_row_here", "_law_d"]
  d_law_read : Dfn K mg "_law_read" "_law_read" s__law_read ["_law_made_here", "_law_many", "_law_most"]
  d_law_four : Dfn K mg "_law_four" "_law_four" s__law_four ["_law_row_here"]
  d_law : Dfn K mg "law" "law" s_law ["_law_script"]
  k_Purse : Mki K mg "Purse" C.c_Purse "Purse.__init__" s_Purse___init__ ["self", "left"]
  m_Reader_part : Mdf K [C.c_Fixed, C.c_Fraction, C.c_Root, C.c_Ruled, C.c_Four, C.c_Eight] "part" "Reader.part" s_Reader_part ["self", "most"]
  m_Reader_took : Mdf K [C.c_Fixed] "took" "Reader.took" s_Reader_took ["self"]
  k_Fixed : Mki K mg "Fixed" C.c_Fixed "Fixed.__init__" s_Fixed___init__ ["self", "top", "below", "begun"]
  m_Fixed_told : Mdf K [C.c_Fixed] "told" "Fixed.told" s_Fixed_told ["self", "purse"]
  i_Leaf : Cdf K mg "Leaf" "__init__" "Leaf.__init__" s_Leaf___init__ ["self"]
  m_Leaf_told : Mdf K [C.c_Fraction, C.c_Root, C.c_Ruled] "told" "Leaf.told" s_Leaf_told ["self", "purse"]
  m_Leaf_at_end : Mdf K [C.c_Root] "at_end" "Leaf.at_end" s_Leaf_at_end ["self"]
  m_Leaf_took : Mdf K [C.c_Fraction, C.c_Root, C.c_Ruled] "took" "Leaf.took" s_Leaf_took ["self"]
  k_Fraction : Mki K mg "Fraction" C.c_Fraction "Fraction.__init__" s_Fraction___init__ ["self", "top", "below"]
  m_Fraction_at_end : Mdf K [C.c_Fraction] "at_end" "Fraction.at_end" s_Fraction_at_end ["self"]
  m_Fraction_following : Mdf K [C.c_Fraction] "following" "Fraction.following" s_Fraction_following ["self"]
  k_Root : Mki K mg "Root" C.c_Root "Root.__init__" s_Root___init__ ["self", "top", "square", "below"]
  m_Root_following : Mdf K [C.c_Root] "following" "Root.following" s_Root_following ["self"]
  k_Ruled : Mki K mg "Ruled" C.c_Ruled "Ruled.__init__" s_Ruled___init__ ["self", "parts", "ring", "steps"]
  m_Ruled_at_end : Mdf K [C.c_Ruled] "at_end" "Ruled.at_end" s_Ruled_at_end ["self"]
  m_Ruled_following : Mdf K [C.c_Ruled] "following" "Ruled.following" s_Ruled_following ["self"]
  k_Four : Mki K mg "Four" C.c_Four "Four.__init__" s_Four___init__ ["self", "numbers", "inner", "ready", "begun"]
  m_Four_took : Mdf K [C.c_Four] "took" "Four.took" s_Four_took ["self"]
  m_Four_sure : Mdf K [C.c_Four] "sure" "Four.sure" s_Four_sure ["self"]
  m_Four_told : Mdf K [C.c_Four] "told" "Four.told" s_Four_told ["self", "purse"]
  k_Eight : Mki K mg "Eight" C.c_Eight "Eight.__init__" s_Eight___init__ ["self", "numbers", "one", "other"]
  m_Eight_took : Mdf K [C.c_Eight] "took" "Eight.took" s_Eight_took ["self"]
  m_Eight_sure : Mdf K [C.c_Eight] "sure" "Eight.sure" s_Eight_sure ["self"]
  m_Eight_told : Mdf K [C.c_Eight] "told" "Eight.told" s_Eight_told ["self", "purse"]
  m_Eight_take : Mdf K [C.c_Eight] "take" "Eight.take" s_Eight_take ["self", "which", "part"]
  m_Eight_left_of : Mdf K [C.c_Eight] "left_of" "Eight.left_of" s_Eight_left_of ["self", "which"]
  n_Purse_left : NoAttr K C.c_Purse "left"
  n_Fixed_top : NoAttr K C.c_Fixed "top"
  n_Fixed_below : NoAttr K C.c_Fixed "below"
  n_Fixed_begun : NoAttr K C.c_Fixed "begun"
  n_Fraction_many : NoAttr K C.c_Fraction "many"
  n_Fraction_top : NoAttr K C.c_Fraction "top"
  n_Fraction_below : NoAttr K C.c_Fraction "below"
  n_Root_many : NoAttr K C.c_Root "many"
  n_Root_top : NoAttr K C.c_Root "top"
  n_Root_square : NoAttr K C.c_Root "square"
  n_Root_below : NoAttr K C.c_Root "below"
  n_Root_floor : NoAttr K C.c_Root "floor"
  n_Ruled_many : NoAttr K C.c_Ruled "many"
  n_Ruled_first : NoAttr K C.c_Ruled "first"
  n_Ruled_ring : NoAttr K C.c_Ruled "ring"
  n_Ruled_steps : NoAttr K C.c_Ruled "steps"
  n_Four_numbers : NoAttr K C.c_Four "numbers"
  n_Four_inner : NoAttr K C.c_Four "inner"
  n_Four_ready : NoAttr K C.c_Four "ready"
  n_Four_begun : NoAttr K C.c_Four "begun"
  n_Four_fixed : NoAttr K C.c_Four "fixed"
  n_Eight_numbers : NoAttr K C.c_Eight "numbers"
  n_Eight_inners : NoAttr K C.c_Eight "inners"
  n_Eight_many : NoAttr K C.c_Eight "many"
  n_Eight_begun : NoAttr K C.c_Eight "begun"
  n_Eight_rest : NoAttr K C.c_Eight "rest"
  x_BadTree : Xcl K mg "BadTree" C.c_BadTree
  x_NoValue : Xcl K mg "NoValue" C.c_NoValue
  y_NoValue : mg "NoValue" = some (.ref C.c_NoValue)
  e_BadTree_NoValue : PySem.W.exmOne K (.ref C.c_BadTree) (.ref C.c_NoValue) = some false
  e_NoValue_NoValue : PySem.W.exmOne K (.ref C.c_NoValue) (.ref C.c_NoValue) = some true
  g_DEEPEST : ∃ t, mg "DEEPEST" = some (.int 5 t)
  g_MOST_NUMBER : ∃ t, mg "MOST_NUMBER" = some (.int 1000000000000 t)
  g_MOST_PARTS : ∃ t, mg "MOST_PARTS" = some (.int 12 t)
  g_MOST_POWER : ∃ t, mg "MOST_POWER" = some (.int 4 t)
  t_TIMES : TupK K mg "TIMES" C.a_TIMES [1, 0, 0, 0, 0, 0, 0, 1]
  b_divmod : mg "divmod" = none
  b_abs : mg "abs" = none
  b_bool : mg "bool" = none
  b_int : mg "int" = none
  b_isinstance : mg "isinstance" = none
  b_len : mg "len" = none
  b_list : mg "list" = none
  b_max : mg "max" = none
  b_min : mg "min" = none
  b_range : mg "range" = none
  b_reversed : mg "reversed" = none
  b_str : mg "str" = none
  b_sum : mg "sum" = none
  b_tuple : mg "tuple" = none
  b_zip : mg "zip" = none
def caOf (_ : PySem.W.Frag) : CA := {}
theorem newton1 {n f q g : Int} (hf : 0 < f) (hq : n < (q + 1) * f) (hg : f + q + 1 ≤ 2 * (g + 1)) (hg0 : 0 ≤ f + q + 1) : n < (g + 1) * (g + 1) := by
  have h1 := sq_nn (f - (q + 1))
  have h2 : (f + q + 1) * (f + q + 1) ≤ (2 * (g + 1)) * (2 * (g + 1)) := Int.mul_le_mul hg hg hg0 (by omega)
  grind
theorem newton2 {n f q g : Int} (hf : 0 < f) (h : n < f * f) (hq : q * f ≤ n) (hg : 2 * g ≤ f + q) : g < f := by
  have : q < f := by
    rcases Int.lt_or_le q f with h' | h'
    · exact h'
    · have := Int.mul_le_mul_of_nonneg_right h' (Int.le_of_lt hf)
      omega
  omega
theorem root_start {n : Int} (h0 : 0 ≤ n) : n < ((2 : Int) ^ ((Builtin.Int.intBits n + 1) / 2) + 1) * (2 ^ ((Builtin.Int.intBits n + 1) / 2) + 1) := by
  have h1 := lt_bits (n := n)
  have h2 : Builtin.Int.intBits n ≤ (Builtin.Int.intBits n + 1) / 2 + (Builtin.Int.intBits n + 1) / 2 := by omega
  have h3 : 2 ^ Builtin.Int.intBits n ≤ 2 ^ ((Builtin.Int.intBits n + 1) / 2) * 2 ^ ((Builtin.Int.intBits n + 1) / 2) := by
    rw [← Nat.pow_add]
    exact Nat.pow_le_pow_right (by decide) h2
  generalize hb : (2 : Nat) ^ ((Builtin.Int.intBits n + 1) / 2) = x at h3
  have e : ((2 : Int) ^ ((Builtin.Int.intBits n + 1) / 2)) = (x : Int) := by rw [← hb]; simp
  rw [e]
  have h4 : n.natAbs < x * x := Nat.lt_of_lt_of_le h1 h3
  have h5 : n < ((x * x : Nat) : Int) := by omega
  rw [Int.natCast_mul] at h5
  have h6 : (x : Int) * x ≤ (x + 1) * (x + 1) := Int.mul_le_mul (by omega) (by omega) (by omega) (by omega)
  omega
section
variable {P : Program} {w : World} {K : PySem.W.Frag} {mg : Str → Option Value} {base : Heap} {ca : CA} {C : CT} [Seer P base]
def F_root : AF := fun ds Ω Q _ => ∃ n : Int, ds = [.int n] ∧ 0 ≤ n ∧ n < 2 ^ 300 ∧ ∀ r, 0 ≤ r → r * r ≤ n → n < (r + 1) * (r + 1) → Q (.int r) Ω
theorem c_root_below (T : Txt K mg C) : Clb P w K mg base ca 1 "root_below" F_root := by
  refine clb T.d_root_below sc_root_below (fun ds Ω Q E h => ?_) (fun f cdv A outer s H E hr => ⟨_, _, (ass_cons (as_if (at_eqI (ae_var 0) ae_int) (ass_one (as_ret ae_int)) ass_nil)
      (ass_cons (as_set 1 sc_root_below.nd (ae_shl1 ae_int (ae_fdv (div_of hr) (ae_add (ae_bits (ae_var 0)) ae_int) ae_int)))
      (ass_cons (as_while (passes_of rfl) (at_gt (ae_mul (ae_var 1) (ae_var 1)) (ae_var 0)) (ass_one (as_set 1 sc_root_below.nd (ae_fdv (div_of hr) (ae_add (ae_var 1) (ae_fdv (div_of hr) (ae_var 0) (ae_var 1))) ae_int))))
      (ass_one (as_ret (ae_var 1)))))), fun ds Ω Qa Ea h => ?_⟩)
  · obtain ⟨n, rfl, _⟩ := h
    rfl
  · obtain ⟨n, rfl, h0, h1, k⟩ := h
    walk_at "pl"
    refine ite2 (fun e => k 0 (by omega) (by omega) (by omega)) (fun e => ⟨nopy (by decide) (by decide), (Builtin.Int.intBits n + 1) / 2, ?_, ?_, ?_⟩)
    · rw [Int.fdiv_eq_ediv_of_nonneg _ (by decide)]
      omega
    · have := bits_le (n := n) (b := 300) (by omega)
      omega
    · refine ⟨fun m ρ Ω' => ∃ g : Int, ρ = [some (.int n), some (.int g)] ∧ Ω' = Ω ∧ 0 < g ∧ g < 2 ^ 400 ∧ n < (g + 1) * (g + 1) ∧ m = g.toNat, ⟨_, _, rfl, rfl, Int.pow_pos (by decide), ?_, ?_, rfl⟩, ?_⟩
      · have h2 := bits_le (n := n) (b := 300) (by omega)
        exact Int.ofNat_lt.mpr (Nat.pow_lt_pow_right (by decide) (by omega) : 2 ^ ((Builtin.Int.intBits n + 1) / 2) < 2 ^ 400)
      · exact root_start h0
      · rintro m ρ Ω' ⟨g, rfl, rfl, g0, g1, g2, rfl⟩
        walk_at "pl"
        refine ⟨mulok (a := 400) (b := 400) (by omega) (by omega) (by decide), ?_⟩
        have q1 : n.fdiv g = n / g := Int.fdiv_eq_ediv_of_nonneg _ (by omega)
        have q2 : n / g * g ≤ n := Int.ediv_mul_le _ (by omega)
        have q3 : n < (n / g + 1) * g := Int.lt_ediv_add_one_mul_self _ g0
        have q4 : 0 ≤ n / g := Int.ediv_nonneg h0 (by omega)
        refine ite2 (fun e => ⟨nopy (by omega) (by omega), nopy (by decide) (by decide), ?_⟩) (fun e => k g (by omega) (by omega) g2)
        rw [q1]
        have q5 : (g + n / g).fdiv 2 = (g + n / g) / 2 := Int.fdiv_eq_ediv_of_nonneg _ (by decide)
        rw [q5]
        have q6 : (g + n / g) / 2 < g := newton2 g0 (by omega) q2 (by omega)
        have q7 : 2 ≤ g + n / g := by
          by_cases z : 1 ≤ n / g
          · omega
          · have z' : n / g = 0 := by omega
            rw [z'] at q3
            have : 1 < g := by omega
            omega
        exact ⟨((g + n / g) / 2).toNat, by omega, by omega, by omega, newton1 g0 q3 (by omega) (by omega), rfl⟩
def F_purse (C : CT) : AF := fun ds Ω Q _ => ∃ (p : Addr) (m : Int), ds = [.o p, .int m] ∧ Ω p = some (.obj C.c_Purse []) ∧ Q .non (oset Ω p (oPurse C m))
theorem mk_Purse (T : Txt K mg C) : Mkc P w K mg base ca 1 "Purse" C.c_Purse (F_purse C) := by
  refine mkc T.k_Purse sc_Purse___init__ (fun ds Ω Q E h => ?_) (fun f cdv A outer s H E hr => ⟨_, _, (ass_one (as_asg (ae_var 1) (ag_new (ae_var 0)))), fun ds Ω Qa Ea h => ?_⟩)
  · obtain ⟨_, _, rfl, _⟩ := h
    rfl
  · obtain ⟨p, m, rfl, ho, k⟩ := h
    walk_at "pl"
    exact ⟨_, _, ho, by walk_at "nm", T.n_Purse_left, by decide, k⟩
def F_fixed (C : CT) : AF := fun ds Ω Q _ => ∃ (p : Addr) (t b : Int) (g : Bool), ds = [.o p, .int t, .int b, .bl g] ∧ Ω p = some (.obj C.c_Fixed []) ∧ Q .non (oset Ω p (oFixed C t b g))
theorem mk_Fixed (T : Txt K mg C) : Mkc P w K mg base ca 1 "Fixed" C.c_Fixed (F_fixed C) := by
  refine mkc T.k_Fixed sc_Fixed___init__ (fun ds Ω Q E h => ?_) (fun f cdv A outer s H E hr => ⟨_, _, (ass_cons (as_asg (ae_var 1) (ag_new (ae_var 0)))
      (ass_cons (as_asg (ae_var 2) (ag_new (ae_var 0)))
      (ass_one (as_asg (ae_var 3) (ag_new (ae_var 0)))))), fun ds Ω Qa Ea h => ?_⟩)
  · obtain ⟨_, _, _, _, rfl, _⟩ := h
    rfl
  · obtain ⟨p, t, b, g, rfl, ho, k⟩ := h
    walk_at "pl"
    refine ⟨_, _, ho, by walk_at "nm", T.n_Fixed_top, by decide, ?_⟩
    walk_at "pl"
    refine ⟨by walk_at "nm", T.n_Fixed_below, by decide, ?_⟩
    walk_at "pl"
    exact ⟨by walk_at "nm", T.n_Fixed_begun, by decide, k⟩
def F_leafInit (K : PySem.W.Frag) : AF := fun ds Ω Q _ => ∃ (p c : Addr), ds = [.o p] ∧ Ω p = some (.obj c []) ∧ NoAttr K c "many" ∧ Q .non (oset Ω p (.obj c [("many", .int 0)]))
theorem cf_Leaf (T : Txt K mg C) : Cfn P w K mg base ca 1 "Leaf" "__init__" (F_leafInit K) := by
  refine cfn T.i_Leaf sc_Leaf___init__ (fun ds Ω Q E h => ?_) (fun f cdv A outer s H E hr => ⟨_, _, (ass_one (as_asg ae_int (ag_new (ae_var 0)))), fun ds Ω Qa Ea h => ?_⟩)
  · obtain ⟨_, _, rfl, _⟩ := h
    rfl
  · obtain ⟨p, c, rfl, ho, na, k⟩ := h
    walk_at "pl"
    exact ⟨_, _, ho, by walk_at "nm", na, by decide, k⟩
def F_frac (C : CT) : AF := fun ds Ω Q _ => ∃ (p : Addr) (t b : Int), ds = [.o p, .int t, .int b] ∧ Ω p = some (.obj C.c_Fraction []) ∧ Q .non (oset Ω p (oFrac C 0 t b))
theorem mk_Fraction (T : Txt K mg C) : Mkc P w K mg base ca 2 "Fraction" C.c_Fraction (F_frac C) := by
  refine mkc T.k_Fraction sc_Fraction___init__ (fun ds Ω Q E h => ?_) (fun f cdv A outer s H E hr => ⟨_, _, (ass_cons (as_expr (ae_ccall (cf_Leaf T) hr (takes_of rfl rfl rfl rfl) (by omega) (aa_cons (ae_var 0) aa_nil)))
      (ass_cons (as_asg (ae_var 1) (ag_new (ae_var 0)))
      (ass_one (as_asg (ae_var 2) (ag_new (ae_var 0)))))), fun ds Ω Qa Ea h => ?_⟩)
  · obtain ⟨_, _, _, rfl, _⟩ := h
    rfl
  · obtain ⟨p, t, b, rfl, ho, k⟩ := h
    walk_at "pl"
    refine ⟨p, _, rfl, ho, T.n_Fraction_many, ?_⟩
    walk_at "pl"
    refine ⟨by walk_at "nm", T.n_Fraction_top, by decide, ?_⟩
    walk_at "pl"
    exact ⟨by walk_at "nm", T.n_Fraction_below, by decide, k⟩
def F_rootI (C : CT) : AF := fun ds Ω Q _ => ∃ (p : Addr) (t s b : Int), ds = [.o p, .int t, .int s, .int b] ∧ Ω p = some (.obj C.c_Root []) ∧ 0 ≤ s ∧ s < 2 ^ 300 ∧ ∀ f, 0 ≤ f → f * f ≤ s → s < (f + 1) * (f + 1) → Q .non (oset Ω p (oRoot C 0 t s b f))
theorem mk_Root (T : Txt K mg C) : Mkc P w K mg base ca 2 "Root" C.c_Root (F_rootI C) := by
  refine mkc T.k_Root sc_Root___init__ (fun ds Ω Q E h => ?_) (fun f cdv A outer s H E hr => ⟨_, _, (ass_cons (as_expr (ae_ccall (cf_Leaf T) hr (takes_of rfl rfl rfl rfl) (by omega) (aa_cons (ae_var 0) aa_nil)))
      (ass_cons (as_asg (ae_var 1) (ag_new (ae_var 0)))
      (ass_cons (as_asg (ae_var 2) (ag_new (ae_var 0)))
      (ass_cons (as_asg (ae_var 3) (ag_new (ae_var 0)))
      (ass_one (as_asg (ae_call (c_root_below T) hr (takes_of rfl rfl rfl rfl) (by omega) (aa_cons (ae_var 2) aa_nil)) (ag_new (ae_var 0)))))))), fun ds Ω Qa Ea h => ?_⟩)
  · obtain ⟨_, _, _, _, rfl, _⟩ := h
    rfl
  · obtain ⟨p, t, s, b, rfl, ho, s0, s1, k⟩ := h
    walk_at "pl"
    refine ⟨p, _, rfl, ho, T.n_Root_many, ?_⟩
    walk_at "pl"
    refine ⟨by walk_at "nm", T.n_Root_top, by decide, ?_⟩
    walk_at "pl"
    refine ⟨by walk_at "nm", T.n_Root_square, by decide, ?_⟩
    walk_at "pl"
    refine ⟨by walk_at "nm", T.n_Root_below, by decide, ?_⟩
    refine ⟨s, rfl, s0, s1, fun f f0 f1 f2 => ?_⟩
    walk_at "pl"
    exact ⟨by walk_at "nm", T.n_Root_floor, by decide, k f f0 f1 f2⟩
def F_ruledI (C : CT) : AF := fun ds Ω Q _ => ∃ (p : Addr) (ps ring steps : List Int), ds = [.o p, dtup ps, dtup ring, dtup steps] ∧ Ω p = some (.obj C.c_Ruled []) ∧ Q .non (oset Ω p (oRuled C 0 ps ring steps))
theorem mk_Ruled (T : Txt K mg C) : Mkc P w K mg base ca 2 "Ruled" C.c_Ruled (F_ruledI C) := by
  refine mkc T.k_Ruled sc_Ruled___init__ (fun ds Ω Q E h => ?_) (fun f cdv A outer s H E hr => ⟨_, _, (ass_cons (as_expr (ae_ccall (cf_Leaf T) hr (takes_of rfl rfl rfl rfl) (by omega) (aa_cons (ae_var 0) aa_nil)))
      (ass_cons (as_asg (ae_var 1) (ag_new (ae_var 0)))
      (ass_cons (as_asg (ae_var 2) (ag_new (ae_var 0)))
      (ass_one (as_asg (ae_var 3) (ag_new (ae_var 0))))))), fun ds Ω Qa Ea h => ?_⟩)
  · obtain ⟨_, _, _, _, rfl, _⟩ := h
    rfl
  · obtain ⟨p, ps, ring, steps, rfl, ho, k⟩ := h
    walk_at "pl"
    refine ⟨p, _, rfl, ho, T.n_Ruled_many, ?_⟩
    walk_at "pl"
    refine ⟨by walk_at "nm", T.n_Ruled_first, by decide, ?_⟩
    walk_at "pl"
    refine ⟨by walk_at "nm", T.n_Ruled_ring, by decide, ?_⟩
    walk_at "pl"
    exact ⟨by walk_at "nm", T.n_Ruled_steps, by decide, k⟩
def F_fracEnd (C : CT) : AF := fun ds Ω Q _ => ∃ (p : Addr) (k t b : Int), ds = [.o p] ∧ Ω p = some (oFrac C k t b) ∧ Q (.bl (decide (b = 0))) Ω
theorem m_fracEnd (T : Txt K mg C) : ∀ D ∈ [C.c_Fraction], Mth P w K mg base ca 1 D "at_end" (F_fracEnd C) := by
  refine mth T.m_Fraction_at_end sc_Fraction_at_end (fun ds Ω Q E h => ?_) (fun f cdv A outer s H E hr => ⟨_, _, (ass_one (as_ret (ae_eqI (ae_fld 2 (ae_var 0)) ae_int))), fun ds Ω Qa Ea h => ?_⟩)
  · obtain ⟨_, _, _, _, rfl, _⟩ := h
    rfl
  · obtain ⟨p, k, t, b, rfl, ho, q⟩ := h
    walk_at "pl"
    simp only [ho]
    walk_at "pl"
    exact q
def F_noEnd : AF := fun ds Ω Q _ => ∃ p : Addr, ds = [.o p] ∧ Q (.bl false) Ω
theorem m_rootEnd (T : Txt K mg C) : ∀ D ∈ [C.c_Root], Mth P w K mg base ca 1 D "at_end" F_noEnd := by
  refine mth T.m_Leaf_at_end sc_Leaf_at_end (fun ds Ω Q E h => ?_) (fun f cdv A outer s H E hr => ⟨_, _, (ass_one (as_ret ae_bl)), fun ds Ω Qa Ea h => ?_⟩)
  · obtain ⟨_, rfl, _⟩ := h
    rfl
  · obtain ⟨p, rfl, q⟩ := h
    walk_at "pl"
    exact q
def F_fracNext (C : CT) : AF := fun ds Ω Q _ => ∃ (p : Addr) (k t b : Int), ds = [.o p] ∧ Ω p = some (oFrac C k t b) ∧ b ≠ 0 ∧ Sm t ∧ Sm b ∧ Q (.int (t.fdiv b)) (oset Ω p (oFrac C k b (t - t.fdiv b * b)))
theorem sm_nopy {i j : Int} (h : j ≠ 0) (_ : Sm j) : NoPy i j := h
theorem sm_mul {i j : Int} (h : Sm i) (hj : Sm j) : IntMulOk i j := mulok h hj (by decide)
theorem sm_fdiv {i j : Int} (h : Sm i) : Sm (i.fdiv j) := Nat.lt_of_le_of_lt fdiv_le h
theorem m_fracNext (T : Txt K mg C) : ∀ D ∈ [C.c_Fraction], Mth P w K mg base ca 1 D "following" (F_fracNext C) := by
  refine mth T.m_Fraction_following sc_Fraction_following (fun ds Ω Q E h => ?_) (fun f cdv A outer s H E hr => ⟨_, _, (ass_cons (as_set 1 sc_Fraction_following.nd (ae_fdv (div_of hr) (ae_fld 1 (ae_var 0)) (ae_fld 2 (ae_var 0))))
      (ass_cons (as_asg (ae_tup (aa_cons (ae_fld 2 (ae_var 0)) (aa_cons (ae_sub (ae_fld 1 (ae_var 0)) (ae_mul (ae_var 1) (ae_fld 2 (ae_var 0)))) aa_nil))) (ag_tupG (n := 2) rfl (agl_cons (ag_fld 1 (ae_var 0)) (agl_cons (ag_fld 2 (ae_var 0)) agl_nil))))
      (ass_one (as_ret (ae_var 1))))), fun ds Ω Qa Ea h => ?_⟩)
  · obtain ⟨_, _, _, _, rfl, _⟩ := h
    rfl
  · obtain ⟨p, k, t, b, rfl, ho, b0, ht, hb, q⟩ := h
    walk_at "pl"
    simp only [ho]
    walk_at "pl"
    exact ⟨sm_nopy b0 hb, sm_mul (sm_fdiv ht) hb, by decide, by decide, by decide, q⟩
def F_rootNext (C : CT) : AF := fun ds Ω Q _ => ∃ (p : Addr) (k t s b f q t' : Int), ds = [.o p] ∧ Ω p = some (oRoot C k t s b f) ∧ b ≠ 0 ∧ Sm t ∧ Sm s ∧ Sm b ∧ Sm f ∧ q = (t + f + (if b < 0 then 1 else 0)).fdiv b ∧ t' = q * b - t ∧ Sm t' ∧ Q (.int q) (oset Ω p (oRoot C k t' s ((s - t' * t').fdiv b) f))
theorem m_rootNext (T : Txt K mg C) : ∀ D ∈ [C.c_Root], Mth P w K mg base ca 1 D "following" (F_rootNext C) := by
  refine mth T.m_Root_following sc_Root_following (fun ds Ω Q E h => ?_) (fun f cdv A outer s H E hr => ⟨_, _, (ass_cons (as_set 1 sc_Root_following.nd (ae_fdv (div_of hr) (ae_add (ae_add (ae_fld 1 (ae_var 0)) (ae_fld 4 (ae_var 0))) (ae_intB rfl T.b_int (ae_lt (ae_fld 3 (ae_var 0)) ae_int))) (ae_fld 3 (ae_var 0))))
      (ass_cons (as_asg (ae_sub (ae_mul (ae_var 1) (ae_fld 3 (ae_var 0))) (ae_fld 1 (ae_var 0))) (ag_fld 1 (ae_var 0)))
      (ass_cons (as_asg (ae_fdv (div_of hr) (ae_sub (ae_fld 2 (ae_var 0)) (ae_mul (ae_fld 1 (ae_var 0)) (ae_fld 1 (ae_var 0)))) (ae_fld 3 (ae_var 0))) (ag_fld 3 (ae_var 0)))
      (ass_one (as_ret (ae_var 1)))))), fun ds Ω Qa Ea h => ?_⟩)
  · obtain ⟨_, _, _, _, _, _, _, _, rfl, _⟩ := h
    rfl
  · obtain ⟨p, k, t, s, b, f, q, t', rfl, ho, b0, ht, hs, hb, hf, eq, et, ht', kk⟩ := h
    walk_at "pl"
    simp only [ho]
    walk_at "pl"
    rw [← eq, ← et]
    have hq : q.natAbs < 2 ^ 290002 := by
      have h1 : q.natAbs ≤ (t + f + (if b < 0 then 1 else 0)).natAbs := by rw [eq]; exact fdiv_le
      have h2 : t.natAbs < 2 ^ 290000 := ht
      have h3 : f.natAbs < 2 ^ 290000 := hf
      have h4 : (2 : Nat) ^ 290002 = 2 ^ 290000 * 4 := by rw [show 290002 = 290000 + 2 from rfl, Nat.pow_add]
      generalize (2 : Nat) ^ 290002 = X at h4 ⊢
      generalize (2 : Nat) ^ 290000 = Y at h2 h3 h4
      split at h1 <;> omega
    exact ⟨sm_nopy b0 hb, mulok hq hb (by decide), by decide, sm_mul ht' ht', sm_nopy b0 hb, by decide, kk⟩
def F_ruEnd (C : CT) : AF := fun ds Ω Q _ => ∃ (p : Addr) (k : Int) (ps ring steps : List Int), ds = [.o p] ∧ Ω p = some (oRuled C k ps ring steps) ∧ Q (.bl (decide (ring = [] ∧ ps.length ≤ k))) Ω
theorem m_ruEnd (T : Txt K mg C) : ∀ D ∈ [C.c_Ruled], Mth P w K mg base ca 1 D "at_end" (F_ruEnd C) := by
  refine mth T.m_Ruled_at_end sc_Ruled_at_end (fun ds Ω Q E h => ?_) (fun f cdv A outer s H E hr => ⟨_, _, (ass_one (as_ret (ae_and (ae_eqD hr.units (ae_fld 2 (ae_var 0)) (ae_tup aa_nil)) (ae_one (ae_ge (ae_fld 0 (ae_var 0)) (ae_len rfl T.b_len (ae_fld 1 (ae_var 0)))))))), fun ds Ω Qa Ea h => ?_⟩)
  · obtain ⟨_, _, _, _, _, rfl, _⟩ := h
    rfl
  · obtain ⟨p, k, ps, ring, steps, rfl, ho, kk⟩ := h
    walk_at "pl"
    simp only [ho]
    walk_at "pl"
    refine ⟨Nat.zero_le _, fEq_nil ⟨_, rfl, ?_⟩⟩
    simp only [Bool.false_eq_true, if_false]
    by_cases hr : ring = []
    · rw [decide_eq_true hr, if_pos rfl]
      simp only [ho]
      walk_at "pl"
      rw [List.length_map]
      have e : (decide (ring = [] ∧ (ps.length : Int) ≤ k)) = decide ((ps.length : Int) ≤ k) := by simp only [hr, true_and]
      rw [e] at kk
      exact kk
    · rw [decide_eq_false hr, if_neg (by decide)]
      have e : (decide (ring = [] ∧ (ps.length : Int) ≤ k)) = false := by simp only [hr, false_and]; rfl
      rw [e] at kk
      exact kk
def F_ruNext (C : CT) : AF := fun ds Ω Q _ => ∃ (p : Addr) (k : Nat) (ps ring steps : List Int), ds = [.o p] ∧ Ω p = some (oRuled C ((k : Int) + 1) ps ring steps) ∧ (ring = [] → k < ps.length) ∧ steps.length = ring.length ∧ k < 2 ^ 60 ∧ ps.length < 2 ^ 60 ∧ ring.length < 2 ^ 60 ∧ (∀ n ∈ ring ++ steps, Sm n) ∧ Q (.int (ruV k ps ring steps)) Ω
theorem m_ruNext (T : Txt K mg C) : ∀ D ∈ [C.c_Ruled], Mth P w K mg base ca 1 D "following" (F_ruNext C) := by
  refine mth T.m_Ruled_following sc_Ruled_following (fun ds Ω Q E h => ?_) (fun f cdv A outer s H E hr => ⟨_, _, (ass_cons (as_set 1 sc_Ruled_following.nd (ae_sub (ae_fld 0 (ae_var 0)) ae_int))
      (ass_cons (as_if (at_lt (ae_var 1) (ae_len rfl T.b_len (ae_fld 1 (ae_var 0)))) (ass_one (as_ret (ae_ix (ae_fld 1 (ae_var 0)) (ae_var 1)))) ass_nil)
      (ass_cons (as_set 1 sc_Ruled_following.nd (ae_sub (ae_var 1) (ae_len rfl T.b_len (ae_fld 1 (ae_var 0)))))
      (ass_cons (as_set 2 sc_Ruled_following.nd (ae_fdv (div_of hr) (ae_var 1) (ae_len rfl T.b_len (ae_fld 2 (ae_var 0)))))
      (ass_one (as_ret (ae_add (ae_ix (ae_fld 2 (ae_var 0)) (ae_mod (ae_var 1) (ae_len rfl T.b_len (ae_fld 2 (ae_var 0))))) (ae_mul (ae_var 2) (ae_ix (ae_fld 3 (ae_var 0)) (ae_mod (ae_var 1) (ae_len rfl T.b_len (ae_fld 2 (ae_var 0))))))))))))), fun ds Ω Qa Ea h => ?_⟩)
  · obtain ⟨_, _, _, _, _, rfl, _⟩ := h
    rfl
  · obtain ⟨p, k, ps, ring, steps, rfl, ho, h1, h2, h3, h4, h5, h6, kk⟩ := h
    walk_at "pl"
    simp only [ho]
    walk_at "pl"
    simp only [List.length_map]
    unfold ruV at kk
    have e0 : (k : Int) + 1 - 1 = k := by omega
    rw [e0]
    refine ite2 (fun e => ?_) (fun e => ?_)
    · have e' : k < ps.length := by omega
      rw [if_pos e'] at kk
      exact ⟨_, getD_at e' rfl, kk⟩
    · have e' : ¬ k < ps.length := by omega
      rw [if_neg e'] at kk
      have hr : 0 < ring.length := List.length_pos_iff.mpr fun z => e' (h1 z)
      have e1 : (k : Int) - ps.length = ((k - ps.length : Nat) : Int) := by omega
      have hm : (k - ps.length) % ring.length < ring.length := Nat.mod_lt _ hr
      have f1 : ((k - ps.length : Nat) : Int).fmod (ring.length : Int) = (((k - ps.length) % ring.length : Nat) : Int) := by rw [Int.fmod_eq_emod_of_nonneg _ (by omega)]; rfl
      have f2 : ((k - ps.length : Nat) : Int).fdiv (ring.length : Int) = (((k - ps.length) / ring.length : Nat) : Int) := by rw [Int.fdiv_eq_ediv_of_nonneg _ (by omega)]; rfl
      rw [e1, f1, f2]
      have hs : Sm (steps.getD ((k - ps.length) % ring.length) 0) := h6 _ (List.mem_append_right _ (getD_mem (by rw [h2]; exact hm)))
      have hd : (k - ps.length) / ring.length ≤ k - ps.length := Nat.div_le_self _ _
      generalize (k - ps.length) / ring.length = qq at hd kk ⊢
      exact ⟨nopy (by omega) (Nat.lt_of_lt_of_le (m := 2 ^ 60) (by omega) (Nat.pow_le_pow_right (by decide) (by decide))), by omega, _, getD_at hm rfl, by omega, _, getD_at (by rw [h2]; exact hm) rfl, _, rfl, mulok_l (by omega) (by omega), _, rfl, kk⟩
/-- all but S and pu stand -/
def Fr (S : List Addr) (pu : Addr) (Ω Ω' : Om) : Prop := ∀ b, b ∉ S → b ≠ pu → Ω b ≠ none → Ω' b = Ω b
/-- a four keeps its inner reader -/
def Inn (kd : Kd) (p : Addr) (Ω Ω' : Om) : Prop := kd = .four → ∃ c fs c' fs', Ω p = some (.obj c fs) ∧ Ω' p = some (.obj c' fs') ∧ fs'[1]? = fs[1]?
def F_told (C : CT) (kd : Kd) (L : Nat) : AF := fun ds Ω Q E => ∃ (p pu : Addr) (r : R) (S : List Addr) (n : Nat) (m : Int) (r' : R) (m' : Int) (ans : Ans), ds = [.o p, .o pu] ∧ r.kd = kd ∧ r.lv ≤ L ∧ RdO C Ω p r S ∧ Ω pu = some (oPurse C m) ∧ pu ∉ S ∧ Told n r m r' m' ans ∧
  ∀ (Ω' : Om) (S' : List Addr), RdO C Ω' p r' S' → Ω' pu = some (oPurse C m') → Fr S pu Ω Ω' → (∀ b ∈ S', b ∈ S ∨ Ω b = none) → Inn kd p Ω Ω' → ans.ok C Q E Ω'
theorem told_len {C : CT} {kd : Kd} {L : Nat} : ∀ ds Ω Q E, F_told C kd L ds Ω Q E → ds.length = (["self", "purse"] : List Str).length := by
  rintro ds Ω Q E ⟨_, _, _, _, _, _, _, _, _, rfl, _⟩
  rfl
theorem fr_set {S : List Addr} {pu p : Addr} {Ω : Om} {o : AO} (h : p ∈ S) : Fr S pu Ω (oset Ω p o) := fun b hb _ _ => oset_ne fun e => hb (e ▸ h)
theorem fr_refl {S : List Addr} {pu : Addr} {Ω : Om} : Fr S pu Ω Ω := fun _ _ _ _ => rfl
theorem m_fixedTold (T : Txt K mg C) : ∀ D ∈ [C.c_Fixed], Mth P w K mg base ca 1 D "told" (F_told C .fixed 1) := by
  refine mth T.m_Fixed_told sc_Fixed_told told_len (fun f cdv A outer s H E hr => ⟨_, _, (ass_cons (as_if (at_eqI (ae_fld 1 (ae_var 0)) ae_int) (ass_cons (as_if (at_not (at_val (ae_fld 2 (ae_var 0)))) (ass_one (as_raise rfl (takes_of rfl rfl rfl rfl) T.x_NoValue)) ass_nil)
      (ass_one (as_ret (ae_tup (aa_cons ae_str aa_nil))))) ass_nil)
      (ass_cons (as_set 2 sc_Fixed_told.nd (ae_fdv (div_of hr) (ae_fld 0 (ae_var 0)) (ae_fld 1 (ae_var 0))))
      (ass_cons (as_asg ae_bl (ag_fld 2 (ae_var 0)))
      (ass_cons (as_asg (ae_tup (aa_cons (ae_fld 1 (ae_var 0)) (aa_cons (ae_sub (ae_fld 0 (ae_var 0)) (ae_mul (ae_var 2) (ae_fld 1 (ae_var 0)))) aa_nil))) (ag_tupG (n := 2) rfl (agl_cons (ag_fld 0 (ae_var 0)) (agl_cons (ag_fld 1 (ae_var 0)) agl_nil))))
      (ass_one (as_ret (ae_tup (aa_cons ae_str (aa_cons (ae_var 2) aa_nil))))))))), fun ds Ω Qa Ea h => ?_⟩)
  obtain ⟨p, pu, r, S, n, m, r', m', ans, rfl, hk, hl, hR, hp, hn, ht, k⟩ := h
  cases hR with
  | fixed ho =>
    rename_i t b g
    walk_at "pl"
    simp only [ho]
    walk_at "pl"
    cases ht with
    | fxEnd => exact ⟨by decide, k _ _ (.fixed ho) hp fr_refl (fun b hb => .inl hb) nofun⟩
    | fxNo => exact k _ _ (.fixed ho) hp fr_refl (fun b hb => .inl hb) nofun
    | fxPart b0 h1 h2 =>
      rw [if_neg b0]
      have hne : pu ≠ p := fun e => hn (by simp [e])
      exact ⟨sm_nopy b0 h2, by decide, sm_mul (sm_fdiv h1) h2, by decide, by decide, by decide, by decide, k _ _ (.fixed oset_same) ((oset_ne hne).trans hp) (fr_set (by simp)) (fun b hb => .inl hb) nofun⟩
  | _ => cases hk
theorem fr_two {S : List Addr} {pu p : Addr} {Ω : Om} {o u : AO} (h : p ∈ S) : Fr S pu Ω (oset (oset Ω pu u) p o) := fun b hb hp _ => by rw [oset_ne (fun e => hb (by rw [e]; exact h)), oset_ne hp]
theorem m_leafTold (T : Txt K mg C) : ∀ D ∈ [C.c_Fraction, C.c_Root, C.c_Ruled], Mth P w K mg base ca 2 D "told" (F_told C .leaf 3) := by
  refine mth T.m_Leaf_told sc_Leaf_told told_len (fun f cdv A outer s H E hr => ⟨_, _, (ass_cons (as_if (at_val (ae_meth0 (k := 1) hr (takes_of rfl rfl rfl rfl) (by omega) (ae_var 0))) (ass_one (as_ret (ae_tup (aa_cons ae_str aa_nil)))) ass_nil)
      (ass_cons (as_if (at_eqI (ae_fld 0 (ae_var 1)) ae_int) (ass_one (as_ret (ae_tup (aa_cons ae_str aa_nil)))) ass_nil)
      (ass_cons (as_asg (ae_sub (ae_fld 0 (ae_var 1)) ae_int) (ag_fld 0 (ae_var 1)))
      (ass_cons (as_asg (ae_add (ae_fld 0 (ae_var 0)) ae_int) (ag_fld 0 (ae_var 0)))
      (ass_one (as_ret (ae_tup (aa_cons ae_str (aa_cons (ae_meth0 (k := 1) hr (takes_of rfl rfl rfl rfl) (by omega) (ae_var 0)) aa_nil))))))))), fun ds Ω Qa Ea h => ?_⟩)
  obtain ⟨p, pu, r, S, n, m, r', m', ans, rfl, hk, hl, hR, hp, hn, ht, k⟩ := h
  cases hR with
  | frac ho =>
    rename_i kk t b
    have hne : pu ≠ p := fun e => hn (by simp [e])
    have hne' : p ≠ pu := Ne.symm hne
    walk_at "pl"
    refine ⟨_, _, ho, by walk_at "nm", F_fracEnd C, m_fracEnd T _ (by simp), p, kk, t, b, rfl, ho, _, rfl, ?_⟩
    cases ht with
    | frEnd => exact ⟨by decide, k _ _ (.frac ho) hp fr_refl (fun b hb => .inl hb) nofun⟩
    | frWait b0 =>
      rw [if_neg (by simp [b0])]
      simp only [hp]
      walk_at "pl"
      exact ⟨by decide, k _ _ (.frac ho) hp fr_refl (fun b hb => .inl hb) nofun⟩
    | frPart b0 m0 h1 h2 =>
      rw [if_neg (by simp [b0])]
      simp only [hp]
      walk_at "pl"
      rw [if_neg m0]
      refine ⟨by decide, ?_⟩
      simp only [oset_ne hne', ho]
      walk_at "pl"
      refine ⟨by decide, by decide, F_fracNext C, m_fracNext T _ (by simp), p, kk + 1, t, b, rfl, oset_same, b0, h1, h2, by decide, ?_⟩
      rw [oset_oset]
      exact k _ _ (.frac oset_same) ((oset_ne hne).trans oset_same) (fr_two (by simp)) (fun b hb => .inl hb) nofun
  | root ho =>
    rename_i kk t s' b f'
    have hne : pu ≠ p := fun e => hn (by simp [e])
    have hne' : p ≠ pu := Ne.symm hne
    walk_at "pl"
    refine ⟨_, _, ho, by walk_at "nm", F_noEnd, m_rootEnd T _ (by simp), p, rfl, _, rfl, ?_⟩
    rw [if_neg (by decide)]
    simp only [hp]
    walk_at "pl"
    cases ht with
    | rtWait => exact ⟨by decide, k _ _ (.root ho) hp fr_refl (fun b hb => .inl hb) nofun⟩
    | rtPart m0 b0 h1 h2 h3 h4 h5 h6 h7 =>
      rename_i q t'
      rw [if_neg m0]
      refine ⟨by decide, ?_⟩
      simp only [oset_ne hne', ho]
      walk_at "pl"
      refine ⟨by decide, by decide, F_rootNext C, m_rootNext T _ (by simp), p, kk + 1, t, s', b, f', q, t', rfl, oset_same, b0, h1, h2, h3, h4, h5, h6, h7, by decide, ?_⟩
      rw [oset_oset]
      exact k _ _ (.root oset_same) ((oset_ne hne).trans oset_same) (fr_two (by simp)) (fun b hb => .inl hb) nofun
  | ruled ho =>
    rename_i kk ps ring steps
    have hne : pu ≠ p := fun e => hn (by simp [e])
    have hne' : p ≠ pu := Ne.symm hne
    walk_at "pl"
    refine ⟨_, _, ho, by walk_at "nm", F_ruEnd C, m_ruEnd T _ (by simp), p, kk, ps, ring, steps, rfl, ho, _, rfl, ?_⟩
    cases ht with
    | ruEnd h1 =>
      rw [if_pos (by simp; omega)]
      exact ⟨by decide, k _ _ (.ruled ho) hp fr_refl (fun b hb => .inl hb) nofun⟩
    | ruWait h1 =>
      rw [if_neg (by simp; intro z; have := h1 z; omega)]
      simp only [hp]
      walk_at "pl"
      exact ⟨by decide, k _ _ (.ruled ho) hp fr_refl (fun b hb => .inl hb) nofun⟩
    | ruPart h1 m0 h2 h3 h4 h5 h6 =>
      rw [if_neg (by simp; intro z; have := h1 z; omega)]
      simp only [hp]
      walk_at "pl"
      rw [if_neg m0]
      refine ⟨by decide, ?_⟩
      simp only [oset_ne hne', ho]
      walk_at "pl"
      refine ⟨by decide, by decide, F_ruNext C, m_ruNext T _ (by simp), p, kk, ps, ring, steps, rfl, oset_same, h1, h2, h3, h4, h5, h6, by decide, ?_⟩
      exact k _ _ (.ruled oset_same) ((oset_ne hne).trans oset_same) (fr_two (by simp)) (fun b hb => .inl hb) nofun
  | _ => cases hk
structure Tolds (P : Program) (w : World) (K : PySem.W.Frag) (mg : Str → Option Value) (base : Heap) (ca : CA) (C : CT) (L : Nat) : Prop where
  all : ∀ kd, ∀ D ∈ C.cls kd, Mth P w K mg base ca L D "told" (F_told C kd L)
theorem F_told_leaf {C : CT} {L M : Nat} (hL : 3 ≤ L) : ∀ ds Ω Q E, F_told C .leaf M ds Ω Q E → F_told C .leaf L ds Ω Q E := by
  rintro ds Ω Q E ⟨p, pu, r, S, n, m, r', m', ans, e, hk, hl, z⟩
  exact ⟨p, pu, r, S, n, m, r', m', ans, e, hk, by rw [R.lv_leaf hk]; omega, z⟩
theorem F_told_fixed {C : CT} {L M : Nat} (hL : 1 ≤ L) : ∀ ds Ω Q E, F_told C .fixed M ds Ω Q E → F_told C .fixed L ds Ω Q E := by
  rintro ds Ω Q E ⟨p, pu, r, S, n, m, r', m', ans, e, hk, hl, z⟩
  exact ⟨p, pu, r, S, n, m, r', m', ans, e, hk, by rw [R.lv_fixed hk]; omega, z⟩
theorem tolds3 (T : Txt K mg C) : Tolds P w K mg base ca C 3 := by
  refine ⟨fun kd D hD => ?_⟩
  cases kd with
  | fixed => exact ((m_fixedTold T D hD).imp (F_told_fixed (by decide))).mono (by decide)
  | leaf => exact ((m_leafTold T D hD).imp (F_told_leaf (by decide))).mono (by decide)
  | four => exact mth_none T.m_Four_told (fun ds Ω Q E ⟨p, pu, r, S, n, m, r', m', ans, e, hk, hl, z⟩ => by have := R.lv_four hk; omega) D hD
  | eight => exact mth_none T.m_Eight_told (fun ds Ω Q E ⟨p, pu, r, S, n, m, r', m', ans, e, hk, hl, z⟩ => by have := R.lv_eight hk; omega) D hD
def F_part (C : CT) (L : Nat) : AF := fun ds Ω Q E => ∃ (p : Addr) (r : R) (S : List Addr) (n : Nat) (m : Int) (r' : R) (m' : Int) (ans : Ans), ds = [.o p, .int m] ∧ r.lv ≤ L ∧ RdO C Ω p r S ∧ Told n r m r' m' ans ∧
  ∀ (Ω' : Om) (S' : List Addr), RdO C Ω' p r' S' → (∀ b, b ∉ S → Ω b ≠ none → Ω' b = Ω b) → (∀ b ∈ S', b ∈ S ∨ Ω b = none) → ans.ok C Q E Ω'
theorem m_part (T : Txt K mg C) {L : Nat} (tl : Tolds P w K mg base ca C L) : ∀ D ∈ [C.c_Fixed, C.c_Fraction, C.c_Root, C.c_Ruled, C.c_Four, C.c_Eight], Mth P w K mg base ca (L + 2 + 1) D "part" (F_part C L) := by
  refine mth T.m_Reader_part sc_Reader_part (fun ds Ω Q E h => ?_) (fun f cdv A outer s H E hr => ⟨_, _, (ass_one (as_ret (ae_meth (k := L) hr (takes_of rfl rfl rfl rfl) (by omega) (ae_var 0) (aa_cons (ae_make (mk_Purse T) hr (takes_of rfl rfl rfl rfl) (by omega) (aa_cons (ae_var 1) aa_nil)) aa_nil)))), fun ds Ω Qa Ea h => ?_⟩)
  · obtain ⟨_, _, _, _, _, _, _, _, rfl, _⟩ := h
    rfl
  · obtain ⟨p, r, S, n, m, r', m', ans, rfl, hl, hR, ht, k⟩ := h
    obtain ⟨c, fs, ho, hm, hc⟩ := hR.obj
    walk_at "pl"
    refine ⟨c, fs, ho, hm _ (.inl rfl), F_told C r.kd L, tl.all r.kd c hc, fun pu hpu => ⟨pu, m, rfl, oset_same, rfl, ?_⟩⟩
    have hS : ∀ b ∈ S, b ≠ pu := fun b hb e => hR.there b hb (by rw [e]; exact hpu)
    rw [oset_oset]
    refine ⟨p, pu, r, S, n, m, r', m', ans, rfl, rfl, hl, hR.keep fun b hb => oset_ne (hS b hb), oset_same, fun z => hS pu z rfl, ht, fun Ω' S' hR' hp' fr fs' _ => ?_⟩
    have fr' : ∀ b, b ∉ S → Ω b ≠ none → Ω' b = Ω b := fun b hb hn => by
      have hne : b ≠ pu := fun e => hn (by rw [e]; exact hpu)
      rw [fr b hb hne (by rw [oset_ne hne]; exact hn), oset_ne hne]
    have q := k Ω' S' hR' fr' fun b hb => (fs' b hb).imp id fun z => by
      by_cases e : b = pu
      · rw [e]; exact hpu
      · rwa [oset_ne e] at z
    cases ans <;> exact q
def F_took (C : CT) (r : R → Prop) : AF := fun ds Ω Q _ => ∃ (p : Addr) (x : R) (S : List Addr), ds = [.o p] ∧ RdO C Ω p x S ∧ r x ∧ Q (.int x.tk) Ω
theorem m_leafTook (T : Txt K mg C) : ∀ D ∈ [C.c_Fraction, C.c_Root, C.c_Ruled], Mth P w K mg base ca 1 D "took" (F_took C fun r => r.kd = .leaf) := by
  refine mth T.m_Leaf_took sc_Leaf_took (fun ds Ω Q E h => ?_) (fun f cdv A outer s H E hr => ⟨_, _, (ass_one (as_ret (ae_fld 0 (ae_var 0)))), fun ds Ω Qa Ea h => ?_⟩)
  · obtain ⟨_, _, _, rfl, _⟩ := h
    rfl
  · obtain ⟨p, x, S, rfl, hR, hk, k⟩ := h
    cases hR with
    | frac ho =>
      walk_at "pl"
      simp only [ho]
      walk_at "pl"
      exact k
    | root ho =>
      walk_at "pl"
      simp only [ho]
      walk_at "pl"
      exact k
    | ruled ho =>
      walk_at "pl"
      simp only [ho]
      walk_at "pl"
      exact k
    | _ => cases hk
def F_must (C : CT) : AF := fun ds Ω Q E => ∃ b : Bool, ds = [.bl b] ∧ (if b = true then Q .non Ω else E (.ref C.c_BadTree) Ω)
theorem c_must (T : Txt K mg C) : Clb P w K mg base ca 1 "must" (F_must C) := by
  refine clb T.d_must sc_must (fun ds Ω Q E h => ?_) (fun f cdv A outer s H E hr => ⟨_, _, (ass_one (as_if (at_not (at_val (ae_var 0))) (ass_one (as_raise rfl (takes_of rfl rfl rfl rfl) T.x_BadTree)) ass_nil)), fun ds Ω Qa Ea h => ?_⟩)
  · obtain ⟨_, rfl, _⟩ := h
    rfl
  · obtain ⟨b, rfl, k⟩ := h
    walk_at "pl"
    cases b <;> exact k
def optD : Option Int → D
  | none => .non
  | some q => .int q
def cD (c : Int × Int) : D := .tup [.int c.1, .int c.2]
theorem seq_cD {Ω : Om} {c : Int × Int} : (cD c).seq Ω = some [.int c.1, .int c.2] := rfl
def Bg (x : Int) : Prop := x.natAbs < 2 ^ 290400
theorem compL_map {α : Type} {g : AG} {c : ATT} {re : ATE} {vs : List Nat} {Wa : AW} {ρ : En} {Q : AQ} (em f : α → D) (I : Om → Prop) : ∀ (xs : List α) (acc : List D) (Ω : Om), I Ω → acc.length + xs.length ≤ 100000 →
    (∀ x ∈ xs, ∀ (Ω' : Om) (R : AQ) (Z : Om → Prop), I Ω' → (∀ Ω'', I Ω'' → R (f x) Ω'') → g (em x) (wipeA ρ vs) Ω' fun ρ1 Ω1 => c Wa ρ1 Ω1 fun k Ω2 => if k = true then re Wa ρ1 Ω2 R else Z Ω2) →
    (∀ Ω', I Ω' → Q (.lst (acc ++ xs.map f)) Ω') → compL g c re vs (xs.map em) acc Wa ρ Ω Q
  | [], acc, Ω, i, _, _, k => by
    have := k Ω i
    rw [List.map_nil, List.append_nil] at this
    exact this
  | x :: xs, acc, Ω, i, hl, h, k => h x List.mem_cons_self Ω _ _ i fun Ω' i' => ⟨by rw [List.length_cons] at hl; exact small1000' (by omega), by
    refine compL_map em f I xs (acc ++ [f x]) Ω' i' (by rw [List.length_append, List.length_singleton]; rw [List.length_cons] at hl; omega) (fun y hy => h y (List.mem_cons_of_mem _ hy)) fun Ω'' i'' => ?_
    rw [List.append_assoc]
    exact k Ω'' i''⟩
def F_below : AF := fun ds Ω Q _ => ∃ (c0 : Int × Int) (cs : List (Int × Int)), ds = [.lst ((c0 :: cs).map cD)] ∧ cs.length ≤ 3 ∧ (∀ c ∈ c0 :: cs, Bg c.1 ∧ Bg c.2) ∧ Q (optD (belowAll (c0 :: cs))) Ω
def P_b1 (c0 : Int × Int) (cs : List (Int × Int)) (Ω : Om) : List D → En → Om → Prop := fun us ρ Ω' => ∃ (ds dn : List (Int × Int)) (z1 z2 : Option D), us = ds.map cD ∧ dn ++ ds = c0 :: cs ∧ (∀ c ∈ dn, 0 < c.2 * c0.2) ∧ Ω' = Ω ∧ ρ = [some (.lst ((c0 :: cs).map cD)), z1, z2, none, none]
def P_b2 (c0 : Int × Int) (cs : List (Int × Int)) (l : Int) (Ω : Om) : List D → En → Om → Prop := fun us ρ Ω' => ∃ (ds dn : List (Int × Int)) (z1 z2 z3 : Option D), us = ds.map cD ∧ dn ++ ds = c0 :: cs ∧ belowRest l c0 (c0 :: cs) = belowRest l c0 ds ∧ Ω' = Ω ∧ ρ = [some (.lst ((c0 :: cs).map cD)), z1, z2, some (.int l), z3]
theorem bg_mul {i j : Int} (h : Bg i) (hj : Bg j) : IntMulOk i j := mulok h hj (by decide)
theorem bg_nopy {i j : Int} (h : j ≠ 0) (_ : Bg j) : NoPy i j := h
theorem bg_rest {t b l : Int} (ht : Bg t) (hb : Bg b) (hl : l.natAbs ≤ 2 ^ 290400) : IntMulOk (l + 1) b ∧ IntMulOk (t - (l + 1) * b) b := by
  unfold Bg at ht hb
  have e1 : (2 : Nat) ^ 290402 = 2 ^ 290400 * 4 := by rw [show 290402 = 290400 + 2 from rfl, Nat.pow_add]
  have e2 : (2 : Nat) ^ 580803 = 2 ^ 290402 * 2 ^ 290401 := by rw [← Nat.pow_add]
  have e3 : (2 : Nat) ^ 290401 = 2 ^ 290400 * 2 := by rw [Nat.pow_succ]
  have h1 : (l + 1).natAbs < 2 ^ 290402 := by
    generalize (2 : Nat) ^ 290402 = X at e1 ⊢
    generalize (2 : Nat) ^ 290400 = Y at *
    omega
  have h2 : (t - (l + 1) * b).natAbs < 2 ^ 580804 := by
    have h3 : ((l + 1) * b).natAbs ≤ 2 ^ 290402 * 2 ^ 290400 := by
      rw [Int.natAbs_mul]
      exact Nat.mul_le_mul (Nat.le_of_lt h1) (Nat.le_of_lt hb)
    have h4 : (2 : Nat) ^ 580804 = 2 ^ 290402 * 2 ^ 290400 * 4 := by rw [← Nat.pow_add, show (4 : Nat) = 2 ^ 2 from rfl, ← Nat.pow_add]
    have h5 : (2 : Nat) ^ 290400 ≤ 2 ^ 290402 * 2 ^ 290400 := Nat.le_mul_of_pos_left _ (Nat.pow_pos (by decide))
    have h6 := Int.natAbs_sub_le t ((l + 1) * b)
    rw [h4]
    generalize (2 : Nat) ^ 290402 * 2 ^ 290400 = X at h3 h5 ⊢
    generalize (2 : Nat) ^ 290400 = Y at *
    omega
  exact ⟨mulok h1 hb (by decide), mulok h2 hb (by decide)⟩
theorem c_below_all (T : Txt K mg C) : Clb P w K mg base ca 1 "below_all" F_below := by
  refine clb T.d_below_all sc_below_all (fun ds Ω Q E h => ?_) (fun f cdv A outer s H E hr => ⟨_, _, (ass_cons (as_for (passes_of rfl) rfl (ae_var 0) (ag_tup (n := 2) rfl (ags_cons (i := 1) sc_below_all.nd rfl (Or.inl rfl) (ags_cons (i := 2) sc_below_all.nd rfl (Or.inl rfl) ags_nil))) (ass_one (as_if (at_le (ae_mul (ae_var 2) (ae_ix (ae_ix (ae_var 0) ae_int) ae_int)) ae_int) (ass_one (as_ret ae_non)) ass_nil)))
      (ass_cons (as_set 3 sc_below_all.nd (ae_min rfl T.b_min rfl (ae_lc rfl sc_below_all.nd (ae_var 0) (show BlkOk ["corners", "top", "below", "least", "rest"] (defScope s_below_all) _ [("top", 1), ("below", 2)] from blkOk_by (by decide +kernel)) (wip_tup (by decide)) (fun s1 H1 C1 cl1 fp1 => (ag_tup (n := 2) rfl (ags_cons (i := 1) sc_below_all.nd rfl (Or.inl rfl) (ags_cons (i := 2) sc_below_all.nd rfl (Or.inl rfl) ags_nil)))) (fun s1 H1 C1 cl1 fp1 => AE.cast (ae_fdv (div_blk (div_of hr)) (ae_var 1) (ae_var 2)) (by first | (dsimp only [Blk, Cx.blk]; done) | rfl)))))
      (ass_cons (as_for (passes_of rfl) rfl (ae_var 0) (ag_tup (n := 2) rfl (ags_cons (i := 1) sc_below_all.nd rfl (Or.inl rfl) (ags_cons (i := 2) sc_below_all.nd rfl (Or.inl rfl) ags_nil))) (ass_cons (as_set 4 sc_below_all.nd (ae_mul (ae_sub (ae_var 1) (ae_mul (ae_add (ae_var 3) ae_int) (ae_var 2))) (ae_var 2)))
      (ass_one (as_if (AWt.at_ (aw_or (at_gt (ae_var 4) ae_int) (aw_or1 (AWt.at_ (aw_and (at_eqI (ae_var 4) ae_int) (aw_and1 (at_eqI (ae_mul (ae_var 1) (ae_ix (ae_ix (ae_var 0) ae_int) ae_int)) (ae_mul (ae_ix (ae_ix (ae_var 0) ae_int) ae_int) (ae_var 2))))))))) (ass_one (as_ret ae_non)) ass_nil))))
      (ass_one (as_ret (ae_var 3)))))), fun ds Ω Qa Ea h => ?_⟩)
  · obtain ⟨_, _, rfl, _⟩ := h
    rfl
  · obtain ⟨c0, cs, rfl, hl, hb, k⟩ := h
    walk_at "pl"
    refine forL_ind (P_b1 c0 cs Ω) ⟨c0 :: cs, [], none, none, rfl, rfl, by simp, rfl, rfl⟩ ?_ ?_
    · rintro ρ Ω' ⟨ds, dn, z1, z2, e, e2, h0, rfl, rfl⟩
      have hds : ds = [] := by cases ds with
        | nil => rfl
        | cons _ _ => cases e
      subst hds
      rw [List.append_nil] at e2
      subst e2
      have hany : (c0 :: cs).any (fun c => decide (c.2 * c0.2 ≤ 0)) = false := by
        rw [List.any_eq_false]
        intro c hc
        have := h0 c hc
        simp only [decide_eq_true_eq]
        omega
      have hbel : belowAll (c0 :: cs) = belowRest ((cs.map fun c => c.1.fdiv c.2).foldl min (c0.1.fdiv c0.2)) c0 (c0 :: cs) := by
        unfold belowAll
        simp only [hany]
        rfl
      have hne : ∀ c ∈ c0 :: cs, c.2 ≠ 0 := fun c hc z => by
        have := h0 c hc
        rw [z, Int.zero_mul] at this
        omega
      walk_at "pl"
      refine compL_map cD (fun c => .int (c.1.fdiv c.2)) (fun Ω'' => Ω'' = Ω') (c0 :: cs) [] Ω' rfl (by simp only [List.length_cons, List.length_nil]; omega) (fun c hc Ω1 R Z hΩ hk => ?_) (fun Ω1 hΩ => ?_)
      · subst hΩ
        simp only [wipeA, aYes, cD]
        walk_at "pl"
        exact ⟨bg_nopy (hne c hc) (hb c hc).2, hk _ rfl⟩
      · subst hΩ
        refine ⟨(c0 :: cs).map fun c => c.1.fdiv c.2, by rw [List.nil_append, List.map_map]; rfl, by simp, fun m hm hm2 => ?_⟩
        rw [List.map_cons] at hm hm2
        rw [min_spec (cs.map fun c : Int × Int => c.1.fdiv c.2) (c0.1.fdiv c0.2) m hm hm2] at hbel
        have hmb : m.natAbs ≤ 2 ^ 290400 := by
          rw [← List.map_cons (f := fun c : Int × Int => c.1.fdiv c.2)] at hm
          obtain ⟨c, hc, rfl⟩ := List.mem_map.mp hm
          exact Nat.le_of_lt (Nat.lt_of_le_of_lt fdiv_le (hb c hc).1)
        refine forL_ind (P_b2 c0 cs m Ω1) ⟨c0 :: cs, [], z1, z2, none, rfl, rfl, rfl, rfl, rfl⟩ ?_ ?_
        · rintro ρ Ω' ⟨ds, dn, z1, z2, z3, e, e2, h1, rfl, rfl⟩
          have hds : ds = [] := by cases ds with
            | nil => rfl
            | cons _ _ => cases e
          subst hds
          walk_at "pl"
          rw [hbel, h1] at k
          exact k
        · rintro x us ρ Ω' De ert ih _ _ ⟨ds, dn, z1, z2, z3, e, e2, h1, rfl, rfl⟩
          cases ds with
          | nil => cases e
          | cons c ds =>
            have hc : c ∈ c0 :: cs := by rw [← e2]; simp
            rw [List.map_cons, List.cons.injEq] at e
            obtain ⟨rfl, rfl⟩ := e
            simp only [cD]
            walk_at "pl"
            obtain ⟨q1, q2⟩ := bg_rest (hb c hc).1 (hb c hc).2 hmb
            simp only [seq_cD]
            walk_at "pl"
            refine ⟨q1, q2, ?_⟩
            have q3 := bg_mul (hb c hc).1 (hb c0 List.mem_cons_self).2
            have q4 := bg_mul (hb c0 List.mem_cons_self).1 (hb c hc).2
            by_cases g1 : 0 < (c.1 - (m + 1) * c.2) * c.2
            · rw [if_pos g1, ert]
              have : belowRest m c0 ((c.1, c.2) :: ds) = none := by unfold belowRest; rw [if_pos (.inl g1)]
              rw [hbel, h1, this] at k
              exact k
            · rw [if_neg g1]
              have hno : ¬ ((c.1 - (m + 1) * c.2) * c.2 = 0 ∧ c.1 * c0.2 = c0.1 * c.2) → De.nx [some (.lst ((c0 :: cs).map cD)), some (.int c.1), some (.int c.2), some (.int m), some (.int ((c.1 - (m + 1) * c.2) * c.2))] Ω' := fun hn => by
                have : belowRest m c0 ((c.1, c.2) :: ds) = belowRest m c0 ds := by
                  conv => lhs; unfold belowRest
                  rw [if_neg]
                  rintro (z | z)
                  · exact g1 z
                  · exact hn z
                exact ih _ _ ⟨ds, dn ++ [c], _, _, _, rfl, by rw [List.append_assoc]; exact e2, h1.trans this, rfl, rfl⟩
              refine ite2 (fun g2 => ?_) (fun g2 => ?_)
              · refine ⟨q3, q4, ite2 (fun g3 => ?_) (fun g3 => hno fun z => g3 z.2)⟩
                rw [ert]
                have : belowRest m c0 ((c.1, c.2) :: ds) = none := by unfold belowRest; rw [if_pos (.inr ⟨g2, g3⟩)]
                rw [hbel, h1, this] at k
                exact k
              · exact hno fun z => g2 z.1
    · rintro x us ρ Ω' De ert ih _ _ ⟨ds, dn, z1, z2, e, e2, h0, rfl, rfl⟩
      cases ds with
      | nil => cases e
      | cons c ds =>
        have hc : c ∈ c0 :: cs := by rw [← e2]; simp
        rw [List.map_cons, List.cons.injEq] at e
        obtain ⟨rfl, rfl⟩ := e
        simp only [cD]
        walk_at "pl"
        simp only [seq_cD]
        walk_at "pl"
        refine ⟨bg_mul (hb c hc).2 (hb c0 List.mem_cons_self).2, ite2 (fun g => ?_) (fun g => ?_)⟩
        · rw [ert]
          have : belowAll (c0 :: cs) = none := by
            unfold belowAll
            have : (c0 :: cs).any (fun c => decide (c.2 * c0.2 ≤ 0)) = true := List.any_eq_true.mpr ⟨c, hc, by simpa using g⟩
            simp only [this, if_true]
          rw [this] at k
          exact k
        · exact ih _ _ ⟨ds, dn ++ [c], _, _, rfl, by rw [List.append_assoc]; exact e2, fun c' h' => by
            rcases List.mem_append.mp h' with h' | h'
            · exact h0 c' h'
            · rw [List.mem_singleton.mp h']; omega, rfl, rfl⟩
def F_fourI (C : CT) : AF := fun ds Ω Q _ => ∃ (p z : Addr) (ns : List D) (rdy bg : Bool), ds = [.o p, .tup ns, .o z, .bl rdy, .bl bg] ∧ Ω p = some (.obj C.c_Four []) ∧ Q .non (oset Ω p (oFour C ns z rdy bg .non))
theorem mk_Four (T : Txt K mg C) : Mkc P w K mg base ca 1 "Four" C.c_Four (F_fourI C) := by
  refine mkc T.k_Four sc_Four___init__ (fun ds Ω Q E h => ?_) (fun f cdv A outer s H E hr => ⟨_, _, (ass_cons (as_asg (ae_var 1) (ag_new (ae_var 0)))
      (ass_cons (as_asg (ae_var 2) (ag_new (ae_var 0)))
      (ass_cons (as_asg (ae_var 3) (ag_new (ae_var 0)))
      (ass_cons (as_asg (ae_var 4) (ag_new (ae_var 0)))
      (ass_one (as_asg ae_non (ag_new (ae_var 0)))))))), fun ds Ω Qa Ea h => ?_⟩)
  · obtain ⟨_, _, _, _, _, rfl, _⟩ := h
    rfl
  · obtain ⟨p, z, ns, rdy, bg, rfl, ho, k⟩ := h
    walk_at "pl"
    refine ⟨_, _, ho, by walk_at "nm", T.n_Four_numbers, by decide, ?_⟩
    walk_at "pl"
    refine ⟨by walk_at "nm", T.n_Four_inner, by decide, ?_⟩
    walk_at "pl"
    refine ⟨by walk_at "nm", T.n_Four_ready, by decide, ?_⟩
    walk_at "pl"
    refine ⟨by walk_at "nm", T.n_Four_begun, by decide, ?_⟩
    walk_at "pl"
    exact ⟨by walk_at "nm", T.n_Four_fixed, by decide, k⟩
def F_eightI (C : CT) : AF := fun ds Ω Q _ => ∃ (p z1 z2 : Addr) (ns : List D), ds = [.o p, .tup ns, .o z1, .o z2] ∧ Ω p = some (.obj C.c_Eight []) ∧ ∀ k, k ≠ p → Ω k = none → Q .non (oset (oset Ω k (.lst [.int 0, .int 0])) p (oEight C ns z1 z2 k false .non))
theorem mk_Eight (T : Txt K mg C) : Mkc P w K mg base ca 1 "Eight" C.c_Eight (F_eightI C) := by
  refine mkc T.k_Eight sc_Eight___init__ (fun ds Ω Q E h => ?_) (fun f cdv A outer s H E hr => ⟨_, _, (ass_cons (as_asg (ae_var 1) (ag_new (ae_var 0)))
      (ass_cons (as_asg (ae_lst (aa_cons (ae_var 2) (aa_cons (ae_var 3) aa_nil))) (ag_new (ae_var 0)))
      (ass_cons (as_asg (ae_lstO (aa_cons ae_int (aa_cons ae_int aa_nil))) (ag_new (ae_var 0)))
      (ass_cons (as_asg ae_bl (ag_new (ae_var 0)))
      (ass_one (as_asg ae_non (ag_new (ae_var 0)))))))), fun ds Ω Qa Ea h => ?_⟩)
  · obtain ⟨_, _, _, _, rfl, _⟩ := h
    rfl
  · obtain ⟨p, z1, z2, ns, rfl, ho, k⟩ := h
    walk_at "pl"
    refine ⟨_, _, ho, by walk_at "nm", T.n_Eight_numbers, by decide, ?_⟩
    walk_at "pl"
    refine ⟨by decide, by walk_at "nm", T.n_Eight_inners, by decide, by decide, fun kk hk => ?_⟩
    have hne : kk ≠ p := fun e => by rw [e, oset_same] at hk; cases hk
    have hne' : p ≠ kk := Ne.symm hne
    rw [oset_ne hne'] 
    walk_at "pl"
    refine ⟨by walk_at "nm", T.n_Eight_many, by decide, ?_⟩
    walk_at "pl"
    refine ⟨by walk_at "nm", T.n_Eight_begun, by decide, ?_⟩
    walk_at "pl"
    refine ⟨by walk_at "nm", T.n_Eight_rest, by decide, ?_⟩
    have := k kk hne (by rw [oset_ne hne] at hk; exact hk)
    have e : oset (oset (oset Ω p (.obj C.c_Eight [("numbers", .tup ns), ("inners", .lst [.o z1, .o z2])])) kk (.lst [.int 0, .int 0])) p (oEight C ns z1 z2 kk false .non) = oset (oset Ω kk (.lst [.int 0, .int 0])) p (oEight C ns z1 z2 kk false .non) := by
      funext b
      unfold oset
      by_cases h1 : b = p
      · rw [if_pos h1, if_pos h1]
      · rw [if_neg h1, if_neg h1]
        by_cases h2 : b = kk
        · rw [if_pos h2]; simp only [h1, if_false]
        · rw [if_neg h2]; simp only [h1, if_false]
    rw [← e] at this
    exact this
theorem sm_bg {a : Int} (h : Sm a) : Bg a := Nat.lt_trans h (Nat.pow_lt_pow_right (by decide) (by decide))
theorem sm_bg2 {a b : Int} (h : Sm a) (h2 : Sm b) : Bg (a + b) := by
  unfold Sm at h h2
  unfold Bg
  have e1 : (2 : Nat) ^ 290400 = 2 ^ 290000 * 2 ^ 400 := by rw [← Nat.pow_add]
  have e2 : (2 : Nat) ^ 400 ≥ 4 := by decide
  have := Nat.mul_le_mul_left (2 ^ 290000) e2
  have h3 := Int.natAbs_add_le a b
  rw [e1]
  omega
theorem sm_bg4 {a b c d : Int} (h : Sm a) (h2 : Sm b) (h3 : Sm c) (h4 : Sm d) : Bg (a + b + c + d) := by
  unfold Sm at h h2 h3 h4
  unfold Bg
  have e1 : (2 : Nat) ^ 290400 = 2 ^ 290000 * 2 ^ 400 := by rw [← Nat.pow_add]
  have e2 : (2 : Nat) ^ 400 ≥ 4 := by decide
  have := Nat.mul_le_mul_left (2 ^ 290000) e2
  have h5 := Int.natAbs_add_le a b
  have h6 := Int.natAbs_add_le (a + b) c
  have h7 := Int.natAbs_add_le (a + b + c) d
  rw [e1]
  omega
def F_sure4 (C : CT) : AF := fun ds Ω Q _ => ∃ (p z : Addr) (a b c d : Int) (rdy bg : Bool) (f : D), ds = [.o p] ∧ Ω p = some (oFour C [.int a, .int b, .int c, .int d] z rdy bg f) ∧ Sm a ∧ Sm b ∧ Sm c ∧ Sm d ∧ Q (optD (sure4 rdy a b c d)) Ω
theorem m_sure4 (T : Txt K mg C) : ∀ D ∈ [C.c_Four], Mth P w K mg base ca 2 D "sure" (F_sure4 C) := by
  refine mth T.m_Four_sure sc_Four_sure (fun ds Ω Q E h => ?_) (fun f cdv A outer s H E hr => ⟨_, _, (ass_cons (as_asg (ae_fld 0 (ae_var 0)) (ag_tup (n := 4) rfl (ags_cons (i := 1) sc_Four_sure.nd rfl (Or.inl rfl) (ags_cons (i := 2) sc_Four_sure.nd rfl (Or.inl rfl) (ags_cons (i := 3) sc_Four_sure.nd rfl (Or.inl rfl) (ags_cons (i := 4) sc_Four_sure.nd rfl (Or.inl rfl) ags_nil))))))
      (ass_cons (as_if (at_not (at_val (ae_fld 2 (ae_var 0)))) (ass_one (as_ret ae_non)) ass_nil)
      (ass_one (as_ret (ae_call (c_below_all T) hr (takes_of rfl rfl rfl rfl) (by omega) (aa_cons (ae_lst (aa_cons (ae_tup (aa_cons (ae_var 1) (aa_cons (ae_var 3) aa_nil))) (aa_cons (ae_tup (aa_cons (ae_add (ae_var 1) (ae_var 2)) (aa_cons (ae_add (ae_var 3) (ae_var 4)) aa_nil))) aa_nil))) aa_nil)))))), fun ds Ω Qa Ea h => ?_⟩)
  · obtain ⟨_, _, _, _, _, _, _, _, _, rfl, _⟩ := h
    rfl
  · obtain ⟨p, z, a, b, c, d, rdy, bg, f, rfl, ho, ha, hb, hc, hd, k⟩ := h
    walk_at "pl"
    repeat (simp only [ho]; walk_at "pl")
    unfold sure4 at k
    cases rdy with
    | false => exact k
    | true =>
      exact ⟨by decide, by decide, by decide, (a, c), [(a + b, c + d)], rfl, by simp, by
        intro x hx
        simp only [List.mem_cons, List.not_mem_nil, or_false] at hx
        rcases hx with rfl | rfl
        · exact ⟨sm_bg ha, sm_bg hc⟩
        · exact ⟨sm_bg2 ha hb, sm_bg2 hc hd⟩, k⟩
def F_sure8 (C : CT) : AF := fun ds Ω Q _ => ∃ (p z1 z2 kk : Addr) (a b c d e f g h : Int) (m0 m1 : Nat) (bg : Bool) (q : D), ds = [.o p] ∧ Ω p = some (oEight C [.int a, .int b, .int c, .int d, .int e, .int f, .int g, .int h] z1 z2 kk bg q) ∧ Ω kk = some (.lst [.int m0, .int m1]) ∧
  Sm a ∧ Sm b ∧ Sm c ∧ Sm d ∧ Sm e ∧ Sm f ∧ Sm g ∧ Sm h ∧ Q (optD (sure8 m0 m1 a b c d e f g h)) Ω
theorem m_sure8 (T : Txt K mg C) : ∀ D ∈ [C.c_Eight], Mth P w K mg base ca 2 D "sure" (F_sure8 C) := by
  refine mth T.m_Eight_sure sc_Eight_sure (fun ds Ω Q E h => ?_) (fun f cdv A outer s H E hr => ⟨_, _, (ass_cons (as_asg (ae_fld 0 (ae_var 0)) (ag_tup (n := 8) rfl (ags_cons (i := 1) sc_Eight_sure.nd rfl (Or.inl rfl) (ags_cons (i := 2) sc_Eight_sure.nd rfl (Or.inl rfl) (ags_cons (i := 3) sc_Eight_sure.nd rfl (Or.inl rfl) (ags_cons (i := 4) sc_Eight_sure.nd rfl (Or.inl rfl) (ags_cons (i := 5) sc_Eight_sure.nd rfl (Or.inl rfl) (ags_cons (i := 6) sc_Eight_sure.nd rfl (Or.inl rfl) (ags_cons (i := 7) sc_Eight_sure.nd rfl (Or.inl rfl) (ags_cons (i := 8) sc_Eight_sure.nd rfl (Or.inl rfl) ags_nil))))))))))
      (ass_cons (as_if (at_inI ae_int (ae_fld 2 (ae_var 0))) (ass_one (as_ret ae_non)) ass_nil)
      (ass_one (as_ret (ae_call (c_below_all T) hr (takes_of rfl rfl rfl rfl) (by omega) (aa_cons (ae_lst (aa_cons (ae_tup (aa_cons (ae_var 1) (aa_cons (ae_var 5) aa_nil))) (aa_cons (ae_tup (aa_cons (ae_add (ae_var 1) (ae_var 2)) (aa_cons (ae_add (ae_var 5) (ae_var 6)) aa_nil))) (aa_cons (ae_tup (aa_cons (ae_add (ae_var 1) (ae_var 3)) (aa_cons (ae_add (ae_var 5) (ae_var 7)) aa_nil))) (aa_cons (ae_tup (aa_cons (ae_add (ae_add (ae_add (ae_var 1) (ae_var 2)) (ae_var 3)) (ae_var 4)) (aa_cons (ae_add (ae_add (ae_add (ae_var 5) (ae_var 6)) (ae_var 7)) (ae_var 8)) aa_nil))) aa_nil))))) aa_nil)))))), fun ds Ω Qa Ea h => ?_⟩)
  · obtain ⟨_, _, _, _, _, _, _, _, _, _, _, _, _, _, _, _, rfl, _⟩ := h
    rfl
  · obtain ⟨p, z1, z2, kk, a, b, c, d, e, f', g, h', m0, m1, bg, q, rfl, ho, hk, ha, hb, hc, hd, he, hf, hg, hh, k⟩ := h
    walk_at "pl"
    rw [ho]
    walk_at "pl"
    rw [ho]
    walk_at "pl"
    simp only [seq_o hk]
    refine ⟨[(m0 : Int), m1], rfl, ?_⟩
    unfold sure8 at k
    by_cases hm : 0 < m0 ∧ 0 < m1
    · rw [if_pos hm] at k
      rw [if_neg (by simp; omega)]
      walk_at "pl"
      exact ⟨by decide, by decide, by decide, by decide, by decide, (a, e), [(a + b, e + f'), (a + c, e + g), (a + b + c + d, e + f' + g + h')], rfl, by simp, by
        intro x hx
        simp only [List.mem_cons, List.not_mem_nil, or_false] at hx
        rcases hx with rfl | rfl | rfl | rfl
        · exact ⟨sm_bg ha, sm_bg he⟩
        · exact ⟨sm_bg2 ha hb, sm_bg2 he hf⟩
        · exact ⟨sm_bg2 ha hc, sm_bg2 he hg⟩
        · exact ⟨sm_bg4 ha hb hc hd, sm_bg4 he hf hg hh⟩, k⟩
    · rw [if_neg hm] at k
      rw [if_pos (by simp; omega)]
      exact k
structure Mv (S0 : List Addr) (pu : Addr) (Ω0 : Om) (S : List Addr) (Ω : Om) : Prop where
  fr : Fr S0 pu Ω0 Ω
  fs : ∀ b ∈ S, b ∈ S0 ∨ Ω0 b = none
theorem Mv.refl {S : List Addr} {pu : Addr} {Ω : Om} : Mv S pu Ω S Ω := ⟨fun _ _ _ _ => rfl, fun b hb => .inl hb⟩
theorem Mv.trans {S0 S1 S2 : List Addr} {pu : Addr} {Ω0 Ω1 Ω2 : Om} (h1 : Mv S0 pu Ω0 S1 Ω1) (h2 : Mv S1 pu Ω1 S2 Ω2) (hp : Ω1 pu ≠ none) : Mv S0 pu Ω0 S2 Ω2 := by
  refine ⟨fun b hb hbp hn => ?_, fun b hb => ?_⟩
  · have e1 := h1.fr b hb hbp hn
    have hb1 : b ∉ S1 := fun z => (h1.fs b z).elim hb hn
    rw [h2.fr b hb1 hbp (by rw [e1]; exact hn), e1]
  · rcases h2.fs b hb with h | h
    · exact h1.fs b h
    · by_cases hb0 : b ∈ S0
      · exact .inl hb0
      · refine .inr ?_
        cases hq : Ω0 b with
        | none => rfl
        | some u =>
          have hbp : b ≠ pu := fun e => hp (by rw [← e]; exact h)
          have := h1.fr b hb0 hbp (by rw [hq]; simp)
          rw [h, hq] at this
          cases this
theorem Mv.of {S0 S : List Addr} {pu : Addr} {Ω0 Ω : Om} (T : List Addr) (h : Mv S pu Ω0 S0 Ω) (hd : ∀ b ∈ T, b ∉ S ∨ True) : Mv (T ++ S) pu Ω0 (T ++ S0) Ω := by
  refine ⟨fun b hb hbp hn => h.fr b (fun z => hb (List.mem_append_right _ z)) hbp hn, fun b hb => ?_⟩
  rcases List.mem_append.mp hb with h' | h'
  · exact .inl (List.mem_append_left _ h')
  · exact (h.fs b h').imp (List.mem_append_right _) id
theorem Mv.cons {S0 S : List Addr} {pu : Addr} {Ω0 Ω : Om} (p : Addr) (h : Mv S pu Ω0 S0 Ω) : Mv (p :: S) pu Ω0 (p :: S0) Ω := h.of [p] (fun _ _ => .inr True.intro)
theorem Mv.keep {S0 S : List Addr} {pu p : Addr} {Ω0 Ω : Om} (h : Mv S0 pu Ω0 S Ω) (h1 : p ∉ S0) (h2 : p ≠ pu) (h3 : Ω0 p ≠ none) : Ω p = Ω0 p ∧ p ∉ S := ⟨h.fr p h1 h2 h3, fun z => (h.fs p z).elim h1 h3⟩
theorem Mv.nopu {S0 S : List Addr} {pu : Addr} {Ω0 Ω : Om} (h : Mv S0 pu Ω0 S Ω) (h1 : pu ∉ S0) (h3 : Ω0 pu ≠ none) : pu ∉ S := fun z => (h.fs pu z).elim h1 h3
theorem Mv.set {S : List Addr} {pu p : Addr} {Ω : Om} {o : AO} (h : p ∈ S) : Mv S pu Ω S (oset Ω p o) := ⟨fun b hb _ _ => oset_ne fun e => hb (e ▸ h), fun b hb => .inl hb⟩
theorem Mv.sub {S0 S S' : List Addr} {pu : Addr} {Ω0 Ω : Om} (h : Mv S0 pu Ω0 S Ω) (hs : ∀ b ∈ S', b ∈ S) : Mv S0 pu Ω0 S' Ω := ⟨h.fr, fun b hb => h.fs b (hs b hb)⟩
def Inn2 (p : Addr) (Ω Ω' : Om) : Prop := ∃ c fs c' fs', Ω p = some (.obj c fs) ∧ Ω' p = some (.obj c' fs') ∧ fs'[1]? = fs[1]?
theorem Inn2.trans {p : Addr} {Ω Ω1 Ω2 : Om} (h : Inn2 p Ω Ω1) (h2 : Inn2 p Ω1 Ω2) : Inn2 p Ω Ω2 := by
  obtain ⟨c, fs, c', fs', e1, e2, e3⟩ := h
  obtain ⟨d, gs, d', gs', g1, g2, g3⟩ := h2
  rw [e2] at g1
  cases g1
  exact ⟨c, fs, d', gs', e1, g2, g3.trans e3⟩
def I_four (C : CT) (L : Nat) (p pu : Addr) (r' : R) (m' : Int) (ans : Ans) (S0 : List Addr) (Ω0 : Om) : Nat → En → Om → Prop := fun n ρ Ω => ∃ (r : R) (S : List Addr) (m : Int) (k : Nat) (z1 z2 z3 z4 z5 z6 : Option D), r.kd = .four ∧ r.lv ≤ L + 1 ∧ RdO C Ω p r S ∧ Ω pu = some (oPurse C m) ∧ pu ∉ S ∧ Told k r m r' m' ans ∧ Mv S0 pu Ω0 S Ω ∧ Inn2 p Ω0 Ω ∧
  n = (match r with | .four .. => k + 1 | _ => 0) ∧ ρ = [some (.o p), some (.o pu), z1, z2, z3, z4, z5, z6]
theorem inn_set {p : Addr} {Ω Ω1 : Om} {c : Addr} {fs fs' : List (Str × D)} (h : Ω p = some (.obj c fs)) (h2 : Ω1 p = some (.obj c fs')) (h1 : fs'[1]? = fs[1]?) : Inn2 p Ω Ω1 := ⟨_, _, _, _, h, h2, h1⟩
theorem inn_same {p : Addr} {Ω Ω1 Ω2 : Om} (h : Inn2 p Ω Ω1) (h2 : Ω2 p = Ω1 p) : Inn2 p Ω Ω2 := by
  obtain ⟨c, fs, c', fs', e1, e2, e3⟩ := h
  exact ⟨c, fs, c', fs', e1, h2.trans e2, e3⟩
theorem sure_bg {c0 : Int × Int} {r : List (Int × Int)} {q : Int} (h : belowAll (c0 :: r) = some q) (hb : ∀ c ∈ c0 :: r, Bg c.1) : Bg q := by
  obtain ⟨c, hc, rfl⟩ := (belowAll_spec.mp h).2.1
  exact Nat.lt_of_le_of_lt fdiv_le (hb c hc)
theorem sure4_bg {rdy : Bool} {a b c d q : Int} (h : sure4 rdy a b c d = some q) (ha : Sm a) (hb : Sm b) : Bg q := by
  unfold sure4 at h
  split at h
  · exact sure_bg h fun c hc => by
      simp only [List.mem_cons, List.not_mem_nil, or_false] at hc
      rcases hc with rfl | rfl
      · exact sm_bg ha
      · exact sm_bg2 ha hb
  · cases h
theorem sure8_bg {m0 m1 : Nat} {a b c d e f g i q : Int} (h : sure8 m0 m1 a b c d e f g i = some q) (ha : Sm a) (hb : Sm b) (hc : Sm c) (hd : Sm d) : Bg q := by
  unfold sure8 at h
  split at h
  · exact sure_bg h fun x hx => by
      simp only [List.mem_cons, List.not_mem_nil, or_false] at hx
      rcases hx with rfl | rfl | rfl | rfl
      · exact sm_bg ha
      · exact sm_bg2 ha hb
      · exact sm_bg2 ha hc
      · exact sm_bg4 ha hb hc hd
  · cases h
theorem told_in {L : Nat} (tl : Tolds P w K mg base ca C L) {z pu : Addr} {x x' : R} {S1 : List Addr} {Ω1 : Om} {m m1 : Int} {j : Nat} {ans1 : Ans} (hlx : x.lv ≤ L) (hz : RdO C Ω1 z x S1) (hp : Ω1 pu = some (oPurse C m)) (hn1 : pu ∉ S1) (Q : AQ) (E : Value → Om → Prop) (ht : Told j x m x' m1 ans1)
    (k : ∀ (Ω2 : Om) (S2 : List Addr), RdO C Ω2 z x' S2 → Ω2 pu = some (oPurse C m1) → Mv S1 pu Ω1 S2 Ω2 → Inn x.kd z Ω1 Ω2 → ans1.ok C Q E Ω2) : ∃ c fs, Ω1 z = some (.obj c fs) ∧ ("told" : Str) ∉ fs.map (·.1) ∧ ∃ F, Mth P w K mg base ca L c "told" F ∧ F [.o z, .o pu] Ω1 Q E := by
  obtain ⟨c, fs, ho, hm, hc⟩ := hz.obj
  exact ⟨c, fs, ho, hm _ (.inl rfl), F_told C x.kd L, tl.all x.kd c hc, z, pu, x, S1, j, m, x', m1, ans1, rfl, rfl, hlx, hz, hp, hn1, ht, fun Ω2 S2 h1 h2 h3 h4 h5 => k Ω2 S2 h1 h2 ⟨h3, h4⟩ h5⟩
theorem m_fourTold (T : Txt K mg C) {L : Nat} (hL : 3 ≤ L) (tl : Tolds P w K mg base ca C L) : ∀ D ∈ [C.c_Four], Mth P w K mg base ca (L + 1) D "told" (F_told C .four (L + 1)) := by
  refine mth T.m_Four_told sc_Four_told told_len (fun f cdv A outer s H E hr => ⟨_, _, (ass_cons (as_while (passes_of rfl) (at_isN (ae_fld 4 (ae_var 0))) (ass_cons (as_asg (ae_fld 0 (ae_var 0)) (ag_tup (n := 4) rfl (ags_cons (i := 2) sc_Four_told.nd rfl (Or.inl rfl) (ags_cons (i := 3) sc_Four_told.nd rfl (Or.inl rfl) (ags_cons (i := 4) sc_Four_told.nd rfl (Or.inl rfl) (ags_cons (i := 5) sc_Four_told.nd rfl (Or.inl rfl) ags_nil))))))
      (ass_cons (as_set 6 sc_Four_told.nd (ae_meth0 (k := L) hr (takes_of rfl rfl rfl rfl) (by omega) (ae_var 0)))
      (ass_cons (as_if (at_notN (ae_var 6)) (ass_cons (as_asg (ae_tup (aa_cons (ae_var 4) (aa_cons (ae_var 5) (aa_cons (ae_sub (ae_var 2) (ae_mul (ae_var 6) (ae_var 4))) (aa_cons (ae_sub (ae_var 3) (ae_mul (ae_var 6) (ae_var 5))) aa_nil))))) (ag_fld 0 (ae_var 0)))
      (ass_cons (as_asg ae_bl (ag_fld 3 (ae_var 0)))
      (ass_one (as_ret (ae_tup (aa_cons ae_str (aa_cons (ae_var 6) aa_nil))))))) ass_nil)
      (ass_cons (as_set 7 sc_Four_told.nd (ae_meth (k := L) hr (takes_of rfl rfl rfl rfl) (by omega) (ae_fld 1 (ae_var 0)) (aa_cons (ae_var 1) aa_nil)))
      (ass_cons (as_if (at_eqS (ae_ix (ae_var 7) ae_int) ae_str) (ass_one (as_ret (ae_var 7))) ass_nil)
      (ass_one (as_if (at_eqS (ae_ix (ae_var 7) ae_int) ae_str) (ass_one (as_asg (ae_make (mk_Fixed T) hr (takes_of rfl rfl rfl rfl) (by omega) (aa_cons (ae_var 2) (aa_cons (ae_var 4) (aa_cons (ae_fld 3 (ae_var 0)) aa_nil)))) (ag_fld 4 (ae_var 0)))) (ass_cons (as_asg (ae_tup (aa_cons (ae_add (ae_mul (ae_var 2) (ae_ix (ae_var 7) ae_int)) (ae_var 3)) (aa_cons (ae_var 2) (aa_cons (ae_add (ae_mul (ae_var 4) (ae_ix (ae_var 7) ae_int)) (ae_var 5)) (aa_cons (ae_var 4) aa_nil))))) (ag_fld 0 (ae_var 0)))
      (ass_one (as_asg ae_bl (ag_fld 2 (ae_var 0)))))))))))))
      (ass_one (as_ret (ae_meth (k := L) hr (takes_of rfl rfl rfl rfl) (by omega) (ae_fld 4 (ae_var 0)) (aa_cons (ae_var 1) aa_nil))))), fun ds Ω Qa Ea h => ?_⟩)
  obtain ⟨p, pu, r, S, n, m, r', m', ans, rfl, hk, hl, hR, hp, hn, ht, k⟩ := h
  walk_at "pl"
  refine ⟨I_four C L p pu r' m' ans S Ω, ⟨_, r, S, m, n, none, none, none, none, none, none, hk, hl, hR, hp, hn, ht, .refl, ?_, rfl, rfl⟩, ?_⟩
  · cases hR with
    | four e _ _ => exact ⟨_, _, _, _, e, e, rfl⟩
    | fourX e _ _ _ _ _ => exact ⟨_, _, _, _, e, e, rfl⟩
    | _ => cases hk
  rintro n ρ Ω1 ⟨r, S1, m, i, z1, z2, z3, z4, z5, z6, hk, hl, hR, hp, hn, ht, mv, inn, rfl, rfl⟩
  have fin : ∀ {S2 : List Addr} {Ω2 : Om}, RdO C Ω2 p r' S2 → Ω2 pu = some (oPurse C m') → Mv S pu Ω S2 Ω2 → Inn2 p Ω Ω2 → ans.ok C Qa Ea Ω2 := fun hR2 hp2 mv2 inn2 => k _ _ hR2 hp2 mv2.fr mv2.fs fun _ => inn2
  clear k
  cases hR with
  | four ho hz hnp =>
    rename_i z a b c d rdy bg x S1
    have hne : pu ≠ p := fun e => hn (by simp [e])
    have hn1 : pu ∉ S1 := fun e => hn (by simp [e])
    have hlx : x.lv ≤ L := by simp only [R.lv] at hl; omega
    walk_at "pl"
    rw [ho]
    walk_at "pl"
    simp only [D.isNon]
    walk_at "pl"
    rw [ho]
    walk_at "pl"
    refine ⟨by walk_at "nm", F_sure4 C, (m_sure4 T _ (by simp)).mono (by omega), p, z, a, b, c, d, rdy, bg, .non, rfl, ho, ?_⟩
    have hnn : Ω1 p ≠ none := by rw [ho]; simp
    have hpn : Ω1 pu ≠ none := by rw [hp]; simp
    cases ht with
    | foTell h1 h2 h3 h4 hs =>
      refine ⟨h1, h2, h3, h4, ?_⟩
      rw [hs]
      simp only [optD]
      walk_at "pl"
      have hq := sure4_bg hs h1 h2
      rw [if_pos (by decide)]
      refine ⟨bg_mul hq (sm_bg h3), bg_mul hq (sm_bg h4), by decide, ?_⟩
      rw [ho]
      walk_at "pl"
      refine ⟨by decide, by decide, by decide, fin (.four (S := S1) oset_same (hz.keep fun b hb => oset_ne fun e => hnp (e ▸ hb)) hnp) ((oset_ne hne).trans hp) (mv.trans (Mv.set (by simp)) hpn) (inn.trans (inn_set ho oset_same rfl))⟩
    | foWait h1 h2 h3 h4 hs hx =>
      refine ⟨h1, h2, h3, h4, ?_⟩
      rw [hs]
      simp only [optD]
      walk_at "pl"
      rw [ho]
      walk_at "pl"
      refine told_in tl hlx hz hp hn1 _ _ hx fun Ω2 S2 hR2 hp2 mv2 inn2 => ?_
      simp only [Ans.ok, Ans.d]
      walk_at "pl"
      obtain ⟨e1, e2⟩ := mv2.keep hnp (Ne.symm hne) hnn
      exact fin (.four (e1.trans ho) hR2 e2) hp2 (mv.trans (mv2.cons p) hpn) (inn_same inn e1)
    | foNo h1 h2 h3 h4 hs hx =>
      refine ⟨h1, h2, h3, h4, ?_⟩
      rw [hs]
      simp only [optD]
      walk_at "pl"
      rw [ho]
      walk_at "pl"
      refine told_in tl hlx hz hp hn1 _ _ hx fun Ω2 S2 hR2 hp2 mv2 inn2 => ?_
      obtain ⟨e1, e2⟩ := mv2.keep hnp (Ne.symm hne) hnn
      exact fin (.four (e1.trans ho) hR2 e2) hp2 (mv.trans (mv2.cons p) hpn) (inn_same inn e1)
    | foEnd h1 h2 h3 h4 hs hx hf =>
      refine ⟨h1, h2, h3, h4, ?_⟩
      rw [hs]
      simp only [optD]
      walk_at "pl"
      rw [ho]
      walk_at "pl"
      refine told_in tl hlx hz hp hn1 _ _ hx fun Ω2 S2 hR2 hp2 mv2 inn2 => ?_
      simp only [Ans.ok, Ans.d]
      walk_at "pl"
      obtain ⟨e1, e2⟩ := mv2.keep hnp (Ne.symm hne) hnn
      rw [if_neg (by decide), e1, ho]
      walk_at "pl"
      intro q hq
      have hqp : q ≠ p := fun e => by rw [e, e1, ho] at hq; cases hq
      have hqu : q ≠ pu := fun e => by rw [e, hp2] at hq; cases hq
      have hqS : q ∉ S2 := fun z => hR2.there q z hq
      refine ⟨q, a, c, bg, rfl, oset_same, rfl, ?_⟩
      rw [oset_oset, oset_ne (Ne.symm hqp), e1, ho]
      walk_at "pl"
      refine ⟨by decide, 0, by omega, _, p :: q :: S2, _, 0, _, _, _, _, _, _, rfl, ?_, .fourX (ns := [.int a, .int b, .int c, .int d]) (z := z) (rdy := rdy) (bg := bg) oset_same ?_ (hR2.keep fun b hb => ?_) e2 hqS (Ne.symm hqp), ?_, ?_, .fxX hf, mv.trans ((mv2.cons p).trans ?_ (by rw [hp2]; simp)) hpn, ?_, rfl, rfl⟩
      · have := hx.lv
        simp only [R.lv]
        omega
      · rw [oset_ne hqp, oset_same]
      · rw [oset_ne (fun e : b = p => e2 (by rw [← e]; exact hb)), oset_ne (fun e : b = q => hqS (by rw [← e]; exact hb))]
      · rw [oset_ne hne, oset_ne (Ne.symm hqu)]
        exact hp2
      · have := mv2.nopu hn1 hpn
        simp only [List.mem_cons, not_or]
        exact ⟨hne, Ne.symm hqu, this⟩
      · have hne' := hqp
        refine ⟨fun b hb hbp hn => ?_, fun b hb => ?_⟩
        · rw [oset_ne (fun e => hb (by simp [e])), oset_ne (fun e => hn (by rw [e]; exact hq))]
        · simp only [List.mem_cons] at hb ⊢
          rcases hb with rfl | rfl | hb
          · exact .inl (.inl rfl)
          · exact .inr hq
          · exact .inl (.inr hb)
      · exact (inn_same inn e1).trans (inn_set (e1.trans ho) oset_same rfl)
    | foIn h1 h2 h3 h4 hs hx hq ht2 =>
      refine ⟨h1, h2, h3, h4, ?_⟩
      rw [hs]
      simp only [optD]
      walk_at "pl"
      rw [ho]
      walk_at "pl"
      refine told_in tl hlx hz hp hn1 _ _ hx fun Ω2 S2 hR2 hp2 mv2 inn2 => ?_
      simp only [Ans.ok, Ans.d]
      walk_at "pl"
      obtain ⟨e1, e2⟩ := mv2.keep hnp (Ne.symm hne) hnn
      rw [if_neg (by decide), if_neg (by decide)]
      refine ⟨sm_mul h1 hq, sm_mul h3 hq, by decide, ?_⟩
      rw [e1, ho]
      walk_at "pl"
      refine ⟨by decide, by decide, _, Nat.lt_succ_self _, _, p :: S2, _, _, _, _, _, _, _, _, rfl, ?_, .four oset_same (hR2.keep fun b hb => oset_ne fun e => e2 (e ▸ hb)) e2, (oset_ne hne).trans hp2, ?_, ht2, mv.trans ((mv2.cons p).trans (Mv.set (by simp)) (by rw [hp2]; simp)) hpn, (inn_same inn e1).trans (inn_set (e1.trans ho) oset_same rfl), rfl, rfl⟩
      · have := hx.lv
        simp only [R.lv]
        omega
      · have := mv2.nopu hn1 hpn
        simp only [List.mem_cons, not_or]
        exact ⟨hne, this⟩
  | fourX ho hf hz hnp hnf hpf =>
    rename_i z f ns t b g rdy bg x S1
    walk_at "pl"
    rw [ho]
    walk_at "pl"
    simp only [D.isNon]
    walk_at "pl"
    refine ⟨_, _, hf, by walk_at "nm", F_told C .fixed L, tl.all .fixed _ (by simp [CT.cls]), f, pu, .fixed t b g, [f], 0, m, ?_⟩
    cases ht with
    | fxX hx =>
      rename_i t' b' g'
      refine ⟨.fixed t' b' g', m', ans, rfl, rfl, by simp only [R.lv]; omega, .fixed hf, hp, fun e => hn (by simp at e; simp [e]), hx, fun Ω2 S2 hR2 hp2 fr2 fs2 _ => ?_⟩
      cases hR2 with
      | fixed hf2 =>
        have hne : pu ≠ p := fun e => hn (by simp [e])
        have e1 : Ω2 p = Ω1 p := fr2 p (by simp [hpf]) (Ne.symm hne) (by rw [ho]; simp)
        refine fin (.fourX (e1.trans ho) hf2 (hz.keep fun b hb => ?_) hnp hnf hpf) hp2 (mv.trans (Mv.cons p ?_) (by rw [hp]; simp)) (inn_same inn e1)
        · exact fr2 b (fun z => hnf (by simp at z; rw [← z]; exact hb)) (fun z => hn (by rw [← z]; simp [hb])) (hz.there b hb)
        · exact ⟨fun b hb hbp hn => fr2 b (fun z => hb (by simp at z; simp [z])) hbp hn, fun b hb => .inl hb⟩
  | _ => cases hk
def bI (w : Bool) : Int := cond w 1 0
def F_take (C : CT) : AF := fun ds Ω Q _ => ∃ (p z1 z2 kk : Addr) (a b c d e f g h q : Int) (m0 m1 : Nat) (bg w : Bool) (fx : D), ds = [.o p, .int (bI w), .int q] ∧ Ω p = some (oEight C [.int a, .int b, .int c, .int d, .int e, .int f, .int g, .int h] z1 z2 kk bg fx) ∧ Ω kk = some (.lst [.int m0, .int m1]) ∧ kk ≠ p ∧
  Sm8 a b c d e f g h ∧ Sm q ∧ Q .non (oset (oset Ω p (oEight C (cond w [.int (a * q + b), .int a, .int (c * q + d), .int c, .int (e * q + f), .int e, .int (g * q + h), .int g] [.int (a * q + c), .int (b * q + d), .int a, .int b, .int (e * q + g), .int (f * q + h), .int e, .int f]) z1 z2 kk bg fx)) kk
    (.lst (cond w [.int m0, .int (m1 + 1 : Nat)] [.int (m0 + 1 : Nat), .int m1])))
theorem m_take (T : Txt K mg C) : ∀ D ∈ [C.c_Eight], Mth P w K mg base ca 1 D "take" (F_take C) := by
  refine mth T.m_Eight_take sc_Eight_take (fun ds Ω Q E h => ?_) (fun f cdv A outer s H E hr => ⟨_, _, (ass_cons (as_asg (ae_fld 0 (ae_var 0)) (ag_tup (n := 8) rfl (ags_cons (i := 3) sc_Eight_take.nd rfl (Or.inl rfl) (ags_cons (i := 4) sc_Eight_take.nd rfl (Or.inl rfl) (ags_cons (i := 5) sc_Eight_take.nd rfl (Or.inl rfl) (ags_cons (i := 6) sc_Eight_take.nd rfl (Or.inl rfl) (ags_cons (i := 7) sc_Eight_take.nd rfl (Or.inl rfl) (ags_cons (i := 8) sc_Eight_take.nd rfl (Or.inl rfl) (ags_cons (i := 9) sc_Eight_take.nd rfl (Or.inl rfl) (ags_cons (i := 10) sc_Eight_take.nd rfl (Or.inl rfl) ags_nil))))))))))
      (ass_cons (as_if (at_eqI (ae_var 1) ae_int) (ass_one (as_asg (ae_tup (aa_cons (ae_add (ae_mul (ae_var 3) (ae_var 2)) (ae_var 5)) (aa_cons (ae_add (ae_mul (ae_var 4) (ae_var 2)) (ae_var 6)) (aa_cons (ae_var 3) (aa_cons (ae_var 4) (aa_cons (ae_add (ae_mul (ae_var 7) (ae_var 2)) (ae_var 9)) (aa_cons (ae_add (ae_mul (ae_var 8) (ae_var 2)) (ae_var 10)) (aa_cons (ae_var 7) (aa_cons (ae_var 8) aa_nil))))))))) (ag_fld 0 (ae_var 0)))) (ass_one (as_asg (ae_tup (aa_cons (ae_add (ae_mul (ae_var 3) (ae_var 2)) (ae_var 4)) (aa_cons (ae_var 3) (aa_cons (ae_add (ae_mul (ae_var 5) (ae_var 2)) (ae_var 6)) (aa_cons (ae_var 5) (aa_cons (ae_add (ae_mul (ae_var 7) (ae_var 2)) (ae_var 8)) (aa_cons (ae_var 7) (aa_cons (ae_add (ae_mul (ae_var 9) (ae_var 2)) (ae_var 10)) (aa_cons (ae_var 9) aa_nil))))))))) (ag_fld 0 (ae_var 0)))))
      (ass_one (as_setIx (ae_add (ae_ix (ae_fld 2 (ae_var 0)) (ae_var 1)) ae_int) (ae_fld 2 (ae_var 0)) (ae_var 1))))), fun ds Ω Qa Ea h => ?_⟩)
  · obtain ⟨_, _, _, _, _, _, _, _, _, _, _, _, _, _, _, _, _, _, rfl, _⟩ := h
    rfl
  · obtain ⟨p, z1, z2, kk, a, b, c, d, e, f', g, h', q, m0, m1, bg, w, fx, rfl, ho, hk, hne, ⟨ha, hb, hc, hd, he, hf, hg, hh⟩, hq, k⟩ := h
    have hpk : p ≠ kk := Ne.symm hne
    cases w with
    | true =>
      simp only [bI, cond] at k ⊢
      walk_at "pl"
      rw [ho]
      walk_at "pl"
      rw [if_neg (by decide)]
      refine ⟨sm_mul ha hq, sm_mul hc hq, sm_mul he hq, sm_mul hg hq, by decide, ?_⟩
      rw [ho]
      walk_at "pl"
      simp only [D.seq, oset_ne hne, hk]
      walk_at "pl"
      exact ⟨by decide, 1, by decide, k⟩
    | false =>
      simp only [bI, cond] at k ⊢
      walk_at "pl"
      rw [ho]
      walk_at "pl"
      refine ⟨sm_mul ha hq, sm_mul hb hq, sm_mul he hq, sm_mul hf hq, by decide, ?_⟩
      rw [ho]
      walk_at "pl"
      simp only [D.seq, oset_ne hne, hk]
      walk_at "pl"
      exact ⟨by decide, 0, by decide, k⟩
def F_left (C : CT) : AF := fun ds Ω Q _ => ∃ (p z1 z2 kk : Addr) (a b c d e f g h : Int) (m0 m1 : Nat) (bg w : Bool) (fx : D), ds = [.o p, .int (bI w)] ∧ Ω p = some (oEight C [.int a, .int b, .int c, .int d, .int e, .int f, .int g, .int h] z1 z2 kk bg fx) ∧ Ω kk = some (.lst [.int m0, .int m1]) ∧
  Sm8 a b c d e f g h ∧ ∀ q, Ω q = none → Q (.o q) (oset Ω q (if a * cond w g f ≠ cond w c b * e then oFour C [.int a, .int (cond w c b), .int e, .int (cond w g f)] (cond w z1 z2) (decide (0 < cond w m0 m1)) bg .non else
    oFixed C (if a = 0 ∧ e = 0 then cond w c b else a) (if a = 0 ∧ e = 0 then cond w g f else e) bg))
def M_left (C : CT) (p : Addr) (a b c d e f g h : Int) (w : Bool) (Ω : Om) : En → Om → Prop := fun ρ Ω' => Ω' = Ω ∧ ∃ z3 z4 z5 z6 z7 z8 z9 z10, ρ = [some (.o p), some (.int (bI w)), z3, z4, z5, z6, z7, z8, z9, z10, some (.tup [.int a, .int (cond w c b), .int e, .int (cond w g f)])]
theorem m_left (T : Txt K mg C) : ∀ D ∈ [C.c_Eight], Mth P w K mg base ca 3 D "left_of" (F_left C) := by
  refine mth T.m_Eight_left_of sc_Eight_left_of (fun ds Ω Q E h => ?_) (fun f cdv A outer s H E hr => ⟨_, _, (ass_cons (as_asg (ae_fld 0 (ae_var 0)) (ag_tup (n := 8) rfl (ags_cons (i := 2) sc_Eight_left_of.nd rfl (Or.inl rfl) (ags_cons (i := 3) sc_Eight_left_of.nd rfl (Or.inl rfl) (ags_cons (i := 4) sc_Eight_left_of.nd rfl (Or.inl rfl) (ags_cons (i := 5) sc_Eight_left_of.nd rfl (Or.inl rfl) (ags_cons (i := 6) sc_Eight_left_of.nd rfl (Or.inl rfl) (ags_cons (i := 7) sc_Eight_left_of.nd rfl (Or.inl rfl) (ags_cons (i := 8) sc_Eight_left_of.nd rfl (Or.inl rfl) (ags_cons (i := 9) sc_Eight_left_of.nd rfl (Or.inl rfl) ags_nil))))))))))
      (ass_cons (as_set 10 sc_Eight_left_of.nd (ae_tup (aa_cons (ae_var 2) (aa_cons (ae_var 3) (aa_cons (ae_var 6) (aa_cons (ae_var 7) aa_nil))))))
      (ass_cut (as_if (at_eqI (ae_var 1) ae_int) (ass_one (as_set 10 sc_Eight_left_of.nd (ae_tup (aa_cons (ae_var 2) (aa_cons (ae_var 4) (aa_cons (ae_var 6) (aa_cons (ae_var 8) aa_nil))))))) ass_nil)
      (ass_cons (as_if (at_neI (ae_mul (ae_ix (ae_var 10) ae_int) (ae_ix (ae_var 10) ae_int)) (ae_mul (ae_ix (ae_var 10) ae_int) (ae_ix (ae_var 10) ae_int))) (ass_one (as_ret (ae_make (mk_Four T) hr (takes_of rfl rfl rfl rfl) (by omega) (aa_cons (ae_var 10) (aa_cons (ae_ix (ae_fld 1 (ae_var 0)) (ae_sub ae_int (ae_var 1))) (aa_cons (ae_gt (ae_ix (ae_fld 2 (ae_var 0)) (ae_sub ae_int (ae_var 1))) ae_int) (aa_cons (ae_fld 3 (ae_var 0)) aa_nil))))))) ass_nil)
      (ass_cons (as_if (AWt.at_ (aw_and (at_eqI (ae_ix (ae_var 10) ae_int) ae_int) (aw_and1 (at_eqI (ae_ix (ae_var 10) ae_int) ae_int)))) (ass_one (as_ret (ae_make (mk_Fixed T) hr (takes_of rfl rfl rfl rfl) (by omega) (aa_cons (ae_ix (ae_var 10) ae_int) (aa_cons (ae_ix (ae_var 10) ae_int) (aa_cons (ae_fld 3 (ae_var 0)) aa_nil)))))) ass_nil)
      (ass_one (as_ret (ae_make (mk_Fixed T) hr (takes_of rfl rfl rfl rfl) (by omega) (aa_cons (ae_ix (ae_var 10) ae_int) (aa_cons (ae_ix (ae_var 10) ae_int) (aa_cons (ae_fld 3 (ae_var 0)) aa_nil))))))))))), fun ds Ω Qa Ea h => ?_⟩)
  · obtain ⟨_, _, _, _, _, _, _, _, _, _, _, _, _, _, _, _, _, rfl, _⟩ := h
    rfl
  · obtain ⟨p, z1, z2, kk, a, b, c, d, e, f', g, h', m0, m1, bg, w, fx, rfl, ho, hk, ⟨ha, hb, hc, hd, he, hf, hg, hh⟩, k⟩ := h
    walk_at "pl"
    rw [ho]
    walk_at "pl"
    refine ⟨by decide, M_left C p a b c d e f' g h' w Ω, ?_, ?_⟩
    · cases w with
      | true =>
        simp only [bI, cond]
        walk_at "pl"
        exact ⟨by decide, rfl, _, _, _, _, _, _, _, _, rfl⟩
      | false =>
        simp only [bI, cond]
        walk_at "pl"
        rw [if_neg (by decide)]
        exact ⟨rfl, _, _, _, _, _, _, _, _, rfl⟩
    · rintro ρ Ω1 ⟨rfl, z3, z4, z5, z6, z7, z8, z9, z10, rfl⟩
      have hp2 : Sm (cond w c b) := by cases w; exact hb; exact hc
      have hp4 : Sm (cond w g f') := by cases w; exact hf; exact hg
      walk_at "pl"
      refine ⟨sm_mul ha hp4, sm_mul hp2 he, ?_⟩
      by_cases hq : a * cond w g f' = cond w c b * e
      · rw [if_neg (by simpa using hq)]
        have k' : ∀ q, Ω1 q = none → Qa (.o q) (oset Ω1 q (oFixed C (if a = 0 ∧ e = 0 then cond w c b else a) (if a = 0 ∧ e = 0 then cond w g f' else e) bg)) := fun q hq' => by
          have := k q hq'
          rw [if_neg (fun z => z hq)] at this
          exact this
        clear k
        rw [ho]
        walk_at "pl"
        refine ite2 (fun e1 => ite2 (fun e2 => fun q hq => ?_) (fun e2 => fun q hq => ?_)) (fun e1 => fun q hq => ?_)
        · rw [if_pos ⟨e1, e2⟩, if_pos ⟨e1, e2⟩] at k'
          exact ⟨q, _, _, bg, rfl, oset_same, rfl, by rw [oset_oset]; exact k' q hq⟩
        · rw [if_neg (fun z => e2 z.2), if_neg (fun z => e2 z.2)] at k'
          exact ⟨q, _, _, bg, rfl, oset_same, rfl, by rw [oset_oset]; exact k' q hq⟩
        · rw [if_neg (fun z => e1 z.1), if_neg (fun z => e1 z.1)] at k'
          exact ⟨q, _, _, bg, rfl, oset_same, rfl, by rw [oset_oset]; exact k' q hq⟩
      · rw [if_pos (by simpa using hq)]
        have k' : ∀ q, Ω1 q = none → Qa (.o q) (oset Ω1 q (oFour C [.int a, .int (cond w c b), .int e, .int (cond w g f')] (cond w z1 z2) (decide (0 < cond w m0 m1)) bg .non)) := fun q hq' => by
          have := k q hq'
          rw [if_pos hq] at this
          exact this
        clear k
        rw [ho]
        walk_at "pl"
        simp only [seq_o hk]
        have e1 : atI [D.o z1, D.o z2] (1 - bI w) = some (.o (cond w z1 z2)) := by cases w <;> rfl
        have e2 : atI [D.int (m0 : Int), D.int (m1 : Int)] (1 - bI w) = some (.int ((cond w m0 m1 : Nat) : Int)) := by cases w <;> rfl
        rw [e1]
        walk_at "pl"
        refine ⟨_, e2, _, rfl, fun q hq => ⟨q, _, _, _, bg, rfl, oset_same, rfl, ?_⟩⟩
        rw [oset_oset]
        have e3 : decide (0 < ((cond w m0 m1 : Nat) : Int)) = decide (0 < cond w m0 m1) := by simp
        rw [e3]
        exact k' q hq
def I_eight (C : CT) (L : Nat) (p pu : Addr) (r' : R) (m' : Int) (ans : Ans) (S0 : List Addr) (Ω0 : Om) : Nat → En → Om → Prop := fun n ρ Ω => ∃ (r : R) (S : List Addr) (m : Int) (k : Nat) (z1 z2 z3 z4 z5 : Option D), r.kd = .eight ∧ r.lv ≤ L + 1 ∧ RdO C Ω p r S ∧ Ω pu = some (oPurse C m) ∧ pu ∉ S ∧ Told k r m r' m' ans ∧ Mv S0 pu Ω0 S Ω ∧
  n = (match r with | .eight .. => k + 1 | _ => 0) ∧ ρ = [some (.o p), some (.o pu), z1, z2, z3, z4, z5]
theorem rows_eq {a b c d e f g h q : Int} {Ω : Om} {ρ : En} {Wa : AW} {Q : AQ} (re : ATE) (vs : List Nat)
    (hs : ∀ k : Nat, k < 4 → ∀ (Ω' : Om) (R : AQ), Ω' = Ω → R (.int (([a, b, c, d].getD k 0) - q * ([e, f, g, h].getD k 0))) Ω' → re Wa ((wipeA ρ vs).set 6 (some (.int k))) Ω' R)
    (k : Q (.lst [.int (a - q * e), .int (b - q * f), .int (c - q * g), .int (d - q * h)]) Ω) : compL (agName 6) aYes re vs (rngD 0 4) [] Wa ρ Ω Q := by
  have e4 : rngD 0 4 = [0, 1, 2, 3].map fun k : Nat => D.int (k : Int) := rfl
  rw [e4]
  refine compL_map _ (fun k => .int (([a, b, c, d].getD k 0) - q * ([e, f, g, h].getD k 0))) (fun Ω' => Ω' = Ω) _ _ _ rfl (by decide) (fun x hx Ω' R Z hΩ hk => ?_) (fun Ω' hΩ => ?_)
  · subst hΩ
    simp only [aYes, agName, if_true]
    refine hs x ?_ _ _ rfl (hk _ rfl)
    simp only [List.mem_cons, List.not_mem_nil, or_false] at hx
    omega
  · subst hΩ
    exact k
theorem which_eq {m0 m1 : Nat} {w : Bool} (h : w = decide (m1 < m0)) : (if (m1 : Int) < m0 then (1 : Int) else 0) = bI w := by
  subst h
  by_cases h : m1 < m0
  · rw [decide_eq_true h, if_pos (by omega)]; rfl
  · rw [decide_eq_false h, if_neg (by omega)]; rfl
theorem inn_eq {w : Bool} {y1 y2 : Addr} : atI [D.o y1, D.o y2] (bI w) = some (.o (cond w y2 y1)) := by cases w <;> rfl
theorem eight_step {Ω1 Ω2 : Om} {p kk pu y1 y2 : Addr} {x y z : R} {S1 S2 S3 : List Addr} (w : Bool) (hp : Ω1 p ≠ none) (hk : Ω1 kk ≠ none) (hpu : Ω1 pu ≠ none) (hx : RdO C Ω1 y1 x S1) (hy : RdO C Ω1 y2 y S2) (n2 : p ∉ S1) (n3 : p ∉ S2) (n4 : kk ∉ S1) (n5 : kk ∉ S2) (n6 : ∀ b ∈ S1, b ∉ S2)
    (hn : pu ∉ p :: kk :: (S1 ++ S2)) (hR : RdO C Ω2 (cond w y2 y1) z S3) (mv : Mv (cond w S2 S1) pu Ω1 S3 Ω2) : ∃ T1 T2, RdO C Ω2 y1 (cond w x z) T1 ∧ RdO C Ω2 y2 (cond w z y) T2 ∧ Ω2 p = Ω1 p ∧ Ω2 kk = Ω1 kk ∧ p ∉ T1 ∧ p ∉ T2 ∧ kk ∉ T1 ∧ kk ∉ T2 ∧ (∀ b ∈ T1, b ∉ T2) ∧ pu ∉ T1 ∧ pu ∉ T2 ∧ Mv (S1 ++ S2) pu Ω1 (T1 ++ T2) Ω2 := by
  have q0 : pu ≠ p := fun e => hn (by simp [e])
  have q1 : pu ≠ kk := fun e => hn (by simp [e])
  have q2 : pu ∉ S1 := fun e => hn (by simp [e])
  have q3 : pu ∉ S2 := fun e => hn (by simp [e])
  cases w with
  | true =>
    simp only [cond] at *
    have k1 : ∀ b ∈ S1, Ω2 b = Ω1 b ∧ b ∉ S3 := fun b hb => mv.keep (n6 b hb) (fun e => q2 (e ▸ hb)) (hx.there b hb)
    obtain ⟨g1, g2⟩ := mv.keep n3 (Ne.symm q0) hp
    obtain ⟨g3, g4⟩ := mv.keep n5 (Ne.symm q1) hk
    exact ⟨S1, S3, hx.keep fun b hb => (k1 b hb).1, hR, g1, g3, n2, g2, n4, g4, fun b hb => (k1 b hb).2, q2, mv.nopu q3 hpu, mv.of S1 fun _ _ => .inr True.intro⟩
  | false =>
    simp only [cond] at *
    have k1 : ∀ b ∈ S2, Ω2 b = Ω1 b ∧ b ∉ S3 := fun b hb => mv.keep (fun z => n6 b z hb) (fun e => q3 (e ▸ hb)) (hy.there b hb)
    obtain ⟨g1, g2⟩ := mv.keep n2 (Ne.symm q0) hp
    obtain ⟨g3, g4⟩ := mv.keep n4 (Ne.symm q1) hk
    refine ⟨S3, S2, hR, hy.keep fun b hb => (k1 b hb).1, g1, g3, g2, n3, g4, n5, fun b hb hb2 => (k1 b hb2).2 hb, mv.nopu q2 hpu, q3, ?_⟩
    refine ⟨fun b hb hbp hn => mv.fr b (fun z => hb (List.mem_append_left _ z)) hbp hn, fun b hb => ?_⟩
    rcases List.mem_append.mp hb with h' | h'
    · exact (mv.fs b h').imp (List.mem_append_left _) id
    · exact .inl (List.mem_append_right _ h')
theorem m_eightTold (T : Txt K mg C) {L : Nat} (hL : 3 ≤ L) (tl : Tolds P w K mg base ca C L) : ∀ D ∈ [C.c_Eight], Mth P w K mg base ca (L + 1) D "told" (F_told C .eight (L + 1)) := by
  refine mth T.m_Eight_told sc_Eight_told told_len (fun f cdv A outer s H E hr => ⟨_, _, (ass_cons (as_while (passes_of rfl) (at_isN (ae_fld 4 (ae_var 0))) (ass_cons (as_set 2 sc_Eight_told.nd (ae_meth0 (k := L) hr (takes_of rfl rfl rfl rfl) (by omega) (ae_var 0)))
      (ass_cons (as_if (at_notN (ae_var 2)) (ass_cons (as_asg ae_bl (ag_fld 3 (ae_var 0)))
      (ass_cons (as_setLcR (i := 3) rfl sc_Eight_told.nd rfl rfl (sw_true rfl rfl rfl (by decide +kernel)) rfl T.b_range ae_int (show BlkOk ["self", "purse", "found", "rows", "which", "got", "k"] (defScope s_Eight_told) _ [("k", 6)] from blkOk_by (by decide +kernel)) (wip_name (by decide)) (fun s1 H1 C1 cl1 fp1 => (ag_name (i := 6) sc_Eight_told.nd rfl (Or.inl rfl))) (fun s1 H1 C1 cl1 fp1 => AE.cast (ae_sub (ae_ix (ae_fld 0 (ae_var 0)) (ae_var 6)) (ae_mul (ae_var 2) (ae_ix (ae_fld 0 (ae_var 0)) (ae_add (ae_var 6) ae_int)))) (by first | (dsimp only [Blk, Cx.blk]; done) | rfl)))
      (ass_cons (as_asg (ae_catT (ae_sl (ae_fld 0 (ae_var 0)) (ao_some ae_int) ao_none) (ae_tuple rfl T.b_tuple (ae_var 3))) (ag_fld 0 (ae_var 0)))
      (ass_one (as_ret (ae_tup (aa_cons ae_str (aa_cons (ae_var 2) aa_nil)))))))) ass_nil)
      (ass_cons (as_set 4 sc_Eight_told.nd (ae_intB rfl T.b_int (ae_lt (ae_ix (ae_fld 2 (ae_var 0)) ae_int) (ae_ix (ae_fld 2 (ae_var 0)) ae_int))))
      (ass_cons (as_set 5 sc_Eight_told.nd (ae_meth (k := L) hr (takes_of rfl rfl rfl rfl) (by omega) (ae_ix (ae_fld 1 (ae_var 0)) (ae_var 4)) (aa_cons (ae_var 1) aa_nil)))
      (ass_cons (as_if (at_eqS (ae_ix (ae_var 5) ae_int) ae_str) (ass_one (as_ret (ae_var 5))) ass_nil)
      (ass_one (as_if (at_eqS (ae_ix (ae_var 5) ae_int) ae_str) (ass_one (as_asg (ae_meth (k := L) hr (takes_of rfl rfl rfl rfl) (by omega) (ae_var 0) (aa_cons (ae_var 4) aa_nil)) (ag_fld 4 (ae_var 0)))) (ass_one (as_expr (ae_meth (k := L) hr (takes_of rfl rfl rfl rfl) (by omega) (ae_var 0) (aa_cons (ae_var 4) (aa_cons (ae_ix (ae_var 5) ae_int) aa_nil)))))))))))))
      (ass_one (as_ret (ae_meth (k := L) hr (takes_of rfl rfl rfl rfl) (by omega) (ae_fld 4 (ae_var 0)) (aa_cons (ae_var 1) aa_nil))))), fun ds Ω Qa Ea h => ?_⟩)
  obtain ⟨p, pu, r, S, n, m, r', m', ans, rfl, hk, hl, hR, hp, hn, ht, k⟩ := h
  walk_at "pl"
  refine ⟨I_eight C L p pu r' m' ans S Ω, ⟨_, r, S, m, n, none, none, none, none, none, hk, hl, hR, hp, hn, ht, .refl, rfl, rfl⟩, ?_⟩
  rintro n ρ Ω1 ⟨r, S1, m, i, z1, z2, z3, z4, z5, hk, hl, hR, hp, hn, ht, mv, rfl, rfl⟩
  have fin : ∀ {S2 : List Addr} {Ω2 : Om}, RdO C Ω2 p r' S2 → Ω2 pu = some (oPurse C m') → Mv S pu Ω S2 Ω2 → ans.ok C Qa Ea Ω2 := fun hR2 hp2 mv2 => k _ _ hR2 hp2 mv2.fr mv2.fs nofun
  clear k
  have hpn : Ω1 pu ≠ none := by rw [hp]; simp
  cases hR with
  | eight ho hkk hx hy n1 n2 n3 n4 n5 n6 =>
    rename_i y1 y2 kk a b c d e f' g h' m0 m1 bg x y S1 S2
    have hne : pu ≠ p := fun e => hn (by simp [e])
    walk_at "pl"
    rw [ho]
    walk_at "pl"
    simp only [D.isNon]
    walk_at "pl"
    refine ⟨by walk_at "nm", F_sure8 C, (m_sure8 T _ (by simp)).mono (by omega), p, y1, y2, kk, a, b, c, d, e, f', g, h', m0, m1, bg, .non, rfl, ho, hkk, ?_⟩
    have hnn : Ω1 p ≠ none := by rw [ho]; simp
    have hkn : Ω1 kk ≠ none := by rw [hkk]; simp
    have lvs : ∀ w : Bool, (cond w y x).lv ≤ L := fun w => by cases w <;> simp only [R.lv, cond] at hl ⊢ <;> omega
    have rds : ∀ w : Bool, RdO C Ω1 (cond w y2 y1) (cond w y x) (cond w S2 S1) := fun w => by cases w; exact hx; exact hy
    have nps : ∀ w : Bool, pu ∉ cond w S2 S1 := fun w e => hn (by cases w <;> simp only [cond] at e <;> simp [e])
    cases ht with
    | etTell h1 hs =>
      rename_i q
      obtain ⟨ha, hb, hc, hd, he, hf, hg, hh⟩ := h1
      refine ⟨ha, hb, hc, hd, he, hf, hg, hh, ?_⟩
      rw [hs]
      simp only [optD]
      walk_at "pl"
      have hq := sure8_bg hs ha hb hc hd
      rw [if_pos (by decide)]
      rw [ho]
      walk_at "pl"
      refine ⟨by decide, by decide, by decide, rows_eq (a := a) (b := b) (c := c) (d := d) (e := e) (f := f') (g := g) (h := h') (q := q) _ _ (fun k hk4 Ω2 R hΩ hk => ?_) ?_⟩
      · subst hΩ
        simp only [wipeA]
        walk_at "pl"
        have hbq : Bg q := hq
        rcases (by omega : k = 0 ∨ k = 1 ∨ k = 2 ∨ k = 3) with rfl | rfl | rfl | rfl
        · exact ⟨_, rfl, _, rfl, _, rfl, bg_mul hq (sm_bg he), _, rfl, hk⟩
        · exact ⟨_, rfl, _, rfl, _, rfl, bg_mul hq (sm_bg hf), _, rfl, hk⟩
        · exact ⟨_, rfl, _, rfl, _, rfl, bg_mul hq (sm_bg hg), _, rfl, hk⟩
        · exact ⟨_, rfl, _, rfl, _, rfl, bg_mul hq (sm_bg hh), _, rfl, hk⟩
      · rw [oset_same]
        walk_at "pl"
        rw [cut_4]
        refine ⟨by simp; decide, by decide, by decide, ?_⟩
        have hne' : ∀ b ∈ S1, b ≠ p := fun b hb e => n2 (e ▸ hb)
        have hne2 : ∀ b ∈ S2, b ≠ p := fun b hb e => n3 (e ▸ hb)
        exact fin (.eight oset_same ((oset_ne (Ne.symm n1)).trans hkk) (hx.keep fun b hb => oset_ne (hne' b hb)) (hy.keep fun b hb => oset_ne (hne2 b hb)) n1 n2 n3 n4 n5 n6) ((oset_ne hne).trans hp) (mv.trans (Mv.set (by simp)) hpn)
    | @etWait _ _ _ _ _ _ _ _ _ _ _ _ _ _ w j z _ h1 hs hw hx2 =>
      obtain ⟨ha, hb, hc, hd, he, hf, hg, hh⟩ := h1
      refine ⟨ha, hb, hc, hd, he, hf, hg, hh, ?_⟩
      rw [hs]
      simp only [optD]
      walk_at "pl"
      rw [ho]
      walk_at "pl"
      simp only [seq_o hkk]
      walk_at "pl"
      rw [if_neg (by decide), which_eq hw, inn_eq]
      refine ⟨_, rfl, _, rfl, told_in tl (lvs w) (rds w) hp (nps w) _ _ hx2 fun Ω2 S3 hR2 hp2 mv2 inn2 => ?_⟩
      obtain ⟨T1, T2, k1, k2, k3, k4, k5, k6, k7, k8, k9, k10, k11, k12⟩ := eight_step w hnn hkn hpn hx hy n2 n3 n4 n5 n6 hn hR2 mv2
      simp only [Ans.ok, Ans.d]
      walk_at "pl"
      exact fin (.eight (k3.trans ho) (k4.trans hkk) k1 k2 n1 k5 k6 k7 k8 k9) hp2 (mv.trans ((k12.cons kk).cons p) hpn)
    | @etNo _ _ _ _ _ _ _ _ _ _ _ _ _ _ w j z _ h1 hs hw hx2 =>
      obtain ⟨ha, hb, hc, hd, he, hf, hg, hh⟩ := h1
      refine ⟨ha, hb, hc, hd, he, hf, hg, hh, ?_⟩
      rw [hs]
      simp only [optD]
      walk_at "pl"
      rw [ho]
      walk_at "pl"
      simp only [seq_o hkk]
      walk_at "pl"
      rw [if_neg (by decide), which_eq hw, inn_eq]
      refine ⟨_, rfl, _, rfl, told_in tl (lvs w) (rds w) hp (nps w) _ _ hx2 fun Ω2 S3 hR2 hp2 mv2 inn2 => ?_⟩
      obtain ⟨T1, T2, k1, k2, k3, k4, k5, k6, k7, k8, k9, k10, k11, k12⟩ := eight_step w hnn hkn hpn hx hy n2 n3 n4 n5 n6 hn hR2 mv2
      exact fin (.eight (k3.trans ho) (k4.trans hkk) k1 k2 n1 k5 k6 k7 k8 k9) hp2 (mv.trans ((k12.cons kk).cons p) hpn)
    | @etFour _ _ _ _ _ _ _ _ _ _ _ _ _ _ w j z m2 jj fr _ _ h1 hs hw hx2 hdet ht2 =>
      have h1' := h1
      obtain ⟨ha, hb, hc, hd, he, hf, hg, hh⟩ := h1
      refine ⟨ha, hb, hc, hd, he, hf, hg, hh, ?_⟩
      rw [hs]
      simp only [optD]
      walk_at "pl"
      rw [ho]
      walk_at "pl"
      simp only [seq_o hkk]
      walk_at "pl"
      rw [if_neg (by decide), which_eq hw, inn_eq]
      refine ⟨_, rfl, _, rfl, told_in tl (lvs w) (rds w) hp (nps w) _ _ hx2 fun Ω2 S3 hR2 hp2 mv2 inn2 => ?_⟩
      obtain ⟨T1, T2, k1, k2, k3, k4, k5, k6, k7, k8, k9, k10, k11, k12⟩ := eight_step w hnn hkn hpn hx hy n2 n3 n4 n5 n6 hn hR2 mv2
      simp only [Ans.ok, Ans.d]
      walk_at "pl"
      rw [if_neg (by decide)]
      have ho2 := k3.trans ho
      have hk2 := k4.trans hkk
      rw [ho2]
      walk_at "pl"
      refine ⟨by walk_at "nm", F_left C, (m_left T _ (by simp)).mono (by omega), p, y1, y2, kk, a, b, c, d, e, f', g, h', m0, m1, bg, w, .non, rfl, ho2, hk2, h1', fun q hq => ?_⟩
      have hqp : q ≠ p := fun e => by rw [e, ho2] at hq; cases hq
      have hqu : q ≠ pu := fun e => by rw [e, hp2] at hq; cases hq
      have hq1 : q ∉ T1 := fun z => k1.there q z hq
      have hq2 : q ∉ T2 := fun z => k2.there q z hq
      rw [if_pos hdet]
      dsimp only
      rw [oset_ne (Ne.symm hqp), ho2]
      walk_at "pl"
      have hzl := hx2.lv
      have kp : ∀ b ∈ T1 ++ T2, ∀ u v, oset (oset Ω2 q u) p v b = Ω2 b := fun b hb u v => by
        have h1 : b ≠ p := fun e => by rcases List.mem_append.mp hb with z | z; exact k5 (e ▸ z); exact k6 (e ▸ z)
        have h2 : b ≠ q := fun e => by rcases List.mem_append.mp hb with z | z; exact hq1 (e ▸ z); exact hq2 (e ▸ z)
        rw [oset_ne h1, oset_ne h2]
      have mvn : ∀ (S' : List Addr) u v, (∀ b ∈ S', b = p ∨ b = q ∨ b ∈ T1 ++ T2) → Mv S pu Ω S' (oset (oset Ω2 q u) p v) := fun S' u v hS => by
        refine mv.trans (((k12.cons kk).cons p).trans ⟨fun b hb hbp hn => ?_, fun b hb => ?_⟩ (by rw [hp2]; simp)) hpn
        · rw [oset_ne (fun e => hb (by simp [e])), oset_ne (fun e => hn (by rw [e]; exact hq))]
        · rcases hS b hb with rfl | rfl | h
          · exact .inl (by simp)
          · exact .inr hq
          · exact .inl (by simp only [List.mem_cons]; exact .inr (.inr h))
      have hzl2 := lvs w
      refine ⟨by decide, 0, by omega, .eightF w z (.four a (cond w c b) e (cond w g f') (decide (0 < cond w m0 m1)) bg (cond w x y)), ?_⟩
      have hlw : (R.eightF w z (.four a (cond w c b) e (cond w g f') (decide (0 < cond w m0 m1)) bg (cond w x y))).lv ≤ L + 1 := by
        simp only [R.lv] at hl ⊢
        cases w <;> simp only [cond] at hzl hzl2 ⊢ <;> omega
      cases w with
      | true =>
        simp only [cond] at *
        refine ⟨p :: (T2 ++ (q :: T1)), m2, 0, _, _, _, _, _, rfl, hlw, .eightF (w := true) (ns := [.int a, .int b, .int c, .int d, .int e, .int f', .int g, .int h']) (z1 := y1) (z2 := y2) (k := kk) (bg := bg) (q := q) oset_same ((oset_ne hqp).trans oset_same) rfl (k2.keep fun b hb => kp b (List.mem_append_right _ hb) _ _) (.four ((oset_ne hqp).trans oset_same) (k1.keep fun b hb => kp b (List.mem_append_left _ hb) _ _) hq1) rfl k6 (by simp [Ne.symm hqp, k5]) (fun b hb => ?_), ?_, ?_, .exF rfl ht2, mvn _ _ _ (fun b hb => ?_), by first | rfl | trivial, by first | rfl | trivial⟩
        · simp only [List.mem_cons, not_or]
          exact ⟨fun e => hq2 (e ▸ hb), fun z => k9 b z hb⟩
        · rw [oset_ne hne, oset_ne (Ne.symm hqu)]; exact hp2
        · simp only [List.mem_cons, List.mem_append, not_or]
          exact ⟨hne, k11, Ne.symm hqu, k10⟩
        · simp only [List.mem_cons, List.mem_append] at hb ⊢
          rcases hb with h | h | h | h
          · exact .inl h
          · exact .inr (.inr (.inr h))
          · exact .inr (.inl h)
          · exact .inr (.inr (.inl h))
      | false =>
        simp only [cond] at *
        refine ⟨p :: (T1 ++ (q :: T2)), m2, 0, _, _, _, _, _, rfl, hlw, .eightF (w := false) (ns := [.int a, .int b, .int c, .int d, .int e, .int f', .int g, .int h']) (z1 := y1) (z2 := y2) (k := kk) (bg := bg) (q := q) oset_same ((oset_ne hqp).trans oset_same) rfl (k1.keep fun b hb => kp b (List.mem_append_left _ hb) _ _) (.four ((oset_ne hqp).trans oset_same) (k2.keep fun b hb => kp b (List.mem_append_right _ hb) _ _) hq2) rfl k5 (by simp [Ne.symm hqp, k6]) (fun b hb => ?_), ?_, ?_, .exF rfl ht2, mvn _ _ _ (fun b hb => ?_), by first | rfl | trivial, by first | rfl | trivial⟩
        · simp only [List.mem_cons, not_or]
          exact ⟨fun e => hq1 (e ▸ hb), fun z => k9 b hb z⟩
        · rw [oset_ne hne, oset_ne (Ne.symm hqu)]; exact hp2
        · simp only [List.mem_cons, List.mem_append, not_or]
          exact ⟨hne, k10, Ne.symm hqu, k11⟩
        · simp only [List.mem_cons, List.mem_append] at hb ⊢
          rcases hb with h | h | h | h
          · exact .inl h
          · exact .inr (.inr (.inl h))
          · exact .inr (.inl h)
          · exact .inr (.inr (.inr h))
    | @etFix _ _ _ _ _ _ _ _ _ _ _ _ _ _ w j z m2 t0 b0 t' b' g' _ _ h1 hs hw hx2 hdet htb ht2 =>
      have h1' := h1
      obtain ⟨ha, hb, hc, hd, he, hf, hg, hh⟩ := h1
      refine ⟨ha, hb, hc, hd, he, hf, hg, hh, ?_⟩
      rw [hs]
      simp only [optD]
      walk_at "pl"
      rw [ho]
      walk_at "pl"
      simp only [seq_o hkk]
      walk_at "pl"
      rw [if_neg (by decide), which_eq hw, inn_eq]
      refine ⟨_, rfl, _, rfl, told_in tl (lvs w) (rds w) hp (nps w) _ _ hx2 fun Ω2 S3 hR2 hp2 mv2 inn2 => ?_⟩
      obtain ⟨T1, T2, k1, k2, k3, k4, k5, k6, k7, k8, k9, k10, k11, k12⟩ := eight_step w hnn hkn hpn hx hy n2 n3 n4 n5 n6 hn hR2 mv2
      simp only [Ans.ok, Ans.d]
      walk_at "pl"
      rw [if_neg (by decide)]
      have ho2 := k3.trans ho
      have hk2 := k4.trans hkk
      rw [ho2]
      walk_at "pl"
      refine ⟨by walk_at "nm", F_left C, (m_left T _ (by simp)).mono (by omega), p, y1, y2, kk, a, b, c, d, e, f', g, h', m0, m1, bg, w, .non, rfl, ho2, hk2, h1', fun q hq => ?_⟩
      have hqp : q ≠ p := fun e => by rw [e, ho2] at hq; cases hq
      have hqu : q ≠ pu := fun e => by rw [e, hp2] at hq; cases hq
      have hq1 : q ∉ T1 := fun z => k1.there q z hq
      have hq2 : q ∉ T2 := fun z => k2.there q z hq
      rw [if_neg (fun z => z hdet)]
      dsimp only
      rw [oset_ne (Ne.symm hqp), ho2]
      walk_at "pl"
      have hzl := hx2.lv
      have kp : ∀ b ∈ T1 ++ T2, ∀ u v, oset (oset Ω2 q u) p v b = Ω2 b := fun b hb u v => by
        have h1 : b ≠ p := fun e => by rcases List.mem_append.mp hb with z | z; exact k5 (e ▸ z); exact k6 (e ▸ z)
        have h2 : b ≠ q := fun e => by rcases List.mem_append.mp hb with z | z; exact hq1 (e ▸ z); exact hq2 (e ▸ z)
        rw [oset_ne h1, oset_ne h2]
      have mvn : ∀ (S' : List Addr) u v, (∀ b ∈ S', b = p ∨ b = q ∨ b ∈ T1 ++ T2) → Mv S pu Ω S' (oset (oset Ω2 q u) p v) := fun S' u v hS => by
        refine mv.trans (((k12.cons kk).cons p).trans ⟨fun b hb hbp hn => ?_, fun b hb => ?_⟩ (by rw [hp2]; simp)) hpn
        · rw [oset_ne (fun e => hb (by simp [e])), oset_ne (fun e => hn (by rw [e]; exact hq))]
        · rcases hS b hb with rfl | rfl | h
          · exact .inl (by simp)
          · exact .inr hq
          · exact .inl (by simp only [List.mem_cons]; exact .inr (.inr h))
      have htb1 : (if a = 0 ∧ e = 0 then cond w c b else a) = t0 := by
        have := congrArg Prod.fst htb
        split at this <;> simp_all
      have htb2 : (if a = 0 ∧ e = 0 then cond w g f' else e) = b0 := by
        have := congrArg Prod.snd htb
        split at this <;> simp_all
      rw [htb1, htb2]
      refine ⟨by decide, 0, by omega, .eightX (cond w x z) (cond w z y) t0 b0 bg, p :: q :: (T1 ++ T2), m2, 0, _, _, _, _, _, rfl, ?_, .eightX (ns := [.int a, .int b, .int c, .int d, .int e, .int f', .int g, .int h']) (k := kk) (bg := bg) oset_same ((oset_ne hqp).trans oset_same) (k1.keep fun b hb => kp b (List.mem_append_left _ hb) _ _) (k2.keep fun b hb => kp b (List.mem_append_right _ hb) _ _) (Ne.symm hqp) k5 k6 hq1 hq2 k9, ?_, ?_, .exX ht2, mvn _ _ _ (fun b hb => ?_), rfl, rfl⟩
      · have hzl2 := lvs w
        simp only [R.lv] at hl ⊢
        cases w <;> simp only [cond] at hzl hzl2 ⊢ <;> omega
      · rw [oset_ne hne, oset_ne (Ne.symm hqu)]; exact hp2
      · simp only [List.mem_cons, List.mem_append, not_or]
        exact ⟨hne, Ne.symm hqu, k10, k11⟩
      · simp only [List.mem_cons] at hb
        rcases hb with h | h | h
        · exact .inl h
        · exact .inr (.inl h)
        · exact .inr (.inr h)
    | @etIn0 _ _ _ _ _ _ _ _ _ _ _ _ _ _ j z m2 q jj _ _ _ h1 hs hw hx2 hq ht2 =>
      have h1' := h1
      obtain ⟨ha, hb, hc, hd, he, hf, hg, hh⟩ := h1
      refine ⟨ha, hb, hc, hd, he, hf, hg, hh, ?_⟩
      rw [hs]
      simp only [optD]
      walk_at "pl"
      rw [ho]
      walk_at "pl"
      simp only [seq_o hkk]
      walk_at "pl"
      have hw' : false = decide (m1 < m0) := (decide_eq_false hw).symm
      rw [if_neg (by decide), which_eq hw', inn_eq]
      refine ⟨_, rfl, _, rfl, told_in tl (lvs false) (rds false) hp (nps false) _ _ hx2 fun Ω2 S3 hR2 hp2 mv2 inn2 => ?_⟩
      obtain ⟨T1, T2, k1, k2, k3, k4, k5, k6, k7, k8, k9, k10, k11, k12⟩ := eight_step false hnn hkn hpn hx hy n2 n3 n4 n5 n6 hn hR2 mv2
      simp only [Ans.ok, Ans.d]
      walk_at "pl"
      rw [if_neg (by decide), if_neg (by decide)]
      have ho2 := k3.trans ho
      have hk2 := k4.trans hkk
      rw [ho2]
      walk_at "pl"
      refine ⟨by walk_at "nm", F_take C, (m_take T _ (by simp)).mono (by omega), p, y1, y2, kk, a, b, c, d, e, f', g, h', q, m0, m1, bg, false, .non, rfl, ho2, hk2, Ne.symm n1, h1', hq, ?_⟩
      have hkp : pu ≠ kk := fun e => hn (by simp [e])
      have kp : ∀ b ∈ T1 ++ T2, ∀ u v, oset (oset Ω2 p u) kk v b = Ω2 b := fun b hb u v => by
        have h1 : b ≠ p := fun e => by rcases List.mem_append.mp hb with z | z; exact k5 (e ▸ z); exact k6 (e ▸ z)
        have h2 : b ≠ kk := fun e => by rcases List.mem_append.mp hb with z | z; exact k7 (e ▸ z); exact k8 (e ▸ z)
        rw [oset_ne h2, oset_ne h1]
      have hzl := hx2.lv
      refine ⟨_, Nat.lt_succ_self _, _, p :: kk :: (T1 ++ T2), m2, _, _, _, _, _, _, rfl, ?_, .eight ((oset_ne n1).trans oset_same) oset_same (k1.keep fun b hb => kp b (List.mem_append_left _ hb) _ _) (k2.keep fun b hb => kp b (List.mem_append_right _ hb) _ _) n1 k5 k6 k7 k8 k9, ?_, ?_, ht2, mv.trans (((k12.cons kk).cons p).trans ((Mv.set (by simp)).trans (Mv.set (by simp)) (by rw [oset_ne hne, hp2]; simp)) (by rw [hp2]; simp)) hpn, rfl, rfl⟩
      · simp only [R.lv, cond] at hl ⊢
        omega
      · rw [oset_ne hkp, oset_ne hne]; exact hp2
      · simp only [List.mem_cons, List.mem_append, not_or]
        exact ⟨hne, hkp, k10, k11⟩
    | @etIn1 _ _ _ _ _ _ _ _ _ _ _ _ _ _ j z m2 q jj _ _ _ h1 hs hw hx2 hq ht2 =>
      have h1' := h1
      obtain ⟨ha, hb, hc, hd, he, hf, hg, hh⟩ := h1
      refine ⟨ha, hb, hc, hd, he, hf, hg, hh, ?_⟩
      rw [hs]
      simp only [optD]
      walk_at "pl"
      rw [ho]
      walk_at "pl"
      simp only [seq_o hkk]
      walk_at "pl"
      have hw' : true = decide (m1 < m0) := (decide_eq_true hw).symm
      rw [if_neg (by decide), which_eq hw', inn_eq]
      refine ⟨_, rfl, _, rfl, told_in tl (lvs true) (rds true) hp (nps true) _ _ hx2 fun Ω2 S3 hR2 hp2 mv2 inn2 => ?_⟩
      obtain ⟨T1, T2, k1, k2, k3, k4, k5, k6, k7, k8, k9, k10, k11, k12⟩ := eight_step true hnn hkn hpn hx hy n2 n3 n4 n5 n6 hn hR2 mv2
      simp only [Ans.ok, Ans.d]
      walk_at "pl"
      rw [if_neg (by decide), if_neg (by decide)]
      have ho2 := k3.trans ho
      have hk2 := k4.trans hkk
      rw [ho2]
      walk_at "pl"
      refine ⟨by walk_at "nm", F_take C, (m_take T _ (by simp)).mono (by omega), p, y1, y2, kk, a, b, c, d, e, f', g, h', q, m0, m1, bg, true, .non, rfl, ho2, hk2, Ne.symm n1, h1', hq, ?_⟩
      have hkp : pu ≠ kk := fun e => hn (by simp [e])
      have kp : ∀ b ∈ T1 ++ T2, ∀ u v, oset (oset Ω2 p u) kk v b = Ω2 b := fun b hb u v => by
        have h1 : b ≠ p := fun e => by rcases List.mem_append.mp hb with z | z; exact k5 (e ▸ z); exact k6 (e ▸ z)
        have h2 : b ≠ kk := fun e => by rcases List.mem_append.mp hb with z | z; exact k7 (e ▸ z); exact k8 (e ▸ z)
        rw [oset_ne h2, oset_ne h1]
      have hzl := hx2.lv
      refine ⟨_, Nat.lt_succ_self _, _, p :: kk :: (T1 ++ T2), m2, _, _, _, _, _, _, rfl, ?_, .eight ((oset_ne n1).trans oset_same) oset_same (k1.keep fun b hb => kp b (List.mem_append_left _ hb) _ _) (k2.keep fun b hb => kp b (List.mem_append_right _ hb) _ _) n1 k5 k6 k7 k8 k9, ?_, ?_, ht2, mv.trans (((k12.cons kk).cons p).trans ((Mv.set (by simp)).trans (Mv.set (by simp)) (by rw [oset_ne hne, hp2]; simp)) (by rw [hp2]; simp)) hpn, rfl, rfl⟩
      · simp only [R.lv, cond] at hl ⊢
        omega
      · rw [oset_ne hkp, oset_ne hne]; exact hp2
      · simp only [List.mem_cons, List.mem_append, not_or]
        exact ⟨hne, hkp, k10, k11⟩
  | eightX ho hq hx hy n1 n2 n3 n4 n5 n6 =>
    rename_i y1 y2 kk q ns t b g bg x y S1 S2
    walk_at "pl"
    rw [ho]
    walk_at "pl"
    simp only [D.isNon]
    walk_at "pl"
    refine ⟨_, _, hq, by walk_at "nm", F_told C .fixed L, tl.all .fixed _ (by simp [CT.cls]), q, pu, .fixed t b g, [q], 0, m, ?_⟩
    have hnS : ∀ b ∈ S1 ++ S2, b ≠ q ∧ b ≠ pu := fun b hb => ⟨fun e => by
      rw [e] at hb
      rcases List.mem_append.mp hb with z | z
      · exact n4 z
      · exact n5 z, fun e => hn (by rw [← e]; simp only [List.mem_cons]; exact .inr (.inr hb))⟩
    cases ht with
    | @exX _ _ _ _ _ _ t' b' g' _ _ ht =>
      refine ⟨.fixed t' b' g', m', ans, rfl, rfl, by simp only [R.lv]; omega, .fixed hq, hp, fun e => hn (by simp at e; simp [e]), ht, fun Ω2 S3 hR2 hp2 fr2 fs2 _ => ?_⟩
      cases hR2 with
      | fixed hf2 =>
        have hne : pu ≠ p := fun e => hn (by simp [e])
        have e1 : Ω2 p = Ω1 p := fr2 p (by simp [n1]) (Ne.symm hne) (by rw [ho]; simp)
        have kp : ∀ b ∈ S1 ++ S2, Ω1 b ≠ none → Ω2 b = Ω1 b := fun b hb hbn => fr2 b (by simp [(hnS b hb).1]) (hnS b hb).2 hbn
        refine fin (.eightX (e1.trans ho) hf2 (hx.keep fun b hb => kp b (List.mem_append_left _ hb) (hx.there b hb)) (hy.keep fun b hb => kp b (List.mem_append_right _ hb) (hy.there b hb)) n1 n2 n3 n4 n5 n6) hp2 (mv.trans ⟨fun b hb hbp hn => fr2 b (fun z => hb (by simp at z; simp [z])) hbp hn, fun b hb => .inl hb⟩ hpn)
  | eightF ho hq hl2 hx hy hkd n1 n2 n3 =>
    rename_i y1 y2 kk q c ns fs bg w dead fr S1 S2
    walk_at "pl"
    rw [ho]
    walk_at "pl"
    simp only [D.isNon]
    walk_at "pl"
    have hnp2 : pu ∉ S2 := fun e => hn (by simp [e])
    have hne : pu ≠ p := fun e => hn (by simp [e])
    cases ht with
    | exF _ ht =>
      rename_i fr'
      refine told_in tl (by simp only [R.lv] at hl; omega) hy hp hnp2 _ _ ht fun Ω2 S3 hR2 hp2 mv2 inn2 => ?_
      obtain ⟨e1, e2⟩ := mv2.keep n2 (Ne.symm hne) (by rw [ho]; simp)
      obtain ⟨c1, fs1, c2, fs2, g1, g2, g3⟩ := inn2 hkd
      rw [hq] at g1
      cases g1
      have hS1 : ∀ b ∈ S1, Ω2 b = Ω1 b ∧ b ∉ S3 := fun b hb => mv2.keep (n3 b hb) (fun e => hn (by rw [← e]; simp [hb])) (hx.there b hb)
      have := fin (.eightF (e1.trans ho) g2 (g3.trans hl2) (hx.keep fun b hb => (hS1 b hb).1) hR2 ?_ n1 e2 fun b hb => (hS1 b hb).2) hp2 (mv.trans ((mv2.of S1 fun _ _ => .inr True.intro).cons p) hpn)
      · cases ans <;> exact this
      · rw [ht.kd]; exact hkd
  | _ => cases hk
theorem tolds (T : Txt K mg C) : ∀ {L : Nat}, 3 ≤ L → Tolds P w K mg base ca C L
  | 0, h => by omega
  | L + 1, h => by
    by_cases e : L + 1 = 3
    · have : L = 2 := by omega
      subst this
      exact tolds3 T
    · have tl := tolds T (L := L) (by omega)
      refine ⟨fun kd D hD => ?_⟩
      cases kd with
      | fixed => exact ((m_fixedTold T D hD).imp (F_told_fixed (by omega))).mono (by omega)
      | leaf => exact ((m_leafTold T D hD).imp (F_told_leaf (by omega))).mono (by omega)
      | four => exact m_fourTold T (by omega) tl D hD
      | eight => exact m_eightTold T (by omega) tl D hD
structure Tooks (P : Program) (w : World) (K : PySem.W.Frag) (mg : Str → Option Value) (base : Heap) (ca : CA) (C : CT) (L : Nat) : Prop where
  all : ∀ kd, ∀ D ∈ C.cls kd, Mth P w K mg base ca L D "took" (F_took C fun r => r.kd = kd ∧ r.lv ≤ L)
theorem took_in {L : Nat} (tk : Tooks P w K mg base ca C L) {z : Addr} {x : R} {S1 : List Addr} {Ω1 : Om} (hlx : x.lv ≤ L) (hz : RdO C Ω1 z x S1) (Q : AQ) (E : Value → Om → Prop) (k : Q (.int x.tk) Ω1) :
    ∃ c fs, Ω1 z = some (.obj c fs) ∧ ("took" : Str) ∉ fs.map (·.1) ∧ ∃ F, Mth P w K mg base ca L c "took" F ∧ F [.o z] Ω1 Q E := by
  obtain ⟨c, fs, ho, hm, hc⟩ := hz.obj
  exact ⟨c, fs, ho, hm _ (.inr (.inr rfl)), _, tk.all x.kd c hc, z, x, S1, rfl, hz, ⟨rfl, hlx⟩, k⟩
theorem m_fixedTook (T : Txt K mg C) : ∀ D ∈ [C.c_Fixed], Mth P w K mg base ca 1 D "took" (F_took C fun r => r.kd = .fixed) := by
  refine mth T.m_Reader_took sc_Reader_took (fun ds Ω Q E h => ?_) (fun f cdv A outer s H E hr => ⟨_, _, (ass_one (as_ret ae_int)), fun ds Ω Qa Ea h => ?_⟩)
  · obtain ⟨_, _, _, rfl, _⟩ := h
    rfl
  · obtain ⟨p, x, S, rfl, hR, hk, k⟩ := h
    cases hR with
    | fixed ho =>
      walk_at "pl"
      exact k
    | _ => cases hk
theorem m_fourTook (T : Txt K mg C) {L : Nat} (tk : Tooks P w K mg base ca C L) : ∀ D ∈ [C.c_Four], Mth P w K mg base ca (L + 1) D "took" (F_took C fun r => r.kd = .four ∧ r.lv ≤ L + 1) := by
  refine mth T.m_Four_took sc_Four_took (fun ds Ω Q E h => ?_) (fun f cdv A outer s H E hr => ⟨_, _, (ass_one (as_ret (ae_meth0 (k := L) hr (takes_of rfl rfl rfl rfl) (by omega) (ae_fld 1 (ae_var 0))))), fun ds Ω Qa Ea h => ?_⟩)
  · obtain ⟨_, _, _, rfl, _⟩ := h
    rfl
  · obtain ⟨p, x, S, rfl, hR, ⟨hk, hl⟩, k⟩ := h
    cases hR with
    | four ho hz =>
      walk_at "pl"
      rw [ho]
      walk_at "pl"
      exact took_in tk (by simp only [R.lv] at hl; omega) hz _ _ k
    | fourX ho _ hz =>
      walk_at "pl"
      rw [ho]
      walk_at "pl"
      exact took_in tk (by simp only [R.lv] at hl; omega) hz _ _ k
    | _ => cases hk
theorem m_eightTook (T : Txt K mg C) {L : Nat} (tk : Tooks P w K mg base ca C L) : ∀ D ∈ [C.c_Eight], Mth P w K mg base ca (L + 1) D "took" (F_took C fun r => r.kd = .eight ∧ r.lv ≤ L + 1) := by
  refine mth T.m_Eight_took sc_Eight_took (fun ds Ω Q E h => ?_) (fun f cdv A outer s H E hr => ⟨_, _, (ass_one (as_ret (ae_add (ae_meth0 (k := L) hr (takes_of rfl rfl rfl rfl) (by omega) (ae_ix (ae_fld 1 (ae_var 0)) ae_int)) (ae_meth0 (k := L) hr (takes_of rfl rfl rfl rfl) (by omega) (ae_ix (ae_fld 1 (ae_var 0)) ae_int))))), fun ds Ω Qa Ea h => ?_⟩)
  · obtain ⟨_, _, _, rfl, _⟩ := h
    rfl
  · obtain ⟨p, x, S, rfl, hR, ⟨hk, hl⟩, k⟩ := h
    cases hR with
    | eight ho _ hx hy =>
      walk_at "pl"
      rw [ho]
      walk_at "pl"
      refine took_in tk (by simp only [R.lv] at hl; omega) hx _ _ ?_
      rw [ho]
      walk_at "pl"
      refine took_in tk (by simp only [R.lv] at hl; omega) hy _ _ ⟨_, rfl, ?_⟩
      simp only [R.tk, Int.natCast_add] at k
      exact k
    | eightX ho _ hx hy =>
      walk_at "pl"
      rw [ho]
      walk_at "pl"
      refine took_in tk (by simp only [R.lv] at hl; omega) hx _ _ ?_
      rw [ho]
      walk_at "pl"
      refine took_in tk (by simp only [R.lv] at hl; omega) hy _ _ ⟨_, rfl, ?_⟩
      simp only [R.tk, Int.natCast_add] at k
      exact k
    | @eightF _ z1 z2 kk q c ns fs bg w dead fr S1 S2 ho hq hi hd hf hkd =>
      walk_at "pl"
      rw [ho]
      walk_at "pl"
      -- the reader within the four
      obtain ⟨xi, Si, hxi, htk, hlv⟩ : ∃ xi Si, RdO C Ω (if w then z1 else z2) xi Si ∧ xi.tk = fr.tk ∧ xi.lv ≤ fr.lv := by
        cases hf with
        | four e hz =>
          rw [hq] at e
          cases e
          simp only [List.getElem?_cons_succ, List.getElem?_cons_zero, Option.some.injEq, Prod.mk.injEq, D.o.injEq, true_and] at hi
          rw [hi] at hz
          exact ⟨_, _, hz, rfl, by simp only [R.lv]; omega⟩
        | fourX e _ hz =>
          rw [hq] at e
          cases e
          simp only [List.getElem?_cons_succ, List.getElem?_cons_zero, Option.some.injEq, Prod.mk.injEq, D.o.injEq, true_and] at hi
          rw [hi] at hz
          exact ⟨_, _, hz, rfl, by simp only [R.lv]; omega⟩
        | _ => cases hkd
      cases w with
      | true =>
        simp only [if_true, Bool.false_eq_true, if_false] at *
        refine took_in tk (by simp only [R.lv] at hl; omega) hxi _ _ ?_
        rw [ho]
        walk_at "pl"
        refine took_in tk (by simp only [R.lv] at hl; omega) hd _ _ ⟨_, rfl, ?_⟩
        simp only [R.tk, Int.natCast_add] at k
        rw [htk, Int.add_comm]
        exact k
      | false =>
        simp only [if_true, Bool.false_eq_true, if_false] at *
        refine took_in tk (by simp only [R.lv] at hl; omega) hd _ _ ?_
        rw [ho]
        walk_at "pl"
        refine took_in tk (by simp only [R.lv] at hl; omega) hxi _ _ ⟨_, rfl, ?_⟩
        simp only [R.tk, Int.natCast_add] at k
        rw [htk]
        exact k
    | _ => cases hk
theorem tooks (T : Txt K mg C) : ∀ {L : Nat}, 3 ≤ L → Tooks P w K mg base ca C L
  | 0, h => by omega
  | L + 1, h => by
    have st : (4 ≤ L + 1 → Tooks P w K mg base ca C L) → Tooks P w K mg base ca C (L + 1) := fun h4 => by
      refine ⟨fun kd D hD => ?_⟩
      cases kd with
      | fixed => exact ((m_fixedTook T D hD).imp fun ds Ω Q E ⟨p, x, S, e, h1, h2, h3⟩ => ⟨p, x, S, e, h1, h2.1, h3⟩).mono (by omega)
      | leaf => exact ((m_leafTook T D hD).imp fun ds Ω Q E ⟨p, x, S, e, h1, h2, h3⟩ => ⟨p, x, S, e, h1, h2.1, h3⟩).mono (by omega)
      | four =>
        by_cases e : 4 ≤ L + 1
        · exact m_fourTook T (h4 e) D hD
        · exact mth_none T.m_Four_took (fun ds Ω Q E ⟨p, x, S, _, _, ⟨hk, hl⟩, _⟩ => by have := R.lv_four hk; omega) D hD
      | eight =>
        by_cases e : 4 ≤ L + 1
        · exact m_eightTook T (h4 e) D hD
        · exact mth_none T.m_Eight_took (fun ds Ω Q E ⟨p, x, S, _, _, ⟨hk, hl⟩, _⟩ => by have := R.lv_eight hk; omega) D hD
    exact st fun h4 => tooks T (by omega)
inductive Rw where
  | frac (t b : Int)
  | root (t s b : Int)
  | ruled (ps ring steps : List Int)
  | four (ns : List Int) (x : Rw)
  | eight (ns : List Int) (x y : Rw)
  | power (x : Rw) (n : Int)
def Rw.d : Rw → D
  | .frac t b => .tup [.str "fraction", .int t, .int b]
  | .root t s b => .tup [.str "root", .int t, .int s, .int b]
  | .ruled ps ring steps => .tup [.str "ruled", dtup ps, dtup ring, dtup steps]
  | .four ns x => .tup [.str "four", dtup ns, x.d]
  | .eight ns x y => .tup [.str "eight", dtup ns, x.d, y.d]
  | .power x n => .tup [.str "power", x.d, .int n]
def fewB (n : Int) : Bool := decide (n.natAbs ≤ 10 ^ 12)
theorem fewB_iff {n : Int} : fewB n = true ↔ Few n := decide_eq_true_iff
def ruB (ps ring steps : List Int) : Bool := decide (1 ≤ ps.length ∧ ps.length ≤ 12 ∧ ring.length ≤ 12 ∧ ring.length = steps.length) && (ps ++ ring ++ steps).all fewB && (ps.drop 1 ++ ring).all (fun n => decide (1 ≤ n)) && steps.all (fun n => decide (0 ≤ n)) &&
  (if ring = [] then if 1 < ps.length then decide (2 ≤ ps.getLast?.getD 0) else true else true)
def apN (ns : List Int) (i j : Nat) : Bool := !decide (ns.getD i 0 * ns.getD (4 + j) 0 = ns.getD j 0 * ns.getD (4 + i) 0)
def apI (ns : List Int) (i j : Nat) : Bool := (List.range j).any (apN ns i)
def apA (ns : List Int) (i : Nat) : Bool := (List.range i).any fun i => apI ns i i
def eiB (ns : List Int) : Bool := decide (ns.length = 8) && ns.all fewB && apA ns 4
def foB (ns : List Int) : Bool := decide (ns.length = 4) && ns.all fewB && !decide (ns.getD 0 0 * ns.getD 3 0 = ns.getD 1 0 * ns.getD 2 0)
def Rw.ok : Nat → Rw → Bool
  | 0, _ => false
  | _ + 1, .frac t b => fewB t && fewB b && !decide (b = 0)
  | _ + 1, .root t s b => fewB t && fewB s && fewB b && decide (0 ≤ s) && !decide (b = 0)
  | _ + 1, .ruled ps ring steps => ruB ps ring steps
  | k + 1, .four ns x => foB ns && x.ok k
  | k + 1, .eight ns x y => eiB ns && x.ok k && y.ok k
  | k + 1, .power x n => decide (1 ≤ n ∧ n ≤ 4) && x.ok k
/-- refused or let by -/
def gate (C : CT) (b : Bool) (Q : AQ) (E : Value → Om → Prop) (Ω : Om) : Prop := if b = true then Q .non Ω else E (.ref C.c_BadTree) Ω
theorem gate_t {Q : AQ} {E : Value → Om → Prop} {Ω : Om} {b : Bool} (h : gate C b Q E Ω) (e : b = true) : Q .non Ω := by subst e; exact h
theorem gate_f {Q : AQ} {E : Value → Om → Prop} {Ω : Om} {b : Bool} (h : gate C b Q E Ω) (e : b = false) : E (.ref C.c_BadTree) Ω := by subst e; exact h
def F_numbersG (C : CT) : AF := fun ds Ω Q E => ∃ ns : List Int, ds = [.tup (ns.map D.int)] ∧ gate C (ns.all fewB) Q E Ω
def P_numbersG (d : D) (b : Bool) (Ω : Om) : List D → En → Om → Prop := fun us ρ Ω' => ∃ (ns : List Int) (z : Option D), us = ns.map D.int ∧ ns.all fewB = b ∧ Ω' = Ω ∧ ρ = [some d, z]
theorem few_abs {y : Int} : decide ((if y < 0 then -y else y) ≤ 1000000000000) = fewB y := by
  unfold fewB
  congr 1
  simp only [eq_iff_iff]
  split <;> omega
theorem c_need_numbersG (T : Txt K mg C) : Clb P w K mg base ca 2 "need_numbers" (F_numbersG C) := by
  refine clb T.d_need_numbers sc_need_numbers (fun ds Ω Q E h => ?_) (fun f cdv A outer s H E hr => ⟨_, _, (ass_one (as_forT (passes_of rfl) rfl (ae_var 0) (ag_name (i := 1) sc_need_numbers.nd rfl (Or.inl rfl)) (ass_one (as_expr (ae_call (c_must T) hr (takes_of rfl rfl rfl rfl) (by omega) (aa_cons (ae_le (ae_abs rfl T.b_abs (ae_var 1)) (ae_globE rfl T.g_MOST_NUMBER)) aa_nil)))))), fun ds Ω Qa Ea h => ?_⟩)
  · obtain ⟨_, rfl, _⟩ := h
    rfl
  · obtain ⟨ns, rfl, k⟩ := h
    walk_at "pl"
    refine forL_ind (P_numbersG (.tup (ns.map D.int)) (ns.all fewB) Ω) ⟨ns, none, rfl, rfl, rfl, rfl⟩ ?_ ?_
    · rintro ρ Ω' ⟨ms, z, e, hb, rfl, rfl⟩
      have : ms = [] := by cases ms with
        | nil => rfl
        | cons _ _ => cases e
      subst this
      exact gate_t k hb.symm
    · rintro x us ρ Ω' De _ ih _ _ ⟨ms, z, e, hm, rfl, rfl⟩
      cases ms with
      | nil => cases e
      | cons y ys =>
        simp only [List.map_cons, List.cons.injEq] at e
        obtain ⟨rfl, rfl⟩ := e
        walk_at "pl"
        refine ⟨_, rfl, ?_⟩
        rw [few_abs]
        rw [List.all_cons] at hm
        cases hy : fewB y with
        | true =>
          rw [hy, Bool.true_and] at hm
          exact ih _ _ ⟨ys, _, rfl, hm, rfl, rfl⟩
        | false =>
          rw [hy, Bool.false_and] at hm
          exact gate_f k hm.symm
def F_needRuledG (C : CT) : AF := fun ds Ω Q E => ∃ ps ring steps : List Int, ds = [dtup ps, dtup ring, dtup steps] ∧ gate C (ruB ps ring steps) Q E Ω
def P_ruG1 (a b c : D) (q : Bool) (Ω : Om) : List D → En → Om → Prop := fun us ρ Ω' => ∃ (ns : List Int) (z : Option D), us = ns.map D.int ∧ ns.all (fun n => decide (1 ≤ n)) = q ∧ Ω' = Ω ∧ ρ = [some a, some b, some c, z, none]
def P_ruG2 (a b c : D) (q : Bool) (Ω : Om) : List D → En → Om → Prop := fun us ρ Ω' => ∃ (ns : List Int) (z z2 : Option D), us = ns.map D.int ∧ ns.all (fun n => decide (0 ≤ n)) = q ∧ Ω' = Ω ∧ ρ = [some a, some b, some c, z, z2]
def M_ruG (a b c : D) (q : Prop) (Ω : Om) : En → Om → Prop := fun ρ Ω' => q ∧ Ω' = Ω ∧ ρ = [some a, some b, some c, none, none]
theorem c_need_ruledG (T : Txt K mg C) : Clb P w K mg base ca 3 "need_ruled" (F_needRuledG C) := by
  refine clb T.d_need_ruled sc_need_ruled (fun ds Ω Q E h => ?_) (fun f cdv A outer s H E hr => ⟨_, _, (ass_cut (as_expr (ae_call (c_must T) hr (takes_of rfl rfl rfl rfl) (by omega) (aa_cons (ae_and (ae_leLe ae_int (ae_len rfl T.b_len (ae_var 0)) (ae_globE rfl T.g_MOST_PARTS)) (ae_and (ae_le (ae_len rfl T.b_len (ae_var 1)) (ae_globE rfl T.g_MOST_PARTS)) (ae_one (ae_eqI (ae_len rfl T.b_len (ae_var 1)) (ae_len rfl T.b_len (ae_var 2)))))) aa_nil)))
      (ass_cons (as_expr (ae_call (c_need_numbersG T) hr (takes_of rfl rfl rfl rfl) (by omega) (aa_cons (ae_catT (ae_catT (ae_var 0) (ae_var 1)) (ae_var 2)) aa_nil)))
      (ass_cons (as_forT (passes_of rfl) rfl (ae_catT (ae_sl (ae_var 0) (ao_some ae_int) ao_none) (ae_var 1)) (ag_name (i := 3) sc_need_ruled.nd rfl (Or.inl rfl)) (ass_one (as_expr (ae_call (c_must T) hr (takes_of rfl rfl rfl rfl) (by omega) (aa_cons (ae_ge (ae_var 3) ae_int) aa_nil)))))
      (ass_cons (as_forT (passes_of rfl) rfl (ae_var 2) (ag_name (i := 4) sc_need_ruled.nd rfl (Or.inl rfl)) (ass_one (as_expr (ae_call (c_must T) hr (takes_of rfl rfl rfl rfl) (by omega) (aa_cons (ae_ge (ae_var 4) ae_int) aa_nil)))))
      (ass_one (as_if (AWt.at_ (aw_and (at_eqD hr.units (ae_var 1) (ae_tup aa_nil)) (aw_and1 (at_gt (ae_len rfl T.b_len (ae_var 0)) ae_int)))) (ass_one (as_expr (ae_call (c_must T) hr (takes_of rfl rfl rfl rfl) (by omega) (aa_cons (ae_ge (ae_ix (ae_var 0) (ae_neg ae_int)) ae_int) aa_nil)))) ass_nil)))))), fun ds Ω Qa Ea h => ?_⟩)
  · obtain ⟨_, _, _, rfl, _⟩ := h
    rfl
  · obtain ⟨ps, ring, steps, rfl, k⟩ := h
    unfold dtup
    walk_at "pl"
    refine ⟨M_ruG (.tup (ps.map D.int)) (.tup (ring.map D.int)) (.tup (steps.map D.int)) (1 ≤ ps.length ∧ ps.length ≤ 12 ∧ ring.length ≤ 12 ∧ ring.length = steps.length) Ω, ?_, ?_⟩
    · walk_at "pl"
      simp only [List.length_map]
      have bad : ¬ (1 ≤ ps.length ∧ ps.length ≤ 12 ∧ ring.length ≤ 12 ∧ ring.length = steps.length) → Ea (.ref C.c_BadTree) Ω := fun hn => gate_f k (by unfold ruB; rw [decide_eq_false hn]; rfl)
      have good : (1 ≤ ps.length ∧ ps.length ≤ 12 ∧ ring.length ≤ 12 ∧ ring.length = steps.length) → M_ruG (.tup (ps.map D.int)) (.tup (ring.map D.int)) (.tup (steps.map D.int)) (1 ≤ ps.length ∧ ps.length ≤ 12 ∧ ring.length ≤ 12 ∧ ring.length = steps.length) Ω [some (.tup (ps.map D.int)), some (.tup (ring.map D.int)), some (.tup (steps.map D.int)), none, none] Ω := fun h => ⟨h, rfl, rfl⟩
      refine ite2 (fun g1 => ite2 (fun g2 => ite2 (fun g3 => ⟨_, rfl, ?_⟩) (fun g => ⟨_, rfl, bad (by omega)⟩)) (fun g => ⟨_, rfl, bad (by omega)⟩)) (fun g => ⟨_, rfl, bad (by omega)⟩)
      refine ite2 (fun g4 => good ?_) (fun g4 => bad ?_)
      · have := of_decide_eq_true g4
        omega
      · have : ¬ (ring.length : Int) = steps.length := fun z => g4 (decide_eq_true z)
        omega
    · rintro ρ Ω' ⟨⟨h1, h2, h3, h4⟩, rfl, rfl⟩
      walk_at "pl"
      simp only [List.length_map, List.length_append]
      refine ⟨Nat.le_of_lt (small1000' (by omega)), Nat.le_of_lt (small1000' (by omega)), ps ++ ring ++ steps, by rw [List.map_append, List.map_append], ?_⟩
      have hru : ruB ps ring steps = ((ps ++ ring ++ steps).all fewB && (ps.drop 1 ++ ring).all (fun n => decide (1 ≤ n)) && steps.all (fun n => decide (0 ≤ n)) && (if ring = [] then if 1 < ps.length then decide (2 ≤ ps.getLast?.getD 0) else true else true)) := by
        unfold ruB
        rw [decide_eq_true ⟨h1, h2, h3, h4⟩, Bool.true_and]
      rw [hru] at k
      clear hru
      generalize hb0 : (ps ++ ring ++ steps).all fewB = b0 at k ⊢
      cases b0 with
      | false => exact gate_f k rfl
      | true =>
      show (fun d Ω1 => _) _ _
      dsimp only
      rw [Bool.true_and] at k
      rw [cut_1, ← List.map_drop]
      refine ⟨by simp only [List.length_map, List.length_drop]; exact Nat.le_of_lt (small1000' (by omega)), ?_⟩
      rw [← List.map_append]
      refine forL_ind (P_ruG1 (.tup (ps.map D.int)) (.tup (ring.map D.int)) (.tup (steps.map D.int)) ((ps.drop 1 ++ ring).all fun n => decide (1 ≤ n)) _) ⟨_, none, rfl, rfl, rfl, rfl⟩ ?_ ?_
      · rintro ρ Ω' ⟨ms, z, e, hb, rfl, rfl⟩
        have : ms = [] := by cases ms with
          | nil => rfl
          | cons _ _ => cases e
        subst this
        rw [← hb] at k
        simp only [List.all_nil, Bool.true_and] at k
        walk_at "pl"
        refine forL_ind (P_ruG2 (.tup (ps.map D.int)) (.tup (ring.map D.int)) (.tup (steps.map D.int)) (steps.all fun n => decide (0 ≤ n)) _) ⟨_, z, none, rfl, rfl, rfl, rfl⟩ ?_ ?_
        · rintro ρ Ω' ⟨ms, z, z2, e, hb, rfl, rfl⟩
          have : ms = [] := by cases ms with
            | nil => rfl
            | cons _ _ => cases e
          subst this
          rw [← hb] at k
          simp only [List.all_nil, Bool.true_and] at k
          walk_at "pl"
          refine ⟨Nat.zero_le _, fEq_nil ⟨_, rfl, ?_⟩⟩
          simp only [Bool.false_eq_true, if_false, List.length_map]
          by_cases hr : ring = []
          · rw [decide_eq_true hr, if_pos rfl]
            rw [if_pos hr] at k
            refine ite2 (fun e => ?_) (fun e => ?_)
            · rw [if_pos (by omega)] at k
              cases hq : ps.getLast? with
              | none => rw [List.getLast?_eq_none_iff.mp hq] at h1; simp at h1
              | some n =>
                rw [hq] at k
                refine ⟨_, by rw [List.getLast?_map, hq]; rfl, n, rfl, ?_⟩
                exact ⟨_, rfl, k⟩
            · rw [if_neg (by omega)] at k
              exact gate_t k rfl
          · rw [decide_eq_false hr, if_neg (by decide)]
            rw [if_neg hr] at k
            exact gate_t k rfl
        · rintro x us ρ Ω' De _ ih _ _ ⟨ms, z, z2, e, hm, rfl, rfl⟩
          cases ms with
          | nil => cases e
          | cons y ys =>
            simp only [List.map_cons, List.cons.injEq] at e
            obtain ⟨rfl, rfl⟩ := e
            walk_at "pl"
            rw [List.all_cons] at hm
            refine ⟨_, rfl, ?_⟩
            generalize hy : decide (0 ≤ y) = b at hm ⊢
            cases b with
            | true => exact ih _ _ ⟨ys, _, _, rfl, by rw [Bool.true_and] at hm; exact hm, rfl, rfl⟩
            | false =>
              rw [Bool.false_and] at hm
              rw [← hm] at k
              exact gate_f k rfl
      · rintro x us ρ Ω' De _ ih _ _ ⟨ms, z, e, hm, rfl, rfl⟩
        cases ms with
        | nil => cases e
        | cons y ys =>
          simp only [List.map_cons, List.cons.injEq] at e
          obtain ⟨rfl, rfl⟩ := e
          walk_at "pl"
          rw [List.all_cons] at hm
          refine ⟨_, rfl, ?_⟩
          generalize hy : decide (1 ≤ y) = b at hm ⊢
          cases b with
          | true => exact ih _ _ ⟨ys, _, rfl, by rw [Bool.true_and] at hm; exact hm, rfl, rfl⟩
          | false =>
            rw [Bool.false_and] at hm
            rw [← hm] at k
            exact gate_f k rfl
theorem gate_true {Q : AQ} {E : Value → Om → Prop} {Ω : Om} : gate C true Q E Ω = Q .non Ω := rfl
def F_needEight (C : CT) : AF := fun ds Ω Q E => ∃ ns : List Int, ds = [dtup ns] ∧ gate C (eiB ns) Q E Ω
def P_e1 (ns : List Int) (Ω : Om) : List D → En → Om → Prop := fun us ρ Ω' => ∃ (i l : Nat) (z1 z2 : Option D), us = rngD (i : Int) l ∧ i + l = 4 ∧ Ω' = Ω ∧ ρ = [some (dtup ns), some (.bl (apA ns i)), z1, z2]
def P_e2 (ns : List Int) (i : Nat) (Ω : Om) : List D → En → Om → Prop := fun us ρ Ω' => ∃ (j l : Nat) (z2 : Option D), us = rngD (j : Int) l ∧ j + l = i ∧ Ω' = Ω ∧ ρ = [some (dtup ns), some (.bl (apA ns i || apI ns i j)), some (.int i), z2]
theorem rng_step {lo : Int} {l : Nat} {x : D} {us : List D} (h : x :: us = rngD lo l) : ∃ l', l = l' + 1 ∧ x = .int lo ∧ us = rngD (lo + 1) l' := by
  cases l with
  | zero => cases h
  | succ l =>
    rw [rngD_succ] at h
    cases h
    exact ⟨l, rfl, rfl, rfl⟩
theorem rng_nil {lo : Int} {l : Nat} (h : [] = rngD lo l) : l = 0 := by
  cases l with
  | zero => rfl
  | succ l => rw [rngD_succ] at h; cases h
theorem range_snoc {n : Nat} {f : Nat → Bool} : (List.range (n + 1)).any f = ((List.range n).any f || f n) := by
  rw [List.range_succ, List.any_append, List.any_cons, List.any_nil, Bool.or_false]
theorem few_mul {x y : Int} (h : Few x) (h2 : Few y) : IntMulOk x y := by
  unfold Few at h h2
  exact mulok (a := 60) (b := 60) (by omega) (by omega) (by decide)
theorem c_need_eight (T : Txt K mg C) : Clb P w K mg base ca 3 "need_eight" (F_needEight C) := by
  refine clb T.d_need_eight sc_need_eight (fun ds Ω Q E h => ?_) (fun f cdv A outer s H E hr => ⟨_, _, (ass_cons (as_expr (ae_call (c_must T) hr (takes_of rfl rfl rfl rfl) (by omega) (aa_cons (ae_eqI (ae_len rfl T.b_len (ae_var 0)) ae_int) aa_nil)))
      (ass_cons (as_expr (ae_call (c_need_numbersG T) hr (takes_of rfl rfl rfl rfl) (by omega) (aa_cons (ae_var 0) aa_nil)))
      (ass_cons (as_set 1 sc_need_eight.nd ae_bl)
      (ass_cons (as_forR1 (passes_of rfl) rfl rfl T.b_range ae_int (ag_name (i := 2) sc_need_eight.nd rfl (Or.inl rfl)) (ass_one (as_forR1 (passes_of rfl) rfl rfl T.b_range (ae_var 2) (ag_name (i := 3) sc_need_eight.nd rfl (Or.inl rfl)) (ass_one (as_set 1 sc_need_eight.nd (ae_or (ae_var 1) (ae_one (ae_neI (ae_mul (ae_ix (ae_var 0) (ae_var 2)) (ae_ix (ae_var 0) (ae_add ae_int (ae_var 3)))) (ae_mul (ae_ix (ae_var 0) (ae_var 3)) (ae_ix (ae_var 0) (ae_add ae_int (ae_var 2))))))))))))
      (ass_one (as_expr (ae_call (c_must T) hr (takes_of rfl rfl rfl rfl) (by omega) (aa_cons (ae_var 1) aa_nil)))))))), fun ds Ω Qa Ea h => ?_⟩)
  · obtain ⟨_, rfl, _⟩ := h
    rfl
  · obtain ⟨ns, rfl, k⟩ := h
    unfold dtup
    walk_at "pl"
    simp only [List.length_map]
    refine ⟨_, rfl, ?_⟩
    have e8 : decide ((ns.length : Int) = 8) = decide (ns.length = 8) := by congr 1; simp only [eq_iff_iff]; omega
    rw [e8]
    unfold eiB at k
    generalize h8 : decide (ns.length = 8) = b8 at k ⊢
    cases b8 with
    | false => exact gate_f k rfl
    | true =>
    have hl := of_decide_eq_true h8
    rw [Bool.true_and] at k
    refine ⟨ns, rfl, ?_⟩
    generalize hf : ns.all fewB = bf at k ⊢
    cases bf with
    | false => exact gate_f k rfl
    | true =>
    rw [Bool.true_and] at k
    have hfew : ∀ n ∈ ns, Few n := fun n hn => fewB_iff.mp (List.all_eq_true.mp hf n hn)
    show (fun d Ω1 => _) _ _
    dsimp only
    refine ⟨by decide, by decide, ?_⟩
    refine forL_ind (P_e1 ns Ω) ⟨0, 4, none, none, rfl, rfl, rfl, rfl⟩ ?_ ?_
    · rintro ρ Ω' ⟨i, l, z1, z2, e, hi, rfl, rfl⟩
      have := rng_nil e
      have : i = 4 := by omega
      subst this
      walk_at "pl"
      exact ⟨_, rfl, k⟩
    · rintro x us ρ Ω' De e1 ih _ _ ⟨i, l, z1, z2, e, hi, rfl, rfl⟩
      obtain ⟨l', rfl, rfl, rfl⟩ := rng_step e
      walk_at "pl"
      refine ⟨by omega, by omega, ?_⟩
      have e0 : rngD 0 i = rngD ((0 : Nat) : Int) i := rfl
      rw [e0]
      refine forL_ind (P_e2 ns i Ω') ⟨0, i, z2, rfl, by omega, rfl, by simp [apI]⟩ ?_ ?_
      · rintro ρ Ω2 ⟨j, l, z2, e, hj, rfl, rfl⟩
        have := rng_nil e
        have : j = i := by omega
        subst this
        refine ih _ _ ⟨j + 1, l', some (.int j), z2, by rw [Int.natCast_add]; rfl, by omega, rfl, ?_⟩
        rw [show apA ns (j + 1) = (apA ns j || apI ns j j) from range_snoc]
      · rintro x us ρ Ω2 De2 e2 ih2 _ _ ⟨j, l, z2, e, hj, rfl, rfl⟩
        obtain ⟨l2, rfl, rfl, rfl⟩ := rng_step e
        unfold dtup
        walk_at "pl"
        have nx : De2.nx [some (dtup ns), some (.bl (apA ns i || apI ns i (j + 1))), some (.int i), some (.int j)] Ω2 := ih2 _ _ ⟨j + 1, l2, _, by rw [Int.natCast_add]; rfl, by omega, rfl, rfl⟩
        rw [apI, range_snoc, ← Bool.or_assoc] at nx
        rw [show (List.range j).any (apN ns i) = apI ns i j from rfl] at nx
        generalize (apA ns i || apI ns i j) = b at nx ⊢
        cases b with
        | true => exact nx
        | false =>
          have fi : ∀ t : Nat, t < 8 → Few (ns.getD t 0) := fun t ht => hfew _ (getD_mem (by omega))
          exact ⟨_, getD_at (i := i) (by omega) rfl, _, getD_at (i := 4 + j) (by omega) (by omega), _, rfl, _, rfl, few_mul (fi _ (by omega)) (fi _ (by omega)), _, getD_at (i := j) (by omega) rfl, _, getD_at (i := 4 + i) (by omega) (by omega), _, rfl, _, rfl, few_mul (fi _ (by omega)) (fi _ (by omega)), nx⟩
theorem clb_none {x : Str} {st : Stmt} {ps : List Str} (d : Dfn K mg x x st ps) (k : Nat) : Clb P w K mg base ca k x (fun _ _ _ _ => False) := by
  obtain ⟨f, fd, F, m, b⟩ := d.ex
  exact ⟨f, fd, ps, ⟨fun vs H Q E ⟨_, _, _, _, _, _, _, _, z, _⟩ => z.elim, fun _ _ _ _ _ _ _ _ _ _ _ _ _ ⟨_, _, _, _, _, _, _, _, z, _⟩ => z.elim⟩, m, F.kp, b⟩
def F_needT (C : CT) (M : Nat) : AF := fun ds Ω Q E => ∃ (x : Rw) (k : Nat), ds = [x.d, .int k] ∧ k ≤ M ∧ gate C (x.ok k) Q E Ω
theorem need_step (T : Txt K mg C) {j M : Nat} (hj : 4 ≤ j) {Fp : AF} (c_self : Clb P w K mg base ca j "need_tree" Fp) (hF : ∀ (x : Rw) (k : Nat) Ω Q E, k < M → gate C (x.ok k) Q E Ω → Fp [x.d, .int k] Ω Q E) : Clb P w K mg base ca (j + 1) "need_tree" (F_needT C M) := by
  refine clb T.d_need_tree sc_need_tree (fun ds Ω Q E h => ?_) (fun f cdv A outer s H E hr => ⟨_, _, (ass_cons (as_expr (ae_call (c_must T) hr (takes_of rfl rfl rfl rfl) (by omega) (aa_cons (ae_ge (ae_var 1) ae_int) aa_nil)))
      (ass_cons (as_set 2 sc_need_tree.nd (ae_ix (ae_var 0) ae_int))
      (ass_one (as_if (at_eqS (ae_var 2) ae_str) (ass_cons (as_expr (ae_call (c_need_numbersG T) hr (takes_of rfl rfl rfl rfl) (by omega) (aa_cons (ae_sl (ae_var 0) (ao_some ae_int) ao_none) aa_nil)))
      (ass_one (as_expr (ae_call (c_must T) hr (takes_of rfl rfl rfl rfl) (by omega) (aa_cons (ae_neI (ae_ix (ae_var 0) ae_int) ae_int) aa_nil))))) (ass_one (as_if (at_eqS (ae_var 2) ae_str) (ass_cons (as_expr (ae_call (c_need_numbersG T) hr (takes_of rfl rfl rfl rfl) (by omega) (aa_cons (ae_sl (ae_var 0) (ao_some ae_int) ao_none) aa_nil)))
      (ass_one (as_expr (ae_call (c_must T) hr (takes_of rfl rfl rfl rfl) (by omega) (aa_cons (ae_and (ae_ge (ae_ix (ae_var 0) ae_int) ae_int) (ae_one (ae_neI (ae_ix (ae_var 0) ae_int) ae_int))) aa_nil))))) (ass_one (as_if (at_eqS (ae_var 2) ae_str) (ass_one (as_expr (ae_call (c_need_ruledG T) hr (takes_of rfl rfl rfl rfl) (by omega) (aa_cons (ae_ix (ae_var 0) ae_int) (aa_cons (ae_ix (ae_var 0) ae_int) (aa_cons (ae_ix (ae_var 0) ae_int) aa_nil)))))) (ass_one (as_if (at_eqS (ae_var 2) ae_str) (ass_cons (as_expr (ae_call (c_must T) hr (takes_of rfl rfl rfl rfl) (by omega) (aa_cons (ae_eqI (ae_len rfl T.b_len (ae_ix (ae_var 0) ae_int)) ae_int) aa_nil)))
      (ass_cons (as_expr (ae_call (c_need_numbersG T) hr (takes_of rfl rfl rfl rfl) (by omega) (aa_cons (ae_ix (ae_var 0) ae_int) aa_nil)))
      (ass_cons (as_expr (ae_call (c_must T) hr (takes_of rfl rfl rfl rfl) (by omega) (aa_cons (ae_neI (ae_mul (ae_ix (ae_ix (ae_var 0) ae_int) ae_int) (ae_ix (ae_ix (ae_var 0) ae_int) ae_int)) (ae_mul (ae_ix (ae_ix (ae_var 0) ae_int) ae_int) (ae_ix (ae_ix (ae_var 0) ae_int) ae_int))) aa_nil)))
      (ass_one (as_expr (ae_call c_self hr (takes_of rfl rfl rfl rfl) (by omega) (aa_cons (ae_ix (ae_var 0) ae_int) (aa_cons (ae_sub (ae_var 1) ae_int) aa_nil)))))))) (ass_one (as_if (at_eqS (ae_var 2) ae_str) (ass_cons (as_expr (ae_call (c_need_eight T) hr (takes_of rfl rfl rfl rfl) (by omega) (aa_cons (ae_ix (ae_var 0) ae_int) aa_nil)))
      (ass_cons (as_expr (ae_call c_self hr (takes_of rfl rfl rfl rfl) (by omega) (aa_cons (ae_ix (ae_var 0) ae_int) (aa_cons (ae_sub (ae_var 1) ae_int) aa_nil))))
      (ass_one (as_expr (ae_call c_self hr (takes_of rfl rfl rfl rfl) (by omega) (aa_cons (ae_ix (ae_var 0) ae_int) (aa_cons (ae_sub (ae_var 1) ae_int) aa_nil))))))) (ass_cons (as_expr (ae_call (c_must T) hr (takes_of rfl rfl rfl rfl) (by omega) (aa_cons (ae_leLe ae_int (ae_ix (ae_var 0) ae_int) (ae_globE rfl T.g_MOST_POWER)) aa_nil)))
      (ass_one (as_expr (ae_call c_self hr (takes_of rfl rfl rfl rfl) (by omega) (aa_cons (ae_ix (ae_var 0) ae_int) (aa_cons (ae_sub (ae_var 1) ae_int) aa_nil)))))))))))))))))), fun ds Ω Qa Ea h => ?_⟩)
  · obtain ⟨_, _, rfl, _⟩ := h
    rfl
  · obtain ⟨x, kk, rfl, hk, k⟩ := h
    cases kk with
    | zero =>
      walk_at "pl"
      exact ⟨_, rfl, gate_f k rfl⟩
    | succ kk =>
    have hd : ((kk + 1 : Nat) : Int) - 1 = (kk : Int) := by omega
    walk_at "pl"
    refine ⟨_, rfl, ?_⟩
    rw [if_pos (by simp; omega)]
    cases x with
    | frac t b =>
      simp only [Rw.d]
      walk_at "pl"
      rw [cut_1]
      refine ⟨[t, b], rfl, ?_⟩
      simp only [Rw.ok] at k
      simp only [List.all_cons, List.all_nil, Bool.and_true]
      generalize (fewB t && fewB b) = q at k ⊢
      cases q with
      | false => exact gate_f k rfl
      | true => exact ⟨_, rfl, k⟩
    | root t s b =>
      simp only [Rw.d]
      walk_at "pl"
      rw [if_neg (by decide), cut_1]
      refine ⟨[t, s, b], rfl, ?_⟩
      simp only [Rw.ok] at k
      simp only [List.all_cons, List.all_nil, Bool.and_true, ← Bool.and_assoc]
      generalize (fewB t && fewB s && fewB b) = q at k ⊢
      cases q with
      | false => exact gate_f k rfl
      | true =>
        rw [Bool.true_and] at k
        by_cases hs : 0 ≤ s
        · rw [decide_eq_true hs, Bool.true_and] at k
          rw [gate_true]
          rw [if_pos hs]
          exact ⟨_, rfl, k⟩
        · rw [decide_eq_false hs, Bool.false_and] at k
          rw [gate_true]
          rw [if_neg hs]
          exact ⟨_, rfl, k⟩
    | ruled ps ring steps =>
      simp only [Rw.d]
      walk_at "pl"
      rw [if_neg (by decide), if_neg (by decide)]
      exact ⟨ps, ring, steps, rfl, k⟩
    | four ns y =>
      simp only [Rw.d]
      walk_at "pl"
      rw [if_neg (by decide), if_neg (by decide), if_neg (by decide), hd]
      refine ⟨_, rfl, _, rfl, ?_⟩
      simp only [Rw.ok] at k
      unfold foB at k
      rw [List.length_map]
      have e4 : decide ((ns.length : Int) = 4) = decide (ns.length = 4) := by congr 1; simp only [eq_iff_iff]; omega
      rw [e4]
      generalize h4 : decide (ns.length = 4) = b4 at k ⊢
      cases b4 with
      | false => exact gate_f k rfl
      | true =>
      have hl := of_decide_eq_true h4
      rw [Bool.true_and] at k
      refine ⟨ns, rfl, ?_⟩
      generalize hf : ns.all fewB = bf at k ⊢
      cases bf with
      | false => exact gate_f k rfl
      | true =>
      rw [Bool.true_and] at k
      have hfew : ∀ n ∈ ns, Few n := fun n hn => fewB_iff.mp (List.all_eq_true.mp hf n hn)
      have fi : ∀ t : Nat, t < 4 → Few (ns.getD t 0) := fun t ht => hfew _ (getD_mem (by omega))
      have at_ : ∀ t : Nat, t < 4 → (ns.map D.int)[t]? = some (.int (ns.getD t 0)) := fun t ht => by rw [← atI_eq]; exact getD_at (by omega) rfl
      rw [gate_true]
      refine ⟨_, rfl, _, at_ 0 (by omega), _, rfl, _, at_ 3 (by omega), _, rfl, _, rfl, few_mul (fi 0 (by omega)) (fi 3 (by omega)), _, rfl, _, at_ 1 (by omega), _, rfl, _, at_ 2 (by omega), _, rfl, _, rfl, few_mul (fi 1 (by omega)) (fi 2 (by omega)), _, rfl, ?_⟩
      generalize (!decide (ns.getD 0 0 * ns.getD 3 0 = ns.getD 1 0 * ns.getD 2 0)) = q at k ⊢
      cases q with
      | false => exact gate_f k rfl
      | true => exact hF y kk _ _ _ (by omega) k
    | eight ns y z =>
      simp only [Rw.d]
      walk_at "pl"
      rw [if_neg (by decide), if_neg (by decide), if_neg (by decide), if_neg (by decide), hd]
      simp only [Rw.ok] at k
      refine ⟨ns, rfl, ?_⟩
      generalize eiB ns = q at k ⊢
      cases q with
      | false => exact gate_f k rfl
      | true =>
      rw [Bool.true_and] at k
      rw [gate_true]
      refine hF y kk _ _ _ (by omega) ?_
      generalize y.ok kk = q at k ⊢
      cases q with
      | false => exact gate_f k rfl
      | true => exact hF z kk _ _ _ (by omega) k
    | power y n =>
      simp only [Rw.d]
      walk_at "pl"
      rw [if_neg (by decide), if_neg (by decide), if_neg (by decide), if_neg (by decide), if_neg (by decide), hd]
      simp only [Rw.ok] at k
      have go : ∀ b : Bool, decide (1 ≤ n ∧ n ≤ 4) = b → F_must C [.bl b] Ω (fun _ Ω1 => Fp [y.d, .int kk] Ω1 (fun _ Ω1 => Qa .non Ω1) fun cls Ω' => Ea cls Ω') (fun cls Ω' => Ea cls Ω') := fun b hb => by
        rw [hb] at k
        refine ⟨_, rfl, ?_⟩
        cases b with
        | false => exact gate_f k rfl
        | true => exact hF y kk _ _ _ (by omega) k
      refine ite2 (fun h1 => ?_) (fun h1 => go _ (decide_eq_false (by omega)))
      exact go _ (by congr 1; simp only [eq_iff_iff]; omega)
theorem c_need_tree (T : Txt K mg C) : ∀ M : Nat, Clb P w K mg base ca (M + 5) "need_tree" (F_needT C M)
  | 0 => need_step T (Nat.le_refl 4) (clb_none T.d_need_tree 4) (fun _ _ _ _ _ h => by omega)
  | M + 1 => need_step T (by omega) (c_need_tree T M) (fun x k Ω Q E h g => ⟨x, k, rfl, by omega, g⟩)
/-- good trees as raw ones -/
def Tr.raw : Tr → Rw
  | .frac t b => .frac t b
  | .root t s b => .root t s b
  | .ruled ps ring steps => .ruled ps ring steps
  | .four a b c d x => .four [a, b, c, d] x.raw
  | .eight a b c d e f g h x y => .eight [a, b, c, d, e, f, g, h] x.raw y.raw
  | .power x n => .power x.raw n
theorem Tr.raw_d : ∀ t : Tr, t.raw.d = t.d
  | .frac t b => rfl
  | .root t s b => rfl
  | .ruled ps ring steps => rfl
  | .four a b c d x => by simp only [Tr.raw, Rw.d, Tr.d, x.raw_d]
  | .eight a b c d e f g h x y => by simp only [Tr.raw, Rw.d, Tr.d, x.raw_d, y.raw_d]
  | .power x n => by simp only [Tr.raw, Rw.d, Tr.d, x.raw_d]
theorem Tr.raw_ok : ∀ (t : Tr) (k : Nat), t.good k → t.raw.ok k = true
  | t, 0, h => by cases t <;> exact h.elim
  | .frac t b, k + 1, h => by
    obtain ⟨h1, h2, h3⟩ := h
    simp only [Tr.raw, Rw.ok, fewB_iff.mpr h1, fewB_iff.mpr h2, decide_eq_false h3]
    rfl
  | .root t s b, k + 1, h => by
    obtain ⟨h1, h2, h3, h4, h5⟩ := h
    simp only [Tr.raw, Rw.ok, fewB_iff.mpr h1, fewB_iff.mpr h2, fewB_iff.mpr h3, decide_eq_true h4, decide_eq_false h5]
    rfl
  | .ruled ps ring steps, k + 1, h => by
    obtain ⟨h1, h2, h3, h4, h5, h6, h7, h8⟩ := h
    simp only [Tr.raw, Rw.ok]
    unfold ruB
    rw [decide_eq_true ⟨h1, h2, h3, h4⟩, List.all_eq_true.mpr fun n hn => fewB_iff.mpr (h5 n hn), List.all_eq_true.mpr fun n hn => decide_eq_true (h6 n hn), List.all_eq_true.mpr fun n hn => decide_eq_true (h7 n hn)]
    simp only [Bool.true_and]
    split
    · rename_i hr
      split
      · rename_i hl
        cases hq : ps.getLast? with
        | none => rw [List.getLast?_eq_none_iff.mp hq] at h1; simp at h1
        | some n => exact decide_eq_true (h8 hr hl n hq)
      · rfl
    · rfl
  | .four a b c d x, k + 1, h => by
    obtain ⟨h1, h2, h3, h4, h5, h6⟩ := h
    simp only [Tr.raw, Rw.ok, x.raw_ok k h6, foB, List.all_cons, List.all_nil, fewB_iff.mpr h1, fewB_iff.mpr h2, fewB_iff.mpr h3, fewB_iff.mpr h4]
    simpa using h5
  | .eight a b c d e f g i x y, k + 1, h => by
    obtain ⟨h1, h2, h3, h4⟩ := h
    have ha : [a, b, c, d, e, f, g, i].all fewB = true := List.all_eq_true.mpr fun n hn => fewB_iff.mpr (h1 n hn)
    simp only [Tr.raw, Rw.ok, x.raw_ok k h3, y.raw_ok k h4, eiB, ha, Bool.and_true]
    have : apA [a, b, c, d, e, f, g, i] 4 = (apN [a, b, c, d, e, f, g, i] 1 0 || (apN [a, b, c, d, e, f, g, i] 2 0 || apN [a, b, c, d, e, f, g, i] 2 1) || (apN [a, b, c, d, e, f, g, i] 3 0 || apN [a, b, c, d, e, f, g, i] 3 1 || apN [a, b, c, d, e, f, g, i] 3 2)) := by
      unfold apA apI
      simp only [List.range_succ, List.range_zero, List.nil_append, List.any_cons, List.any_nil, List.any_append, List.cons_append, Bool.or_false, Bool.false_or, Bool.or_assoc]
    rw [this]
    simp only [apN, List.getD_cons_zero, List.getD_cons_succ, List.length_cons, List.length_nil, Nat.reduceAdd, decide_true, Bool.true_and, Bool.or_eq_true, Bool.not_eq_true', decide_eq_false_iff_not]
    rcases h2 with z | z | z | z | z | z
    · exact .inl (.inl z)
    · exact .inl (.inr (.inl z))
    · exact .inl (.inr (.inr z))
    · exact .inr (.inl (.inl z))
    · exact .inr (.inl (.inr z))
    · exact .inr (.inr z)
  | .power x n, k + 1, h => by
    obtain ⟨h1, h2, h3⟩ := h
    simp only [Tr.raw, Rw.ok, x.raw_ok k h3, decide_eq_true (And.intro h1 h2)]
    rfl
def F_rootOf (C : CT) : AF := fun ds Ω Q _ => ∃ t s b : Int, ds = [.int t, .int s, .int b] ∧ Few t ∧ Few s ∧ Few b ∧ 0 ≤ s ∧ b ≠ 0 ∧ ∀ r p Ω', Opened (.root t s b) r → RdO C Ω' p r [p] → Ω p = none → (∀ b, Ω b ≠ none → Ω' b = Ω b) → Q (.o p) Ω'
theorem new_stand {Ω : Om} {p : Addr} {o u : AO} (h : Ω p = none) : ∀ b, Ω b ≠ none → oset (oset Ω p o) p u b = Ω b := fun b hb => by
  have : b ≠ p := fun e => hb (by rw [e]; exact h)
  rw [oset_ne this, oset_ne this]
theorem abI_pos {b : Int} (h : b ≠ 0) : 0 < abI b := by unfold abI; split <;> omega
theorem c_root_of (T : Txt K mg C) : Clb P w K mg base ca 4 "root_of" (F_rootOf C) := by
  refine clb T.d_root_of sc_root_of (fun ds Ω Q E h => ?_) (fun f cdv A outer s H E hr => ⟨_, _, (ass_cons (as_set 3 sc_root_of.nd (ae_call (c_root_below T) hr (takes_of rfl rfl rfl rfl) (by omega) (aa_cons (ae_var 1) aa_nil)))
      (ass_cons (as_if (at_eqI (ae_mul (ae_var 3) (ae_var 3)) (ae_var 1)) (ass_one (as_ret (ae_make (mk_Fraction T) hr (takes_of rfl rfl rfl rfl) (by omega) (aa_cons (ae_add (ae_var 0) (ae_var 3)) (aa_cons (ae_var 2) aa_nil))))) ass_nil)
      (ass_cons (as_set 4 sc_root_of.nd (ae_abs rfl T.b_abs (ae_var 2)))
      (ass_one (as_ret (ae_make (mk_Root T) hr (takes_of rfl rfl rfl rfl) (by omega) (aa_cons (ae_mul (ae_var 0) (ae_var 4)) (aa_cons (ae_mul (ae_mul (ae_var 1) (ae_var 4)) (ae_var 4)) (aa_cons (ae_mul (ae_var 2) (ae_var 4)) aa_nil))))))))), fun ds Ω Qa Ea h => ?_⟩)
  · obtain ⟨_, _, _, rfl, _⟩ := h
    rfl
  · obtain ⟨t, s', b, rfl, ht, hs, hb, s0, b0, k⟩ := h
    unfold Few at ht hs hb
    walk_at "pl"
    refine ⟨s', rfl, s0, by omega, fun f f0 f1 f2 => ?_⟩
    have ff : f ≤ s' := by
      rcases Int.lt_or_le f 1 with h | h
      · omega
      · have := Int.mul_le_mul_of_nonneg_left h f0
        omega
    refine ⟨f, rfl, f, rfl, mulok (a := 60) (b := 60) (by omega) (by omega) (by decide), ite2 (fun e => ⟨f, rfl, fun p hp => ⟨p, t + f, b, rfl, oset_same, rfl, ?_⟩⟩) (fun e => ?_)⟩
    · exact k _ p _ (.rootF f0 e) (.frac oset_same) hp (new_stand hp)
    · have eb : (if b < 0 then -b else b) = abI b := rfl
      have hb0 := abI_pos b0
      have hb1 : (abI b).natAbs < 2 ^ 60 := by unfold abI; split <;> omega
      have hb2 : abI b ≤ 10 ^ 12 := by unfold abI; split <;> omega
      rw [eb]
      have g0 : 0 ≤ s' * abI b := Int.mul_nonneg s0 (by omega)
      have g1 : s' * abI b ≤ 10 ^ 12 * 10 ^ 12 := Int.mul_le_mul (by omega) hb2 (by omega) (by decide)
      have g2 : 0 ≤ s' * abI b * abI b := Int.mul_nonneg g0 (by omega)
      have g3 : s' * abI b * abI b ≤ (10 ^ 12 * 10 ^ 12) * 10 ^ 12 := Int.mul_le_mul g1 hb2 (by omega) (by decide)
      refine ⟨mulok (a := 60) (b := 60) (by omega) hb1 (by decide), mulok (a := 60) (b := 60) (by omega) hb1 (by decide), mulok (a := 200) (b := 60) (by omega) hb1 (by decide), mulok (a := 60) (b := 60) (by omega) hb1 (by decide), fun p hp => ⟨p, _, _, _, rfl, oset_same, g2, by omega, fun f' h1 h2 h3 => ⟨rfl, ?_⟩⟩⟩
      exact k _ p _ (.rootR f0 (by omega) f2 h1 h2 h3) (.root oset_same) hp (new_stand hp)
theorem fl_unique {s f g : Int} (f0 : 0 ≤ f) (f1 : f * f ≤ s) (f2 : s < (f + 1) * (f + 1)) (g0 : 0 ≤ g) (g1 : g * g ≤ s) (g2 : s < (g + 1) * (g + 1)) : f = g := by
  rcases Int.lt_trichotomy f g with z | z | z
  · have h1 : f + 1 ≤ g := z
    have := Int.mul_le_mul h1 h1 (by omega) (by omega)
    omega
  · exact z
  · have h1 : g + 1 ≤ f := z
    have := Int.mul_le_mul h1 h1 (by omega) (by omega)
    omega
theorem sq_lt {f : Int} (h : 0 ≤ f) : f * f < (f + 1) * (f + 1) := by
  have : (f + 1) * (f + 1) = f * f + 2 * f + 1 := by grind
  omega
theorem Opened.unique {t : Tr} {r r' : R} (h : Opened t r) (h' : Opened t r') : r = r' := by
  induction h generalizing r' with
  | frac => cases h'; rfl
  | rootF h1 h2 =>
    cases h' with
    | rootF g1 g2 => rw [fl_unique h1 (Int.le_of_eq h2) (by rw [← h2]; exact sq_lt h1) g1 (Int.le_of_eq g2) (by rw [← g2]; exact sq_lt g1)]
    | rootR g1 g2 g3 =>
      have := fl_unique h1 (Int.le_of_eq h2) (by rw [← h2]; exact sq_lt h1) g1 (Int.le_of_lt g2) g3
      subst this
      omega
  | rootR q1 q2 q3 q4 q5 q6 =>
    cases h' with
    | rootF g1 g2 =>
      have := fl_unique g1 (Int.le_of_eq g2) (by rw [← g2]; exact sq_lt g1) q1 (Int.le_of_lt q2) q3
      subst this
      omega
    | rootR g1 g2 g3 g4 g5 g6 => rw [fl_unique q4 q5 q6 g4 g5 g6]
  | ruled => cases h'; rfl
  | four _ ih => cases h' with | four g => rw [ih g]
  | eight _ _ ih1 ih2 => cases h' with | eight g1 g2 => rw [ih1 g1, ih2 g2]
  | power _ ih => cases h' with | power g => rw [ih g]
def Opn (C : CT) (tr : Tr) (Q : AQ) (Ω : Om) : Prop := ∀ r p Ω' S, Opened tr r → RdO C Ω' p r S → (∀ b ∈ S, Ω b = none) → (∀ b, Ω b ≠ none → Ω' b = Ω b) → Q (.o p) Ω'
def F_openG (C : CT) (M : Nat) : AF := fun ds Ω Q _ => ∃ (tr : Tr) (k : Nat), ds = [tr.d] ∧ k ≤ M ∧ tr.good k ∧ Opn C tr Q Ω
def P_open (C : CT) (d z0 : D) (n : Nat) (r : R) (Ω : Om) : List D → En → Om → Prop := fun us ρ Ω' => ∃ (i l : Nat) (p : Addr) (S : List Addr) (z : Option D), us = rngD (i : Int) l ∧ i + l = n ∧ RdO C Ω' p (pows r i) S ∧ (∀ b ∈ S, Ω b = none) ∧ (∀ b, Ω b ≠ none → Ω' b = Ω b) ∧ ρ = [some d, some z0, some (.o p), z]
theorem rd_eight {Ω Ω1 Ω2 : Om} {z1 z2 p kk : Addr} {a b c d e f g h : Int} {x y : R} {S1 S2 : List Addr} (hx : RdO C Ω1 z1 x S1) (h1 : ∀ b ∈ S1, Ω b = none) (k1 : ∀ b, Ω b ≠ none → Ω1 b = Ω b) (hy : RdO C Ω2 z2 y S2) (h2 : ∀ b ∈ S2, Ω1 b = none) (k2 : ∀ b, Ω1 b ≠ none → Ω2 b = Ω1 b) (hp : Ω2 p = none) (hk : Ω2 kk = none) (hne : kk ≠ p) {o : AO} :
    ∃ S, RdO C (oset (oset (oset Ω2 p o) kk (.lst [.int 0, .int 0])) p (oEight C [.int a, .int b, .int c, .int d, .int e, .int f, .int g, .int h] z1 z2 kk false .non)) p (.eight a b c d e f g h 0 0 false x y) S ∧ (∀ v ∈ S, Ω v = none) ∧ ∀ v, Ω v ≠ none → oset (oset (oset Ω2 p o) kk (.lst [.int 0, .int 0])) p (oEight C [.int a, .int b, .int c, .int d, .int e, .int f, .int g, .int h] z1 z2 kk false .non) v = Ω v := by
  have up : ∀ b, Ω b ≠ none → Ω2 b = Ω b := fun b hb => by rw [k2 b (by rw [k1 b hb]; exact hb), k1 b hb]
  have dn : ∀ b, Ω2 b = none → Ω b = none := fun b hb => by
    cases q : Ω b with
    | none => rfl
    | some u => have := up b (by rw [q]; simp); rw [hb, q] at this; cases this
  have hx2 : RdO C Ω2 z1 x S1 := hx.keep fun b hb => k2 b (hx.there b hb)
  have f1 : ∀ b ∈ S1, b ≠ p ∧ b ≠ kk := fun b hb => ⟨fun e => hx2.there b hb (by rw [e]; exact hp), fun e => hx2.there b hb (by rw [e]; exact hk)⟩
  have f2 : ∀ b ∈ S2, b ≠ p ∧ b ≠ kk := fun b hb => ⟨fun e => hy.there b hb (by rw [e]; exact hp), fun e => hy.there b hb (by rw [e]; exact hk)⟩
  refine ⟨p :: kk :: (S1 ++ S2), .eight oset_same ((oset_ne hne).trans oset_same) (hx2.keep fun b hb => ?_) (hy.keep fun b hb => ?_) (Ne.symm hne) (fun z => (f1 p z).1 rfl) (fun z => (f2 p z).1 rfl) (fun z => (f1 kk z).2 rfl) (fun z => (f2 kk z).2 rfl) (fun b hb hb2 => hx.there b hb (h2 b hb2)), fun b hb => ?_, fun b hb => ?_⟩
  · rw [oset_ne (f1 b hb).1, oset_ne (f1 b hb).2, oset_ne (f1 b hb).1]
  · rw [oset_ne (f2 b hb).1, oset_ne (f2 b hb).2, oset_ne (f2 b hb).1]
  · simp only [List.mem_cons, List.mem_append] at hb
    rcases hb with rfl | rfl | hb | hb
    · exact dn _ hp
    · exact dn _ hk
    · exact h1 b hb
    · cases q : Ω b with
      | none => rfl
      | some u => have := k1 b (by rw [q]; simp); rw [h2 b hb, q] at this; cases this
  · have e1 : b ≠ p := fun e => by have := up b hb; rw [e, hp] at this; rw [e] at hb; exact hb this.symm
    have e2 : b ≠ kk := fun e => by have := up b hb; rw [e, hk] at this; rw [e] at hb; exact hb this.symm
    rw [oset_ne e1, oset_ne e2, oset_ne e1, up b hb]
theorem open_step (T : Txt K mg C) {j M : Nat} (hj : 4 ≤ j) {Fp : AF} (c_self : Clb P w K mg base ca j "opened" Fp) (hF : ∀ (tr : Tr) (k : Nat) Ω Q E, k < M → tr.good k → Opn C tr Q Ω → Fp [tr.d] Ω Q E) : Clb P w K mg base ca (j + 1) "opened" (F_openG C M) := by
  refine clb T.d_opened sc_opened (fun ds Ω Q E h => ?_) (fun f cdv A outer s H E hr => ⟨_, _, (ass_cons (as_set 1 sc_opened.nd (ae_ix (ae_var 0) ae_int))
      (ass_cons (as_if (at_eqS (ae_var 1) ae_str) (ass_one (as_ret (ae_make (mk_Fraction T) hr (takes_of rfl rfl rfl rfl) (by omega) (aa_cons (ae_ix (ae_var 0) ae_int) (aa_cons (ae_ix (ae_var 0) ae_int) aa_nil))))) ass_nil)
      (ass_cons (as_if (at_eqS (ae_var 1) ae_str) (ass_one (as_ret (ae_call (c_root_of T) hr (takes_of rfl rfl rfl rfl) (by omega) (aa_cons (ae_ix (ae_var 0) ae_int) (aa_cons (ae_ix (ae_var 0) ae_int) (aa_cons (ae_ix (ae_var 0) ae_int) aa_nil)))))) ass_nil)
      (ass_cons (as_if (at_eqS (ae_var 1) ae_str) (ass_one (as_ret (ae_make (mk_Ruled T) hr (takes_of rfl rfl rfl rfl) (by omega) (aa_cons (ae_ix (ae_var 0) ae_int) (aa_cons (ae_ix (ae_var 0) ae_int) (aa_cons (ae_ix (ae_var 0) ae_int) aa_nil)))))) ass_nil)
      (ass_cons (as_if (at_eqS (ae_var 1) ae_str) (ass_one (as_ret (ae_make (mk_Four T) hr (takes_of rfl rfl rfl rfl) (by omega) (aa_cons (ae_ix (ae_var 0) ae_int) (aa_cons (ae_call c_self hr (takes_of rfl rfl rfl rfl) (by omega) (aa_cons (ae_ix (ae_var 0) ae_int) aa_nil)) (aa_cons ae_bl (aa_cons ae_bl aa_nil))))))) ass_nil)
      (ass_cons (as_if (at_eqS (ae_var 1) ae_str) (ass_one (as_ret (ae_make (mk_Eight T) hr (takes_of rfl rfl rfl rfl) (by omega) (aa_cons (ae_ix (ae_var 0) ae_int) (aa_cons (ae_call c_self hr (takes_of rfl rfl rfl rfl) (by omega) (aa_cons (ae_ix (ae_var 0) ae_int) aa_nil)) (aa_cons (ae_call c_self hr (takes_of rfl rfl rfl rfl) (by omega) (aa_cons (ae_ix (ae_var 0) ae_int) aa_nil)) aa_nil)))))) ass_nil)
      (ass_cons (as_set 2 sc_opened.nd (ae_call c_self hr (takes_of rfl rfl rfl rfl) (by omega) (aa_cons (ae_ix (ae_var 0) ae_int) aa_nil)))
      (ass_cons (as_forR1 (passes_of rfl) rfl rfl T.b_range (ae_sub (ae_ix (ae_var 0) ae_int) ae_int) (ag_name (i := 3) sc_opened.nd rfl (Or.inl rfl)) (ass_one (as_set 2 sc_opened.nd (ae_make (mk_Eight T) hr (takes_of rfl rfl rfl rfl) (by omega) (aa_cons (ae_globT rfl T.t_TIMES) (aa_cons (ae_call c_self hr (takes_of rfl rfl rfl rfl) (by omega) (aa_cons (ae_ix (ae_var 0) ae_int) aa_nil)) (aa_cons (ae_var 2) aa_nil)))))))
      (ass_one (as_ret (ae_var 2))))))))))), fun ds Ω Qa Ea h => ?_⟩)
  · obtain ⟨_, _, rfl, _⟩ := h
    rfl
  · obtain ⟨tr, kk, rfl, hk, hg, k⟩ := h
    have fr : ∀ {b p : Addr} {Ω' : Om}, b ∈ [p] → Ω' p = none → Ω' b = none := fun hb h => by rw [List.mem_singleton.mp hb]; exact h
    cases kk with
    | zero => cases tr <;> exact hg.elim
    | succ kk =>
    cases tr with
    | frac t b =>
      simp only [Tr.d]
      walk_at "pl"
      refine fun p hp => ⟨p, t, b, rfl, oset_same, rfl, ?_⟩
      exact k _ p _ [p] .frac (.frac oset_same) (fun b hb => fr hb hp) (new_stand hp)
    | root t s b =>
      obtain ⟨h1, h2, h3, h4, h5⟩ := hg
      simp only [Tr.d]
      walk_at "pl"
      rw [if_neg (by decide)]
      exact ⟨t, s, b, rfl, h1, h2, h3, h4, h5, fun r p Ω' q1 q2 q3 q4 => k r p Ω' [p] q1 q2 (fun b hb => fr hb q3) q4⟩
    | ruled ps ring steps =>
      simp only [Tr.d]
      walk_at "pl"
      rw [if_neg (by decide), if_neg (by decide)]
      refine fun p hp => ⟨p, ps, ring, steps, rfl, oset_same, rfl, ?_⟩
      exact k _ p _ [p] .ruled (.ruled oset_same) (fun b hb => fr hb hp) (new_stand hp)
    | four a b c d x =>
      obtain ⟨_, _, _, _, _, hx⟩ := hg
      simp only [Tr.d, dtup]
      walk_at "pl"
      rw [if_neg (by decide), if_neg (by decide), if_neg (by decide)]
      refine hF x kk _ _ _ (by omega) hx fun r z Ω1 S o1 h1 h2 h3 => ?_
      intro p hp
      have hpS : ∀ b ∈ S, b ≠ p := fun b hb e => h1.there b hb (by rw [e]; exact hp)
      refine ⟨p, z, _, false, false, rfl, oset_same, rfl, ?_⟩
      rw [oset_oset]
      refine k _ p _ (p :: S) (.four o1) (.four oset_same (h1.keep fun b hb => oset_ne (hpS b hb)) fun z => hpS p z rfl) (fun b hb => ?_) fun b hb => ?_
      · rcases List.mem_cons.mp hb with rfl | hb
        · cases q : Ω b with
          | none => rfl
          | some u => have := h3 b (by rw [q]; simp); rw [hp, q] at this; cases this
        · exact h2 b hb
      · rw [oset_ne (fun e => hb (by rw [e]; cases q : Ω p with
          | none => rfl
          | some u => have := h3 p (by rw [q]; simp); rw [hp, q] at this; cases this)), h3 b hb]
    | eight a b c d e f g h x y =>
      obtain ⟨_, _, hx, hy⟩ := hg
      simp only [Tr.d, dtup]
      walk_at "pl"
      rw [if_neg (by decide), if_neg (by decide), if_neg (by decide), if_neg (by decide)]
      refine hF x kk _ _ _ (by omega) hx fun r z Ω1 S o1 h1 h2 h3 => ?_
      refine hF y kk _ _ _ (by omega) hy fun r2 z2 Ω2 S2 o2 g1 g2 g3 => ?_
      refine fun p hp => ⟨p, z, z2, _, rfl, oset_same, fun q hq hk2 => ⟨rfl, ?_⟩⟩
      obtain ⟨S3, k1, k2, k3⟩ := rd_eight (a := a) (b := b) (c := c) (d := d) (e := e) (f := f) (g := g) (h := h) (o := .obj C.c_Eight []) h1 h2 h3 g1 g2 g3 hp (by rw [oset_ne hq] at hk2; exact hk2) hq
      exact k _ p _ S3 (.eight o1 o2) k1 k2 k3
    | power x n =>
      obtain ⟨n1, n4, hx⟩ := hg
      simp only [Tr.d, dtup]
      walk_at "pl"
      rw [if_neg (by decide), if_neg (by decide), if_neg (by decide), if_neg (by decide), if_neg (by decide)]
      refine hF x kk _ _ _ (by omega) hx fun r z Ω1 S o1 h1 h2 h3 => ?_
      refine ⟨by omega, by omega, ?_⟩
      have e0 : rngD 0 (n - 1).toNat = rngD ((0 : Nat) : Int) (n - 1).toNat := rfl
      rw [e0]
      refine forL_ind (P_open C (.tup [.str "power", x.d, .int n]) (.str "power") (n - 1).toNat r Ω) ⟨0, _, z, S, none, rfl, by omega, h1, h2, h3, rfl⟩ ?_ ?_
      · rintro ρ Ω2 ⟨i, l, p, S, z, e, hi, q1, q2, q3, rfl⟩
        have := rng_nil e
        have : i = (n - 1).toNat := by omega
        subst this
        walk_at "pl"
        exact k _ p _ S (.power o1) q1 q2 q3
      · rintro u us ρ Ω2 De e1 ih _ _ ⟨i, l, p, S2, zz, e, hi, q1, q2, q3, rfl⟩
        obtain ⟨l', rfl, rfl, rfl⟩ := rng_step e
        walk_at "pl"
        refine hF x kk _ _ _ (by omega) hx fun r2 z2 Ω3 S3 o2 g1 g2 g3 => ?_
        rw [Opened.unique o2 o1] at g1
        refine fun pn hp => ⟨pn, z2, p, _, rfl, oset_same, fun q hq hk2 => ⟨rfl, ?_⟩⟩
        have hx3 : RdO C Ω3 p (pows r i) S2 := q1.keep fun b hb => g3 b (q1.there b hb)
        have dn : ∀ b, Ω3 b = none → Ω b = none := fun b hb => by
          cases q : Ω b with
          | none => rfl
          | some u => have := q3 b (by rw [q]; simp); have h5 := g3 b (by rw [this, q]; simp); rw [hb, this, q] at h5; cases h5
        have hk3 : Ω3 q = none := by rw [oset_ne hq] at hk2; exact hk2
        have f3 : ∀ b ∈ S3, b ≠ pn ∧ b ≠ q := fun b hb => ⟨fun e => g1.there b hb (by rw [e]; exact hp), fun e => g1.there b hb (by rw [e]; exact hk3)⟩
        have f2 : ∀ b ∈ S2, b ≠ pn ∧ b ≠ q := fun b hb => ⟨fun e => hx3.there b hb (by rw [e]; exact hp), fun e => hx3.there b hb (by rw [e]; exact hk3)⟩
        refine ih _ _ ⟨i + 1, l', pn, pn :: q :: (S3 ++ S2), some (.int i), by rw [Int.natCast_add]; rfl, by omega, .eight (x := r) (y := pows r i) oset_same ((oset_ne hq).trans oset_same) (g1.keep fun b hb => ?_) (hx3.keep fun b hb => ?_) (Ne.symm hq) (fun z => (f3 pn z).1 rfl) (fun z => (f2 pn z).1 rfl) (fun z => (f3 q z).2 rfl) (fun z => (f2 q z).2 rfl) (fun b hb hb2 => q1.there b hb2 (g2 b hb)), fun b hb => ?_, fun b hb => ?_, rfl⟩
        · rw [oset_ne (f3 b hb).1, oset_ne (f3 b hb).2, oset_ne (f3 b hb).1]
        · rw [oset_ne (f2 b hb).1, oset_ne (f2 b hb).2, oset_ne (f2 b hb).1]
        · simp only [List.mem_cons, List.mem_append] at hb
          rcases hb with rfl | rfl | hb | hb
          · exact dn _ hp
          · exact dn _ hk3
          · cases qq : Ω b with
            | none => rfl
            | some u => have := q3 b (by rw [qq]; simp); rw [g2 b hb, qq] at this; cases this
          · exact q2 b hb
        · have e2 : Ω3 b = Ω b := by rw [g3 b (by rw [q3 b hb]; exact hb), q3 b hb]
          have n1 : b ≠ pn := fun e => by rw [e, hp] at e2; rw [e] at hb; exact hb e2.symm
          have n2 : b ≠ q := fun e => by rw [e, hk3] at e2; rw [e] at hb; exact hb e2.symm
          rw [oset_ne n1, oset_ne n2, oset_ne n1, e2]
theorem c_opened (T : Txt K mg C) : ∀ M : Nat, Clb P w K mg base ca (M + 5) "opened" (F_openG C M)
  | 0 => open_step T (Nat.le_refl 4) (clb_none T.d_opened 4) (fun _ _ _ _ _ h => by omega)
  | M + 1 => open_step T (by omega) (c_opened T M) (fun x k Ω Q E h g o => ⟨x, k, rfl, by omega, g, o⟩)
theorem c_need_tree_5 (T : Txt K mg C) : Clb P w K mg base ca 10 "need_tree" (F_needT C 5) := c_need_tree T 5
theorem c_opened_5 (T : Txt K mg C) : Clb P w K mg base ca 10 "opened" (F_openG C 5) := c_opened T 5
/-- reader of a tree, good or not -/
def F_reader (C : CT) : AF := fun ds Ω Q E => (∃ tr : Tr, ds = [tr.d] ∧ tr.good 5 ∧ Opn C tr Q Ω) ∨ ∃ x : Rw, ds = [x.d] ∧ x.ok 5 = false ∧ E (.ref C.c_BadTree) Ω
theorem c_readerG (T : Txt K mg C) : Clb P w K mg base ca 11 "reader" (F_reader C) := by
  refine clb T.d_reader sc_reader (fun ds Ω Q E h => ?_) (fun f cdv A outer s H E hr => ⟨_, _, (ass_cons (as_expr (ae_call (c_need_tree_5 T) hr (takes_of rfl rfl rfl rfl) (by omega) (aa_cons (ae_var 0) (aa_cons (ae_globE rfl T.g_DEEPEST) aa_nil))))
      (ass_one (as_ret (ae_call (c_opened_5 T) hr (takes_of rfl rfl rfl rfl) (by omega) (aa_cons (ae_var 0) aa_nil))))), fun ds Ω Qa Ea h => ?_⟩)
  · rcases h with ⟨_, rfl, _⟩ | ⟨_, rfl, _⟩ <;> rfl
  · rcases h with ⟨tr, rfl, hg, k⟩ | ⟨x, rfl, hx, k⟩
    · walk_at "pl"
      refine ⟨tr.raw, 5, by rw [tr.raw_d]; rfl, Nat.le_refl 5, ?_⟩
      rw [tr.raw_ok 5 hg]
      exact ⟨tr, 5, rfl, Nat.le_refl 5, hg, k⟩
    · walk_at "pl"
      refine ⟨x, 5, rfl, Nat.le_refl 5, ?_⟩
      rw [hx]
      exact k
def F_row : AF := fun ds Ω Q _ => ∃ ns : List Int, ds = [.lst (ns.map D.int)] ∧ ∀ p, Ω p = none → Q (.o p) (oset Ω p .row)
theorem row_loop {Wa : AW} {Da : AEnds} {Ω : Om} {d0 : D} {b : ATS} : ∀ (ns : List Int) (m : Int) (z : Option D),
    (∀ (m v : Int) (z : Option D) (De : AEnds), De.nx [some d0, some (.int ((m * 48271 + v + 11).fmod 2147483647)), some (.int v)] Ω → b Wa De [some d0, some (.int m), some (.int v)] Ω) →
    (∀ m z, Da.nx [some d0, some (.int m), z] Ω) → forL (agName 2) b (ns.map D.int) Wa Da [some d0, some (.int m), z] Ω
  | [], m, z, _, k => k m z
  | n :: ns, m, z, hb, k => hb m n z _ (row_loop ns _ _ hb k)
theorem c_law_row (T : Txt K mg C) : Clb P w K mg base ca 1 "_law_row" F_row := by
  refine clb T.d_law_row sc__law_row (fun ds Ω Q E h => ?_) (fun f cdv A outer s H E hr => ⟨_, _, (ass_cons (as_set 1 sc__law_row.nd ae_int)
      (ass_cons (as_for (passes_of rfl) rfl (ae_var 0) (ag_name (i := 2) sc__law_row.nd rfl (Or.inl rfl)) (ass_one (as_set 1 sc__law_row.nd (ae_mod (ae_add (ae_add (ae_mul (ae_var 1) ae_int) (ae_var 2)) ae_int) ae_int))))
      (ass_one (as_ret (ae_asRow (ae_lstO (aa_cons (ae_var 0) (aa_cons ae_int (aa_cons ae_int (aa_cons (ae_var 1) aa_nil)))))))))), fun ds Ω Qa Ea h => ?_⟩)
  · obtain ⟨n, rfl, _⟩ := h
    rfl
  · obtain ⟨ns, rfl, k⟩ := h
    walk_at "pl"
    refine row_loop ns 7 none (fun m v z De q => ?_) (fun m z => ?_)
    · walk_at "pl"
      exact ⟨mulok_r (by decide) (by decide), by decide, q⟩
    · walk_at "pl"
      exact ⟨by decide, fun p hp => ⟨ns, 0, 0, m, rfl, by decide, by omega, by decide, k p hp⟩⟩
def F_taken : AF := fun ds Ω Q _ => ∃ (a : Addr) (many : Int), ds = [.o a, .int many] ∧ Ω a = some .row ∧ 0 < many ∧ many < 2 ^ 250 ∧ ∀ n : Int, 0 ≤ n → n < many → Q (.int n) Ω
def F_taken1 : AF := fun ds Ω Q _ => ∃ (a : Addr) (many : Int) (ns : List Int) (i c m : Int), ds = [.o a, .int many] ∧ Ω a = some (.lst (rowD ns i c m)) ∧ 0 ≤ i ∧ i ≤ ns.length ∧ 0 ≤ c ∧ 0 < many ∧ many < 2 ^ 250 ∧
  ∀ n i' c' m' : Int, 0 ≤ n → n < many → 0 ≤ i' → i' ≤ ns.length → 0 ≤ c' → Q (.int n) (oset Ω a (.lst (rowD ns i' c' m')))
theorem taken_imp : ∀ vs H Q E, spA K ca F_taken vs H Q E → spA K ca F_taken1 vs H Q E := by
  rintro vs H Q E ⟨G, own, Ω, ds, Qa, Ea, r, dv, ⟨a, many, rfl, ho, h0, h1, k⟩, k1, k2⟩
  obtain ⟨ns, i, c, m, i0, i1, c0, r'⟩ := r.ofRow ho
  refine ⟨G, own, _, _, fun d Ω' => ∃ n i' c' m' : Int, 0 ≤ n ∧ n < many ∧ 0 ≤ i' ∧ i' ≤ ns.length ∧ 0 ≤ c' ∧ d = .int n ∧ Ω' = oset Ω a (.lst (rowD ns i' c' m')), fun _ _ => False, r', dv,
    ⟨a, many, ns, i, c, m, rfl, oset_same, i0, i1, c0, h0, h1, fun n i' c' m' n0 n1 i0 i1 c0 => ⟨n, i', c', m', n0, n1, i0, i1, c0, rfl, oset_oset⟩⟩, ?_, fun _ _ _ _ _ _ _ z => z.elim⟩
  rintro v H' G' own' d Ω' e r2 dv2 ⟨n, i', c', m', n0, n1, i0, i1, c0, rfl, rfl⟩
  have r3 := r2.toRow oset_same i0 i1 c0
  rw [oset_oset] at r3
  have e2 : oset Ω a .row = Ω := by
    funext b
    unfold oset
    by_cases hb : b = a
    · rw [if_pos hb, hb, ho]
    · rw [if_neg hb]
  rw [e2] at r3
  exact k1 _ _ _ _ _ _ e r3 dv2 (k n n0 n1)
theorem c_law_taken (T : Txt K mg C) : Clb P w K mg base ca 1 "_law_taken" F_taken := by
  refine Clb.imp (F := F_taken1) ?_ taken_imp
  refine clb T.d_law_taken sc__law_taken (fun ds Ω Q E h => ?_) (fun f cdv A outer s H E hr => ⟨_, _, (ass_cons (as_if (at_gt (ae_ix (ae_var 0) ae_int) ae_int) (ass_cons (as_set 2 sc__law_taken.nd (ae_mod (ae_ix (ae_var 0) ae_int) (ae_var 1)))
      (ass_cons (as_setIx (ae_fdv (div_of hr) (ae_ix (ae_var 0) ae_int) (ae_var 1)) (ae_var 0) ae_int)
      (ass_one (as_ret (ae_var 2))))) ass_nil)
      (ass_cons (as_if (at_lt (ae_ix (ae_var 0) ae_int) (ae_len rfl T.b_len (ae_ix (ae_var 0) ae_int))) (ass_cons (as_set 3 sc__law_taken.nd (ae_ix (ae_ix (ae_var 0) ae_int) (ae_ix (ae_var 0) ae_int)))
      (ass_cons (as_setIx (ae_add (ae_ix (ae_var 0) ae_int) ae_int) (ae_var 0) ae_int)
      (ass_cons (as_if (at_ge (ae_var 3) (ae_powB ae_int ae_int)) (ass_one (as_setIx (ae_fdv (div_of hr) (ae_var 3) (ae_var 1)) (ae_var 0) ae_int)) ass_nil)
      (ass_one (as_ret (ae_mod (ae_var 3) (ae_var 1))))))) ass_nil)
      (ass_cons (as_setIx (ae_mod (ae_add (ae_mul (ae_ix (ae_var 0) ae_int) ae_int) ae_int) ae_int) (ae_var 0) ae_int)
      (ass_one (as_ret (ae_mod (ae_fdv (div_of hr) (ae_ix (ae_var 0) ae_int) ae_int) (ae_var 1))))))), fun ds Ω Qa Ea h => ?_⟩)
  · obtain ⟨_, _, _, _, _, _, rfl, _⟩ := h
    rfl
  · obtain ⟨a, many, ns, i, c, m, rfl, ho, i0, i1, c0, h0, h1, k⟩ := h
    unfold rowD at ho k
    walk_at "pl"
    simp only [ho, seq_o ho]
    walk_at "pl"
    have hm : many ≠ 0 := by omega
    have hp : ∀ x : Int, NoPy x many := fun x => nopy hm (by omega)
    have hf : ∀ x : Int, 0 ≤ x.fmod many ∧ x.fmod many < many := fun x => by
      rw [Int.fmod_eq_emod_of_nonneg _ (by omega)]
      exact ⟨Int.emod_nonneg _ hm, Int.emod_lt_of_pos _ h0⟩
    refine ite2 (fun e => ⟨hm, hp _, k _ _ _ _ (hf _).1 (hf _).2 i0 i1 ?_⟩) (fun e => ite2 (fun e2 => ?_) (fun e2 => ⟨mulok_r (by decide) (by decide), by decide, nopy (by decide) (by decide), hm, k _ _ _ _ (hf _).1 (hf _).2 i0 i1 c0⟩))
    · rw [Int.fdiv_eq_ediv_of_nonneg _ (by omega)]
      exact Int.ediv_nonneg c0 (by omega)
    · rw [List.length_map] at e2
      obtain ⟨v, hv, ev⟩ := atI_int i0 e2
      rw [ev]
      walk_at "pl"
      refine ⟨⟨by decide, by decide⟩, ite2 (fun e3 => ⟨hp _, hm, k _ _ _ _ (hf _).1 (hf _).2 (by omega) (by omega) ?_⟩) (fun e3 => ⟨hm, k _ _ _ _ (hf _).1 (hf _).2 (by omega) (by omega) c0⟩)⟩
      rw [Int.fdiv_eq_ediv_of_nonneg _ (by omega)]
      refine Int.ediv_nonneg ?_ (by omega)
      have : (0 : Int) ≤ 10 ^ Int.toNat 18 := by decide
      omega
def F_whole : AF := fun ds Ω Q _ => ∃ i : Int, ds = [.int i] ∧ Q (.bl true) Ω
theorem c_law_whole (T : Txt K mg C) : Clb P w K mg base ca 1 "_law_whole" F_whole := by
  refine clb T.d_law_whole sc__law_whole (fun ds Ω Q E h => ?_) (fun f cdv A outer s H E hr => ⟨_, _, (ass_one (as_ret (ae_and (ae_isi rfl T.b_isinstance rfl T.b_int boot_ty_int (ae_var 0)) (ae_one (ae_notV (ae_isi rfl T.b_isinstance rfl T.b_bool boot_ty_bool (ae_var 0))))))), fun ds Ω Qa Ea h => ?_⟩)
  · obtain ⟨_, rfl, _⟩ := h
    rfl
  · obtain ⟨i, rfl, k⟩ := h
    walk_at "pl"
    exact k
def F_signed : AF := fun ds Ω Q _ => ∃ (a : Addr) (m : Int), ds = [.o a, .int m] ∧ Ω a = some .row ∧ 0 ≤ m ∧ m < 2 ^ 240 ∧ ∀ n : Int, -m ≤ n → n ≤ m → Q (.int n) Ω
theorem c_law_signed (T : Txt K mg C) : Clb P w K mg base ca 2 "_law_signed" F_signed := by
  refine clb T.d_law_signed sc__law_signed (fun ds Ω Q E h => ?_) (fun f cdv A outer s H E hr => ⟨_, _, (ass_one (as_ret (ae_sub (ae_call (c_law_taken T) hr (takes_of rfl rfl rfl rfl) (by omega) (aa_cons (ae_var 0) (aa_cons (ae_add (ae_mul ae_int (ae_var 1)) ae_int) aa_nil))) (ae_var 1)))), fun ds Ω Qa Ea h => ?_⟩)
  · obtain ⟨_, _, rfl, _⟩ := h
    rfl
  · obtain ⟨a, m, rfl, ho, m0, m1, k⟩ := h
    walk_at "pl"
    refine ⟨mulok_l (by decide) (by decide), a, 2 * m + 1, rfl, ho, by omega, by omega, fun n n0 n1 => ?_⟩
    walk_at "pl"
    exact k _ (by omega) (by omega)
def F_common : AF := fun ds Ω Q _ => ∃ x y : Int, ds = [.int x, .int y] ∧ Q (.int (Int.gcd x y : Nat)) Ω
def F_lowest : AF := fun ds Ω Q _ => ∃ t b : Int, ds = [.int t, .int b] ∧ b ≠ 0 ∧ b.natAbs < 2 ^ 7900 ∧ Q (.tup [.int (lowF t b).1, .int (lowF t b).2]) Ω
def I_common (x0 y0 : Int) (Ω : Om) : Nat → En → Om → Prop := fun m ρ Ω' => ∃ x y : Int, ρ = [some (.int x), some (.int y)] ∧ Ω' = Ω ∧ Int.gcd x y = Int.gcd x0 y0 ∧ m = y.natAbs
theorem c_law_common (T : Txt K mg C) : Clb P w K mg base ca 1 "_law_common" F_common := by
  refine clb T.d_law_common sc__law_common (fun ds Ω Q E h => ?_) (fun f cdv A outer s H E hr => ⟨_, _, (ass_cons (as_while (passes_of rfl) (at_neI (ae_var 1) ae_int) (ass_one (as_par 0 1 rfl sc__law_common.nd (ae_var 1) (ae_mod (ae_var 0) (ae_var 1)))))
      (ass_one (as_ret (ae_abs rfl T.b_abs (ae_var 0))))), fun ds Ω Qa Ea h => ?_⟩)
  · obtain ⟨_, _, rfl, _⟩ := h
    rfl
  · obtain ⟨x0, y0, rfl, k⟩ := h
    walk_at "pl"
    refine ⟨I_common x0 y0 Ω, ⟨_, x0, y0, rfl, rfl, rfl, rfl⟩, ?_⟩
    rintro m ρ Ω' ⟨x, y, rfl, rfl, hg, rfl⟩
    walk_at "pl"
    simp only [Bool.not_eq_true', decide_eq_false_iff_not]
    refine ite2 (fun e => ⟨e, _, fmod_lt e, _, _, rfl, rfl, ?_, rfl⟩) (fun e => ?_)
    · rw [gcd_step]; exact hg
    · have : y = 0 := Decidable.not_not.mp e
      subst this
      have e : (if x < 0 then -x else x) = ((Int.gcd x0 y0 : Nat) : Int) := by
        rw [← hg, Int.gcd_zero_right]
        split <;> omega
      rw [e]
      exact k
theorem c_law_lowest (T : Txt K mg C) : Clb P w K mg base ca 2 "_law_lowest" F_lowest := by
  refine clb T.d_law_lowest sc__law_lowest (fun ds Ω Q E h => ?_) (fun f cdv A outer s H E hr => ⟨_, _, (ass_cons (as_set 2 sc__law_lowest.nd (ae_call (c_law_common T) hr (takes_of rfl rfl rfl rfl) (by omega) (aa_cons (ae_var 0) (aa_cons (ae_var 1) aa_nil))))
      (ass_cons (as_if (at_lt (ae_var 1) ae_int) (ass_one (as_set 2 sc__law_lowest.nd (ae_sub ae_int (ae_var 2)))) ass_nil)
      (ass_one (as_ret (ae_tup (aa_cons (ae_fdv (div_of hr) (ae_var 0) (ae_var 2)) (aa_cons (ae_fdv (div_of hr) (ae_var 1) (ae_var 2)) aa_nil))))))), fun ds Ω Qa Ea h => ?_⟩)
  · obtain ⟨_, _, rfl, _⟩ := h
    rfl
  · obtain ⟨t, b, rfl, hb, h1, k⟩ := h
    walk_at "pl"
    refine ⟨t, b, rfl, ?_⟩
    have g0 : 0 < Int.gcd t b := Int.gcd_pos_of_ne_zero_right _ hb
    have g1 : Int.gcd t b ≤ b.natAbs := Nat.le_of_dvd (by omega) (Int.gcd_dvd_natAbs_right ..)
    have hp : ∀ (x : Int) (g : Int), g.natAbs = Int.gcd t b → NoPy x g := fun x g e => nopy (by omega) (Nat.lt_of_le_of_lt (by omega) (Nat.lt_trans h1 (Nat.pow_lt_pow_right (by decide) (by decide))))
    unfold lowF at k
    walk_at "pl"
    refine ite2 (fun e => ?_) (fun e => ?_)
    · rw [if_pos e] at k
      walk_at "pl"
      exact ⟨hp _ _ (by omega), hp _ _ (by omega), by decide, k⟩
    · rw [if_neg e] at k
      exact ⟨hp _ _ (by omega), hp _ _ (by omega), by decide, k⟩
theorem atI_nat {ds : List D} {i : Int} {n : Nat} (h : i = n) : atI ds i = ds[n]? := by rw [h, atI_eq]
def Fits (ps : List Int) : Prop := ∃ B, (∀ p ∈ ps, p.natAbs < 2 ^ B) ∧ (B + 1) * ps.length ≤ 7000
def F_folded : AF := fun ds Ω Q _ => ∃ ps : List Int, ds = [.lst (ps.map D.int)] ∧ Fits ps ∧ (cfold ps).2 ≠ 0 ∧ Q (.tup [.int (lowF (cfold ps).1 (cfold ps).2).1, .int (lowF (cfold ps).1 (cfold ps).2).2]) Ω
theorem fits_tail {ps l r : List Int} (h : Fits ps) (e : ps = l ++ r) : Fits r := by
  obtain ⟨B, h1, h2⟩ := h
  refine ⟨B, fun p hp => h1 p (by rw [e]; exact List.mem_append_right _ hp), Nat.le_trans (Nat.mul_le_mul_left _ ?_) h2⟩
  rw [e, List.length_append]; omega
theorem fits_bound {ps : List Int} (h : Fits ps) : (cfold ps).1.natAbs < 2 ^ 7100 ∧ (cfold ps).2.natAbs < 2 ^ 7100 := by
  obtain ⟨B, h1, h2⟩ := h
  have h3 := cfold_bound ps h1
  have h4 : 2 ^ ((B + 1) * ps.length + 1) ≤ 2 ^ 7100 := Nat.pow_le_pow_right (by decide) (by omega)
  omega
theorem fits_part {ps : List Int} (h : Fits ps) {p : Int} (hp : p ∈ ps) : p.natAbs < 2 ^ 7100 := by
  obtain ⟨B, h1, h2⟩ := h
  have h3 := h1 p hp
  have h5 : 1 ≤ ps.length := by cases ps with | nil => cases hp | cons _ _ => simp
  have h6 : (B + 1) * 1 ≤ (B + 1) * ps.length := Nat.mul_le_mul_left _ h5
  have h4 : 2 ^ B ≤ 2 ^ 7100 := Nat.pow_le_pow_right (by decide) (by omega)
  omega
def P_fold (ps : List Int) (Ω : Om) : List D → En → Om → Prop := fun us ρ Ω' => ∃ (n : Nat) (l r : List Int) (z1 z2 : Option D), us = rngD n l.length ∧ n = r.length ∧ ps = l ++ r ∧ Ω' = Ω ∧ ρ = [some (.lst (ps.map D.int)), some (.int (cfold r).1), some (.int (cfold r).2), z1, z2]
theorem c_law_folded (T : Txt K mg C) : Clb P w K mg base ca 3 "_law_folded" F_folded := by
  refine clb T.d_law_folded sc__law_folded (fun ds Ω Q E h => ?_) (fun f cdv A outer s H E hr => ⟨_, _, (ass_cons (as_set 1 sc__law_folded.nd ae_int)
      (ass_cons (as_set 2 sc__law_folded.nd ae_int)
      (ass_cons (as_forR1 (passes_of rfl) rfl rfl T.b_range (ae_len rfl T.b_len (ae_var 0)) (ag_name (i := 3) sc__law_folded.nd rfl (Or.inl rfl)) (ass_cons (as_set 4 sc__law_folded.nd (ae_ix (ae_var 0) (ae_sub (ae_sub (ae_len rfl T.b_len (ae_var 0)) ae_int) (ae_var 3))))
      (ass_one (as_par 1 2 rfl sc__law_folded.nd (ae_add (ae_mul (ae_var 4) (ae_var 1)) (ae_var 2)) (ae_var 1)))))
      (ass_one (as_ret (ae_call (c_law_lowest T) hr (takes_of rfl rfl rfl rfl) (by omega) (aa_cons (ae_var 1) (aa_cons (ae_var 2) aa_nil)))))))), fun ds Ω Qa Ea h => ?_⟩)
  · obtain ⟨_, rfl, _⟩ := h
    rfl
  · obtain ⟨ps, rfl, hf, hb, k⟩ := h
    walk_at "pl"
    have hlen : ps.length ≤ 7000 := by
      obtain ⟨B, h1, h2⟩ := hf
      have h6 : 1 * ps.length ≤ (B + 1) * ps.length := Nat.mul_le_mul_right _ (by omega)
      omega
    refine ⟨by rw [List.length_map]; omega, by rw [List.length_map]; omega, ?_⟩
    refine forL_ind (P_fold ps Ω) ⟨0, ps, [], none, none, by rw [List.length_map]; rfl, rfl, by rw [List.append_nil], rfl, rfl⟩ ?_ ?_
    · rintro ρ Ω' ⟨n, l, r, z1, z2, e, hn, hp, rfl, rfl⟩
      have e1 : l = [] := by
        have := congrArg List.length e
        rw [rngD_length] at this
        exact List.eq_nil_of_length_eq_zero this.symm
      subst e1
      simp only [List.nil_append] at hp
      subst hp
      walk_at "pl"
      exact ⟨_, _, rfl, hb, Nat.lt_trans (fits_bound hf).2 (Nat.pow_lt_pow_right (by decide) (by decide)), k⟩
    · rintro x us ρ Ω' De _ ih _ _ ⟨n, l, r, z1, z2, e, hn, hp, rfl, rfl⟩
      rcases List.eq_nil_or_concat l with rfl | ⟨l', a, rfl⟩
      · cases e
      · rw [List.concat_eq_append, List.length_append, List.length_singleton, rngD_succ] at e
        simp only [List.cons.injEq] at e
        obtain ⟨rfl, e⟩ := e
        have hp' : ps = l' ++ (a :: r) := by rw [hp, List.concat_eq_append, List.append_assoc]; rfl
        walk_at "pl"
        have hat : atI (ps.map D.int) ((ps.length : Int) - 1 - (n : Int)) = some (.int a) := by
          have hl : ps.length = l'.length + (r.length + 1) := by rw [hp', List.length_append, List.length_cons]
          rw [atI_nat (n := l'.length) (by omega), List.getElem?_map, hp', List.getElem?_append_right (Nat.le_refl _), Nat.sub_self]
          rfl
        rw [List.length_map, hat]
        walk_at "pl"
        refine ⟨mulok (a := 7100) (b := 7100) (fits_part hf (by rw [hp']; simp)) (fits_bound (fits_tail hf hp)).1 (by decide), ih _ _ ⟨n + 1, l', a :: r, some (.int n), some (.int a), e, by rw [List.length_cons]; omega, hp', rfl, rfl⟩⟩
theorem compL_intsX {g : AG} {c : ATT} {re : ATE} {vs : List Nat} {Wa : AW} {ρ : En} {Q : AQ} (Px : D → Prop) (Pn : Int → Prop) (I : Om → Prop)
    (step : ∀ (x : D) (Ω' : Om) (R : AQ) (Z : Om → Prop), Px x → I Ω' → (∀ n Ω'', Pn n → I Ω'' → R (.int n) Ω'') → g x (wipeA ρ vs) Ω' fun ρ1 Ω1 => c Wa ρ1 Ω1 fun k Ω2 => if k = true then re Wa ρ1 Ω2 R else Z Ω2) :
    ∀ (xs : List D) (acc : List Int) (Ω : Om), I Ω → (∀ x ∈ xs, Px x) → acc.length + xs.length ≤ 100000 → (∀ n ∈ acc, Pn n) → (∀ (ns : List Int) (Ω' : Om), ns.length = acc.length + xs.length → (∀ n ∈ ns, Pn n) → I Ω' → Q (.lst (ns.map D.int)) Ω') → compL g c re vs xs (acc.map D.int) Wa ρ Ω Q
  | [], acc, Ω, i, _, _, ha, k => k acc Ω (by simp) ha i
  | x :: xs, acc, Ω, i, hx, hl, ha, k => step x Ω _ _ (hx x List.mem_cons_self) i fun n Ω' hn i' => ⟨by rw [List.length_map]; rw [List.length_cons] at hl; exact small1000' (by omega), by
    have e : acc.map D.int ++ [.int n] = (acc ++ [n]).map D.int := by rw [List.map_append]; rfl
    rw [e]
    refine compL_intsX Px Pn I step xs (acc ++ [n]) Ω' i' (fun y hy => hx y (List.mem_cons_of_mem _ hy)) (by rw [List.length_append, List.length_singleton]; rw [List.length_cons] at hl; omega) (fun m hm => ?_) (fun ns Ω'' hn' hp i'' => k ns Ω'' (by rw [hn', List.length_append, List.length_singleton, List.length_cons]; omega) hp i'')
    rcases List.mem_append.mp hm with h | h
    · exact ha m h
    · rw [List.mem_singleton.mp h]; exact hn⟩
def tD (p : T3) : D := .tup [.int p.1, .int p.2.1, .int p.2.2]
def otD : Option T3 → D
  | none => .non
  | some p => tD p
def F_lawRoot : AF := fun ds Ω Q _ => ∃ n : Int, ds = [.int n] ∧ 0 ≤ n ∧ n.natAbs < 2 ^ 430000 ∧ Q (.int (isq n)) Ω
theorem nopy2 {x : Int} : NoPy x 2 := by unfold NoPy; decide
theorem c_law_root (T : Txt K mg C) : Clb P w K mg base ca 1 "_law_root" F_lawRoot := by
  refine clb T.d_law_root sc__law_root (fun ds Ω Q E h => ?_) (fun f cdv A outer s H E hr => ⟨_, _, (ass_cons (as_set 1 sc__law_root.nd ae_int)
      (ass_cons (as_set 2 sc__law_root.nd (ae_shl1 ae_int (ae_add (ae_fdv (div_of hr) (ae_bits (ae_var 0)) ae_int) ae_int)))
      (ass_cons (as_while (passes_of rfl) (at_gt (ae_sub (ae_var 2) (ae_var 1)) ae_int) (ass_cons (as_set 3 sc__law_root.nd (ae_fdv (div_of hr) (ae_add (ae_var 1) (ae_var 2)) ae_int))
      (ass_one (as_if (at_le (ae_mul (ae_var 3) (ae_var 3)) (ae_var 0)) (ass_one (as_set 1 sc__law_root.nd (ae_var 3))) (ass_one (as_set 2 sc__law_root.nd (ae_var 3)))))))
      (ass_one (as_ret (ae_var 1)))))), fun ds Ω Qa Ea h => ?_⟩)
  · obtain ⟨n, rfl, _⟩ := h
    rfl
  · obtain ⟨n, rfl, h0, h1, k⟩ := h
    walk_at "pl"
    have hbits := bits_le h1
    obtain ⟨e, he⟩ : ∃ e : Nat, e = Builtin.Int.intBits n / 2 + 1 := ⟨_, rfl⟩
    refine ⟨nopy2, e, by rw [Int.fdiv_eq_ediv_of_nonneg _ (by decide)]; omega, by omega, ?_⟩
    have hx : n < (2 ^ e : Int) * 2 ^ e := by
      have a1 := lt_bits (n := n)
      have a2 : 2 ^ Builtin.Int.intBits n ≤ 2 ^ (e + e) := Nat.pow_le_pow_right (by decide) (by omega)
      rw [Nat.pow_add] at a2
      have a3 : ((2 ^ e : Nat) : Int) = (2 : Int) ^ e := by simp
      rw [← a3]
      generalize (2 : Nat) ^ e = x at *
      have a4 : n.natAbs < x * x := Nat.lt_of_lt_of_le a1 a2
      have a5 : n < ((x * x : Nat) : Int) := by omega
      rwa [Int.natCast_mul] at a5
    have hpos : 0 < (2 ^ e : Int) := Int.pow_pos (by decide)
    obtain ⟨X, hX⟩ : ∃ X : Nat, X = 2 ^ 215002 := ⟨_, rfl⟩
    have hbig : (2 ^ e : Int) ≤ X := by
      rw [hX]
      exact Int.ofNat_le.mpr (Nat.pow_le_pow_right (by decide) (by omega) : 2 ^ e ≤ 2 ^ 215002)
    have h2 : ∀ u : Int, u.natAbs < X → IntMulOk u u := fun u h => by
      rw [hX] at h
      exact mulok h h (by decide)
    clear hX
    clear h1
    refine ⟨fun m ρ Ω' => ∃ (lo hi : Int) (z : Option D), ρ = [some (.int n), some (.int lo), some (.int hi), z] ∧ Ω' = Ω ∧ 0 ≤ lo ∧ lo * lo ≤ n ∧ n < hi * hi ∧ lo < hi ∧ hi ≤ X ∧ m = (hi - lo).toNat, ⟨_, 0, 2 ^ e, none, rfl, rfl, by decide, by omega, hx, hpos, hbig, rfl⟩, ?_⟩
    rintro m ρ Ω' ⟨lo, hi, z, rfl, rfl, l0, l1, l2, l3, l4, rfl⟩
    walk_at "pl"
    refine ite2 (fun g => ?_) (fun g => ?_)
    · have q5 : (lo + hi).fdiv 2 = (lo + hi) / 2 := Int.fdiv_eq_ediv_of_nonneg _ (by decide)
      rw [q5]
      obtain ⟨u, hu⟩ : ∃ u : Int, u = (lo + hi) / 2 := ⟨_, rfl⟩
      rw [← hu]
      have u1 : lo < u := by omega
      have u2 : u < hi := by omega
      refine ⟨nopy2, h2 u (by omega), ite2 (fun w => ?_) (fun w => ?_)⟩
      · exact ⟨(hi - u).toNat, by omega, by omega, w, l2, u2, l4, rfl⟩
      · exact ⟨(u - lo).toNat, by omega, l0, l1, by omega, u1, by omega, rfl⟩
    · have : hi = lo + 1 := by omega
      subst this
      rw [isq_uniq l0 l1 l2] at k
      exact k
def F_made : AF := fun ds Ω Q _ => ∃ x y z : Int, ds = [.int x, .int y, .int z] ∧ z ≠ 0 ∧ Q (tD (madeT x y z)) Ω
theorem c_law_made (T : Txt K mg C) : Clb P w K mg base ca 2 "_law_made" F_made := by
  refine clb T.d_law_made sc__law_made (fun ds Ω Q E h => ?_) (fun f cdv A outer s H E hr => ⟨_, _, (ass_cons (as_set 3 sc__law_made.nd (ae_call (c_law_common T) hr (takes_of rfl rfl rfl rfl) (by omega) (aa_cons (ae_call (c_law_common T) hr (takes_of rfl rfl rfl rfl) (by omega) (aa_cons (ae_var 0) (aa_cons (ae_var 1) aa_nil))) (aa_cons (ae_var 2) aa_nil))))
      (ass_cons (as_if (at_lt (ae_var 2) ae_int) (ass_one (as_set 3 sc__law_made.nd (ae_sub ae_int (ae_var 3)))) ass_nil)
      (ass_one (as_ret (ae_tup (aa_cons (ae_fdv (div_of hr) (ae_var 0) (ae_var 3)) (aa_cons (ae_fdv (div_of hr) (ae_var 1) (ae_var 3)) (aa_cons (ae_fdv (div_of hr) (ae_var 2) (ae_var 3)) aa_nil)))))))), fun ds Ω Qa Ea h => ?_⟩)
  · obtain ⟨_, _, _, rfl, _⟩ := h
    rfl
  · obtain ⟨x, y, z, rfl, hz, k⟩ := h
    have g0 : 0 < gcd3 x y z := Int.gcd_pos_of_ne_zero_right _ hz
    unfold madeT tD at k
    unfold gcd3 at k g0
    walk_at "pl"
    refine ⟨x, y, rfl, _, z, rfl, ite2 (fun e => ?_) (fun e => ?_)⟩
    · rw [if_pos e] at k
      have hp : ∀ u : Int, NoPy u (0 - ((Int.gcd ((Int.gcd x y : Nat) : Int) z : Nat) : Int)) := fun u => by unfold NoPy; omega
      exact ⟨_, rfl, hp _, hp _, hp _, by decide, k⟩
    · rw [if_neg e] at k
      have hp : ∀ u : Int, NoPy u ((Int.gcd ((Int.gcd x y : Nat) : Int) z : Nat) : Int) := fun u => by unfold NoPy; omega
      exact ⟨_, rfl, hp _, _, rfl, hp _, _, rfl, hp _, by decide, k⟩
theorem abs_le_mul' {g s : Int} (h0 : 0 ≤ g) (h : g * g ≤ s) : g ≤ s := by
  rcases Int.lt_or_le s g with w | w
  · rcases Int.lt_or_le g 1 with z | z
    · have : g = 0 := by omega
      subst this
      simpa using h
    · have : g * 1 ≤ g * g := Int.mul_le_mul_of_nonneg_left z h0
      omega
  · exact w
abbrev H2 (p : T3) : Prop := Ht 200000 p
theorem ml9 {i j : Int} (a b : Nat) (hi : i.natAbs < 2 ^ a) (hj : j.natAbs < 2 ^ b) (h : a + b ≤ 900000) : IntMulOk i j := mulok hi hj h
theorem nmul {i j : Int} {a b : Nat} (hi : i.natAbs < 2 ^ a) (hj : j.natAbs < 2 ^ b) : (i * j).natAbs < 2 ^ (a + b) := by
  rw [Int.natAbs_mul, Nat.pow_add]
  exact Nat.mul_lt_mul_of_lt_of_le hi (Nat.le_of_lt hj) (Nat.pow_pos (by decide))
theorem nadd {i j : Int} {a : Nat} (hi : i.natAbs < 2 ^ a) (hj : j.natAbs < 2 ^ a) : (i + j).natAbs < 2 ^ (a + 1) := by
  rw [Nat.pow_succ]; omega
theorem nsub {i j : Int} {a : Nat} (hi : i.natAbs < 2 ^ a) (hj : j.natAbs < 2 ^ a) : (i - j).natAbs < 2 ^ (a + 1) := by
  rw [Nat.pow_succ]; omega
theorem nup {i : Int} {a : Nat} (b : Nat) (hi : i.natAbs < 2 ^ a) (h : a ≤ b) : i.natAbs < 2 ^ b := Nat.lt_of_lt_of_le hi (Nat.pow_le_pow_right (by decide) h)
def F_sum : AF := fun ds Ω Q _ => ∃ (p q : T3) (k : Int), ds = [tD p, tD q, .int k] ∧ Ht 200000 p ∧ Ht 200000 q ∧ k.natAbs < 2 ^ 1000 ∧ p.2.2 ≠ 0 ∧ q.2.2 ≠ 0 ∧ Q (tD (sumT p q k)) Ω
theorem c_law_sum (T : Txt K mg C) : Clb P w K mg base ca 3 "_law_sum" F_sum := by
  refine clb T.d_law_sum sc__law_sum (fun ds Ω Q E h => ?_) (fun f cdv A outer s H E hr => ⟨_, _, (ass_cons (as_set 3 sc__law_sum.nd (ae_add (ae_mul (ae_ix (ae_var 0) ae_int) (ae_ix (ae_var 1) ae_int)) (ae_mul (ae_mul (ae_var 2) (ae_ix (ae_var 1) ae_int)) (ae_ix (ae_var 0) ae_int))))
      (ass_one (as_ret (ae_call (c_law_made T) hr (takes_of rfl rfl rfl rfl) (by omega) (aa_cons (ae_var 3) (aa_cons (ae_add (ae_mul (ae_ix (ae_var 0) ae_int) (ae_ix (ae_var 1) ae_int)) (ae_mul (ae_mul (ae_var 2) (ae_ix (ae_var 1) ae_int)) (ae_ix (ae_var 0) ae_int))) (aa_cons (ae_mul (ae_ix (ae_var 0) ae_int) (ae_ix (ae_var 1) ae_int)) aa_nil))))))), fun ds Ω Qa Ea h => ?_⟩)
  · obtain ⟨_, _, _, rfl, _⟩ := h
    rfl
  · obtain ⟨⟨a, b, c⟩, ⟨a', b', c'⟩, j, rfl, ⟨h1, h2, h3⟩, ⟨g1, g2, g3⟩, hj, hc, hc', k⟩ := h
    simp only at h1 h2 h3 g1 g2 g3 hc hc'
    unfold tD
    unfold sumT at k
    walk_at "pl"
    refine ⟨ml9 _ _ h1 g3 (by decide), ml9 _ _ hj g1 (by decide), ml9 _ _ (nmul hj g1) h3 (by decide), ml9 _ _ h2 g3 (by decide), ml9 _ _ hj g2 (by decide), ml9 _ _ (nmul hj g2) h3 (by decide), ml9 _ _ h3 g3 (by decide), _, _, _, rfl, Int.mul_ne_zero hc hc', k⟩
def F_prod : AF := fun ds Ω Q _ => ∃ (p q : T3) (d : Int), ds = [tD p, tD q, .int d] ∧ Ht 200000 p ∧ Ht 430000 q ∧ d.natAbs < 2 ^ 1000 ∧ p.2.2 ≠ 0 ∧ q.2.2 ≠ 0 ∧ Q (tD (prodT p q d)) Ω
theorem c_law_product (T : Txt K mg C) : Clb P w K mg base ca 3 "_law_product" F_prod := by
  refine clb T.d_law_product sc__law_product (fun ds Ω Q E h => ?_) (fun f cdv A outer s H E hr => ⟨_, _, (ass_cons (as_set 3 sc__law_product.nd (ae_add (ae_mul (ae_ix (ae_var 0) ae_int) (ae_ix (ae_var 1) ae_int)) (ae_mul (ae_mul (ae_var 2) (ae_ix (ae_var 0) ae_int)) (ae_ix (ae_var 1) ae_int))))
      (ass_one (as_ret (ae_call (c_law_made T) hr (takes_of rfl rfl rfl rfl) (by omega) (aa_cons (ae_var 3) (aa_cons (ae_add (ae_mul (ae_ix (ae_var 0) ae_int) (ae_ix (ae_var 1) ae_int)) (ae_mul (ae_ix (ae_var 0) ae_int) (ae_ix (ae_var 1) ae_int))) (aa_cons (ae_mul (ae_ix (ae_var 0) ae_int) (ae_ix (ae_var 1) ae_int)) aa_nil))))))), fun ds Ω Qa Ea h => ?_⟩)
  · obtain ⟨_, _, _, rfl, _⟩ := h
    rfl
  · obtain ⟨⟨a, b, c⟩, ⟨a', b', c'⟩, j, rfl, ⟨h1, h2, h3⟩, ⟨g1, g2, g3⟩, hj, hc, hc', k⟩ := h
    simp only at h1 h2 h3 g1 g2 g3 hc hc'
    unfold tD
    unfold prodT at k
    walk_at "pl"
    refine ⟨ml9 _ _ h1 g1 (by decide), ml9 _ _ hj h2 (by decide), ml9 _ _ (nmul hj h2) g2 (by decide), ml9 _ _ h1 g2 (by decide), ml9 _ _ h2 g1 (by decide), ml9 _ _ h3 g3 (by decide), _, _, _, rfl, Int.mul_ne_zero hc hc', k⟩
def F_quot : AF := fun ds Ω Q _ => ∃ (p q : T3) (d : Int), ds = [tD p, tD q, .int d] ∧ Ht 200000 p ∧ Ht 210000 q ∧ d.natAbs < 2 ^ 1000 ∧ p.2.2 ≠ 0 ∧ q.2.2 ≠ 0 ∧ Sz d q ∧ Q (otD (quotT p q d)) Ω
theorem madeT_ht {x y z : Int} {B : Nat} (hz : z ≠ 0) (h1 : x.natAbs < 2 ^ B) (h2 : y.natAbs < 2 ^ B) (h3 : z.natAbs < 2 ^ B) : Ht B (madeT x y z) := by
  obtain ⟨P, N⟩ := madeT_px (x := x) (y := y) hz
  obtain ⟨l1, l2, l3⟩ := P.le N
  exact ⟨Nat.lt_of_le_of_lt l1 h1, Nat.lt_of_le_of_lt l2 h2, Nat.lt_of_le_of_lt l3 h3⟩
theorem c_law_quotient (T : Txt K mg C) : Clb P w K mg base ca 4 "_law_quotient" F_quot := by
  refine clb T.d_law_quotient sc__law_quotient (fun ds Ω Q E h => ?_) (fun f cdv A outer s H E hr => ⟨_, _, (ass_cons (as_if (AWt.at_ (aw_and (at_eqI (ae_ix (ae_var 1) ae_int) ae_int) (aw_and1 (at_eqI (ae_ix (ae_var 1) ae_int) ae_int)))) (ass_one (as_ret ae_non)) ass_nil)
      (ass_cons (as_set 3 sc__law_quotient.nd (ae_sub (ae_mul (ae_ix (ae_var 1) ae_int) (ae_ix (ae_var 1) ae_int)) (ae_mul (ae_mul (ae_var 2) (ae_ix (ae_var 1) ae_int)) (ae_ix (ae_var 1) ae_int))))
      (ass_one (as_ret (ae_call (c_law_product T) hr (takes_of rfl rfl rfl rfl) (by omega) (aa_cons (ae_var 0) (aa_cons (ae_call (c_law_made T) hr (takes_of rfl rfl rfl rfl) (by omega) (aa_cons (ae_mul (ae_ix (ae_var 1) ae_int) (ae_ix (ae_var 1) ae_int)) (aa_cons (ae_sub ae_int (ae_mul (ae_ix (ae_var 1) ae_int) (ae_ix (ae_var 1) ae_int))) (aa_cons (ae_var 3) aa_nil)))) (aa_cons (ae_var 2) aa_nil)))))))), fun ds Ω Qa Ea h => ?_⟩)
  · obtain ⟨_, _, _, rfl, _⟩ := h
    rfl
  · obtain ⟨p, ⟨a, b, c⟩, j, rfl, hp, ⟨g1, g2, g3⟩, hj, hc, hc', hs, k⟩ := h
    unfold Sz at hs
    simp only at g1 g2 g3 hc' hs
    unfold quotT at k
    have e0 : tD (a, b, c) = .tup [.int a, .int b, .int c] := rfl
    rw [e0]
    walk_at "pl"
    simp only at k
    by_cases h : a = 0 ∧ b = 0
    · rw [if_pos h] at k
      rw [if_pos h.1, if_pos h.2]
      exact k
    · rw [if_neg h] at k
      have hsz : a * a - j * b * b ≠ 0 := by
        rcases hs with z | z
        · exact absurd z h
        · exact z
      have rest : ∀ {A B : Prop}, (¬ (a = 0 ∧ b = 0) → B) → (if a = 0 then (if b = 0 then A else B) else B) := fun f => by
        by_cases u : a = 0
        · by_cases v : b = 0
          · exact absurd ⟨u, v⟩ h
          · rw [if_pos u, if_neg v]; exact f h
        · rw [if_neg u]; exact f h
      have u1 : (c * a).natAbs < 2 ^ 430000 := nup _ (nmul g3 g1) (by decide)
      have u2 : (0 - c * b).natAbs < 2 ^ 430000 := by
        have := nup 430000 (nmul g3 g2) (by decide)
        rw [Int.zero_sub, Int.natAbs_neg]
        exact this
      have u3 : (a * a - j * b * b).natAbs < 2 ^ 430000 := nup _ (nsub (a := 421000) (nup _ (nmul g1 g1) (by decide)) (nup _ (nmul (nmul hj g2) g2) (by decide))) (by decide)
      have hm := madeT_ht hsz u1 u2 u3
      exact rest fun _ => ⟨ml9 _ _ g1 g1 (by decide), ml9 _ _ hj g2 (by decide), ml9 _ _ (nmul hj g2) g2 (by decide), ml9 _ _ g3 g1 (by decide), ml9 _ _ g3 g2 (by decide), _, _, _, rfl, hsz, p, _, j, rfl, hp, hm, hj, hc, Int.ne_of_gt (madeT_px (x := c * a) (y := 0 - c * b) hsz).2.pos, k⟩
def F_below1 : AF := fun ds Ω Q _ => ∃ (p : T3) (d : Int), ds = [tD p, .int d] ∧ Ht 200000 p ∧ d.natAbs < 2 ^ 1000 ∧ 0 ≤ d ∧ p.2.2 ≠ 0 ∧ Q (.int (belowT p d)) Ω
theorem c_law_below (T : Txt K mg C) : Clb P w K mg base ca 2 "_law_below" F_below1 := by
  refine clb T.d_law_below sc__law_below (fun ds Ω Q E h => ?_) (fun f cdv A outer s H E hr => ⟨_, _, (ass_cons (as_set 2 sc__law_below.nd (ae_mul (ae_mul (ae_ix (ae_var 0) ae_int) (ae_ix (ae_var 0) ae_int)) (ae_var 1)))
      (ass_cons (as_set 3 sc__law_below.nd (ae_call (c_law_root T) hr (takes_of rfl rfl rfl rfl) (by omega) (aa_cons (ae_var 2) aa_nil)))
      (ass_cons (as_if (at_lt (ae_ix (ae_var 0) ae_int) ae_int) (ass_one (as_set 3 sc__law_below.nd (ae_sub (ae_sub ae_int (ae_var 3)) (ae_intB rfl T.b_int (ae_lt (ae_mul (ae_var 3) (ae_var 3)) (ae_var 2)))))) ass_nil)
      (ass_one (as_ret (ae_fdv (div_of hr) (ae_add (ae_ix (ae_var 0) ae_int) (ae_var 3)) (ae_ix (ae_var 0) ae_int))))))), fun ds Ω Qa Ea h => ?_⟩)
  · obtain ⟨_, _, rfl, _⟩ := h
    rfl
  · obtain ⟨⟨a, b, c⟩, j, rfl, ⟨g1, g2, g3⟩, hj, hj0, hc, k⟩ := h
    simp only at g1 g2 g3 hc
    unfold belowT rootT at k
    simp only at k
    unfold tD
    walk_at "pl"
    have hS : 0 ≤ b * b * j := Int.mul_nonneg (sqNN b) hj0
    have hS2 : (b * b * j).natAbs < 2 ^ 430000 := nup _ (nmul (nmul g2 g2) hj) (by decide)
    refine ⟨ml9 _ _ g2 g2 (by decide), ml9 _ _ (nmul g2 g2) hj (by decide), _, rfl, hS, hS2, ?_⟩
    have hi : (isq (b * b * j)).natAbs < 2 ^ 430000 := by
      obtain ⟨q0, q1, _⟩ := isq_spec hS
      refine Nat.lt_of_le_of_lt ?_ hS2
      have := abs_le_mul' q0 q1
      generalize b * b * j = u at *
      omega
    dsimp only
    refine ite2 (fun e => ?_) (fun e => ?_)
    · rw [if_pos e] at k
      exact ⟨_, rfl, _, rfl, _, rfl, ml9 _ _ hi hi (by decide), hc, k⟩
    · rw [if_neg e] at k
      exact ⟨_, rfl, hc, k⟩
def F_parts : AF := fun ds Ω Q _ => ∃ (o : Option T3) (d : Int) (n : Nat), ds = [otD o, .int d, .int n] ∧ d.natAbs < 2 ^ 1000 ∧ 0 ≤ d ∧ n ≤ 10000 ∧ PB 100000 d n o ∧ Q (.lst ((partsT d n o).map D.int)) Ω
def I_parts (o0 : Option T3) (d : Int) (n : Nat) (p : Addr) (Ω : Om) : Nat → En → Om → Prop := fun l ρ Ω' => ∃ (o : Option T3) (acc : List Int) (z : Option D), PB 100000 d l o ∧ acc.length + l = n ∧ acc ++ partsT d l o = partsT d n o0 ∧ Ω' = oset Ω p (.lst (acc.map D.int)) ∧ ρ = [some (otD o), some (.int d), some (.int n), some (.o p), z]
theorem c_law_parts (T : Txt K mg C) : Clb P w K mg base ca 5 "_law_parts" F_parts := by
  refine clb T.d_law_parts sc__law_parts (fun ds Ω Q E h => ?_) (fun f cdv A outer s H E hr => ⟨_, _, (ass_cons (as_set 3 sc__law_parts.nd (ae_lstO aa_nil))
      (ass_cons (as_while (passes_of rfl) (AWt.at_ (aw_and (at_notN (ae_var 0)) (aw_and1 (at_lt (ae_len rfl T.b_len (ae_var 3)) (ae_var 2))))) (ass_cons (as_set 4 sc__law_parts.nd (ae_call (c_law_below T) hr (takes_of rfl rfl rfl rfl) (by omega) (aa_cons (ae_var 0) (aa_cons (ae_var 1) aa_nil))))
      (ass_cons (as_expr (ae_app (ae_var 3) (ae_var 4)))
      (ass_one (as_set 0 sc__law_parts.nd (ae_call (c_law_quotient T) hr (takes_of rfl rfl rfl rfl) (by omega) (aa_cons (ae_tup (aa_cons ae_int (aa_cons ae_int (aa_cons ae_int aa_nil)))) (aa_cons (ae_call (c_law_sum T) hr (takes_of rfl rfl rfl rfl) (by omega) (aa_cons (ae_var 0) (aa_cons (ae_tup (aa_cons (ae_var 4) (aa_cons ae_int (aa_cons ae_int aa_nil)))) (aa_cons (ae_neg ae_int) aa_nil)))) (aa_cons (ae_var 1) aa_nil)))))))))
      (ass_one (as_ret (ae_take 3))))), fun ds Ω Qa Ea h => ?_⟩)
  · obtain ⟨_, _, _, rfl, _⟩ := h
    rfl
  · obtain ⟨o, d, n, rfl, hd, hd0, hn, hP, k⟩ := h
    walk_at "pl"
    refine ⟨by decide, fun p hp => ?_⟩
    refine ⟨I_parts o d n p Ω, ⟨n, o, [], none, hP, by simp, rfl, rfl, rfl⟩, ?_⟩
    rintro l ρ Ω' ⟨o', acc, z, hP', hl, hacc, rfl, rfl⟩
    walk_at "pl"
    rw [List.length_map]
    cases o' with
    | none =>
      rw [if_neg (by simp [otD, D.isNon])]
      have e : partsT d l none = [] := by cases l <;> rfl
      rw [e, List.append_nil] at hacc
      rw [hacc, odel_oset, odel_none hp]
      exact k
    | some q =>
      rw [if_pos (show (!(otD (some q)).isNon) = true from rfl)]
      refine ite2 (fun g => ?_) (fun g => ?_)
      · obtain ⟨l', rfl⟩ : ∃ l', l = l' + 1 := ⟨l - 1, by omega⟩
        obtain ⟨ht, hq, hpos, hsz, hP2⟩ := hP'
        have ht2 : Ht 200000 q := ⟨nup _ ht.1 (by decide), nup _ ht.2.1 (by decide), nup _ ht.2.2 (by decide)⟩
        have hqt : Ht 200000 (belowT q d, 0, 1) := ⟨nup _ hq (by decide), Nat.pow_pos (by decide), Nat.one_lt_two_pow (by decide)⟩
        have hs2 : Ht 210000 (sumT q (belowT q d, 0, 1) (-1)) := by
          unfold sumT
          have one : (1 : Int).natAbs < 2 ^ 1 := by decide
          have mone : (-1 : Int).natAbs < 2 ^ 1 := by decide
          have zer : (0 : Int).natAbs < 2 ^ 1 := by decide
          refine madeT_ht (by simp only [Int.mul_one]; omega) ?_ ?_ ?_
          · exact nup _ (nadd (a := 200002) (nup _ (nmul ht.1 one) (by decide)) (nup _ (nmul (nmul mone hq) ht.2.2) (by decide))) (by decide)
          · exact nup _ (nadd (a := 200002) (nup _ (nmul ht.2.1 one) (by decide)) (nup _ (nmul (nmul mone zer) ht.2.2) (by decide))) (by decide)
          · exact nup _ (nmul ht.2.2 one) (by decide)
        have hs3 : (sumT q (belowT q d, 0, 1) (-1)).2.2 ≠ 0 := by
          unfold sumT
          exact Int.ne_of_gt (madeT_px (by simp only [Int.mul_one]; omega)).2.pos
        refine ⟨q, d, rfl, ht2, hd, hd0, by omega, ⟨_, _, rfl, oset_same⟩, _, oset_same, by rw [List.length_map]; exact small1000' (by omega), by decide, by decide, ?_⟩
        refine ⟨q, (belowT q d, 0, 1), -1, rfl, ht2, hqt, Nat.one_lt_two_pow (by decide), by omega, (show (1 : Int) ≠ 0 by decide), ?_⟩
        refine ⟨(1, 0, 1), _, d, rfl, ⟨Nat.one_lt_two_pow (by decide), Nat.pow_pos (by decide), Nat.one_lt_two_pow (by decide)⟩, hs2, hd, by decide, hs3, hsz, ?_⟩
        refine ⟨l', Nat.lt_succ_self _, nextT q d, acc ++ [belowT q d], _, hP2, by rw [List.length_append, List.length_singleton]; omega, ?_, ?_, rfl⟩
        · rw [← hacc, List.append_assoc]; rfl
        · rw [oset_oset, List.map_append]; rfl
      · have : l = 0 := by omega
        subst this
        have e : partsT d 0 (some q) = [] := rfl
        rw [e, List.append_nil] at hacc
        rw [hacc, odel_oset, odel_none hp]
        exact k
def F_mix : AF := fun ds Ω Q _ => ∃ (ns : List Int) (ps : List T3), ds = [.tup (ns.map D.int), .lst (ps.map tD)] ∧ ns.length = ps.length ∧ ps.length ≤ 100 ∧ MB (0, 0, 1) ns ps ∧ Q (tD (mixL (0, 0, 1) ns ps)) Ω
def P_mix (d0 d1 : D) (fin : T3) (Ω : Om) : List D → En → Om → Prop := fun us ρ Ω' => ∃ (acc : T3) (ns : List Int) (ps : List T3) (z1 z2 : Option D), us = pairD (ns.map D.int) (ps.map tD) ∧ ns.length = ps.length ∧ MB acc ns ps ∧ mixL acc ns ps = fin ∧ Ω' = Ω ∧ ρ = [some d0, some d1, some (tD acc), z1, z2]
theorem c_law_mix (T : Txt K mg C) : Clb P w K mg base ca 4 "_law_mix" F_mix := by
  refine clb T.d_law_mix sc__law_mix (fun ds Ω Q E h => ?_) (fun f cdv A outer s H E hr => ⟨_, _, (ass_cons (as_set 2 sc__law_mix.nd (ae_tup (aa_cons ae_int (aa_cons ae_int (aa_cons ae_int aa_nil)))))
      (ass_cons (as_forZipM (passes_of rfl) rfl rfl T.b_zip (ae_var 0) (ae_var 1) (ag_tup (n := 2) rfl (ags_cons (i := 3) sc__law_mix.nd rfl (Or.inl rfl) (ags_cons (i := 4) sc__law_mix.nd rfl (Or.inl rfl) ags_nil))) (ass_one (as_set 2 sc__law_mix.nd (ae_call (c_law_sum T) hr (takes_of rfl rfl rfl rfl) (by omega) (aa_cons (ae_var 2) (aa_cons (ae_var 4) (aa_cons (ae_var 3) aa_nil)))))))
      (ass_one (as_ret (ae_var 2))))), fun ds Ω Qa Ea h => ?_⟩)
  · obtain ⟨_, _, rfl, _⟩ := h
    rfl
  · obtain ⟨ns, ps, rfl, hl, hl2, hm, k⟩ := h
    walk_at "pl"
    refine ⟨by decide, by rw [List.length_map, List.length_map]; exact hl, ?_⟩
    refine forL_ind (P_mix (.tup (ns.map D.int)) (.lst (ps.map tD)) (mixL (0, 0, 1) ns ps) Ω) ⟨(0, 0, 1), ns, ps, none, none, rfl, hl, hm, rfl, rfl, rfl⟩ ?_ ?_
    · rintro ρ Ω' ⟨acc, ns', ps', z1, z2, hu, hl', hm', hf, rfl, rfl⟩
      cases ns' with
      | nil =>
        walk_at "pl"
        cases ps' with
        | nil => rw [← hf] at k; exact k
        | cons _ _ => cases hl'
      | cons n ns' =>
        cases ps' with
        | nil => cases hl'
        | cons q ps' => cases hu
    · rintro x us ρ Ω' De e1 ih _ _ ⟨acc, ns', ps', z1, z2, hu, hl', hm', hf, rfl, rfl⟩
      cases ns' with
      | nil => cases hu
      | cons n ns' =>
        cases ps' with
        | nil => cases hl'
        | cons q ps' =>
          simp only [pairD, List.map_cons, List.zipWith_cons_cons, List.cons.injEq] at hu
          obtain ⟨rfl, rfl⟩ := hu
          obtain ⟨m1, m2, m3, m4, m5, m6⟩ := hm'
          walk_at "pl"
          exact ⟨acc, q, n, rfl, m1, m2, m3, m4, m5, ih _ _ ⟨_, ns', ps', _, _, rfl, by simpa using hl', m6, hf, rfl, rfl⟩⟩
def F_boxed : AF := fun ds Ω Q _ => ∃ (ns : List Int) (os : List (Option T3)) (d : Int), ds = [.tup (ns.map D.int), .lst (os.map otD), .int d] ∧ ns.length = 2 * os.length ∧ os.length ≤ 50 ∧ d.natAbs < 2 ^ 1000 ∧ (∀ ps, somes os = some ps → BoxOk d ns ps) ∧ Q (otD (boxL d ns os)) Ω
theorem py_ints3 (p : T3) : D.py (tD p) = some (.tuple [.int p.1, .int p.2.1, .int p.2.2]) := rfl
theorem somes_map : ∀ {os : List (Option T3)} {ps : List T3}, somes os = some ps → os.map otD = ps.map tD ∧ os.length = ps.length
  | [], ps, h => by cases h; exact ⟨rfl, rfl⟩
  | none :: _, ps, h => by cases h
  | some p :: r, ps, h => by
    simp only [somes, Option.map_eq_some_iff] at h
    obtain ⟨qs, h1, rfl⟩ := h
    obtain ⟨e1, e2⟩ := somes_map h1
    exact ⟨by rw [List.map_cons, List.map_cons, e1]; rfl, by rw [List.length_cons, List.length_cons, e2]⟩
/-- is None among values -/
theorem fIn_none {os : List (Option T3)} {Ω : Om} {Q : AQ} (k : Q (.bl (somes os).isNone) Ω) : fInD false .non (.lst (os.map otD)) Ω Q := by
  have key : ∀ os : List (Option T3), ∃ ps, D.pys (os.map otD) = some ps ∧ PyData.canLayAll0 ps = true ∧ PyData.depthAll ps ≤ 2 ∧ ((ps.any fun z => PyData.eqv z .none) = (somes os).isNone) := by
    intro os
    induction os with
    | nil => exact ⟨[], rfl, rfl, by simp [PyData.depthAll], rfl⟩
    | cons o r ih =>
      obtain ⟨ps, e1, e2, e3, e4⟩ := ih
      cases o with
      | none => exact ⟨.none :: ps, by simp only [List.map_cons, otD, D.pys, D.py, e1], by simp [PyData.canLayAll0, PyData.canLay0, e2], by simp [PyData.depthAll, PyData.depth]; omega, by simp [PyData.eqv, somes]⟩
      | some p =>
        refine ⟨.tuple [.int p.1, .int p.2.1, .int p.2.2] :: ps, by simp only [List.map_cons, otD, D.pys, py_ints3, e1], by simp [PyData.canLayAll0, PyData.canLay0, e2], by simp [PyData.depthAll, PyData.depth]; omega, ?_⟩
        simp only [List.any_cons, PyData.eqv, Bool.false_or, e4, somes]
        cases somes r <;> rfl
  obtain ⟨ps, e1, e2, e3, e4⟩ := key os
  refine ⟨_, _, ps, rfl, rfl, e1, rfl, ?_, ?_⟩
  · unfold SeqAt.shaped
    simp only [PyData.canLay0, e2, PyData.depth, Bool.true_and]
    exact decide_eq_true (by omega)
  · simp only [Bool.false_eq_true, if_false, e4]
    exact k
theorem cut_to' {xs : List D} (k : Nat) : cutD xs none (some (k : Int)) = xs.take k := by
  unfold cutD
  rw [HT.sIx_nat, HT.sIx_none, List.drop_zero, Nat.sub_zero]
  by_cases h : k ≤ xs.length
  · rw [Nat.min_eq_left h]
  · rw [Nat.min_eq_right (by omega), List.take_of_length_le (Nat.le_refl _), List.take_of_length_le (by omega)]
theorem c_law_boxed (T : Txt K mg C) : Clb P w K mg base ca 5 "_law_boxed" F_boxed := by
  refine clb T.d_law_boxed sc__law_boxed (fun ds Ω Q E h => ?_) (fun f cdv A outer s H E hr => ⟨_, _, (ass_cons (as_set 3 sc__law_boxed.nd (ae_len rfl T.b_len (ae_var 1)))
      (ass_cons (as_if (at_inD (u65 hr) ae_non (ae_var 1)) (ass_one (as_ret ae_non)) ass_nil)
      (ass_one (as_ret (ae_call (c_law_quotient T) hr (takes_of rfl rfl rfl rfl) (by omega) (aa_cons (ae_call (c_law_mix T) hr (takes_of rfl rfl rfl rfl) (by omega) (aa_cons (ae_sl (ae_var 0) ao_none (ao_some (ae_var 3))) (aa_cons (ae_var 1) aa_nil))) (aa_cons (ae_call (c_law_mix T) hr (takes_of rfl rfl rfl rfl) (by omega) (aa_cons (ae_sl (ae_var 0) (ao_some (ae_var 3)) ao_none) (aa_cons (ae_var 1) aa_nil))) (aa_cons (ae_var 2) aa_nil)))))))), fun ds Ω Qa Ea h => ?_⟩)
  · obtain ⟨_, _, _, rfl, _⟩ := h
    rfl
  · obtain ⟨ns, os, d, rfl, hl, hl2, hd, hB, k⟩ := h
    walk_at "pl"
    rw [List.length_map]
    refine fIn_none ⟨_, rfl, ?_⟩
    cases ho : somes os with
    | none =>
      rw [if_pos (show (none : Option (List T3)).isNone = true from rfl)]
      unfold boxL at k
      rw [ho] at k
      exact k
    | some ps =>
      rw [if_neg (show ¬ (some ps).isNone = true by simp)]
      obtain ⟨e1, e2⟩ := somes_map ho
      unfold boxL at k
      rw [ho] at k
      simp only at k
      have hb := hB ps ho
      rw [e2] at k hl ⊢
      obtain ⟨b1, b2, b3, b4, b5, b6, b7⟩ := hb
      rw [e1]
      rw [cut_to', cut_from, ← List.map_take, ← List.map_drop]
      refine ⟨_, ps, rfl, by rw [List.length_take]; omega, by omega, b1, _, ps, rfl, by rw [List.length_drop]; omega, by omega, b2, _, _, d, rfl, b3, b4.up (by decide), hd, b5, b6, b7, k⟩
def F_square : AF := fun ds Ω Q _ => ∃ p : Addr, ds = [.o p] ∧ Ω p = some .row ∧ ∀ d : Int, NSq d → d ≤ 402 → Q (.int d) Ω
theorem nsq_one {s f : Int} (h0 : 2 ≤ s) (hf : f * f = s) (f0 : 0 ≤ f) : NSq (s + 1) := by
  refine nsq_of f0 (by omega) ?_
  have : (f + 1) * (f + 1) = f * f + 2 * f + 1 := by grind
  have : f ≠ 0 := fun z => by rw [z] at hf; omega
  omega
theorem c_law_square (T : Txt K mg C) : Clb P w K mg base ca 2 "_law_square" F_square := by
  refine clb T.d_law_square sc__law_square (fun ds Ω Q E h => ?_) (fun f cdv A outer s H E hr => ⟨_, _, (ass_cons (as_set 1 sc__law_square.nd (ae_ix (ae_lst (aa_cons ae_int (aa_cons ae_int (aa_cons ae_int (aa_cons ae_int (aa_cons ae_int (aa_cons ae_int (aa_cons ae_int (aa_cons ae_int aa_nil))))))))) (ae_call (c_law_taken T) hr (takes_of rfl rfl rfl rfl) (by omega) (aa_cons (ae_var 0) (aa_cons ae_int aa_nil)))))
      (ass_cons (as_if (at_eqI (ae_call (c_law_taken T) hr (takes_of rfl rfl rfl rfl) (by omega) (aa_cons (ae_var 0) (aa_cons ae_int aa_nil))) ae_int) (ass_cons (as_set 1 sc__law_square.nd (ae_add ae_int (ae_call (c_law_taken T) hr (takes_of rfl rfl rfl rfl) (by omega) (aa_cons (ae_var 0) (aa_cons ae_int aa_nil)))))
      (ass_one (as_if (at_eqI (ae_mul (ae_call (c_law_root T) hr (takes_of rfl rfl rfl rfl) (by omega) (aa_cons (ae_var 1) aa_nil)) (ae_call (c_law_root T) hr (takes_of rfl rfl rfl rfl) (by omega) (aa_cons (ae_var 1) aa_nil))) (ae_var 1)) (ass_one (as_set 1 sc__law_square.nd (ae_add (ae_var 1) ae_int))) ass_nil))) ass_nil)
      (ass_one (as_ret (ae_var 1))))), fun ds Ω Qa Ea h => ?_⟩)
  · obtain ⟨_, rfl, _⟩ := h
    rfl
  · obtain ⟨p, rfl, ho, k⟩ := h
    walk_at "pl"
    refine ⟨by decide, p, 8, rfl, ho, by decide, by decide, fun i i0 i1 => ?_⟩
    obtain ⟨v, hv, ev⟩ := atI_int (ns := [2, 3, 5, 7, 6, 13, 19, 2]) i0 (by simpa using i1)
    simp only [List.map_cons, List.map_nil] at ev
    have hn : NSq v ∧ v ≤ 402 := by
      simp only [List.mem_cons, List.not_mem_nil, or_false] at hv
      rcases hv with rfl | rfl | rfl | rfl | rfl | rfl | rfl | rfl
      · exact ⟨nsq_of (f := 1) (by decide) (by decide) (by decide), by decide⟩
      · exact ⟨nsq_of (f := 1) (by decide) (by decide) (by decide), by decide⟩
      · exact ⟨nsq_of (f := 2) (by decide) (by decide) (by decide), by decide⟩
      · exact ⟨nsq_of (f := 2) (by decide) (by decide) (by decide), by decide⟩
      · exact ⟨nsq_of (f := 2) (by decide) (by decide) (by decide), by decide⟩
      · exact ⟨nsq_of (f := 3) (by decide) (by decide) (by decide), by decide⟩
      · exact ⟨nsq_of (f := 4) (by decide) (by decide) (by decide), by decide⟩
      · exact ⟨nsq_of (f := 1) (by decide) (by decide) (by decide), by decide⟩
    refine ⟨_, rfl, _, ev, p, 4, rfl, ho, by decide, by decide, fun j _ _ => ⟨_, rfl, ite2 (fun e => ?_) (fun e => k v hn.1 hn.2)⟩⟩
    refine ⟨p, 400, rfl, ho, by decide, by decide, fun x x0 x1 => ⟨_, rfl, ?_⟩⟩
    obtain ⟨s0, s1, s2⟩ := isq_spec (show 0 ≤ 2 + x by omega)
    have hsm : (2 + x).natAbs < 2 ^ 430000 := nup (a := 10) _ (by omega) (by decide)
    have hi := abs_le_mul' s0 s1
    refine ⟨_, rfl, by omega, hsm, _, rfl, by omega, hsm, _, rfl, _, rfl, mulok_l (by omega) (by omega), ite2 (fun e => ?_) (fun e => ?_)⟩
    · exact k _ (nsq_one (by omega) e s0) (by omega)
    · exact k _ (nsq_of s0 (by omega) s2) (by omega)
theorem last_cons' {n : Int} {ms : List Int} (h : ms ≠ []) : (n :: ms).getLast? = ms.getLast? := by
  cases ms with
  | nil => exact absurd rfl h
  | cons m r => rw [List.getLast?_cons_cons]
def F_lawLeaf : AF := fun ds Ω Q _ => ∃ (p : Addr) (d : Int), ds = [.o p, .int d] ∧ Ω p = some .row ∧ NSq d ∧ d ≤ 402 ∧ ∀ (tr : Tr) (q : T3) (Ω' : Om), TV d 0 tr (some q) → (∀ b, Ω b ≠ none → Ω' b = Ω b) → Q (.tup [tr.d, tD q]) Ω'
theorem c_law_leaf (T : Txt K mg C) : Clb P w K mg base ca 4 "_law_leaf" F_lawLeaf := by
  refine clb T.d_law_leaf sc__law_leaf (fun ds Ω Q E h => ?_) (fun f cdv A outer s H E hr => ⟨_, _, (ass_cons (as_set 2 sc__law_leaf.nd (ae_call (c_law_taken T) hr (takes_of rfl rfl rfl rfl) (by omega) (aa_cons (ae_var 0) (aa_cons ae_int aa_nil))))
      (ass_cons (as_if (at_eqI (ae_var 2) ae_int) (ass_cons (as_set 3 sc__law_leaf.nd (ae_call (c_law_signed T) hr (takes_of rfl rfl rfl rfl) (by omega) (aa_cons (ae_var 0) (aa_cons ae_int aa_nil))))
      (ass_cons (as_set 4 sc__law_leaf.nd (ae_call (c_law_signed T) hr (takes_of rfl rfl rfl rfl) (by omega) (aa_cons (ae_var 0) (aa_cons ae_int aa_nil))))
      (ass_cons (as_if (at_eqI (ae_var 4) ae_int) (ass_one (as_set 4 sc__law_leaf.nd ae_int)) ass_nil)
      (ass_one (as_ret (ae_tup (aa_cons (ae_tup (aa_cons ae_str (aa_cons (ae_var 3) (aa_cons (ae_var 4) aa_nil)))) (aa_cons (ae_call (c_law_made T) hr (takes_of rfl rfl rfl rfl) (by omega) (aa_cons (ae_var 3) (aa_cons ae_int (aa_cons (ae_var 4) aa_nil)))) aa_nil)))))))) ass_nil)
      (ass_cons (as_if (at_eqI (ae_var 2) ae_int) (ass_cons (as_set 3 sc__law_leaf.nd (ae_call (c_law_signed T) hr (takes_of rfl rfl rfl rfl) (by omega) (aa_cons (ae_var 0) (aa_cons ae_int aa_nil))))
      (ass_cons (as_set 5 sc__law_leaf.nd (ae_add ae_int (ae_call (c_law_taken T) hr (takes_of rfl rfl rfl rfl) (by omega) (aa_cons (ae_var 0) (aa_cons ae_int aa_nil)))))
      (ass_cons (as_set 4 sc__law_leaf.nd (ae_ix (ae_lst (aa_cons ae_int (aa_cons ae_int (aa_cons (ae_neg ae_int) (aa_cons ae_int (aa_cons (ae_neg ae_int) aa_nil)))))) (ae_call (c_law_taken T) hr (takes_of rfl rfl rfl rfl) (by omega) (aa_cons (ae_var 0) (aa_cons ae_int aa_nil)))))
      (ass_one (as_ret (ae_tup (aa_cons (ae_tup (aa_cons ae_str (aa_cons (ae_var 3) (aa_cons (ae_mul (ae_mul (ae_var 1) (ae_var 5)) (ae_var 5)) (aa_cons (ae_var 4) aa_nil))))) (aa_cons (ae_call (c_law_made T) hr (takes_of rfl rfl rfl rfl) (by omega) (aa_cons (ae_var 3) (aa_cons (ae_var 5) (aa_cons (ae_var 4) aa_nil)))) aa_nil)))))))) ass_nil)
      (ass_cut (as_set 6 sc__law_leaf.nd (ae_catO (ae_lst (aa_cons (ae_call (c_law_signed T) hr (takes_of rfl rfl rfl rfl) (by omega) (aa_cons (ae_var 0) (aa_cons ae_int aa_nil))) aa_nil)) (ae_lcR rfl sc__law_leaf.nd rfl T.b_range (ae_call (c_law_taken T) hr (takes_of rfl rfl rfl rfl) (by omega) (aa_cons (ae_var 0) (aa_cons ae_int aa_nil))) (show BlkOk ["_law_row_here", "_law_d", "_law_way", "_law_top", "_law_below_here", "_law_many", "_law_parts_here", "_law_told", "_law_k"] (defScope s__law_leaf) _ [("_law_k", 8)] from blkOk_by (by decide +kernel)) (wip_name (by decide)) (fun s1 H1 C1 cl1 fp1 => (ag_name (i := 8) sc__law_leaf.nd rfl (Or.inl rfl))) (fun s1 H1 C1 cl1 fp1 => AE.cast (ae_add ae_int (ae_call (c_law_taken T) hr takes0 (by omega) (aa_cons (ae_var 0) (aa_cons ae_int aa_nil)))) (by first | (dsimp only [Blk, Cx.blk]; done) | rfl)))))
      (ass_cut (as_if (AWt.at_ (aw_and (at_gt (ae_len rfl T.b_len (ae_var 6)) ae_int) (aw_and1 (at_eqI (ae_ix (ae_var 6) (ae_neg ae_int)) ae_int)))) (ass_one (as_setIx ae_int (ae_var 6) (ae_neg ae_int))) ass_nil)
      (ass_cons (as_frz 6 (as_set 7 sc__law_leaf.nd (ae_call (c_law_folded T) hr (takes_of rfl rfl rfl rfl) (by omega) (aa_cons (ae_var 6) aa_nil))))
      (ass_one (as_ret (ae_tup (aa_cons (ae_tup (aa_cons ae_str (aa_cons (ae_tuple rfl T.b_tuple (ae_var 6)) (aa_cons (ae_tup aa_nil) (aa_cons (ae_tup aa_nil) aa_nil))))) (aa_cons (ae_call (c_law_made T) hr (takes_of rfl rfl rfl rfl) (by omega) (aa_cons (ae_ix (ae_var 7) ae_int) (aa_cons ae_int (aa_cons (ae_ix (ae_var 7) ae_int) aa_nil)))) aa_nil))))))))))), fun ds Ω Qa Ea h => ?_⟩)
  · obtain ⟨_, _, rfl, _⟩ := h
    rfl
  · obtain ⟨p, d, rfl, ho, hd, hd2, k⟩ := h
    walk_at "pl"
    refine ⟨p, 3, rfl, ho, by decide, by decide, fun way w0 w1 => ⟨_, rfl, ite2 (fun e => ?_) (fun e => ⟨_, rfl, ite2 (fun e2 => ?_) (fun e2 => ?_)⟩)⟩⟩
    · refine ⟨p, 9, rfl, ho, by decide, by decide, fun t t0 t1 => ⟨p, 9, rfl, ho, by decide, by decide, fun b b0 b1 => ⟨_, rfl, ite2 (fun e => ?_) (fun e => ?_)⟩⟩⟩
      · exact ⟨by decide, t, 0, 5, rfl, by decide, by decide, k (.frac t 5) _ Ω (.frac (by decide) (by omega) (by decide)) fun b _ => rfl⟩
      · exact ⟨by decide, t, 0, b, rfl, e, by decide, k (.frac t b) _ Ω (.frac e (by omega) (by omega)) fun b _ => rfl⟩
    · refine ⟨p, 5, rfl, ho, by decide, by decide, fun t t0 t1 => ⟨p, 3, rfl, ho, by decide, by decide, fun m m0 m1 => ⟨_, rfl, by decide, p, 5, rfl, ho, by decide, by decide, fun j j0 j1 => ?_⟩⟩⟩
      obtain ⟨v, hv, ev⟩ := atI_int (ns := [1, 2, -1, 3, -2]) j0 (by simpa using j1)
      simp only [List.map_cons, List.map_nil] at ev
      have hv2 : v ≠ 0 ∧ v.natAbs ≤ 3 := by
        simp only [List.mem_cons, List.not_mem_nil, or_false] at hv
        omega
      have hd0 := hd.1
      refine ⟨_, rfl, _, ev, mulok_l (by omega) (by omega), mulok_r (by omega) (by omega), by decide, t, 1 + m, v, rfl, hv2.1, by decide, k (.root t (d * (1 + m) * (1 + m)) v) _ Ω (.root hv2.1 (by omega) (by omega) (by omega) hv2.2) fun b _ => rfl⟩
    · refine ⟨fun ρ Ω1 => ∃ (a : Addr) (n : Int) (ms : List Int), n.natAbs ≤ 4 ∧ ms.length ≤ 3 ∧ (∀ x ∈ ms, 1 ≤ x ∧ x ≤ 6) ∧ Ω a = none ∧ Ω1 = oset Ω a (.lst ((n :: ms).map D.int)) ∧ ρ = [some (.o p), some (.int d), some (.int way), none, none, none, some (.o a), none, none], ?_, ?_⟩
      · walk_at "pl"
        refine ⟨p, 4, rfl, ho, by decide, by decide, fun n n0 n1 => ⟨by decide, p, 4, rfl, ho, by decide, by decide, fun c c0 c1 => ?_⟩⟩
        walk_at "pl"
        refine ⟨by omega, by omega, ?_⟩
        refine compL_intsX (fun _ => True) (fun n => 1 ≤ n ∧ n ≤ 6) (fun Ω'' => Ω'' = Ω) (fun x Ω3 R Z hx hΩ hk => ?_) _ [] _ rfl (fun _ _ => True.intro) (by rw [rngD_length]; simp only [List.length_nil]; omega) (by simp) (fun ms Ω3 hl2 hm2 hΩ => ?_)
        · subst hΩ
          simp only [wipeA, aYes]
          walk_at "pl"
          refine ⟨p, 6, rfl, ho, by omega, by omega, fun q q0 q1 => ?_⟩
          walk_at "pl"
          exact hk _ _ ⟨by omega, by omega⟩ rfl
        · subst hΩ
          rw [rngD_length, List.length_nil, Nat.zero_add] at hl2
          walk_at "pl"
          exact ⟨by rw [List.length_map]; exact Nat.le_of_lt (small1000' (by omega)), fun a ha => ⟨a, n, by omega, ms, by omega, hm2, ha, rfl, rfl⟩⟩
      · rintro ρ Ω1 ⟨a, n, ms, hn, hl, hm, ha, rfl, rfl⟩
        refine ⟨fun ρ Ω1 => ∃ (ps : List Int), Gl (n :: ps) ∧ ps.length ≤ 3 ∧ (∀ x ∈ ps, x.natAbs ≤ 6) ∧ Ω1 = oset Ω a (.lst ((n :: ps).map D.int)) ∧ ρ = [some (.o p), some (.int d), some (.int way), none, none, none, some (.o a), none, none], ?_, ?_⟩
        · walk_at "pl"
          have glT : ∀ ps : List Int, (∀ x ∈ ps, 1 ≤ x) → (ps ≠ [] → ∀ q, ps.getLast? = some q → 2 ≤ q) → Gl (n :: ps) := fun ps h1 h2 => ⟨h1, fun q hq => h2 (fun z => by subst z; simp at hq) q hq⟩
          have keep : (ms ≠ [] → ∀ q, ms.getLast? = some q → 2 ≤ q) → ∃ ps, Gl (n :: ps) ∧ ps.length ≤ 3 ∧ (∀ x ∈ ps, x.natAbs ≤ 6) ∧ oset Ω a (.lst (.int n :: ms.map D.int)) = oset Ω a (.lst (.int n :: ps.map D.int)) := fun h => ⟨ms, glT ms (fun x hx => (hm x hx).1) h, hl, fun x hx => by have := hm x hx; omega, rfl⟩
          refine ite2 (fun g => ?_) (fun g => keep fun hne => absurd (List.length_pos_iff.mpr hne) (by rw [List.length_map] at g; omega))
          have hne : ms ≠ [] := fun z => by subst z; simp at g
          rw [← List.map_cons (f := D.int), List.getLast?_map, last_cons' hne]
          cases hq : ms.getLast? with
          | none => exact absurd (List.getLast?_eq_none_iff.mp hq) hne
          | some q =>
            refine ⟨_, rfl, _, rfl, ite2 (fun e3 => ?_) (fun e3 => ?_)⟩
            · refine ⟨_, ix_l (by omega), ms.set (ms.length - 1) 2, ?_, by rw [List.length_set]; exact hl, fun x hx => ?_, ?_⟩
              · obtain ⟨h1, h2⟩ := tail_set fun x hx => (hm x hx).1
                exact glT _ h1 h2
              · rcases List.mem_or_eq_of_mem_set hx with h' | h'
                · have := hm x h'; omega
                · rw [h']; decide
              · have hpos : 0 < ms.length := List.length_pos_iff.mpr hne
                obtain ⟨j, hj⟩ : ∃ j, ms.length = j + 1 := ⟨ms.length - 1, by omega⟩
                rw [List.length_map, Nat.add_sub_cancel, hj, List.map_cons, List.set_cons_succ, Nat.add_sub_cancel, List.map_set]
            · refine keep fun _ q' hq' => ?_
              rw [hq] at hq'
              cases hq'
              have := hm q (List.mem_of_getLast? hq)
              omega
        · rintro ρ Ω2 ⟨ps, hG, hl2, hm2, rfl, rfl⟩
          walk_at "pl"
          have hpos := (cf_pos (ps := ps) fun x hx => hG.one x (by rw [List.drop_one, List.tail_cons]; exact hx)).1
          have hb0 : (cfold (n :: ps)).2 ≠ 0 := by simp only [cfold]; omega
          have hlow : lowF (cfold (n :: ps)).1 (cfold (n :: ps)).2 = cfold (n :: ps) := lowF_coprime (cfold_coprime _) (by simp only [cfold]; omega)
          refine ⟨n :: ps, rfl, ⟨3, fun x hx => ?_, by simp only [List.length_cons]; omega⟩, hb0, ?_⟩
          · rcases List.mem_cons.mp hx with rfl | hx
            · omega
            · have := hm2 x hx; omega
          · rw [hlow]
            refine ⟨by decide, by decide, by decide, _, rfl, _, rfl, _, rfl, _, rfl, _, 0, _, rfl, hb0, by decide, ?_⟩
            have hod : ∀ b, Ω b ≠ none → odel (oset Ω a (.lst (.int n :: ps.map D.int))) a b = Ω b := fun b hb => by
              rw [odel_oset, odel_none ha]
            exact k (.ruled (n :: ps) [] []) _ _ (.ruled hG hl2 hn hm2) hod
def F_lawFour : AF := fun ds Ω Q _ => ∃ p : Addr, ds = [.o p] ∧ Ω p = some .row ∧ ∀ a b c d : Int, (∀ n ∈ [a, b, c, d], n.natAbs ≤ 4) → a * d ≠ b * c → Q (dtup [a, b, c, d]) Ω
theorem c_law_four (T : Txt K mg C) : Clb P w K mg base ca 3 "_law_four" F_lawFour := by
  refine clb T.d_law_four sc__law_four (fun ds Ω Q E h => ?_) (fun f cdv A outer s H E hr => ⟨_, _, (ass_cons (as_set 1 sc__law_four.nd (ae_tuple rfl T.b_tuple (ae_lcR rfl sc__law_four.nd rfl T.b_range ae_int (show BlkOk ["_law_row_here", "_law_numbers", "_law_k"] (defScope s__law_four) _ [("_law_k", 2)] from blkOk_by (by decide +kernel)) (wip_name (by decide)) (fun s1 H1 C1 cl1 fp1 => (ag_name (i := 2) sc__law_four.nd rfl (Or.inl rfl))) (fun s1 H1 C1 cl1 fp1 => AE.cast (ae_call (c_law_signed T) hr takes0 (by omega) (aa_cons (ae_var 0) (aa_cons ae_int aa_nil))) (by first | (dsimp only [Blk, Cx.blk]; done) | rfl)))))
      (ass_cons (as_if (at_eqI (ae_mul (ae_ix (ae_var 1) ae_int) (ae_ix (ae_var 1) ae_int)) (ae_mul (ae_ix (ae_var 1) ae_int) (ae_ix (ae_var 1) ae_int))) (ass_one (as_ret (ae_tup (aa_cons ae_int (aa_cons ae_int (aa_cons ae_int (aa_cons ae_int aa_nil))))))) ass_nil)
      (ass_one (as_ret (ae_var 1))))), fun ds Ω Qa Ea h => ?_⟩)
  · obtain ⟨_, rfl, _⟩ := h
    rfl
  · obtain ⟨p, rfl, ho, k⟩ := h
    walk_at "pl"
    refine ⟨by decide, by decide, ?_⟩
    have e4 : rngD 0 (Int.toNat 4) = rngD 0 4 := rfl
    rw [e4]
    refine compL_intsX (fun _ => True) (fun n => n.natAbs ≤ 4) (fun Ω'' => Ω'' = Ω) (fun x Ω1 R Z hx hΩ hk => ?_) _ [] _ rfl (fun _ _ => True.intro) (by rw [rngD_length]; decide) (by simp) (fun ns4 Ω1 hl hm hΩ => ?_)
    · subst hΩ
      simp only [wipeA, aYes]
      walk_at "pl"
      exact ⟨p, 4, rfl, ho, by decide, by decide, fun q q0 q1 => hk _ _ (by omega) rfl⟩
    · subst hΩ
      rw [rngD_length, List.length_nil, Nat.zero_add] at hl
      obtain ⟨a, b, c, d, rfl⟩ : ∃ a b c d, ns4 = [a, b, c, d] := by
        match ns4, hl with
        | [a, b, c, d], _ => exact ⟨a, b, c, d, rfl⟩
      have hmem : ∀ {Pr : Int → Prop}, (∀ n ∈ [a, b, c, d], Pr n) → Pr a ∧ Pr b ∧ Pr c ∧ Pr d := fun h => ⟨h a (by simp), h b (by simp), h c (by simp), h d (by simp)⟩
      obtain ⟨ha, hb, hc, hd⟩ := hmem hm
      walk_at "pl"
      have sm : ∀ x : Int, x.natAbs ≤ 4 → -(2 ^ 64) < x ∧ x < 2 ^ 64 := fun x h => ⟨by omega, by omega⟩
      exact ⟨mulok_l (sm a ha).1 (sm a ha).2, mulok_l (sm b hb).1 (sm b hb).2, ite2 (fun e => ⟨by decide, k 1 2 0 1 (by decide) (by decide)⟩) (fun e => k a b c d hm e)⟩
theorem told_part {C : CT} {Ω : Om} {p : Addr} {r : R} {S : List Addr} (h : RdO C Ω p r S) : ∃ c fs, Ω p = some (.obj c fs) ∧ ("part" : Str) ∉ fs.map (·.1) ∧ ("took" : Str) ∉ fs.map (·.1) ∧ c ∈ C.cls r.kd ∧ c ∈ [C.c_Fixed, C.c_Fraction, C.c_Root, C.c_Ruled, C.c_Four, C.c_Eight] := by
  obtain ⟨c, fs, ho, hm, hc⟩ := h.obj
  refine ⟨c, fs, ho, hm _ (.inr (.inl rfl)), hm _ (.inr (.inr rfl)), hc, ?_⟩
  revert hc
  cases r.kd <;> intro z <;> simp only [CT.cls, List.mem_cons, List.not_mem_nil, or_false] at z ⊢
  · exact .inl z
  · rcases z with z | z | z
    · exact .inr (.inl z)
    · exact .inr (.inr (.inl z))
    · exact .inr (.inr (.inr (.inl z)))
  · exact .inr (.inr (.inr (.inr (.inl z))))
  · exact .inr (.inr (.inr (.inr (.inr z))))
inductive ReadR : Nat → Int → R → List Int → Str → R → Prop
  | stop {most : Int} {r : R} : ReadR 0 most r [] "part" r
  | part {i n : Nat} {most m1 : Int} {r r1 r' : R} {q : Int} {l : List Int} {h : Str} : Told i r (most - (r.tk : Nat)) r1 m1 (.part q) → ReadR n most r1 l h r' → ReadR (n + 1) most r (q :: l) h r'
  | fin {i n : Nat} {most m1 : Int} {r r1 : R} : Told i r (most - (r.tk : Nat)) r1 m1 .fin → ReadR (n + 1) most r [] "end" r1
  | waits {i n : Nat} {most m1 : Int} {r r1 : R} : Told i r (most - (r.tk : Nat)) r1 m1 .waits → ReadR (n + 1) most r [] "waits" r1
  | none {i n : Nat} {most m1 : Int} {r r1 : R} : Told i r (most - (r.tk : Nat)) r1 m1 .none → ReadR (n + 1) most r [] "none" r1
def GdK (r : R) : Prop := ∃ bg u1 u0 β, Gd 84 KK r bg u1 u0 β ∧ 84 * 900 + β < 290000
def F_read (C : CT) (L : Nat) : AF := fun ds Ω Q _ => ∃ (p : Addr) (many : Nat) (most : Int) (r : R) (S : List Addr), ds = [.o p, .int many, .int most] ∧ r.lv ≤ L ∧ RdO C Ω p r S ∧ GdK r ∧ (r.tk : Int) ≤ most ∧ most ≤ 900 ∧ many ≤ 100 ∧
  ∀ (l : List Int) (h : Str) (r' : R) (Ω' : Om) (S' : List Addr), ReadR many most r l h r' → RdO C Ω' p r' S' → r'.lv ≤ L → GdK r' → (r'.tk : Int) ≤ most → (∀ b, b ∉ S → Ω b ≠ none → Ω' b = Ω b) → (∀ b ∈ S', b ∈ S ∨ Ω b = none) → Q (.tup [.lst (l.map D.int), .str h]) Ω'
theorem in_kinds {s : Str} {Ω : Om} {Q : AQ} (h : s = "part" ∨ s = "end" ∨ s = "waits") (k : Q (.bl false) Ω) : fInD true (.str s) (.lst [.str "part", .str "end", .str "waits"]) Ω Q := by
  refine ⟨_, .str s, [.str "part", .str "end", .str "waits"], rfl, rfl, rfl, ?_, (by decide +kernel), ?_⟩
  · rcases h with rfl | rfl | rfl <;> decide +kernel
  · have e : (([PyData.str "part", .str "end", .str "waits"] : List PyData).any fun z => PyData.eqv z (.str s)) = true := by
      rcases h with rfl | rfl | rfl <;> simp [PyData.eqv]
    rw [e]
    exact k
theorem c_law_read (T : Txt K mg C) {L : Nat} (tl : Tolds P w K mg base ca C L) (tk : Tooks P w K mg base ca C (L + 3)) : Clb P w K mg base ca (L + 4) "_law_read" (F_read C L) := by
  refine clb T.d_law_read sc__law_read (fun ds Ω Q E h => ?_) (fun f cdv A outer s H E hr => ⟨_, _, (ass_cons (as_set 3 sc__law_read.nd (ae_lstO aa_nil))
      (ass_cons (as_forR1 (passes_of rfl) rfl rfl T.b_range (ae_var 1) (ag_name (i := 4) sc__law_read.nd rfl (Or.inl rfl)) (ass_cons (as_tryOnly rfl rfl ⟨rfl, by decide, .inl T.y_NoValue⟩ (takes_of rfl rfl rfl rfl) (fun W1 pn1 xe1 tk1 hp1 => ASs.cast (ass_one (as_set 5 sc__law_read.nd (ae_meth (k := (L+3)) hr tk1 (by omega) (ae_var 0) (aa_cons (ae_sub (ae_var 2) (ae_meth0 (k := (L+3)) hr tk1 (by omega) (ae_var 0))) aa_nil)))) (by first | (dsimp only [Cx.tr, MthX, Cx.suite]; done) | rfl | (delta tMethD; dsimp only [Cx.tr, MthX, Cx.suite]; done) | (delta tMethD; dsimp only [Cx.tr, MthX, Cx.suite]; rfl)) (by first | (dsimp only [Cx.tr, MthX, Cx.suite]; done) | rfl | (delta tMethD; dsimp only [Cx.tr, MthX, Cx.suite]; done) | (delta tMethD; dsimp only [Cx.tr, MthX, Cx.suite]; rfl))) (fun a1 pn1 => ASs.cast (ass_one (as_frz 3 (as_ret (ae_tup (aa_cons (ae_var 3) (aa_cons ae_str aa_nil)))))) (by first | (dsimp only [Cx.tr, MthX, Cx.suite]; done) | rfl | (delta tMethD; dsimp only [Cx.tr, MthX, Cx.suite]; done) | (delta tMethD; dsimp only [Cx.tr, MthX, Cx.suite]; rfl)) (by first | (dsimp only [Cx.tr, MthX, Cx.suite]; done) | rfl | (delta tMethD; dsimp only [Cx.tr, MthX, Cx.suite]; done) | (delta tMethD; dsimp only [Cx.tr, MthX, Cx.suite]; rfl))))
      (ass_cons (as_if (AWt.at_ (aw_or (at_not (at_val (ae_isi rfl T.b_isinstance rfl T.b_tuple boot_ty_tuple (ae_var 5)))) (aw_or1 (at_notInD (u65 hr) (ae_ix (ae_var 5) ae_int) (ae_lst (aa_cons ae_str (aa_cons ae_str (aa_cons ae_str aa_nil)))))))) (ass_one (as_frz 3 (as_ret (ae_tup (aa_cons (ae_var 3) (aa_cons ae_str aa_nil)))))) ass_nil)
      (ass_cons (as_if (at_neI (ae_len rfl T.b_len (ae_var 5)) (ae_add ae_int (ae_intB rfl T.b_int (ae_eqS (ae_ix (ae_var 5) ae_int) ae_str)))) (ass_one (as_frz 3 (as_ret (ae_tup (aa_cons (ae_var 3) (aa_cons ae_str aa_nil)))))) ass_nil)
      (ass_cons (as_if (at_neS (ae_ix (ae_var 5) ae_int) ae_str) (ass_one (as_frz 3 (as_ret (ae_tup (aa_cons (ae_var 3) (aa_cons (ae_ix (ae_var 5) ae_int) aa_nil)))))) ass_nil)
      (ass_cons (as_if (at_not (at_val (ae_call (c_law_whole T) hr (takes_of rfl rfl rfl rfl) (by omega) (aa_cons (ae_ix (ae_var 5) ae_int) aa_nil)))) (ass_one (as_frz 3 (as_ret (ae_tup (aa_cons (ae_var 3) (aa_cons ae_str aa_nil)))))) ass_nil)
      (ass_one (as_expr (ae_app (ae_var 3) (ae_ix (ae_var 5) ae_int))))))))))
      (ass_one (as_frz 3 (as_ret (ae_tup (aa_cons (ae_var 3) (aa_cons ae_str aa_nil)))))))), fun ds Ω Qa Ea h => ?_⟩)
  · obtain ⟨_, _, _, _, _, rfl, _⟩ := h
    rfl
  · obtain ⟨p, many, most, r, S, rfl, hl, hR, hG, htk0, hmost, hm, k⟩ := h
    walk_at "pl"
    refine ⟨by decide, fun a ha => ⟨by omega, by omega, ?_⟩⟩
    have hna : ∀ b, Ω b ≠ none → b ≠ a := fun b hb e => hb (by rw [e]; exact ha)
    have eN : (many : Int).toNat = many := Int.toNat_natCast _
    have e0 : rngD 0 many = rngD ((0 : Nat) : Int) many := rfl
    rw [e0]
    refine forL_ind (fun us ρ Ω' => ∃ (j l : Nat) (acc : List Int) (r1 : R) (S1 : List Addr) (z4 z5 : Option D), us = rngD (j : Int) l ∧ r1.lv ≤ L ∧ RdO C Ω' p r1 S1 ∧ GdK r1 ∧ (r1.tk : Int) ≤ most ∧ (∀ x h r', ReadR l most r1 x h r' → ReadR many most r (acc ++ x) h r') ∧ (∀ b, b ∉ S → Ω b ≠ none → Ω' b = Ω b) ∧ (∀ b ∈ S1, b ∈ S ∨ Ω b = none) ∧ a ∉ S1 ∧ Ω' a = some (.lst (acc.map D.int)) ∧ acc.length + l = many ∧
      ρ = [some (.o p), some (.int many), some (.int most), some (.o a), z4, z5]) ⟨0, many, [], r, S, none, none, rfl, hl, hR.keep fun b hb => oset_ne (hna b (hR.there b hb)), hG, htk0, fun x h r' z => z, fun b _ hb => oset_ne (hna b hb), fun b hb => .inl hb, fun z => hR.there a z ha, oset_same, by simp, rfl⟩ ?_ ?_
    · rintro ρ Ω' ⟨j, l, acc, r1, S1, z4, z5, hu, hl1, hR1, hG1, htk1, hacc, f1, f2, haS, hoa, hlen, rfl⟩
      have : l = 0 := by
        have := congrArg List.length hu
        rw [rngD_length] at this
        exact this.symm
      subst this
      walk_at "pl"
      have := hacc [] "part" r1 .stop
      rw [List.append_nil] at this
      exact ⟨_, hoa, by decide, k acc "part" r1 _ S1 this (hR1.keep fun b hb => odel_ne fun e => haS (by rw [← e]; exact hb)) hl1 hG1 htk1 (fun b h1 h2 => by rw [odel_ne (hna b h2)]; exact f1 b h1 h2) f2⟩
    · rintro x us ρ Ω' De ert ih _ _ ⟨j, l, acc, r1, S1, z4, z5, hu, hl1, hR1, hG1, htk1, hacc, f1, f2, haS, hoa, hlen, rfl⟩
      obtain ⟨l', rfl, rfl, rfl⟩ := rng_step hu
      obtain ⟨bg, u1, u0, β, hGd, hB⟩ := hG1
      obtain ⟨m, hm2⟩ : ∃ m : Nat, most - (r1.tk : Nat) = (m : Int) := ⟨(most - (r1.tk : Nat)).toNat, by omega⟩
      obtain ⟨n, r2, ans, m', t0, htk2, bg', v1, v0, hG2, hor⟩ := ask hGd m (by omega)
      rw [← hm2] at t0
      have haS2 : ∀ {Ω2 : Om} {S2 : List Addr}, (∀ b ∈ S2, b ∈ S1 ∨ Ω' b = none) → a ∉ S2 := fun h z => by
        rcases h a z with w | w
        · exact haS w
        · rw [hoa] at w; cases w
      have back : ∀ {Ω2 : Om} {S2 : List Addr}, (∀ b, b ∉ S1 → Ω' b ≠ none → Ω2 b = Ω' b) → (∀ b ∈ S2, b ∈ S1 ∨ Ω' b = none) → (∀ b, b ∉ S → Ω b ≠ none → Ω2 b = Ω b) ∧ (∀ b ∈ S2, b ∈ S ∨ Ω b = none) ∧ Ω2 a = some (.lst (acc.map D.int)) := fun {Ω2 S2} h1 h2 => by
        refine ⟨fun b hb hb2 => ?_, fun b hb => ?_, ?_⟩
        · have e := f1 b hb hb2
          rw [h1 b (fun z => by rcases f2 b z with w | w; exact hb w; exact hb2 w) (by rw [e]; exact hb2), e]
        · rcases h2 b hb with w | w
          · exact f2 b w
          · cases q : Ω b with
            | none => exact .inr rfl
            | some u =>
              by_cases hs : b ∈ S
              · exact .inl hs
              · have := f1 b hs (by rw [q]; simp)
                rw [w, q] at this; cases this
        · rw [h1 a haS (by rw [hoa]; simp), hoa]
      have hl2 : r2.lv ≤ L := Nat.le_trans t0.lv hl1
      have hGB : GdK r2 := ⟨bg', v1, v0, β, hG2, hB⟩
      have htk3 : (r2.tk : Int) ≤ most := by omega
      obtain ⟨c, fs, ho, hpt, _, _, hc⟩ := told_part hR1
      walk_at "pl"
      refine ⟨c, fs, ho, hpt, F_part C L, m_part T tl c hc, ?_⟩
      refine took_in tk (Nat.le_trans hl1 (Nat.le_add_right _ _)) hR1 _ _ ⟨_, rfl, ?_⟩
      refine ⟨p, r1, S1, n, _, r2, m', ans, rfl, hl1, hR1, t0, fun Ω2 S2 hR2 k1 k2 => ?_⟩
      obtain ⟨b1, b2, b3⟩ := back k1 k2
      have ha2 := haS2 (Ω2 := Ω2) k2
      have done : ∀ (h : Str) (x : List Int), ReadR (l' + 1) most r1 x h r2 → x = [] → De.rt (.tup [.lst (acc.map D.int), .str h]) (odel Ω2 a) := fun h x hx e => by
        subst e
        rw [ert]
        have := hacc [] h r2 hx
        rw [List.append_nil] at this
        exact k acc h r2 _ S2 this (hR2.keep fun b hb => odel_ne fun e => ha2 (by rw [← e]; exact hb)) hl2 hGB htk3 (fun b h1 h2 => by rw [odel_ne (hna b h2)]; exact b1 b h1 h2) b2
      cases ans with
      | none =>
        simp only [Ans.ok]
        refine ⟨true, T.e_NoValue_NoValue, ?_⟩
        rw [if_pos rfl]
        exact ⟨_, b3, by decide, done "none" [] (.none t0) rfl⟩
      | part q =>
        simp only [Ans.ok, Ans.d]
        walk_at "pl"
        rw [if_neg (by decide)]
        refine ⟨by decide, in_kinds (.inl rfl) ⟨_, rfl, ?_⟩⟩
        rw [if_neg (by decide), if_neg (by decide), if_neg (by simp)]
        refine ⟨q, rfl, _, rfl, ?_⟩
        rw [if_neg (by decide)]
        refine ⟨⟨a, _, rfl, b3⟩, _, b3, by rw [List.length_map]; exact small1000' (by omega), ih _ _ ⟨j + 1, l', acc ++ [q], r2, S2, _, _, by rw [Int.natCast_add]; rfl, hl2, hR2.keep fun b hb => oset_ne fun e => ha2 (by rw [← e]; exact hb), hGB, htk3, fun x h r' hx => ?_, fun b h1 h2 => by rw [oset_ne (hna b h2)]; exact b1 b h1 h2, b2, ha2, by rw [oset_same, List.map_append]; rfl, by rw [List.length_append, List.length_singleton]; omega, rfl⟩⟩
        rw [List.append_assoc]
        exact hacc _ _ _ (.part t0 hx)
      | fin =>
        simp only [Ans.ok, Ans.d]
        walk_at "pl"
        rw [if_neg (by decide)]
        refine ⟨by decide, in_kinds (.inr (.inl rfl)) ⟨_, rfl, ?_⟩⟩
        rw [if_neg (by decide), if_neg (by decide), if_pos (by decide)]
        exact ⟨_, b3, by decide, done _ [] (.fin t0) rfl⟩
      | waits =>
        simp only [Ans.ok, Ans.d]
        walk_at "pl"
        rw [if_neg (by decide)]
        refine ⟨by decide, in_kinds (.inr (.inr rfl)) ⟨_, rfl, ?_⟩⟩
        rw [if_neg (by decide), if_neg (by decide), if_pos (by decide)]
        exact ⟨_, b3, by decide, done _ [] (.waits t0) rfl⟩
theorem read_true {d : Int} [NS d] {n : Nat} {most : Int} {r r' : R} {l : List Int} {h : Str} (x : ReadR n most r l h r') : ∀ {bb : Bool} {u v : Zd d} {o : Option T3}, Sem (Zd d) bb r u v → VO o u v → ∀ N, n ≤ N → ∃ rest, partsT d N o = l ++ rest ∧ (h = "end" → rest = []) ∧ h ≠ "none" := by
  induction x with
  | stop => exact fun _ _ N _ => ⟨_, rfl, fun e => absurd e (by decide), by decide⟩
  | part t _ ih =>
    intro bb u v o s w N hN
    obtain ⟨hp, s'⟩ := sound t s
    obtain ⟨p, rfl, rfl, w'⟩ := w.part hp
    obtain ⟨M, rfl⟩ : ∃ M, N = M + 1 := ⟨N - 1, by omega⟩
    obtain ⟨rest, e1, e2, e3⟩ := ih s' w' M (by omega)
    exact ⟨rest, by simp only [partsT, e1, List.cons_append], e2, e3⟩
  | fin t =>
    intro bb u v o s w N hN
    obtain ⟨hv, _⟩ := sound t s
    have := w.fin hv
    subst this
    exact ⟨[], by cases N <;> rfl, fun _ => rfl, by decide⟩
  | waits => exact fun _ _ N _ => ⟨_, rfl, fun e => absurd e (by decide), by decide⟩
  | none t => exact fun s _ _ _ => (sound t s).elim
theorem good_up : ∀ {k : Nat} {tr : Tr}, tr.good k → tr.good (k + 1)
  | 0, tr, h => by cases tr <;> exact h.elim
  | k + 1, .frac _ _, h => h
  | k + 1, .root _ _ _, h => h
  | k + 1, .ruled _ _ _, h => h
  | k + 1, .four _ _ _ _ _, h => ⟨h.1, h.2.1, h.2.2.1, h.2.2.2.1, h.2.2.2.2.1, good_up h.2.2.2.2.2⟩
  | k + 1, .eight _ _ _ _ _ _ _ _ _ _, h => ⟨h.1, h.2.1, good_up h.2.2.1, good_up h.2.2.2⟩
  | k + 1, .power _ _, h => ⟨h.1, h.2.1, good_up h.2.2⟩
theorem c_read33 (T : Txt K mg C) : Clb P w K mg base ca 37 "_law_read" (F_read C 33) := c_law_read T (tolds T (by decide)) (tooks T (by decide))
theorem good_le {k j : Nat} {tr : Tr} (h : k ≤ j) (hg : tr.good k) : tr.good j := by
  induction h with
  | refl => exact hg
  | step _ ih => exact good_up ih
theorem gdk_of {k : Nat} {tr : Tr} {r : R} (hk : k ≤ 5) (hg : tr.good k) (ho : Opened tr r) : GdK r := by
  obtain ⟨β, hG, hβ⟩ := opened_gd k tr r hg ho
  have : 4 ^ k ≤ 4 ^ 5 := Nat.pow_le_pow_right (by decide) hk
  exact ⟨_, _, _, β, hG, by omega⟩
theorem ReadR.len {n : Nat} {most : Int} {r r' : R} {l : List Int} {h : Str} (x : ReadR n most r l h r') : (h = "part" → l.length = n) ∧ (h ≠ "part" → l.length < n) ∧ (h = "part" ∨ h = "end" ∨ h = "waits" ∨ h = "none") := by
  induction x with
  | stop => exact ⟨fun _ => rfl, fun z => absurd rfl z, .inl rfl⟩
  | part t _ ih =>
    obtain ⟨a, b, c⟩ := ih
    exact ⟨fun z => by rw [List.length_cons, a z], fun z => by rw [List.length_cons]; have := b z; omega, c⟩
  | fin t => exact ⟨fun z => absurd z (by decide), fun _ => Nat.succ_pos _, .inr (.inl rfl)⟩
  | waits t => exact ⟨fun z => absurd z (by decide), fun _ => Nat.succ_pos _, .inr (.inr (.inl rfl))⟩
  | none t => exact ⟨fun z => absurd z (by decide), fun _ => Nat.succ_pos _, .inr (.inr (.inr rfl))⟩
theorem ReadR.fin22 {K n : Nat} {r r' : R} {l : List Int} {h : Str} (x : ReadR n 900 r l h r') : FinT K r → K < 900 → h ≠ "waits" := by
  generalize hm : (900 : Int) = most at x
  induction x with
  | stop => exact fun _ _ z => absurd z (by decide)
  | part t _ ih => exact fun a b => ih hm (fin_told t a).1 b
  | fin t => exact fun _ _ z => absurd z (by decide)
  | waits t =>
    intro a b _
    obtain ⟨a1, a2⟩ := fin_told t a
    have := t.tkm
    have := a2 rfl
    have := a1.tk
    subst hm
    omega
  | none t => exact fun _ _ z => absurd z (by decide)
theorem ReadR.dead22 {d : Int} [NS d] {n : Nat} {most : Int} {r r' : R} {l : List Int} {h : Str} (x : ReadR (n + 1) most r l h r') (hd : DeadF d r) : l = [] ∧ (h = "waits" ∨ h = "none") := by
  cases x with
  | part t _ => rcases (dead_f hd t).2 with z | z <;> cases z
  | fin t => rcases (dead_f hd t).2 with z | z <;> cases z
  | waits t => exact ⟨rfl, .inl rfl⟩
  | none t => exact ⟨rfl, .inr rfl⟩
theorem ReadR.back22 {d : Int} [NS d] {n : Nat} {r r' : R} {l : List Int} {h : Str} (x : ReadR n 900 r l h r') : ∀ {lv t : Nat} {P P' Q Q' : Int}, Back (d := d) lv r t P P' Q Q' → lv ≤ 4 → n + t ≤ 12 → h = "part" ∧ l.length = n := by
  generalize hm : (900 : Int) = most at x
  induction x with
  | stop => intros; exact ⟨rfl, rfl⟩
  | part t _ ih =>
    intro lv t' P P' Q Q' hb hl hn
    obtain ⟨N, e, hb2⟩ := hb.told t hl (by omega) (by omega)
    obtain ⟨a, b⟩ := ih hm hb2 hl (by omega)
    exact ⟨a, by rw [List.length_cons, b]⟩
  | fin t =>
    intro lv t' P P' Q Q' hb hl hn
    obtain ⟨N, e, hb2⟩ := hb.told t hl (by omega) (by omega)
    cases e
  | waits t =>
    intro lv t' P P' Q Q' hb hl hn
    obtain ⟨N, e, hb2⟩ := hb.told t hl (by omega) (by omega)
    cases e
  | none t =>
    intro lv t' P P' Q Q' hb hl hn
    obtain ⟨N, e, hb2⟩ := hb.told t hl (by omega) (by omega)
    cases e
/-- a leaf of the law: it ends, or it is a root -/
theorem leaf22 {d : Int} [NS d] {tr : Tr} {q : T3} {r : R} (h : TV d 0 tr (some q)) (ho : Opened tr r) (hd : d ≤ 441) : FinT 100 r ∨ ((∃ k t s b f, r = .root k t s b f) ∧ Irr (vu q : Zd d) (vv q) ∧ LS (vu q : Zd d) (vv q) 68 3) := by
  have hL := (tv_lv h ho hd).2.1
  have hn := h.nm q rfl
  cases h with
  | @frac _ t b h1 h2 h3 =>
    cases ho
    refine .inl (.frac ?_)
    have : (chainF t b).length ≤ 2 * 4 + 1 := chain_length 4 (by omega)
    omega
  | @root _ t m b h1 h2 h3 h4 h5 =>
    right
    have q1 : (madeT t m b).2.1 ≠ 0 := fun z => by
      have c := congrArg Zd.y (made_va (d := d) (x := t) (y := m) h1).1.cross
      simp [vu, vv, Zd.mul_y, z] at c
      have := hn.pos
      rcases Int.mul_eq_zero.mp c with c | c <;> omega
    have hI := irr_va (Pr.refl (vv_nz (nm_ne hn)) : Va (madeT t m b) (vu (madeT t m b) : Zd d) (vv (madeT t m b))) q1 hn
    refine ⟨?_, hI, ?_⟩
    · cases ho with
      | @rootF _ _ _ f g1 g2 => exact absurd g2 ((inferInstance : NS d).nsq.2 f m (by omega))
      | rootR => exact ⟨_, _, _, _, _, rfl⟩
    · rcases hL with z | ⟨_, p, p', e1, e2⟩
      · exact z
      · exfalso
        obtain ⟨k1, _⟩ := hI p' (-p) (by rw [e1, e2, cast_neg]; grind)
        have : (vv (madeT t m b) : Zd d) = 0 := by rw [e2, k1, cast_zero]
        exact vv_ne (nm_ne hn) this
  | @ruled _ p ps h1 h2 h3 h4 =>
    cases ho
    refine .inl (.ruled (Nat.zero_le _) ?_)
    rw [List.length_cons]; omega
/-- a list made by a comprehension -/
theorem compL_any {α : Type} {g : AG} {c : ATT} {re : ATE} {vs : List Nat} {Wa : AW} {ρ : En} {Q : AQ} (f : α → D) (Pn : α → Prop) (I : Om → Prop)
    (step : ∀ (x : D) (Ω' : Om) (R : AQ) (Z : Om → Prop), I Ω' → (∀ n Ω'', Pn n → I Ω'' → R (f n) Ω'') → g x (wipeA ρ vs) Ω' fun ρ1 Ω1 => c Wa ρ1 Ω1 fun k Ω2 => if k = true then re Wa ρ1 Ω2 R else Z Ω2) :
    ∀ (xs : List D) (acc : List α) (Ω : Om), I Ω → acc.length + xs.length ≤ 100000 → (∀ n ∈ acc, Pn n) → (∀ (ns : List α) (Ω' : Om), ns.length = acc.length + xs.length → (∀ n ∈ ns, Pn n) → I Ω' → Q (.lst (ns.map f)) Ω') → compL g c re vs xs (acc.map f) Wa ρ Ω Q
  | [], acc, Ω, i, _, ha, k => k acc Ω (by simp) ha i
  | x :: xs, acc, Ω, i, hl, ha, k => step x Ω _ _ i fun n Ω' hn i' => ⟨by rw [List.length_map]; rw [List.length_cons] at hl; exact Nat.lt_of_le_of_lt (show acc.length ≤ 100000 by omega) (show 100000 < sizeLine by rw [sizeLine_eq]; decide), by
    have e : acc.map f ++ [f n] = (acc ++ [n]).map f := by rw [List.map_append]; rfl
    rw [e]
    refine compL_any f Pn I step xs (acc ++ [n]) Ω' i' (by rw [List.length_append, List.length_singleton]; rw [List.length_cons] at hl; omega) (fun m hm => ?_) (fun ns Ω'' hn' hp i'' => k ns Ω'' (by rw [hn', List.length_append, List.length_singleton, List.length_cons]; omega) hp i'')
    rcases List.mem_append.mp hm with h | h
    · exact ha m h
    · rw [List.mem_singleton.mp h]; exact hn⟩
def qD (n : Q4) : D := dtup [n.1, n.2.1, n.2.2.1, n.2.2.2]
def P1_22 (d0 d4 d5 : D) (p0 : Addr) (d : Int) (tr : Tr) (q : T3) (fs : List Q4) (Ω0 : Om) : List D → En → Om → Prop := fun us ρ Ω => ∃ (done rest : List Q4) (z3 : Option D) (z8 z9 z10 z11 z12 z13 z14 z15 : Option D), us = rest.map qD ∧ fs = done ++ rest ∧ Ω = Ω0 ∧ TV d done.length (towTr done tr) (valF d done (some q)) ∧
  ρ = [some d0, some (.o p0), some (.int d), z3, some d4, some d5, some (towTr done tr).d, some (otD (valF d done (some q))), z8, z9, z10, z11, z12, z13, z14, z15]
def P2_22 (d0 d4 d5 d7 : D) (p0 : Addr) (d : Int) (T0 : Tr) (fs : List Q4) (Ω0 : Om) : List D → En → Om → Prop := fun us ρ Ω => ∃ (done rest : List Q4) (z3 : Option D) (z8 z9 z10 z11 z12 z13 z14 z15 : Option D), us = rest.map qD ∧ fs.reverse = done ++ rest ∧ Ω = Ω0 ∧
  ρ = [some d0, some (.o p0), some (.int d), z3, some d4, some d5, some (towTr (done.map Q4.inv) T0).d, some d7, z8, z9, z10, z11, z12, z13, z14, z15]
theorem law_ok (T : Txt K mg C) {f : Addr} {fd : FuncData} (F : Fun K "law" "law" s_law f fd) : FnOk P w K mg base (L2.CX P w) (50 + 32 + 1) f fd ["_law_script"] (spA K ca F_law) := by
  refine okA F sc_law law_len (fun cdv A outer s H E hr => ⟨_, _, (ass_cons (as_set 1 sc_law.nd (ae_call (c_law_row T) hr (takes_of rfl rfl rfl rfl) (by omega) (aa_cons (ae_var 0) aa_nil)))
      (ass_cons (as_set 2 sc_law.nd (ae_call (c_law_square T) hr (takes_of rfl rfl rfl rfl) (by omega) (aa_cons (ae_var 1) aa_nil)))
      (ass_cons (as_asg (ae_call (c_law_leaf T) hr (takes_of rfl rfl rfl rfl) (by omega) (aa_cons (ae_var 1) (aa_cons (ae_var 2) aa_nil))) (ag_tup (n := 2) rfl (ags_cons (i := 3) sc_law.nd rfl (Or.inl rfl) (ags_cons (i := 4) sc_law.nd rfl (Or.inl rfl) ags_nil))))
      (ass_cons (as_setLcR (i := 5) rfl sc_law.nd rfl rfl (sw_true rfl rfl rfl (by decide +kernel)) rfl T.b_range (ae_add ae_int (ae_call (c_law_taken T) hr (takes_of rfl rfl rfl rfl) (by omega) (aa_cons (ae_var 1) (aa_cons ae_int aa_nil)))) (show BlkOk ["_law_script", "_law_row_here", "_law_d", "_law_tree", "_law_one", "_law_fours", "_law_made_here", "_law_value", "_law_numbers", "_law_a", "_law_b", "_law_c", "_law_e", "_law_found", "_law_due", "_law_k"] (defScope s_law) _ [("_law_k", 15)] from blkOk_by (by decide +kernel)) (wip_name (by decide)) (fun s1 H1 C1 cl1 fp1 => (ag_name (i := 15) sc_law.nd rfl (Or.inl rfl))) (fun s1 H1 C1 cl1 fp1 => AE.cast (ae_call (c_law_four T) hr takes0 (by omega) (aa_cons (ae_var 1) aa_nil)) (by first | (dsimp only [Blk, Cx.blk]; done) | rfl)))
      (ass_cons (as_set 6 sc_law.nd (ae_var 3))
      (ass_cons (as_set 7 sc_law.nd (ae_var 4))
      (ass_cons (as_for (passes_of rfl) rfl (ae_var 5) (ag_name (i := 8) sc_law.nd rfl (Or.inl rfl)) (ass_cons (as_set 6 sc_law.nd (ae_tup (aa_cons ae_str (aa_cons (ae_var 8) (aa_cons (ae_var 6) aa_nil)))))
      (ass_one (as_if (at_notN (ae_var 7)) (ass_one (as_set 7 sc_law.nd (ae_call (c_law_boxed T) hr (takes_of rfl rfl rfl rfl) (by omega) (aa_cons (ae_var 8) (aa_cons (ae_lst (aa_cons (ae_var 7) (aa_cons (ae_tup (aa_cons ae_int (aa_cons ae_int (aa_cons ae_int aa_nil)))) aa_nil))) (aa_cons (ae_var 2) aa_nil)))))) ass_nil))))
      (ass_cons (as_for (passes_of rfl) rfl (ae_listRev rfl rfl T.b_list rfl T.b_reversed (ae_var 5)) (ag_name (i := 8) sc_law.nd rfl (Or.inl rfl)) (ass_cons (as_asg (ae_var 8) (ag_tup (n := 4) rfl (ags_cons (i := 9) sc_law.nd rfl (Or.inl rfl) (ags_cons (i := 10) sc_law.nd rfl (Or.inl rfl) (ags_cons (i := 11) sc_law.nd rfl (Or.inl rfl) (ags_cons (i := 12) sc_law.nd rfl (Or.inl rfl) ags_nil))))))
      (ass_one (as_set 6 sc_law.nd (ae_tup (aa_cons ae_str (aa_cons (ae_tup (aa_cons (ae_var 12) (aa_cons (ae_sub ae_int (ae_var 10)) (aa_cons (ae_sub ae_int (ae_var 11)) (aa_cons (ae_var 9) aa_nil))))) (aa_cons (ae_var 6) aa_nil))))))))
      (ass_cons (as_set 13 sc_law.nd (ae_call (c_read33 T) hr (takes_of rfl rfl rfl rfl) (by omega) (aa_cons (ae_call (c_readerG T) hr (takes_of rfl rfl rfl rfl) (by omega) (aa_cons (ae_var 6) aa_nil)) (aa_cons ae_int (aa_cons ae_int aa_nil)))))
      (ass_cons (as_if (at_isN (ae_var 7)) (ass_one (as_ret (ae_eqD hr.units (ae_var 13) (ae_tup (aa_cons (ae_lst aa_nil) (aa_cons ae_str aa_nil)))))) ass_nil)
      (ass_cons (as_set 14 sc_law.nd (ae_call (c_law_parts T) hr (takes_of rfl rfl rfl rfl) (by omega) (aa_cons (ae_var 4) (aa_cons (ae_var 2) (aa_cons ae_int aa_nil)))))
      (ass_cons (as_if (at_eqI (ae_len rfl T.b_len (ae_var 14)) ae_int) (ass_one (as_ret (ae_eqD hr.units (ae_var 13) (ae_tup (aa_cons (ae_var 14) (aa_cons ae_str aa_nil)))))) ass_nil)
      (ass_one (as_ret (ae_eqD hr.units (ae_var 13) (ae_tup (aa_cons (ae_var 14) (aa_cons ae_str aa_nil)))))))))))))))))), fun ds Ω Qa Ea h => ?_⟩)
  · obtain ⟨ns, rfl, _, kk⟩ := h
    walk_at "pl"
    refine ⟨ns, rfl, fun p0 hp0 => ⟨p0, rfl, oset_same, fun d hd hd2 => ⟨p0, d, rfl, oset_same, hd, hd2, fun tr q Ω1 hT1 hf1 => ?_⟩⟩⟩
    haveI : NS d := ⟨hd⟩
    have hd10 : d.natAbs < 2 ^ 10 := by have := hd.1; omega
    have hd0 := hd.1
    have ho1 : Ω1 p0 = some .row := by rw [hf1 p0 (by rw [oset_same]; simp), oset_same]
    walk_at "pl"
    refine ⟨p0, 2, rfl, ho1, by decide, by decide, fun x x0 x1 => ?_⟩
    refine ⟨x, rfl, by omega, by omega, ?_⟩
    refine compL_any qD Gq4 (fun Ω' => Ω' = Ω1) (fun y Ω' R Z ho hk => ?_) _ [] _ rfl (by rw [rngD_length]; simp only [List.length_nil]; omega) (by simp) (fun fs Ω' hl hg ho => ?_)
    · subst ho
      walk_at "pl"
      simp only [aYes, if_true]
      exact ⟨_, rfl, p0, rfl, ho1, fun a b c e h1 h2 => hk (a, b, c, e) _ ⟨h1, h2⟩ rfl⟩
    subst ho
    rw [rngD_length, List.length_nil, Nat.zero_add] at hl
    have hlen : fs.length ≤ 2 := by omega
    refine ⟨_, rfl, forL_ind (P1_22 (.lst (ns.map D.int)) (tD q) (.lst (fs.map qD)) p0 d tr q fs Ω') ?_ ?_ ?_⟩
    · exact ⟨[], fs, _, _, _, _, _, _, _, _, _, rfl, rfl, rfl, hT1, rfl⟩
    · rintro ρ Ω2 ⟨done, rest, z3, z8, z9, z10, z11, z12, z13, z14, z15, e, hfs, rfl, hTV, rfl⟩
      walk_at "pl"
      simp only [aListRev]
      walk_at "pl"
      have hrest : rest = [] := by cases rest with | nil => rfl | cons _ _ => cases e
      subst hrest
      rw [List.append_nil] at hfs
      subst hfs
      generalize ho' : valF d fs (some q) = o at *
      refine forL_ind (P2_22 (.lst (ns.map D.int)) (tD q) (.lst (fs.map qD)) (otD o) p0 d (towTr fs tr) fs Ω2) ?_ ?_ ?_
      · exact ⟨[], fs.reverse, _, _, _, _, _, _, _, _, _, by rw [List.map_reverse], rfl, rfl, rfl⟩
      · rintro ρ Ω3 ⟨done, rest, y3, y8, y9, y10, y11, y12, y13, y14, y15, e, hfs, rfl, rfl⟩
        have hrest : rest = [] := by cases rest with | nil => rfl | cons _ _ => cases e
        subst hrest
        rw [List.append_nil] at hfs
        subst hfs
        rw [nest_tow]
        walk_at "pl"
        have g1 : tr.good 1 := hT1.good hd0 (by omega)
        have g5 : (nestTr fs tr).good 5 := good_le (by omega) (nest_good fs hg g1)
        refine .inl ⟨nestTr fs tr, rfl, g5, fun r p Ω4 S hop hR hfr hst => ?_⟩
        refine ⟨p, 12, 900, r, S, rfl, Nat.le_trans (opened_lv 5 _ r g5 hop) (by decide), hR, gdk_of (Nat.le_refl 5) g5 hop, by rw [hop.tk0]; decide, by decide, by decide, fun l h r' Ω5 S5 hx hR5 _ _ _ k1 k2 => ?_⟩
        obtain ⟨r0, ho0, hr0⟩ := opened_nest fs hop
        subst hr0
        have hnq := hT1.nm q rfl
        obtain ⟨u, v, s1, a1⟩ := hT1.sem q r0 rfl ho0
        have sn := sem_nest fs hg hnq a1 s1
        rw [ho'] at sn
        have lf := leaf22 hT1 ho0 (by omega)
        have hlen2 := hx.len
        have fits : ∀ s : Str, (PyData.str s).canLay0 = true → D.fits 60 (.tup [.lst (l.map D.int), .str s]) = true := fun s hs => by
          have f1 : D.fitsAll 58 (l.map D.int) = true := fits_map (f := D.int) (n := 58) (fun x => rfl) l
          simp only [D.fits, D.fitsAll, f1, hs, Bool.and_true]
        have nw : h ≠ "waits" := by
          rcases lf with z | ⟨z1, z2, z3⟩
          · exact hx.fin22 (fin_nest fs z) (by decide)
          · obtain ⟨e, _⟩ := hx.back22 (back_of hg hlen hT1 ho0 (by omega) z1 z2 z3) (by omega) (by decide)
            rw [e]; decide
        rcases sn with ⟨e1, hd1⟩ | ⟨e1, hs1⟩
        · subst e1
          rw [if_pos (show (otD none).isNon = true from rfl)]
          obtain ⟨e2, e3⟩ := hx.dead22 hd1
          have e4 : h = "none" := by
            rcases e3 with z | z
            · exact absurd z nw
            · exact z
          subst e2 e4
          exact ⟨by decide, by decide, fEq_refl (fits "none" (by decide +kernel)) (kk _)⟩
        · obtain ⟨o1, rfl⟩ : ∃ o1, o = some o1 := by
            cases o with
            | none => exact absurd rfl e1
            | some o1 => exact ⟨o1, rfl⟩
          rw [if_neg (show ¬ (otD (some o1)).isNon = true by simp [otD, tD, D.isNon])]
          refine ⟨some q, d, 12, rfl, nup _ hd10 (by decide), by omega, by decide, PB_val hd10 (NN_45000 (by decide)) (by decide) hnq (hT1.ht hd10 (by decide) q rfl), ?_⟩
          obtain ⟨rest, r1, r2, r3⟩ := read_true hx hs1 (show VO (some q) u v from ⟨hnq, a1⟩) 12 (Nat.le_refl _)
          have pl := partsT_length (d := d) 12 (some q)
          obtain ⟨q1, q2, q3⟩ := hlen2
          refine ⟨_, rfl, ?_⟩
          rw [List.length_map]
          rcases q3 with z | z | z | z
          · subst z
            have ll := q1 rfl
            have hrest : rest = [] := by
              rw [r1, List.length_append] at pl
              exact List.eq_nil_of_length_eq_zero (by omega)
            rw [r1, hrest, List.append_nil, if_pos (by omega)]
            exact ⟨by decide, fEq_refl (fits "part" (by decide +kernel)) (kk _)⟩
          · subst z
            have ll := q2 (by decide)
            rw [r1, r2 rfl, List.append_nil, if_neg (by omega)]
            exact ⟨by decide, fEq_refl (fits "end" (by decide +kernel)) (kk _)⟩
          · exact absurd z nw
          · exact absurd z r3
      · rintro u us ρ Ω3 De _ hnx _ _ ⟨done, rest, y3, y8, y9, y10, y11, y12, y13, y14, y15, e, hfs, rfl, rfl⟩
        cases rest with
        | nil => cases e
        | cons n rest =>
        simp only [List.map_cons, List.cons.injEq] at e
        obtain ⟨rfl, rfl⟩ := e
        unfold qD dtup
        walk_at "pl"
        have htr : towTr ((done ++ [n]).map Q4.inv) (towTr fs tr) = n.inv.tr (towTr (done.map Q4.inv) (towTr fs tr)) := by
          rw [List.map_append]
          show (done.map Q4.inv ++ [n.inv]).foldl _ _ = _
          rw [List.foldl_append]; rfl
        refine ⟨by decide, by decide, hnx _ _ ⟨done ++ [n], rest, _, _, _, _, _, _, _, _, _, rfl, by rw [hfs, List.append_assoc]; rfl, rfl, (by rw [htr]; rfl)⟩⟩
    · rintro u us ρ Ω2 De _ hnx _ _ ⟨done, rest, z3, z8, z9, z10, z11, z12, z13, z14, z15, e, hfs, rfl, hTV, rfl⟩
      cases rest with
      | nil => cases e
      | cons n rest =>
      simp only [List.map_cons, List.cons.injEq] at e
      obtain ⟨rfl, rfl⟩ := e
      walk_at "pl"
      have gn := hg n (by rw [hfs]; simp)
      have hlen2 : done.length ≤ 2 := by rw [hfs, List.length_append] at hlen; omega
      have htr : towTr (done ++ [n]) tr = n.tr (towTr done tr) := by unfold towTr; rw [List.foldl_append]; rfl
      have hval : valF d (done ++ [n]) (some q) = boxL d [n.1, n.2.1, n.2.2.1, n.2.2.2] [valF d done (some q), some (1, 0, 1)] := by unfold valF; rw [List.foldl_append]; rfl
      have hTV2 : TV d (done ++ [n]).length (towTr (done ++ [n]) tr) (valF d (done ++ [n]) (some q)) := by
        rw [htr, hval, List.length_append]
        exact .four gn.1 gn.2 hTV
      have nx : ∀ z, De.nx [some (.lst (ns.map D.int)), some (.o p0), some (.int d), z3, some (tD q), some (.lst (fs.map qD)), some (.tup [.str "four", qD n, (towTr done tr).d]), some (otD (valF d (done ++ [n]) (some q))), z, z9, z10, z11, z12, z13, z14, z15] Ω2 := fun z =>
        hnx _ _ ⟨done ++ [n], rest, _, _, _, _, _, _, _, _, _, rfl, by rw [hfs, List.append_assoc]; rfl, rfl, hTV2, (by rw [htr]; rfl)⟩
      refine ⟨by decide, ?_⟩
      cases hv : valF d done (some q) with
      | none =>
        rw [if_neg (show ¬ (!(otD none).isNon) = true by decide)]
        have hv2 : valF d (done ++ [n]) (some q) = none := by rw [hval, hv]; rfl
        rw [hv2] at nx
        exact nx _
      | some p =>
        rw [if_pos (show (!(otD (some p)).isNon) = true by simp [otD, tD, D.isNon])]
        rw [hv] at hTV hval
        have hht := hTV.ht hd10 (by omega) p rfl
        have hnm := hTV.nm p rfl
        refine ⟨by decide, by decide, [n.1, n.2.1, n.2.2.1, n.2.2.2], [some p, some (1, 0, 1)], d, rfl, rfl, (show 2 ≤ 50 by decide), nup _ hd10 (by decide), fun ps hps => ?_, ?_⟩
        · cases hps
          exact box4_ok (by
            have h3 : done.length = 0 ∨ done.length = 1 ∨ done.length = 2 := by omega
            rcases h3 with h | h | h <;> rw [h] <;> decide) hht (nm_ne hnm) gn.1
        · rw [← hval]
          exact nx _
end
theorem all_mk {l : PySem.W.OpenLaw} {w : World} {K : PySem.W.Frag} {h : Heap} {mg : Str → Option Value} {fa : Addr} (X : K.In h) (G : h.Ns mainGlobals mg) (hfa : mg "law" = some (.ref fa))
    {C_Purse : Addr}
    {C_Fixed : Addr}
    {C_Leaf : Addr}
    {C_Fraction : Addr}
    {C_Root : Addr}
    {C_Ruled : Addr}
    {C_Four : Addr}
    {C_Eight : Addr}
    {C_BadTree : Addr}
    {C_NoValue : Addr}
    {A_TIMES : Addr}
    {f0 : Addr} {od0 an0 : Option Addr} {sl0 : Array (Option Value)} {oc0 kV0 dc0 pm0 cd0 ct0 : Value}
    {f1 : Addr} {od1 an1 : Option Addr} {sl1 : Array (Option Value)} {oc1 kV1 dc1 pm1 cd1 ct1 : Value}
    {f2 : Addr} {od2 an2 : Option Addr} {sl2 : Array (Option Value)} {oc2 kV2 dc2 pm2 cd2 ct2 : Value}
    {f3 : Addr} {od3 an3 : Option Addr} {sl3 : Array (Option Value)} {oc3 kV3 dc3 pm3 cd3 ct3 : Value}
    {f4 : Addr} {od4 an4 : Option Addr} {sl4 : Array (Option Value)} {oc4 kV4 dc4 pm4 cd4 ct4 : Value}
    {f5 : Addr} {od5 an5 : Option Addr} {sl5 : Array (Option Value)} {oc5 kV5 dc5 pm5 cd5 ct5 : Value}
    {f6 : Addr} {od6 an6 : Option Addr} {sl6 : Array (Option Value)} {oc6 kV6 dc6 pm6 cd6 ct6 : Value}
    {f7 : Addr} {od7 an7 : Option Addr} {sl7 : Array (Option Value)} {oc7 kV7 dc7 pm7 cd7 ct7 : Value}
    {f8 : Addr} {od8 an8 : Option Addr} {sl8 : Array (Option Value)} {oc8 kV8 dc8 pm8 cd8 ct8 : Value}
    {f9 : Addr} {od9 an9 : Option Addr} {sl9 : Array (Option Value)} {oc9 kV9 dc9 pm9 cd9 ct9 : Value}
    {f10 : Addr} {od10 an10 : Option Addr} {sl10 : Array (Option Value)} {oc10 kV10 dc10 pm10 cd10 ct10 : Value}
    {f11 : Addr} {od11 an11 : Option Addr} {sl11 : Array (Option Value)} {oc11 kV11 dc11 pm11 cd11 ct11 : Value}
    {f12 : Addr} {od12 an12 : Option Addr} {sl12 : Array (Option Value)} {oc12 kV12 dc12 pm12 cd12 ct12 : Value}
    {f13 : Addr} {od13 an13 : Option Addr} {sl13 : Array (Option Value)} {oc13 kV13 dc13 pm13 cd13 ct13 : Value}
    {f14 : Addr} {od14 an14 : Option Addr} {sl14 : Array (Option Value)} {oc14 kV14 dc14 pm14 cd14 ct14 : Value}
    {f15 : Addr} {od15 an15 : Option Addr} {sl15 : Array (Option Value)} {oc15 kV15 dc15 pm15 cd15 ct15 : Value}
    {f16 : Addr} {od16 an16 : Option Addr} {sl16 : Array (Option Value)} {oc16 kV16 dc16 pm16 cd16 ct16 : Value}
    {f17 : Addr} {od17 an17 : Option Addr} {sl17 : Array (Option Value)} {oc17 kV17 dc17 pm17 cd17 ct17 : Value}
    {f18 : Addr} {od18 an18 : Option Addr} {sl18 : Array (Option Value)} {oc18 kV18 dc18 pm18 cd18 ct18 : Value}
    {f19 : Addr} {od19 an19 : Option Addr} {sl19 : Array (Option Value)} {oc19 kV19 dc19 pm19 cd19 ct19 : Value}
    {f20 : Addr} {od20 an20 : Option Addr} {sl20 : Array (Option Value)} {oc20 kV20 dc20 pm20 cd20 ct20 : Value}
    {f21 : Addr} {od21 an21 : Option Addr} {sl21 : Array (Option Value)} {oc21 kV21 dc21 pm21 cd21 ct21 : Value}
    {f22 : Addr} {od22 an22 : Option Addr} {sl22 : Array (Option Value)} {oc22 kV22 dc22 pm22 cd22 ct22 : Value}
    {f23 : Addr} {od23 an23 : Option Addr} {sl23 : Array (Option Value)} {oc23 kV23 dc23 pm23 cd23 ct23 : Value}
    {f24 : Addr} {od24 an24 : Option Addr} {sl24 : Array (Option Value)} {oc24 kV24 dc24 pm24 cd24 ct24 : Value}
    {f25 : Addr} {od25 an25 : Option Addr} {sl25 : Array (Option Value)} {oc25 kV25 dc25 pm25 cd25 ct25 : Value}
    {f26 : Addr} {od26 an26 : Option Addr} {sl26 : Array (Option Value)} {oc26 kV26 dc26 pm26 cd26 ct26 : Value}
    {f27 : Addr} {od27 an27 : Option Addr} {sl27 : Array (Option Value)} {oc27 kV27 dc27 pm27 cd27 ct27 : Value}
    {f28 : Addr} {od28 an28 : Option Addr} {sl28 : Array (Option Value)} {oc28 kV28 dc28 pm28 cd28 ct28 : Value}
    {f29 : Addr} {od29 an29 : Option Addr} {sl29 : Array (Option Value)} {oc29 kV29 dc29 pm29 cd29 ct29 : Value}
    {f30 : Addr} {od30 an30 : Option Addr} {sl30 : Array (Option Value)} {oc30 kV30 dc30 pm30 cd30 ct30 : Value}
    {f31 : Addr} {od31 an31 : Option Addr} {sl31 : Array (Option Value)} {oc31 kV31 dc31 pm31 cd31 ct31 : Value}
    {f32 : Addr} {od32 an32 : Option Addr} {sl32 : Array (Option Value)} {oc32 kV32 dc32 pm32 cd32 ct32 : Value}
    {f33 : Addr} {od33 an33 : Option Addr} {sl33 : Array (Option Value)} {oc33 kV33 dc33 pm33 cd33 ct33 : Value}
    {f34 : Addr} {od34 an34 : Option Addr} {sl34 : Array (Option Value)} {oc34 kV34 dc34 pm34 cd34 ct34 : Value}
    {f35 : Addr} {od35 an35 : Option Addr} {sl35 : Array (Option Value)} {oc35 kV35 dc35 pm35 cd35 ct35 : Value}
    {f36 : Addr} {od36 an36 : Option Addr} {sl36 : Array (Option Value)} {oc36 kV36 dc36 pm36 cd36 ct36 : Value}
    {f37 : Addr} {od37 an37 : Option Addr} {sl37 : Array (Option Value)} {oc37 kV37 dc37 pm37 cd37 ct37 : Value}
    {f38 : Addr} {od38 an38 : Option Addr} {sl38 : Array (Option Value)} {oc38 kV38 dc38 pm38 cd38 ct38 : Value}
    {f39 : Addr} {od39 an39 : Option Addr} {sl39 : Array (Option Value)} {oc39 kV39 dc39 pm39 cd39 ct39 : Value}
    {f40 : Addr} {od40 an40 : Option Addr} {sl40 : Array (Option Value)} {oc40 kV40 dc40 pm40 cd40 ct40 : Value}
    {f41 : Addr} {od41 an41 : Option Addr} {sl41 : Array (Option Value)} {oc41 kV41 dc41 pm41 cd41 ct41 : Value}
    {f42 : Addr} {od42 an42 : Option Addr} {sl42 : Array (Option Value)} {oc42 kV42 dc42 pm42 cd42 ct42 : Value}
    {f43 : Addr} {od43 an43 : Option Addr} {sl43 : Array (Option Value)} {oc43 kV43 dc43 pm43 cd43 ct43 : Value}
    {f44 : Addr} {od44 an44 : Option Addr} {sl44 : Array (Option Value)} {oc44 kV44 dc44 pm44 cd44 ct44 : Value}
    {f45 : Addr} {od45 an45 : Option Addr} {sl45 : Array (Option Value)} {oc45 kV45 dc45 pm45 cd45 ct45 : Value}
    {f46 : Addr} {od46 an46 : Option Addr} {sl46 : Array (Option Value)} {oc46 kV46 dc46 pm46 cd46 ct46 : Value}
    {f47 : Addr} {od47 an47 : Option Addr} {sl47 : Array (Option Value)} {oc47 kV47 dc47 pm47 cd47 ct47 : Value}
    {f48 : Addr} {od48 an48 : Option Addr} {sl48 : Array (Option Value)} {oc48 kV48 dc48 pm48 cd48 ct48 : Value}
    {f49 : Addr} {od49 an49 : Option Addr} {sl49 : Array (Option Value)} {oc49 kV49 dc49 pm49 cd49 ct49 : Value}
    {f50 : Addr} {od50 an50 : Option Addr} {sl50 : Array (Option Value)} {oc50 kV50 dc50 pm50 cd50 ct50 : Value}
    {f51 : Addr} {od51 an51 : Option Addr} {sl51 : Array (Option Value)} {oc51 kV51 dc51 pm51 cd51 ct51 : Value}
    {f52 : Addr} {od52 an52 : Option Addr} {sl52 : Array (Option Value)} {oc52 kV52 dc52 pm52 cd52 ct52 : Value}
    {f53 : Addr} {od53 an53 : Option Addr} {sl53 : Array (Option Value)} {oc53 kV53 dc53 pm53 cd53 ct53 : Value}
    {f54 : Addr} {od54 an54 : Option Addr} {sl54 : Array (Option Value)} {oc54 kV54 dc54 pm54 cd54 ct54 : Value}
    {f55 : Addr} {od55 an55 : Option Addr} {sl55 : Array (Option Value)} {oc55 kV55 dc55 pm55 cd55 ct55 : Value}
    {f56 : Addr} {od56 an56 : Option Addr} {sl56 : Array (Option Value)} {oc56 kV56 dc56 pm56 cd56 ct56 : Value}
    {f57 : Addr} {od57 an57 : Option Addr} {sl57 : Array (Option Value)} {oc57 kV57 dc57 pm57 cd57 ct57 : Value}
    {t_DEEPEST : Tok}
    {t_MOST_NUMBER : Tok}
    {t_MOST_PARTS : Tok}
    {t_MOST_POWER : Tok}
    {oT_TIMES : Option Addr} {nT_TIMES : Nat} {sT_TIMES : Array (Option Value)} {t0_TIMES t1_TIMES t2_TIMES t3_TIMES t4_TIMES t5_TIMES t6_TIMES t7_TIMES : Tok}
    (g_Purse : PySem.W.nsIn K mainGlobals "Purse" = some (some (.ref C_Purse)))
    (g_Fixed : PySem.W.nsIn K mainGlobals "Fixed" = some (some (.ref C_Fixed)))
    (g_Leaf : PySem.W.nsIn K mainGlobals "Leaf" = some (some (.ref C_Leaf)))
    (g_Fraction : PySem.W.nsIn K mainGlobals "Fraction" = some (some (.ref C_Fraction)))
    (g_Root : PySem.W.nsIn K mainGlobals "Root" = some (some (.ref C_Root)))
    (g_Ruled : PySem.W.nsIn K mainGlobals "Ruled" = some (some (.ref C_Ruled)))
    (g_Four : PySem.W.nsIn K mainGlobals "Four" = some (some (.ref C_Four)))
    (g_Eight : PySem.W.nsIn K mainGlobals "Eight" = some (some (.ref C_Eight)))
    (g_BadTree : PySem.W.nsIn K mainGlobals "BadTree" = some (some (.ref C_BadTree)))
    (g_NoValue : PySem.W.nsIn K mainGlobals "NoValue" = some (some (.ref C_NoValue)))
    (a0 : PySem.W.nsIn K mainGlobals "root_below" = some (some (.ref f0)))
    (l0 : K.lookup f0 = some ⟨oc0, od0, .func (PySem.W.fnOf "root_below" "root_below" (defArgs s_root_below) (defBody s_root_below) (defScope s_root_below) .none kV0 dc0 pm0 an0 cd0 ct0), sl0⟩)
    (c0 : PySem.W.codeIn K cd0 "root_below" = true)
    (k0 : PySem.W.keepIn K (.ref f0) = true)
    (a1 : PySem.W.nsIn K mainGlobals "root_of" = some (some (.ref f1)))
    (l1 : K.lookup f1 = some ⟨oc1, od1, .func (PySem.W.fnOf "root_of" "root_of" (defArgs s_root_of) (defBody s_root_of) (defScope s_root_of) .none kV1 dc1 pm1 an1 cd1 ct1), sl1⟩)
    (c1 : PySem.W.codeIn K cd1 "root_of" = true)
    (k1 : PySem.W.keepIn K (.ref f1) = true)
    (a2 : PySem.W.nsIn K mainGlobals "below_all" = some (some (.ref f2)))
    (l2 : K.lookup f2 = some ⟨oc2, od2, .func (PySem.W.fnOf "below_all" "below_all" (defArgs s_below_all) (defBody s_below_all) (defScope s_below_all) .none kV2 dc2 pm2 an2 cd2 ct2), sl2⟩)
    (c2 : PySem.W.codeIn K cd2 "below_all" = true)
    (k2 : PySem.W.keepIn K (.ref f2) = true)
    (a3 : PySem.W.nsIn K mainGlobals "must" = some (some (.ref f3)))
    (l3 : K.lookup f3 = some ⟨oc3, od3, .func (PySem.W.fnOf "must" "must" (defArgs s_must) (defBody s_must) (defScope s_must) .none kV3 dc3 pm3 an3 cd3 ct3), sl3⟩)
    (c3 : PySem.W.codeIn K cd3 "must" = true)
    (k3 : PySem.W.keepIn K (.ref f3) = true)
    (a4 : PySem.W.nsIn K mainGlobals "need_numbers" = some (some (.ref f4)))
    (l4 : K.lookup f4 = some ⟨oc4, od4, .func (PySem.W.fnOf "need_numbers" "need_numbers" (defArgs s_need_numbers) (defBody s_need_numbers) (defScope s_need_numbers) .none kV4 dc4 pm4 an4 cd4 ct4), sl4⟩)
    (c4 : PySem.W.codeIn K cd4 "need_numbers" = true)
    (k4 : PySem.W.keepIn K (.ref f4) = true)
    (a5 : PySem.W.nsIn K mainGlobals "need_ruled" = some (some (.ref f5)))
    (l5 : K.lookup f5 = some ⟨oc5, od5, .func (PySem.W.fnOf "need_ruled" "need_ruled" (defArgs s_need_ruled) (defBody s_need_ruled) (defScope s_need_ruled) .none kV5 dc5 pm5 an5 cd5 ct5), sl5⟩)
    (c5 : PySem.W.codeIn K cd5 "need_ruled" = true)
    (k5 : PySem.W.keepIn K (.ref f5) = true)
    (a6 : PySem.W.nsIn K mainGlobals "need_eight" = some (some (.ref f6)))
    (l6 : K.lookup f6 = some ⟨oc6, od6, .func (PySem.W.fnOf "need_eight" "need_eight" (defArgs s_need_eight) (defBody s_need_eight) (defScope s_need_eight) .none kV6 dc6 pm6 an6 cd6 ct6), sl6⟩)
    (c6 : PySem.W.codeIn K cd6 "need_eight" = true)
    (k6 : PySem.W.keepIn K (.ref f6) = true)
    (a7 : PySem.W.nsIn K mainGlobals "need_tree" = some (some (.ref f7)))
    (l7 : K.lookup f7 = some ⟨oc7, od7, .func (PySem.W.fnOf "need_tree" "need_tree" (defArgs s_need_tree) (defBody s_need_tree) (defScope s_need_tree) .none kV7 dc7 pm7 an7 cd7 ct7), sl7⟩)
    (c7 : PySem.W.codeIn K cd7 "need_tree" = true)
    (k7 : PySem.W.keepIn K (.ref f7) = true)
    (a8 : PySem.W.nsIn K mainGlobals "opened" = some (some (.ref f8)))
    (l8 : K.lookup f8 = some ⟨oc8, od8, .func (PySem.W.fnOf "opened" "opened" (defArgs s_opened) (defBody s_opened) (defScope s_opened) .none kV8 dc8 pm8 an8 cd8 ct8), sl8⟩)
    (c8 : PySem.W.codeIn K cd8 "opened" = true)
    (k8 : PySem.W.keepIn K (.ref f8) = true)
    (a9 : PySem.W.nsIn K mainGlobals "reader" = some (some (.ref f9)))
    (l9 : K.lookup f9 = some ⟨oc9, od9, .func (PySem.W.fnOf "reader" "reader" (defArgs s_reader) (defBody s_reader) (defScope s_reader) .none kV9 dc9 pm9 an9 cd9 ct9), sl9⟩)
    (c9 : PySem.W.codeIn K cd9 "reader" = true)
    (k9 : PySem.W.keepIn K (.ref f9) = true)
    (a10 : PySem.W.nsIn K mainGlobals "_law_row" = some (some (.ref f10)))
    (l10 : K.lookup f10 = some ⟨oc10, od10, .func (PySem.W.fnOf "_law_row" "_law_row" (defArgs s__law_row) (defBody s__law_row) (defScope s__law_row) .none kV10 dc10 pm10 an10 cd10 ct10), sl10⟩)
    (c10 : PySem.W.codeIn K cd10 "_law_row" = true)
    (k10 : PySem.W.keepIn K (.ref f10) = true)
    (a11 : PySem.W.nsIn K mainGlobals "_law_taken" = some (some (.ref f11)))
    (l11 : K.lookup f11 = some ⟨oc11, od11, .func (PySem.W.fnOf "_law_taken" "_law_taken" (defArgs s__law_taken) (defBody s__law_taken) (defScope s__law_taken) .none kV11 dc11 pm11 an11 cd11 ct11), sl11⟩)
    (c11 : PySem.W.codeIn K cd11 "_law_taken" = true)
    (k11 : PySem.W.keepIn K (.ref f11) = true)
    (a12 : PySem.W.nsIn K mainGlobals "_law_whole" = some (some (.ref f12)))
    (l12 : K.lookup f12 = some ⟨oc12, od12, .func (PySem.W.fnOf "_law_whole" "_law_whole" (defArgs s__law_whole) (defBody s__law_whole) (defScope s__law_whole) .none kV12 dc12 pm12 an12 cd12 ct12), sl12⟩)
    (c12 : PySem.W.codeIn K cd12 "_law_whole" = true)
    (k12 : PySem.W.keepIn K (.ref f12) = true)
    (a13 : PySem.W.nsIn K mainGlobals "_law_signed" = some (some (.ref f13)))
    (l13 : K.lookup f13 = some ⟨oc13, od13, .func (PySem.W.fnOf "_law_signed" "_law_signed" (defArgs s__law_signed) (defBody s__law_signed) (defScope s__law_signed) .none kV13 dc13 pm13 an13 cd13 ct13), sl13⟩)
    (c13 : PySem.W.codeIn K cd13 "_law_signed" = true)
    (k13 : PySem.W.keepIn K (.ref f13) = true)
    (a14 : PySem.W.nsIn K mainGlobals "_law_root" = some (some (.ref f14)))
    (l14 : K.lookup f14 = some ⟨oc14, od14, .func (PySem.W.fnOf "_law_root" "_law_root" (defArgs s__law_root) (defBody s__law_root) (defScope s__law_root) .none kV14 dc14 pm14 an14 cd14 ct14), sl14⟩)
    (c14 : PySem.W.codeIn K cd14 "_law_root" = true)
    (k14 : PySem.W.keepIn K (.ref f14) = true)
    (a15 : PySem.W.nsIn K mainGlobals "_law_common" = some (some (.ref f15)))
    (l15 : K.lookup f15 = some ⟨oc15, od15, .func (PySem.W.fnOf "_law_common" "_law_common" (defArgs s__law_common) (defBody s__law_common) (defScope s__law_common) .none kV15 dc15 pm15 an15 cd15 ct15), sl15⟩)
    (c15 : PySem.W.codeIn K cd15 "_law_common" = true)
    (k15 : PySem.W.keepIn K (.ref f15) = true)
    (a16 : PySem.W.nsIn K mainGlobals "_law_lowest" = some (some (.ref f16)))
    (l16 : K.lookup f16 = some ⟨oc16, od16, .func (PySem.W.fnOf "_law_lowest" "_law_lowest" (defArgs s__law_lowest) (defBody s__law_lowest) (defScope s__law_lowest) .none kV16 dc16 pm16 an16 cd16 ct16), sl16⟩)
    (c16 : PySem.W.codeIn K cd16 "_law_lowest" = true)
    (k16 : PySem.W.keepIn K (.ref f16) = true)
    (a17 : PySem.W.nsIn K mainGlobals "_law_folded" = some (some (.ref f17)))
    (l17 : K.lookup f17 = some ⟨oc17, od17, .func (PySem.W.fnOf "_law_folded" "_law_folded" (defArgs s__law_folded) (defBody s__law_folded) (defScope s__law_folded) .none kV17 dc17 pm17 an17 cd17 ct17), sl17⟩)
    (c17 : PySem.W.codeIn K cd17 "_law_folded" = true)
    (k17 : PySem.W.keepIn K (.ref f17) = true)
    (a18 : PySem.W.nsIn K mainGlobals "_law_made" = some (some (.ref f18)))
    (l18 : K.lookup f18 = some ⟨oc18, od18, .func (PySem.W.fnOf "_law_made" "_law_made" (defArgs s__law_made) (defBody s__law_made) (defScope s__law_made) .none kV18 dc18 pm18 an18 cd18 ct18), sl18⟩)
    (c18 : PySem.W.codeIn K cd18 "_law_made" = true)
    (k18 : PySem.W.keepIn K (.ref f18) = true)
    (a19 : PySem.W.nsIn K mainGlobals "_law_sum" = some (some (.ref f19)))
    (l19 : K.lookup f19 = some ⟨oc19, od19, .func (PySem.W.fnOf "_law_sum" "_law_sum" (defArgs s__law_sum) (defBody s__law_sum) (defScope s__law_sum) .none kV19 dc19 pm19 an19 cd19 ct19), sl19⟩)
    (c19 : PySem.W.codeIn K cd19 "_law_sum" = true)
    (k19 : PySem.W.keepIn K (.ref f19) = true)
    (a20 : PySem.W.nsIn K mainGlobals "_law_product" = some (some (.ref f20)))
    (l20 : K.lookup f20 = some ⟨oc20, od20, .func (PySem.W.fnOf "_law_product" "_law_product" (defArgs s__law_product) (defBody s__law_product) (defScope s__law_product) .none kV20 dc20 pm20 an20 cd20 ct20), sl20⟩)
    (c20 : PySem.W.codeIn K cd20 "_law_product" = true)
    (k20 : PySem.W.keepIn K (.ref f20) = true)
    (a21 : PySem.W.nsIn K mainGlobals "_law_quotient" = some (some (.ref f21)))
    (l21 : K.lookup f21 = some ⟨oc21, od21, .func (PySem.W.fnOf "_law_quotient" "_law_quotient" (defArgs s__law_quotient) (defBody s__law_quotient) (defScope s__law_quotient) .none kV21 dc21 pm21 an21 cd21 ct21), sl21⟩)
    (c21 : PySem.W.codeIn K cd21 "_law_quotient" = true)
    (k21 : PySem.W.keepIn K (.ref f21) = true)
    (a22 : PySem.W.nsIn K mainGlobals "_law_below" = some (some (.ref f22)))
    (l22 : K.lookup f22 = some ⟨oc22, od22, .func (PySem.W.fnOf "_law_below" "_law_below" (defArgs s__law_below) (defBody s__law_below) (defScope s__law_below) .none kV22 dc22 pm22 an22 cd22 ct22), sl22⟩)
    (c22 : PySem.W.codeIn K cd22 "_law_below" = true)
    (k22 : PySem.W.keepIn K (.ref f22) = true)
    (a23 : PySem.W.nsIn K mainGlobals "_law_parts" = some (some (.ref f23)))
    (l23 : K.lookup f23 = some ⟨oc23, od23, .func (PySem.W.fnOf "_law_parts" "_law_parts" (defArgs s__law_parts) (defBody s__law_parts) (defScope s__law_parts) .none kV23 dc23 pm23 an23 cd23 ct23), sl23⟩)
    (c23 : PySem.W.codeIn K cd23 "_law_parts" = true)
    (k23 : PySem.W.keepIn K (.ref f23) = true)
    (a24 : PySem.W.nsIn K mainGlobals "_law_mix" = some (some (.ref f24)))
    (l24 : K.lookup f24 = some ⟨oc24, od24, .func (PySem.W.fnOf "_law_mix" "_law_mix" (defArgs s__law_mix) (defBody s__law_mix) (defScope s__law_mix) .none kV24 dc24 pm24 an24 cd24 ct24), sl24⟩)
    (c24 : PySem.W.codeIn K cd24 "_law_mix" = true)
    (k24 : PySem.W.keepIn K (.ref f24) = true)
    (a25 : PySem.W.nsIn K mainGlobals "_law_boxed" = some (some (.ref f25)))
    (l25 : K.lookup f25 = some ⟨oc25, od25, .func (PySem.W.fnOf "_law_boxed" "_law_boxed" (defArgs s__law_boxed) (defBody s__law_boxed) (defScope s__law_boxed) .none kV25 dc25 pm25 an25 cd25 ct25), sl25⟩)
    (c25 : PySem.W.codeIn K cd25 "_law_boxed" = true)
    (k25 : PySem.W.keepIn K (.ref f25) = true)
    (a26 : PySem.W.nsIn K mainGlobals "_law_square" = some (some (.ref f26)))
    (l26 : K.lookup f26 = some ⟨oc26, od26, .func (PySem.W.fnOf "_law_square" "_law_square" (defArgs s__law_square) (defBody s__law_square) (defScope s__law_square) .none kV26 dc26 pm26 an26 cd26 ct26), sl26⟩)
    (c26 : PySem.W.codeIn K cd26 "_law_square" = true)
    (k26 : PySem.W.keepIn K (.ref f26) = true)
    (a27 : PySem.W.nsIn K mainGlobals "_law_leaf" = some (some (.ref f27)))
    (l27 : K.lookup f27 = some ⟨oc27, od27, .func (PySem.W.fnOf "_law_leaf" "_law_leaf" (defArgs s__law_leaf) (defBody s__law_leaf) (defScope s__law_leaf) .none kV27 dc27 pm27 an27 cd27 ct27), sl27⟩)
    (c27 : PySem.W.codeIn K cd27 "_law_leaf" = true)
    (k27 : PySem.W.keepIn K (.ref f27) = true)
    (a28 : PySem.W.nsIn K mainGlobals "_law_read" = some (some (.ref f28)))
    (l28 : K.lookup f28 = some ⟨oc28, od28, .func (PySem.W.fnOf "_law_read" "_law_read" (defArgs s__law_read) (defBody s__law_read) (defScope s__law_read) .none kV28 dc28 pm28 an28 cd28 ct28), sl28⟩)
    (c28 : PySem.W.codeIn K cd28 "_law_read" = true)
    (k28 : PySem.W.keepIn K (.ref f28) = true)
    (a29 : PySem.W.nsIn K mainGlobals "_law_four" = some (some (.ref f29)))
    (l29 : K.lookup f29 = some ⟨oc29, od29, .func (PySem.W.fnOf "_law_four" "_law_four" (defArgs s__law_four) (defBody s__law_four) (defScope s__law_four) .none kV29 dc29 pm29 an29 cd29 ct29), sl29⟩)
    (c29 : PySem.W.codeIn K cd29 "_law_four" = true)
    (k29 : PySem.W.keepIn K (.ref f29) = true)
    (a30 : PySem.W.nsIn K mainGlobals "law" = some (some (.ref f30)))
    (l30 : K.lookup f30 = some ⟨oc30, od30, .func (PySem.W.fnOf "law" "law" (defArgs s_law) (defBody s_law) (defScope s_law) .none kV30 dc30 pm30 an30 cd30 ct30), sl30⟩)
    (c30 : PySem.W.codeIn K cd30 "law" = true)
    (k30 : PySem.W.keepIn K (.ref f30) = true)
    (pg_Purse : PySem.W.plainGet K C_Purse Str.empty = true)
    (hd_Purse : PySem.W.hasDictIn K C_Purse = true)
    (po_Purse : PySem.W.plainOver K C_Purse = true)
    (sa_Purse : PySem.W.findIn K (.ref C_Purse) "__setattr__" = some (some (.builtin "object.__setattr__")))
    (mk_Purse : PySem.W.makesIn K C_Purse = true)
    (kc_Purse : PySem.W.keepIn K (.ref C_Purse) = true)
    (pg_Fixed : PySem.W.plainGet K C_Fixed Str.empty = true)
    (hd_Fixed : PySem.W.hasDictIn K C_Fixed = true)
    (po_Fixed : PySem.W.plainOver K C_Fixed = true)
    (sa_Fixed : PySem.W.findIn K (.ref C_Fixed) "__setattr__" = some (some (.builtin "object.__setattr__")))
    (mk_Fixed : PySem.W.makesIn K C_Fixed = true)
    (kc_Fixed : PySem.W.keepIn K (.ref C_Fixed) = true)
    (pg_Fraction : PySem.W.plainGet K C_Fraction Str.empty = true)
    (hd_Fraction : PySem.W.hasDictIn K C_Fraction = true)
    (po_Fraction : PySem.W.plainOver K C_Fraction = true)
    (sa_Fraction : PySem.W.findIn K (.ref C_Fraction) "__setattr__" = some (some (.builtin "object.__setattr__")))
    (mk_Fraction : PySem.W.makesIn K C_Fraction = true)
    (kc_Fraction : PySem.W.keepIn K (.ref C_Fraction) = true)
    (pg_Root : PySem.W.plainGet K C_Root Str.empty = true)
    (hd_Root : PySem.W.hasDictIn K C_Root = true)
    (po_Root : PySem.W.plainOver K C_Root = true)
    (sa_Root : PySem.W.findIn K (.ref C_Root) "__setattr__" = some (some (.builtin "object.__setattr__")))
    (mk_Root : PySem.W.makesIn K C_Root = true)
    (kc_Root : PySem.W.keepIn K (.ref C_Root) = true)
    (pg_Ruled : PySem.W.plainGet K C_Ruled Str.empty = true)
    (hd_Ruled : PySem.W.hasDictIn K C_Ruled = true)
    (po_Ruled : PySem.W.plainOver K C_Ruled = true)
    (sa_Ruled : PySem.W.findIn K (.ref C_Ruled) "__setattr__" = some (some (.builtin "object.__setattr__")))
    (mk_Ruled : PySem.W.makesIn K C_Ruled = true)
    (kc_Ruled : PySem.W.keepIn K (.ref C_Ruled) = true)
    (pg_Four : PySem.W.plainGet K C_Four Str.empty = true)
    (hd_Four : PySem.W.hasDictIn K C_Four = true)
    (po_Four : PySem.W.plainOver K C_Four = true)
    (sa_Four : PySem.W.findIn K (.ref C_Four) "__setattr__" = some (some (.builtin "object.__setattr__")))
    (mk_Four : PySem.W.makesIn K C_Four = true)
    (kc_Four : PySem.W.keepIn K (.ref C_Four) = true)
    (pg_Eight : PySem.W.plainGet K C_Eight Str.empty = true)
    (hd_Eight : PySem.W.hasDictIn K C_Eight = true)
    (po_Eight : PySem.W.plainOver K C_Eight = true)
    (sa_Eight : PySem.W.findIn K (.ref C_Eight) "__setattr__" = some (some (.builtin "object.__setattr__")))
    (mk_Eight : PySem.W.makesIn K C_Eight = true)
    (kc_Eight : PySem.W.keepIn K (.ref C_Eight) = true)
    (a31_Purse : PySem.W.findIn K (.ref C_Purse) "__init__" = some (some (.ref f31)))
    (i31 : PySem.W.isFn K (.ref f31) = true)
    (l31 : K.lookup f31 = some ⟨oc31, od31, .func (PySem.W.fnOf "__init__" "Purse.__init__" (defArgs s_Purse___init__) (defBody s_Purse___init__) (defScope s_Purse___init__) .none kV31 dc31 pm31 an31 cd31 ct31), sl31⟩)
    (c31 : PySem.W.codeIn K cd31 "Purse.__init__" = true)
    (k31 : PySem.W.keepIn K (.ref f31) = true)
    (a32_Fixed : PySem.W.findIn K (.ref C_Fixed) "part" = some (some (.ref f32)))
    (a32_Fraction : PySem.W.findIn K (.ref C_Fraction) "part" = some (some (.ref f32)))
    (a32_Root : PySem.W.findIn K (.ref C_Root) "part" = some (some (.ref f32)))
    (a32_Ruled : PySem.W.findIn K (.ref C_Ruled) "part" = some (some (.ref f32)))
    (a32_Four : PySem.W.findIn K (.ref C_Four) "part" = some (some (.ref f32)))
    (a32_Eight : PySem.W.findIn K (.ref C_Eight) "part" = some (some (.ref f32)))
    (i32 : PySem.W.isFn K (.ref f32) = true)
    (l32 : K.lookup f32 = some ⟨oc32, od32, .func (PySem.W.fnOf "part" "Reader.part" (defArgs s_Reader_part) (defBody s_Reader_part) (defScope s_Reader_part) .none kV32 dc32 pm32 an32 cd32 ct32), sl32⟩)
    (c32 : PySem.W.codeIn K cd32 "Reader.part" = true)
    (k32 : PySem.W.keepIn K (.ref f32) = true)
    (a33_Fixed : PySem.W.findIn K (.ref C_Fixed) "took" = some (some (.ref f33)))
    (i33 : PySem.W.isFn K (.ref f33) = true)
    (l33 : K.lookup f33 = some ⟨oc33, od33, .func (PySem.W.fnOf "took" "Reader.took" (defArgs s_Reader_took) (defBody s_Reader_took) (defScope s_Reader_took) .none kV33 dc33 pm33 an33 cd33 ct33), sl33⟩)
    (c33 : PySem.W.codeIn K cd33 "Reader.took" = true)
    (k33 : PySem.W.keepIn K (.ref f33) = true)
    (a34_Fixed : PySem.W.findIn K (.ref C_Fixed) "__init__" = some (some (.ref f34)))
    (i34 : PySem.W.isFn K (.ref f34) = true)
    (l34 : K.lookup f34 = some ⟨oc34, od34, .func (PySem.W.fnOf "__init__" "Fixed.__init__" (defArgs s_Fixed___init__) (defBody s_Fixed___init__) (defScope s_Fixed___init__) .none kV34 dc34 pm34 an34 cd34 ct34), sl34⟩)
    (c34 : PySem.W.codeIn K cd34 "Fixed.__init__" = true)
    (k34 : PySem.W.keepIn K (.ref f34) = true)
    (a35_Fixed : PySem.W.findIn K (.ref C_Fixed) "told" = some (some (.ref f35)))
    (i35 : PySem.W.isFn K (.ref f35) = true)
    (l35 : K.lookup f35 = some ⟨oc35, od35, .func (PySem.W.fnOf "told" "Fixed.told" (defArgs s_Fixed_told) (defBody s_Fixed_told) (defScope s_Fixed_told) .none kV35 dc35 pm35 an35 cd35 ct35), sl35⟩)
    (c35 : PySem.W.codeIn K cd35 "Fixed.told" = true)
    (k35 : PySem.W.keepIn K (.ref f35) = true)
    (r36 : PySem.W.readsIn K C_Leaf (.type "type") = true)
    (ga36 : PySem.W.specialIn K (.ref C_Leaf) "__getattribute__" = some (some (.builtin "type.__getattribute__")))
    (fc36 : PySem.W.findCls K (.ref C_Leaf) (.type "type") "__init__" = some (.val (.ref f36)))
    (i36 : PySem.W.isFn K (.ref f36) = true)
    (l36 : K.lookup f36 = some ⟨oc36, od36, .func (PySem.W.fnOf "__init__" "Leaf.__init__" (defArgs s_Leaf___init__) (defBody s_Leaf___init__) (defScope s_Leaf___init__) .none kV36 dc36 pm36 an36 cd36 ct36), sl36⟩)
    (c36 : PySem.W.codeIn K cd36 "Leaf.__init__" = true)
    (k36 : PySem.W.keepIn K (.ref f36) = true)
    (a37_Fraction : PySem.W.findIn K (.ref C_Fraction) "told" = some (some (.ref f37)))
    (a37_Root : PySem.W.findIn K (.ref C_Root) "told" = some (some (.ref f37)))
    (a37_Ruled : PySem.W.findIn K (.ref C_Ruled) "told" = some (some (.ref f37)))
    (i37 : PySem.W.isFn K (.ref f37) = true)
    (l37 : K.lookup f37 = some ⟨oc37, od37, .func (PySem.W.fnOf "told" "Leaf.told" (defArgs s_Leaf_told) (defBody s_Leaf_told) (defScope s_Leaf_told) .none kV37 dc37 pm37 an37 cd37 ct37), sl37⟩)
    (c37 : PySem.W.codeIn K cd37 "Leaf.told" = true)
    (k37 : PySem.W.keepIn K (.ref f37) = true)
    (a38_Root : PySem.W.findIn K (.ref C_Root) "at_end" = some (some (.ref f38)))
    (i38 : PySem.W.isFn K (.ref f38) = true)
    (l38 : K.lookup f38 = some ⟨oc38, od38, .func (PySem.W.fnOf "at_end" "Leaf.at_end" (defArgs s_Leaf_at_end) (defBody s_Leaf_at_end) (defScope s_Leaf_at_end) .none kV38 dc38 pm38 an38 cd38 ct38), sl38⟩)
    (c38 : PySem.W.codeIn K cd38 "Leaf.at_end" = true)
    (k38 : PySem.W.keepIn K (.ref f38) = true)
    (a39_Fraction : PySem.W.findIn K (.ref C_Fraction) "took" = some (some (.ref f39)))
    (a39_Root : PySem.W.findIn K (.ref C_Root) "took" = some (some (.ref f39)))
    (a39_Ruled : PySem.W.findIn K (.ref C_Ruled) "took" = some (some (.ref f39)))
    (i39 : PySem.W.isFn K (.ref f39) = true)
    (l39 : K.lookup f39 = some ⟨oc39, od39, .func (PySem.W.fnOf "took" "Leaf.took" (defArgs s_Leaf_took) (defBody s_Leaf_took) (defScope s_Leaf_took) .none kV39 dc39 pm39 an39 cd39 ct39), sl39⟩)
    (c39 : PySem.W.codeIn K cd39 "Leaf.took" = true)
    (k39 : PySem.W.keepIn K (.ref f39) = true)
    (a40_Fraction : PySem.W.findIn K (.ref C_Fraction) "__init__" = some (some (.ref f40)))
    (i40 : PySem.W.isFn K (.ref f40) = true)
    (l40 : K.lookup f40 = some ⟨oc40, od40, .func (PySem.W.fnOf "__init__" "Fraction.__init__" (defArgs s_Fraction___init__) (defBody s_Fraction___init__) (defScope s_Fraction___init__) .none kV40 dc40 pm40 an40 cd40 ct40), sl40⟩)
    (c40 : PySem.W.codeIn K cd40 "Fraction.__init__" = true)
    (k40 : PySem.W.keepIn K (.ref f40) = true)
    (a41_Fraction : PySem.W.findIn K (.ref C_Fraction) "at_end" = some (some (.ref f41)))
    (i41 : PySem.W.isFn K (.ref f41) = true)
    (l41 : K.lookup f41 = some ⟨oc41, od41, .func (PySem.W.fnOf "at_end" "Fraction.at_end" (defArgs s_Fraction_at_end) (defBody s_Fraction_at_end) (defScope s_Fraction_at_end) .none kV41 dc41 pm41 an41 cd41 ct41), sl41⟩)
    (c41 : PySem.W.codeIn K cd41 "Fraction.at_end" = true)
    (k41 : PySem.W.keepIn K (.ref f41) = true)
    (a42_Fraction : PySem.W.findIn K (.ref C_Fraction) "following" = some (some (.ref f42)))
    (i42 : PySem.W.isFn K (.ref f42) = true)
    (l42 : K.lookup f42 = some ⟨oc42, od42, .func (PySem.W.fnOf "following" "Fraction.following" (defArgs s_Fraction_following) (defBody s_Fraction_following) (defScope s_Fraction_following) .none kV42 dc42 pm42 an42 cd42 ct42), sl42⟩)
    (c42 : PySem.W.codeIn K cd42 "Fraction.following" = true)
    (k42 : PySem.W.keepIn K (.ref f42) = true)
    (a43_Root : PySem.W.findIn K (.ref C_Root) "__init__" = some (some (.ref f43)))
    (i43 : PySem.W.isFn K (.ref f43) = true)
    (l43 : K.lookup f43 = some ⟨oc43, od43, .func (PySem.W.fnOf "__init__" "Root.__init__" (defArgs s_Root___init__) (defBody s_Root___init__) (defScope s_Root___init__) .none kV43 dc43 pm43 an43 cd43 ct43), sl43⟩)
    (c43 : PySem.W.codeIn K cd43 "Root.__init__" = true)
    (k43 : PySem.W.keepIn K (.ref f43) = true)
    (a44_Root : PySem.W.findIn K (.ref C_Root) "following" = some (some (.ref f44)))
    (i44 : PySem.W.isFn K (.ref f44) = true)
    (l44 : K.lookup f44 = some ⟨oc44, od44, .func (PySem.W.fnOf "following" "Root.following" (defArgs s_Root_following) (defBody s_Root_following) (defScope s_Root_following) .none kV44 dc44 pm44 an44 cd44 ct44), sl44⟩)
    (c44 : PySem.W.codeIn K cd44 "Root.following" = true)
    (k44 : PySem.W.keepIn K (.ref f44) = true)
    (a45_Ruled : PySem.W.findIn K (.ref C_Ruled) "__init__" = some (some (.ref f45)))
    (i45 : PySem.W.isFn K (.ref f45) = true)
    (l45 : K.lookup f45 = some ⟨oc45, od45, .func (PySem.W.fnOf "__init__" "Ruled.__init__" (defArgs s_Ruled___init__) (defBody s_Ruled___init__) (defScope s_Ruled___init__) .none kV45 dc45 pm45 an45 cd45 ct45), sl45⟩)
    (c45 : PySem.W.codeIn K cd45 "Ruled.__init__" = true)
    (k45 : PySem.W.keepIn K (.ref f45) = true)
    (a46_Ruled : PySem.W.findIn K (.ref C_Ruled) "at_end" = some (some (.ref f46)))
    (i46 : PySem.W.isFn K (.ref f46) = true)
    (l46 : K.lookup f46 = some ⟨oc46, od46, .func (PySem.W.fnOf "at_end" "Ruled.at_end" (defArgs s_Ruled_at_end) (defBody s_Ruled_at_end) (defScope s_Ruled_at_end) .none kV46 dc46 pm46 an46 cd46 ct46), sl46⟩)
    (c46 : PySem.W.codeIn K cd46 "Ruled.at_end" = true)
    (k46 : PySem.W.keepIn K (.ref f46) = true)
    (a47_Ruled : PySem.W.findIn K (.ref C_Ruled) "following" = some (some (.ref f47)))
    (i47 : PySem.W.isFn K (.ref f47) = true)
    (l47 : K.lookup f47 = some ⟨oc47, od47, .func (PySem.W.fnOf "following" "Ruled.following" (defArgs s_Ruled_following) (defBody s_Ruled_following) (defScope s_Ruled_following) .none kV47 dc47 pm47 an47 cd47 ct47), sl47⟩)
    (c47 : PySem.W.codeIn K cd47 "Ruled.following" = true)
    (k47 : PySem.W.keepIn K (.ref f47) = true)
    (a48_Four : PySem.W.findIn K (.ref C_Four) "__init__" = some (some (.ref f48)))
    (i48 : PySem.W.isFn K (.ref f48) = true)
    (l48 : K.lookup f48 = some ⟨oc48, od48, .func (PySem.W.fnOf "__init__" "Four.__init__" (defArgs s_Four___init__) (defBody s_Four___init__) (defScope s_Four___init__) .none kV48 dc48 pm48 an48 cd48 ct48), sl48⟩)
    (c48 : PySem.W.codeIn K cd48 "Four.__init__" = true)
    (k48 : PySem.W.keepIn K (.ref f48) = true)
    (a49_Four : PySem.W.findIn K (.ref C_Four) "took" = some (some (.ref f49)))
    (i49 : PySem.W.isFn K (.ref f49) = true)
    (l49 : K.lookup f49 = some ⟨oc49, od49, .func (PySem.W.fnOf "took" "Four.took" (defArgs s_Four_took) (defBody s_Four_took) (defScope s_Four_took) .none kV49 dc49 pm49 an49 cd49 ct49), sl49⟩)
    (c49 : PySem.W.codeIn K cd49 "Four.took" = true)
    (k49 : PySem.W.keepIn K (.ref f49) = true)
    (a50_Four : PySem.W.findIn K (.ref C_Four) "sure" = some (some (.ref f50)))
    (i50 : PySem.W.isFn K (.ref f50) = true)
    (l50 : K.lookup f50 = some ⟨oc50, od50, .func (PySem.W.fnOf "sure" "Four.sure" (defArgs s_Four_sure) (defBody s_Four_sure) (defScope s_Four_sure) .none kV50 dc50 pm50 an50 cd50 ct50), sl50⟩)
    (c50 : PySem.W.codeIn K cd50 "Four.sure" = true)
    (k50 : PySem.W.keepIn K (.ref f50) = true)
    (a51_Four : PySem.W.findIn K (.ref C_Four) "told" = some (some (.ref f51)))
    (i51 : PySem.W.isFn K (.ref f51) = true)
    (l51 : K.lookup f51 = some ⟨oc51, od51, .func (PySem.W.fnOf "told" "Four.told" (defArgs s_Four_told) (defBody s_Four_told) (defScope s_Four_told) .none kV51 dc51 pm51 an51 cd51 ct51), sl51⟩)
    (c51 : PySem.W.codeIn K cd51 "Four.told" = true)
    (k51 : PySem.W.keepIn K (.ref f51) = true)
    (a52_Eight : PySem.W.findIn K (.ref C_Eight) "__init__" = some (some (.ref f52)))
    (i52 : PySem.W.isFn K (.ref f52) = true)
    (l52 : K.lookup f52 = some ⟨oc52, od52, .func (PySem.W.fnOf "__init__" "Eight.__init__" (defArgs s_Eight___init__) (defBody s_Eight___init__) (defScope s_Eight___init__) .none kV52 dc52 pm52 an52 cd52 ct52), sl52⟩)
    (c52 : PySem.W.codeIn K cd52 "Eight.__init__" = true)
    (k52 : PySem.W.keepIn K (.ref f52) = true)
    (a53_Eight : PySem.W.findIn K (.ref C_Eight) "took" = some (some (.ref f53)))
    (i53 : PySem.W.isFn K (.ref f53) = true)
    (l53 : K.lookup f53 = some ⟨oc53, od53, .func (PySem.W.fnOf "took" "Eight.took" (defArgs s_Eight_took) (defBody s_Eight_took) (defScope s_Eight_took) .none kV53 dc53 pm53 an53 cd53 ct53), sl53⟩)
    (c53 : PySem.W.codeIn K cd53 "Eight.took" = true)
    (k53 : PySem.W.keepIn K (.ref f53) = true)
    (a54_Eight : PySem.W.findIn K (.ref C_Eight) "sure" = some (some (.ref f54)))
    (i54 : PySem.W.isFn K (.ref f54) = true)
    (l54 : K.lookup f54 = some ⟨oc54, od54, .func (PySem.W.fnOf "sure" "Eight.sure" (defArgs s_Eight_sure) (defBody s_Eight_sure) (defScope s_Eight_sure) .none kV54 dc54 pm54 an54 cd54 ct54), sl54⟩)
    (c54 : PySem.W.codeIn K cd54 "Eight.sure" = true)
    (k54 : PySem.W.keepIn K (.ref f54) = true)
    (a55_Eight : PySem.W.findIn K (.ref C_Eight) "told" = some (some (.ref f55)))
    (i55 : PySem.W.isFn K (.ref f55) = true)
    (l55 : K.lookup f55 = some ⟨oc55, od55, .func (PySem.W.fnOf "told" "Eight.told" (defArgs s_Eight_told) (defBody s_Eight_told) (defScope s_Eight_told) .none kV55 dc55 pm55 an55 cd55 ct55), sl55⟩)
    (c55 : PySem.W.codeIn K cd55 "Eight.told" = true)
    (k55 : PySem.W.keepIn K (.ref f55) = true)
    (a56_Eight : PySem.W.findIn K (.ref C_Eight) "take" = some (some (.ref f56)))
    (i56 : PySem.W.isFn K (.ref f56) = true)
    (l56 : K.lookup f56 = some ⟨oc56, od56, .func (PySem.W.fnOf "take" "Eight.take" (defArgs s_Eight_take) (defBody s_Eight_take) (defScope s_Eight_take) .none kV56 dc56 pm56 an56 cd56 ct56), sl56⟩)
    (c56 : PySem.W.codeIn K cd56 "Eight.take" = true)
    (k56 : PySem.W.keepIn K (.ref f56) = true)
    (a57_Eight : PySem.W.findIn K (.ref C_Eight) "left_of" = some (some (.ref f57)))
    (i57 : PySem.W.isFn K (.ref f57) = true)
    (l57 : K.lookup f57 = some ⟨oc57, od57, .func (PySem.W.fnOf "left_of" "Eight.left_of" (defArgs s_Eight_left_of) (defBody s_Eight_left_of) (defScope s_Eight_left_of) .none kV57 dc57 pm57 an57 cd57 ct57), sl57⟩)
    (c57 : PySem.W.codeIn K cd57 "Eight.left_of" = true)
    (k57 : PySem.W.keepIn K (.ref f57) = true)
    (n_Purse_left : PySem.W.findIn K (.ref C_Purse) "left" = some none)
    (n_Fixed_top : PySem.W.findIn K (.ref C_Fixed) "top" = some none)
    (n_Fixed_below : PySem.W.findIn K (.ref C_Fixed) "below" = some none)
    (n_Fixed_begun : PySem.W.findIn K (.ref C_Fixed) "begun" = some none)
    (n_Fraction_many : PySem.W.findIn K (.ref C_Fraction) "many" = some none)
    (n_Fraction_top : PySem.W.findIn K (.ref C_Fraction) "top" = some none)
    (n_Fraction_below : PySem.W.findIn K (.ref C_Fraction) "below" = some none)
    (n_Root_many : PySem.W.findIn K (.ref C_Root) "many" = some none)
    (n_Root_top : PySem.W.findIn K (.ref C_Root) "top" = some none)
    (n_Root_square : PySem.W.findIn K (.ref C_Root) "square" = some none)
    (n_Root_below : PySem.W.findIn K (.ref C_Root) "below" = some none)
    (n_Root_floor : PySem.W.findIn K (.ref C_Root) "floor" = some none)
    (n_Ruled_many : PySem.W.findIn K (.ref C_Ruled) "many" = some none)
    (n_Ruled_first : PySem.W.findIn K (.ref C_Ruled) "first" = some none)
    (n_Ruled_ring : PySem.W.findIn K (.ref C_Ruled) "ring" = some none)
    (n_Ruled_steps : PySem.W.findIn K (.ref C_Ruled) "steps" = some none)
    (n_Four_numbers : PySem.W.findIn K (.ref C_Four) "numbers" = some none)
    (n_Four_inner : PySem.W.findIn K (.ref C_Four) "inner" = some none)
    (n_Four_ready : PySem.W.findIn K (.ref C_Four) "ready" = some none)
    (n_Four_begun : PySem.W.findIn K (.ref C_Four) "begun" = some none)
    (n_Four_fixed : PySem.W.findIn K (.ref C_Four) "fixed" = some none)
    (n_Eight_numbers : PySem.W.findIn K (.ref C_Eight) "numbers" = some none)
    (n_Eight_inners : PySem.W.findIn K (.ref C_Eight) "inners" = some none)
    (n_Eight_many : PySem.W.findIn K (.ref C_Eight) "many" = some none)
    (n_Eight_begun : PySem.W.findIn K (.ref C_Eight) "begun" = some none)
    (n_Eight_rest : PySem.W.findIn K (.ref C_Eight) "rest" = some none)
    (xf_BadTree : PySem.W.excIn K C_BadTree [.type "ValueError", .type "Exception", .type "BaseException", .type "object"] "ValueError.__new__" = true)
    (kp_BadTree : PySem.W.keepIn K (.ref C_BadTree) = true)
    (sb_BadTree : PySem.W.subIn K (.ref C_BadTree) (.type "BaseException") = some true)
    (ty_BadTree : PySem.W.typeIn K (.ref C_BadTree) = some (.type "type"))
    (xf_NoValue : PySem.W.excIn K C_NoValue [.type "ValueError", .type "Exception", .type "BaseException", .type "object"] "ValueError.__new__" = true)
    (kp_NoValue : PySem.W.keepIn K (.ref C_NoValue) = true)
    (sb_NoValue : PySem.W.subIn K (.ref C_NoValue) (.type "BaseException") = some true)
    (ty_NoValue : PySem.W.typeIn K (.ref C_NoValue) = some (.type "type"))
    (hd_NoValue : PySem.W.hasDictIn K C_NoValue = true)
    (su_BadTree_NoValue : PySem.W.subIn K (.ref C_BadTree) (.ref C_NoValue) = some false)
    (su_NoValue_NoValue : PySem.W.subIn K (.ref C_NoValue) (.ref C_NoValue) = some true)
    (g_DEEPEST : PySem.W.nsIn K mainGlobals "DEEPEST" = some (some (.int 5 t_DEEPEST)))
    (g_MOST_NUMBER : PySem.W.nsIn K mainGlobals "MOST_NUMBER" = some (some (.int 1000000000000 t_MOST_NUMBER)))
    (g_MOST_PARTS : PySem.W.nsIn K mainGlobals "MOST_PARTS" = some (some (.int 12 t_MOST_PARTS)))
    (g_MOST_POWER : PySem.W.nsIn K mainGlobals "MOST_POWER" = some (some (.int 4 t_MOST_POWER)))
    (g_TIMES : PySem.W.nsIn K mainGlobals "TIMES" = some (some (.ref A_TIMES)))
    (l_TIMES : K.lookup A_TIMES = some ⟨.type "tuple", oT_TIMES, .seq #[.int 1 t0_TIMES, .int 0 t1_TIMES, .int 0 t2_TIMES, .int 0 t3_TIMES, .int 0 t4_TIMES, .int 0 t5_TIMES, .int 0 t6_TIMES, .int 1 t7_TIMES] nT_TIMES, sT_TIMES⟩)
    (z_divmod : PySem.W.nsIn K mainGlobals "divmod" = some none)
    (z_abs : PySem.W.nsIn K mainGlobals "abs" = some none)
    (z_bool : PySem.W.nsIn K mainGlobals "bool" = some none)
    (z_int : PySem.W.nsIn K mainGlobals "int" = some none)
    (z_isinstance : PySem.W.nsIn K mainGlobals "isinstance" = some none)
    (z_len : PySem.W.nsIn K mainGlobals "len" = some none)
    (z_list : PySem.W.nsIn K mainGlobals "list" = some none)
    (z_max : PySem.W.nsIn K mainGlobals "max" = some none)
    (z_min : PySem.W.nsIn K mainGlobals "min" = some none)
    (z_range : PySem.W.nsIn K mainGlobals "range" = some none)
    (z_reversed : PySem.W.nsIn K mainGlobals "reversed" = some none)
    (z_str : PySem.W.nsIn K mainGlobals "str" = some none)
    (z_sum : PySem.W.nsIn K mainGlobals "sum" = some none)
    (z_tuple : PySem.W.nsIn K mainGlobals "tuple" = some none)
    (z_zip : PySem.W.nsIn K mainGlobals "zip" = some none)
    : ∃ fd : FuncData, (∀ (s : Shared) (v : Value), BindsTo s fd ⟨[v], []⟩ [("_law_script", v)]) ∧ ∀ base : Heap, K.In base → base.Ns mainGlobals mg → Seer l.prog base → FnOk l.prog w K mg base (L2.CX l.prog w) 83 fa fd ["_law_script"] (spA K (caOf K) F_law) := by
  have e := hfa.symm.trans (PySem.W.mg_of X G a30)
  cases e
  have T : Txt K mg { c_Purse := C_Purse, c_Fixed := C_Fixed, c_Fraction := C_Fraction, c_Root := C_Root, c_Ruled := C_Ruled, c_Four := C_Four, c_Eight := C_Eight, c_BadTree := C_BadTree, c_NoValue := C_NoValue, a_TIMES := A_TIMES } := ⟨dfn X G a0 l0 c0 k0 (fun _ _ _ _ _ _ us hl => match us, hl with | [_], _ => rfl),
    dfn X G a1 l1 c1 k1 (fun _ _ _ _ _ _ us hl => match us, hl with | [_, _, _], _ => rfl),
    dfn X G a2 l2 c2 k2 (fun _ _ _ _ _ _ us hl => match us, hl with | [_], _ => rfl),
    dfn X G a3 l3 c3 k3 (fun _ _ _ _ _ _ us hl => match us, hl with | [_], _ => rfl),
    dfn X G a4 l4 c4 k4 (fun _ _ _ _ _ _ us hl => match us, hl with | [_], _ => rfl),
    dfn X G a5 l5 c5 k5 (fun _ _ _ _ _ _ us hl => match us, hl with | [_, _, _], _ => rfl),
    dfn X G a6 l6 c6 k6 (fun _ _ _ _ _ _ us hl => match us, hl with | [_], _ => rfl),
    dfn X G a7 l7 c7 k7 (fun _ _ _ _ _ _ us hl => match us, hl with | [_, _], _ => rfl),
    dfn X G a8 l8 c8 k8 (fun _ _ _ _ _ _ us hl => match us, hl with | [_], _ => rfl),
    dfn X G a9 l9 c9 k9 (fun _ _ _ _ _ _ us hl => match us, hl with | [_], _ => rfl),
    dfn X G a10 l10 c10 k10 (fun _ _ _ _ _ _ us hl => match us, hl with | [_], _ => rfl),
    dfn X G a11 l11 c11 k11 (fun _ _ _ _ _ _ us hl => match us, hl with | [_, _], _ => rfl),
    dfn X G a12 l12 c12 k12 (fun _ _ _ _ _ _ us hl => match us, hl with | [_], _ => rfl),
    dfn X G a13 l13 c13 k13 (fun _ _ _ _ _ _ us hl => match us, hl with | [_, _], _ => rfl),
    dfn X G a14 l14 c14 k14 (fun _ _ _ _ _ _ us hl => match us, hl with | [_], _ => rfl),
    dfn X G a15 l15 c15 k15 (fun _ _ _ _ _ _ us hl => match us, hl with | [_, _], _ => rfl),
    dfn X G a16 l16 c16 k16 (fun _ _ _ _ _ _ us hl => match us, hl with | [_, _], _ => rfl),
    dfn X G a17 l17 c17 k17 (fun _ _ _ _ _ _ us hl => match us, hl with | [_], _ => rfl),
    dfn X G a18 l18 c18 k18 (fun _ _ _ _ _ _ us hl => match us, hl with | [_, _, _], _ => rfl),
    dfn X G a19 l19 c19 k19 (fun _ _ _ _ _ _ us hl => match us, hl with | [_, _, _], _ => rfl),
    dfn X G a20 l20 c20 k20 (fun _ _ _ _ _ _ us hl => match us, hl with | [_, _, _], _ => rfl),
    dfn X G a21 l21 c21 k21 (fun _ _ _ _ _ _ us hl => match us, hl with | [_, _, _], _ => rfl),
    dfn X G a22 l22 c22 k22 (fun _ _ _ _ _ _ us hl => match us, hl with | [_, _], _ => rfl),
    dfn X G a23 l23 c23 k23 (fun _ _ _ _ _ _ us hl => match us, hl with | [_, _, _], _ => rfl),
    dfn X G a24 l24 c24 k24 (fun _ _ _ _ _ _ us hl => match us, hl with | [_, _], _ => rfl),
    dfn X G a25 l25 c25 k25 (fun _ _ _ _ _ _ us hl => match us, hl with | [_, _, _], _ => rfl),
    dfn X G a26 l26 c26 k26 (fun _ _ _ _ _ _ us hl => match us, hl with | [_], _ => rfl),
    dfn X G a27 l27 c27 k27 (fun _ _ _ _ _ _ us hl => match us, hl with | [_, _], _ => rfl),
    dfn X G a28 l28 c28 k28 (fun _ _ _ _ _ _ us hl => match us, hl with | [_, _, _], _ => rfl),
    dfn X G a29 l29 c29 k29 (fun _ _ _ _ _ _ us hl => match us, hl with | [_], _ => rfl),
    dfn X G a30 l30 c30 k30 (fun _ _ _ _ _ _ us hl => match us, hl with | [_], _ => rfl),
    ⟨⟨f31, _, fun_mk (st := s_Purse___init__) l31 c31 k31, (fun_mk (st := s_Purse___init__) l31 c31 k31).binds (ps := ["self", "left"]) (fun _ _ _ _ _ _ us hl => match us, hl with | [_, _], _ => rfl), ⟨mk_Purse, a31_Purse, i31, kc_Purse⟩, ⟨pg_Purse, hd_Purse, po_Purse, sa_Purse⟩, PySem.W.mg_of X G g_Purse⟩⟩,
    ⟨⟨f32, _, fun_mk (st := s_Reader_part) l32 c32 k32, (fun_mk (st := s_Reader_part) l32 c32 k32).binds (ps := ["self", "most"]) (fun _ _ _ _ _ _ us hl => match us, hl with | [_, _], _ => rfl), (fun D hD => by simp only [List.mem_cons, List.not_mem_nil, or_false] at hD; rcases hD with rfl | rfl | rfl | rfl | rfl | rfl <;> first | exact ⟨a32_Fixed, i32, k32⟩ | exact ⟨a32_Fraction, i32, k32⟩ | exact ⟨a32_Root, i32, k32⟩ | exact ⟨a32_Ruled, i32, k32⟩ | exact ⟨a32_Four, i32, k32⟩ | exact ⟨a32_Eight, i32, k32⟩)⟩⟩,
    ⟨⟨f33, _, fun_mk (st := s_Reader_took) l33 c33 k33, (fun_mk (st := s_Reader_took) l33 c33 k33).binds (ps := ["self"]) (fun _ _ _ _ _ _ us hl => match us, hl with | [_], _ => rfl), (fun D hD => by simp only [List.mem_cons, List.not_mem_nil, or_false] at hD; rcases hD with rfl <;> first | exact ⟨a33_Fixed, i33, k33⟩)⟩⟩,
    ⟨⟨f34, _, fun_mk (st := s_Fixed___init__) l34 c34 k34, (fun_mk (st := s_Fixed___init__) l34 c34 k34).binds (ps := ["self", "top", "below", "begun"]) (fun _ _ _ _ _ _ us hl => match us, hl with | [_, _, _, _], _ => rfl), ⟨mk_Fixed, a34_Fixed, i34, kc_Fixed⟩, ⟨pg_Fixed, hd_Fixed, po_Fixed, sa_Fixed⟩, PySem.W.mg_of X G g_Fixed⟩⟩,
    ⟨⟨f35, _, fun_mk (st := s_Fixed_told) l35 c35 k35, (fun_mk (st := s_Fixed_told) l35 c35 k35).binds (ps := ["self", "purse"]) (fun _ _ _ _ _ _ us hl => match us, hl with | [_, _], _ => rfl), (fun D hD => by simp only [List.mem_cons, List.not_mem_nil, or_false] at hD; rcases hD with rfl <;> first | exact ⟨a35_Fixed, i35, k35⟩)⟩⟩,
    ⟨⟨C_Leaf, .type "type", f36, _, fun_mk (st := s_Leaf___init__) l36 c36 k36, (fun_mk (st := s_Leaf___init__) l36 c36 k36).binds (ps := ["self"]) (fun _ _ _ _ _ _ us hl => match us, hl with | [_], _ => rfl), ⟨⟨r36, ga36⟩, fc36, k36⟩, PySem.W.mg_of X G g_Leaf⟩⟩,
    ⟨⟨f37, _, fun_mk (st := s_Leaf_told) l37 c37 k37, (fun_mk (st := s_Leaf_told) l37 c37 k37).binds (ps := ["self", "purse"]) (fun _ _ _ _ _ _ us hl => match us, hl with | [_, _], _ => rfl), (fun D hD => by simp only [List.mem_cons, List.not_mem_nil, or_false] at hD; rcases hD with rfl | rfl | rfl <;> first | exact ⟨a37_Fraction, i37, k37⟩ | exact ⟨a37_Root, i37, k37⟩ | exact ⟨a37_Ruled, i37, k37⟩)⟩⟩,
    ⟨⟨f38, _, fun_mk (st := s_Leaf_at_end) l38 c38 k38, (fun_mk (st := s_Leaf_at_end) l38 c38 k38).binds (ps := ["self"]) (fun _ _ _ _ _ _ us hl => match us, hl with | [_], _ => rfl), (fun D hD => by simp only [List.mem_cons, List.not_mem_nil, or_false] at hD; rcases hD with rfl <;> first | exact ⟨a38_Root, i38, k38⟩)⟩⟩,
    ⟨⟨f39, _, fun_mk (st := s_Leaf_took) l39 c39 k39, (fun_mk (st := s_Leaf_took) l39 c39 k39).binds (ps := ["self"]) (fun _ _ _ _ _ _ us hl => match us, hl with | [_], _ => rfl), (fun D hD => by simp only [List.mem_cons, List.not_mem_nil, or_false] at hD; rcases hD with rfl | rfl | rfl <;> first | exact ⟨a39_Fraction, i39, k39⟩ | exact ⟨a39_Root, i39, k39⟩ | exact ⟨a39_Ruled, i39, k39⟩)⟩⟩,
    ⟨⟨f40, _, fun_mk (st := s_Fraction___init__) l40 c40 k40, (fun_mk (st := s_Fraction___init__) l40 c40 k40).binds (ps := ["self", "top", "below"]) (fun _ _ _ _ _ _ us hl => match us, hl with | [_, _, _], _ => rfl), ⟨mk_Fraction, a40_Fraction, i40, kc_Fraction⟩, ⟨pg_Fraction, hd_Fraction, po_Fraction, sa_Fraction⟩, PySem.W.mg_of X G g_Fraction⟩⟩,
    ⟨⟨f41, _, fun_mk (st := s_Fraction_at_end) l41 c41 k41, (fun_mk (st := s_Fraction_at_end) l41 c41 k41).binds (ps := ["self"]) (fun _ _ _ _ _ _ us hl => match us, hl with | [_], _ => rfl), (fun D hD => by simp only [List.mem_cons, List.not_mem_nil, or_false] at hD; rcases hD with rfl <;> first | exact ⟨a41_Fraction, i41, k41⟩)⟩⟩,
    ⟨⟨f42, _, fun_mk (st := s_Fraction_following) l42 c42 k42, (fun_mk (st := s_Fraction_following) l42 c42 k42).binds (ps := ["self"]) (fun _ _ _ _ _ _ us hl => match us, hl with | [_], _ => rfl), (fun D hD => by simp only [List.mem_cons, List.not_mem_nil, or_false] at hD; rcases hD with rfl <;> first | exact ⟨a42_Fraction, i42, k42⟩)⟩⟩,
    ⟨⟨f43, _, fun_mk (st := s_Root___init__) l43 c43 k43, (fun_mk (st := s_Root___init__) l43 c43 k43).binds (ps := ["self", "top", "square", "below"]) (fun _ _ _ _ _ _ us hl => match us, hl with | [_, _, _, _], _ => rfl), ⟨mk_Root, a43_Root, i43, kc_Root⟩, ⟨pg_Root, hd_Root, po_Root, sa_Root⟩, PySem.W.mg_of X G g_Root⟩⟩,
    ⟨⟨f44, _, fun_mk (st := s_Root_following) l44 c44 k44, (fun_mk (st := s_Root_following) l44 c44 k44).binds (ps := ["self"]) (fun _ _ _ _ _ _ us hl => match us, hl with | [_], _ => rfl), (fun D hD => by simp only [List.mem_cons, List.not_mem_nil, or_false] at hD; rcases hD with rfl <;> first | exact ⟨a44_Root, i44, k44⟩)⟩⟩,
    ⟨⟨f45, _, fun_mk (st := s_Ruled___init__) l45 c45 k45, (fun_mk (st := s_Ruled___init__) l45 c45 k45).binds (ps := ["self", "parts", "ring", "steps"]) (fun _ _ _ _ _ _ us hl => match us, hl with | [_, _, _, _], _ => rfl), ⟨mk_Ruled, a45_Ruled, i45, kc_Ruled⟩, ⟨pg_Ruled, hd_Ruled, po_Ruled, sa_Ruled⟩, PySem.W.mg_of X G g_Ruled⟩⟩,
    ⟨⟨f46, _, fun_mk (st := s_Ruled_at_end) l46 c46 k46, (fun_mk (st := s_Ruled_at_end) l46 c46 k46).binds (ps := ["self"]) (fun _ _ _ _ _ _ us hl => match us, hl with | [_], _ => rfl), (fun D hD => by simp only [List.mem_cons, List.not_mem_nil, or_false] at hD; rcases hD with rfl <;> first | exact ⟨a46_Ruled, i46, k46⟩)⟩⟩,
    ⟨⟨f47, _, fun_mk (st := s_Ruled_following) l47 c47 k47, (fun_mk (st := s_Ruled_following) l47 c47 k47).binds (ps := ["self"]) (fun _ _ _ _ _ _ us hl => match us, hl with | [_], _ => rfl), (fun D hD => by simp only [List.mem_cons, List.not_mem_nil, or_false] at hD; rcases hD with rfl <;> first | exact ⟨a47_Ruled, i47, k47⟩)⟩⟩,
    ⟨⟨f48, _, fun_mk (st := s_Four___init__) l48 c48 k48, (fun_mk (st := s_Four___init__) l48 c48 k48).binds (ps := ["self", "numbers", "inner", "ready", "begun"]) (fun _ _ _ _ _ _ us hl => match us, hl with | [_, _, _, _, _], _ => rfl), ⟨mk_Four, a48_Four, i48, kc_Four⟩, ⟨pg_Four, hd_Four, po_Four, sa_Four⟩, PySem.W.mg_of X G g_Four⟩⟩,
    ⟨⟨f49, _, fun_mk (st := s_Four_took) l49 c49 k49, (fun_mk (st := s_Four_took) l49 c49 k49).binds (ps := ["self"]) (fun _ _ _ _ _ _ us hl => match us, hl with | [_], _ => rfl), (fun D hD => by simp only [List.mem_cons, List.not_mem_nil, or_false] at hD; rcases hD with rfl <;> first | exact ⟨a49_Four, i49, k49⟩)⟩⟩,
    ⟨⟨f50, _, fun_mk (st := s_Four_sure) l50 c50 k50, (fun_mk (st := s_Four_sure) l50 c50 k50).binds (ps := ["self"]) (fun _ _ _ _ _ _ us hl => match us, hl with | [_], _ => rfl), (fun D hD => by simp only [List.mem_cons, List.not_mem_nil, or_false] at hD; rcases hD with rfl <;> first | exact ⟨a50_Four, i50, k50⟩)⟩⟩,
    ⟨⟨f51, _, fun_mk (st := s_Four_told) l51 c51 k51, (fun_mk (st := s_Four_told) l51 c51 k51).binds (ps := ["self", "purse"]) (fun _ _ _ _ _ _ us hl => match us, hl with | [_, _], _ => rfl), (fun D hD => by simp only [List.mem_cons, List.not_mem_nil, or_false] at hD; rcases hD with rfl <;> first | exact ⟨a51_Four, i51, k51⟩)⟩⟩,
    ⟨⟨f52, _, fun_mk (st := s_Eight___init__) l52 c52 k52, (fun_mk (st := s_Eight___init__) l52 c52 k52).binds (ps := ["self", "numbers", "one", "other"]) (fun _ _ _ _ _ _ us hl => match us, hl with | [_, _, _, _], _ => rfl), ⟨mk_Eight, a52_Eight, i52, kc_Eight⟩, ⟨pg_Eight, hd_Eight, po_Eight, sa_Eight⟩, PySem.W.mg_of X G g_Eight⟩⟩,
    ⟨⟨f53, _, fun_mk (st := s_Eight_took) l53 c53 k53, (fun_mk (st := s_Eight_took) l53 c53 k53).binds (ps := ["self"]) (fun _ _ _ _ _ _ us hl => match us, hl with | [_], _ => rfl), (fun D hD => by simp only [List.mem_cons, List.not_mem_nil, or_false] at hD; rcases hD with rfl <;> first | exact ⟨a53_Eight, i53, k53⟩)⟩⟩,
    ⟨⟨f54, _, fun_mk (st := s_Eight_sure) l54 c54 k54, (fun_mk (st := s_Eight_sure) l54 c54 k54).binds (ps := ["self"]) (fun _ _ _ _ _ _ us hl => match us, hl with | [_], _ => rfl), (fun D hD => by simp only [List.mem_cons, List.not_mem_nil, or_false] at hD; rcases hD with rfl <;> first | exact ⟨a54_Eight, i54, k54⟩)⟩⟩,
    ⟨⟨f55, _, fun_mk (st := s_Eight_told) l55 c55 k55, (fun_mk (st := s_Eight_told) l55 c55 k55).binds (ps := ["self", "purse"]) (fun _ _ _ _ _ _ us hl => match us, hl with | [_, _], _ => rfl), (fun D hD => by simp only [List.mem_cons, List.not_mem_nil, or_false] at hD; rcases hD with rfl <;> first | exact ⟨a55_Eight, i55, k55⟩)⟩⟩,
    ⟨⟨f56, _, fun_mk (st := s_Eight_take) l56 c56 k56, (fun_mk (st := s_Eight_take) l56 c56 k56).binds (ps := ["self", "which", "part"]) (fun _ _ _ _ _ _ us hl => match us, hl with | [_, _, _], _ => rfl), (fun D hD => by simp only [List.mem_cons, List.not_mem_nil, or_false] at hD; rcases hD with rfl <;> first | exact ⟨a56_Eight, i56, k56⟩)⟩⟩,
    ⟨⟨f57, _, fun_mk (st := s_Eight_left_of) l57 c57 k57, (fun_mk (st := s_Eight_left_of) l57 c57 k57).binds (ps := ["self", "which"]) (fun _ _ _ _ _ _ us hl => match us, hl with | [_, _], _ => rfl), (fun D hD => by simp only [List.mem_cons, List.not_mem_nil, or_false] at hD; rcases hD with rfl <;> first | exact ⟨a57_Eight, i57, k57⟩)⟩⟩,
    n_Purse_left,
    n_Fixed_top,
    n_Fixed_below,
    n_Fixed_begun,
    n_Fraction_many,
    n_Fraction_top,
    n_Fraction_below,
    n_Root_many,
    n_Root_top,
    n_Root_square,
    n_Root_below,
    n_Root_floor,
    n_Ruled_many,
    n_Ruled_first,
    n_Ruled_ring,
    n_Ruled_steps,
    n_Four_numbers,
    n_Four_inner,
    n_Four_ready,
    n_Four_begun,
    n_Four_fixed,
    n_Eight_numbers,
    n_Eight_inners,
    n_Eight_many,
    n_Eight_begun,
    n_Eight_rest,
    ⟨xf_BadTree, PySem.W.mg_of X G g_BadTree, kp_BadTree, sb_BadTree, ty_BadTree⟩,
    ⟨xf_NoValue, PySem.W.mg_of X G g_NoValue, kp_NoValue, sb_NoValue, ty_NoValue⟩,
    PySem.W.mg_of X G g_NoValue,
    PySem.W.exm_ref sb_NoValue hd_NoValue ty_NoValue su_BadTree_NoValue,
    PySem.W.exm_ref sb_NoValue hd_NoValue ty_NoValue su_NoValue_NoValue,
    ⟨_, PySem.W.mg_of X G g_DEEPEST⟩,
    ⟨_, PySem.W.mg_of X G g_MOST_NUMBER⟩,
    ⟨_, PySem.W.mg_of X G g_MOST_PARTS⟩,
    ⟨_, PySem.W.mg_of X G g_MOST_POWER⟩,
    ⟨PySem.W.mg_of X G g_TIMES, fun H => .inr ⟨_, _, _, l_TIMES, rfl, rfl, (by rw [sizeLine_eq]; show 8 ≤ _; decide), .cons ⟨_, rfl⟩ (.cons ⟨_, rfl⟩ (.cons ⟨_, rfl⟩ (.cons ⟨_, rfl⟩ (.cons ⟨_, rfl⟩ (.cons ⟨_, rfl⟩ (.cons ⟨_, rfl⟩ (.cons ⟨_, rfl⟩ (.nil))))))))⟩⟩,
    PySem.W.mg_none_of X G z_divmod,
    PySem.W.mg_none_of X G z_abs,
    PySem.W.mg_none_of X G z_bool,
    PySem.W.mg_none_of X G z_int,
    PySem.W.mg_none_of X G z_isinstance,
    PySem.W.mg_none_of X G z_len,
    PySem.W.mg_none_of X G z_list,
    PySem.W.mg_none_of X G z_max,
    PySem.W.mg_none_of X G z_min,
    PySem.W.mg_none_of X G z_range,
    PySem.W.mg_none_of X G z_reversed,
    PySem.W.mg_none_of X G z_str,
    PySem.W.mg_none_of X G z_sum,
    PySem.W.mg_none_of X G z_tuple,
    PySem.W.mg_none_of X G z_zip⟩
  exact ⟨PySem.W.fnOf "law" "law" (defArgs s_law) (defBody s_law) (defScope s_law) .none kV30 dc30 pm30 an30 cd30 ct30, fun s v => .of_eq rfl, fun base _ _ hS => have := hS; law_ok T (fun_mk (st := s_law) l30 c30 k30)⟩
end PL
open PySem PySem.W PyProof.Rows
set_option maxRecDepth 100000 in
set_option maxHeartbeats 0 in
theorem PySem.Challenge.cw_chainparts_k22_whole_there_and_back_holds : PySem.Challenge.rw_chainparts_k22_whole_there_and_back.Holds := by
  refine PLH.hdTop ?_
  k_fill
  refine PL.pl_walkS (l := PySem.Challenge.rw_chainparts_k22_whole_there_and_back) (k := 83) PL.caOf rfl (by kernel_rfl) ⟨rfl, by decide, by decide⟩ ?hq ?ht (fun w h Y => PySem.W.kIn_of Y) ?F
  case hq => first | rfl | decide +kernel
  case ht => rfl
  case F =>
    intro w mg fa h KX G hmg0
    have hmg : mg ("law" : PySem.Str) = some (.ref fa) := by
      have e : (HandSHeadRun.topDef (PySem.W.OpenLaw.row PySem.Challenge.rw_chainparts_k22_whole_there_and_back).prog 54).name = ("law" : PySem.Str) := by kernel_rfl
      rw [← e]
      exact hmg0
    refine' PL.all_mk KX G hmg ?g_Purse ?g_Fixed ?g_Leaf ?g_Fraction ?g_Root ?g_Ruled ?g_Four ?g_Eight ?g_BadTree ?g_NoValue ?a0 ?l0 ?c0 ?k0 ?a1 ?l1 ?c1 ?k1 ?a2 ?l2 ?c2 ?k2 ?a3 ?l3 ?c3 ?k3 ?a4 ?l4 ?c4 ?k4 ?a5 ?l5 ?c5 ?k5 ?a6 ?l6 ?c6 ?k6 ?a7 ?l7 ?c7 ?k7 ?a8 ?l8 ?c8 ?k8 ?a9 ?l9 ?c9 ?k9 ?a10 ?l10 ?c10 ?k10 ?a11 ?l11 ?c11 ?k11 ?a12 ?l12 ?c12 ?k12 ?a13 ?l13 ?c13 ?k13 ?a14 ?l14 ?c14 ?k14 ?a15 ?l15 ?c15 ?k15 ?a16 ?l16 ?c16 ?k16 ?a17 ?l17 ?c17 ?k17 ?a18 ?l18 ?c18 ?k18 ?a19 ?l19 ?c19 ?k19 ?a20 ?l20 ?c20 ?k20 ?a21 ?l21 ?c21 ?k21 ?a22 ?l22 ?c22 ?k22 ?a23 ?l23 ?c23 ?k23 ?a24 ?l24 ?c24 ?k24 ?a25 ?l25 ?c25 ?k25 ?a26 ?l26 ?c26 ?k26 ?a27 ?l27 ?c27 ?k27 ?a28 ?l28 ?c28 ?k28 ?a29 ?l29 ?c29 ?k29 ?a30 ?l30 ?c30 ?k30 ?pg_Purse ?hd_Purse ?po_Purse ?sa_Purse ?mk_Purse ?kc_Purse ?pg_Fixed ?hd_Fixed ?po_Fixed ?sa_Fixed ?mk_Fixed ?kc_Fixed ?pg_Fraction ?hd_Fraction ?po_Fraction ?sa_Fraction ?mk_Fraction ?kc_Fraction ?pg_Root ?hd_Root ?po_Root ?sa_Root ?mk_Root ?kc_Root ?pg_Ruled ?hd_Ruled ?po_Ruled ?sa_Ruled ?mk_Ruled ?kc_Ruled ?pg_Four ?hd_Four ?po_Four ?sa_Four ?mk_Four ?kc_Four ?pg_Eight ?hd_Eight ?po_Eight ?sa_Eight ?mk_Eight ?kc_Eight ?a31_Purse ?i31 ?l31 ?c31 ?k31 ?a32_Fixed ?a32_Fraction ?a32_Root ?a32_Ruled ?a32_Four ?a32_Eight ?i32 ?l32 ?c32 ?k32 ?a33_Fixed ?i33 ?l33 ?c33 ?k33 ?a34_Fixed ?i34 ?l34 ?c34 ?k34 ?a35_Fixed ?i35 ?l35 ?c35 ?k35 ?r36 ?ga36 ?fc36 ?i36 ?l36 ?c36 ?k36 ?a37_Fraction ?a37_Root ?a37_Ruled ?i37 ?l37 ?c37 ?k37 ?a38_Root ?i38 ?l38 ?c38 ?k38 ?a39_Fraction ?a39_Root ?a39_Ruled ?i39 ?l39 ?c39 ?k39 ?a40_Fraction ?i40 ?l40 ?c40 ?k40 ?a41_Fraction ?i41 ?l41 ?c41 ?k41 ?a42_Fraction ?i42 ?l42 ?c42 ?k42 ?a43_Root ?i43 ?l43 ?c43 ?k43 ?a44_Root ?i44 ?l44 ?c44 ?k44 ?a45_Ruled ?i45 ?l45 ?c45 ?k45 ?a46_Ruled ?i46 ?l46 ?c46 ?k46 ?a47_Ruled ?i47 ?l47 ?c47 ?k47 ?a48_Four ?i48 ?l48 ?c48 ?k48 ?a49_Four ?i49 ?l49 ?c49 ?k49 ?a50_Four ?i50 ?l50 ?c50 ?k50 ?a51_Four ?i51 ?l51 ?c51 ?k51 ?a52_Eight ?i52 ?l52 ?c52 ?k52 ?a53_Eight ?i53 ?l53 ?c53 ?k53 ?a54_Eight ?i54 ?l54 ?c54 ?k54 ?a55_Eight ?i55 ?l55 ?c55 ?k55 ?a56_Eight ?i56 ?l56 ?c56 ?k56 ?a57_Eight ?i57 ?l57 ?c57 ?k57 ?n_Purse_left ?n_Fixed_top ?n_Fixed_below ?n_Fixed_begun ?n_Fraction_many ?n_Fraction_top ?n_Fraction_below ?n_Root_many ?n_Root_top ?n_Root_square ?n_Root_below ?n_Root_floor ?n_Ruled_many ?n_Ruled_first ?n_Ruled_ring ?n_Ruled_steps ?n_Four_numbers ?n_Four_inner ?n_Four_ready ?n_Four_begun ?n_Four_fixed ?n_Eight_numbers ?n_Eight_inners ?n_Eight_many ?n_Eight_begun ?n_Eight_rest ?xf_BadTree ?kp_BadTree ?sb_BadTree ?ty_BadTree ?xf_NoValue ?kp_NoValue ?sb_NoValue ?ty_NoValue ?hd_NoValue ?su_BadTree_NoValue ?su_NoValue_NoValue ?g_DEEPEST ?g_MOST_NUMBER ?g_MOST_PARTS ?g_MOST_POWER ?g_TIMES ?l_TIMES ?z_divmod ?z_abs ?z_bool ?z_int ?z_isinstance ?z_len ?z_list ?z_max ?z_min ?z_range ?z_reversed ?z_str ?z_sum ?z_tuple ?z_zip
    (case g_Purse => k_is)
    (case g_Fixed => k_is)
    (case g_Leaf => k_is)
    (case g_Fraction => k_is)
    (case g_Root => k_is)
    (case g_Ruled => k_is)
    (case g_Four => k_is)
    (case g_Eight => k_is)
    (case g_BadTree => k_is)
    (case g_NoValue => k_is)
    (case a0 => k_is)
    (case l0 => k_is)
    (case c0 => k_is)
    (case k0 => k_is)
    (case a1 => k_is)
    (case l1 => k_is)
    (case c1 => k_is)
    (case k1 => k_is)
    (case a2 => k_is)
    (case l2 => k_is)
    (case c2 => k_is)
    (case k2 => k_is)
    (case a3 => k_is)
    (case l3 => k_is)
    (case c3 => k_is)
    (case k3 => k_is)
    (case a4 => k_is)
    (case l4 => k_is)
    (case c4 => k_is)
    (case k4 => k_is)
    (case a5 => k_is)
    (case l5 => k_is)
    (case c5 => k_is)
    (case k5 => k_is)
    (case a6 => k_is)
    (case l6 => k_is)
    (case c6 => k_is)
    (case k6 => k_is)
    (case a7 => k_is)
    (case l7 => k_is)
    (case c7 => k_is)
    (case k7 => k_is)
    (case a8 => k_is)
    (case l8 => k_is)
    (case c8 => k_is)
    (case k8 => k_is)
    (case a9 => k_is)
    (case l9 => k_is)
    (case c9 => k_is)
    (case k9 => k_is)
    (case a10 => k_is)
    (case l10 => k_is)
    (case c10 => k_is)
    (case k10 => k_is)
    (case a11 => k_is)
    (case l11 => k_is)
    (case c11 => k_is)
    (case k11 => k_is)
    (case a12 => k_is)
    (case l12 => k_is)
    (case c12 => k_is)
    (case k12 => k_is)
    (case a13 => k_is)
    (case l13 => k_is)
    (case c13 => k_is)
    (case k13 => k_is)
    (case a14 => k_is)
    (case l14 => k_is)
    (case c14 => k_is)
    (case k14 => k_is)
    (case a15 => k_is)
    (case l15 => k_is)
    (case c15 => k_is)
    (case k15 => k_is)
    (case a16 => k_is)
    (case l16 => k_is)
    (case c16 => k_is)
    (case k16 => k_is)
    (case a17 => k_is)
    (case l17 => k_is)
    (case c17 => k_is)
    (case k17 => k_is)
    (case a18 => k_is)
    (case l18 => k_is)
    (case c18 => k_is)
    (case k18 => k_is)
    (case a19 => k_is)
    (case l19 => k_is)
    (case c19 => k_is)
    (case k19 => k_is)
    (case a20 => k_is)
    (case l20 => k_is)
    (case c20 => k_is)
    (case k20 => k_is)
    (case a21 => k_is)
    (case l21 => k_is)
    (case c21 => k_is)
    (case k21 => k_is)
    (case a22 => k_is)
    (case l22 => k_is)
    (case c22 => k_is)
    (case k22 => k_is)
    (case a23 => k_is)
    (case l23 => k_is)
    (case c23 => k_is)
    (case k23 => k_is)
    (case a24 => k_is)
    (case l24 => k_is)
    (case c24 => k_is)
    (case k24 => k_is)
    (case a25 => k_is)
    (case l25 => k_is)
    (case c25 => k_is)
    (case k25 => k_is)
    (case a26 => k_is)
    (case l26 => k_is)
    (case c26 => k_is)
    (case k26 => k_is)
    (case a27 => k_is)
    (case l27 => k_is)
    (case c27 => k_is)
    (case k27 => k_is)
    (case a28 => k_is)
    (case l28 => k_is)
    (case c28 => k_is)
    (case k28 => k_is)
    (case a29 => k_is)
    (case l29 => k_is)
    (case c29 => k_is)
    (case k29 => k_is)
    (case a30 => k_is)
    (case l30 => k_is)
    (case c30 => k_is)
    (case k30 => k_is)
    (case pg_Purse => k_is)
    (case hd_Purse => k_is)
    (case po_Purse => k_is)
    (case sa_Purse => k_is)
    (case mk_Purse => k_is)
    (case kc_Purse => k_is)
    (case pg_Fixed => k_is)
    (case hd_Fixed => k_is)
    (case po_Fixed => k_is)
    (case sa_Fixed => k_is)
    (case mk_Fixed => k_is)
    (case kc_Fixed => k_is)
    (case pg_Fraction => k_is)
    (case hd_Fraction => k_is)
    (case po_Fraction => k_is)
    (case sa_Fraction => k_is)
    (case mk_Fraction => k_is)
    (case kc_Fraction => k_is)
    (case pg_Root => k_is)
    (case hd_Root => k_is)
    (case po_Root => k_is)
    (case sa_Root => k_is)
    (case mk_Root => k_is)
    (case kc_Root => k_is)
    (case pg_Ruled => k_is)
    (case hd_Ruled => k_is)
    (case po_Ruled => k_is)
    (case sa_Ruled => k_is)
    (case mk_Ruled => k_is)
    (case kc_Ruled => k_is)
    (case pg_Four => k_is)
    (case hd_Four => k_is)
    (case po_Four => k_is)
    (case sa_Four => k_is)
    (case mk_Four => k_is)
    (case kc_Four => k_is)
    (case pg_Eight => k_is)
    (case hd_Eight => k_is)
    (case po_Eight => k_is)
    (case sa_Eight => k_is)
    (case mk_Eight => k_is)
    (case kc_Eight => k_is)
    (case a31_Purse => k_is)
    (case i31 => k_is)
    (case l31 => k_is)
    (case c31 => k_is)
    (case k31 => k_is)
    (case a32_Fixed => k_is)
    (case a32_Fraction => k_is)
    (case a32_Root => k_is)
    (case a32_Ruled => k_is)
    (case a32_Four => k_is)
    (case a32_Eight => k_is)
    (case i32 => k_is)
    (case l32 => k_is)
    (case c32 => k_is)
    (case k32 => k_is)
    (case a33_Fixed => k_is)
    (case i33 => k_is)
    (case l33 => k_is)
    (case c33 => k_is)
    (case k33 => k_is)
    (case a34_Fixed => k_is)
    (case i34 => k_is)
    (case l34 => k_is)
    (case c34 => k_is)
    (case k34 => k_is)
    (case a35_Fixed => k_is)
    (case i35 => k_is)
    (case l35 => k_is)
    (case c35 => k_is)
    (case k35 => k_is)
    (case r36 => k_is)
    (case ga36 => k_is)
    (case fc36 => k_is)
    (case i36 => k_is)
    (case l36 => k_is)
    (case c36 => k_is)
    (case k36 => k_is)
    (case a37_Fraction => k_is)
    (case a37_Root => k_is)
    (case a37_Ruled => k_is)
    (case i37 => k_is)
    (case l37 => k_is)
    (case c37 => k_is)
    (case k37 => k_is)
    (case a38_Root => k_is)
    (case i38 => k_is)
    (case l38 => k_is)
    (case c38 => k_is)
    (case k38 => k_is)
    (case a39_Fraction => k_is)
    (case a39_Root => k_is)
    (case a39_Ruled => k_is)
    (case i39 => k_is)
    (case l39 => k_is)
    (case c39 => k_is)
    (case k39 => k_is)
    (case a40_Fraction => k_is)
    (case i40 => k_is)
    (case l40 => k_is)
    (case c40 => k_is)
    (case k40 => k_is)
    (case a41_Fraction => k_is)
    (case i41 => k_is)
    (case l41 => k_is)
    (case c41 => k_is)
    (case k41 => k_is)
    (case a42_Fraction => k_is)
    (case i42 => k_is)
    (case l42 => k_is)
    (case c42 => k_is)
    (case k42 => k_is)
    (case a43_Root => k_is)
    (case i43 => k_is)
    (case l43 => k_is)
    (case c43 => k_is)
    (case k43 => k_is)
    (case a44_Root => k_is)
    (case i44 => k_is)
    (case l44 => k_is)
    (case c44 => k_is)
    (case k44 => k_is)
    (case a45_Ruled => k_is)
    (case i45 => k_is)
    (case l45 => k_is)
    (case c45 => k_is)
    (case k45 => k_is)
    (case a46_Ruled => k_is)
    (case i46 => k_is)
    (case l46 => k_is)
    (case c46 => k_is)
    (case k46 => k_is)
    (case a47_Ruled => k_is)
    (case i47 => k_is)
    (case l47 => k_is)
    (case c47 => k_is)
    (case k47 => k_is)
    (case a48_Four => k_is)
    (case i48 => k_is)
    (case l48 => k_is)
    (case c48 => k_is)
    (case k48 => k_is)
    (case a49_Four => k_is)
    (case i49 => k_is)
    (case l49 => k_is)
    (case c49 => k_is)
    (case k49 => k_is)
    (case a50_Four => k_is)
    (case i50 => k_is)
    (case l50 => k_is)
    (case c50 => k_is)
    (case k50 => k_is)
    (case a51_Four => k_is)
    (case i51 => k_is)
    (case l51 => k_is)
    (case c51 => k_is)
    (case k51 => k_is)
    (case a52_Eight => k_is)
    (case i52 => k_is)
    (case l52 => k_is)
    (case c52 => k_is)
    (case k52 => k_is)
    (case a53_Eight => k_is)
    (case i53 => k_is)
    (case l53 => k_is)
    (case c53 => k_is)
    (case k53 => k_is)
    (case a54_Eight => k_is)
    (case i54 => k_is)
    (case l54 => k_is)
    (case c54 => k_is)
    (case k54 => k_is)
    (case a55_Eight => k_is)
    (case i55 => k_is)
    (case l55 => k_is)
    (case c55 => k_is)
    (case k55 => k_is)
    (case a56_Eight => k_is)
    (case i56 => k_is)
    (case l56 => k_is)
    (case c56 => k_is)
    (case k56 => k_is)
    (case a57_Eight => k_is)
    (case i57 => k_is)
    (case l57 => k_is)
    (case c57 => k_is)
    (case k57 => k_is)
    (case n_Purse_left => k_is)
    (case n_Fixed_top => k_is)
    (case n_Fixed_below => k_is)
    (case n_Fixed_begun => k_is)
    (case n_Fraction_many => k_is)
    (case n_Fraction_top => k_is)
    (case n_Fraction_below => k_is)
    (case n_Root_many => k_is)
    (case n_Root_top => k_is)
    (case n_Root_square => k_is)
    (case n_Root_below => k_is)
    (case n_Root_floor => k_is)
    (case n_Ruled_many => k_is)
    (case n_Ruled_first => k_is)
    (case n_Ruled_ring => k_is)
    (case n_Ruled_steps => k_is)
    (case n_Four_numbers => k_is)
    (case n_Four_inner => k_is)
    (case n_Four_ready => k_is)
    (case n_Four_begun => k_is)
    (case n_Four_fixed => k_is)
    (case n_Eight_numbers => k_is)
    (case n_Eight_inners => k_is)
    (case n_Eight_many => k_is)
    (case n_Eight_begun => k_is)
    (case n_Eight_rest => k_is)
    (case xf_BadTree => k_exc)
    (case kp_BadTree => k_is)
    (case sb_BadTree => k_is)
    (case ty_BadTree => k_is)
    (case xf_NoValue => k_exc)
    (case kp_NoValue => k_is)
    (case sb_NoValue => k_is)
    (case ty_NoValue => k_is)
    (case hd_NoValue => k_is)
    (case su_BadTree_NoValue => k_is)
    (case su_NoValue_NoValue => k_is)
    (case g_DEEPEST => k_is)
    (case g_MOST_NUMBER => k_is)
    (case g_MOST_PARTS => k_is)
    (case g_MOST_POWER => k_is)
    (case g_TIMES => k_is)
    (case l_TIMES => k_is)
    (case z_divmod => k_is)
    (case z_abs => k_is)
    (case z_bool => k_is)
    (case z_int => k_is)
    (case z_isinstance => k_is)
    (case z_len => k_is)
    (case z_list => k_is)
    (case z_max => k_is)
    (case z_min => k_is)
    (case z_range => k_is)
    (case z_reversed => k_is)
    (case z_str => k_is)
    (case z_sum => k_is)
    (case z_tuple => k_is)
    (case z_zip => k_is)
