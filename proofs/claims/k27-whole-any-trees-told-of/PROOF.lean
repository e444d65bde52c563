import PyProof.Rows.All
import Wide.All
import OpenK.AllK
import Wide.FinOn
import KE.KStateDown
import KE.OsRunLaw
import HandS.Head0
import HandS.Head1
import HandS.Head2
import HandS.ForExc
import HandS.Comp
import HandS.Iter
import HandS.Dict
import HandS.Wide
import HandS.WideBits
import HandS.IsInst
import HandS.TupAny
import HandS.Flow
import HandS.Zip
import HandS.Evl
import HandS.NoneIn
import PyProof.Rows.SeqMore
import HandS.ClsMeth
import HandS.ExcOwn
import HandS.ExcBuiltin
import HandS.TryOnly
import HandS.ExcIs
import HandS.Walk
import KE.GoesZip
import KE.GoesMore
import HandS.Deep
import PySem.Challenge.RW_chainparts_k27_whole_any_trees_told_of
set_option Elab.async false
set_option linter.all false
set_option maxRecDepth 100000
set_option maxHeartbeats 4000000
namespace PLH
open PySem PySem.W PySem.Calls PyProof.Rows
def nm0 : List PySem.Str := ["PartError", "BadTree", "NoValue", "root_below", "Purse", "Reader", "Fixed", "Leaf", "Fraction", "Root", "Ruled", "root_of", "below_all", "Four", "Eight", "DEEPEST", "MOST_NUMBER", "MOST_PARTS", "MOST_POWER", "must", "need_numbers", "need_ruled", "need_eight", "need_tree", "TIMES", "opened", "reader", "first_parts", "greater_first", "read_beside"]
def nm1 : List PySem.Str := ["compared", "beside", "in_order", "nearest", "_law_row", "_law_taken", "_law_whole", "_law_signed", "_law_root", "_law_common", "_law_lowest", "_law_made", "_law_sum", "_law_product", "_law_quotient", "_law_below", "_law_ruled", "_law_corners", "_law_sure", "_law_moved", "_law_ended", "_law_rest", "_law_apart", "_law_numbers", "_law_any_leaf", "_law_any", "_law_opened", "_law_took", "_law_leaf_told", "_law_told"]
def nm2 : List PySem.Str := ["_law_first", "_law_beside", "_law_pair", "_law_nearest", "_law_asked"]
def names : List PySem.Str := nm0 ++ nm1 ++ nm2
theorem ob_eq (as : List Addr) (s : SharedT) : as.map (HandSHeadRun.getT s) = as.map s.abs.heap.get? := by rw [funext (HandSHeadRun.getT_eq s)]
local macro_rules | `(tactic| k_head) => `(tactic| k_headL)
local macro_rules | `(tactic| o_headL (kHook $k $a $p)) => `(tactic| refine HandSHeadRun.head_any (r := PySem.W.OpenLaw.row PySem.Challenge.rw_chainparts_k27_whole_any_trees_told_of) (q := view (PySem.W.OpenLaw.row PySem.Challenge.rw_chainparts_k27_whole_any_trees_told_of).prog [74]) (H := kHook $k $a $p) (ob := fun s => List.map (HandSHeadRun.getT s) $a) (M := 7000) (loose := names) (d := HandSHeadRun.topDef (PySem.W.OpenLaw.row PySem.Challenge.rw_chainparts_k27_whole_any_trees_told_of).prog 74) (kwd := []) (fun s => ob_eq $a s) (by kernel_rfl) (fun s => by kernel_rfl) (fun w os => by kernel_rfl) (by kernel_rfl) (by kernel_rfl) (by kernel_rfl) (by rfl) (by first | assumption | decide +kernel) (by decide +kernel) ⟨rfl, rfl, rfl, rfl, rfl, by decide +kernel⟩ ?hw ?hc)
set_option maxRecDepth 100000 in
set_option maxHeartbeats 0 in
open_top hdTop for PySem.Challenge.rw_chainparts_k27_whole_any_trees_told_of
end PLH
namespace PL
open PySem L2
/-- data; o a: an object of the abstract store -/
inductive D where
  | non | bl (b : Bool) | int (i : Int) | str (s : Str) | tup (xs : List D) | lst (xs : List D) | o (a : Addr)
mutual
inductive DV (K : PySem.W.Frag) (G : Hp) : V → D → Prop
  | non : DV K G .non .non
  | bl (b : Bool) : DV K G (.bl b) (.bl b)
  | int (i : Int) : DV K G (.int i) (.int i)
  | str (x : Str) : DV K G (.str x) (.str x)
  | o (a : Addr) : DV K G (.ref a) (.o a)
  | lst {a : Addr} {xs : List V} {ds : List D} : SqL K G a xs → DVs K G xs ds → DV K G (.ref a) (.lst ds)
  | tup {a : Addr} {xs : List V} {ds : List D} : SqT K G a xs → DVs K G xs ds → DV K G (.ref a) (.tup ds)
inductive DVs (K : PySem.W.Frag) (G : Hp) : List V → List D → Prop
  | nil : DVs K G [] []
  | cons {v : V} {vs : List V} {d : D} {ds : List D} : DV K G v d → DVs K G vs ds → DVs K G (v :: vs) (d :: ds)
end
theorem same_rd {H H' : Hp} (e : Same H H') {a : Addr} {u : HO} (h : Rd H a u) : Rd H' a u := by
  rcases h with h | ⟨o, h⟩
  · exact .inl (e _ _ h)
  · exact .inr ⟨o, e _ _ h⟩
theorem same_seqT {K : PySem.W.Frag} {H H' : Hp} {a : Addr} {xs : List V} (e : Same H H') (h : SqT K H a xs) : SqT K H' a xs := by
  rcases h with h | h
  · exact .inl (same_rd e h)
  · exact .inr h
mutual
theorem DV.mono {K : PySem.W.Frag} {G G' : Hp} (e : Same G G') : ∀ {v : V} {d : D}, DV K G v d → DV K G' v d
  | _, _, .non => .non
  | _, _, .bl b => .bl b
  | _, _, .int i => .int i
  | _, _, .str x => .str x
  | _, _, .o a => .o a
  | _, _, .lst h r => .lst (e.seq h) (DVs.mono e r)
  | _, _, .tup h r => .tup (same_seqT e h) (DVs.mono e r)
theorem DVs.mono {K : PySem.W.Frag} {G G' : Hp} (e : Same G G') : ∀ {v : List V} {d : List D}, DVs K G v d → DVs K G' v d
  | _, _, .nil => .nil
  | _, _, .cons h r => .cons (DV.mono e h) (DVs.mono e r)
end
section
variable {K : PySem.W.Frag} {G : Hp}
theorem DVs.length : ∀ {vs : List V} {ds : List D}, DVs K G vs ds → vs.length = ds.length
  | _, _, .nil => rfl
  | _, _, .cons _ r => by rw [List.length_cons, List.length_cons, DVs.length r]
theorem DVs.get : ∀ {vs : List V} {ds : List D} {i : Nat} {d : D}, DVs K G vs ds → ds[i]? = some d → ∃ v, vs[i]? = some v ∧ DV K G v d
  | _, _, _, _, .nil, e => by simp at e
  | _, _, 0, _, .cons h _, e => by simp at e; subst e; exact ⟨_, rfl, h⟩
  | _, _, i + 1, d, .cons _ r, e => by
    obtain ⟨v, h1, h2⟩ := DVs.get (i := i) (d := d) r (by simpa using e)
    exact ⟨v, by simpa using h1, h2⟩
theorem DVs.getV : ∀ {vs : List V} {ds : List D} {i : Nat} {v : V}, DVs K G vs ds → vs[i]? = some v → ∃ d, ds[i]? = some d ∧ DV K G v d
  | _, _, _, _, .nil, e => by simp at e
  | _, _, 0, _, .cons h _, e => by simp at e; subst e; exact ⟨_, rfl, h⟩
  | _, _, i + 1, v, .cons _ r, e => by
    obtain ⟨d, h1, h2⟩ := DVs.getV (i := i) (v := v) r (by simpa using e)
    exact ⟨d, by simpa using h1, h2⟩
theorem DVs.set {v : V} {d : D} (h : DV K G v d) : ∀ {vs : List V} {ds : List D} (i : Nat), DVs K G vs ds → DVs K G (vs.set i v) (ds.set i d)
  | _, _, _, .nil => .nil
  | _, _, 0, .cons _ r => .cons h r
  | _, _, i + 1, .cons q r => .cons q (DVs.set h i r)
theorem DVs.append : ∀ {xs ys : List V} {us ws : List D}, DVs K G xs us → DVs K G ys ws → DVs K G (xs ++ ys) (us ++ ws)
  | _, _, _, _, .nil, s => s
  | _, _, _, _, .cons r t, s => .cons r (DVs.append t s)
theorem DVs.take : ∀ {xs : List V} {us : List D} (n : Nat), DVs K G xs us → DVs K G (xs.take n) (us.take n)
  | _, _, 0, _ => .nil
  | _, _, _ + 1, .nil => .nil
  | _, _, n + 1, .cons r t => .cons r (DVs.take n t)
theorem DVs.drop : ∀ {xs : List V} {us : List D} (n : Nat), DVs K G xs us → DVs K G (xs.drop n) (us.drop n)
  | _, _, 0, r => r
  | _, _, _ + 1, .nil => .nil
  | _, _, n + 1, .cons _ t => DVs.drop n t
theorem DVs.ints {vs : List V} : ∀ {ns : List Int}, DVs K G vs (ns.map D.int) → vs = ns.map V.int := by
  induction vs with
  | nil => intro ns h; cases ns with
    | nil => rfl
    | cons n r => cases h
  | cons v vs ih => intro ns h; cases ns with
    | nil => cases h
    | cons n r =>
      cases h with
      | cons h1 h2 =>
        cases h1
        rw [ih h2, List.map_cons]
theorem DVs.of_ints : ∀ ns : List Int, DVs K G (ns.map V.int) (ns.map D.int)
  | [] => .nil
  | n :: r => .cons (.int n) (DVs.of_ints r)
end
/-- (left: nothing depends on it) -/
structure CA where
  none : Unit := ()
def iv (xs : List Int) : List V := xs.map V.int
/-- an object that never changes -/
def Imm : HO → Prop
  | .tup _ => True
  | .frz _ _ => True
  | _ => False
inductive AO where
  | row
  | lst (xs : List D)
  | dic (kvs : List (Key × D))
  | obj (c : Addr) (fs : List (Str × D))
abbrev Om := Addr → Option AO
abbrev En := List (Option D)
def oset (Ω : Om) (a : Addr) (o : AO) : Om := fun b => if b = a then some o else Ω b
def odel (Ω : Om) (a : Addr) : Om := fun b => if b = a then none else Ω b
theorem oset_same {Ω : Om} {a : Addr} {o : AO} : oset Ω a o a = some o := if_pos rfl
theorem oset_ne {Ω : Om} {a b : Addr} {o : AO} (h : b ≠ a) : oset Ω a o b = Ω b := if_neg h
theorem odel_ne {Ω : Om} {a b : Addr} (h : b ≠ a) : odel Ω a b = Ω b := if_neg h
theorem oset_oset {Ω : Om} {a : Addr} {o u : AO} : oset (oset Ω a o) a u = oset Ω a u := by
  funext b; unfold oset
  by_cases h : b = a
  · rw [if_pos h, if_pos h]
  · rw [if_neg h, if_neg h, if_neg h]
def KVs (K : PySem.W.Frag) (G : Hp) : List (Key × V) → List (Key × D) → Prop := Paired fun (p : Key × V) (q : Key × D) => p.1 = q.1 ∧ DV K G p.2 q.2
def FVs (K : PySem.W.Frag) (G : Hp) : List (Str × V) → List (Str × D) → Prop := Paired fun (p : Str × V) (q : Str × D) => p.1 = q.1 ∧ DV K G p.2 q.2
def AAt (K : PySem.W.Frag) (ca : CA) (G : Hp) (own : Addr → Option Addr) (H : Hp) (a : Addr) : AO → Prop
  | .row => own a = some a ∧ ∃ (p : Addr) (ns : List Int) (i c m : Int), H a = some (.lst [.ref p, .int i, .int c, .int m]) ∧ SqL K G p (iv ns) ∧ 0 ≤ i ∧ i ≤ ns.length ∧ 0 ≤ c
  | .lst xs => own a = some a ∧ ∃ vs, H a = some (.lst vs) ∧ DVs K G vs xs
  | .dic kvs => own a = some a ∧ ∃ kvs', H a = some (.dK kvs') ∧ KVs K G kvs' kvs
  | .obj c fs => own a = some a ∧ Cls K c ∧ (fs.map (·.1)).Nodup ∧ (∀ x ∈ fs, NoAttr K c x.1) ∧ ∃ dx fs', H a = some (.ins c dx fs') ∧ FVs K G fs' fs
structure Rel (K : PySem.W.Frag) (ca : CA) (G : Hp) (own : Addr → Option Addr) (H : Hp) (Ω : Om) : Prop where
  sub : Same G H
  imm : ∀ b o, G b = some o → own b = none
  objs : ∀ a o, Ω a = some o → AAt K ca G own H a o
section
variable {K : PySem.W.Frag} {ca : CA} {G G' H H' : Hp} {own own' : Addr → Option Addr} {Ω : Om} {a p : Addr} {o : AO}
theorem KVs.mono {l : List (Key × V)} {m : List (Key × D)} (e : Same G G') (h : KVs K G l m) : KVs K G' l m := Paired.mapP h fun _ _ x => ⟨x.1, x.2.mono e⟩
theorem FVs.mono {l : List (Str × V)} {m : List (Str × D)} (e : Same G G') (h : FVs K G l m) : FVs K G' l m := Paired.mapP h fun _ _ x => ⟨x.1, x.2.mono e⟩
theorem AAt.keep (x : AAt K ca G own H a o) (e : Same G G') (h : ∀ b u, H b = some u → own b = some a → H' b = some u ∧ own' b = some a) (t : ∀ b u, H b = some u → Imm u → H' b = some u) : AAt K ca G' own' H' a o := by
  cases o with
  | row =>
    obtain ⟨w, p, ns, i, c, m, hp, hs, r⟩ := x
    exact ⟨(h _ _ hp w).2, p, ns, i, c, m, (h _ _ hp w).1, e.seq hs, r⟩
  | lst xs =>
    obtain ⟨w, vs, hp, r⟩ := x
    exact ⟨(h _ _ hp w).2, vs, (h _ _ hp w).1, r.mono e⟩
  | dic kvs =>
    obtain ⟨w, vs, hp, r⟩ := x
    exact ⟨(h _ _ hp w).2, vs, (h _ _ hp w).1, r.mono e⟩
  | obj c fs =>
    obtain ⟨w, cl, nd, na, dx, vs, hp, r⟩ := x
    exact ⟨(h _ _ hp w).2, cl, nd, na, dx, vs, (h _ _ hp w).1, r.mono e⟩
/-- an object of the store is there, and may change -/
theorem AAt.there (x : AAt K ca G own H a o) : own a = some a ∧ ∃ u, H a = some u ∧ ¬ Imm u := by
  cases o with
  | row => obtain ⟨w, p, ns, i, c, m, hp, _⟩ := x; exact ⟨w, _, hp, fun z => z⟩
  | lst xs => obtain ⟨w, vs, hp, _⟩ := x; exact ⟨w, _, hp, fun z => z⟩
  | dic xs => obtain ⟨w, vs, hp, _⟩ := x; exact ⟨w, _, hp, fun z => z⟩
  | obj c fs => obtain ⟨w, _, _, _, dx, vs, hp, _⟩ := x; exact ⟨w, _, hp, fun z => z⟩
def uown (own : Addr → Option Addr) (p : Addr) (x : Option Addr) : Addr → Option Addr := fun b => if b = p then x else own b
/-- a new object that never changes again -/
theorem Rel.data {u : HO} (r : Rel K ca G own H Ω) (h : H p = none) : Rel K ca (upd G p u) (uown own p none) (upd H p u) Ω ∧ Same G (upd G p u) := by
  have hg : G p = none := r.sub.free h
  have hs : Same G (upd G p u) := fun b v e => by rw [upd_ne (ne_of_none e hg)]; exact e
  refine ⟨⟨fun b v e => ?_, fun b v e => ?_, fun b v e => ?_⟩, hs⟩
  · by_cases hb : b = p
    · subst hb; rw [upd_same] at e ⊢; exact e
    · rw [upd_ne hb] at e ⊢; exact r.sub _ _ e
  · unfold uown
    by_cases hb : b = p
    · rw [if_pos hb]
    · rw [upd_ne hb] at e; rw [if_neg hb]; exact r.imm _ _ e
  · refine (r.objs b v e).keep hs (fun c w hc ho => ?_) fun c w hc _ => by rw [upd_ne (ne_of_none hc h)]; exact hc
    refine ⟨by rw [upd_ne (ne_of_none hc h)]; exact hc, ?_⟩
    unfold uown
    rw [if_neg (ne_of_none hc h)]
    exact ho
/-- a new list that may change -/
theorem Rel.newLst {vs : List V} {xs : List D} (r : Rel K ca G own H Ω) (h : H p = none) (d : DVs K G vs xs) : Rel K ca G (uown own p (some p)) (upd H p (.lst vs)) (oset Ω p (.lst xs)) := by
  have hg : G p = none := r.sub.free h
  refine ⟨fun b v e => ?_, fun b v e => ?_, fun b v e => ?_⟩
  · rw [upd_ne (ne_of_none e hg)]; exact r.sub _ _ e
  · unfold uown; rw [if_neg (ne_of_none e hg)]; exact r.imm _ _ e
  · by_cases hb : b = p
    · subst hb
      rw [oset_same] at e
      cases e
      exact ⟨if_pos rfl, vs, upd_same, d⟩
    · rw [oset_ne hb] at e
      refine (r.objs b v e).keep (Same.refl G) (fun c w hc ho => ⟨by rw [upd_ne (ne_of_none hc h)]; exact hc, ?_⟩) fun c w hc _ => by rw [upd_ne (ne_of_none hc h)]; exact hc
      unfold uown
      rw [if_neg (ne_of_none hc h)]
      exact ho
/-- no object but a's own is changed -/
theorem Rel.turn {o' : AO} (r : Rel K ca G own H Ω) (h : ∀ b u, H b = some u → own b ≠ some a → H' b = some u) (t : ∀ b u, H b = some u → Imm u → H' b = some u) (x : AAt K ca G own H' a o') : Rel K ca G own H' (oset Ω a o') := by
  refine ⟨fun b v e => h b v (r.sub _ _ e) (by rw [r.imm _ _ e]; exact fun z => by cases z), r.imm, fun b v e => ?_⟩
  by_cases hb : b = a
  · subst hb; rw [oset_same] at e; cases e; exact x
  · rw [oset_ne hb] at e
    exact (r.objs b v e).keep (Same.refl G) (fun c w hc ho => ⟨h c w hc (by rw [ho]; exact fun z => hb (Option.some.inj z)), ho⟩) t
theorem Rel.setLst {vs : List V} {xs ys : List D} (r : Rel K ca G own H Ω) (e : Ω a = some (.lst xs)) (d : DVs K G vs ys) : Rel K ca G own (upd H a (.lst vs)) (oset Ω a (.lst ys)) := by
  obtain ⟨w, u, hu, nu⟩ := (r.objs a _ e).there
  refine r.turn (fun b v hb ho => ?_) (fun b v hb hi => ?_) ⟨w, vs, upd_same, d⟩
  · rw [upd_ne (fun z => ho (by rw [z]; exact w))]; exact hb
  · rw [upd_ne (fun z => by rw [z, hu] at hb; cases hb; exact nu hi)]; exact hb
/-- a list is frozen into data -/
theorem Rel.freeze {xs : List D} (r : Rel K ca G own H Ω) (e : Ω a = some (.lst xs)) : ∃ G' own', Same G G' ∧ (∀ b, own b = none → G b = none → own' b = none ∧ G' b = none) ∧ Rel K ca G' own' H (odel Ω a) ∧ DV K G' (.ref a) (.lst xs) := by
  obtain ⟨w, vs, hp, d⟩ := r.objs a _ e
  have hg : G a = none := by
    cases q : G a with
    | none => rfl
    | some u => rw [r.imm _ _ q] at w; cases w
  have hs : Same G (upd G a (.lst vs)) := fun b v q => by rw [upd_ne (ne_of_none q hg)]; exact q
  refine ⟨upd G a (.lst vs), uown own a none, hs, fun b n g => ⟨by unfold uown; split; rfl; exact n, by rw [upd_ne (fun z => by rw [z, w] at n; cases n)]; exact g⟩, ⟨fun b v q => ?_, fun b v q => ?_, fun b v q => ?_⟩, .lst (SqL.of upd_same) (d.mono hs)⟩
  · by_cases hb : b = a
    · subst hb; rw [upd_same] at q; cases q; exact hp
    · rw [upd_ne hb] at q; exact r.sub _ _ q
  · unfold uown
    by_cases hb : b = a
    · rw [if_pos hb]
    · rw [upd_ne hb] at q; rw [if_neg hb]; exact r.imm _ _ q
  · have hb : b ≠ a := fun z => by rw [z] at q; unfold odel at q; rw [if_pos rfl] at q; cases q
    rw [odel_ne hb] at q
    refine (r.objs b v q).keep hs (fun c x hc ho => ⟨hc, ?_⟩) fun c x hc _ => hc
    unfold uown
    rw [if_neg (fun z => by rw [z, w] at ho; exact hb (Option.some.inj ho).symm)]
    exact ho
theorem Rel.fresh (r : Rel K ca G own H Ω) (h : H p = none) : Ω p = none := by
  cases q : Ω p with
  | none => rfl
  | some o =>
    obtain ⟨_, u, hu, _⟩ := (r.objs p o q).there
    rw [h] at hu; cases hu
end
/-- a step: data stays; what is nobody's stays nobody's, as it is -/
structure Stp (G : Hp) (own : Addr → Option Addr) (H : Hp) (G' : Hp) (own' : Addr → Option Addr) (H' : Hp) : Prop where
  same : Same G G'
  fr : ∀ b u, H b = some u → own b = none → G b = none → H' b = some u ∧ own' b = none ∧ G' b = none
theorem Stp.refl {G H : Hp} {own : Addr → Option Addr} : Stp G own H G own H := ⟨Same.refl _, fun _ _ h n g => ⟨h, n, g⟩⟩
theorem Stp.trans {G G1 G2 H H1 H2 : Hp} {own own1 own2 : Addr → Option Addr} (a : Stp G own H G1 own1 H1) (b : Stp G1 own1 H1 G2 own2 H2) : Stp G own H G2 own2 H2 :=
  ⟨a.same.trans b.same, fun c u h n g => b.fr c u (a.fr c u h n g).1 (a.fr c u h n g).2.1 (a.fr c u h n g).2.2⟩
theorem stp_new {G H : Hp} {own : Addr → Option Addr} {p : Addr} {u : HO} {x : Option Addr} (h : H p = none) : Stp G own H G (uown own p x) (upd H p u) :=
  ⟨Same.refl _, fun b v hb n g => ⟨by rw [upd_ne (ne_of_none hb h)]; exact hb, by unfold uown; rw [if_neg (ne_of_none hb h)]; exact n, g⟩⟩
theorem stp_data {G H : Hp} {own : Addr → Option Addr} {p : Addr} {u w : HO} (e : Same G (upd G p w)) (h : H p = none) : Stp G own H (upd G p w) (uown own p none) (upd H p u) :=
  ⟨e, fun b v hb n g => ⟨by rw [upd_ne (ne_of_none hb h)]; exact hb, by unfold uown; rw [if_neg (ne_of_none hb h)]; exact n, by rw [upd_ne (ne_of_none hb h)]; exact g⟩⟩
theorem stp_own {G H : Hp} {own : Addr → Option Addr} {p a : Addr} {u : HO} (w : own p = some a) : Stp G own H G own (upd H p u) :=
  ⟨Same.refl _, fun b v hb n g => ⟨by rw [upd_ne (fun z => by rw [z, w] at n; cases n)]; exact hb, n, g⟩⟩
/-- a private object is laid; it changes -/
theorem Rel.priv {K : PySem.W.Frag} {ca : CA} {G H : Hp} {own : Addr → Option Addr} {Ω : Om} {p : Addr} {u : HO} (r : Rel K ca G own H Ω) (h : H p = none) : Rel K ca G (uown own p none) (upd H p u) Ω := by
  have hg : G p = none := r.sub.free h
  refine ⟨fun b v e => ?_, fun b v e => ?_, fun b v e => ?_⟩
  · rw [upd_ne (ne_of_none e hg)]; exact r.sub _ _ e
  · unfold uown; rw [if_neg (ne_of_none e hg)]; exact r.imm _ _ e
  · refine (r.objs b v e).keep (Same.refl G) (fun c w hc ho => ?_) fun c w hc _ => by rw [upd_ne (ne_of_none hc h)]; exact hc
    refine ⟨by rw [upd_ne (ne_of_none hc h)]; exact hc, ?_⟩
    unfold uown
    rw [if_neg (ne_of_none hc h)]
    exact ho
theorem Rel.privSet {K : PySem.W.Frag} {ca : CA} {G H : Hp} {own : Addr → Option Addr} {Ω : Om} {p : Addr} {u v : HO} (r : Rel K ca G own H Ω) (h : H p = some v) (hi : ¬ Imm v) (hg : G p = none) (ho : own p = none) : Rel K ca G own (upd H p u) Ω := by
  refine ⟨fun b w e => ?_, r.imm, fun b w e => ?_⟩
  · rw [upd_ne (ne_of_none e hg)]; exact r.sub _ _ e
  · refine (r.objs b w e).keep (Same.refl G) (fun c x hc hw => ⟨?_, hw⟩) fun c x hc hx => ?_
    · rw [upd_ne (fun z => by rw [z, ho] at hw; cases hw)]; exact hc
    · rw [upd_ne (fun z => by rw [z, h] at hc; cases hc; exact hi hx)]; exact hc
/-- a private object becomes data -/
theorem Rel.privData {K : PySem.W.Frag} {ca : CA} {G H : Hp} {own : Addr → Option Addr} {Ω : Om} {p : Addr} {v : HO} (r : Rel K ca G own H Ω) (h : H p = some v) (hg : G p = none) (ho : own p = none) : Rel K ca (upd G p v) own H Ω ∧ Same G (upd G p v) := by
  have hs : Same G (upd G p v) := fun b w e => by rw [upd_ne (ne_of_none e hg)]; exact e
  refine ⟨⟨fun b w e => ?_, fun b w e => ?_, fun b w e => (r.objs b w e).keep hs (fun c x hc hw => ⟨hc, hw⟩) fun c x hc _ => hc⟩, hs⟩
  · by_cases hb : b = p
    · subst hb; rw [upd_same] at e; cases e; exact h
    · rw [upd_ne hb] at e; exact r.sub _ _ e
  · by_cases hb : b = p
    · subst hb; exact ho
    · rw [upd_ne hb] at e; exact r.imm _ _ e
/-- the slots -/
structure SR (K : PySem.W.Frag) (G : Hp) (σ : St) (ρ : En) : Prop where
  len : σ.length = ρ.length
  get : ∀ (i : Nat) d, ρ[i]? = some (some d) → ∃ v, σ[i]? = some (some v) ∧ DV K G v d
section
variable {K : PySem.W.Frag} {G G' : Hp} {σ : St} {ρ : En}
theorem SR.mono (e : Same G G') (s : SR K G σ ρ) : SR K G' σ ρ := ⟨s.len, fun i d h => let ⟨v, a, b⟩ := s.get i d h; ⟨v, a, b.mono e⟩⟩
theorem SR.set {v : V} {d : D} (s : SR K G σ ρ) (i : Nat) (h : DV K G v d) : SR K G (σ.set i (some v)) (ρ.set i (some d)) := by
  refine ⟨by rw [List.length_set, List.length_set, s.len], fun j e hj => ?_⟩
  by_cases hi : j = i
  · subst hi
    have hl : j < ρ.length := by
      have := (List.getElem?_eq_some_iff.mp hj).1
      rwa [List.length_set] at this
    rw [List.getElem?_set_self hl] at hj
    cases hj
    exact ⟨v, List.getElem?_set_self (by rw [s.len]; exact hl), h⟩
  · rw [List.getElem?_set_ne (Ne.symm hi)] at hj ⊢
    exact s.get j e hj
theorem SR.drop (s : SR K G σ ρ) (i : Nat) (x : Option V) : SR K G (σ.set i x) (ρ.set i none) := by
  refine ⟨by rw [List.length_set, List.length_set, s.len], fun j e hj => ?_⟩
  by_cases hi : j = i
  · subst hi
    have hl : j < ρ.length := by
      have := (List.getElem?_eq_some_iff.mp hj).1
      rwa [List.length_set] at this
    rw [List.getElem?_set_self hl] at hj
    cases hj
  · rw [List.getElem?_set_ne (Ne.symm hi)] at hj ⊢
    exact s.get j e hj
end
end PL
namespace PL
open PySem L2
abbrev AW := Value → En → Om → Prop
abbrev AQ := D → Om → Prop
abbrev ATE := AW → En → Om → AQ → Prop
abbrev ATT := AW → En → Om → (Bool → Om → Prop) → Prop
abbrev ATA := AW → En → Om → (List D → Om → Prop) → Prop
structure AEnds where
  nx : En → Om → Prop
  rt : D → Om → Prop
  bk : En → Om → Prop := fun _ _ => False
  ct : En → Om → Prop := fun _ _ => False
abbrev ATS := AW → AEnds → En → Om → Prop
section
variable (K : PySem.W.Frag) (ca : CA) (W : WX)
def KX (G : Hp) (own : Addr → Option Addr) (H : Hp) (σ : St) (ρ : En) (Wa : AW) : Prop := ∀ cls H' G' own' Ω', Stp G own H G' own' H' → Rel K ca G' own' H' Ω' → Wa cls ρ Ω' → W cls none σ H'
def SimE (te : TE) (ta : ATE) : Prop := ∀ (σ : St) (H : Hp) (G : Hp) (own : Addr → Option Addr) (ρ : En) (Ω : Om) (Wa : AW) (Qa : AQ) (Qc : VK), Rel K ca G own H Ω → SR K G σ ρ → ta Wa ρ Ω Qa →
  (∀ v H' G' own' d Ω', Stp G own H G' own' H' → Rel K ca G' own' H' Ω' → DV K G' v d → Qa d Ω' → Qc v H') → KX K ca W G own H σ ρ Wa → te σ H Qc
def SimT (te : TT) (ta : ATT) : Prop := ∀ (σ : St) (H : Hp) (G : Hp) (own : Addr → Option Addr) (ρ : En) (Ω : Om) (Wa : AW) (Qa : Bool → Om → Prop) (Qc : Bool → Hp → Prop), Rel K ca G own H Ω → SR K G σ ρ → ta Wa ρ Ω Qa →
  (∀ b H' G' own' Ω', Stp G own H G' own' H' → Rel K ca G' own' H' Ω' → Qa b Ω' → Qc b H') → KX K ca W G own H σ ρ Wa → te σ H Qc
def SimA (te : TA) (ta : ATA) : Prop := ∀ (σ : St) (H : Hp) (G : Hp) (own : Addr → Option Addr) (ρ : En) (Ω : Om) (Wa : AW) (Qa : List D → Om → Prop) (Qc : List V → Hp → Prop), Rel K ca G own H Ω → SR K G σ ρ → ta Wa ρ Ω Qa →
  (∀ v H' G' own' d Ω', Stp G own H G' own' H' → Rel K ca G' own' H' Ω' → DVs K G' v d → Qa d Ω' → Qc v H') → KX K ca W G own H σ ρ Wa → te σ H Qc
/-- the ends of a statement -/
structure KE (G : Hp) (own : Addr → Option Addr) (H : Hp) (Da : AEnds) (Dc : Ends) (Wa : AW) : Prop where
  nx : ∀ σ' H' G' own' ρ' Ω', Stp G own H G' own' H' → Rel K ca G' own' H' Ω' → SR K G' σ' ρ' → Da.nx ρ' Ω' → Dc.nx σ' H'
  rt : ∀ v H' G' own' d Ω', Stp G own H G' own' H' → Rel K ca G' own' H' Ω' → DV K G' v d → Da.rt d Ω' → Dc.rt v H'
  bk : ∀ σ' H' G' own' ρ' Ω', Stp G own H G' own' H' → Rel K ca G' own' H' Ω' → SR K G' σ' ρ' → Da.bk ρ' Ω' → Dc.bk σ' H'
  ct : ∀ σ' H' G' own' ρ' Ω', Stp G own H G' own' H' → Rel K ca G' own' H' Ω' → SR K G' σ' ρ' → Da.ct ρ' Ω' → Dc.ct σ' H'
  ex : ∀ cls σ' H' G' own' ρ' Ω', Stp G own H G' own' H' → Rel K ca G' own' H' Ω' → SR K G' σ' ρ' → Wa cls ρ' Ω' → W cls none σ' H'
def SimS (ts : TS) (ta : ATS) : Prop := ∀ (σ : St) (H : Hp) (G : Hp) (own : Addr → Option Addr) (ρ : En) (Ω : Om) (Wa : AW) (Da : AEnds) (Dc : Ends), Rel K ca G own H Ω → SR K G σ ρ → ta Wa Da ρ Ω → KE K ca W G own H Da Dc Wa → ts Dc σ H
end
structure AE (X : Cx) (ca : CA) (W : WX) (e : Expr) (te : TE) (ta : ATE) : Prop where
  pe : PE X e te
  sim : SimE X.K ca W te ta
structure AT (X : Cx) (ca : CA) (W : WX) (e : Expr) (te : TT) (ta : ATT) : Prop where
  pe : PT X e te
  sim : SimT X.K ca W te ta
structure AWt (X : Cx) (ca : CA) (W : WX) (e : Expr) (te : TT) (ta : ATT) : Prop where
  pe : PW X e te
  sim : SimT X.K ca W te ta
structure AA (X : Cx) (ca : CA) (W : WX) (e : List Expr) (te : TA) (ta : ATA) : Prop where
  pe : PA X e te
  sim : SimA X.K ca W te ta
structure AS (X : Cx) (ca : CA) (W : WX) (s : Stmt) (ts : TS) (ta : ATS) : Prop where
  pe : PS X s ts
  sim : SimS X.K ca W ts ta
structure ASs (X : Cx) (ca : CA) (W : WX) (s : List Stmt) (ts : TS) (ta : ATS) : Prop where
  pe : PSs X s ts
  sim : SimS X.K ca W ts ta
theorem KX.mono {K : PySem.W.Frag} {ca : CA} {W : WX} {G G' H H' : Hp} {own own' : Addr → Option Addr} {σ : St} {ρ : En} {Wa : AW} (k : KX K ca W G own H σ ρ Wa) (e : Stp G own H G' own' H') : KX K ca W G' own' H' σ ρ Wa := fun cls H' G2 own' Ω' e2 r w => k cls H' G2 own' Ω' (e.trans e2) r w
theorem KE.mono {K : PySem.W.Frag} {ca : CA} {W : WX} {G G' H H' : Hp} {own own' : Addr → Option Addr} {Da : AEnds} {Dc : Ends} {Wa : AW} (k : KE K ca W G own H Da Dc Wa) (e : Stp G own H G' own' H') : KE K ca W G' own' H' Da Dc Wa :=
  ⟨fun _ _ _ _ _ _ e2 => k.nx _ _ _ _ _ _ (e.trans e2), fun _ _ _ _ _ _ e2 => k.rt _ _ _ _ _ _ (e.trans e2), fun _ _ _ _ _ _ e2 => k.bk _ _ _ _ _ _ (e.trans e2), fun _ _ _ _ _ _ e2 => k.ct _ _ _ _ _ _ (e.trans e2), fun _ _ _ _ _ _ _ e2 => k.ex _ _ _ _ _ _ _ (e.trans e2)⟩
theorem KE.kx {K : PySem.W.Frag} {ca : CA} {W : WX} {G H : Hp} {own : Addr → Option Addr} {Da : AEnds} {Dc : Ends} {Wa : AW} (k : KE K ca W G own H Da Dc Wa) {σ : St} {ρ : En} (s : SR K G σ ρ) : KX K ca W G own H σ ρ Wa :=
  fun cls H' G' own' Ω' e r w => k.ex _ _ _ _ _ _ _ e r (s.mono e.same) w
section
variable {X : Cx} {ca : CA} {W : WX} {a b e : Expr} {ta tb te : TE} {ra rb re : ATE} {pos : Pos}
def aVar (i : Nat) : ATE := fun _ ρ Ω Q => ∃ d, ρ[i]? = some (some d) ∧ Q d Ω
def aC (d : D) : ATE := fun _ _ Ω Q => Q d Ω
theorem ae_var (i : Nat) {x : Str} (hN : X.N[i]? = some x := by rfl) (hv : Vis X.env.scope x := by first | exact Or.inl rfl | exact Or.inr (Or.inl rfl) | exact Or.inr (Or.inr rfl)) (hd : (x == ("__debug__" : Str)) = false := by decide)
    (hcd : (x == ("__classdict__" : Str)) = false := by decide) : AE X ca W (.Name x pos) (tVar i) (aVar i) := by
  refine ⟨pe_var hN hv hd hcd, fun σ H G own ρ Ω Wa Qa Qc r s h k _ => ?_⟩
  obtain ⟨d, hd, q⟩ := h
  obtain ⟨v, hv, dv⟩ := s.get i d hd
  exact ⟨v, hv, k _ _ _ _ _ _ Stp.refl r dv q⟩
/-- a list object of ours, taken as data from here on -/
def aTake (i : Nat) : ATE := fun _ ρ Ω Q => ∃ a xs, ρ[i]? = some (some (.o a)) ∧ Ω a = some (.lst xs) ∧ Q (.lst xs) (odel Ω a)
theorem sim_c {K : PySem.W.Frag} {v : V} {d : D} (h : ∀ G, DV K G v d) : SimE K ca W (tC v) (aC d) := fun σ H G own ρ Ω Wa Qa Qc r s h' k _ => k _ _ _ _ _ _ Stp.refl r (h G) h'
theorem ae_int {i j} : AE X ca W (.Constant (.int i) j pos) (tC (.int i)) (aC (.int i)) := ⟨pe_int, sim_c fun _ => .int i⟩
theorem ae_bl {i j} : AE X ca W (.Constant (.bool i) j pos) (tC (.bl i)) (aC (.bl i)) := ⟨pe_bl, sim_c fun _ => .bl i⟩
theorem ae_non {j} : AE X ca W (.Constant .none j pos) (tC .non) (aC .non) := ⟨pe_non, sim_c fun _ => .non⟩
theorem ae_str {i j} : AE X ca W (.Constant (.str i) j pos) (tC (.str i)) (aC (.str i)) := ⟨pe_str, sim_c fun _ => .str i⟩
theorem ae_globI {x : Str} {i : Int} {t : Tok} (hg : Gl X x) (hm : X.mg x = some (.int i t)) (hd : (x == ("__debug__" : Str)) = false := by decide) : AE X ca W (.Name x pos) (tC (.int i)) (aC (.int i)) := ⟨pe_glob hg hm ⟨_, rfl⟩ hd, sim_c fun _ => .int i⟩
def aOp (f : D → D → Om → AQ → Prop) (ra rb : ATE) : ATE := fun Wa ρ Ω Q => ra Wa ρ Ω fun x Ω1 => rb Wa ρ Ω1 fun y Ω2 => f x y Ω2 Q
/-- an operator's reading by values -/
def SimR (K : PySem.W.Frag) (ca : CA) (r : R2) (f : D → D → Om → AQ → Prop) : Prop := ∀ (H G : Hp) own Ω x y v w (Qa : AQ) (Qc : VK), Rel K ca G own H Ω → DV K G v x → DV K G w y → f x y Ω Qa →
  (∀ v H' G' own' d Ω', Stp G own H G' own' H' → Rel K ca G' own' H' Ω' → DV K G' v d → Qa d Ω' → Qc v H') → r v w H Qc
theorem sim_op {K : PySem.W.Frag} {r : R2} {f : D → D → Om → AQ → Prop} (h : SimR K ca r f) (sa : SimE K ca W ta ra) (sb : SimE K ca W tb rb) : SimE K ca W (tOp r ta tb) (aOp f ra rb) := fun σ H G own ρ Ω Wa Qa Qc r s h' k kx =>
  sa σ H G own ρ Ω Wa _ _ r s h' (fun v H1 G1 own1 d Ω1 e1 r1 dv1 q1 => sb σ H1 G1 own1 ρ Ω1 Wa _ _ r1 (s.mono e1.same) q1 (fun w H2 G2 own2 d2 Ω2 e2 r2 dv2 q2 =>
    h H2 G2 own2 Ω2 d d2 v w Qa Qc r2 (dv1.mono e2.same) dv2 q2 fun v3 H3 G3 own3 d3 Ω3 e3 => k v3 H3 G3 own3 d3 Ω3 ((e1.trans e2).trans e3)) (kx.mono e1)) kx
def fI (C : Int → Int → Prop) (g : Int → Int → Int) : D → D → Om → AQ → Prop := fun x y Ω Q => ∃ i j, x = .int i ∧ y = .int j ∧ C i j ∧ Q (.int (g i j)) Ω
def fB (g : Int → Int → Bool) : D → D → Om → AQ → Prop := fun x y Ω Q => ∃ i j, x = .int i ∧ y = .int j ∧ Q (.bl (g i j)) Ω
theorem simr_I {K : PySem.W.Frag} {C : Int → Int → Prop} {g : Int → Int → Int} : SimR K ca (rI C fun i j => .int (g i j)) (fI C g) := by
  intro H G own Ω x y v w Qa Qc r dx dy h k
  obtain ⟨i, j, rfl, rfl, c, q⟩ := h
  cases dx
  cases dy
  exact ⟨i, j, rfl, rfl, c, k _ _ _ _ _ _ Stp.refl r (.int _) q⟩
theorem simr_I0 {K : PySem.W.Frag} {g : Int → Int → Int} : SimR K ca (rI0 fun i j => .int (g i j)) (fI (fun _ _ => True) g) := by
  intro H G own Ω x y v w Qa Qc r dx dy h k
  obtain ⟨i, j, rfl, rfl, _, q⟩ := h
  cases dx
  cases dy
  exact ⟨i, j, rfl, rfl, k _ _ _ _ _ _ Stp.refl r (.int _) q⟩
theorem simr_B {K : PySem.W.Frag} {g : Int → Int → Bool} : SimR K ca (rI0 fun i j => .bl (g i j)) (fB g) := by
  intro H G own Ω x y v w Qa Qc r dx dy h k
  obtain ⟨i, j, rfl, rfl, q⟩ := h
  cases dx
  cases dy
  exact ⟨i, j, rfl, rfl, k _ _ _ _ _ _ Stp.refl r (.bl _) q⟩
def TT2 : Int → Int → Prop := fun _ _ => True
def aAdd := aOp (fI TT2 fun i j => i + j)
def aSub := aOp (fI TT2 fun i j => i - j)
def aMul := aOp (fI IntMulOk fun i j => i * j)
def NoPy (_ j : Int) : Prop := j ≠ 0
/-- nobody looks on, and there is room: where a wide division may go by a module of its own -/
class Seer (P : Program) (base : Heap) : Prop where
  no : base.NoSeer
  tree : P.given.tree = none
structure Div (X : Cx) : Prop where
  no : X.base.NoSeer
  tree : X.prog.given.tree = none
  top : ∃ env l, X.stack = env :: l ∧ env.scope.isGenerator = false ∧ env.scope.isCoroutine = false ∧ env.builtins = builtinsNs ∧ env.globals = mainGlobals
  dp : X.A.depth + 100 < recursionLimit
def aFdv := aOp (fI NoPy fun i j => i.fdiv j)
def aMod := aOp (fI (fun _ j => j ≠ 0) fun i j => i.fmod j)
def aPow := aOp (fI CPow fun i j => i ^ j.toNat)
theorem ae_add (ha : AE X ca W a ta ra) (hb : AE X ca W b tb rb) : AE X ca W (.BinOp a .Add b pos) (tOp (rI0 fun i j => .int (i + j)) ta tb) (aAdd ra rb) := ⟨pe_op op_add ha.pe hb.pe, sim_op simr_I0 ha.sim hb.sim⟩
theorem ae_sub (ha : AE X ca W a ta ra) (hb : AE X ca W b tb rb) : AE X ca W (.BinOp a .Sub b pos) (tOp (rI0 fun i j => .int (i - j)) ta tb) (aSub ra rb) := ⟨pe_op op_sub ha.pe hb.pe, sim_op simr_I0 ha.sim hb.sim⟩
theorem op_mulM : OpR X (binaryOp .Mult) (rI IntMulOk fun i j => .int (i * j)) := opI fun _ _ _ _ _ _ _ hc q => PyProof.Rows.mul_int q hc
theorem op_fdvP (d : Div X) : OpR X (binaryOp .FloorDiv) (rI NoPy fun i j => .int (i.fdiv j)) := by
  intro pins s σ H x y v u Q I rx ry hh
  obtain ⟨i, j, rfl, rfl, hc, q⟩ := hh
  obtain ⟨t1, rfl⟩ := rx
  obtain ⟨t2, rfl⟩ := ry
  obtain ⟨env, l, e, g1, g2, g3, g4⟩ := d.top
  refine PyProof.Rows.floordiv_int hc ⟨.int (i.fdiv j), H, I.tok _, ⟨_, rfl⟩, q⟩ (.inr (PySem.PylongRoom.of I.nolimit d.dp (PySem.SeerAt.of (env := env) (l := l) (d.no.keeps I.bk) d.tree (by rw [I.ok.frames, e]) g1 g2 g3 g4)))
theorem ae_mul (ha : AE X ca W a ta ra) (hb : AE X ca W b tb rb) : AE X ca W (.BinOp a .Mult b pos) (tOp (rI IntMulOk fun i j => .int (i * j)) ta tb) (aMul ra rb) := ⟨pe_op op_mulM ha.pe hb.pe, sim_op simr_I ha.sim hb.sim⟩
theorem ae_fdv (d : Div X) (ha : AE X ca W a ta ra) (hb : AE X ca W b tb rb) : AE X ca W (.BinOp a .FloorDiv b pos) (tOp (rI NoPy fun i j => .int (i.fdiv j)) ta tb) (aFdv ra rb) := ⟨pe_op (op_fdvP d) ha.pe hb.pe, sim_op simr_I ha.sim hb.sim⟩
theorem ae_mod (ha : AE X ca W a ta ra) (hb : AE X ca W b tb rb) : AE X ca W (.BinOp a .Mod b pos) (tOp (rI (fun _ j => j ≠ 0) fun i j => .int (i.fmod j)) ta tb) (aMod ra rb) := ⟨pe_op op_modN ha.pe hb.pe, sim_op simr_I ha.sim hb.sim⟩
def aShl1 := aOp (fun x y Ω Q => ∃ k : Nat, x = .int 1 ∧ y = .int k ∧ k ≤ 134217727 ∧ Q (.int (2 ^ k)) Ω)
theorem ae_shl1 (ha : AE X ca W a ta ra) (hb : AE X ca W b tb rb) : AE X ca W (.BinOp a .LShift b pos) (tOp (fun x y H Q => ∃ k : Nat, x = .int 1 ∧ y = .int (k : Int) ∧ k ≤ 134217727 ∧ Q (.int (2 ^ k)) H) ta tb) (aShl1 ra rb) := ⟨pe_op op_oneShl ha.pe hb.pe, sim_op (by
  intro H G own Ω x y v w Qa Qc r dx dy h k
  obtain ⟨n, rfl, rfl, c, q⟩ := h
  cases dx
  cases dy
  exact ⟨n, rfl, rfl, c, k _ _ _ _ _ _ Stp.refl r (.int _) q⟩) ha.sim hb.sim⟩
def aLt := aOp (fB fun i j => decide (i < j))
def aLe := aOp (fB fun i j => decide (i ≤ j))
def aGt := aOp (fB fun i j => decide (j < i))
def aGe := aOp (fB fun i j => decide (j ≤ i))
theorem ae_lt (ha : AE X ca W a ta ra) (hb : AE X ca W b tb rb) : AE X ca W (.Compare a [.Lt] [b] pos) (tOp (rI0 fun i j => .bl (decide (i < j))) ta tb) (aLt ra rb) := ⟨pe_cmpR op_lt ha.pe hb.pe (nomark _), sim_op simr_B ha.sim hb.sim⟩
theorem ae_le (ha : AE X ca W a ta ra) (hb : AE X ca W b tb rb) : AE X ca W (.Compare a [.LtE] [b] pos) (tOp (rI0 fun i j => .bl (decide (i ≤ j))) ta tb) (aLe ra rb) := ⟨pe_cmpR op_le ha.pe hb.pe (nomark _), sim_op simr_B ha.sim hb.sim⟩
theorem ae_gt (ha : AE X ca W a ta ra) (hb : AE X ca W b tb rb) : AE X ca W (.Compare a [.Gt] [b] pos) (tOp (rI0 fun i j => .bl (decide (j < i))) ta tb) (aGt ra rb) := ⟨pe_cmpR op_gt ha.pe hb.pe (nomark _), sim_op simr_B ha.sim hb.sim⟩
theorem ae_ge (ha : AE X ca W a ta ra) (hb : AE X ca W b tb rb) : AE X ca W (.Compare a [.GtE] [b] pos) (tOp (rI0 fun i j => .bl (decide (j ≤ i))) ta tb) (aGe ra rb) := ⟨pe_cmpR op_ge ha.pe hb.pe (nomark _), sim_op simr_B ha.sim hb.sim⟩
mutual
def D.py : D → Option PyData
  | .non => some .none
  | .bl b => some (.bool b)
  | .int i => some (.int i)
  | .str x => some (.str x)
  | .tup xs => (D.pys xs).map .tuple
  | .lst xs => (D.pys xs).map .list
  | .o _ => none
def D.pys : List D → Option (List PyData)
  | [] => some []
  | x :: xs => match D.py x, D.pys xs with
    | some p, some ps => some (p :: ps)
    | _, _ => none
end
mutual
theorem DV.dp {K : PySem.W.Frag} {G H : Hp} (e : Same G H) : ∀ {d : D} {v : V} {p : PyData}, DV K G v d → D.py d = some p → Dp K H v p
  | .non, _, _, h, q => by cases h; simp only [D.py, Option.some.injEq] at q; subst q; exact .non
  | .bl _, _, _, h, q => by cases h; simp only [D.py, Option.some.injEq] at q; subst q; exact .bl _
  | .int _, _, _, h, q => by cases h; simp only [D.py, Option.some.injEq] at q; subst q; exact .int _
  | .str _, _, _, h, q => by cases h; simp only [D.py, Option.some.injEq] at q; subst q; exact .str _
  | .o _, _, _, h, q => by simp [D.py] at q
  | .tup xs, _, _, h, q => by
    cases h with
    | tup a b =>
      simp only [D.py, Option.map_eq_some_iff] at q
      obtain ⟨ps, e1, rfl⟩ := q
      exact .tup (same_seqT e a) (DVs.dp e b e1)
  | .lst xs, _, _, h, q => by
    cases h with
    | lst a b =>
      simp only [D.py, Option.map_eq_some_iff] at q
      obtain ⟨ps, e1, rfl⟩ := q
      exact .lst (e.seq a) (DVs.dp e b e1)
theorem DVs.dp {K : PySem.W.Frag} {G H : Hp} (e : Same G H) : ∀ {d : List D} {v : List V} {p : List PyData}, DVs K G v d → D.pys d = some p → DpAll K H v p
  | [], _, _, h, q => by cases h; simp only [D.pys, Option.some.injEq] at q; subst q; exact .nil
  | x :: xs, _, _, h, q => by
    cases h with
    | cons h1 h2 =>
      simp only [D.pys] at q
      cases e1 : D.py x with
      | none => rw [e1] at q; cases q
      | some p =>
        cases e2 : D.pys xs with
        | none => rw [e1, e2] at q; cases q
        | some ps =>
          rw [e1, e2] at q
          simp only [Option.some.injEq] at q
          subst q
          exact .cons (DV.dp e h1 e1) (DVs.dp e h2 e2)
end
def fEq (neg : Bool) : D → D → Om → AQ → Prop := fun x y Ω Q => ∃ p q, x.py = some p ∧ y.py = some q ∧ SeqAt.shaped p = true ∧ SeqAt.shaped q = true ∧ Q (.bl (if neg then !PyData.eqv p q else PyData.eqv p q)) Ω
theorem simr_eqD {K : PySem.W.Frag} : SimR K ca (rEqD K) (fEq false) := by
  intro H G own Ω x y v w Qa Qc r dx dy h k
  obtain ⟨p, q, e1, e2, s1, s2, h⟩ := h
  exact ⟨p, q, dx.dp r.sub e1, dy.dp r.sub e2, s1, s2, k _ _ _ _ _ _ Stp.refl r (.bl _) h⟩
theorem simr_neD {K : PySem.W.Frag} : SimR K ca (rNeD K) (fEq true) := by
  intro H G own Ω x y v w Qa Qc r dx dy h k
  obtain ⟨p, q, e1, e2, s1, s2, h⟩ := h
  exact ⟨p, q, dx.dp r.sub e1, dy.dp r.sub e2, s1, s2, k _ _ _ _ _ _ Stp.refl r (.bl _) h⟩
def aEqD := aOp (fEq false)
def aNeD := aOp (fEq true)
theorem ae_eqD (hu : X.A.units + 64 < cLine) (ha : AE X ca W a ta ra) (hb : AE X ca W b tb rb) : AE X ca W (.Compare a [.Eq] [b] pos) (tOp (rEqD X.K) ta tb) (aEqD ra rb) := ⟨pe_cmpR (op_eqD hu) ha.pe hb.pe (nomark _), sim_op simr_eqD ha.sim hb.sim⟩
/-- == and != of two ints -/
def aEqI := aOp (fB fun i j => decide (i = j))
def aNeI := aOp (fB fun i j => !decide (i = j))
theorem simr_eqI {K : PySem.W.Frag} : SimR K ca rEq (fB fun i j => decide (i = j)) := by
  intro H G own Ω x y v w Qa Qc r dx dy h k
  obtain ⟨i, j, rfl, rfl, q⟩ := h
  cases dx
  cases dy
  have e : decide (V.int i = V.int j) = decide (i = j) := by simp
  exact ⟨rfl, k _ _ _ _ (.bl (decide (i = j))) _ Stp.refl r (e ▸ .bl _) q⟩
theorem simr_neI {K : PySem.W.Frag} : SimR K ca rNe (fB fun i j => !decide (i = j)) := by
  intro H G own Ω x y v w Qa Qc r dx dy h k
  obtain ⟨i, j, rfl, rfl, q⟩ := h
  cases dx
  cases dy
  have e : decide (V.int i = V.int j) = decide (i = j) := by simp
  exact ⟨rfl, k _ _ _ _ (.bl (!decide (i = j))) _ Stp.refl r (e ▸ .bl _) q⟩
theorem ae_eqI (ha : AE X ca W a ta ra) (hb : AE X ca W b tb rb) : AE X ca W (.Compare a [.Eq] [b] pos) (tOp rEq ta tb) (aEqI ra rb) := ⟨pe_cmpR op_eq ha.pe hb.pe (nomark _), sim_op simr_eqI ha.sim hb.sim⟩
theorem ae_neI (ha : AE X ca W a ta ra) (hb : AE X ca W b tb rb) : AE X ca W (.Compare a [.NotEq] [b] pos) (tOp rNe ta tb) (aNeI ra rb) := ⟨pe_cmpR op_ne ha.pe hb.pe (nomark _), sim_op simr_neI ha.sim hb.sim⟩
/-- == of two texts -/
def aEqS := aOp (fun x y Ω Q => ∃ i j, x = .str i ∧ y = .str j ∧ Q (.bl (decide (i = j))) Ω)
def aNeS := aOp (fun x y Ω Q => ∃ i j, x = .str i ∧ y = .str j ∧ Q (.bl (!decide (i = j))) Ω)
theorem ae_eqS (ha : AE X ca W a ta ra) (hb : AE X ca W b tb rb) : AE X ca W (.Compare a [.Eq] [b] pos) (tOp rEq ta tb) (aEqS ra rb) := ⟨pe_cmpR op_eq ha.pe hb.pe (nomark _), sim_op (by
  intro H G own Ω x y v w Qa Qc r dx dy h k
  obtain ⟨i, j, rfl, rfl, q⟩ := h
  cases dx
  cases dy
  have e : decide (V.str i = V.str j) = decide (i = j) := by simp
  exact ⟨rfl, k _ _ _ _ (.bl (decide (i = j))) _ Stp.refl r (e ▸ .bl _) q⟩) ha.sim hb.sim⟩
theorem ae_neS (ha : AE X ca W a ta ra) (hb : AE X ca W b tb rb) : AE X ca W (.Compare a [.NotEq] [b] pos) (tOp rNe ta tb) (aNeS ra rb) := ⟨pe_cmpR op_ne ha.pe hb.pe (nomark _), sim_op (by
  intro H G own Ω x y v w Qa Qc r dx dy h k
  obtain ⟨i, j, rfl, rfl, q⟩ := h
  cases dx
  cases dy
  have e : decide (V.str i = V.str j) = decide (i = j) := by simp
  exact ⟨rfl, k _ _ _ _ (.bl (!decide (i = j))) _ Stp.refl r (e ▸ .bl _) q⟩) ha.sim hb.sim⟩
/-- is None, is not None -/
def D.isNon : D → Bool
  | .non => true
  | _ => false
theorem DV.isNon {K : PySem.W.Frag} {G : Hp} {v : V} {d : D} (h : DV K G v d) : decide (v = .non) = d.isNon := by cases h <;> simp [D.isNon]
def aIsN (ra : ATE) : ATE := fun Wa ρ Ω Q => ra Wa ρ Ω fun x Ω1 => Q (.bl x.isNon) Ω1
def aNotN (ra : ATE) : ATE := fun Wa ρ Ω Q => ra Wa ρ Ω fun x Ω1 => Q (.bl (!x.isNon)) Ω1
theorem ae_notN {j pos'} (ha : AE X ca W a ta ra) : AE X ca W (.Compare a [.IsNot] [.Constant .none j pos'] pos) (tNotN ta) (aNotN ra) := ⟨pe_cmp (pc_notN ha.pe) (nomark _), fun σ H G own ρ Ω Wa Qa Qc r s h k kx => ha.sim σ H G own ρ Ω Wa _ _ r s h (fun v H1 G1 own1 d Ω1 e1 r1 dv1 q1 => by
  show Qc (.bl (!decide (v = .non))) H1
  rw [dv1.isNon]
  exact k _ _ _ _ _ _ e1 r1 (.bl _) q1) kx⟩
def aB (ra : ATE) : ATT := fun Wa ρ Ω Q => ra Wa ρ Ω fun x Ω1 => ∃ c, x = .bl c ∧ Q c Ω1
theorem at_val (ha : AE X ca W e te re) (he : ∀ whole, isTrue e X.env whole = (do let v ← whole; standAt e.pos; holding [v] (truthy v)) := by intro _; rfl) : AT X ca W e (tB te) (aB re) := ⟨pt_val ha.pe he, fun σ H G own ρ Ω Wa Qa Qc r s h k kx => ha.sim σ H G own ρ Ω Wa _ _ r s h (fun v H1 G1 own1 d Ω1 e1 r1 dv1 q1 => by
  obtain ⟨c, rfl, q⟩ := q1
  cases dv1
  exact ⟨c, rfl, k _ _ _ _ _ e1 r1 q⟩) kx⟩
/-- a comparison as a test, by its rule -/
theorem at_cmp {op : CmpOp} {r : R2} {f : D → D → Om → AQ → Prop} (ho : OpR X (compareOp op) r) (hf : SimR X.K ca r f) (ha : AE X ca W a ta ra) (hb : AE X ca W b tb rb) (hm : behindInMarks op b = false) : AT X ca W (.Compare a [op] [b] pos) (tTest (tOp r ta tb)) (aB (aOp f ra rb)) :=
  ⟨pt_cmpR ho ha.pe hb.pe hm, fun σ H G own ρ Ω Wa Qa Qc r s h k kx => sim_op hf ha.sim hb.sim σ H G own ρ Ω Wa _ _ r s h (fun v H1 G1 own1 d Ω1 e1 r1 dv1 q1 => by
  obtain ⟨c, rfl, q⟩ := q1
  cases dv1
  exact ⟨c, rfl, k _ _ _ _ _ e1 r1 q⟩) kx⟩
theorem at_lt (ha : AE X ca W a ta ra) (hb : AE X ca W b tb rb) : AT X ca W (.Compare a [.Lt] [b] pos) (tTest (tOp (rI0 fun i j => .bl (decide (i < j))) ta tb)) (aB (aLt ra rb)) := at_cmp op_lt simr_B ha hb (nomark _)
theorem at_le (ha : AE X ca W a ta ra) (hb : AE X ca W b tb rb) : AT X ca W (.Compare a [.LtE] [b] pos) (tTest (tOp (rI0 fun i j => .bl (decide (i ≤ j))) ta tb)) (aB (aLe ra rb)) := at_cmp op_le simr_B ha hb (nomark _)
theorem at_gt (ha : AE X ca W a ta ra) (hb : AE X ca W b tb rb) : AT X ca W (.Compare a [.Gt] [b] pos) (tTest (tOp (rI0 fun i j => .bl (decide (j < i))) ta tb)) (aB (aGt ra rb)) := at_cmp op_gt simr_B ha hb (nomark _)
theorem at_ge (ha : AE X ca W a ta ra) (hb : AE X ca W b tb rb) : AT X ca W (.Compare a [.GtE] [b] pos) (tTest (tOp (rI0 fun i j => .bl (decide (j ≤ i))) ta tb)) (aB (aGe ra rb)) := at_cmp op_ge simr_B ha hb (nomark _)
theorem at_eqI (ha : AE X ca W a ta ra) (hb : AE X ca W b tb rb) : AT X ca W (.Compare a [.Eq] [b] pos) (tTest (tOp rEq ta tb)) (aB (aEqI ra rb)) := at_cmp op_eq simr_eqI ha hb (nomark _)
theorem at_neI (ha : AE X ca W a ta ra) (hb : AE X ca W b tb rb) : AT X ca W (.Compare a [.NotEq] [b] pos) (tTest (tOp rNe ta tb)) (aB (aNeI ra rb)) := at_cmp op_ne simr_neI ha hb (nomark _)
theorem at_eqD (hu : X.A.units + 64 < cLine) (ha : AE X ca W a ta ra) (hb : AE X ca W b tb rb) : AT X ca W (.Compare a [.Eq] [b] pos) (tTest (tOp (rEqD X.K) ta tb)) (aB (aEqD ra rb)) := at_cmp (op_eqD hu) simr_eqD ha hb (nomark _)
theorem at_neD (hu : X.A.units + 64 < cLine) (ha : AE X ca W a ta ra) (hb : AE X ca W b tb rb) : AT X ca W (.Compare a [.NotEq] [b] pos) (tTest (tOp (rNeD X.K) ta tb)) (aB (aNeD ra rb)) := at_cmp (op_neD hu) simr_neD ha hb (nomark _)
theorem at_isN {j pos'} (ha : AE X ca W a ta ra) : AT X ca W (.Compare a [.Is] [.Constant .none j pos'] pos) (tB (tIsN ta)) (aB (aIsN ra)) := ⟨pt_cmp (pc_isN ha.pe) (nomark _), fun σ H G own ρ Ω Wa Qa Qc r s h k kx => ha.sim σ H G own ρ Ω Wa _ _ r s h (fun v H1 G1 own1 d Ω1 e1 r1 dv1 q1 => by
  obtain ⟨c, e, q⟩ := q1
  cases e
  exact ⟨d.isNon, by rw [dv1.isNon], k _ _ _ _ _ e1 r1 q⟩) kx⟩
theorem at_notN {j pos'} (ha : AE X ca W a ta ra) : AT X ca W (.Compare a [.IsNot] [.Constant .none j pos'] pos) (tB (tNotN ta)) (aB (aNotN ra)) := ⟨pt_cmp (pc_notN ha.pe) (nomark _), fun σ H G own ρ Ω Wa Qa Qc r s h k kx => ha.sim σ H G own ρ Ω Wa _ _ r s h (fun v H1 G1 own1 d Ω1 e1 r1 dv1 q1 => by
  obtain ⟨c, e, q⟩ := q1
  cases e
  exact ⟨!d.isNon, by rw [dv1.isNon], k _ _ _ _ _ e1 r1 q⟩) kx⟩
variable {tt tu : TT} {rt ru : ATT} {rest : List Expr}
def aAnd (t u : ATT) : ATT := fun Wa ρ Ω Q => t Wa ρ Ω fun c Ω1 => if c = true then u Wa ρ Ω1 Q else Q false Ω1
def aOr (t u : ATT) : ATT := fun Wa ρ Ω Q => t Wa ρ Ω fun c Ω1 => if c = true then Q true Ω1 else u Wa ρ Ω1 Q
def aNot (t : ATT) : ATT := fun Wa ρ Ω Q => t Wa ρ Ω fun c Ω1 => Q (!c) Ω1
theorem sim_and {K : PySem.W.Frag} (h1 : SimT K ca W tt rt) (h2 : SimT K ca W tu ru) : SimT K ca W (tAnd tt tu) (aAnd rt ru) := fun σ H G own ρ Ω Wa Qa Qc r s h k kx => h1 σ H G own ρ Ω Wa _ _ r s h (fun c H1 G1 own1 Ω1 e1 r1 q1 => by
  cases c with
  | true => exact h2 σ H1 G1 own1 ρ Ω1 Wa _ _ r1 (s.mono e1.same) q1 (fun c H2 G2 own2 Ω2 e2 => k c H2 G2 own2 Ω2 (e1.trans e2)) (kx.mono e1)
  | false => exact k _ _ _ _ _ e1 r1 q1) kx
theorem sim_or {K : PySem.W.Frag} (h1 : SimT K ca W tt rt) (h2 : SimT K ca W tu ru) : SimT K ca W (tOr tt tu) (aOr rt ru) := fun σ H G own ρ Ω Wa Qa Qc r s h k kx => h1 σ H G own ρ Ω Wa _ _ r s h (fun c H1 G1 own1 Ω1 e1 r1 q1 => by
  cases c with
  | false => exact h2 σ H1 G1 own1 ρ Ω1 Wa _ _ r1 (s.mono e1.same) q1 (fun c H2 G2 own2 Ω2 e2 => k c H2 G2 own2 Ω2 (e1.trans e2)) (kx.mono e1)
  | true => exact k _ _ _ _ _ e1 r1 q1) kx
theorem aw_and1 (ha : AT X ca W a tt rt) : AWt X ca W (.BoolOp .And [a] pos) tt rt := ⟨pw_and1 ha.pe, ha.sim⟩
theorem aw_or1 (ha : AT X ca W a tt rt) : AWt X ca W (.BoolOp .Or [a] pos) tt rt := ⟨pw_or1 ha.pe, ha.sim⟩
theorem aw_and (ha : AT X ca W a tt rt) (hb : AWt X ca W (.BoolOp .And (b :: rest) pos) tu ru) : AWt X ca W (.BoolOp .And (a :: b :: rest) pos) (tAnd tt tu) (aAnd rt ru) := ⟨pw_and ha.pe hb.pe, sim_and ha.sim hb.sim⟩
theorem aw_or (ha : AT X ca W a tt rt) (hb : AWt X ca W (.BoolOp .Or (b :: rest) pos) tu ru) : AWt X ca W (.BoolOp .Or (a :: b :: rest) pos) (tOr tt tu) (aOr rt ru) := ⟨pw_or ha.pe hb.pe, sim_or ha.sim hb.sim⟩
theorem AWt.at_ (h : AWt X ca W a tt rt) : AT X ca W a tt rt := ⟨h.pe.pt, h.sim⟩
theorem at_not (ha : AT X ca W a tt rt) : AT X ca W (.UnaryOp .Not a pos) (tNot tt) (aNot rt) := ⟨pt_not ha.pe, fun σ H G own ρ Ω Wa Qa Qc r s h k kx => ha.sim σ H G own ρ Ω Wa _ _ r s h (fun c H1 G1 own1 Ω1 e1 r1 q1 => k _ _ _ _ _ e1 r1 q1) kx⟩
/-- .. as values -/
def aAndV (ra rb : ATE) : ATE := fun Wa ρ Ω Q => ra Wa ρ Ω fun x Ω1 => ∃ c, x = .bl c ∧ if c = true then rb Wa ρ Ω1 Q else Q (.bl false) Ω1
def aOrV (ra rb : ATE) : ATE := fun Wa ρ Ω Q => ra Wa ρ Ω fun x Ω1 => ∃ c, x = .bl c ∧ if c = true then Q (.bl true) Ω1 else rb Wa ρ Ω1 Q
def aNotV (ra : ATE) : ATE := fun Wa ρ Ω Q => ra Wa ρ Ω fun x Ω1 => ∃ c, x = .bl c ∧ Q (.bl (!c)) Ω1
theorem ae_one {op} (ha : AE X ca W a ta ra) : AE X ca W (.BoolOp op [a] pos) ta ra := ⟨pe_one ha.pe, ha.sim⟩
theorem ae_and (ha : AE X ca W a ta ra) (hb : AE X ca W (.BoolOp .And (b :: rest) pos) tb rb) : AE X ca W (.BoolOp .And (a :: b :: rest) pos) (tAndV ta tb) (aAndV ra rb) := ⟨pe_and ha.pe hb.pe, fun σ H G own ρ Ω Wa Qa Qc r s h k kx => ha.sim σ H G own ρ Ω Wa _ _ r s h (fun v H1 G1 own1 d Ω1 e1 r1 dv1 q1 => by
  obtain ⟨c, rfl, q⟩ := q1
  cases dv1
  refine ⟨c, rfl, ?_⟩
  cases c with
  | true => exact hb.sim σ H1 G1 own1 ρ Ω1 Wa _ _ r1 (s.mono e1.same) q (fun v H2 G2 own2 d Ω2 e2 => k v H2 G2 own2 d Ω2 (e1.trans e2)) (kx.mono e1)
  | false => exact k _ _ _ _ _ _ e1 r1 (.bl _) q) kx⟩
theorem ae_or (ha : AE X ca W a ta ra) (hb : AE X ca W (.BoolOp .Or (b :: rest) pos) tb rb) : AE X ca W (.BoolOp .Or (a :: b :: rest) pos) (tOrV ta tb) (aOrV ra rb) := ⟨pe_or ha.pe hb.pe, fun σ H G own ρ Ω Wa Qa Qc r s h k kx => ha.sim σ H G own ρ Ω Wa _ _ r s h (fun v H1 G1 own1 d Ω1 e1 r1 dv1 q1 => by
  obtain ⟨c, rfl, q⟩ := q1
  cases dv1
  refine ⟨c, rfl, ?_⟩
  cases c with
  | false => exact hb.sim σ H1 G1 own1 ρ Ω1 Wa _ _ r1 (s.mono e1.same) q (fun v H2 G2 own2 d Ω2 e2 => k v H2 G2 own2 d Ω2 (e1.trans e2)) (kx.mono e1)
  | true => exact k _ _ _ _ _ _ e1 r1 (.bl _) q) kx⟩
def aIf (t : ATT) (ra rb : ATE) : ATE := fun Wa ρ Ω Q => t Wa ρ Ω fun c Ω1 => if c = true then ra Wa ρ Ω1 Q else rb Wa ρ Ω1 Q
theorem ae_ifExp {c : Expr} (hc : AT X ca W c tt rt) (ha : AE X ca W a ta ra) (hb : AE X ca W b tb rb) : AE X ca W (.IfExp c a b pos) (tIf tt ta tb) (aIf rt ra rb) := ⟨pe_ifExp hc.pe ha.pe hb.pe, fun σ H G own ρ Ω Wa Qa Qc r s h k kx => hc.sim σ H G own ρ Ω Wa _ _ r s h (fun c H1 G1 own1 Ω1 e1 r1 q1 => by
  cases c with
  | true => exact ha.sim σ H1 G1 own1 ρ Ω1 Wa _ _ r1 (s.mono e1.same) q1 (fun v H2 G2 own2 d Ω2 e2 => k v H2 G2 own2 d Ω2 (e1.trans e2)) (kx.mono e1)
  | false => exact hb.sim σ H1 G1 own1 ρ Ω1 Wa _ _ r1 (s.mono e1.same) q1 (fun v H2 G2 own2 d Ω2 e2 => k v H2 G2 own2 d Ω2 (e1.trans e2)) (kx.mono e1)) kx⟩
variable {es : List Expr} {tr : TA} {rr : ATA}
def aNil : ATA := fun _ _ Ω Q => Q [] Ω
def aCons (ra : ATE) (rr : ATA) : ATA := fun Wa ρ Ω Q => ra Wa ρ Ω fun x Ω1 => rr Wa ρ Ω1 fun xs Ω2 => Q (x :: xs) Ω2
theorem aa_nil : AA X ca W [] tNil aNil := ⟨pa_nil, fun σ H G own ρ Ω Wa Qa Qc r s h k kx => k _ _ _ _ _ _ Stp.refl r .nil h⟩
theorem aa_cons (ha : AE X ca W e te re) (hr : AA X ca W es tr rr) (hs : starEach (e :: es) X.env = (false, eval e X.env) :: starEach es X.env := by rfl) : AA X ca W (e :: es) (tCons te tr) (aCons re rr) := ⟨pa_cons ha.pe hr.pe hs, fun σ H G own ρ Ω Wa Qa Qc r s h k kx =>
  ha.sim σ H G own ρ Ω Wa _ _ r s h (fun v H1 G1 own1 d Ω1 e1 r1 dv1 q1 => hr.sim σ H1 G1 own1 ρ Ω1 Wa _ _ r1 (s.mono e1.same) q1 (fun vs H2 G2 own2 ds Ω2 e2 r2 dv2 q2 => k _ _ _ _ _ _ (e1.trans e2) r2 (.cons (dv1.mono e2.same) dv2) q2) (kx.mono e1)) kx⟩
def aTup (rr : ATA) : ATE := fun Wa ρ Ω Q => rr Wa ρ Ω fun xs Ω1 => xs.length ≤ sizeLine ∧ Q (.tup xs) Ω1
def aLst (rr : ATA) : ATE := fun Wa ρ Ω Q => rr Wa ρ Ω fun xs Ω1 => xs.length ≤ sizeLine ∧ Q (.lst xs) Ω1
def aLstO (rr : ATA) : ATE := fun Wa ρ Ω Q => rr Wa ρ Ω fun xs Ω1 => xs.length ≤ sizeLine ∧ ∀ p, Ω1 p = none → Q (.o p) (oset Ω1 p (.lst xs))
theorem ae_tup {x1} (h : AA X ca W es tr rr) : AE X ca W (.Tuple es x1 pos) (tTup tr) (aTup rr) := ⟨pe_tup h.pe, fun σ H G own ρ Ω Wa Qa Qc r s h' k kx => h.sim σ H G own ρ Ω Wa _ _ r s h' (fun v H1 G1 own1 d Ω1 e1 r1 dv1 q1 => by
  refine ⟨by rw [dv1.length]; exact q1.1, fun p hp => ?_⟩
  obtain ⟨r2, e2⟩ := r1.data (u := .tup v) hp
  exact k _ _ _ _ _ _ (e1.trans (stp_data e2 hp)) r2 (.tup (SqT.of upd_same) (dv1.mono e2)) q1.2) kx⟩
theorem ae_lst (h : AA X ca W es tr rr) : AE X ca W (.List es pos) (tLst tr) (aLst rr) := ⟨pe_lst h.pe, fun σ H G own ρ Ω Wa Qa Qc r s h' k kx => h.sim σ H G own ρ Ω Wa _ _ r s h' (fun v H1 G1 own1 d Ω1 e1 r1 dv1 q1 => by
  refine ⟨by rw [dv1.length]; exact q1.1, fun p hp => ?_⟩
  obtain ⟨r2, e2⟩ := r1.data (u := .lst v) hp
  exact k _ _ _ _ _ _ (e1.trans (stp_data e2 hp)) r2 (.lst (SqL.of upd_same) (dv1.mono e2)) q1.2) kx⟩
theorem ae_lstO (h : AA X ca W es tr rr) : AE X ca W (.List es pos) (tLst tr) (aLstO rr) := ⟨pe_lst h.pe, fun σ H G own ρ Ω Wa Qa Qc r s h' k kx => h.sim σ H G own ρ Ω Wa _ _ r s h' (fun v H1 G1 own1 d Ω1 e1 r1 dv1 q1 => by
  refine ⟨by rw [dv1.length]; exact q1.1, fun p hp => ?_⟩
  exact k _ _ _ _ _ _ (e1.trans (stp_new hp)) (r1.newLst hp dv1) (.o p) (q1.2 p (r1.fresh hp))) kx⟩
end
end PL
namespace PL
open PySem L2
section
variable {X : Cx} {ca : CA} {W : WX} {a b e : Expr} {es : List Expr} {ta tb te : TE} {ra rb re : ATE} {tr : TA} {rr : ATA} {pos : Pos}
/-- the items of data, or of a list of ours -/
def D.seq (Ω : Om) : D → Option (List D)
  | .lst xs => some xs
  | .tup xs => some xs
  | .o a => match Ω a with
    | some (.lst xs) => some xs
    | _ => none
  | _ => none
def fIx : D → D → Om → AQ → Prop := fun x y Ω Q => ∃ xs i d, x.seq Ω = some xs ∧ y = .int i ∧ atI xs i = some d ∧ Q d Ω
theorem atI_dv {K : PySem.W.Frag} {G : Hp} {vs : List V} {ds : List D} {i : Int} {d : D} (h : DVs K G vs ds) (e : atI ds i = some d) : ∃ v, atI vs i = some v ∧ DV K G v d := by
  unfold atI at e ⊢
  rw [h.length]
  cases q : ixN ds.length i with
  | none => rw [q] at e; cases e
  | some j => rw [q] at e; exact h.get (i := j) e
theorem Rel.lstAt {K : PySem.W.Frag} {G H : Hp} {own : Addr → Option Addr} {Ω : Om} {p : Addr} {xs : List D} (r : Rel K ca G own H Ω) (e : Ω p = some (.lst xs)) : ∃ vs, H p = some (.lst vs) ∧ DVs K G vs xs := (r.objs p _ e).2
/-- a sequence is read -/
theorem seq_of {K : PySem.W.Frag} {G H : Hp} {own : Addr → Option Addr} {Ω : Om} {v : V} {x : D} {xs : List D} (r : Rel K ca G own H Ω) (dv : DV K G v x) (h : x.seq Ω = some xs) : ∃ p vs, v = .ref p ∧ DVs K G vs xs ∧ (SqL K H p vs ∨ SqT K H p vs) := by
  cases dv with
  | lst a b => simp only [D.seq, Option.some.injEq] at h; subst h; exact ⟨_, _, rfl, b, .inl (r.sub.seq a)⟩
  | tup a b => simp only [D.seq, Option.some.injEq] at h; subst h; exact ⟨_, _, rfl, b, .inr (same_seqT r.sub a)⟩
  | o a =>
    cases q : Ω a with
    | none => simp only [D.seq, q] at h; cases h
    | some u =>
      cases u with
      | lst ys =>
        simp only [D.seq, q, Option.some.injEq] at h; subst h
        obtain ⟨vs, hv, dv⟩ := r.lstAt q
        exact ⟨_, vs, rfl, dv, .inl (SqL.of hv)⟩
      | row => simp only [D.seq, q] at h; cases h
      | dic _ => simp only [D.seq, q] at h; cases h
      | obj _ _ => simp only [D.seq, q] at h; cases h
  | _ => simp [D.seq] at h
def rIx2 (K : PySem.W.Frag) : R2 := fun x y H Q => rIxL K x y H Q ∨ rIxT K x y H Q
theorem ix_two : IxR X (rIx2 X.K) := ix_list.or ix_tup
theorem simr_ix {K : PySem.W.Frag} : SimR K ca (rIx2 K) fIx := by
  intro H G own Ω x y v w Qa Qc r dx dy h k
  obtain ⟨xs, i, d, hs, rfl, ha, q⟩ := h
  cases dy
  obtain ⟨p, vs, rfl, ds, hv⟩ := seq_of r dx hs
  obtain ⟨u, hu, du⟩ := atI_dv ds ha
  rcases hv with hv | hv
  · exact .inl ⟨p, vs, i, u, rfl, rfl, hv, hu, k _ _ _ _ _ _ Stp.refl r du q⟩
  · exact .inr ⟨p, vs, i, u, rfl, rfl, hv, hu, k _ _ _ _ _ _ Stp.refl r du q⟩
def aIx := aOp fIx
theorem ae_ix (ha : AE X ca W a ta ra) (hb : AE X ca W b tb rb) (hs : PlainIx b := by exact fun _ _ => rfl) : AE X ca W (.Subscript a b pos) (tOp (rIx2 X.K) ta tb) (aIx ra rb) := ⟨pe_ix ix_two ha.pe hb.pe hs, sim_op simr_ix ha.sim hb.sim⟩
abbrev ATO := AW → En → Om → (Option Int → Om → Prop) → Prop
structure AO' (X : Cx) (ca : CA) (W : WX) (e : Option Expr) (te : TO) (ta : ATO) : Prop where
  pe : PO X e te
  sim : ∀ (σ : St) (H : Hp) (G : Hp) (own : Addr → Option Addr) (ρ : En) (Ω : Om) (Wa : AW) (Qa : Option Int → Om → Prop) (Qc : Option Int → Hp → Prop), Rel X.K ca G own H Ω → SR X.K G σ ρ → ta Wa ρ Ω Qa →
    (∀ i H' G' own' Ω', Stp G own H G' own' H' → Rel X.K ca G' own' H' Ω' → Qa i Ω' → Qc i H') → KX X.K ca W G own H σ ρ Wa → te σ H Qc
def aNoPart : ATO := fun _ _ Ω Q => Q none Ω
def aPart (ra : ATE) : ATO := fun Wa ρ Ω Q => ra Wa ρ Ω fun x Ω1 => ∃ i, x = .int i ∧ Q (some i) Ω1
theorem ao_none : AO' X ca W none tNoPart aNoPart := ⟨po_none, fun σ H G own ρ Ω Wa Qa Qc r s h k _ => k _ _ _ _ _ Stp.refl r h⟩
theorem ao_some (ha : AE X ca W e te re) : AO' X ca W (some e) (tPart te) (aPart re) := ⟨po_some ha.pe, fun σ H G own ρ Ω Wa Qa Qc r s h k kx => ha.sim σ H G own ρ Ω Wa _ _ r s h (fun v H1 G1 own1 d Ω1 e1 r1 dv1 q1 => by
  obtain ⟨i, rfl, q⟩ := q1
  cases dv1
  exact ⟨i, rfl, k _ _ _ _ _ e1 r1 q⟩) kx⟩
def cutD (xs : List D) (lo hi : Option Int) : List D := (xs.drop (HT.sIx xs.length 0 lo)).take (HT.sIx xs.length xs.length hi - HT.sIx xs.length 0 lo)
theorem DVs.cut {K : PySem.W.Frag} {G : Hp} {vs : List V} {ds : List D} (h : DVs K G vs ds) (lo hi : Option Int) : DVs K G (cutV vs lo hi) (cutD ds lo hi) := by
  unfold cutV cutD
  rw [h.length]
  exact (h.drop _).take _
/-- a part of a list, as data; of a tuple -/
def aSl (ra : ATE) (rl rh : ATO) : ATE := fun Wa ρ Ω Q => ra Wa ρ Ω fun x Ω1 => rl Wa ρ Ω1 fun lo Ω2 => rh Wa ρ Ω2 fun hi Ω3 => (∃ xs, (x = .lst xs ∨ ∃ a, x = .o a ∧ Ω3 a = some (.lst xs)) ∧ Q (.lst (cutD xs lo hi)) Ω3) ∨ ∃ xs, x = .tup xs ∧ Q (.tup (cutD xs lo hi)) Ω3
def rSl2 (K : PySem.W.Frag) : V → Option Int → Option Int → Hp → VK → Prop := fun x lo hi H Q => rSlL K x lo hi H Q ∨ rSlA K x lo hi H Q
theorem sl_two : SlR X (rSl2 X.K) := sl_list.or sl_tupA
theorem cut_all {α : Type} {xs : List α} {lo hi : Option Int} (h : HT.sIx xs.length 0 lo = 0 ∧ HT.sIx xs.length xs.length hi = xs.length) : (xs.drop (HT.sIx xs.length 0 lo)).take (HT.sIx xs.length xs.length hi - HT.sIx xs.length 0 lo) = xs := by
  rw [h.1, h.2, List.drop_zero, Nat.sub_zero, List.take_length]
theorem ae_sl {lo hi : Option Expr} {p2 : Pos} {tl th : TO} {rl rh : ATO} (ha : AE X ca W e te re) (hl : AO' X ca W lo tl rl) (hh : AO' X ca W hi th rh) : AE X ca W (.Subscript e (.Slice lo hi none p2) pos) (tSl (rSl2 X.K) te tl th) (aSl re rl rh) :=
  ⟨pe_slice sl_two ha.pe hl.pe hh.pe, fun σ H G own ρ Ω Wa Qa Qc r s h k kx => ha.sim σ H G own ρ Ω Wa _ _ r s h (fun v H1 G1 own1 d Ω1 e1 r1 dv1 q1 =>
    hl.sim σ H1 G1 own1 ρ Ω1 Wa _ _ r1 (s.mono e1.same) q1 (fun i H2 G2 own2 Ω2 e2 r2 q2 => hh.sim σ H2 G2 own2 ρ Ω2 Wa _ _ r2 (s.mono (e1.trans e2).same) q2 (fun j H3 G3 own3 Ω3 e3 r3 q3 => by
      have e23 := e2.trans e3
      have e123 := e1.trans e23
      rcases q3 with ⟨xs, hx, q⟩ | ⟨xs, rfl, q⟩
      · obtain ⟨p, vs, rfl, ds, hv⟩ : ∃ p vs, v = .ref p ∧ DVs X.K G3 vs xs ∧ SqL X.K H3 p vs := by
          rcases hx with rfl | ⟨a, rfl, ha⟩
          · cases dv1 with
            | lst a b => exact ⟨_, _, rfl, b.mono e23.same, r3.sub.seq (e23.same.seq a)⟩
          · cases dv1
            obtain ⟨vs, hv, dv⟩ := r3.lstAt ha
            exact ⟨_, vs, rfl, dv, SqL.of hv⟩
        refine .inl ⟨p, vs, rfl, hv, fun q' hq => ?_⟩
        obtain ⟨r4, e4⟩ := r3.data (u := .lst (cutV vs i j)) hq
        exact k _ _ _ _ _ _ (e123.trans (stp_data e4 hq)) r4 (.lst (SqL.of upd_same) ((ds.cut i j).mono e4)) q
      · cases dv1 with
        | tup a b =>
          rename_i p vs
          refine .inr ⟨p, vs, rfl, same_seqT r3.sub (same_seqT e23.same a), fun hw => ?_, fun hw q' hq => ?_⟩
          · have hl := b.length
            rw [hl] at hw
            have e : cutD xs i j = xs := cut_all hw
            rw [e] at q
            exact k _ _ _ _ _ _ e123 r3 (.tup (same_seqT e23.same a) (b.mono e23.same)) q
          · obtain ⟨r4, e4⟩ := r3.data (u := .tup (cutV vs i j)) hq
            exact k _ _ _ _ _ _ (e123.trans (stp_data e4 hq)) r4 (.tup (SqT.of upd_same) (((b.mono e23.same).cut i j).mono e4)) q) ((kx.mono e1).mono e2)) (kx.mono e1)) kx⟩
def SimC (K : PySem.W.Frag) (ca : CA) (r : List V → Hp → VK → Prop) (f : List D → Om → AQ → Prop) : Prop := ∀ (H G : Hp) own Ω xs vs (Qa : AQ) (Qc : VK), Rel K ca G own H Ω → DVs K G vs xs → f xs Ω Qa →
  (∀ v H' G' own' d Ω', Stp G own H G' own' H' → Rel K ca G' own' H' Ω' → DV K G' v d → Qa d Ω' → Qc v H') → r vs H Qc
def aCall (f : List D → Om → AQ → Prop) (rr : ATA) : ATE := fun Wa ρ Ω Q => rr Wa ρ Ω fun xs Ω1 => f xs Ω1 Q
theorem sim_call {K : PySem.W.Frag} {r : List V → Hp → VK → Prop} {f : List D → Om → AQ → Prop} (h : SimC K ca r f) (sa : SimA K ca W tr rr) : SimE K ca W (tCB r tr) (aCall f rr) := fun σ H G own ρ Ω Wa Qa Qc r s h' k kx =>
  sa σ H G own ρ Ω Wa _ _ r s h' (fun v H1 G1 own1 d Ω1 e1 r1 dv1 q1 => h H1 G1 own1 Ω1 d v Qa Qc r1 dv1 q1 fun v3 H3 G3 own3 d3 Ω3 e3 => k v3 H3 G3 own3 d3 Ω3 (e1.trans e3)) kx
theorem ae_callB {id : String} {x : Str} {r : List V → Hp → VK → Prop} {f : List D → Om → AQ → Prop} {p : Pos} (hc : CallR X (.builtin id) r) (hf : SimC X.K ca r f) (hg : Gl X x) (hm : X.mg x = none) (hv : bootBuiltins x = some (.builtin id)) (ha : AA X ca W (e :: es) tr rr) (hn : x ≠ "__name__" := by decide) (hdb : (x == ("__debug__" : Str)) = false := by decide)
    (he : starEach (e :: es) X.env = (false, eval e X.env) :: starEach es X.env := by rfl) (hpl : (backTo pos (starEach es X.env)).any (·.1) = false := by rfl) : AE X ca W (.Call (.Name x p) (e :: es) [] pos) (tCB r tr) (aCall f rr) := ⟨pe_callB hc hg hm hv ha.pe hn hdb he hpl, sim_call hf ha.sim⟩
theorem ae_callTy {T : String} {x : Str} {r : List V → Hp → VK → Prop} {f : List D → Om → AQ → Prop} {p : Pos} (hc : CallR X (.type T) r) (hf : SimC X.K ca r f) (hg : Gl X x) (hm : X.mg x = none) (hv : bootBuiltins x = some (.type T)) (ha : AA X ca W (e :: es) tr rr) (hn : x ≠ "__name__" := by decide) (hdb : (x == ("__debug__" : Str)) = false := by decide)
    (he : starEach (e :: es) X.env = (false, eval e X.env) :: starEach es X.env := by rfl) (hpl : (backTo pos (starEach es X.env)).any (·.1) = false := by rfl) : AE X ca W (.Call (.Name x p) (e :: es) [] pos) (tCB r tr) (aCall f rr) := ⟨pe_callTy hc hg hm hv ha.pe hn hdb he hpl, sim_call hf ha.sim⟩
theorem dv1 {K : PySem.W.Frag} {G : Hp} {vs : List V} {x : D} (h : DVs K G vs [x]) : ∃ v, vs = [v] ∧ DV K G v x := by
  cases h with
  | cons a b => cases b; exact ⟨_, rfl, a⟩
theorem dv2 {K : PySem.W.Frag} {G : Hp} {vs : List V} {x y : D} (h : DVs K G vs [x, y]) : ∃ v w, vs = [v, w] ∧ DV K G v x ∧ DV K G w y := by
  cases h with
  | cons a b =>
    obtain ⟨w, rfl, c⟩ := dv1 b
    exact ⟨_, w, rfl, a, c⟩
/-- abs(i) -/
def fAbs : List D → Om → AQ → Prop := fun xs Ω Q => ∃ i : Int, xs = [.int i] ∧ Q (.int (if i < 0 then -i else i)) Ω
theorem simc_abs {K : PySem.W.Frag} : SimC K ca (fun xs H Q => ∃ i, xs = [.int i] ∧ Q (.int (if i < 0 then -i else i)) H) fAbs := by
  intro H G own Ω xs vs Qa Qc r d h k
  obtain ⟨i, rfl, q⟩ := h
  obtain ⟨v, rfl, dv⟩ := dv1 d
  cases dv
  exact ⟨i, rfl, k _ _ _ _ _ _ Stp.refl r (.int _) q⟩
theorem boot_abs' : bootBuiltins "abs" = some (.builtin "abs") := by decide +kernel
theorem ae_abs {p : Pos} (hg : Gl X "abs") (hm : X.mg "abs" = none) (ha : AE X ca W e te re) (hs : starEach [e] X.env = (false, eval e X.env) :: starEach [] X.env := by rfl) : AE X ca W (.Call (.Name "abs" p) [e] [] pos) (tCB (fun xs H Q => ∃ i, xs = [.int i] ∧ Q (.int (if i < 0 then -i else i)) H) (tCons te tNil)) (aCall fAbs (aCons re aNil)) :=
  ae_callB call_abs simc_abs hg hm boot_abs' (aa_cons ha aa_nil hs) (by decide) (by decide) hs
/-- int(flag) -/
def fIntB : List D → Om → AQ → Prop := fun xs Ω Q => ∃ k : Bool, xs = [.bl k] ∧ Q (.int (if k then 1 else 0)) Ω
def rInt1 : List V → Hp → VK → Prop := fun xs H Q => (∃ i, xs = [.int i] ∧ Q (.int i) H) ∨ ∃ k, xs = [.bl k] ∧ Q (.int (if k then 1 else 0)) H
theorem boot_int' : bootBuiltins "int" = some (.type "int") := by decide +kernel
theorem ae_intB {p : Pos} (hg : Gl X "int") (hm : X.mg "int" = none) (ha : AE X ca W e te re) (hs : starEach [e] X.env = (false, eval e X.env) :: starEach [] X.env := by rfl) : AE X ca W (.Call (.Name "int" p) [e] [] pos) (tCB rInt1 (tCons te tNil)) (aCall fIntB (aCons re aNil)) :=
  ae_callTy call_int1 (by
    intro H G own Ω xs vs Qa Qc r d h k
    obtain ⟨i, rfl, q⟩ := h
    obtain ⟨v, rfl, dv⟩ := dv1 d
    cases dv
    exact .inr ⟨i, rfl, k _ _ _ _ _ _ Stp.refl r (.int _) q⟩) hg hm boot_int' (aa_cons ha aa_nil hs) (by decide) (by decide) hs
/-- len of data, or of a list of ours -/
def fLen : List D → Om → AQ → Prop := fun xs Ω Q => ∃ x ys, xs = [x] ∧ x.seq Ω = some ys ∧ Q (.int (ys.length : Int)) Ω
theorem boot_len' : bootBuiltins "len" = some (.builtin "len") := by decide +kernel
theorem ae_len {p : Pos} (hg : Gl X "len") (hm : X.mg "len" = none) (ha : AE X ca W e te re) (hs : starEach [e] X.env = (false, eval e X.env) :: starEach [] X.env := by rfl) : AE X ca W (.Call (.Name "len" p) [e] [] pos) (tCB (Evl.rLenS X.K) (tCons te tNil)) (aCall fLen (aCons re aNil)) :=
  ae_callB call_len_seq (by
    intro H G own Ω xs vs Qa Qc r d h k
    obtain ⟨x, ys, rfl, hs, q⟩ := h
    obtain ⟨v, rfl, dv⟩ := dv1 d
    obtain ⟨p, vs, rfl, ds, hv⟩ := seq_of r dv hs
    refine ⟨p, vs, rfl, hv, k _ _ _ _ (.int (ys.length : Int)) _ Stp.refl r ?_ q⟩
    rw [ds.length]
    exact .int _) hg hm boot_len' (aa_cons ha aa_nil hs) (by decide) (by decide) hs
/-- list(x): data; a list of ours -/
def fListD : List D → Om → AQ → Prop := fun xs Ω Q => ∃ x ys, xs = [x] ∧ x.seq Ω = some ys ∧ Q (.lst ys) Ω
def fListO : List D → Om → AQ → Prop := fun xs Ω Q => ∃ x ys, xs = [x] ∧ x.seq Ω = some ys ∧ ∀ p, Ω p = none → Q (.o p) (oset Ω p (.lst ys))
/-- tuple(x) -/
def fTuple : List D → Om → AQ → Prop := fun xs Ω Q => ∃ x ys, xs = [x] ∧ x.seq Ω = some ys ∧ Q (.tup ys) Ω
def rTupleS (K : PySem.W.Frag) : List V → Hp → VK → Prop := fun xs H Q => ∃ p ys, xs = [.ref p] ∧ ((SqL K H p ys ∧ ∀ l, H l = none → Q (.ref l) (upd H l (.tup ys))) ∨ (SqT K H p ys ∧ Q (.ref p) H))
theorem boot_tuple' : bootBuiltins "tuple" = some (.type "tuple") := by decide +kernel
theorem ae_tuple {p : Pos} (hg : Gl X "tuple") (hm : X.mg "tuple" = none) (ha : AE X ca W e te re) (hs : starEach [e] X.env = (false, eval e X.env) :: starEach [] X.env := by rfl) : AE X ca W (.Call (.Name "tuple" p) [e] [] pos) (tCB (rTupleS X.K) (tCons te tNil)) (aCall fTuple (aCons re aNil)) :=
  ae_callTy call_tuple_of (by
    intro H G own Ω xs vs Qa Qc r d h k
    obtain ⟨x, ys, rfl, hs, q⟩ := h
    obtain ⟨v, rfl, dv⟩ := dv1 d
    by_cases ht : ∃ zs, x = .tup zs
    · obtain ⟨zs, rfl⟩ := ht
      simp only [D.seq, Option.some.injEq] at hs
      subst hs
      cases dv with
      | tup a b => exact ⟨_, _, rfl, .inr ⟨same_seqT r.sub a, k _ _ _ _ _ _ Stp.refl r (.tup a b) q⟩⟩
    · obtain ⟨p, vs, rfl, ds, hv⟩ : ∃ p vs, v = .ref p ∧ DVs X.K G vs ys ∧ SqL X.K H p vs := by
        cases dv with
        | lst a b => simp only [D.seq, Option.some.injEq] at hs; subst hs; exact ⟨_, _, rfl, b, r.sub.seq a⟩
        | tup a b => exact (ht ⟨_, rfl⟩).elim
        | o a =>
          cases qq : Ω a with
          | none => simp only [D.seq, qq] at hs; cases hs
          | some u =>
            cases u with
            | lst zs =>
              simp only [D.seq, qq, Option.some.injEq] at hs; subst hs
              obtain ⟨vs, hv, dv⟩ := r.lstAt qq
              exact ⟨_, vs, rfl, dv, SqL.of hv⟩
            | row => simp only [D.seq, qq] at hs; cases hs
            | dic _ => simp only [D.seq, qq] at hs; cases hs
            | obj _ _ => simp only [D.seq, qq] at hs; cases hs
        | _ => simp [D.seq] at hs
      refine ⟨p, vs, rfl, .inl ⟨hv, fun l hl => ?_⟩⟩
      obtain ⟨r4, e4⟩ := r.data (u := .tup vs) hl
      exact k _ _ _ _ _ _ (stp_data e4 hl) r4 (.tup (SqT.of upd_same) (ds.mono e4)) q) hg hm boot_tuple' (aa_cons ha aa_nil hs) (by decide) (by decide) hs
/-- x.bit_length() -/
def aBits (ra : ATE) : ATE := fun Wa ρ Ω Q => ra Wa ρ Ω fun x Ω1 => ∃ i, x = .int i ∧ Q (.int (Builtin.Int.intBits i : Nat)) Ω1
theorem ae_bits {apos : Pos} (ha : AE X ca W e te re) (hbase : attributeBase e "bit_length" X.env (eval e X.env) = eval e X.env := by rfl) (hline : (apos.endLine == pos.line) = true := by rfl) : AE X ca W (.Call (.Attribute e "bit_length" apos) [] [] pos) (tBits te) (aBits re) :=
  ⟨pe_bits ha.pe hbase hline, fun σ H G own ρ Ω Wa Qa Qc r s h k kx => ha.sim σ H G own ρ Ω Wa _ _ r s h (fun v H1 G1 own1 d Ω1 e1 r1 dv1 q1 => by
  obtain ⟨i, rfl, q⟩ := q1
  cases dv1
  exact ⟨i, rfl, k _ _ _ _ _ _ e1 r1 (.int _) q⟩) kx⟩
/-- the class of data, of a list of ours -/
def D.ty (Ω : Om) : D → Option String
  | .non => some "NoneType"
  | .bl _ => some "bool"
  | .int _ => some "int"
  | .str _ => some "str"
  | .tup _ => some "tuple"
  | .lst _ => some "list"
  | .o a => match Ω a with
    | some (.lst _) => some "list"
    | _ => none
theorem ty_of {K : PySem.W.Frag} {G H : Hp} {own : Addr → Option Addr} {Ω : Om} {v : V} {x : D} {t : String} (r : Rel K ca G own H Ω) (dv : DV K G v x) (h : x.ty Ω = some t) : TyX K H v (.type t) := by
  cases dv with
  | non => cases h; exact .base .non
  | bl b => cases h; exact .base (.bl b)
  | int b => cases h; exact .base (.int b)
  | str b => cases h; exact .base (.str b)
  | lst a b =>
    cases h
    rcases r.sub.seq a with (z | ⟨o, z⟩) | ⟨o, its, n, z, c, _⟩
    · exact .base (.lst z)
    · exact .base (.frz z)
    · exact .kList z c
  | tup a b =>
    cases h
    rcases same_seqT r.sub a with (z | ⟨o, z⟩) | ⟨o, its, n, z, c, _⟩
    · exact .base (.tup z)
    · exact .fTuple z
    · exact .kTuple z c
  | o a =>
    cases qq : Ω a with
    | none => simp only [D.ty, qq] at h; cases h
    | some u =>
      cases u with
      | lst zs =>
        simp only [D.ty, qq, Option.some.injEq] at h; subst h
        obtain ⟨vs, hv, dv⟩ := r.lstAt qq
        exact .base (.lst hv)
      | row => simp only [D.ty, qq] at h; cases h
      | dic _ => simp only [D.ty, qq] at h; cases h
      | obj _ _ => simp only [D.ty, qq] at h; cases h
def isT (t T : String) : Option Bool := L2.kitB t T
def aIsi (T : String) (ra : ATE) : ATE := fun Wa ρ Ω Q => ra Wa ρ Ω fun x Ω1 => ∃ t b, x.ty Ω1 = some t ∧ isT t T = some b ∧ Q (.bl b) Ω1
theorem boot_isi : bootBuiltins "isinstance" = some (.builtin "isinstance") := by decide +kernel
theorem ae_isi {p p2 : Pos} {T : Str} {Tn : String} (hg : Gl X "isinstance") (hm : X.mg "isinstance" = none) (hT : Gl X T) (hmT : X.mg T = none) (hv : bootBuiltins T = some (.type Tn)) (ha : AE X ca W e te re)
    (hs : starEach [e, .Name T p2] X.env = (false, eval e X.env) :: starEach [.Name T p2] X.env := by rfl) (hpl : (backTo pos (starEach [.Name T p2] X.env)).any (·.1) = false := by rfl) (hs2 : starEach [.Name T p2] X.env = (false, eval (.Name T p2) X.env) :: starEach [] X.env := by rfl) (hn : T ≠ "__name__" := by decide) (hd : (T == ("__debug__" : Str)) = false := by decide) :
    AE X ca W (.Call (.Name "isinstance" p) [e, .Name T p2] [] pos) (tCB (rIsi X.K) (tCons te (tCons (tC (.ty Tn)) tNil))) (aIsi Tn re) :=
  ⟨pe_callB call_isi hg hm boot_isi (pa_cons ha.pe (pa_cons (pe_bltn hT hmT hv rfl hn hd) pa_nil hs2) hs) (by decide) (by decide) hs hpl, fun σ H G own ρ Ω Wa Qa Qc r s h k kx => ha.sim σ H G own ρ Ω Wa _ _ r s h (fun v H1 G1 own1 d Ω1 e1 r1 dv1 q1 => by
    obtain ⟨t, b, ht, hb, q⟩ := q1
    exact ⟨v, .ty Tn, .type t, .type Tn, b, rfl, .ty Tn, ty_of r1 dv1 ht, kit_ty hb, k _ _ _ _ _ _ e1 r1 (.bl b) q⟩) kx⟩
abbrev AF := List D → Om → AQ → (Value → Om → Prop) → Prop
def spA (K : PySem.W.Frag) (ca : CA) (F : AF) : Sp := fun vs H Q E => ∃ (G : Hp) (own : Addr → Option Addr) (Ω : Om) (ds : List D) (Qa : AQ) (Ea : Value → Om → Prop), Rel K ca G own H Ω ∧ DVs K G vs ds ∧ F ds Ω Qa Ea ∧
  (∀ v H' G' own' d Ω', Stp G own H G' own' H' → Rel K ca G' own' H' Ω' → DV K G' v d → Qa d Ω' → Q v H') ∧ (∀ cls H' G' own' Ω', Stp G own H G' own' H' → Rel K ca G' own' H' Ω' → Ea cls Ω' → E cls none H')
def aFn (F : AF) (rr : ATA) : ATE := fun Wa ρ Ω Q => rr Wa ρ Ω fun ds Ω1 => F ds Ω1 Q fun cls Ω' => Wa cls ρ Ω'
theorem sim_fn {K : PySem.W.Frag} {F : AF} (sa : SimA K ca W tr rr) : SimE K ca W (tCallS (spA K ca F) (WE W) tr) (aFn F rr) := fun σ H G own ρ Ω Wa Qa Qc r s h' k kx =>
  sa σ H G own ρ Ω Wa _ _ r s h' (fun v H1 G1 own1 d Ω1 e1 r1 dv1 q1 => ⟨G1, own1, Ω1, d, Qa, fun cls Ω' => Wa cls ρ Ω', r1, dv1, q1, fun v2 H2 G2 own2 d2 Ω2 e2 => k v2 H2 G2 own2 d2 Ω2 (e1.trans e2), fun cls H2 G2 own2 Ω2 e2 => kx cls H2 G2 own2 Ω2 (e1.trans e2)⟩) kx
theorem ae_fn {k : Nat} {f : Addr} {fd : FuncData} {ps : List Str} {x : Str} {p : Pos} {F : AF} (G : FnOk X.prog X.w X.K X.mg X.base (L2.CX X.prog X.w) k f fd ps (spA X.K ca F)) (hr : Room k X.A) (hm : X.mg x = some (.ref f)) (hk : PySem.W.keepIn X.K (.ref f) = true) (hb : Binds X.K fd ps []) (tk : Takes X W)
    (ha : AA X ca W (e :: es) tr rr) (hg : Gl X x := by rfl) (hdb : (x == ("__debug__" : Str)) = false := by decide) (he : starEach (e :: es) X.env = (false, eval e X.env) :: starEach es X.env := by rfl) (hpl : (backTo pos (starEach es X.env)).any (·.1) = false := by rfl) :
    AE X ca W (.Call (.Name x p) (e :: es) [] pos) (tCallS (spA X.K ca F) (WE W) tr) (aFn F rr) := ⟨pe_callS G hr hg hm hk hb (fun σ => passAt tk σ) ha.pe hdb he hpl, sim_fn ha.sim⟩
variable {st : Stmt} {rest : List Stmt} {ts tu : TS} {rs ru : ATS}
def aNext : ATS := fun _ Da ρ Ω => Da.nx ρ Ω
def aSeq (t u : ATS) : ATS := fun Wa Da ρ Ω => t Wa { Da with nx := u Wa Da } ρ Ω
theorem ass_nil : ASs X ca W [] tNext aNext := ⟨pss_nil, fun σ H G own ρ Ω Wa Da Dc r s h k => k.nx _ _ _ _ _ _ Stp.refl r s h⟩
theorem ass_cons (h1 : AS X ca W st ts rs) (h2 : ASs X ca W rest tu ru) : ASs X ca W (st :: rest) (tSeq ts tu) (aSeq rs ru) := ⟨pss_cons h1.pe h2.pe, fun σ H G own ρ Ω Wa Da Dc r s h k =>
  h1.sim σ H G own ρ Ω Wa { Da with nx := ru Wa Da } { Dc with nx := tu Dc } r s h ⟨fun σ' H' G' own' ρ' Ω' e r' s' q => h2.sim σ' H' G' own' ρ' Ω' Wa Da Dc r' s' q (k.mono e), k.rt, k.bk, k.ct, k.ex⟩⟩
theorem ass_one (h1 : AS X ca W st ts rs) : ASs X ca W [st] ts rs := ⟨pss_one h1.pe, h1.sim⟩
def aDrop (re : ATE) : ATS := fun Wa Da ρ Ω => re Wa ρ Ω fun _ Ω1 => Da.nx ρ Ω1
theorem as_expr (ha : AE X ca W e te re) (hs : swapsWith e none pos.line X.env = pure false := by rfl) : AS X ca W (.Expr e pos) (tDrop te) (aDrop re) := ⟨ps_expr ha.pe hs, fun σ H G own ρ Ω Wa Da Dc r s h k => ha.sim σ H G own ρ Ω Wa _ _ r s h (fun v H1 G1 own1 d Ω1 e1 r1 dv1 q1 => k.nx _ _ _ _ _ _ e1 r1 (s.mono e1.same) q1) (k.kx s)⟩
def aRet (re : ATE) : ATS := fun Wa Da ρ Ω => re Wa ρ Ω Da.rt
theorem as_ret (ha : AE X ca W e te re) : AS X ca W (.Return (some e) pos) (tRet te) (aRet re) := ⟨ps_ret ha.pe, fun σ H G own ρ Ω Wa Da Dc r s h k => ha.sim σ H G own ρ Ω Wa _ _ r s h (fun v H1 G1 own1 d Ω1 e1 r1 dv1 q1 => k.rt _ _ _ _ _ _ e1 r1 dv1 q1) (k.kx s)⟩
def aRetN : ATS := fun _ Da _ Ω => Da.rt .non Ω
theorem as_retN : AS X ca W (.Return none pos) tRetN aRetN := ⟨ps_retN, fun σ H G own ρ Ω Wa Da Dc r s h k => k.rt _ _ _ _ _ _ Stp.refl r .non h⟩
def aIfS (c : ATT) (t u : ATS) : ATS := fun Wa Da ρ Ω => c Wa ρ Ω fun b Ω1 => if b = true then t Wa Da ρ Ω1 else u Wa Da ρ Ω1
theorem as_if {c : Expr} {l m : List Stmt} {tc : TT} {rc : ATT} (hc : AT X ca W c tc rc) (h1 : ASs X ca W l ts rs) (h2 : ASs X ca W m tu ru) : AS X ca W (.If c l m pos) (tIfS tc ts tu) (aIfS rc rs ru) := ⟨ps_if hc.pe h1.pe h2.pe, fun σ H G own ρ Ω Wa Da Dc r s h k =>
  hc.sim σ H G own ρ Ω Wa _ _ r s h (fun b H1 G1 own1 Ω1 e1 r1 q1 => by
    cases b with
    | true => exact h1.sim σ H1 G1 own1 ρ Ω1 Wa Da Dc r1 (s.mono e1.same) q1 (k.mono e1)
    | false => exact h2.sim σ H1 G1 own1 ρ Ω1 Wa Da Dc r1 (s.mono e1.same) q1 (k.mono e1)) (k.kx s)⟩
/-- targets -/
abbrev AG := D → En → Om → (En → Om → Prop) → Prop
def SimG (K : PySem.W.Frag) (ca : CA) (g : TG) (ag : AG) : Prop := ∀ (σ : St) (H G : Hp) own ρ Ω v d (Qa : En → Om → Prop) (Qc : St → Hp → Prop), Rel K ca G own H Ω → SR K G σ ρ → DV K G v d → ag d ρ Ω Qa →
  (∀ σ' H' G' own' ρ' Ω', Stp G own H G' own' H' → Rel K ca G' own' H' Ω' → SR K G' σ' ρ' → Qa ρ' Ω' → Qc σ' H') → g v σ H Qc
structure AGt (X : Cx) (ca : CA) (e : Expr) (g : TG) (ag : AG) : Prop where
  pe : PG X e g
  sim : SimG X.K ca g ag
def agName (i : Nat) : AG := fun d ρ Ω Q => Q (ρ.set i (some d)) Ω
theorem simg_name {K : PySem.W.Frag} {i : Nat} : SimG K ca (gName i) (agName i) := fun σ H G own ρ Ω v d Qa Qc r s dv h k => k _ _ _ _ _ _ Stp.refl r (s.set i dv) h
theorem ag_name {i : Nat} {x : Str} (hN : X.N.Nodup) (hi : X.N[i]? = some x) (hx : Loc X.env.scope x) (hf : X.fn x = true ∨ X.env.scope.names.lookup x = some .local := by first | exact .inl rfl | exact .inr rfl | assumption) : AGt X ca (.Name x pos) (gName i) (agName i) := ⟨pg_name hN hi hx hf, simg_name⟩
/-- several names -/
def setAll (ρ : En) : List Nat → List D → En
  | i :: is, d :: ds => setAll (ρ.set i (some d)) is ds
  | _, _ => ρ
def gNames : List Nat → TGs
  | [] => gNil
  | i :: is => gCons (gName i) (gNames is)
structure AGs (X : Cx) (es : List Expr) (is : List Nat) : Prop where
  pe : PGs X es (gNames is)
theorem ags_nil : AGs X [] [] := ⟨pgs_nil⟩
theorem ags_cons {i : Nat} {is : List Nat} {x : Str} {p : Pos} (hN : X.N.Nodup) (hi : X.N[i]? = some x) (hx : Loc X.env.scope x) (hr : AGs X es is) (hf : X.fn x = true ∨ X.env.scope.names.lookup x = some .local := by first | exact .inl rfl | exact .inr rfl | assumption)
    (hs : (assignEach (.Name x p :: es) X.env).map (·.2) = assign (.Name x p) X.env :: (assignEach es X.env).map (·.2) := by rfl) : AGs X (.Name x p :: es) (i :: is) := ⟨pgs_cons (pg_name hN hi hx hf) hr.pe hs⟩
def agTup (n : Nat) (is : List Nat) : AG := fun d ρ Ω Q => ∃ xs, d = .tup xs ∧ xs.length = n ∧ is.length = n ∧ Q (setAll ρ is xs) Ω
theorem gnames_run : ∀ {is : List Nat} {K : PySem.W.Frag} {G : Hp} {vs : List V} {xs : List D} {σ : St} {ρ : En} {H : Hp} {Qc : St → Hp → Prop}, is.length = xs.length → SR K G σ ρ → DVs K G vs xs → (∀ σ', SR K G σ' (setAll ρ is xs) → Qc σ' H) → gNames is vs σ H Qc
  | [], K, G, vs, xs, σ, ρ, H, Qc, hl, s, dv, k => by
    cases xs with
    | nil => cases dv; exact ⟨rfl, k _ s⟩
    | cons a b => simp at hl
  | i :: is, K, G, vs, xs, σ, ρ, H, Qc, hl, s, dv, k => by
    cases xs with
    | nil => simp at hl
    | cons a b =>
      cases dv with
      | cons h1 h2 =>
        refine ⟨_, _, rfl, ?_⟩
        exact gnames_run (by simpa using hl) (s.set i h1) h2 k
theorem ag_tup {k n : Nat} {is : List Nat} (hc : X.calm = true) (h : AGs X es is) (hn : (assignEach es X.env).length = n := by rfl) (hst : (assignEach es X.env).findIdx? (·.1) = none := by rfl) : AGt X ca (.Tuple es k pos) (gTup X.K n (gNames is)) (agTup n is) := ⟨pg_tup hc h.pe hn hst, fun σ H G own ρ Ω v d Qa Qc r s dv h k => by
  obtain ⟨xs, rfl, hl, hi, q⟩ := h
  cases dv with
  | tup a b =>
    exact ⟨_, _, rfl, same_seqT r.sub a, by rw [b.length]; exact hl, gnames_run (by rw [hi, hl]) s b fun σ' s' => k _ _ _ _ _ _ Stp.refl r s' q⟩⟩
def aAsg (re : ATE) (g : AG) : ATS := fun Wa Da ρ Ω => re Wa ρ Ω fun d Ω1 => g d ρ Ω1 Da.nx
theorem sim_asg {K : PySem.W.Frag} {g : TG} {ag : AG} (ha : SimE K ca W te re) (hg : SimG K ca g ag) : SimS K ca W (tAsg te g) (aAsg re ag) := fun σ H G own ρ Ω Wa Da Dc r s h k =>
  ha σ H G own ρ Ω Wa _ _ r s h (fun v H1 G1 own1 d Ω1 e1 r1 dv1 q1 => hg σ H1 G1 own1 ρ Ω1 v d _ _ r1 (s.mono e1.same) dv1 q1 fun σ' H' G' own' ρ' Ω' e2 => k.nx _ _ _ _ _ _ (e1.trans e2)) (k.kx s)
theorem as_asg {tg : Expr} {g : TG} {ag : AG} (ha : AE X ca W e te re) (hg : AGt X ca tg g ag) (hs : swapsWithSole [tg] e pos.line X.env = pure false := by rfl) (hw : swappedStores [tg] e X.env = pure none := by rfl)
    (h1 : (assignEach [tg] X.env).map (·.2) = [assign tg X.env] := by rfl) : AS X ca W (.Assign [tg] e pos) (tAsg te g) (aAsg re ag) := ⟨ps_asg ha.pe hg.pe hs hw h1, sim_asg ha.sim hg.sim⟩
def aSet (i : Nat) (re : ATE) : ATS := aAsg re (agName i)
theorem as_set (i : Nat) {x : Str} {pos' : Pos} (hN : X.N.Nodup) (ha : AE X ca W e te re) (hi : X.N[i]? = some x := by rfl) (hx : Loc X.env.scope x := by first | exact Or.inl rfl | exact Or.inr rfl) (hs : swapsWith e (some (.Name x pos')) pos.line X.env = pure false := by rfl) (hf : X.fn x = true ∨ X.env.scope.names.lookup x = some .local := by first | exact .inl rfl | exact .inr rfl | assumption) :
    AS X ca W (.Assign [.Name x pos'] e pos) (tAsg te (gName i)) (aSet i re) := ⟨ps_set hN hi hx ha.pe hs hf, sim_asg ha.sim simg_name⟩
def aPar (i j : Nat) (ra rb : ATE) : ATS := fun Wa Da ρ Ω => ra Wa ρ Ω fun v Ω1 => rb Wa ρ Ω1 fun w Ω2 => Da.nx ((ρ.set i (some v)).set j (some w)) Ω2
theorem as_par (i j : Nat) {x y : Str} {px py pt : Pos} {kt k2 pt2} (hc : X.calm = true) (hN : X.N.Nodup) (ha : AE X ca W a ta ra) (hb : AE X ca W b tb rb) (hi : X.N[i]? = some x := by rfl) (hj : X.N[j]? = some y := by rfl) (hij : i ≠ j := by decide)
    (hx : X.env.scope.names.lookup x = some .local := by rfl) (hy : X.env.scope.names.lookup y = some .local := by rfl)
    (hw : swappedStores [.Tuple [.Name x px, .Name y py] kt pt] (.Tuple [a, b] k2 pt2) X.env = pure (some [x, y]) := by rfl)
    (hs : swapsWithSole [.Tuple [.Name x px, .Name y py] kt pt] (.Tuple [a, b] k2 pt2) pos.line X.env = pure false := by rfl)
    (s1 : starEach [a, b] X.env = (false, eval a X.env) :: starEach [b] X.env := by rfl) (s2 : starEach [b] X.env = (false, eval b X.env) :: starEach [] X.env := by rfl) :
    AS X ca W (.Assign [.Tuple [.Name x px, .Name y py] kt pt] (.Tuple [a, b] k2 pt2) pos) (tPar i j (tCons ta (tCons tb tNil))) (aPar i j ra rb) := ⟨ps_par hc hN hi hj hij hx hy (pa_cons ha.pe (pa_cons hb.pe pa_nil s2) s1) hw hs, fun σ H G own ρ Ω Wa Da Dc r s h k =>
  ha.sim σ H G own ρ Ω Wa _ _ r s h (fun v1 H1 G1 own1 d1 Ω1 e1 r1 dv1 q1 => hb.sim σ H1 G1 own1 ρ Ω1 Wa _ _ r1 (s.mono e1.same) q1 (fun v2 H2 G2 own2 d2 Ω2 e2 r2 dv2 q2 =>
    ⟨v1, v2, rfl, k.nx _ _ _ _ _ _ (e1.trans e2) r2 (((s.mono (e1.trans e2).same).set i (dv1.mono e2.same)).set j dv2) q2⟩) ((k.kx s).mono e1)) (k.kx s)⟩
/-- x.append(e), x[i] = e: a list of ours -/
def IsLst (x : D) (Ω : Om) : Prop := ∃ a xs, x = .o a ∧ Ω a = some (.lst xs)
def aApp (ra re : ATE) : ATE := fun Wa ρ Ω Q => ra Wa ρ Ω fun x Ω1 => IsLst x Ω1 ∧ re Wa ρ Ω1 fun y Ω2 => ∃ a xs, x = .o a ∧ Ω2 a = some (.lst xs) ∧ xs.length < sizeLine ∧ Q .non (oset Ω2 a (.lst (xs ++ [y])))
theorem ae_app {apos : Pos} (ho : AE X ca W a ta ra) (ha : AE X ca W e te re) (hbase : attributeBase a "append" X.env (eval a X.env) = eval a X.env := by rfl)
    (hfew : ((backTo pos (starEach [e] X.env)).all (fun x => !x.1) && (backToKw pos (keywordEach [] X.env)).all (fun x => x.1.isSome)
      && decide (([e] : List Expr).length + ([] : List Keyword).length + (if ([] : List Keyword).isEmpty then 0 else 1) < 30)) = true := by rfl)
    (hline : (apos.endLine == pos.line) = true := by rfl) (hs : starEach [e] X.env = (false, eval e X.env) :: starEach [] X.env := by rfl) :
    AE X ca W (.Call (.Attribute a "append" apos) [e] [] pos) (tBM X.K "list" rAppend ta (tCons te tNil)) (aApp ra re) :=
  ⟨pe_bm PySem.F.plainAttrs_list PySem.F.slot_list_append PySem.F.type_list_append mt_append ho.pe (pa_cons ha.pe pa_nil hs) hbase hfew hline hs rfl, fun σ H G own ρ Ω Wa Qa Qc r s h k kx => ho.sim σ H G own ρ Ω Wa _ _ r s h (fun v H1 G1 own1 d Ω1 e1 r1 dv1 q1 => by
    obtain ⟨⟨l, xs, rfl, hl⟩, q⟩ := q1
    cases dv1
    obtain ⟨vs, hv, dvs⟩ := r1.lstAt hl
    refine ⟨.inl ⟨rfl, _, SqL.of hv⟩, ?_⟩
    refine ha.sim σ H1 G1 own1 ρ Ω1 Wa _ _ r1 (s.mono e1.same) q (fun w H2 G2 own2 y Ω2 e2 r2 dv2 q2 => ?_) (kx.mono e1)
    obtain ⟨l', ys, e, hl2, hz, q3⟩ := q2
    cases e
    obtain ⟨vs2, hv2, dvs2⟩ := r2.lstAt hl2
    have hd : DVs X.K G2 (vs2 ++ [w]) (ys ++ [y]) := dvs2.append (.cons dv2 .nil)
    exact ⟨l, vs2, w, rfl, rfl, hv2, by rw [dvs2.length]; exact hz, k _ _ _ _ _ _ ((e1.trans e2).trans (stp_own (r2.objs _ _ hl2).1)) (r2.setLst hl2 hd) .non q3⟩) kx⟩
def aSetIx (rv ro ri : ATE) : ATS := fun Wa Da ρ Ω => rv Wa ρ Ω fun y Ω1 => ro Wa ρ Ω1 fun x Ω2 => ri Wa ρ Ω2 fun i Ω3 => ∃ a xs k j, x = .o a ∧ Ω3 a = some (.lst xs) ∧ i = .int k ∧ ixN xs.length k = some j ∧ Da.nx ρ (oset Ω3 a (.lst (xs.set j y)))
theorem as_setIx {o i v : Expr} {to ti tv : TE} {ro ri rv : ATE} {spos : Pos} (hv : AE X ca W v tv rv) (ho : AE X ca W o to ro) (hi : AE X ca W i ti ri)
    (ha : ∀ v, assign (.Subscript o i spos) X.env v = (do
      let ov ← holding [v] (eval o X.env)
      let iv ← holding [v, ov] (eval i X.env)
      standAt spos
      holding [v, ov, iv] (setItem ov iv v)
      release [v, ov, iv] []) := by intro _; rfl) (hs : swapsWithSole [.Subscript o i spos] v pos.line X.env = pure false := by rfl) (hw : swappedStores [.Subscript o i spos] v X.env = pure none := by rfl)
    (h1 : (assignEach [.Subscript o i spos] X.env).map (·.2) = [assign (.Subscript o i spos) X.env] := by rfl) :
    AS X ca W (.Assign [.Subscript o i spos] v pos) (tAsg tv (gSub to ti rSetL)) (aSetIx rv ro ri) := ⟨ps_asg hv.pe (pg_sub ho.pe hi.pe set_list ha) hs hw h1, fun σ H G own ρ Ω Wa Da Dc r s h k =>
  hv.sim σ H G own ρ Ω Wa _ _ r s h (fun v1 H1 G1 own1 d1 Ω1 e1 r1 dv1 q1 => ho.sim σ H1 G1 own1 ρ Ω1 Wa _ _ r1 (s.mono e1.same) q1 (fun v2 H2 G2 own2 d2 Ω2 e2 r2 dv2 q2 =>
    hi.sim σ H2 G2 own2 ρ Ω2 Wa _ _ r2 (s.mono (e1.trans e2).same) q2 (fun v3 H3 G3 own3 d3 Ω3 e3 r3 dv3 q3 => by
      obtain ⟨l, xs, z, j, rfl, hl, rfl, hj, q⟩ := q3
      cases dv2
      cases dv3
      obtain ⟨vs, hvs, dvs⟩ := r3.lstAt hl
      exact ⟨l, vs, z, j, rfl, rfl, hvs, by rw [dvs.length]; exact hj, k.nx _ _ _ _ _ _ (((e1.trans e2).trans e3).trans (stp_own (r3.objs _ _ hl).1)) (r3.setLst hl (dvs.set (dv1.mono (e2.trans e3).same) j)) (s.mono ((e1.trans e2).trans e3).same) q⟩) (((k.kx s).mono e1).mono e2)) ((k.kx s).mono e1)) (k.kx s)⟩
/-- while -/
def aWhile (c : ATT) (b : ATS) : ATS := fun Wa Da ρ Ω => ∃ Wn : Nat → En → Om → Prop, (∃ m, Wn m ρ Ω) ∧ ∀ m ρ Ω, Wn m ρ Ω → c Wa ρ Ω fun k Ω1 =>
  if k = true then b Wa { Da with nx := fun ρ' Ω' => ∃ m', m' < m ∧ Wn m' ρ' Ω', ct := fun ρ' Ω' => ∃ m', m' < m ∧ Wn m' ρ' Ω', bk := Da.nx } ρ Ω1 else Da.nx ρ Ω1
theorem as_while {c : Expr} {l : List Stmt} {tc : TT} {rc : ATT} (hp : PassesOwn (model X.prog X.w) X.A X.env X.xe) (hc : AT X ca W c tc rc) (hb : ASs X ca W l ts rs) : AS X ca W (.While c l [] pos) (tWhile tc ts) (aWhile rc rs) := ⟨ps_while hp hc.pe hb.pe, fun σ H G own ρ Ω Wa Da Dc r s h k => by
  obtain ⟨Wn, ⟨m0, w0⟩, turn⟩ := h
  refine ⟨fun m σ' H' => ∃ G' own' ρ' Ω', Stp G own H G' own' H' ∧ Rel X.K ca G' own' H' Ω' ∧ SR X.K G' σ' ρ' ∧ Wn m ρ' Ω', ⟨m0, G, own, ρ, Ω, Stp.refl, r, s, w0⟩, ?_⟩
  rintro m σ1 H1 ⟨G1, own1, ρ1, Ω1, e1, r1, s1, w1⟩
  refine hc.sim σ1 H1 G1 own1 ρ1 Ω1 Wa _ _ r1 s1 (turn m ρ1 Ω1 w1) (fun b H2 G2 own2 Ω2 e2 r2 q2 => ?_) ((k.mono e1).kx s1)
  cases b with
  | true =>
    rw [if_pos rfl] at q2 ⊢
    refine ⟨_, fun _ _ n => n, hb.sim σ1 H2 G2 own2 ρ1 Ω2 Wa _ _ r2 (s1.mono e2.same) q2 ⟨?_, fun _ _ _ _ _ _ e3 => k.rt _ _ _ _ _ _ ((e1.trans e2).trans e3), fun _ _ _ _ _ _ e3 => k.nx _ _ _ _ _ _ ((e1.trans e2).trans e3), ?_, fun _ _ _ _ _ _ _ e3 => k.ex _ _ _ _ _ _ _ ((e1.trans e2).trans e3)⟩⟩
    · rintro σ3 H3 G3 own3 ρ3 Ω3 e3 r3 s3 ⟨m', hm, w3⟩
      exact ⟨m', hm, G3, own3, ρ3, Ω3, (e1.trans e2).trans e3, r3, s3, w3⟩
    · rintro σ3 H3 G3 own3 ρ3 Ω3 e3 r3 s3 ⟨m', hm, w3⟩
      exact ⟨m', hm, G3, own3, ρ3, Ω3, (e1.trans e2).trans e3, r3, s3, w3⟩
  | false =>
    rw [if_neg Bool.false_ne_true] at q2 ⊢
    exact k.nx _ _ _ _ _ _ (e1.trans e2) r2 (s1.mono e2.same) q2⟩
/-- for over items that stand -/
def forL (g : AG) (b : ATS) : List D → ATS
  | [], _, Da, ρ, Ω => Da.nx ρ Ω
  | x :: xs, Wa, Da, ρ, Ω => g x ρ Ω fun ρ1 Ω1 => b Wa { Da with nx := forL g b xs Wa Da, ct := forL g b xs Wa Da, bk := Da.nx } ρ1 Ω1
def aFor (ra : ATE) (g : AG) (b : ATS) : ATS := fun Wa Da ρ Ω => ra Wa ρ Ω fun d Ω1 => ∃ xs, d = .lst xs ∧ forL g b xs Wa Da ρ Ω1
def aForT (ra : ATE) (g : AG) (b : ATS) : ATS := fun Wa Da ρ Ω => ra Wa ρ Ω fun d Ω1 => ∃ xs, d = .tup xs ∧ forL g b xs Wa Da ρ Ω1
/-- the invariant of a walk through data -/
def ForI (K : PySem.W.Frag) (ca : CA) (g : AG) (b : ATS) (xs : List D) (Wa : AW) (Da : AEnds) (G : Hp) (own : Addr → Option Addr) (H : Hp) (i : Nat) (σ' : St) (H' : Hp) : Prop :=
  ∃ G' own' ρ' Ω', Stp G own H G' own' H' ∧ Rel K ca G' own' H' Ω' ∧ SR K G' σ' ρ' ∧ forL g b (xs.drop i) Wa Da ρ' Ω'
theorem forI_turn {K : PySem.W.Frag} {G H H' : Hp} {own : Addr → Option Addr} {g : TG} {ag : AG} {xs : List D} {Wa : AW} {Da : AEnds} {Dc : Ends} {i : Nat} {x : D} {v : V} {σ' : St} (hg : SimG K ca g ag) (hb : SimS K ca W ts rs) (k : KE K ca W G own H Da Dc Wa) (hx : xs[i]? = some x) (dv : DV K G v x)
    (p : ForI K ca ag rs xs Wa Da G own H i σ' H') : g v σ' H' fun σ2 H2 => ts { Dc with nx := ForI K ca ag rs xs Wa Da G own H (i + 1), ct := ForI K ca ag rs xs Wa Da G own H (i + 1), bk := Dc.nx } σ2 H2 := by
  obtain ⟨G1, own1, ρ1, Ω1, e1, r1, s1, q⟩ := p
  have hlt : i < xs.length := (List.getElem?_eq_some_iff.mp hx).1
  have hd : xs.drop i = x :: xs.drop (i + 1) := by
    rw [List.drop_eq_getElem_cons hlt]
    rw [(List.getElem?_eq_some_iff.mp hx).2]
  rw [hd] at q
  refine hg σ' H' G1 own1 ρ1 Ω1 v x _ _ r1 s1 (dv.mono e1.same) q fun σ2 H2 G2 own2 ρ2 Ω2 e2 r2 s2 q2 => ?_
  have e12 := e1.trans e2
  exact hb σ2 H2 G2 own2 ρ2 Ω2 Wa _ _ r2 s2 q2 ⟨fun σ3 H3 G3 own3 ρ3 Ω3 e3 r3 s3 q3 => ⟨G3, own3, ρ3, Ω3, e12.trans e3, r3, s3, q3⟩, fun _ _ _ _ _ _ e3 => k.rt _ _ _ _ _ _ (e12.trans e3), fun _ _ _ _ _ _ e3 => k.nx _ _ _ _ _ _ (e12.trans e3),
    fun σ3 H3 G3 own3 ρ3 Ω3 e3 r3 s3 q3 => ⟨G3, own3, ρ3, Ω3, e12.trans e3, r3, s3, q3⟩, fun _ _ _ _ _ _ _ e3 => k.ex _ _ _ _ _ _ _ (e12.trans e3)⟩
theorem forI_end {K : PySem.W.Frag} {G H H' : Hp} {own : Addr → Option Addr} {ag : AG} {xs : List D} {Wa : AW} {Da : AEnds} {Dc : Ends} {σ' : St} {n : Nat} (hn : n = xs.length) (k : KE K ca W G own H Da Dc Wa)
    (p : ForI K ca ag rs xs Wa Da G own H n σ' H') : Dc.nx σ' H' := by
  obtain ⟨G1, own1, ρ1, Ω1, e1, r1, s1, q⟩ := p
  rw [hn, List.drop_length] at q
  exact k.nx _ _ _ _ _ _ e1 r1 s1 q
theorem as_for {iter tg : Expr} {l : List Stmt} {g : TG} {ag : AG} (hp : PassesOwn (model X.prog X.w) X.A X.env X.xe) (hc : X.calm = true) (ha : AE X ca W iter te re) (hg : AGt X ca tg g ag) (hb : ASs X ca W l ts rs) (hs : ∀ x, foldedSetIterable iter X.env x = pure x := by intro _; rfl) :
    AS X ca W (.For tg iter l [] pos) (tFor (iList X.K te) g ts) (aFor re ag rs) := ⟨ps_for hp hc (pi_list ha.pe) hg.pe hb.pe hs, fun σ H G own ρ Ω Wa Da Dc r s h k => by
  refine ha.sim σ H G own ρ Ω Wa _ _ r s h (fun v H1 G1 own1 d Ω1 e1 r1 dv1 q1 => ?_) (k.kx s)
  obtain ⟨xs, rfl, q⟩ := q1
  cases dv1 with
  | lst hq ds =>
    rename_i a vs
    have k1 := k.mono e1
    refine ⟨a, rfl, ⟨vs, r1.sub.seq hq⟩, for_list (K := X.K) (a := a) (xs := vs) (ForI X.K ca ag rs xs Wa Da G1 own1 H1) ⟨G1, own1, ρ, Ω1, Stp.refl, r1, s.mono e1.same, q⟩ (fun i σ' H' _ p => ?_) (fun i x σ' H' hx p => ?_) (fun σ' H' p => forI_end ds.length k1 p)⟩
    · obtain ⟨G2, own2, ρ2, Ω2, e2, r2, _⟩ := p
      exact r2.sub.seq (e2.same.seq hq)
    · obtain ⟨d, hd, dv⟩ := ds.getV hx
      exact forI_turn hg.sim hb.sim k1 hd dv p⟩
theorem as_forT {iter tg : Expr} {l : List Stmt} {g : TG} {ag : AG} (hp : PassesOwn (model X.prog X.w) X.A X.env X.xe) (hc : X.calm = true) (ha : AE X ca W iter te re) (hg : AGt X ca tg g ag) (hb : ASs X ca W l ts rs) (hs : ∀ x, foldedSetIterable iter X.env x = pure x := by intro _; rfl) :
    AS X ca W (.For tg iter l [] pos) (tFor (iTup X.K te) g ts) (aForT re ag rs) := ⟨ps_for hp hc (pi_tup ha.pe) hg.pe hb.pe hs, fun σ H G own ρ Ω Wa Da Dc r s h k => by
  refine ha.sim σ H G own ρ Ω Wa _ _ r s h (fun v H1 G1 own1 d Ω1 e1 r1 dv1 q1 => ?_) (k.kx s)
  obtain ⟨xs, rfl, q⟩ := q1
  cases dv1 with
  | tup hq ds =>
    rename_i a vs
    have k1 := k.mono e1
    refine ⟨a, rfl, ⟨vs, same_seqT r1.sub hq⟩, for_tup (K := X.K) (a := a) (xs := vs) (ForI X.K ca ag rs xs Wa Da G1 own1 H1) ⟨G1, own1, ρ, Ω1, Stp.refl, r1, s.mono e1.same, q⟩ (fun i σ' H' _ p => ?_) (fun i x σ' H' hx p => ?_) (fun σ' H' p => forI_end ds.length k1 p)⟩
    · obtain ⟨G2, own2, ρ2, Ω2, e2, r2, _⟩ := p
      exact same_seqT r2.sub (same_seqT e2.same hq)
    · obtain ⟨d, hd, dv⟩ := ds.getV hx
      exact forI_turn hg.sim hb.sim k1 hd dv p⟩
/-- the numbers from lo on, n of them -/
def rngD (lo : Int) (n : Nat) : List D := (List.range n).map fun i => .int (lo + (i : Nat))
def aForR1 (ra : ATE) (g : AG) (b : ATS) : ATS := fun Wa Da ρ Ω => ra Wa ρ Ω fun d Ω1 => ∃ j : Int, d = .int j ∧ -(2 ^ 62) ≤ j ∧ j < 2 ^ 62 ∧ forL g b (rngD 0 j.toNat) Wa Da ρ Ω1
theorem rngD_get {lo : Int} {n i : Nat} (h : i < n) : (rngD lo n)[i]? = some (.int (lo + (i : Nat))) := by
  unfold rngD
  rw [List.getElem?_map, List.getElem?_range h]
  rfl
theorem rngD_length {lo : Int} {n : Nat} : (rngD lo n).length = n := by unfold rngD; rw [List.length_map, List.length_range]
theorem as_forR1 {tg : Expr} {l : List Stmt} {g : TG} {ag : AG} {p p2 : Pos} (hp : PassesOwn (model X.prog X.w) X.A X.env X.xe) (hc : X.calm = true) (hgl : Gl X "range") (hm : X.mg "range" = none) (ha : AE X ca W a ta ra) (hg : AGt X ca tg g ag) (hb : ASs X ca W l ts rs)
    (hs1 : starEach [a] X.env = (false, eval a X.env) :: starEach [] X.env := by rfl) (hs2 : starEach [a] X.env = [(false, eval a X.env)] := by rfl) (hs : ∀ x, foldedSetIterable (.Call (.Name "range" p) [a] [] p2) X.env x = pure x := by intro _; rfl) :
    AS X ca W (.For tg (.Call (.Name "range" p) [a] [] p2) l [] pos) (tFor (iRng1 (tCons ta tNil)) g ts) (aForR1 ra ag rs) := ⟨ps_for hp hc (pi_range1 hgl hm (pa_cons ha.pe pa_nil hs1) hs2) hg.pe hb.pe hs, fun σ H G own ρ Ω Wa Da Dc r s h k => by
  refine ha.sim σ H G own ρ Ω Wa _ _ r s h (fun v H1 G1 own1 d Ω1 e1 r1 dv1 q1 => ?_) (k.kx s)
  obtain ⟨j, rfl, h1, h2, q⟩ := q1
  cases dv1
  have k1 := k.mono e1
  refine ⟨j, rfl, h1, h2, for_range (lo := 0) (n := j.toNat) (ForI X.K ca ag rs (rngD 0 j.toNat) Wa Da G1 own1 H1) ⟨G1, own1, ρ, Ω1, Stp.refl, r1, s.mono e1.same, q⟩ (fun i σ' H' hi p => ?_) (fun σ' H' p => forI_end rngD_length.symm k1 p)⟩
  exact forI_turn hg.sim hb.sim k1 (rngD_get hi) (.int _) p⟩
def aForR2 (ra rb : ATE) (g : AG) (b : ATS) : ATS := fun Wa Da ρ Ω => ra Wa ρ Ω fun d Ω1 => rb Wa ρ Ω1 fun d2 Ω2 => ∃ i j : Int, d = .int i ∧ d2 = .int j ∧ (-(2 ^ 62) ≤ i ∧ i < 2 ^ 62 ∧ -(2 ^ 62) ≤ j ∧ j < 2 ^ 62) ∧ forL g b (rngD i (j - i).toNat) Wa Da ρ Ω2
end
def astart (N : List Str) (ds : List D) : En := ds.map some ++ List.replicate (N.length - ds.length) none
theorem sr_start {K : PySem.W.Frag} {G : Hp} {N : List Str} {vs : List V} {ds : List D} (h : DVs K G vs ds) : SR K G (L2.start N vs) (astart N ds) := by
  refine ⟨by unfold L2.start astart; rw [List.length_append, List.length_append, List.length_map, List.length_map, List.length_replicate, List.length_replicate, h.length], fun i d hd => ?_⟩
  unfold astart at hd
  by_cases hi : i < (ds.map some).length
  · rw [List.getElem?_append_left hi, List.getElem?_map] at hd
    rw [List.length_map] at hi
    cases e : ds[i]? with
    | none => rw [e] at hd; cases hd
    | some x =>
      rw [e] at hd
      cases hd
      obtain ⟨v, hv, dv⟩ := h.get e
      refine ⟨v, ?_, dv⟩
      unfold L2.start
      rw [List.getElem?_append_left (by rw [List.length_map, h.length]; exact hi), List.getElem?_map, hv]
      rfl
  · rw [List.getElem?_append_right (by omega), List.getElem?_replicate] at hd
    split at hd <;> cases hd
section
variable {P : Program} {w : World} {K : PySem.W.Frag} {mg : Str → Option Value} {base : Heap} {ca : CA}
abbrev WD (E : XK) : WX := fun cls d _ H => E cls d H
theorem okA {x qual : Str} {st : Stmt} {f : Addr} {fd : FuncData} {N ps : List Str} {k : Nat} {Fa : AF} (F : Fun K x qual st f fd) (S : FnScope N ps (defScope st)) (len : ∀ ds Ω Q E, Fa ds Ω Q E → ds.length = ps.length)
    (h : ∀ (cdv : Value) (A : Around) (outer : List Env) (s : Shared) (H : Hp) (E : XK), Room k (A.deeper (PyProof.Rows.envOfC qual (defScope st) s.heap.objs.size f cdv)) →
      ∃ ts ta, ASs (cxOf (L2.CX P w) P w K mg base N qual (defScope st) f cdv A outer s H E) ca (WD E) (defBody st) ts ta ∧
        ∀ ds Ω Qa Ea, Fa ds Ω Qa Ea → ta (fun cls _ Ω' => Ea cls Ω') { nx := fun _ Ω' => Qa .non Ω', rt := Qa } (astart N ds) Ω) : FnOk P w K mg base (L2.CX P w) (k + 1) f fd ps (spA K ca Fa) := by
  refine F.okX S (fun vs H Q E hsp => ?_) (fun cdv A outer s H vs Q E hr hsp => ?_)
  · obtain ⟨G, own, Ω, ds, Qa, Ea, r, dv, hF, _⟩ := hsp
    rw [dv.length]
    exact len _ _ _ _ hF
  · obtain ⟨ts, ta, hA, hq⟩ := h cdv A outer s H E hr
    obtain ⟨G, own, Ω, ds, Qa, Ea, r, dv, hF, k1, k2⟩ := hsp
    exact ⟨ts, hA.pe, hA.sim _ _ G own (astart N ds) Ω (fun cls _ Ω' => Ea cls Ω') _ _ r (sr_start dv) (hq ds Ω Qa Ea hF)
      ⟨fun σ' H' G' own' ρ' Ω' e r' s' q => k1 _ _ _ _ .non _ e r' .non q, fun v H' G' own' d Ω' e r' dv' q => k1 _ _ _ _ _ _ e r' dv' q, fun _ _ _ _ _ _ _ _ _ q => q.elim, fun _ _ _ _ _ _ _ _ _ q => q.elim, fun cls σ' H' G' own' ρ' Ω' e r' s' q => k2 _ _ _ _ _ e r' q⟩⟩
end
end PL
namespace PL
open PySem L2
section
variable {X : Cx} {ca : CA} {W : WX} {a b e : Expr} {es : List Expr} {ta tb te : TE} {ra rb re : ATE} {tr : TA} {rr : ATA} {pos : Pos}
def CPowB (i j : Int) : Prop := 0 ≤ j ∧ (Builtin.Int.intBits i : Int) * j ≤ 2 ^ 27
def aPowB := aOp (fI CPowB fun i j => i ^ j.toNat)
theorem op_powB : OpR X (binaryOp .Pow) (rI CPowB fun i j => .int (i ^ j.toNat)) := opI fun _ _ _ _ _ _ _ hc q => PyProof.Rows.pow_int hc.1 hc.2 q
theorem ae_powB (ha : AE X ca W a ta ra) (hb : AE X ca W b tb rb) : AE X ca W (.BinOp a .Pow b pos) (tOp (rI CPowB fun i j => .int (i ^ j.toNat)) ta tb) (aPowB ra rb) := ⟨pe_op op_powB ha.pe hb.pe, sim_op simr_I ha.sim hb.sim⟩
theorem ae_neg (ha : AE X ca W a ta ra) : AE X ca W (.UnaryOp .USub a pos) (tUn (rU fun i => .int (-i)) ta) (fun Wa ρ Ω Q => ra Wa ρ Ω fun x Ω1 => ∃ i : Int, x = .int i ∧ Q (.int (-i)) Ω1) := ⟨pe_un un_neg ha.pe, fun σ H G own ρ Ω Wa Qa Qc r s h k kx => ha.sim σ H G own ρ Ω Wa _ _ r s h (fun v H1 G1 own1 d Ω1 e1 r1 dv1 q1 => by
  obtain ⟨i, rfl, q⟩ := q1
  cases dv1
  exact ⟨i, rfl, k _ _ _ _ _ _ e1 r1 (.int _) q⟩) kx⟩
def rowD (ns : List Int) (i c m : Int) : List D := [.lst (ns.map D.int), .int i, .int c, .int m]
theorem Rel.toRow {K : PySem.W.Frag} {G H : Hp} {own : Addr → Option Addr} {Ω : Om} {p : Addr} {ns : List Int} {i c m : Int} (r : Rel K ca G own H Ω) (e : Ω p = some (.lst (rowD ns i c m))) (h0 : 0 ≤ i) (h1 : i ≤ ns.length) (h2 : 0 ≤ c) : Rel K ca G own H (oset Ω p .row) := by
  obtain ⟨w, vs, hv, dv⟩ := r.objs p _ e
  unfold rowD at dv
  cases dv with
  | cons d1 dv =>
    cases dv with
    | cons d2 dv =>
      cases dv with
      | cons d3 dv =>
        cases dv with
        | cons d4 dv =>
          cases dv
          cases d2
          cases d3
          cases d4
          cases d1 with
          | lst q ds =>
            rw [ds.ints] at q
            exact r.turn (fun b u hb _ => hb) (fun b u hb _ => hb) ⟨w, _, ns, i, c, m, hv, q, h0, h1, h2⟩
theorem Rel.ofRow {K : PySem.W.Frag} {G H : Hp} {own : Addr → Option Addr} {Ω : Om} {p : Addr} (r : Rel K ca G own H Ω) (e : Ω p = some .row) : ∃ ns i c m, 0 ≤ i ∧ i ≤ (ns.length : Int) ∧ 0 ≤ c ∧ Rel K ca G own H (oset Ω p (.lst (rowD ns i c m))) := by
  obtain ⟨w, q, ns, i, c, m, hv, hs, h0, h1, h2⟩ := r.objs p _ e
  refine ⟨ns, i, c, m, h0, h1, h2, r.turn (fun b u hb _ => hb) (fun b u hb _ => hb) ⟨w, _, hv, ?_⟩⟩
  exact .cons (.lst hs (DVs.of_ints ns)) (.cons (.int i) (.cons (.int c) (.cons (.int m) .nil)))
def aAsRow (re : ATE) : ATE := fun Wa ρ Ω Q => re Wa ρ Ω fun x Ω1 => ∃ a ns i c m, x = .o a ∧ Ω1 a = some (.lst (rowD ns i c m)) ∧ 0 ≤ i ∧ i ≤ ns.length ∧ 0 ≤ c ∧ Q (.o a) (oset Ω1 a .row)
theorem ae_asRow (ha : AE X ca W e te re) : AE X ca W e te (aAsRow re) := ⟨ha.pe, fun σ H G own ρ Ω Wa Qa Qc r s h k kx => ha.sim σ H G own ρ Ω Wa _ _ r s h (fun v H1 G1 own1 d Ω1 e1 r1 dv1 q1 => by
  obtain ⟨p, ns, i, c, m, rfl, ho, h0, h1, h2, q⟩ := q1
  cases dv1
  exact k _ _ _ _ _ _ e1 (r1.toRow ho h0 h1 h2) (.o p) q) kx⟩
def wipeA (ρ : En) : List Nat → En
  | [] => ρ
  | v :: vs => (wipeA ρ vs).set v none
theorem SR.wipe {K : PySem.W.Frag} {G : Hp} {σ : St} {ρ : En} (s : SR K G σ ρ) : ∀ vs : List Nat, SR K G (wipe σ vs) (wipeA ρ vs)
  | [] => s
  | v :: vs => by
    have h := s.wipe vs
    unfold L2.wipe wipeA
    exact h.drop v none
/-- what the block makes of each item, one after the other; acc: what is made so far -/
def compL (g : AG) (c : ATT) (re : ATE) (vs : List Nat) : List D → List D → AW → En → Om → AQ → Prop
  | [], acc, _, _, Ω, Q => Q (.lst acc) Ω
  | x :: xs, acc, Wa, ρ, Ω, Q => g x (wipeA ρ vs) Ω fun ρ1 Ω1 => c Wa ρ1 Ω1 fun k Ω2 => if k = true then re Wa ρ1 Ω2 fun y Ω3 => acc.length < sizeLine ∧ compL g c re vs xs (acc ++ [y]) Wa ρ Ω3 Q else compL g c re vs xs acc Wa ρ Ω2 Q
abbrev W0 : WX := fun _ _ _ _ => False
abbrev Wa0 : AW := fun _ _ _ => False
/-- the block's step, from the state around -/
def CompI (K : PySem.W.Frag) (ca : CA) (ag : AG) (rc : ATT) (re : ATE) (vs : List Nat) (xs : List D) (ρ : En) (G : Hp) (own : Addr → Option Addr) (H : Hp) (D0 : Addr) (Q : AQ) (i : Nat) (H' : Hp) : Prop :=
  ∃ (G' : Hp) (own' : Addr → Option Addr) (Ω' : Om) (us : List V) (acc : List D), Stp G own H G' own' H' ∧ Rel K ca G' own' H' Ω' ∧ H' D0 = some (.lst us) ∧ own' D0 = none ∧ G' D0 = none ∧ DVs K G' us acc ∧ compL ag rc re vs (xs.drop i) acc Wa0 ρ Ω' Q
def Wip (g : TG) (vs : List Nat) : Prop := ∀ σ v H Q, g v (wipe σ vs) H Q → g v (wipe σ vs) H fun σ2 H2 => wipe σ2 vs = wipe σ vs ∧ Q σ2 H2
theorem wipe_set {y : Option V} : ∀ {vs : List Nat} {σ : St} {i : Nat}, wipe (σ.set i y) vs = if i ∈ vs then wipe σ vs else (wipe σ vs).set i y
  | [], σ, i => by simp [L2.wipe]
  | v :: vs, σ, i => by
    show (wipe (σ.set i y) vs).set v none = if i ∈ v :: vs then (wipe σ vs).set v none else ((wipe σ vs).set v none).set i y
    rw [wipe_set]
    by_cases h : i ∈ vs
    · rw [if_pos h, if_pos (List.mem_cons_of_mem _ h)]
    · rw [if_neg h]
      by_cases hv : i = v
      · subst hv
        rw [if_pos List.mem_cons_self, List.set_set]
      · rw [if_neg (by simp [hv, h]), List.set_comm _ _ hv]
theorem wipe_wipe : ∀ {vs ws : List Nat} {σ : St}, (∀ v ∈ vs, v ∈ ws) → wipe (wipe σ vs) ws = wipe σ ws
  | [], ws, σ, _ => rfl
  | v :: vs, ws, σ, h => by
    show wipe ((wipe σ vs).set v none) ws = wipe σ ws
    rw [wipe_set, if_pos (h v List.mem_cons_self)]
    exact wipe_wipe fun w hw => h w (List.mem_cons_of_mem _ hw)
theorem wip_name {i : Nat} {vs : List Nat} (h : i ∈ vs) : Wip (gName i) vs := fun σ v H Q q => ⟨by rw [wipe_set, if_pos h, wipe_wipe fun _ hv => hv], q⟩
theorem wip_names {vs : List Nat} {σ0 : St} : ∀ {is : List Nat}, (∀ i ∈ is, i ∈ vs) → ∀ σ xs H Q, wipe σ vs = σ0 → gNames is xs σ H Q → gNames is xs σ H fun σ2 H2 => wipe σ2 vs = σ0 ∧ Q σ2 H2
  | [], _, σ, xs, H, Q, e, h => ⟨h.1, e, h.2⟩
  | i :: is, hi, σ, xs, H, Q, e, h => by
    obtain ⟨v, r, ex, q⟩ := h
    refine ⟨v, r, ex, ?_⟩
    exact wip_names (is := is) (fun j hj => hi j (List.mem_cons_of_mem _ hj)) (σ.set i (some v)) r H Q (by rw [wipe_set, if_pos (hi i List.mem_cons_self)]; exact e) q
theorem wip_tup {K : PySem.W.Frag} {n : Nat} {is vs : List Nat} (h : ∀ i ∈ is, i ∈ vs) : Wip (gTup K n (gNames is)) vs := fun σ v H Q q => by
  obtain ⟨a, xs, e, hs, hl, q⟩ := q
  exact ⟨a, xs, e, hs, hl, wip_names h _ _ _ _ (wipe_wipe fun _ hv => hv) q⟩
theorem compI_turn {K : PySem.W.Frag} {ca : CA} {g : TG} {ag : AG} {tt : TT} {rc : ATT} {te : TE} {re : ATE} {vs : List Nat} {xs : List D} {ρ : En} {G H H' : Hp} {own : Addr → Option Addr} {σ : St} {D0 : Addr} {Q : AQ} {i : Nat} {x : D} {v : V}
    (hg : SimG K ca g ag) (hw : Wip g vs) (hc : SimT K ca W0 tt rc) (he : SimE K ca W0 te re) (s : SR K G σ ρ) (h0 : H D0 = none) (hx : xs[i]? = some x) (dv : DV K G v x) (p : CompI K ca ag rc re vs xs ρ G own H D0 Q i H') :
    g v (wipe σ vs) H' fun σ2 H2 => wipe σ2 vs = wipe σ vs ∧ tt σ2 H2 fun b H3 =>
      if b = true then te σ2 H3 fun y H4 => ∃ acc, H4 D0 = some (.lst acc) ∧ acc.length < sizeLine ∧ CompI K ca ag rc re vs xs ρ G own H D0 Q (i + 1) (upd H4 D0 (.lst (acc ++ [y]))) else CompI K ca ag rc re vs xs ρ G own H D0 Q (i + 1) H3 := by
  obtain ⟨G1, own1, Ω1, us, acc, e1, r1, h1, w1, g1, d1, q⟩ := p
  have hlt : i < xs.length := (List.getElem?_eq_some_iff.mp hx).1
  have hd : xs.drop i = x :: xs.drop (i + 1) := by
    rw [List.drop_eq_getElem_cons hlt]
    rw [(List.getElem?_eq_some_iff.mp hx).2]
  rw [hd] at q
  refine hw σ v H' _ (hg (wipe σ vs) H' G1 own1 (wipeA ρ vs) Ω1 v x _ _ r1 ((s.mono e1.same).wipe vs) (dv.mono e1.same) q fun σ2 H2 G2 own2 ρ2 Ω2 e2 r2 s2 q2 => ?_)
  have f2 := e2.fr D0 _ h1 w1 g1
  refine hc σ2 H2 G2 own2 ρ2 Ω2 Wa0 _ _ r2 s2 q2 (fun b H3 G3 own3 Ω3 e3 r3 q3 => ?_) fun _ _ _ _ _ _ _ z => z
  have f3 := e3.fr D0 _ f2.1 f2.2.1 f2.2.2
  cases b with
  | false =>
    rw [if_neg Bool.false_ne_true] at q3 ⊢
    exact ⟨G3, own3, Ω3, us, acc, (e1.trans e2).trans e3, r3, f3.1, f3.2.1, f3.2.2, d1.mono (e2.trans e3).same, q3⟩
  | true =>
    rw [if_pos rfl] at q3 ⊢
    refine he σ2 H3 G3 own3 ρ2 Ω3 Wa0 _ _ r3 (s2.mono e3.same) q3 (fun y H4 G4 own4 d Ω4 e4 r4 dv4 q4 => ?_) fun _ _ _ _ _ _ _ z => z
    have f4 := e4.fr D0 _ f3.1 f3.2.1 f3.2.2
    have ee := e2.trans (e3.trans e4)
    refine ⟨us, f4.1, by rw [d1.length]; exact q4.1, G4, own4, Ω4, us ++ [y], acc ++ [d], ?_, r4.privSet f4.1 (fun z => z) f4.2.2 f4.2.1, upd_same, f4.2.1, f4.2.2, (d1.mono ee.same).append (.cons dv4 .nil), q4.2⟩
    have e5 := e1.trans ee
    refine ⟨e5.same, fun b w hb n g => ?_⟩
    obtain ⟨z1, z2, z3⟩ := e5.fr b w hb n g
    exact ⟨by rw [upd_ne (ne_of_none hb h0)]; exact z1, z2, z3⟩
theorem compI_end {K : PySem.W.Frag} {ca : CA} {ag : AG} {rc : ATT} {re : ATE} {vs : List Nat} {xs : List D} {ρ : En} {G H H' : Hp} {own : Addr → Option Addr} {D0 : Addr} {Qa : AQ} {Qc : VK} {n : Nat} (hn : n = xs.length) (h0 : H D0 = none)
    (k : ∀ v H' G' own' d Ω', Stp G own H G' own' H' → Rel K ca G' own' H' Ω' → DV K G' v d → Qa d Ω' → Qc v H') (p : CompI K ca ag rc re vs xs ρ G own H D0 Qa n H') : Qc (.ref D0) H' := by
  obtain ⟨G1, own1, Ω1, us, acc, e1, r1, h1, w1, g1, d1, q⟩ := p
  rw [hn, List.drop_length] at q
  obtain ⟨r2, e2⟩ := r1.privData h1 g1 w1
  refine k _ _ _ _ _ _ ⟨e1.same.trans e2, fun b w hb n g => ?_⟩ r2 (.lst (SqL.of upd_same) (d1.mono e2)) q
  obtain ⟨z1, z2, z3⟩ := e1.fr b w hb n g
  exact ⟨z1, z2, by rw [upd_ne (ne_of_none hb h0)]; exact z3⟩
theorem compI_start {K : PySem.W.Frag} {ca : CA} {ag : AG} {rc : ATT} {re : ATE} {vs : List Nat} {xs : List D} {ρ : En} {G H : Hp} {own : Addr → Option Addr} {Ω : Om} {D0 : Addr} {Qa : AQ} (r : Rel K ca G own H Ω) (h0 : H D0 = none) (q : compL ag rc re vs xs [] Wa0 ρ Ω Qa) :
    CompI K ca ag rc re vs xs ρ G own H D0 Qa 0 (upd H D0 (.lst [])) :=
  ⟨G, uown own D0 none, Ω, [], [], stp_new h0, r.priv h0, upd_same, if_pos rfl, r.sub.free h0, .nil, q⟩
def aYes : ATT := fun _ _ Ω Q => Q true Ω
theorem sim_yes {K : PySem.W.Frag} {ca : CA} {W : WX} : SimT K ca W tYes aYes := fun σ H G own ρ Ω Wa Qa Qc r s h k _ => k _ _ _ _ _ Stp.refl r h
/-- [elt for tg in xs if ..], xs data -/
def aLc (ri : ATE) (g : AG) (c : ATT) (re : ATE) (vs : List Nat) : ATE := fun Wa ρ Ω Q => ri Wa ρ Ω fun d Ω1 => ∃ xs, d = .lst xs ∧ compL g c re vs xs [] Wa0 ρ Ω1 Q
theorem sim_lc {ti : TE} {ri : ATE} {g : TG} {ag : AG} {tt : TT} {rc : ATT} {K : PySem.W.Frag} {vs : List Nat} (hi : SimE K ca W ti ri) (hg : SimG K ca g ag) (hw : Wip g vs) (hc : SimT K ca W0 tt rc) (he : SimE K ca W0 te re) : SimE K ca W (tLc (iList K ti) g tt te vs) (aLc ri ag rc re vs) := fun σ H G own ρ Ω Wa Qa Qc r s h k kx =>
  hi σ H G own ρ Ω Wa _ _ r s h (fun v H1 G1 own1 d Ω1 e1 r1 dv1 q1 => by
    obtain ⟨xs, rfl, q⟩ := q1
    cases dv1 with
    | lst hq ds =>
      rename_i a us
      refine ⟨a, rfl, ⟨us, r1.sub.seq hq⟩, fun D0 h0 => lc_list (K := K) (a := a) (xs := us) (CompI K ca ag rc re vs xs ρ G1 own1 H1 D0 Qa) (compI_start r1 h0 q) (fun i H' _ p => ?_) (fun i x H' hx p => ?_) (fun H' p => compI_end ds.length h0 (fun v H' G' own' d Ω' e => k v H' G' own' d Ω' (e1.trans e)) p)⟩
      · obtain ⟨G2, own2, Ω2, _, _, e2, r2, _⟩ := p
        exact r2.sub.seq (e2.same.seq hq)
      · obtain ⟨d, hd, dv⟩ := ds.getV hx
        exact compI_turn hg hw hc he (s.mono e1.same) h0 hd dv p) kx
/-- over range(n) -/
def aLcR (ri : ATE) (g : AG) (c : ATT) (re : ATE) (vs : List Nat) : ATE := fun Wa ρ Ω Q => ri Wa ρ Ω fun d Ω1 => ∃ j : Int, d = .int j ∧ -(2 ^ 62) ≤ j ∧ j < 2 ^ 62 ∧ compL g c re vs (rngD 0 j.toNat) [] Wa0 ρ Ω1 Q
theorem sim_lcR {ti : TE} {ri : ATE} {g : TG} {ag : AG} {tt : TT} {rc : ATT} {K : PySem.W.Frag} {vs : List Nat} (hi : SimE K ca W ti ri) (hg : SimG K ca g ag) (hw : Wip g vs) (hc : SimT K ca W0 tt rc) (he : SimE K ca W0 te re) : SimE K ca W (tLc (iRng1 (tCons ti tNil)) g tt te vs) (aLcR ri ag rc re vs) := fun σ H G own ρ Ω Wa Qa Qc r s h k kx =>
  hi σ H G own ρ Ω Wa _ _ r s h (fun v H1 G1 own1 d Ω1 e1 r1 dv1 q1 => by
    obtain ⟨j, rfl, h1, h2, q⟩ := q1
    cases dv1
    exact ⟨j, rfl, h1, h2, fun D0 h0 => lc_range (lo := 0) (n := j.toNat) (CompI K ca ag rc re vs (rngD 0 j.toNat) ρ G1 own1 H1 D0 Qa) (compI_start r1 h0 q) (fun i H' hi' p => compI_turn hg hw hc he (s.mono e1.same) h0 (rngD_get hi') (.int _) p)
      (fun H' p => compI_end rngD_length.symm h0 (fun v H' G' own' d Ω' e => k v H' G' own' d Ω' (e1.trans e)) p)⟩) kx
variable {elt iter tg : Expr} {ifs : List Expr} {scope : Scope} {ownn : List (Str × Nat)} {ti : TE} {ri : ATE} {g : TG} {ag : AG} {tt : TT} {rc : ATT}
abbrev Blk (X : Cx) (scope : Scope) (s : Shared) (H : Hp) (C : Addr) (cl : List (Str × Addr)) (fp : List Addr) : Cx := X.blk s H scope (compEnvC scope cl C X.env) fp
theorem ae_lc (hc : X.calm = true) (hN : X.N.Nodup) (hi : AE X ca W iter ti ri) (ok : BlkOk X.N X.env.scope scope ownn) (hw : Wip g (ownn.map (·.2)))
    (hg : ∀ s H C cl fp, AGt (Blk X scope s H C cl fp) ca tg g ag) (he : ∀ s H C cl fp, AE (Blk X scope s H C cl fp) ca W0 elt te re) (hs : ∀ x, foldedSetIterable iter X.env x = pure x := by intro _; rfl) :
    AE X ca W (.ListComp elt [⟨tg, iter, [], 0⟩] scope pos) (tLc (iList X.K ti) g tYes te (ownn.map (·.2))) (aLc ri ag aYes re (ownn.map (·.2))) :=
  ⟨pe_lc hc hN (pi_list hi.pe) ok (fun s H C cl fp => (hg s H C cl fp).pe) (fun s H C cl fp => pts_nil) (fun s H C cl fp => (he s H C cl fp).pe) hs,
    sim_lc hi.sim (hg X.s_0 (fun _ => none) 0 [] []).sim hw sim_yes (he X.s_0 (fun _ => none) 0 [] []).sim⟩
theorem ae_lcR {p p2 : Pos} (hc : X.calm = true) (hN : X.N.Nodup) (hgl : Gl X "range") (hm : X.mg "range" = none) (hi : AE X ca W a ti ri) (ok : BlkOk X.N X.env.scope scope ownn) (hw : Wip g (ownn.map (·.2)))
    (hg : ∀ s H C cl fp, AGt (Blk X scope s H C cl fp) ca tg g ag) (he : ∀ s H C cl fp, AE (Blk X scope s H C cl fp) ca W0 elt te re)
    (hs1 : starEach [a] X.env = (false, eval a X.env) :: starEach [] X.env := by rfl) (hs2 : starEach [a] X.env = [(false, eval a X.env)] := by rfl) (hs : ∀ x, foldedSetIterable (.Call (.Name "range" p) [a] [] p2) X.env x = pure x := by intro _; rfl) :
    AE X ca W (.ListComp elt [⟨tg, .Call (.Name "range" p) [a] [] p2, [], 0⟩] scope pos) (tLc (iRng1 (tCons ti tNil)) g tYes te (ownn.map (·.2))) (aLcR ri ag aYes re (ownn.map (·.2))) :=
  ⟨pe_lc hc hN (pi_range1 hgl hm (pa_cons hi.pe pa_nil hs1) hs2) ok (fun s H C cl fp => (hg s H C cl fp).pe) (fun s H C cl fp => pts_nil) (fun s H C cl fp => (he s H C cl fp).pe) hs,
    sim_lcR hi.sim (hg X.s_0 (fun _ => none) 0 [] []).sim hw sim_yes (he X.s_0 (fun _ => none) 0 [] []).sim⟩
end
structure Dfn (K : PySem.W.Frag) (mg : Str → Option Value) (x qual : Str) (st : Stmt) (ps : List Str) : Prop where
  ex : ∃ f fd, Fun K x qual st f fd ∧ mg x = some (.ref f) ∧ Binds K fd ps []
abbrev Rm (k : Nat) (A : Around) : Prop := Room (k + 32) A
structure Clb (P : Program) (w : World) (K : PySem.W.Frag) (mg : Str → Option Value) (base : Heap) (ca : CA) (k : Nat) (x : Str) (F : AF) : Prop where
  ex : ∃ f fd ps, FnOk P w K mg base (L2.CX P w) (k + 32) f fd ps (spA K ca F) ∧ mg x = some (.ref f) ∧ PySem.W.keepIn K (.ref f) = true ∧ Binds K fd ps []
section
variable {P : Program} {w : World} {K : PySem.W.Frag} {mg : Str → Option Value} {base : Heap} {ca : CA}
theorem clb {x qual : Str} {st : Stmt} {N ps : List Str} {k : Nat} {Fa : AF} (d : Dfn K mg x qual st ps) (S : FnScope N ps (defScope st)) (len : ∀ ds Ω Q E, Fa ds Ω Q E → ds.length = ps.length)
    (h : ∀ (f : Addr) (cdv : Value) (A : Around) (outer : List Env) (s : Shared) (H : Hp) (E : XK), Rm k (A.deeper (PyProof.Rows.envOfC qual (defScope st) s.heap.objs.size f cdv)) →
      ∃ ts ta, ASs (cxOf (L2.CX P w) P w K mg base N qual (defScope st) f cdv A outer s H E) ca (WD E) (defBody st) ts ta ∧
        ∀ ds Ω Qa Ea, Fa ds Ω Qa Ea → ta (fun cls _ Ω' => Ea cls Ω') { nx := fun _ Ω' => Qa .non Ω', rt := Qa } (astart N ds) Ω) : Clb P w K mg base ca (k + 1) x Fa := by
  obtain ⟨f, fd, F, m, b⟩ := d.ex
  exact ⟨f, fd, ps, (okA F S len (h f)).mono (by omega), m, F.kp, b⟩
theorem Clb.imp {k : Nat} {x : Str} {F F' : AF} (c : Clb P w K mg base ca k x F) (h : ∀ vs H Q E, spA K ca F' vs H Q E → spA K ca F vs H Q E) : Clb P w K mg base ca k x F' := by
  obtain ⟨f, fd, ps, G, r⟩ := c.ex
  exact ⟨f, fd, ps, G.imp h, r⟩
theorem Clb.mono {j k : Nat} {x : Str} {F : AF} (c : Clb P w K mg base ca j x F) (h : j ≤ k) : Clb P w K mg base ca k x F := by
  obtain ⟨f, fd, ps, G, r⟩ := c.ex
  exact ⟨f, fd, ps, G.mono (Nat.add_le_add_right h 32), r⟩
/-- a stronger wish -/
theorem spA_imp {F F' : AF} (h : ∀ ds Ω Q E, F' ds Ω Q E → F ds Ω Q E) : ∀ vs H Q E, spA K ca F' vs H Q E → spA K ca F vs H Q E := fun vs H Q E ⟨G, own, Ω, ds, Qa, Ea, r, dv, f, k1, k2⟩ => ⟨G, own, Ω, ds, Qa, Ea, r, dv, h _ _ _ _ f, k1, k2⟩
end
theorem ae_call {X : Cx} {ca : CA} {W : WX} {e : Expr} {es : List Expr} {tr : TA} {rr : ATA} {pos p : Pos} {k j : Nat} {x : Str} {F : AF} (c : Clb X.prog X.w X.K X.mg X.base ca k x F) (hr : Rm j X.A) (tk : Takes X W) (hk : k ≤ j) (ha : AA X ca W (e :: es) tr rr)
    (hg : Gl X x := by rfl) (hdb : (x == ("__debug__" : Str)) = false := by decide) (he : starEach (e :: es) X.env = (false, eval e X.env) :: starEach es X.env := by rfl) (hpl : (backTo pos (starEach es X.env)).any (·.1) = false := by rfl) :
    AE X ca W (.Call (.Name x p) (e :: es) [] pos) (tCallS (spA X.K ca F) (WE W) tr) (aFn F rr) := by
  obtain ⟨f, fd, ps, G, m, kp, b⟩ := c.ex
  exact ae_fn G (Room.mono hr (Nat.add_le_add_right hk 32)) m kp b tk ha hg hdb he hpl
/-- a word between a statement and the rest -/
def aCut (t u : ATS) : ATS := fun Wa Da ρ Ω => ∃ Mid : En → Om → Prop, t Wa { Da with nx := Mid } ρ Ω ∧ ∀ ρ' Ω', Mid ρ' Ω' → u Wa Da ρ' Ω'
theorem ass_cut {X : Cx} {ca : CA} {W : WX} {st : Stmt} {rest : List Stmt} {ts tu : TS} {rs ru : ATS} (h1 : AS X ca W st ts rs) (h2 : ASs X ca W rest tu ru) : ASs X ca W (st :: rest) (Evl.tCut ts tu) (aCut rs ru) := ⟨Evl.pss_cut h1.pe h2.pe, fun σ H G own ρ Ω Wa Da Dc r s h k => by
  obtain ⟨Mid, m1, m2⟩ := h
  refine ⟨fun σ' H' => ∃ G' own' ρ' Ω', Stp G own H G' own' H' ∧ Rel X.K ca G' own' H' Ω' ∧ SR X.K G' σ' ρ' ∧ Mid ρ' Ω', ?_, ?_⟩
  · exact h1.sim σ H G own ρ Ω Wa _ _ r s m1 ⟨fun σ' H' G' own' ρ' Ω' e r' s' q => ⟨G', own', ρ', Ω', e, r', s', q⟩, k.rt, k.bk, k.ct, k.ex⟩
  · rintro σ' H' ⟨G', own', ρ', Ω', e, r', s', q⟩
    exact h2.sim σ' H' G' own' ρ' Ω' Wa Da Dc r' s' (m2 ρ' Ω' q) (k.mono e)⟩
theorem dfn {K : PySem.W.Frag} {h : Heap} {mg : Str → Option Value} {x : Str} {st : Stmt} {ps : List Str} {f : Addr} {oc : Value} {od an : Option Addr} {osl : Array (Option Value)} {kV doc pm cdv ct : Value} (X : K.In h) (G : h.Ns mainGlobals mg)
    (a : PySem.W.nsIn K mainGlobals x = some (some (.ref f))) (l : K.lookup f = some ⟨oc, od, .func (PySem.W.fnOf x x (defArgs st) (defBody st) (defScope st) .none kV doc pm an cdv ct), osl⟩) (c : PySem.W.codeIn K cdv x = true) (k : PySem.W.keepIn K (.ref f) = true)
    (hb : ∀ (kV doc pm : Value) (an : Option Addr) (cdv ct : Value) (us : List Value), us.length = ps.length → bindArgs (PySem.W.fnOf x x (defArgs st) (defBody st) (defScope st) .none kV doc pm an cdv ct) ⟨us, []⟩ = pure (ps.zip us)) : Dfn K mg x x st ps :=
  ⟨f, _, fun_mk (st := st) l c k, PySem.W.mg_of X G a, (fun_mk (st := st) l c k).binds hb⟩
def F_law : AF := fun ds Ω Q _ => ∃ ns : List Int, ds = [.lst (ns.map D.int)] ∧ ns.length ≤ 63 ∧ ∀ Ω', Q (.bl true) Ω'
theorem law_len : ∀ ds Ω Q E, F_law ds Ω Q E → ds.length = (["_law_script"] : List Str).length := by
  rintro ds Ω Q E ⟨ns, rfl, _⟩
  rfl
theorem only_rel {K : PySem.W.Frag} {ca : CA} {H : Hp} : Rel K ca H (fun _ => none) H (fun _ => none) := ⟨Same.refl _, fun _ _ _ => rfl, fun _ _ e => by cases e⟩
theorem atI_eq {α : Type} {xs : List α} (n : Nat) : atI xs (n : Int) = xs[n]? := by
  cases h : xs[n]? with
  | some v => exact atI_nat h
  | none =>
    have hl : xs.length ≤ n := List.getElem?_eq_none_iff.mp h
    unfold atI ixN
    rw [if_pos (by omega), if_neg (by omega)]
    rfl
theorem at_0 {α : Type} {xs : List α} : atI xs 0 = xs[0]? := atI_eq 0
theorem at_1 {α : Type} {xs : List α} : atI xs 1 = xs[1]? := atI_eq 1
theorem at_2 {α : Type} {xs : List α} : atI xs 2 = xs[2]? := atI_eq 2
theorem at_3 {α : Type} {xs : List α} : atI xs 3 = xs[3]? := atI_eq 3
theorem at_l {α : Type} {xs : List α} : atI xs (-1) = xs.getLast? := by
  rcases List.eq_nil_or_concat xs with rfl | ⟨ys, y, rfl⟩
  · rfl
  · rw [List.concat_eq_append, atI_last, List.getLast?_concat]
theorem ix_40 : ixN 4 0 = some 0 := by decide
theorem ix_41 : ixN 4 1 = some 1 := by decide
theorem ix_42 : ixN 4 2 = some 2 := by decide
theorem ix_43 : ixN 4 3 = some 3 := by decide
theorem atI_int {ns : List Int} {i : Int} (h0 : 0 ≤ i) (h : i < ns.length) : ∃ v, v ∈ ns ∧ atI (ns.map D.int) i = some (.int v) := by
  obtain ⟨n, rfl⟩ := Int.eq_ofNat_of_zero_le h0
  have hl : n < ns.length := by omega
  refine ⟨ns[n], List.getElem_mem hl, ?_⟩
  rw [atI_eq, List.getElem?_map, List.getElem?_eq_getElem hl]
  rfl
theorem ix_l {n : Nat} (h : 0 < n) : ixN n (-1) = some (n - 1) := by
  unfold ixN
  rw [if_neg (by decide), if_pos (by omega)]
  congr 1
  omega
theorem seq_lst {Ω : Om} {xs : List D} : (D.lst xs).seq Ω = some xs := rfl
theorem seq_tup {Ω : Om} {xs : List D} : (D.tup xs).seq Ω = some xs := rfl
theorem seq_o {Ω : Om} {a : Addr} {xs : List D} (h : Ω a = some (.lst xs)) : (D.o a).seq Ω = some xs := by simp only [D.seq, h]
theorem ty_int {Ω : Om} {i : Int} : (D.int i).ty Ω = some "int" := rfl
theorem ty_bl {Ω : Om} {i : Bool} : (D.bl i).ty Ω = some "bool" := rfl
theorem ty_str {Ω : Om} {i : Str} : (D.str i).ty Ω = some "str" := rfl
theorem ty_tup {Ω : Om} {i : List D} : (D.tup i).ty Ω = some "tuple" := rfl
theorem ty_lst {Ω : Om} {i : List D} : (D.lst i).ty Ω = some "list" := rfl
theorem ty_non {Ω : Om} : D.non.ty Ω = some "NoneType" := rfl
theorem isT_ii : isT "int" "int" = some true := by decide +kernel
theorem isT_ib : isT "int" "bool" = some false := by decide +kernel
theorem isT_bi : isT "bool" "int" = some true := by decide +kernel
theorem isT_bb : isT "bool" "bool" = some true := by decide +kernel
theorem isT_tt : isT "tuple" "tuple" = some true := by decide +kernel
theorem isT_ss : isT "str" "str" = some true := by decide +kernel
theorem isT_ll : isT "list" "list" = some true := by decide +kernel
theorem nopy {i j : Int} (h : j ≠ 0) (_ : j.natAbs < 2 ^ 8000) : NoPy i j := h
theorem mulok {i j : Int} {a b : Nat} (hi : i.natAbs < 2 ^ a) (hj : j.natAbs < 2 ^ b) (h : a + b ≤ 900000) : IntMulOk i j :=
  (wide_mul (a := a + 1) (b := b + 1) (Nat.lt_of_lt_of_le hi (Nat.pow_le_pow_right (by decide) (by omega))) (Nat.lt_of_lt_of_le hj (Nat.pow_le_pow_right (by decide) (by omega))) (by omega) (by omega) (by omega)).ok
theorem mulok_r {i j : Int} (h1 : -(2 ^ 64) < j) (h2 : j < 2 ^ 64) : IntMulOk i j := .of_right (intBits_le_64 h1 h2)
theorem mulok_l {i j : Int} (h1 : -(2 ^ 64) < i) (h2 : i < 2 ^ 64) : IntMulOk i j := .of_left (intBits_le_64 h1 h2)
theorem bits_le {n : Int} {b : Nat} (h : n.natAbs < 2 ^ b) : Builtin.Int.intBits n ≤ b := by
  unfold Builtin.Int.intBits
  split
  · omega
  · rename_i h0
    have : n.natAbs.log2 < b := (Nat.log2_lt (by simpa using h0)).mpr h
    omega
theorem lt_bits {n : Int} : n.natAbs < 2 ^ Builtin.Int.intBits n := by
  unfold Builtin.Int.intBits
  split
  · rename_i h0
    have : n = 0 := by simpa using h0
    subst this
    decide
  · exact Nat.lt_log2_self
end PL
namespace PL
open PySem L2
section
variable {X : Cx} {ca : CA} {W : WX} {a b c e : Expr} {es : List Expr} {ta tb tc te : TE} {ra rb rc re : ATE} {tr : TA} {rr : ATA} {pos : Pos} {st : Stmt} {ts : TS} {rs : ATS}
def rCatL (K : PySem.W.Frag) : R2 := fun x y H Q => ∃ l b xs zs, x = .ref l ∧ y = .ref b ∧ SqL K H l xs ∧ SqL K H b zs ∧ xs.length + zs.length ≤ sizeLine ∧ ∀ p, H p = none → Q (.ref p) (upd H p (.lst (xs ++ zs)))
theorem op_catL : OpR X (binaryOp .Add) (rCatL X.K) := by
  intro pins s σ H x y v u Q I rx ry h
  obtain ⟨l, b, xs, zs, rfl, rfl, hH, hB, hz, q⟩ := h
  cases rx
  cases ry
  obtain ⟨its, r, p1, _⟩ := I.list hH
  obtain ⟨its2, r2, p2, _⟩ := I.list hB
  obtain ⟨⟨cls, dd, data, sl⟩, n, ho, hc, _, hd⟩ := p1
  obtain ⟨⟨cls2, dd2, data2, sl2⟩, n2, ho2, hc2, _, hd2⟩ := p2
  simp only at hc hd hc2 hd2
  subst hc hd hc2 hd2
  have hl := r.length
  have hl2 := r2.length
  have ea : its.toArray ++ its2.toArray = (its ++ its2).toArray := by simp
  refine PySem.concat_meets ⟨_, ho, rfl⟩ ⟨_, ho2, rfl⟩ noFill_list_add seq_list_add PySem.F.slot_list_add PySem.F.entry_list_add (PySem.F.args_list_add_2 _ _) (PyProof.Rows.list_addW l b its.toArray its2.toArray n n2 dd dd2 sl sl2 (by rw [List.size_toArray, List.size_toArray]; omega)) ⟨ho, ho2, ?_⟩
  rw [ea]
  exact ⟨.ref _, _, I.lnew (t' := s.toks) (r.append r2) (by rw [List.length_append]; omega), rfl, q _ I.fresh⟩
/-- the items of a list: data, or ours -/
def D.lseq (Ω : Om) : D → Option (List D)
  | .lst xs => some xs
  | .o a => match Ω a with
    | some (.lst xs) => some xs
    | _ => none
  | _ => none
theorem lseq_lst {Ω : Om} {xs : List D} : (D.lst xs).lseq Ω = some xs := rfl
theorem lseq_o {Ω : Om} {a : Addr} {xs : List D} (h : Ω a = some (.lst xs)) : (D.o a).lseq Ω = some xs := by simp only [D.lseq, h]
theorem lseq_of {K : PySem.W.Frag} {G H : Hp} {own : Addr → Option Addr} {Ω : Om} {v : V} {x : D} {xs : List D} (r : Rel K ca G own H Ω) (dv : DV K G v x) (h : x.lseq Ω = some xs) : ∃ p vs, v = .ref p ∧ DVs K G vs xs ∧ SqL K H p vs := by
  cases dv with
  | lst a b => simp only [D.lseq, Option.some.injEq] at h; subst h; exact ⟨_, _, rfl, b, r.sub.seq a⟩
  | o a =>
    cases q : Ω a with
    | none => simp only [D.lseq, q] at h; cases h
    | some u =>
      cases u with
      | lst ys =>
        simp only [D.lseq, q, Option.some.injEq] at h; subst h
        obtain ⟨vs, hv, dv⟩ := r.lstAt q
        exact ⟨_, vs, rfl, dv, SqL.of hv⟩
      | row => simp only [D.lseq, q] at h; cases h
      | dic _ => simp only [D.lseq, q] at h; cases h
      | obj _ _ => simp only [D.lseq, q] at h; cases h
  | _ => simp [D.lseq] at h
def fCatL : D → D → Om → AQ → Prop := fun x y Ω Q => ∃ xs ys, x.lseq Ω = some xs ∧ y.lseq Ω = some ys ∧ xs.length + ys.length ≤ sizeLine ∧ Q (.lst (xs ++ ys)) Ω
def fCatO : D → D → Om → AQ → Prop := fun x y Ω Q => ∃ xs ys, x.lseq Ω = some xs ∧ y.lseq Ω = some ys ∧ xs.length + ys.length ≤ sizeLine ∧ ∀ p, Ω p = none → Q (.o p) (oset Ω p (.lst (xs ++ ys)))
def fCatT : D → D → Om → AQ → Prop := fun x y Ω Q => ∃ xs ys, x = .tup xs ∧ y = .tup ys ∧ xs.length + ys.length ≤ sizeLine ∧ Q (.tup (xs ++ ys)) Ω
theorem simr_catO {K : PySem.W.Frag} : SimR K ca (rCatL K) fCatO := by
  intro H G own Ω x y v w Qa Qc r dx dy h k
  obtain ⟨xs, ys, hx, hy, hz, q⟩ := h
  obtain ⟨p1, vs, rfl, d1, s1⟩ := lseq_of r dx hx
  obtain ⟨p2, us, rfl, d2, s2⟩ := lseq_of r dy hy
  exact ⟨p1, p2, vs, us, rfl, rfl, s1, s2, by rw [d1.length, d2.length]; exact hz, fun p hp => k _ _ _ _ _ _ (stp_new hp) (r.newLst hp (d1.append d2)) (.o p) (q p (r.fresh hp))⟩
theorem DVs.nil_iff {K : PySem.W.Frag} {G : Hp} {vs : List V} {ds : List D} (h : DVs K G vs ds) : vs = [] ↔ ds = [] := by
  cases h with
  | nil => simp
  | cons _ _ => simp
theorem simr_catT {K : PySem.W.Frag} : SimR K ca (rCatA K) fCatT := by
  intro H G own Ω x y v w Qa Qc r dx dy h k
  obtain ⟨xs, ys, rfl, rfl, hz, q⟩ := h
  cases dx with
  | tup a1 b1 =>
    cases dy with
    | tup a2 b2 =>
      refine ⟨_, _, _, _, rfl, rfl, same_seqT r.sub a1, same_seqT r.sub a2, by rw [b1.length, b2.length]; exact hz, fun e => ?_, fun _ e => ?_, fun _ _ p hp => ?_⟩
      · have e' := b1.nil_iff.mp e
        subst e'
        exact k _ _ _ _ _ _ Stp.refl r (.tup a2 b2) q
      · have e' := b2.nil_iff.mp e
        subst e'
        rw [List.append_nil] at q
        exact k _ _ _ _ _ _ Stp.refl r (.tup a1 b1) q
      · obtain ⟨r4, e4⟩ := r.data (u := .tup _) hp
        exact k _ _ _ _ _ _ (stp_data e4 hp) r4 (.tup (SqT.of upd_same) ((b1.append b2).mono e4)) q
def aCatL := aOp fCatL
def aCatO := aOp fCatO
def aCatT := aOp fCatT
theorem ae_catO (ha : AE X ca W a ta ra) (hb : AE X ca W b tb rb) : AE X ca W (.BinOp a .Add b pos) (tOp (rCatL X.K) ta tb) (aCatO ra rb) := ⟨pe_op op_catL ha.pe hb.pe, sim_op simr_catO ha.sim hb.sim⟩
theorem ae_catT (ha : AE X ca W a ta ra) (hb : AE X ca W b tb rb) : AE X ca W (.BinOp a .Add b pos) (tOp (rCatA X.K) ta tb) (aCatT ra rb) := ⟨pe_op op_catA ha.pe hb.pe, sim_op simr_catT ha.sim hb.sim⟩
def aFrz (i : Nat) (rs : ATS) : ATS := fun Wa Da ρ Ω => ∃ a xs, ρ[i]? = some (some (.o a)) ∧ Ω a = some (.lst xs) ∧ rs Wa Da (ρ.set i (some (.lst xs))) (odel Ω a)
theorem as_frz (i : Nat) (h : AS X ca W st ts rs) : AS X ca W st ts (aFrz i rs) := ⟨h.pe, fun σ H G own ρ Ω Wa Da Dc r s h' k => by
  obtain ⟨a, xs, hi, ho, q⟩ := h'
  obtain ⟨v, hv, dv⟩ := s.get i _ hi
  cases dv
  obtain ⟨G', own', e, en, r', dv'⟩ := r.freeze ho
  have e' : Stp G own H G' own' H := ⟨e, fun b u hb n g => ⟨hb, en b n g⟩⟩
  have s' : SR X.K G' σ (ρ.set i (some (.lst xs))) := by
    have z := (s.mono e).set i dv'
    rwa [show σ.set i (some (V.ref a)) = σ from by
      obtain ⟨h1, h2⟩ := List.getElem?_eq_some_iff.mp hv
      rw [← h2]
      exact List.set_getElem_self h1] at z
  exact h.sim σ H G' own' _ _ Wa Da Dc r' s' q (k.mono e')⟩
def aForRev (re : ATE) (g : AG) (b : ATS) : ATS := fun Wa Da ρ Ω => re Wa ρ Ω fun d Ω1 => ∃ xs, d = .lst xs ∧ forL g b xs.reverse Wa Da ρ Ω1
def aChain (f f' : D → D → Om → AQ → Prop) (ra rb rc : ATE) : ATE := fun Wa ρ Ω Q => ra Wa ρ Ω fun x Ω1 => rb Wa ρ Ω1 fun y Ω2 => f x y Ω2 fun z Ω3 => ∃ k, z = .bl k ∧ (if k = true then rc Wa ρ Ω3 fun w Ω4 => f' y w Ω4 Q else Q (.bl false) Ω3)
theorem sim_chain {K : PySem.W.Frag} {r r' : R2} {f f' : D → D → Om → AQ → Prop} (hf : SimR K ca r f) (hf' : SimR K ca r' f') (sa : SimE K ca W ta ra) (sb : SimE K ca W tb rb) (sc : SimE K ca W tc rc) : SimE K ca W (tChain r r' ta tb tc) (aChain f f' ra rb rc) := fun σ H G own ρ Ω Wa Qa Qc r s h' k kx =>
  sa σ H G own ρ Ω Wa _ _ r s h' (fun v H1 G1 own1 d Ω1 e1 r1 dv1 q1 => sb σ H1 G1 own1 ρ Ω1 Wa _ _ r1 (s.mono e1.same) q1 (fun w H2 G2 own2 d2 Ω2 e2 r2 dv2 q2 =>
    hf H2 G2 own2 Ω2 d d2 v w _ _ r2 (dv1.mono e2.same) dv2 q2 fun z H3 G3 own3 d3 Ω3 e3 r3 dv3 q3 => by
      obtain ⟨b, rfl, q⟩ := q3
      cases dv3
      refine ⟨b, rfl, ?_⟩
      cases b with
      | true => exact sc σ H3 G3 own3 ρ Ω3 Wa _ _ r3 (s.mono ((e1.trans e2).trans e3).same) q (fun u H4 G4 own4 d4 Ω4 e4 r4 dv4 q4 => hf' H4 G4 own4 Ω4 d2 d4 w u Qa Qc r4 (dv2.mono (e3.trans e4).same) dv4 q4 fun v5 H5 G5 own5 d5 Ω5 e5 => k v5 H5 G5 own5 d5 Ω5 ((((e1.trans e2).trans e3).trans e4).trans e5)) (((kx.mono e1).mono e2).mono e3)
      | false => exact k _ _ _ _ _ _ ((e1.trans e2).trans e3) r3 (.bl _) q) (kx.mono e1)) kx
def fLt := fB fun i j => decide (i < j)
def fLe := fB fun i j => decide (i ≤ j)
theorem ae_leLe (ha : AE X ca W a ta ra) (hb : AE X ca W b tb rb) (hc : AE X ca W c tc rc) (hm : lastMarks [.LtE, .LtE] [b, c] = false := by with_unfolding_all rfl) : AE X ca W (.Compare a [.LtE, .LtE] [b, c] pos) (tChain (rI0 fun i j => .bl (decide (i ≤ j))) (rI0 fun i j => .bl (decide (i ≤ j))) ta tb tc) (aChain fLe fLe ra rb rc) := ⟨pe_chain op_le op_le ha.pe hb.pe hc.pe hm, sim_chain simr_B simr_B ha.sim hb.sim hc.sim⟩
variable {elt iter tg : Expr} {scope : Scope} {ownn : List (Str × Nat)} {ti : TE} {ri : ATE} {g : TG} {ag : AG} {tt : TT} {rt : ATT}
theorem as_setLc {i : Nat} {y : Str} {py spos : Pos} (hc : X.calm = true) (hN : X.N.Nodup) (hy : X.N[i]? = some y) (hyl : X.env.scope.names.lookup y = some .local)
    (hsw : swapsWith (.ListComp elt [⟨tg, iter, [], 0⟩] scope pos) (some (.Name y py)) spos.line X.env = pure true) (hi : AE X ca W iter ti ri) (ok : BlkOk X.N X.env.scope scope ownn) (hw : Wip g (ownn.map (·.2)))
    (hg : ∀ s H C cl fp, AGt (Blk X scope s H C cl fp) ca tg g ag) (he : ∀ s H C cl fp, AE (Blk X scope s H C cl fp) ca W0 elt te re) (hs : ∀ x, foldedSetIterable iter X.env x = pure x := by intro _; rfl) :
    AS X ca W (.Assign [.Name y py] (.ListComp elt [⟨tg, iter, [], 0⟩] scope pos) spos) (tAsg (tLc (iList X.K ti) g tYes te (ownn.map (·.2))) (gName i)) (aSet i (aLc ri ag aYes re (ownn.map (·.2)))) :=
  ⟨ps_setLc hc hN hy hyl hsw (pi_list hi.pe) ok (fun s H C cl fp => (hg s H C cl fp).pe) (fun s H C cl fp => pts_nil) (fun s H C cl fp => (he s H C cl fp).pe) hs,
    sim_asg (sim_lc hi.sim (hg X.s_0 (fun _ => none) 0 [] []).sim hw sim_yes (he X.s_0 (fun _ => none) 0 [] []).sim) simg_name⟩
theorem as_setLcR {i : Nat} {y : Str} {py spos p p2 : Pos} (hc : X.calm = true) (hN : X.N.Nodup) (hy : X.N[i]? = some y) (hyl : X.env.scope.names.lookup y = some .local)
    (hsw : swapsWith (.ListComp elt [⟨tg, .Call (.Name "range" p) [a] [] p2, [], 0⟩] scope pos) (some (.Name y py)) spos.line X.env = pure true) (hgl : Gl X "range") (hm : X.mg "range" = none) (hi : AE X ca W a ti ri) (ok : BlkOk X.N X.env.scope scope ownn) (hw : Wip g (ownn.map (·.2)))
    (hg : ∀ s H C cl fp, AGt (Blk X scope s H C cl fp) ca tg g ag) (he : ∀ s H C cl fp, AE (Blk X scope s H C cl fp) ca W0 elt te re)
    (hs1 : starEach [a] X.env = (false, eval a X.env) :: starEach [] X.env := by rfl) (hs2 : starEach [a] X.env = [(false, eval a X.env)] := by rfl) (hs : ∀ x, foldedSetIterable (.Call (.Name "range" p) [a] [] p2) X.env x = pure x := by intro _; rfl) :
    AS X ca W (.Assign [.Name y py] (.ListComp elt [⟨tg, .Call (.Name "range" p) [a] [] p2, [], 0⟩] scope pos) spos) (tAsg (tLc (iRng1 (tCons ti tNil)) g tYes te (ownn.map (·.2))) (gName i)) (aSet i (aLcR ri ag aYes re (ownn.map (·.2)))) :=
  ⟨ps_setLc hc hN hy hyl hsw (pi_range1 hgl hm (pa_cons hi.pe pa_nil hs1) hs2) ok (fun s H C cl fp => (hg s H C cl fp).pe) (fun s H C cl fp => pts_nil) (fun s H C cl fp => (he s H C cl fp).pe) hs,
    sim_asg (sim_lcR hi.sim (hg X.s_0 (fun _ => none) 0 [] []).sim hw sim_yes (he X.s_0 (fun _ => none) 0 [] []).sim) simg_name⟩
theorem boot_min' : bootBuiltins "min" = some (.builtin "min") := by decide +kernel
theorem boot_max' : bootBuiltins "max" = some (.builtin "max") := by decide +kernel
theorem boot_sum' : bootBuiltins "sum" = some (.builtin "sum") := by decide +kernel
def fMin : List D → Om → AQ → Prop := fun xs Ω Q => ∃ ns : List Int, xs = [.lst (ns.map D.int)] ∧ 0 < ns.length ∧ ∀ m, m ∈ ns → (∀ y, y ∈ ns → m ≤ y) → Q (.int m) Ω
def fMax : List D → Om → AQ → Prop := fun xs Ω Q => ∃ ns : List Int, xs = [.lst (ns.map D.int)] ∧ 0 < ns.length ∧ ∀ m, m ∈ ns → (∀ y, y ∈ ns → y ≤ m) → Q (.int m) Ω
def fSum : List D → Om → AQ → Prop := fun xs Ω Q => ∃ ns : List Int, xs = [.lst (ns.map D.int)] ∧ Q (.int ns.sum) Ω
theorem ae_min {p : Pos} (hg : Gl X "min") (hm : X.mg "min" = none) (hc : X.calm = true) (ha : AE X ca W e te re) (hs : starEach [e] X.env = (false, eval e X.env) :: starEach [] X.env := by rfl) : AE X ca W (.Call (.Name "min" p) [e] [] pos) (tCB (rMin X.K) (tCons te tNil)) (aCall fMin (aCons re aNil)) :=
  ae_callB (cr_min hc) (by
    intro H G own Ω xs vs Qa Qc r d h k
    obtain ⟨ns, rfl, hn, q⟩ := h
    obtain ⟨v, rfl, dv⟩ := dv1 d
    cases dv with
    | lst a b =>
      rw [b.ints] at a
      exact ⟨_, ns, rfl, r.sub.seq a, hn, fun m h1 h2 => k _ _ _ _ _ _ Stp.refl r (.int m) (q m h1 h2)⟩) hg hm boot_min' (aa_cons ha aa_nil hs) (by decide) (by decide) hs
theorem ae_max {p : Pos} (hg : Gl X "max") (hm : X.mg "max" = none) (hc : X.calm = true) (ha : AE X ca W e te re) (hs : starEach [e] X.env = (false, eval e X.env) :: starEach [] X.env := by rfl) : AE X ca W (.Call (.Name "max" p) [e] [] pos) (tCB (rMax X.K) (tCons te tNil)) (aCall fMax (aCons re aNil)) :=
  ae_callB (cr_max hc) (by
    intro H G own Ω xs vs Qa Qc r d h k
    obtain ⟨ns, rfl, hn, q⟩ := h
    obtain ⟨v, rfl, dv⟩ := dv1 d
    cases dv with
    | lst a b =>
      rw [b.ints] at a
      exact ⟨_, ns, rfl, r.sub.seq a, hn, fun m h1 h2 => k _ _ _ _ _ _ Stp.refl r (.int m) (q m h1 h2)⟩) hg hm boot_max' (aa_cons ha aa_nil hs) (by decide) (by decide) hs
theorem ae_sum {p : Pos} (hg : Gl X "sum") (hm : X.mg "sum" = none) (hc : X.calm = true) (ha : AE X ca W e te re) (hs : starEach [e] X.env = (false, eval e X.env) :: starEach [] X.env := by rfl) : AE X ca W (.Call (.Name "sum" p) [e] [] pos) (tCB (rSum X.K) (tCons te tNil)) (aCall fSum (aCons re aNil)) :=
  ae_callB (cr_sum hc) (by
    intro H G own Ω xs vs Qa Qc r d h k
    obtain ⟨ns, rfl, q⟩ := h
    obtain ⟨v, rfl, dv⟩ := dv1 d
    cases dv with
    | lst a b =>
      rw [b.ints] at a
      exact ⟨_, ns, rfl, r.sub.seq a, k _ _ _ _ _ _ Stp.refl r (.int _) q⟩) hg hm boot_sum' (aa_cons ha aa_nil hs) (by decide) (by decide) hs
end
end PL
namespace PL
open PySem L2
theorem small1000' {n : Nat} (h : n ≤ 100000) : n < sizeLine := Nat.lt_of_le_of_lt h (show 100000 < sizeLine by rw [sizeLine_eq]; decide)
end PL
namespace PL
open PySem L2
mutual
def D.fits : Nat → D → Bool
  | _, .non => true
  | _, .bl _ => true
  | _, .int _ => true
  | _, .str x => (PyData.str x).canLay0
  | 0, .tup _ => false
  | n + 1, .tup xs => D.fitsAll n xs
  | 0, .lst _ => false
  | n + 1, .lst xs => D.fitsAll n xs
  | _, .o _ => false
def D.fitsAll : Nat → List D → Bool
  | _, [] => true
  | n, x :: xs => D.fits n x && D.fitsAll n xs
end
mutual
theorem D.fits_py : ∀ (n : Nat) (d : D), D.fits n d = true → ∃ p, D.py d = some p ∧ PyData.eqv p p = true ∧ p.canLay0 = true ∧ p.depth ≤ n
  | _, .non, _ => ⟨_, rfl, by simp [PyData.eqv], rfl, by simp [PyData.depth]⟩
  | _, .bl _, _ => ⟨_, rfl, by simp [PyData.eqv], rfl, by simp [PyData.depth]⟩
  | _, .int _, _ => ⟨_, rfl, by simp [PyData.eqv], rfl, by simp [PyData.depth]⟩
  | _, .str _, h => ⟨_, rfl, by simp [PyData.eqv], by simpa only [D.fits] using h, by simp [PyData.depth]⟩
  | 0, .tup _, h => nomatch h
  | n + 1, .tup xs, h => by
    obtain ⟨ps, e1, e2, e3, e4⟩ := D.fitsAll_py n xs (by simpa only [D.fits] using h)
    exact ⟨.tuple ps, by simp only [D.py, e1, Option.map_some], by simp only [PyData.eqv, e2], by simp only [PyData.canLay0, e3], by simp only [PyData.depth]; omega⟩
  | 0, .lst _, h => nomatch h
  | n + 1, .lst xs, h => by
    obtain ⟨ps, e1, e2, e3, e4⟩ := D.fitsAll_py n xs (by simpa only [D.fits] using h)
    exact ⟨.list ps, by simp only [D.py, e1, Option.map_some], by simp only [PyData.eqv, e2], by simp only [PyData.canLay0, e3], by simp only [PyData.depth]; omega⟩
  | _, .o _, h => nomatch h
theorem D.fitsAll_py : ∀ (n : Nat) (ds : List D), D.fitsAll n ds = true → ∃ ps, D.pys ds = some ps ∧ PyData.eqvAll ps ps = true ∧ PyData.canLayAll0 ps = true ∧ PyData.depthAll ps ≤ n
  | _, [], _ => ⟨[], rfl, by simp [PyData.eqvAll], rfl, by simp [PyData.depthAll]⟩
  | n, x :: xs, h => by
    simp only [D.fitsAll, Bool.and_eq_true] at h
    obtain ⟨p, e1, e2, e3, e4⟩ := D.fits_py n x h.1
    obtain ⟨ps, f1, f2, f3, f4⟩ := D.fitsAll_py n xs h.2
    exact ⟨p :: ps, by simp only [D.pys, e1, f1], by simp only [PyData.eqvAll, e2, f2, Bool.and_self], by simp only [PyData.canLayAll0, e3, f3, Bool.and_self], by simp only [PyData.depthAll]; omega⟩
end
theorem fEq_refl {neg : Bool} {d : D} {Ω : Om} {Q : AQ} (h : D.fits 60 d = true) (k : Q (.bl (!neg)) Ω) : fEq neg d d Ω Q := by
  obtain ⟨p, e1, e2, e3, e4⟩ := D.fits_py _ _ h
  have s : SeqAt.shaped p = true := by
    unfold SeqAt.shaped
    rw [e3, Bool.true_and]
    exact decide_eq_true (by omega)
  refine ⟨p, p, e1, e1, s, s, ?_⟩
  cases neg
  · simp only [Bool.false_eq_true, if_false, e2]; exact k
  · simp only [if_true, e2]; exact k
theorem fits_map {α : Type} {f : α → D} {n : Nat} (h : ∀ x, D.fits n (f x) = true) : ∀ xs : List α, D.fitsAll n (xs.map f) = true
  | [] => rfl
  | x :: xs => by rw [List.map_cons, D.fitsAll, h x, fits_map h xs]; rfl
/-- a loop over a list, by induction over what is left -/
theorem forL_ind {g : AG} {b : ATS} {Wa : AW} {Da : AEnds} {xs : List D} {ρ : En} {Ω : Om} (P : List D → En → Om → Prop) (h : P xs ρ Ω) (hn : ∀ ρ Ω, P [] ρ Ω → Da.nx ρ Ω)
    (hc : ∀ x us ρ Ω (De : AEnds), De.rt = Da.rt → (∀ ρ' Ω', P us ρ' Ω' → De.nx ρ' Ω') → (∀ ρ' Ω', P us ρ' Ω' → De.ct ρ' Ω') → De.bk = Da.nx → P (x :: us) ρ Ω → g x ρ Ω fun ρ1 Ω1 => b Wa De ρ1 Ω1) : forL g b xs Wa Da ρ Ω := by
  induction xs generalizing ρ Ω with
  | nil => exact hn _ _ h
  | cons x us ih => exact hc x us ρ Ω _ rfl (fun ρ' Ω' p => ih p) (fun ρ' Ω' p => ih p) rfl h
theorem AE.cast {X : Cx} {ca : CA} {W : WX} {e : Expr} {te te' : TE} {re : ATE} (h : AE X ca W e te' re) (h1 : te' = te) : AE X ca W e te re := h1 ▸ h
end PL
namespace PL
theorem fmod_neg' {t b : Int} (h : b < 0) : b < t.fmod b ∧ t.fmod b ≤ 0 := by
  have e := Int.mul_fdiv_add_fmod t b
  have e' := Int.mul_fdiv_add_fmod (-t) (-b)
  have e1 : (-t).fdiv (-b) = t.fdiv b := by simp
  rw [e1, Int.neg_mul] at e'
  have h2 : (-t).fmod (-b) < -b := Int.fmod_lt_of_pos _ (by omega)
  have h3 : 0 ≤ (-t).fmod (-b) := Int.fmod_nonneg_of_pos _ (by omega)
  omega
theorem fdiv_le {t b : Int} : (t.fdiv b).natAbs ≤ t.natAbs := by
  by_cases hb : b = 0
  · subst hb; simp
  · rcases Int.lt_or_gt_of_ne hb with h | h
    · have h1 := Int.mul_fdiv_add_fmod t b
      have h2 : b < t.fmod b := (fmod_neg' h).1
      have h3 : t.fmod b ≤ 0 := (fmod_neg' h).2
      generalize t.fdiv b = q at h1 ⊢
      generalize t.fmod b = r at h1 h2 h3
      rcases Int.le_total 0 q with hq | hq
      · have : b * q ≤ (-1) * q := Int.mul_le_mul_of_nonneg_right (by omega) hq
        omega
      · have : (-q) ≤ (-b) * (-q) := by
          have := Int.mul_le_mul_of_nonneg_right (show (1 : Int) ≤ -b by omega) (show 0 ≤ -q by omega)
          omega
        rw [Int.neg_mul_neg] at this
        by_cases hq0 : q = 0
        · omega
        · have h4 : b * q + b < t := by omega
          have h5 : b * (q + 1) < t := by rw [Int.mul_add, Int.mul_one]; exact h4
          have h6 : (-b) * (-(q + 1)) ≥ -(q + 1) := by
            have := Int.mul_le_mul_of_nonneg_right (show (1 : Int) ≤ -b by omega) (show 0 ≤ -(q + 1) by omega)
            omega
          rw [Int.neg_mul_neg] at h6
          omega
    · have h1 := Int.mul_fdiv_add_fmod t b
      have h2 : t.fmod b < b := Int.fmod_lt_of_pos _ h
      have h3 : 0 ≤ t.fmod b := Int.fmod_nonneg_of_pos _ h
      generalize t.fdiv b = q at h1 ⊢
      generalize t.fmod b = r at h1 h2 h3
      rcases Int.le_total 0 q with hq | hq
      · have : 1 * q ≤ b * q := Int.mul_le_mul_of_nonneg_right (by omega) hq
        omega
      · by_cases hq0 : q = 0
        · omega
        · have h5 : t < b * (q + 1) := by rw [Int.mul_add, Int.mul_one]; omega
          have h6 : b * (-(q + 1)) ≥ -(q + 1) := by
            have := Int.mul_le_mul_of_nonneg_right (show (1 : Int) ≤ b by omega) (show 0 ≤ -(q + 1) by omega)
            omega
          rw [Int.mul_neg] at h6
          omega
theorem fmod_lt {t b : Int} (hb : b ≠ 0) : (t.fmod b).natAbs < b.natAbs := by
  rcases Int.lt_or_gt_of_ne hb with h | h
  · have h2 : b < t.fmod b := (fmod_neg' h).1
    have h3 : t.fmod b ≤ 0 := (fmod_neg' h).2
    omega
  · have h2 : t.fmod b < b := Int.fmod_lt_of_pos _ h
    have h3 : 0 ≤ t.fmod b := Int.fmod_nonneg_of_pos _ h
    omega
theorem sub_fdiv {t b : Int} : t - t.fdiv b * b = t.fmod b := by
  have h1 := Int.mul_fdiv_add_fmod t b
  rw [Int.mul_comm] at h1
  omega
/-- Euclid -/
theorem gcd_step {x y : Int} : Int.gcd y (x.fmod y) = Int.gcd x y := by
  have h1 := Int.mul_fdiv_add_fmod x y
  have : Int.gcd y (x.fmod y + y * x.fdiv y) = Int.gcd y (x.fmod y) := Int.gcd_add_mul_left_right ..
  rw [← this, Int.add_comm, h1, Int.gcd_comm]
/-- parts as a chain has them, behind the first -/
def Tail (ps : List Int) : Prop := (∀ p ∈ ps, 1 ≤ p) ∧ (ps ≠ [] → ∀ p, ps.getLast? = some p → 2 ≤ p)
theorem tail_set {ms : List Int} (h : ∀ m ∈ ms, 1 ≤ m) : Tail (ms.set (ms.length - 1) 2) := by
  refine ⟨fun m hm => ?_, fun hne p hp => ?_⟩
  · rcases List.mem_or_eq_of_mem_set hm with h' | h'
    · exact h m h'
    · omega
  · rw [List.getLast?_eq_getElem?, List.length_set] at hp
    have hpos : 0 < ms.length := by
      cases ms with
      | nil => exact absurd rfl hne
      | cons _ _ => simp
    rw [List.getElem?_set_self (by omega)] at hp
    cases hp
    decide
end PL
namespace PL
open PySem L2 PySem.Spec PyProof.Rows
section
variable {K : PySem.W.Frag} {G : Hp}
theorem lookup_at {f : Str} {v : V} : ∀ {fs : List (Str × V)} {i : Nat}, (fs.map (·.1)).Nodup → fs[i]? = some (f, v) → fs.lookup f = some v
  | [], _, _, h => by simp at h
  | (g, x) :: r, 0, _, h => by
    simp at h
    obtain ⟨rfl, rfl⟩ := h
    simp [List.lookup]
  | (g, x) :: r, i + 1, nd, h => by
    rw [List.map_cons, List.nodup_cons] at nd
    have h' : r[i]? = some (f, v) := by simpa using h
    have hm : f ∈ r.map (·.1) := List.mem_map.mpr ⟨(f, v), List.mem_of_getElem? h', rfl⟩
    have ne : (f == g) = false := by
      cases q : f == g with
      | false => rfl
      | true => exact absurd (by rw [← eq_of_beq q]; exact hm) nd.1
    rw [List.lookup_cons, ne]
    exact lookup_at nd.2 h'
theorem lookup_out {f : Str} : ∀ {fs : List (Str × V)}, f ∉ fs.map (·.1) → fs.lookup f = none
  | [], _ => rfl
  | (g, x) :: r, h => by
    rw [List.map_cons, List.mem_cons, not_or] at h
    have ne : (f == g) = false := by
      cases q : f == g with
      | false => rfl
      | true => exact absurd (eq_of_beq q) h.1
    rw [List.lookup_cons, ne]
    exact lookup_out h.2
theorem putF_at {f : Str} {v y : V} : ∀ {fs : List (Str × V)} {i : Nat}, (fs.map (·.1)).Nodup → fs[i]? = some (f, v) → putF f y fs = fs.set i (f, y)
  | [], _, _, h => by simp at h
  | (g, x) :: r, 0, _, h => by
    simp at h
    obtain ⟨rfl, rfl⟩ := h
    simp [putF]
  | (g, x) :: r, i + 1, nd, h => by
    rw [List.map_cons, List.nodup_cons] at nd
    have h' : r[i]? = some (f, v) := by simpa using h
    have hm : f ∈ r.map (·.1) := List.mem_map.mpr ⟨(f, v), List.mem_of_getElem? h', rfl⟩
    have ne : g ≠ f := fun q => nd.1 (by rw [q]; exact hm)
    rw [putF, if_neg ne, List.set_cons_succ, putF_at nd.2 h']
theorem putF_out {f : Str} {y : V} : ∀ {fs : List (Str × V)}, f ∉ fs.map (·.1) → putF f y fs = fs ++ [(f, y)]
  | [], _ => rfl
  | (g, x) :: r, h => by
    rw [List.map_cons, List.mem_cons, not_or] at h
    rw [putF, if_neg (Ne.symm h.1), putF_out h.2]
    rfl
theorem FVs.names {l : List (Str × V)} {m : List (Str × D)} (h : FVs K G l m) : l.map (·.1) = m.map (·.1) := by
  induction h with
  | nil => rfl
  | cons h1 _ ih => rw [List.map_cons, List.map_cons, h1.1, ih]
theorem FVs.length {l : List (Str × V)} {m : List (Str × D)} (h : FVs K G l m) : l.length = m.length := by
  have := congrArg List.length h.names
  rwa [List.length_map, List.length_map] at this
theorem FVs.get {l : List (Str × V)} {m : List (Str × D)} (h : FVs K G l m) : ∀ {i : Nat} {f : Str} {d : D}, m[i]? = some (f, d) → ∃ v, l[i]? = some (f, v) ∧ DV K G v d := by
  induction h with
  | nil => intro i f d e; simp at e
  | @cons p q _ _ h1 _ ih =>
    intro i f d e
    cases i with
    | zero =>
      simp at e
      obtain ⟨p1, p2⟩ := p
      subst e
      exact ⟨p2, by simp [show p1 = f from h1.1], h1.2⟩
    | succ i =>
      obtain ⟨v, e1, e2⟩ := ih (i := i) (by simpa using e)
      exact ⟨v, by simpa using e1, e2⟩
theorem FVs.set {l : List (Str × V)} {m : List (Str × D)} {f : Str} {v : V} {d : D} (dv : DV K G v d) (h : FVs K G l m) : ∀ i, FVs K G (l.set i (f, v)) (m.set i (f, d)) := by
  induction h with
  | nil => intro i; exact .nil
  | cons h1 h2 ih =>
    intro i
    cases i with
    | zero => exact .cons ⟨rfl, dv⟩ h2
    | succ i => exact .cons h1 (ih i)
theorem FVs.snoc {l : List (Str × V)} {m : List (Str × D)} {f : Str} {v : V} {d : D} (dv : DV K G v d) (h : FVs K G l m) : FVs K G (l ++ [(f, v)]) (m ++ [(f, d)]) := by
  induction h with
  | nil => exact .cons ⟨rfl, dv⟩ .nil
  | cons h1 _ ih => exact .cons h1 ih
end
section
variable {K : PySem.W.Frag} {ca : CA} {G G' H H' : Hp} {own own' : Addr → Option Addr} {Ω : Om} {a p : Addr}
theorem Rel.objAt {c : Addr} {fs : List (Str × D)} (r : Rel K ca G own H Ω) (e : Ω a = some (.obj c fs)) : Cls K c ∧ (fs.map (·.1)).Nodup ∧ (∀ x ∈ fs, NoAttr K c x.1) ∧ ∃ dx fs', H a = some (.ins c dx fs') ∧ FVs K G fs' fs := (r.objs a _ e).2
theorem Rel.setObj {c dx : Addr} {fs fs2 : List (Str × D)} {fs' : List (Str × V)} (r : Rel K ca G own H Ω) (e : Ω a = some (.obj c fs)) (cl : Cls K c) (nd : (fs2.map (·.1)).Nodup) (na : ∀ x ∈ fs2, NoAttr K c x.1) (d : FVs K G fs' fs2) :
    Rel K ca G own (upd H a (.ins c dx fs')) (oset Ω a (.obj c fs2)) := by
  obtain ⟨w, u, hu, nu⟩ := (r.objs a _ e).there
  refine r.turn (fun b v hb ho => ?_) (fun b v hb hi => ?_) ⟨w, cl, nd, na, dx, fs', upd_same, d⟩
  · rw [upd_ne (fun z => ho (by rw [z]; exact w))]; exact hb
  · rw [upd_ne (fun z => by rw [z, hu] at hb; cases hb; exact nu hi)]; exact hb
theorem Rel.own_ne {o : AO} (r : Rel K ca G own H Ω) (e : Ω a = some o) : own a = some a := (r.objs a _ e).there.1
theorem stp_obj {u : HO} (w : own a = some a) : Stp G own H G own (upd H a u) := ⟨Same.refl G, fun b v hb n g => ⟨by rw [upd_ne (fun z => by rw [z, w] at n; cases n)]; exact hb, n, g⟩⟩
theorem Rel.newObj {c dx : Addr} (r : Rel K ca G own H Ω) (cl : Cls K c) (hp : H p = none) (hd : H dx = none) (ne : dx ≠ p) :
    Rel K ca G (uown (uown own dx none) p (some p)) (upd (upd H dx (.own p)) p (.ins c dx [])) (oset Ω p (.obj c [])) ∧ Stp G own H G (uown (uown own dx none) p (some p)) (upd (upd H dx (.own p)) p (.ins c dx [])) := by
  have hk : ∀ b v, H b = some v → upd (upd H dx (.own p)) p (.ins c dx []) b = some v := fun b v e => by
    rw [upd_ne (ne_of_none e hp), upd_ne (ne_of_none e hd)]; exact e
  have ho : ∀ b v, H b = some v → uown (uown own dx none) p (some p) b = own b := fun b v e => by
    unfold uown
    rw [if_neg (ne_of_none e hp), if_neg (ne_of_none e hd)]
  refine ⟨⟨fun b v e => hk b v (r.sub _ _ e), fun b v e => ?_, fun b v e => ?_⟩, Same.refl G, fun b v hb n g => ⟨hk b v hb, by rw [ho b v hb]; exact n, g⟩⟩
  · rw [ho b v (r.sub _ _ e)]; exact r.imm _ _ e
  · by_cases hb : b = p
    · subst hb
      rw [oset_same] at e
      cases e
      exact ⟨if_pos rfl, cl, List.nodup_nil, fun x hx => by simp at hx, dx, [], upd_same, .nil⟩
    · rw [oset_ne hb] at e
      exact (r.objs b v e).keep (Same.refl G) (fun c w hc o => ⟨hk c w hc, by rw [ho c w hc]; exact o⟩) fun c w hc _ => hk c w hc
end
section
variable {X : Cx} {ca : CA} {W : WX} {a b e o : Expr} {es : List Expr} {ta tb te to : TE} {ra rb re ro : ATE} {tr : TA} {rr : ATA} {pos apos p : Pos}
def aFld (i : Nat) (f : Str) (re : ATE) : ATE := fun Wa ρ Ω Q => re Wa ρ Ω fun x Ω1 => ∃ a c fs d, x = .o a ∧ Ω1 a = some (.obj c fs) ∧ fs[i]? = some (f, d) ∧ Q d Ω1
theorem ae_fld (i : Nat) {f : Str} (ha : AE X ca W e te re) (hb : attributeBase e f X.env (eval e X.env) = eval e X.env := by rfl) : AE X ca W (.Attribute e f pos) (tFld X.K te f) (aFld i f re) :=
  ⟨pe_fld ha.pe hb, fun σ H G own ρ Ω Wa Qa Qc r s h k kx => ha.sim σ H G own ρ Ω Wa _ _ r s h (fun v H1 G1 own1 d Ω1 e1 r1 dv1 q1 => by
    obtain ⟨a, c, fs, d', rfl, ho, hi, q⟩ := q1
    cases dv1
    obtain ⟨cl, nd, na, dx, fs', hp, fv⟩ := r1.objAt ho
    obtain ⟨v, hv, dv⟩ := fv.get hi
    exact ⟨a, c, dx, fs', v, rfl, hp, cl, na (f, d') (List.mem_of_getElem? hi), lookup_at (by rw [fv.names]; exact nd) hv, k _ _ _ _ _ _ e1 r1 dv q⟩) kx⟩
/-- o.f as a target -/
def gFld (K : PySem.W.Frag) (to : TE) (f : Str) : TG := fun v σ H Q => to σ H fun x H1 => ∃ a C dx fs, x = .ref a ∧ H1 a = some (.ins C dx fs) ∧ Cls K C ∧ NoAttr K C f ∧ fs.length < 1000 ∧ Q σ (upd H1 a (.ins C dx (putF f v fs)))
theorem pg_fld {f : Str} (ho : PE X o to) : PG X (.Attribute o f pos) (gFld X.K to f) := by
  refine ⟨fun pins s σ H v u Q I r h => ?_⟩
  rw [assign_Attribute]
  refine wpAny_bind (wpAny_holding (thn (ho.run pins s σ H _ I h) fun ov s1 ⟨x, H1, I1, r1, a, C, dx, fs, ex, ea, c, n, l, q⟩ => ?_))
  subst ex
  obtain rfl : ov = Value.ref a := r1
  refine wpAny_bind (wpAny_standAt (wpAny_bind (wpAny_holding (setattr_ok I1 ea c n l r fun s3 I3 => ?_))))
  exact wpAny_release ⟨σ, _, I3, q⟩
abbrev Wf : AW := fun _ _ _ => False
/-- o.f = v where f is the i-th attribute -/
def agFld (i : Nat) (f : Str) (ro : ATE) : AG := fun d ρ Ω Q => ro Wf ρ Ω fun x Ω1 => ∃ a c fs d0, x = .o a ∧ Ω1 a = some (.obj c fs) ∧ fs[i]? = some (f, d0) ∧ fs.length < 1000 ∧ Q ρ (oset Ω1 a (.obj c (fs.set i (f, d))))
/-- .. a new one -/
def agNew (K : PySem.W.Frag) (f : Str) (ro : ATE) : AG := fun d ρ Ω Q => ro Wf ρ Ω fun x Ω1 => ∃ a c fs, x = .o a ∧ Ω1 a = some (.obj c fs) ∧ f ∉ fs.map (·.1) ∧ NoAttr K c f ∧ fs.length < 1000 ∧ Q ρ (oset Ω1 a (.obj c (fs ++ [(f, d)])))
abbrev W0' : WX := fun _ _ _ _ => False
theorem simg_fld {K : PySem.W.Frag} {i : Nat} {f : Str} (so : SimE K ca W0' to ro) : SimG K ca (gFld K to f) (agFld i f ro) := fun σ H G own ρ Ω v d Qa Qc r s dv h k =>
  so σ H G own ρ Ω Wf _ _ r s h (fun v1 H1 G1 own1 d1 Ω1 e1 r1 dv1 q1 => by
    obtain ⟨a, c, fs, d', rfl, ho, hi, hl, q⟩ := q1
    cases dv1
    obtain ⟨cl, nd, na, dx, fs', hp, fv⟩ := r1.objAt ho
    obtain ⟨v', hv, dv'⟩ := fv.get hi
    refine ⟨a, c, dx, fs', rfl, hp, cl, na (f, d') (List.mem_of_getElem? hi), by rw [fv.length]; exact hl, ?_⟩
    rw [putF_at (by rw [fv.names]; exact nd) hv]
    have hn : (fs.set i (f, d)).map (·.1) = fs.map (·.1) := by
      rw [List.map_set]
      have hi' : (fs.map (·.1))[i]? = some f := by rw [List.getElem?_map, hi]; rfl
      obtain ⟨h1, h2⟩ := List.getElem?_eq_some_iff.mp hi'
      conv => lhs; rw [← h2]
      exact List.set_getElem_self h1
    refine k _ _ _ _ _ _ (e1.trans (stp_obj (r1.own_ne ho))) (r1.setObj ho cl (by rw [hn]; exact nd) (fun x hx => ?_) (fv.set (dv.mono e1.same) i)) (s.mono e1.same) q
    have : x.1 ∈ fs.map (·.1) := by rw [← hn]; exact List.mem_map_of_mem hx
    obtain ⟨y, hy, ey⟩ := List.mem_map.mp this
    rw [← ey]
    exact na y hy) (fun _ _ _ _ _ _ _ z => z.elim)
theorem simg_new {K : PySem.W.Frag} {f : Str} (so : SimE K ca W0' to ro) : SimG K ca (gFld K to f) (agNew K f ro) := fun σ H G own ρ Ω v d Qa Qc r s dv h k =>
  so σ H G own ρ Ω Wf _ _ r s h (fun v1 H1 G1 own1 d1 Ω1 e1 r1 dv1 q1 => by
    obtain ⟨a, c, fs, rfl, ho, hi, nf, hl, q⟩ := q1
    cases dv1
    obtain ⟨cl, nd, na, dx, fs', hp, fv⟩ := r1.objAt ho
    refine ⟨a, c, dx, fs', rfl, hp, cl, nf, by rw [fv.length]; exact hl, ?_⟩
    rw [putF_out (by rw [fv.names]; exact hi)]
    refine k _ _ _ _ _ _ (e1.trans (stp_obj (r1.own_ne ho))) (r1.setObj ho cl ?_ (fun x hx => ?_) (fv.snoc (dv.mono e1.same))) (s.mono e1.same) q
    · rw [List.map_append, List.nodup_append]
      exact ⟨nd, by simp, fun x hx y hy e => hi (by simp at hy; rw [← hy, ← e]; exact hx)⟩
    · rcases List.mem_append.mp hx with hx | hx
      · exact na x hx
      · rw [List.mem_singleton.mp hx]; exact nf) (fun _ _ _ _ _ _ _ z => z.elim)
theorem ag_fld (i : Nat) {f : Str} (ho : AE X ca W0' o to ro) : AGt X ca (.Attribute o f pos) (gFld X.K to f) (agFld i f ro) := ⟨pg_fld ho.pe, simg_fld ho.sim⟩
theorem ag_new {f : Str} (ho : AE X ca W0' o to ro) : AGt X ca (.Attribute o f pos) (gFld X.K to f) (agNew X.K f ro) := ⟨pg_fld ho.pe, simg_new ho.sim⟩
/-- several targets -/
abbrev AGL := List D → En → Om → (En → Om → Prop) → Prop
def glNil : AGL := fun ds ρ Ω Q => ds = [] ∧ Q ρ Ω
def glCons (g : AG) (l : AGL) : AGL := fun ds ρ Ω Q => ∃ d r, ds = d :: r ∧ g d ρ Ω fun ρ1 Ω1 => l r ρ1 Ω1 Q
def SimGs (K : PySem.W.Frag) (ca : CA) (g : TGs) (ag : AGL) : Prop := ∀ (σ : L2.St) (H G : Hp) own ρ Ω v d (Qa : En → Om → Prop) (Qc : L2.St → Hp → Prop), Rel K ca G own H Ω → SR K G σ ρ → DVs K G v d → ag d ρ Ω Qa →
  (∀ σ' H' G' own' ρ' Ω', Stp G own H G' own' H' → Rel K ca G' own' H' Ω' → SR K G' σ' ρ' → Qa ρ' Ω' → Qc σ' H') → g v σ H Qc
structure AGls (X : Cx) (ca : CA) (es : List Expr) (g : TGs) (ag : AGL) : Prop where
  pe : PGs X es g
  sim : SimGs X.K ca g ag
theorem agl_nil : AGls X ca [] gNil glNil := ⟨pgs_nil, fun σ H G own ρ Ω v d Qa Qc r s dv h k => by
  obtain ⟨rfl, q⟩ := h
  cases dv
  exact ⟨rfl, k _ _ _ _ _ _ Stp.refl r s q⟩⟩
theorem agl_cons {g : TG} {ag : AG} {gs : TGs} {l : AGL} (h1 : AGt X ca e g ag) (h2 : AGls X ca es gs l) (hs : (assignEach (e :: es) X.env).map (·.2) = assign e X.env :: (assignEach es X.env).map (·.2) := by rfl) : AGls X ca (e :: es) (gCons g gs) (glCons ag l) :=
  ⟨pgs_cons h1.pe h2.pe hs, fun σ H G own ρ Ω v d Qa Qc r s dv h k => by
    obtain ⟨x, xs, rfl, q⟩ := h
    cases dv with
    | cons d1 d2 => exact ⟨_, _, rfl, h1.sim σ H G own ρ Ω _ _ _ _ r s d1 q fun σ1 H1 G1 own1 ρ1 Ω1 e1 r1 s1 q1 => h2.sim σ1 H1 G1 own1 ρ1 Ω1 _ _ _ _ r1 s1 (d2.mono e1.same) q1 fun σ2 H2 G2 own2 ρ2 Ω2 e2 => k σ2 H2 G2 own2 ρ2 Ω2 (e1.trans e2)⟩⟩
def agTupG (n : Nat) (l : AGL) : AG := fun d ρ Ω Q => ∃ xs, d = .tup xs ∧ xs.length = n ∧ l xs ρ Ω Q
theorem ag_tupG {k : Nat} {gs : TGs} {l : AGL} {n : Nat} (hc : X.calm = true) (h : AGls X ca es gs l) (hn : (assignEach es X.env).length = n := by rfl) (hst : (assignEach es X.env).findIdx? (·.1) = none := by rfl) : AGt X ca (.Tuple es k pos) (gTup X.K n gs) (agTupG n l) :=
  ⟨pg_tup hc h.pe hn hst, fun σ H G own ρ Ω v d Qa Qc r s dv h' k => by
    obtain ⟨xs, rfl, hl, q⟩ := h'
    cases dv with
    | tup hq ds => exact ⟨_, _, rfl, same_seqT r.sub hq, by rw [ds.length]; exact hl, h.sim σ H G own ρ Ω _ _ _ _ r s ds q k⟩⟩
/-- a method of the class at C, by its promise -/
structure Mth (P : Program) (w : World) (K : PySem.W.Frag) (mg : Str → Option Value) (base : Heap) (ca : CA) (k : Nat) (C : Addr) (m : Str) (F : AF) : Prop where
  ex : ∃ f fd ps, Meth K C m f ∧ FnOk P w K mg base (L2.CX P w) (k + 32) f fd ps (spA K ca F) ∧ Binds K fd ps []
theorem Mth.mono {P : Program} {w : World} {K : PySem.W.Frag} {mg : Str → Option Value} {base : Heap} {ca : CA} {j k : Nat} {C : Addr} {m : Str} {F : AF} (c : Mth P w K mg base ca j C m F) (h : j ≤ k) : Mth P w K mg base ca k C m F := by
  obtain ⟨f, fd, ps, M, G, b⟩ := c.ex
  exact ⟨f, fd, ps, M, G.mono (Nat.add_le_add_right h 32), b⟩
abbrev MthX (X : Cx) (ca : CA) (k : Nat) := Mth X.prog X.w X.K X.mg X.base ca k
/-- o.m(..), the class known when o is -/
def tMethD (X : Cx) (ca : CA) (k : Nat) (m : Str) (E : L2.St → XK) (ta : TE) (t : TA) : TE := fun σ H Q => ta σ H fun x H1 => ∃ a C dx fs F, x = .ref a ∧ H1 a = some (.ins C dx fs) ∧ fs.lookup m = none ∧ Cls X.K C ∧ MthX X ca k C m F ∧
  t σ H1 fun vs H2 => spA X.K ca F (x :: vs) H2 Q (E σ)
theorem pe_methD {k j : Nat} {m : Str} {E : L2.St → XK} {pl : Sem Bool} (he : PE X o ta) (hr : Rm j X.A) (hk : k ≤ j) (hx : ∀ σ, PassesAt (L2.CX X.prog X.w) X σ (E σ)) (ha : PA X (e :: es) tr)
    (hst : starEach (e :: es) X.env = (false, eval e X.env) :: starEach es X.env := by rfl) (hpl : (backTo pos (starEach es X.env)).any (·.1) = false := by rfl)
    (ht : eval (.Call (.Attribute o m apos) (e :: es) [] pos) X.env = (do
      let ov ← eval o X.env
      standAt apos.atName
      let (f, first) ← holding [ov] (getMethod ov m pl)
      callWith pos f first (backTo pos (starEach (e :: es) X.env)) (backToKw pos (keywordEach [] X.env))) := by rfl) :
    PE X (.Call (.Attribute o m apos) (e :: es) [] pos) (tMethD X ca k m E ta tr) := by
  refine ⟨fun pins s σ H Q I h => ?_⟩
  refine PySem.W.methodCall_KW (pl := pl) (thn (he.run pins s σ H _ I h) fun u s1 ⟨x, H1, I1, rx, a, C, dx, fs, F, ex, ea, l, c, M, q⟩ => ?_) ht
  subst ex
  obtain rfl : u = Value.ref a := rx
  obtain ⟨f, fd, ps, hm, Fk, hb⟩ := M.ex
  refine getmeth_ok I1 ea c hm l ?_
  refine PySem.W.callWith_K (first := [.ref a]) (h₀ := X.base) I.ok.mod.kin hm.kp (thn (ha.run pos pins s1 σ H1 _ I1 q) fun us s2 ⟨vs, H2, I2, r, q2⟩ => ⟨I2.kIn, ?_⟩) hst hpl
  exact run_fnS (us := .ref a :: us) (vs := .ref a :: vs) Fk (Room.mono hr (Nat.add_le_add_right hk 32)) hb (hx σ) I2 (.cons rfl r) q2
theorem pe_methD0 {k j : Nat} {m : Str} {E : L2.St → XK} {pl : Sem Bool} (he : PE X o ta) (hr : Rm j X.A) (hk : k ≤ j) (hx : ∀ σ, PassesAt (L2.CX X.prog X.w) X σ (E σ))
    (ht : eval (.Call (.Attribute o m apos) [] [] pos) X.env = (do
      let ov ← eval o X.env
      standAt apos.atName
      let (f, first) ← holding [ov] (getMethod ov m pl)
      callWith pos f first (backTo pos (starEach [] X.env)) (backToKw pos (keywordEach [] X.env))) := by rfl) :
    PE X (.Call (.Attribute o m apos) [] [] pos) (tMethD X ca k m E ta tNil) := by
  refine ⟨fun pins s σ H Q I h => ?_⟩
  refine PySem.W.methodCall_KW (pl := pl) (thn (he.run pins s σ H _ I h) fun u s1 ⟨x, H1, I1, rx, a, C, dx, fs, F, ex, ea, l, c, M, q⟩ => ?_) ht
  subst ex
  obtain rfl : u = Value.ref a := rx
  obtain ⟨f, fd, ps, hm, Fk, hb⟩ := M.ex
  refine getmeth_ok I1 ea c hm l ?_
  exact PySem.W.callWith_K0 (first := [.ref a]) I1.kIn hm.kp (run_fnS (us := [.ref a]) (vs := [.ref a]) Fk (Room.mono hr (Nat.add_le_add_right hk 32)) hb (hx σ) I1 (.cons rfl .nil) q)
/-- o.m(..) by the abstract store -/
def aMeth (M : Addr → Str → AF → Prop) (m : Str) (re : ATE) (rr : ATA) : ATE := fun Wa ρ Ω Q => re Wa ρ Ω fun x Ω1 => ∃ a c fs F, x = .o a ∧ Ω1 a = some (.obj c fs) ∧ m ∉ fs.map (·.1) ∧ M c m F ∧ rr Wa ρ Ω1 fun ds Ω2 => F (x :: ds) Ω2 Q fun cls Ω' => Wa cls ρ Ω'
theorem sim_meth {k : Nat} {m : Str} (se : SimE X.K ca W te re) (sa : SimA X.K ca W tr rr) : SimE X.K ca W (tMethD X ca k m (WE W) te tr) (aMeth (MthX X ca k) m re rr) := fun σ H G own ρ Ω Wa Qa Qc r s h' k' kx =>
  se σ H G own ρ Ω Wa _ _ r s h' (fun v H1 G1 own1 d Ω1 e1 r1 dv1 q1 => by
    obtain ⟨a, c, fs, F, rfl, ho, hm, M, q⟩ := q1
    cases dv1
    obtain ⟨cl, nd, na, dx, fs', hp, fv⟩ := r1.objAt ho
    refine ⟨a, c, dx, fs', F, rfl, hp, lookup_out (by rw [fv.names]; exact hm), cl, M, ?_⟩
    exact sa σ H1 G1 own1 ρ Ω1 Wa _ _ r1 (s.mono e1.same) q (fun vs H2 G2 own2 ds Ω2 e2 r2 dv2 q2 => ⟨G2, own2, Ω2, _, Qa, fun cls Ω' => Wa cls ρ Ω', r2, .cons (.o a) dv2, q2, fun v3 H3 G3 own3 d3 Ω3 e3 => k' v3 H3 G3 own3 d3 Ω3 ((e1.trans e2).trans e3), fun cls H3 G3 own3 Ω3 e3 => kx cls H3 G3 own3 Ω3 ((e1.trans e2).trans e3)⟩) (kx.mono e1)) kx
theorem ae_meth {k j : Nat} {m : Str} {pl : Sem Bool} (hr : Rm j X.A) (tk : Takes X W) (hk : k ≤ j) (ho : AE X ca W o te re) (ha : AA X ca W (e :: es) tr rr)
    (hst : starEach (e :: es) X.env = (false, eval e X.env) :: starEach es X.env := by rfl) (hpl : (backTo pos (starEach es X.env)).any (·.1) = false := by rfl)
    (ht : eval (.Call (.Attribute o m apos) (e :: es) [] pos) X.env = (do
      let ov ← eval o X.env
      standAt apos.atName
      let (f, first) ← holding [ov] (getMethod ov m pl)
      callWith pos f first (backTo pos (starEach (e :: es) X.env)) (backToKw pos (keywordEach [] X.env))) := by rfl) :
    AE X ca W (.Call (.Attribute o m apos) (e :: es) [] pos) (tMethD X ca k m (WE W) te tr) (aMeth (MthX X ca k) m re rr) := ⟨pe_methD ho.pe hr hk (fun σ => passAt tk σ) ha.pe hst hpl ht, sim_meth ho.sim ha.sim⟩
theorem ae_meth0 {k j : Nat} {m : Str} {pl : Sem Bool} (hr : Rm j X.A) (tk : Takes X W) (hk : k ≤ j) (ho : AE X ca W o te re)
    (ht : eval (.Call (.Attribute o m apos) [] [] pos) X.env = (do
      let ov ← eval o X.env
      standAt apos.atName
      let (f, first) ← holding [ov] (getMethod ov m pl)
      callWith pos f first (backTo pos (starEach [] X.env)) (backToKw pos (keywordEach [] X.env))) := by rfl) :
    AE X ca W (.Call (.Attribute o m apos) [] [] pos) (tMethD X ca k m (WE W) te tNil) (aMeth (MthX X ca k) m re aNil) := ⟨pe_methD0 ho.pe hr hk (fun σ => passAt tk σ) ht, sim_meth ho.sim aa_nil.sim⟩
structure CFn (K : PySem.W.Frag) (C : Addr) (mc : Value) (m : Str) (f : Addr) : Prop where
  rd : ClX.CRead K C mc
  at_ : PySem.W.findCls K (.ref C) mc m = some (.val (.ref f))
  kp : PySem.W.keepIn K (.ref f) = true
theorem pe_ccall {k j : Nat} {C f : Addr} {mc : Value} {x m : Str} {fd : FuncData} {ps : List Str} {sp : Sp} {E : L2.St → XK} {pl : Sem Bool} {p1 : Pos} (c : CFn X.K C mc m f) (F : FnOk X.prog X.w X.K X.mg X.base (L2.CX X.prog X.w) (k + 32) f fd ps sp) (hr : Rm j X.A) (hk : k ≤ j) (hb : Binds X.K fd ps []) (hx : ∀ σ, PassesAt (L2.CX X.prog X.w) X σ (E σ))
    (hg : Gl X x) (hm : X.mg x = some (.ref C)) (ha : PA X (e :: es) tr) (hdb : (x == ("__debug__" : Str)) = false := by decide)
    (hst : starEach (e :: es) X.env = (false, eval e X.env) :: starEach es X.env := by rfl) (hpl : (backTo pos (starEach es X.env)).any (·.1) = false := by rfl)
    (ht : eval (.Call (.Attribute (.Name x p1) m apos) (e :: es) [] pos) X.env = (do
      let ov ← eval (.Name x p1) X.env
      standAt apos.atName
      let (f, first) ← holding [ov] (getMethod ov m pl)
      callWith pos f first (backTo pos (starEach (e :: es) X.env)) (backToKw pos (keywordEach [] X.env))) := by rfl) :
    PE X (.Call (.Attribute (.Name x p1) m apos) (e :: es) [] pos) (tCallS sp E tr) := by
  refine ⟨fun pins s σ H Q I h => ?_⟩
  refine PySem.W.methodCall_KW (pl := pl) (ld_glob I hg hm ?_ hdb) ht
  refine PySem.W.method_cls I.kIn c.rd.ga (PySem.W.cls_value I.kIn c.rd.rd c.at_ rfl ?_)
  refine PySem.W.callWith_K (first := []) (h₀ := X.base) I.ok.mod.kin c.kp (thn (ha.run pos pins _ σ H _ (I.tok _) h) fun us s2 ⟨vs, H2, I2, r, q2⟩ => ⟨I2.kIn, ?_⟩) hst hpl
  exact run_fnS F (Room.mono hr (Nat.add_le_add_right hk 32)) hb (hx σ) I2 r q2
structure Cfn (P : Program) (w : World) (K : PySem.W.Frag) (mg : Str → Option Value) (base : Heap) (ca : CA) (k : Nat) (x m : Str) (F : AF) : Prop where
  ex : ∃ C mc f fd ps, CFn K C mc m f ∧ mg x = some (.ref C) ∧ FnOk P w K mg base (L2.CX P w) (k + 32) f fd ps (spA K ca F) ∧ Binds K fd ps []
theorem ae_ccall {k j : Nat} {x m : Str} {F : AF} {pl : Sem Bool} {p1 : Pos} (c : Cfn X.prog X.w X.K X.mg X.base ca k x m F) (hr : Rm j X.A) (tk : Takes X W) (hk : k ≤ j) (ha : AA X ca W (e :: es) tr rr) (hg : Gl X x := by rfl) (hdb : (x == ("__debug__" : Str)) = false := by decide)
    (hst : starEach (e :: es) X.env = (false, eval e X.env) :: starEach es X.env := by rfl) (hpl : (backTo pos (starEach es X.env)).any (·.1) = false := by rfl)
    (ht : eval (.Call (.Attribute (.Name x p1) m apos) (e :: es) [] pos) X.env = (do
      let ov ← eval (.Name x p1) X.env
      standAt apos.atName
      let (f, first) ← holding [ov] (getMethod ov m pl)
      callWith pos f first (backTo pos (starEach (e :: es) X.env)) (backToKw pos (keywordEach [] X.env))) := by rfl) :
    AE X ca W (.Call (.Attribute (.Name x p1) m apos) (e :: es) [] pos) (tCallS (spA X.K ca F) (WE W) tr) (aFn F rr) := by
  obtain ⟨C, mc, f, fd, ps, M, hm, Fk, hb⟩ := c.ex
  exact ⟨pe_ccall M Fk hr hk hb (fun σ => passAt tk σ) hg hm ha.pe hdb hst hpl ht, sim_fn ha.sim⟩
theorem run_makeS {k : Nat} {f C : Addr} {fd : FuncData} {ps : List Str} {sp : Sp} {E : L2.St → XK} {pins : List (Addr × Obj)} {σ : L2.St} {H : Hp} {s : Shared} {Q : VK} {us : List Value} {vs : List V} (M : Mk X.K C f) (F : FnOk X.prog X.w X.K X.mg X.base (L2.CX X.prog X.w) k f fd ps sp) (hr : Room (k + 1) X.A) (hb : Binds X.K fd ps [])
    (hx : ∀ σ, PassesAt (L2.CX X.prog X.w) X σ (E σ)) (I : Inv X pins σ H s) (r : Vals vs us)
    (h : ∀ x dx, H x = none → H dx = none → dx ≠ x → sp (.ref x :: vs) (upd (upd H dx (.own x)) x (.ins C dx [])) (fun v H2 => v = .non ∧ Q (.ref x) H2) (E σ)) :
    wpAny (model X.prog X.w) X.A (call (.ref C) us) (EP X pins σ Q) X.xe s := by
  have hq := h (s.heap.objs.size + 1) s.heap.objs.size (I.hok.fresh (Nat.le_succ _)) (I.hok.fresh (Nat.le_refl _)) (Nat.ne_of_lt (Nat.lt_succ_self _))
  have I2 := Inv.made (C := C) I
  have r2 : Vals (V.ref (s.heap.objs.size + 1) :: vs) (Value.ref (s.heap.objs.size + 1) :: us) := .cons rfl r
  have hl : (Value.ref (s.heap.objs.size + 1) :: us).length = ps.length := by
    have e := r2.length
    rw [F.len _ _ _ _ hq] at e
    exact e.symm
  have b := hb { s with heap := (s.heap.push PySem.W.emptyDict).push (PySem.W.instObj C s.heap.objs.size) } (Value.ref (s.heap.objs.size + 1) :: us) I2.kIn (by rw [List.append_nil]; exact hl)
  rw [List.append_nil] at b
  refine wpAny_call (make_map (f := f) I.kIn M.makes M.init (beq_iff_eq.mp M.fn) (codeAny_mono (F.run _ X.stack _ _ ⟨Value.ref (s.heap.objs.size + 1) :: us, []⟩ (Value.ref (s.heap.objs.size + 1) :: us) _ _ (E σ) (hr.make C us [])
    (I2.env0.make C us []) b r2 hq) fun r s' hq' => ?_))
  cases r with
  | error e => exact hx σ pins _ _ e s' I2 hq'
  | ok fl =>
    cases fl with
    | ret u =>
      obtain ⟨v, H', I3, rv, ev, q3⟩ := I2.after hq'
      subst ev
      exact ⟨rv, ⟨V.ref (s.heap.objs.size + 1), H', I3, rfl, q3⟩⟩
    | next => exact False.elim hq'
    | brk => exact False.elim hq'
    | cont => exact False.elim hq'
def tMakeS (C : Addr) (sp : Sp) (E : L2.St → XK) (t : TA) : TE := fun σ H Q => t σ H fun vs H1 => ∀ x dx, H1 x = none → H1 dx = none → dx ≠ x →
  sp (.ref x :: vs) (upd (upd H1 dx (.own x)) x (.ins C dx [])) (fun v H2 => v = .non ∧ Q (.ref x) H2) (E σ)
theorem pe_makeS {k : Nat} {f C : Addr} {x : Str} {fd : FuncData} {ps : List Str} {sp : Sp} {E : L2.St → XK} (M : Mk X.K C f) (F : FnOk X.prog X.w X.K X.mg X.base (L2.CX X.prog X.w) k f fd ps sp) (hr : Room (k + 1) X.A) (hg : Gl X x) (hm : X.mg x = some (.ref C)) (hb : Binds X.K fd ps []) (hx : ∀ σ, PassesAt (L2.CX X.prog X.w) X σ (E σ))
    (ha : PA X (e :: es) tr) (hdb : (x == ("__debug__" : Str)) = false := by decide) (he : starEach (e :: es) X.env = (false, eval e X.env) :: starEach es X.env := by rfl) (hpl : (backTo pos (starEach es X.env)).any (·.1) = false := by rfl) :
    PE X (.Call (.Name x p) (e :: es) [] pos) (tMakeS C sp E tr) := by
  refine ⟨fun pins s σ H Q I h => ?_⟩
  refine wpAny_Call_Name_kw (ld_glob I hg hm ?_ hdb)
  refine PySem.W.callWith_K (h₀ := X.base) I.ok.mod.kin M.kp (thn (ha.run pos pins s σ H _ I h) fun us s1 ⟨vs, H1, I1, r, q⟩ => ⟨I1.kIn, ?_⟩) he hpl
  exact run_makeS M F hr hb hx I1 r q
structure Mkc (P : Program) (w : World) (K : PySem.W.Frag) (mg : Str → Option Value) (base : Heap) (ca : CA) (k : Nat) (x : Str) (C : Addr) (F : AF) : Prop where
  ex : ∃ f fd ps, Mk K C f ∧ Cls K C ∧ mg x = some (.ref C) ∧ FnOk P w K mg base (L2.CX P w) (k + 32) f fd ps (spA K ca F) ∧ Binds K fd ps []
def aMake (C : Addr) (F : AF) (rr : ATA) : ATE := fun Wa ρ Ω Q => rr Wa ρ Ω fun ds Ω1 => ∀ p, Ω1 p = none → F (.o p :: ds) (oset Ω1 p (.obj C [])) (fun d Ω2 => d = .non ∧ Q (.o p) Ω2) fun cls Ω' => Wa cls ρ Ω'
theorem ae_make {k j : Nat} {x : Str} {C : Addr} {F : AF} (c : Mkc X.prog X.w X.K X.mg X.base ca k x C F) (hr : Rm j X.A) (tk : Takes X W) (hk : k + 1 ≤ j) (ha : AA X ca W (e :: es) tr rr)
    (hg : Gl X x := by rfl) (hdb : (x == ("__debug__" : Str)) = false := by decide) (he : starEach (e :: es) X.env = (false, eval e X.env) :: starEach es X.env := by rfl) (hpl : (backTo pos (starEach es X.env)).any (·.1) = false := by rfl) :
    AE X ca W (.Call (.Name x p) (e :: es) [] pos) (tMakeS C (spA X.K ca F) (WE W) tr) (aMake C F rr) := by
  obtain ⟨f, fd, ps, M, cl, hm, Fk, hb⟩ := c.ex
  refine ⟨pe_makeS M Fk (Room.mono hr (by omega)) hg hm hb (fun σ => passAt tk σ) ha.pe hdb he hpl, fun σ H G own ρ Ω Wa Qa Qc r s h' k' kx => ?_⟩
  refine ha.sim σ H G own ρ Ω Wa _ _ r s h' (fun vs H1 G1 own1 ds Ω1 e1 r1 dv1 q1 => fun x dx hx hd ne => ?_) kx
  obtain ⟨r2, e2⟩ := r1.newObj cl hx hd ne
  refine ⟨_, _, _, _, _, _, r2, .cons (.o x) dv1, q1 x (r1.fresh hx), ?_, ?_⟩
  · rintro v3 H3 G3 own3 d3 Ω3 e3 r3 dv3 ⟨rfl, q3⟩
    cases dv3
    exact ⟨rfl, k' _ _ _ _ _ _ ((e1.trans e2).trans e3) r3 (.o x) q3⟩
  · intro cls H3 G3 own3 Ω3 e3
    exact kx cls H3 G3 own3 Ω3 ((e1.trans e2).trans e3)
structure Xcl (K : PySem.W.Frag) (mg : Str → Option Value) (x : Str) (C : Addr) : Prop where
  xf : PySem.W.excIn K C [.type "ValueError", .type "Exception", .type "BaseException", .type "object"] "ValueError.__new__" = true
  gc : mg x = some (.ref C)
  kp : PySem.W.keepIn K (.ref C) = true
  sb : PySem.W.subIn K (.ref C) (.type "BaseException") = some true
  ty : PySem.W.typeIn K (.ref C) = some (.type "type")
def aRaise (C : Addr) : ATS := fun Wa _ ρ Ω => Wa (.ref C) ρ Ω
theorem as_raise {x m : Str} {C : Addr} {j : Nat} {p2 : Pos} (hc : X.calm = true) (tk : Takes X W) (c : Xcl X.K X.mg x C) (hg : Gl X x := by rfl) (hdb : (x == ("__debug__" : Str)) = false := by decide) :
    AS X ca W (.Raise (some (.Call (.Name x p) [.Constant (.str m) j p2] [] apos)) none pos) (fun _ σ H => W (.ref C) none σ H) (aRaise C) :=
  ⟨ps_raise hc tk (pmk_own PySem.F.excBase_ValueError c.xf c.gc c.kp (raises_own c.sb c.ty) hg hdb), fun σ H G own ρ Ω Wa Da Dc r s h k => k.ex _ _ _ _ _ _ _ Stp.refl r s h⟩
end
end PL
namespace PL
open PySem L2
/-- a method's def, and the classes that have it -/
structure Mdf (K : PySem.W.Frag) (Cs : List Addr) (m qual : Str) (st : Stmt) (ps : List Str) : Prop where
  ex : ∃ f fd, Fun K m qual st f fd ∧ Binds K fd ps [] ∧ ∀ C ∈ Cs, Meth K C m f
/-- a class and its __init__ -/
structure Mki (K : PySem.W.Frag) (mg : Str → Option Value) (x : Str) (C : Addr) (qual : Str) (st : Stmt) (ps : List Str) : Prop where
  ex : ∃ f fd, Fun K "__init__" qual st f fd ∧ Binds K fd ps [] ∧ Mk K C f ∧ Cls K C ∧ mg x = some (.ref C)
/-- C.m as a def -/
structure Cdf (K : PySem.W.Frag) (mg : Str → Option Value) (x m qual : Str) (st : Stmt) (ps : List Str) : Prop where
  ex : ∃ C mc f fd, Fun K m qual st f fd ∧ Binds K fd ps [] ∧ CFn K C mc m f ∧ mg x = some (.ref C)
section
variable {P : Program} {w : World} {K : PySem.W.Frag} {mg : Str → Option Value} {base : Heap} {ca : CA} {x m qual : Str} {st : Stmt} {N ps : List Str} {k : Nat} {Fa : AF} {C : Addr} {Cs : List Addr}
abbrev Body (P : Program) (w : World) (K : PySem.W.Frag) (mg : Str → Option Value) (base : Heap) (ca : CA) (qual : Str) (st : Stmt) (N : List Str) (k : Nat) (Fa : AF) : Prop :=
  ∀ (f : Addr) (cdv : Value) (A : Around) (outer : List Env) (s : Shared) (H : Hp) (E : XK), Rm k (A.deeper (PyProof.Rows.envOfC qual (defScope st) s.heap.objs.size f cdv)) →
      ∃ ts ta, ASs (cxOf (L2.CX P w) P w K mg base N qual (defScope st) f cdv A outer s H E) ca (WD E) (defBody st) ts ta ∧
        ∀ ds Ω Qa Ea, Fa ds Ω Qa Ea → ta (fun cls _ Ω' => Ea cls Ω') { nx := fun _ Ω' => Qa .non Ω', rt := Qa } (astart N ds) Ω
theorem mth (d : Mdf K Cs m qual st ps) (S : FnScope N ps (defScope st)) (len : ∀ ds Ω Q E, Fa ds Ω Q E → ds.length = ps.length) (h : Body P w K mg base ca qual st N k Fa) : ∀ C ∈ Cs, Mth P w K mg base ca (k + 1) C m Fa := fun C hC => by
  obtain ⟨f, fd, F, b, M⟩ := d.ex
  exact ⟨f, fd, ps, M C hC, (okA F S len (h f)).mono (by omega), b⟩
theorem mth_none (d : Mdf K Cs m qual st ps) (h : ∀ ds Ω Q E, ¬ Fa ds Ω Q E) : ∀ C ∈ Cs, Mth P w K mg base ca k C m Fa := fun C hC => by
  obtain ⟨f, fd, F, b, M⟩ := d.ex
  exact ⟨f, fd, ps, M C hC, ⟨fun vs H Q E ⟨_, _, _, _, _, _, _, _, z, _⟩ => (h _ _ _ _ z).elim, fun _ _ _ _ _ _ _ _ _ _ _ _ _ ⟨_, _, _, _, _, _, _, _, z, _⟩ => (h _ _ _ _ z).elim⟩, b⟩
theorem mkc (d : Mki K mg x C qual st ps) (S : FnScope N ps (defScope st)) (len : ∀ ds Ω Q E, Fa ds Ω Q E → ds.length = ps.length) (h : Body P w K mg base ca qual st N k Fa) : Mkc P w K mg base ca (k + 1) x C Fa := by
  obtain ⟨f, fd, F, b, M, cl, g⟩ := d.ex
  exact ⟨f, fd, ps, M, cl, g, (okA F S len (h f)).mono (by omega), b⟩
theorem cfn (d : Cdf K mg x m qual st ps) (S : FnScope N ps (defScope st)) (len : ∀ ds Ω Q E, Fa ds Ω Q E → ds.length = ps.length) (h : Body P w K mg base ca qual st N k Fa) : Cfn P w K mg base ca (k + 1) x m Fa := by
  obtain ⟨C, mc, f, fd, F, b, M, g⟩ := d.ex
  exact ⟨C, mc, f, fd, ps, M, g, (okA F S len (h f)).mono (by omega), b⟩
end
section
variable {X : Cx} {ca : CA} {W : WX} {a b e : Expr} {es : List Expr} {ta tb te : TE} {ra rb re : ATE} {tr : TA} {rr : ATA} {pos p : Pos}
theorem ae_globE {x : Str} {i : Int} (hg : Gl X x) (hm : ∃ t, X.mg x = some (.int i t)) (hd : (x == ("__debug__" : Str)) = false := by decide) : AE X ca W (.Name x pos) (tC (.int i)) (aC (.int i)) := by
  obtain ⟨t, hm⟩ := hm
  exact ae_globI hg hm hd
/-- a tuple of ints at the text's top -/
structure TupK (K : PySem.W.Frag) (mg : Str → Option Value) (x : Str) (a : Addr) (ns : List Int) : Prop where
  mg_ : mg x = some (.ref a)
  at_ : ∀ H, SqT K H a (iv ns)
theorem ae_globT {x : Str} {a : Addr} {ns : List Int} (hg : Gl X x) (h : TupK X.K X.mg x a ns) (hd : (x == ("__debug__" : Str)) = false := by decide) : AE X ca W (.Name x pos) (tC (.ref a)) (aC (.tup (ns.map D.int))) :=
  ⟨pe_glob hg h.mg_ rfl hd, sim_c fun G => .tup (h.at_ G) (DVs.of_ints ns)⟩
/-- an int among ints -/
def fInI (neg : Bool) : D → D → Om → AQ → Prop := fun x y Ω Q => ∃ (i : Int) (ns : List Int), x = .int i ∧ y.seq Ω = some (ns.map D.int) ∧ Q (.bl (if neg then !decide (i ∈ ns) else decide (i ∈ ns))) Ω
theorem inV_ints {i : Int} : ∀ ns : List Int, inV (.int i) (ns.map V.int) = decide (i ∈ ns)
  | [] => rfl
  | n :: r => by
    have ih := inV_ints (i := i) r
    unfold inV at ih ⊢
    rw [List.map_cons, List.any_cons, ih]
    show ((n == i) || decide (i ∈ r)) = decide (i ∈ n :: r)
    rw [Bool.eq_iff_iff]
    simp only [Bool.or_eq_true, beq_iff_eq, decide_eq_true_eq, List.mem_cons]
    constructor
    · rintro (h | h)
      · exact .inl h.symm
      · exact .inr h
    · rintro (h | h)
      · exact .inl h.symm
      · exact .inr h
theorem all_flat : ∀ ns : List Int, (ns.map V.int).all flatV = true
  | [] => rfl
  | n :: r => by rw [List.map_cons, List.all_cons, all_flat r]; rfl
theorem simr_inI {K : PySem.W.Frag} {neg : Bool} : SimR K ca (rIn K neg) (fInI neg) := by
  intro H G own Ω x y v w Qa Qc r dx dy h k
  obtain ⟨i, ns, rfl, hs, q⟩ := h
  cases dx
  obtain ⟨p, vs, rfl, ds, hv⟩ := seq_of r dy hs
  rw [ds.ints] at hv
  exact ⟨p, _, rfl, hv, rfl, all_flat ns, by rw [inV_ints]; exact k _ _ _ _ _ _ Stp.refl r (.bl _) q⟩
theorem at_inI (ha : AE X ca W a ta ra) (hb : AE X ca W b tb rb) (hm : behindInMarks .In b = false := by rfl) : AT X ca W (.Compare a [.In] [b] pos) (tTest (tOp (rIn X.K false) ta tb)) (aB (aOp (fInI false) ra rb)) := at_cmp op_in_seq simr_inI ha hb hm
/-- what the proof never comes to -/
def aNever : ATS := fun _ _ _ _ => False
end
end PL
namespace PL
open PySem L2
structure CT where
  c_Purse : Addr := 0
  c_Fixed : Addr := 0
  c_Fraction : Addr := 0
  c_Root : Addr := 0
  c_Ruled : Addr := 0
  c_Four : Addr := 0
  c_Eight : Addr := 0
  c_NoValue : Addr := 0
  c_BadTree : Addr := 0
  c_TooLong : Addr := 0
  c_PartError : Addr := 0
  a_TIMES : Addr := 0
inductive R where
  | fixed (t b : Int) (g : Bool)
  | frac (k : Nat) (t b : Int)
  | root (k : Nat) (t s b f : Int)
  | ruled (k : Nat) (ps ring steps : List Int)
  | four (a b c d : Int) (rdy bg : Bool) (x : R)
  | fourX (x : R) (t b : Int) (g : Bool)
  | eight (a b c d e f g h : Int) (m0 m1 : Nat) (bg : Bool) (x y : R)
  | eightX (x y : R) (t b : Int) (g : Bool)
  | eightF (w : Bool) (dead fr : R)
inductive Kd where
  | fixed | leaf | four | eight
def R.kd : R → Kd
  | .fixed .. => .fixed
  | .frac .. => .leaf
  | .root .. => .leaf
  | .ruled .. => .leaf
  | .four .. => .four
  | .fourX .. => .four
  | .eight .. => .eight
  | .eightX .. => .eight
  | .eightF .. => .eight
/-- how deep its calls go -/
def R.lv : R → Nat
  | .fixed .. => 1
  | .frac .. => 3
  | .root .. => 3
  | .ruled .. => 3
  | .four _ _ _ _ _ _ x => max x.lv 3 + 1
  | .fourX x _ _ _ => max x.lv 3 + 1
  | .eight _ _ _ _ _ _ _ _ _ _ _ x y => max (max x.lv y.lv) 3 + 2
  | .eightX x y _ _ _ => max (max x.lv y.lv) 3 + 2
  | .eightF _ dead fr => max (max dead.lv fr.lv) 3 + 1
def dtup (ns : List Int) : D := .tup (ns.map D.int)
abbrev oPurse (C : CT) (m : Int) : AO := .obj C.c_Purse [("left", .int m)]
abbrev oFixed (C : CT) (t b : Int) (g : Bool) : AO := .obj C.c_Fixed [("top", .int t), ("below", .int b), ("begun", .bl g)]
abbrev oFrac (C : CT) (k t b : Int) : AO := .obj C.c_Fraction [("many", .int k), ("top", .int t), ("below", .int b)]
abbrev oRoot (C : CT) (k t s b f : Int) : AO := .obj C.c_Root [("many", .int k), ("top", .int t), ("square", .int s), ("below", .int b), ("floor", .int f)]
abbrev oRuled (C : CT) (k : Int) (ps ring steps : List Int) : AO := .obj C.c_Ruled [("many", .int k), ("first", .tup (ps.map D.int)), ("ring", .tup (ring.map D.int)), ("steps", .tup (steps.map D.int))]
abbrev oFour (C : CT) (ns : List D) (z : Addr) (rdy bg : Bool) (f : D) : AO := .obj C.c_Four [("numbers", .tup ns), ("inner", .o z), ("ready", .bl rdy), ("begun", .bl bg), ("fixed", f)]
abbrev oEight (C : CT) (ns : List D) (z1 z2 k : Addr) (bg : Bool) (f : D) : AO := .obj C.c_Eight [("numbers", .tup ns), ("inners", .lst [.o z1, .o z2]), ("many", .o k), ("begun", .bl bg), ("rest", f)]
/-- the object at p holds r; S: its own objects -/
inductive RdO (C : CT) (Ω : Om) : Addr → R → List Addr → Prop
  | fixed {p : Addr} {t b : Int} {g : Bool} : Ω p = some (oFixed C t b g) → RdO C Ω p (.fixed t b g) [p]
  | frac {p : Addr} {k : Nat} {t b : Int} : Ω p = some (oFrac C k t b) → RdO C Ω p (.frac k t b) [p]
  | root {p : Addr} {k : Nat} {t s b f : Int} : Ω p = some (oRoot C k t s b f) → RdO C Ω p (.root k t s b f) [p]
  | ruled {p : Addr} {k : Nat} {ps ring steps : List Int} : Ω p = some (oRuled C k ps ring steps) → RdO C Ω p (.ruled k ps ring steps) [p]
  | four {p z : Addr} {a b c d : Int} {rdy bg : Bool} {x : R} {S : List Addr} : Ω p = some (oFour C [.int a, .int b, .int c, .int d] z rdy bg .non) → RdO C Ω z x S → p ∉ S → RdO C Ω p (.four a b c d rdy bg x) (p :: S)
  | fourX {p z f : Addr} {ns : List D} {t b : Int} {g rdy bg : Bool} {x : R} {S : List Addr} : Ω p = some (oFour C ns z rdy bg (.o f)) → Ω f = some (oFixed C t b g) → RdO C Ω z x S → p ∉ S → f ∉ S → p ≠ f → RdO C Ω p (.fourX x t b g) (p :: f :: S)
  | eight {p z1 z2 k : Addr} {a b c d e f g h : Int} {m0 m1 : Nat} {bg : Bool} {x y : R} {S1 S2 : List Addr} : Ω p = some (oEight C [.int a, .int b, .int c, .int d, .int e, .int f, .int g, .int h] z1 z2 k bg .non) → Ω k = some (.lst [.int m0, .int m1]) →
      RdO C Ω z1 x S1 → RdO C Ω z2 y S2 → p ≠ k → p ∉ S1 → p ∉ S2 → k ∉ S1 → k ∉ S2 → (∀ b ∈ S1, b ∉ S2) → RdO C Ω p (.eight a b c d e f g h m0 m1 bg x y) (p :: k :: (S1 ++ S2))
  | eightX {p z1 z2 k q : Addr} {ns : List D} {t b : Int} {g bg : Bool} {x y : R} {S1 S2 : List Addr} : Ω p = some (oEight C ns z1 z2 k bg (.o q)) → Ω q = some (oFixed C t b g) →
      RdO C Ω z1 x S1 → RdO C Ω z2 y S2 → p ≠ q → p ∉ S1 → p ∉ S2 → q ∉ S1 → q ∉ S2 → (∀ b ∈ S1, b ∉ S2) → RdO C Ω p (.eightX x y t b g) (p :: q :: (S1 ++ S2))
  | eightF {p z1 z2 k q c : Addr} {ns : List D} {fs : List (Str × D)} {bg w : Bool} {dead fr : R} {S1 S2 : List Addr} : Ω p = some (oEight C ns z1 z2 k bg (.o q)) → Ω q = some (.obj c fs) → fs[1]? = some (("inner" : Str), D.o (if w then z1 else z2)) →
      RdO C Ω (if w then z2 else z1) dead S1 → RdO C Ω q fr S2 → fr.kd = .four → p ∉ S1 → p ∉ S2 → (∀ b ∈ S1, b ∉ S2) → RdO C Ω p (.eightF w dead fr) (p :: (S1 ++ S2))
section
variable {C : CT} {Ω Ω' : Om} {p : Addr} {r : R} {S : List Addr}
theorem RdO.keep (x : RdO C Ω p r S) (h : ∀ b ∈ S, Ω' b = Ω b) : RdO C Ω' p r S := by
  induction x with
  | fixed e => exact .fixed ((h _ (by simp)).trans e)
  | frac e => exact .frac ((h _ (by simp)).trans e)
  | root e => exact .root ((h _ (by simp)).trans e)
  | ruled e => exact .ruled ((h _ (by simp)).trans e)
  | four e x n ih => exact .four ((h _ (by simp)).trans e) (ih fun b hb => h b (by simp [hb])) n
  | fourX e e2 x n1 n2 n3 ih => exact .fourX ((h _ (by simp)).trans e) ((h _ (by simp)).trans e2) (ih fun b hb => h b (by simp [hb])) n1 n2 n3
  | eight e e2 x y n1 n2 n3 n4 n5 n6 ih1 ih2 => exact .eight ((h _ (by simp)).trans e) ((h _ (by simp)).trans e2) (ih1 fun b hb => h b (by simp [hb])) (ih2 fun b hb => h b (by simp [hb])) n1 n2 n3 n4 n5 n6
  | eightX e e2 x y n1 n2 n3 n4 n5 n6 ih1 ih2 => exact .eightX ((h _ (by simp)).trans e) ((h _ (by simp)).trans e2) (ih1 fun b hb => h b (by simp [hb])) (ih2 fun b hb => h b (by simp [hb])) n1 n2 n3 n4 n5 n6
  | eightF e e2 l x y kd n1 n2 n3 ih1 ih2 =>
    have hm : ∀ {q r S}, RdO C Ω q r S → q ∈ S := fun z => by cases z <;> simp
    exact .eightF ((h _ (by simp)).trans e) ((h _ (by simp [hm y])).trans e2) l (ih1 fun b hb => h b (by simp [hb])) (ih2 fun b hb => h b (by simp [hb])) kd n1 n2 n3
theorem RdO.self (x : RdO C Ω p r S) : p ∈ S := by cases x <;> simp
theorem RdO.there (x : RdO C Ω p r S) : ∀ b ∈ S, Ω b ≠ none := by
  induction x with
  | fixed e => intro b hb; simp at hb; subst hb; rw [e]; simp
  | frac e => intro b hb; simp at hb; subst hb; rw [e]; simp
  | root e => intro b hb; simp at hb; subst hb; rw [e]; simp
  | ruled e => intro b hb; simp at hb; subst hb; rw [e]; simp
  | four e x n ih => intro b hb; simp at hb; rcases hb with rfl | hb; rw [e]; simp; exact ih b hb
  | fourX e e2 x n1 n2 n3 ih => intro b hb; simp at hb; rcases hb with rfl | rfl | hb; rw [e]; simp; rw [e2]; simp; exact ih b hb
  | eight e e2 x y n1 n2 n3 n4 n5 n6 ih1 ih2 => intro b hb; simp at hb; rcases hb with rfl | rfl | hb | hb; rw [e]; simp; rw [e2]; simp; exact ih1 b hb; exact ih2 b hb
  | eightX e e2 x y n1 n2 n3 n4 n5 n6 ih1 ih2 => intro b hb; simp at hb; rcases hb with rfl | rfl | hb | hb; rw [e]; simp; rw [e2]; simp; exact ih1 b hb; exact ih2 b hb
  | eightF e e2 l x y kd n1 n2 n3 ih1 ih2 => intro b hb; simp at hb; rcases hb with rfl | hb | hb; rw [e]; simp; exact ih1 b hb; exact ih2 b hb
end
inductive Ans where
  | part (n : Int) | fin | waits | none
def Ans.d : Ans → D
  | .part n => .tup [.str "part", .int n]
  | .fin => .tup [.str "end"]
  | .waits => .tup [.str "waits"]
  | .none => .non
/-- how a call ends -/
def Ans.ok (C : CT) (a : Ans) (Q : AQ) (E : Value → Om → Prop) (Ω : Om) : Prop := match a with
  | .none => E (.ref C.c_NoValue) Ω
  | a => Q a.d Ω
/-- small enough for all that is reckoned -/
def Sm (x : Int) : Prop := x.natAbs < 2 ^ 290000
def ruV (k : Nat) (ps ring steps : List Int) : Int := if k < ps.length then ps.getD k 0 else ring.getD ((k - ps.length) % ring.length) 0 + ((k - ps.length) / ring.length : Nat) * steps.getD ((k - ps.length) % ring.length) 0
def belowRest (least : Int) (c0 : Int × Int) : List (Int × Int) → Option Int
  | [] => some least
  | (t, b) :: r => if 0 < (t - (least + 1) * b) * b ∨ ((t - (least + 1) * b) * b = 0 ∧ t * c0.2 = c0.1 * b) then none else belowRest least c0 r
/-- the mirror of below_all -/
def belowAll (cs : List (Int × Int)) : Option Int := match cs with
  | [] => none
  | c0 :: r => if cs.any (fun c => decide (c.2 * c0.2 ≤ 0)) then none else
    let least := (r.map fun c => c.1.fdiv c.2).foldl min (c0.1.fdiv c0.2)
    belowRest least c0 cs
def sure4 (rdy : Bool) (a b c d : Int) : Option Int := if rdy then belowAll [(a, c), (a + b, c + d)] else none
def sure8 (m0 m1 : Nat) (a b c d e f g h : Int) : Option Int := if 0 < m0 ∧ 0 < m1 then belowAll [(a, e), (a + b, e + f), (a + c, e + g), (a + b + c + d, e + f + g + h)] else none
def Sm8 (a b c d e f g h : Int) : Prop := Sm a ∧ Sm b ∧ Sm c ∧ Sm d ∧ Sm e ∧ Sm f ∧ Sm g ∧ Sm h
/-- r with purse m answers ans, and is r' with purse m' behind it; n: parts taken by the outermost loop -/
inductive Told : Nat → R → Int → R → Int → Ans → Prop
  | fxEnd {t m} : Told 0 (.fixed t 0 true) m (.fixed t 0 true) m .fin
  | fxNo {t m} : Told 0 (.fixed t 0 false) m (.fixed t 0 false) m .none
  | fxPart {t b g m} : b ≠ 0 → Sm t → Sm b → Told 0 (.fixed t b g) m (.fixed b (t - t.fdiv b * b) true) m (.part (t.fdiv b))
  | frEnd {k t m} : Told 0 (.frac k t 0) m (.frac k t 0) m .fin
  | frWait {k t b} : b ≠ 0 → Told 0 (.frac k t b) 0 (.frac k t b) 0 .waits
  | frPart {k t b m} : b ≠ 0 → m ≠ 0 → Sm t → Sm b → Told 0 (.frac k t b) m (.frac (k + 1) b (t - t.fdiv b * b)) (m - 1) (.part (t.fdiv b))
  | rtWait {k t s b f} : Told 0 (.root k t s b f) 0 (.root k t s b f) 0 .waits
  | rtPart {k t s b f m q t'} : m ≠ 0 → b ≠ 0 → Sm t → Sm s → Sm b → Sm f → q = (t + f + (if b < 0 then 1 else 0)).fdiv b → t' = q * b - t → Sm t' → Told 0 (.root k t s b f) m (.root (k + 1) t' s ((s - t' * t').fdiv b) f) (m - 1) (.part q)
  | ruEnd {k ps steps m} : ps.length ≤ k → Told 0 (.ruled k ps [] steps) m (.ruled k ps [] steps) m .fin
  | ruWait {k ps ring steps} : (ring = [] → k < ps.length) → Told 0 (.ruled k ps ring steps) 0 (.ruled k ps ring steps) 0 .waits
  | ruPart {k ps ring steps m} : (ring = [] → k < ps.length) → m ≠ 0 → steps.length = ring.length → k < 2 ^ 60 → ps.length < 2 ^ 60 → ring.length < 2 ^ 60 → (∀ n ∈ ring ++ steps, Sm n) → Told 0 (.ruled k ps ring steps) m (.ruled (k + 1) ps ring steps) (m - 1) (.part (ruV k ps ring steps))
  | foTell {a b c d rdy bg x m q} : Sm a → Sm b → Sm c → Sm d → sure4 rdy a b c d = some q → Told 0 (.four a b c d rdy bg x) m (.four c d (a - q * c) (b - q * d) rdy true x) m (.part q)
  | foWait {a b c d rdy bg x m i x' m'} : Sm a → Sm b → Sm c → Sm d → sure4 rdy a b c d = none → Told i x m x' m' .waits → Told 0 (.four a b c d rdy bg x) m (.four a b c d rdy bg x') m' .waits
  | foNo {a b c d rdy bg x m i x' m'} : Sm a → Sm b → Sm c → Sm d → sure4 rdy a b c d = none → Told i x m x' m' .none → Told 0 (.four a b c d rdy bg x) m (.four a b c d rdy bg x') m' .none
  | foEnd {a b c d rdy bg x m i x' m1 t' b' g' m' ans} : Sm a → Sm b → Sm c → Sm d → sure4 rdy a b c d = none → Told i x m x' m1 .fin → Told 0 (.fixed a c bg) m1 (.fixed t' b' g') m' ans → Told 0 (.four a b c d rdy bg x) m (.fourX x' t' b' g') m' ans
  | foIn {a b c d rdy bg x m i x' m1 q n r' m' ans} : Sm a → Sm b → Sm c → Sm d → sure4 rdy a b c d = none → Told i x m x' m1 (.part q) → Sm q → Told n (.four (a * q + b) a (c * q + d) c true bg x') m1 r' m' ans → Told (n + 1) (.four a b c d rdy bg x) m r' m' ans
  | fxX {x t b g m t' b' g' m' ans} : Told 0 (.fixed t b g) m (.fixed t' b' g') m' ans → Told 0 (.fourX x t b g) m (.fourX x t' b' g') m' ans
  | etTell {a b c d e f g h m0 m1 bg x y m q} : Sm8 a b c d e f g h → sure8 m0 m1 a b c d e f g h = some q → Told 0 (.eight a b c d e f g h m0 m1 bg x y) m (.eight e f g h (a - q * e) (b - q * f) (c - q * g) (d - q * h) m0 m1 true x y) m (.part q)
  | etWait {a b c d e f g h m0 m1 bg x y m w i z m'} : Sm8 a b c d e f g h → sure8 m0 m1 a b c d e f g h = none → w = decide (m1 < m0) → Told i (cond w y x) m z m' .waits → Told 0 (.eight a b c d e f g h m0 m1 bg x y) m (.eight a b c d e f g h m0 m1 bg (cond w x z) (cond w z y)) m' .waits
  | etNo {a b c d e f g h m0 m1 bg x y m w i z m'} : Sm8 a b c d e f g h → sure8 m0 m1 a b c d e f g h = none → w = decide (m1 < m0) → Told i (cond w y x) m z m' .none → Told 0 (.eight a b c d e f g h m0 m1 bg x y) m (.eight a b c d e f g h m0 m1 bg (cond w x z) (cond w z y)) m' .none
  | etFour {a b c d e f g h m0 m1 bg x y m w i z m2 n fr m' ans} : Sm8 a b c d e f g h → sure8 m0 m1 a b c d e f g h = none → w = decide (m1 < m0) → Told i (cond w y x) m z m2 .fin → a * cond w g f ≠ cond w c b * e →
      Told n (.four a (cond w c b) e (cond w g f) (decide (0 < cond w m0 m1)) bg (cond w x y)) m2 fr m' ans → Told 0 (.eight a b c d e f g h m0 m1 bg x y) m (.eightF w z fr) m' ans
  | etFix {a b c d e f g h m0 m1 bg x y m w i z m2 t0 b0 t' b' g' m' ans} : Sm8 a b c d e f g h → sure8 m0 m1 a b c d e f g h = none → w = decide (m1 < m0) → Told i (cond w y x) m z m2 .fin → a * cond w g f = cond w c b * e →
      (t0, b0) = (if a = 0 ∧ e = 0 then (cond w c b, cond w g f) else (a, e)) → Told 0 (.fixed t0 b0 bg) m2 (.fixed t' b' g') m' ans → Told 0 (.eight a b c d e f g h m0 m1 bg x y) m (.eightX (cond w x z) (cond w z y) t' b' g') m' ans
  | etIn0 {a b c d e f g h m0 m1 bg x y m i z m2 q n r' m' ans} : Sm8 a b c d e f g h → sure8 m0 m1 a b c d e f g h = none → ¬ m1 < m0 → Told i x m z m2 (.part q) → Sm q → Told n (.eight (a * q + c) (b * q + d) a b (e * q + g) (f * q + h) e f (m0 + 1) m1 bg z y) m2 r' m' ans → Told (n + 1) (.eight a b c d e f g h m0 m1 bg x y) m r' m' ans
  | etIn1 {a b c d e f g h m0 m1 bg x y m i z m2 q n r' m' ans} : Sm8 a b c d e f g h → sure8 m0 m1 a b c d e f g h = none → m1 < m0 → Told i y m z m2 (.part q) → Sm q → Told n (.eight (a * q + b) a (c * q + d) c (e * q + f) e (g * q + h) g m0 (m1 + 1) bg x z) m2 r' m' ans → Told (n + 1) (.eight a b c d e f g h m0 m1 bg x y) m r' m' ans
  | exX {x y t b g m t' b' g' m' ans} : Told 0 (.fixed t b g) m (.fixed t' b' g') m' ans → Told 0 (.eightX x y t b g) m (.eightX x y t' b' g') m' ans
  | exF {w dead fr m n fr' m' ans} : fr.kd = .four → Told n fr m fr' m' ans → Told 0 (.eightF w dead fr) m (.eightF w dead fr') m' ans
theorem Told.kd {n : Nat} {r r' : R} {m m' : Int} {ans : Ans} (h : Told n r m r' m' ans) : r'.kd = r.kd := by
  induction h <;> first | rfl | (simp only [R.kd]; done) | assumption
theorem Told.lv {n : Nat} {r r' : R} {m m' : Int} {ans : Ans} (h : Told n r m r' m' ans) : r'.lv ≤ r.lv := by
  induction h with
  | @etWait a b c d e f g h m0 m1 bg x y m w i z m' _ _ _ _ ih =>
    cases w <;> simp only [cond, R.lv] at * <;> omega
  | @etNo a b c d e f g h m0 m1 bg x y m w i z m' _ _ _ _ ih =>
    cases w <;> simp only [cond, R.lv] at * <;> omega
  | @etFour a b c d e f g h m0 m1 bg x y m w i z m2 n fr m' ans _ _ _ _ _ _ ih1 ih2 =>
    cases w <;> simp only [cond, R.lv] at * <;> omega
  | @etFix a b c d e f g h m0 m1 bg x y m w i z m2 t0 b0 t' b' g' m' ans _ _ _ _ _ _ _ ih1 ih2 =>
    cases w <;> simp only [cond, R.lv] at * <;> omega
  | _ => simp only [R.lv] at * <;> omega
theorem foldl_min_mem : ∀ (l : List Int) (a : Int), l.foldl min a ∈ a :: l ∧ ∀ y ∈ a :: l, l.foldl min a ≤ y
  | [], a => by simp
  | b :: l, a => by
    rw [List.foldl_cons]
    obtain ⟨h1, h2⟩ := foldl_min_mem l (min a b)
    have h3 := h2 (min a b) (by simp)
    refine ⟨?_, fun y hy => ?_⟩
    · rcases List.mem_cons.mp h1 with h | h
      · rw [h]
        rcases Int.le_total a b with g | g
        · rw [Int.min_eq_left g]; simp
        · rw [Int.min_eq_right g]; simp
      · simp [h]
    · rcases List.mem_cons.mp hy with rfl | hy
      · omega
      · rcases List.mem_cons.mp hy with rfl | hy
        · omega
        · exact h2 y (by simp [hy])
theorem min_spec : ∀ (l : List Int) (a m : Int), m ∈ a :: l → (∀ y ∈ a :: l, m ≤ y) → l.foldl min a = m := fun l a m h hm => by
  obtain ⟨h1, h2⟩ := foldl_min_mem l a
  have := hm _ h1
  have := h2 _ h
  omega
theorem belowRest_spec {l : Int} {c0 : Int × Int} {q : Int} : ∀ {cs : List (Int × Int)}, belowRest l c0 cs = some q ↔ q = l ∧ ∀ c ∈ cs, ¬ (0 < (c.1 - (l + 1) * c.2) * c.2 ∨ ((c.1 - (l + 1) * c.2) * c.2 = 0 ∧ c.1 * c0.2 = c0.1 * c.2))
  | [] => by simp [belowRest, eq_comm]
  | (t, b) :: r => by
    unfold belowRest
    split
    · rename_i h
      constructor
      · intro z; cases z
      · intro z; exact absurd h (z.2 (t, b) (by simp))
    · rename_i h
      rw [belowRest_spec (cs := r)]
      constructor
      · rintro ⟨e, z⟩
        exact ⟨e, fun c hc => by
          rcases List.mem_cons.mp hc with rfl | hc
          · exact h
          · exact z c hc⟩
      · rintro ⟨e, z⟩
        exact ⟨e, fun c hc => z c (List.mem_cons_of_mem _ hc)⟩
theorem belowAll_spec {c0 : Int × Int} {r : List (Int × Int)} {q : Int} : belowAll (c0 :: r) = some q ↔ (∀ c ∈ c0 :: r, 0 < c.2 * c0.2) ∧ (∃ c ∈ c0 :: r, q = c.1.fdiv c.2) ∧ (∀ c ∈ c0 :: r, q ≤ c.1.fdiv c.2) ∧
    ∀ c ∈ c0 :: r, ¬ (0 < (c.1 - (q + 1) * c.2) * c.2 ∨ ((c.1 - (q + 1) * c.2) * c.2 = 0 ∧ c.1 * c0.2 = c0.1 * c.2)) := by
  unfold belowAll
  simp only
  obtain ⟨h1, h2⟩ := foldl_min_mem (r.map fun c => c.1.fdiv c.2) (c0.1.fdiv c0.2)
  split
  · rename_i h
    obtain ⟨c, hc, e⟩ := List.any_eq_true.mp h
    have := of_decide_eq_true e
    constructor
    · intro z; cases z
    · intro z; have := z.1 c hc; omega
  · rename_i h
    rw [belowRest_spec]
    have hp : ∀ c ∈ c0 :: r, 0 < c.2 * c0.2 := fun c hc => by
      rcases Int.lt_or_le 0 (c.2 * c0.2) with z | z
      · exact z
      · exact absurd (List.any_eq_true.mpr ⟨c, hc, by simpa using z⟩) h
    rw [← List.map_cons (f := fun c : Int × Int => c.1.fdiv c.2)] at h1 h2
    constructor
    · rintro ⟨rfl, z⟩
      refine ⟨hp, ?_, fun c hc => h2 _ (List.mem_map.mpr ⟨c, hc, rfl⟩), z⟩
      obtain ⟨c, hc, e⟩ := List.mem_map.mp h1
      exact ⟨c, hc, e.symm⟩
    · rintro ⟨_, ⟨c, hc, e⟩, z2, z3⟩
      have e2 : q = (r.map fun c => c.1.fdiv c.2).foldl min (c0.1.fdiv c0.2) := by
        refine (min_spec _ _ _ ?_ fun y hy => ?_).symm
        · rw [← List.map_cons (f := fun c : Int × Int => c.1.fdiv c.2)]
          exact List.mem_map.mpr ⟨c, hc, e.symm⟩
        · rw [← List.map_cons (f := fun c : Int × Int => c.1.fdiv c.2)] at hy
          obtain ⟨c, hc, rfl⟩ := List.mem_map.mp hy
          exact z2 c hc
      exact ⟨e2, by rw [← e2]; exact z3⟩
theorem fEq_nil {neg : Bool} {xs : List Int} {Ω : Om} {Q : AQ} (k : Q (.bl (if neg then !decide (xs = []) else decide (xs = []))) Ω) : fEq neg (.tup (xs.map D.int)) (.tup []) Ω Q := by
  obtain ⟨p, e1, e2, e3, e4⟩ := D.fits_py 1 (.tup (xs.map D.int)) (by simp only [D.fits]; exact fits_map (fun _ => by simp only [D.fits]) xs)
  have s : SeqAt.shaped p = true := by
    unfold SeqAt.shaped
    rw [e3, Bool.true_and]
    exact decide_eq_true (by omega)
  refine ⟨p, .tuple [], e1, rfl, s, rfl, ?_⟩
  have e : PyData.eqv p (.tuple []) = decide (xs = []) := by
    simp only [D.py, Option.map_eq_some_iff] at e1
    obtain ⟨ps, h, rfl⟩ := e1
    cases xs with
    | nil => simp only [List.map_nil, D.pys, Option.some.injEq] at h; subst h; simp [PyData.eqv, PyData.eqvAll]
    | cons x r =>
      simp only [List.map_cons, D.pys, D.py] at h
      cases q : D.pys (r.map D.int) with
      | none => rw [q] at h; cases h
      | some qs => rw [q] at h; simp only [Option.some.injEq] at h; subst h; simp [PyData.eqv, PyData.eqvAll]
  rw [e]
  exact k
theorem getD_at {xs : List Int} {i : Nat} (h : i < xs.length) {n : Int} (e : n = i) : atI (xs.map D.int) n = some (.int (xs.getD i 0)) := by
  subst e
  rw [atI_eq, List.getElem?_map, List.getElem?_eq_getElem h, List.getD_eq_getElem?_getD, List.getElem?_eq_getElem h]
  rfl
theorem getD_mem {xs : List Int} {i : Nat} (h : i < xs.length) : xs.getD i 0 ∈ xs := by
  rw [List.getD_eq_getElem?_getD, List.getElem?_eq_getElem h]
  exact List.getElem_mem h
inductive Tr where
  | frac (t b : Int)
  | root (t s b : Int)
  | ruled (ps ring steps : List Int)
  | four (a b c d : Int) (x : Tr)
  | eight (a b c d e f g h : Int) (x y : Tr)
  | power (x : Tr) (n : Int)
def Tr.d : Tr → D
  | .frac t b => .tup [.str "fraction", .int t, .int b]
  | .root t s b => .tup [.str "root", .int t, .int s, .int b]
  | .ruled ps ring steps => .tup [.str "ruled", dtup ps, dtup ring, dtup steps]
  | .four a b c d x => .tup [.str "four", dtup [a, b, c, d], x.d]
  | .eight a b c d e f g h x y => .tup [.str "eight", dtup [a, b, c, d, e, f, g, h], x.d, y.d]
  | .power x n => .tup [.str "power", x.d, .int n]
def Few (x : Int) : Prop := x.natAbs ≤ 10 ^ 12
/-- a tree as need_tree wants it, no deeper -/
def Tr.good : Nat → Tr → Prop
  | 0, _ => False
  | _ + 1, .frac t b => Few t ∧ Few b ∧ b ≠ 0
  | _ + 1, .root t s b => Few t ∧ Few s ∧ Few b ∧ 0 ≤ s ∧ b ≠ 0
  | _ + 1, .ruled ps ring steps => 1 ≤ ps.length ∧ ps.length ≤ 12 ∧ ring.length ≤ 12 ∧ ring.length = steps.length ∧ (∀ n ∈ ps ++ ring ++ steps, Few n) ∧ (∀ n ∈ ps.drop 1 ++ ring, 1 ≤ n) ∧ (∀ n ∈ steps, 0 ≤ n) ∧ (ring = [] → 1 < ps.length → ∀ n, ps.getLast? = some n → 2 ≤ n)
  | k + 1, .four a b c d x => Few a ∧ Few b ∧ Few c ∧ Few d ∧ a * d ≠ b * c ∧ Tr.good k x
  | k + 1, .eight a b c d e f g h x y => (∀ n ∈ [a, b, c, d, e, f, g, h], Few n) ∧ (b * e ≠ a * f ∨ c * e ≠ a * g ∨ c * f ≠ b * g ∨ d * e ≠ a * h ∨ d * f ≠ b * h ∨ d * g ≠ c * h) ∧ Tr.good k x ∧ Tr.good k y
  | k + 1, .power x n => 1 ≤ n ∧ n ≤ 4 ∧ Tr.good k x
def pows (x : R) : Nat → R
  | 0 => x
  | n + 1 => .eight 1 0 0 0 0 0 0 1 0 0 false x (pows x n)
def abI (b : Int) : Int := if b < 0 then -b else b
/-- how a tree's reader begins -/
inductive Opened : Tr → R → Prop
  | frac {t b} : Opened (.frac t b) (.frac 0 t b)
  | rootF {t s b f} : 0 ≤ f → f * f = s → Opened (.root t s b) (.frac 0 (t + f) b)
  | rootR {t s b f f'} : 0 ≤ f → f * f < s → s < (f + 1) * (f + 1) → 0 ≤ f' → f' * f' ≤ s * abI b * abI b → s * abI b * abI b < (f' + 1) * (f' + 1) → Opened (.root t s b) (.root 0 (t * abI b) (s * abI b * abI b) (b * abI b) f')
  | ruled {ps ring steps} : Opened (.ruled ps ring steps) (.ruled 0 ps ring steps)
  | four {a b c d x r} : Opened x r → Opened (.four a b c d x) (.four a b c d false false r)
  | eight {a b c d e f g h x y r q} : Opened x r → Opened y q → Opened (.eight a b c d e f g h x y) (.eight a b c d e f g h 0 0 false r q)
  | power {x n r} : Opened x r → Opened (.power x n) (pows r (n - 1).toNat)
/-- where a reader stands in its class -/
def CT.cls (C : CT) : Kd → List Addr
  | .fixed => [C.c_Fixed]
  | .leaf => [C.c_Fraction, C.c_Root, C.c_Ruled]
  | .four => [C.c_Four]
  | .eight => [C.c_Eight]
theorem RdO.obj {C : CT} {Ω : Om} {p : Addr} {r : R} {S : List Addr} (x : RdO C Ω p r S) : ∃ c fs, Ω p = some (.obj c fs) ∧ (∀ m, m = ("told" : Str) ∨ m = ("part" : Str) ∨ m = ("took" : Str) → m ∉ fs.map (·.1)) ∧ c ∈ C.cls r.kd := by
  cases x with
  | fixed e => exact ⟨_, _, e, fun m hm z => by simp only [List.map_cons, List.map_nil, List.mem_cons, List.not_mem_nil, or_false] at z; rcases hm with rfl | rfl | rfl <;> revert z <;> decide, by simp [CT.cls, R.kd]⟩
  | frac e => exact ⟨_, _, e, fun m hm z => by simp only [List.map_cons, List.map_nil, List.mem_cons, List.not_mem_nil, or_false] at z; rcases hm with rfl | rfl | rfl <;> revert z <;> decide, by simp [CT.cls, R.kd]⟩
  | root e => exact ⟨_, _, e, fun m hm z => by simp only [List.map_cons, List.map_nil, List.mem_cons, List.not_mem_nil, or_false] at z; rcases hm with rfl | rfl | rfl <;> revert z <;> decide, by simp [CT.cls, R.kd]⟩
  | ruled e => exact ⟨_, _, e, fun m hm z => by simp only [List.map_cons, List.map_nil, List.mem_cons, List.not_mem_nil, or_false] at z; rcases hm with rfl | rfl | rfl <;> revert z <;> decide, by simp [CT.cls, R.kd]⟩
  | four e => exact ⟨_, _, e, fun m hm z => by simp only [List.map_cons, List.map_nil, List.mem_cons, List.not_mem_nil, or_false] at z; rcases hm with rfl | rfl | rfl <;> revert z <;> decide, by simp [CT.cls, R.kd]⟩
  | fourX e => exact ⟨_, _, e, fun m hm z => by simp only [List.map_cons, List.map_nil, List.mem_cons, List.not_mem_nil, or_false] at z; rcases hm with rfl | rfl | rfl <;> revert z <;> decide, by simp [CT.cls, R.kd]⟩
  | eight e => exact ⟨_, _, e, fun m hm z => by simp only [List.map_cons, List.map_nil, List.mem_cons, List.not_mem_nil, or_false] at z; rcases hm with rfl | rfl | rfl <;> revert z <;> decide, by simp [CT.cls, R.kd]⟩
  | eightX e => exact ⟨_, _, e, fun m hm z => by simp only [List.map_cons, List.map_nil, List.mem_cons, List.not_mem_nil, or_false] at z; rcases hm with rfl | rfl | rfl <;> revert z <;> decide, by simp [CT.cls, R.kd]⟩
  | eightF e => exact ⟨_, _, e, fun m hm z => by simp only [List.map_cons, List.map_nil, List.mem_cons, List.not_mem_nil, or_false] at z; rcases hm with rfl | rfl | rfl <;> revert z <;> decide, by simp [CT.cls, R.kd]⟩
/-- parts taken of leaves -/
def R.tk : R → Nat
  | .fixed .. => 0
  | .frac k _ _ => k
  | .root k _ _ _ _ => k
  | .ruled k _ _ _ => k
  | .four _ _ _ _ _ _ x => x.tk
  | .fourX x _ _ _ => x.tk
  | .eight _ _ _ _ _ _ _ _ _ _ _ x y => x.tk + y.tk
  | .eightX x y _ _ _ => x.tk + y.tk
  | .eightF _ dead fr => dead.tk + fr.tk
theorem R.lv_leaf {r : R} (h : r.kd = .leaf) : r.lv = 3 := by cases r <;> first | rfl | cases h
theorem R.lv_fixed {r : R} (h : r.kd = .fixed) : r.lv = 1 := by cases r <;> first | rfl | cases h
theorem R.lv_four {r : R} (h : r.kd = .four) : 4 ≤ r.lv := by cases r <;> first | (simp only [R.lv]; omega) | cases h
theorem R.lv_eight {r : R} (h : r.kd = .eight) : 4 ≤ r.lv := by cases r <;> first | (simp only [R.lv]; omega) | cases h
theorem Mth.imp {P : Program} {w : World} {K : PySem.W.Frag} {mg : Str → Option Value} {base : Heap} {ca : CA} {k : Nat} {C : Addr} {m : Str} {F F' : AF} (c : Mth P w K mg base ca k C m F) (h : ∀ ds Ω Q E, F' ds Ω Q E → F ds Ω Q E) : Mth P w K mg base ca k C m F' := by
  obtain ⟨f, fd, ps, M, G, b⟩ := c.ex
  exact ⟨f, fd, ps, M, G.imp (spA_imp h), b⟩
theorem cut_from {xs : List D} (k : Nat) : cutD xs (some (k : Int)) none = xs.drop k := by
  unfold cutD
  rw [HT.sIx_nat, HT.sIx_none]
  by_cases h : k ≤ xs.length
  · rw [Nat.min_eq_left h, List.take_of_length_le (by rw [List.length_drop]; omega)]
  · rw [Nat.min_eq_right (by omega), List.drop_length, List.drop_eq_nil_of_le (by omega)]
    simp
theorem cut_1 {xs : List D} : cutD xs (some 1) none = xs.drop 1 := cut_from 1
theorem cut_4 {xs : List D} : cutD xs (some 4) none = xs.drop 4 := cut_from 4
theorem at_of {X : Cx} {ca : CA} {W : WX} {op : CmpOp} {a b : Expr} {ta tb : TE} {ra rb : ATE} {pos : Pos} {r : R2} {f : D → D → Om → AQ → Prop} (ho : OpR X (compareOp op) r) (ha : AE X ca W a ta ra) (hb : AE X ca W b tb rb) (hm : behindInMarks op b = false) (he : AE X ca W (.Compare a [op] [b] pos) (tOp r ta tb) (aOp f ra rb)) :
    AT X ca W (.Compare a [op] [b] pos) (tTest (tOp r ta tb)) (aB (aOp f ra rb)) :=
  ⟨pt_cmpR ho ha.pe hb.pe hm, fun σ H G own ρ Ω Wa Qa Qc r s h k kx => he.sim σ H G own ρ Ω Wa _ _ r s h (fun v H1 G1 own1 d Ω1 e1 r1 dv1 q1 => by
    obtain ⟨c, rfl, q⟩ := q1
    cases dv1
    exact ⟨c, rfl, k _ _ _ _ _ e1 r1 q⟩) kx⟩
theorem at_eqS {X : Cx} {ca : CA} {W : WX} {a b : Expr} {ta tb : TE} {ra rb : ATE} {pos : Pos} (ha : AE X ca W a ta ra) (hb : AE X ca W b tb rb) : AT X ca W (.Compare a [.Eq] [b] pos) (tTest (tOp rEq ta tb)) (aB (aEqS ra rb)) := at_of op_eq ha hb (nomark _) (ae_eqS ha hb)
theorem at_neS {X : Cx} {ca : CA} {W : WX} {a b : Expr} {ta tb : TE} {ra rb : ATE} {pos : Pos} (ha : AE X ca W a ta ra) (hb : AE X ca W b tb rb) : AT X ca W (.Compare a [.NotEq] [b] pos) (tTest (tOp rNe ta tb)) (aB (aNeS ra rb)) := at_of op_ne ha hb (nomark _) (ae_neS ha hb)
theorem rngD_succ {n : Int} {k : Nat} : rngD n (k + 1) = .int n :: rngD (n + 1) k := by
  unfold rngD
  rw [List.range_succ_eq_map, List.map_cons, List.map_map]
  congr 1
  · simp
  · refine List.map_congr_left fun i _ => ?_
    simp only [Function.comp]
    congr 1
    omega
end PL
namespace PL
open PySem PySem.Spec PyProof.Rows L2
theorem div_of {P : Program} {w : World} {K : PySem.W.Frag} {mg : Str → Option Value} {base : Heap} {N : List Str} {qual : Str} {scope : Scope} {f : Addr} {cdv : Value} {A : Around} {outer : List Env} {s : Shared} {H : Hp} {E : XK} {k : Nat} [sr : Seer P base]
    (hr : Rm k (A.deeper (PyProof.Rows.envOfC qual scope s.heap.objs.size f cdv))) (hg : scope.isGenerator = false := by rfl) (hc : scope.isCoroutine = false := by rfl) : Div (cxOf (L2.CX P w) P w K mg base N qual scope f cdv A outer s H E) :=
  ⟨sr.no, sr.tree, ⟨_, _, rfl, hg, hc, rfl, rfl⟩, by have := hr.dp; show (A.deeper (PyProof.Rows.envOfC qual scope s.heap.objs.size f cdv)).depth + 100 < recursionLimit; omega⟩
instance seer_cx {CX : CXT} {P : Program} {w : World} {K : PySem.W.Frag} {mg : Str → Option Value} {base : Heap} {N : List Str} {qual : Str} {scope : Scope} {f : Addr} {cdv : Value} {A : Around} {outer : List Env} {s : Shared} {H : Hp} {E : XK} [sr : Seer P base] : Seer (cxOf CX P w K mg base N qual scope f cdv A outer s H E).prog (cxOf CX P w K mg base N qual scope f cdv A outer s H E).base := sr
instance seer_blk {X : Cx} {scope : Scope} {s : Shared} {H : Hp} {C : Addr} {cl : List (Str × Addr)} {fp : List Addr} [sr : Seer X.prog X.base] : Seer (Blk X scope s H C cl fp).prog (Blk X scope s H C cl fp).base := sr
theorem div_blk {X : Cx} {scope : Scope} {s : Shared} {H : Hp} {C : Addr} {cl : List (Str × Addr)} {fp : List Addr} (d : Div X) : Div (Blk X scope s H C cl fp) := ⟨d.no, d.tree, d.top, d.dp⟩
section
variable {P : Program} {w : World} {K : PySem.W.Frag} {mg mb : Str → Option Value} {CX : CXT} {k : Nat} {fa a : Addr} {fd : FuncData} {x : Str} {sp : Sp} {s : Shared} {vs : List Value} {ns : List Int}
/-- what is hidden holds no namespace, no module and no record of the text's own -/
theorem hid_ns {H : Hp} (hl : ∀ b u, H b = some u → ∃ o, s.heap.get? b = some o ∧ ∃ us n, o.data = .seq us n) {b : Addr} {m : Str → Option Value} (h : s.heap.Ns b m) : (hidT s.heap H).Ns b m := by
  obtain ⟨o, es, ep, e, d, r⟩ := h
  refine ⟨o, es, ep, hidT_get e ?_, d, r⟩
  cases q : H b with
  | none => rfl
  | some u =>
    obtain ⟨o', e', us, n, d'⟩ := hl b u q
    rw [e] at e'
    cases e'
    rw [d] at d'
    cases d'
theorem hid_seer {H : Hp} (hl : ∀ b u, H b = some u → ∃ o, s.heap.get? b = some o ∧ o.cls = .type "list" ∧ ∃ us n, o.data = .seq us n) (h : s.heap.NoSeer) : (hidT s.heap H).NoSeer := by
  have hl' : ∀ b u, H b = some u → ∃ o, s.heap.get? b = some o ∧ ∃ us n, o.data = .seq us n := fun b u q => by
    obtain ⟨o, e, _, r⟩ := hl b u q
    exact ⟨o, e, r⟩
  obtain ⟨⟨mc, c1, c2⟩, ⟨mm, m1, m2⟩, ⟨mb, b1, b2⟩, ⟨mg, bm, ob, g1, g2, g3, g4, g5⟩⟩ := h
  refine ⟨⟨mc, hid_ns hl' c1, c2⟩, ⟨mm, hid_ns hl' m1, m2⟩, ⟨mb, hid_ns hl' b1, b2⟩, ⟨mg, bm, ob, hid_ns hl' g1, g2, hidT_get g3 ?_, g4, g5⟩⟩
  cases q : H bm with
  | none => rfl
  | some u =>
    obtain ⟨o', e', c', _⟩ := hl bm u q
    rw [g3] at e'
    cases e'
    rw [g4] at c'
    exact absurd c' (by simp)
/-- the heap in which the script alone may be followed -/
def scriptH (K : PySem.W.Frag) (a : Addr) (u : HO) : Hp := fun b => if b = a ∧ K.lookup a = none then some u else none
theorem scriptH_at {K : PySem.W.Frag} {a b : Addr} {u v : HO} (h : scriptH K a u b = some v) : b = a ∧ K.lookup a = none ∧ v = u := by
  unfold scriptH at h
  split at h
  · rename_i z
    cases h
    exact ⟨z.1, z.2, rfl⟩
  · cases h
theorem seer_call (KX : K.In s.heap) (hns : s.heap.Ns mainGlobals mg) (hb : s.heap.Ns builtinsNs mb) (hbb : ∀ y : Str, y ≠ "__name__" → mb y = bootBuiltins y) (hlim : s.heap.NoLimit) (hse : s.heap.NoSeer) (hg : s.gens = #[])
    (ha : s.heap.get? a = some { cls := .type "list", data := .seq vs.toArray }) (hi : IntsAre vs ns) (hl : ns.length ≤ sizeLine) (hr : Room k callerA)
    (F : ∀ base : Heap, K.In base → base.Ns mainGlobals mg → base.NoSeer → FnOk P w K mg base CX k fa fd [x] sp) (hbind : ∀ (s : Shared) (u : Value), BindsTo s fd ⟨[u], []⟩ [(x, u)])
    (hsp : ∀ H : Hp, Only H → SqL K H a (ns.map V.int) → sp [.ref a] H (fun v _ => v = .bl true) fun _ _ _ => False) (hCX : ∀ H e s', CX [] H s (fun _ _ _ => False) e s' → False) :
    codeAny (model P w) callerA (.call (.ref fa) ⟨[.ref a], []⟩) (fun r s' => r = .ok (.ret (.bool true)) ∧ PySem.OldK s.heap s'.heap ∧ s'.os = s.os ∧ AllBare s'.gens) s := by
  let so : Obj := { cls := .type "list", data := .seq vs.toArray }
  let U : HO := .frz so (.lst (ns.map V.int))
  let H := scriptH K a U
  have rv := vals_ints hi
  have at_ : ∀ {b u}, H b = some u → b = a ∧ K.lookup a = none ∧ u = U := fun q => scriptH_at q
  have hlist : ∀ b u, H b = some u → ∃ o, s.heap.get? b = some o ∧ o.cls = .type "list" ∧ ∃ us n, o.data = .seq us n := fun b u q => by
    obtain ⟨rfl, _, _⟩ := at_ q
    exact ⟨_, ha, rfl, _, _, rfl⟩
  have hlist' : ∀ b u, H b = some u → ∃ o, s.heap.get? b = some o ∧ ∃ us n, o.data = .seq us n := fun b u q => by
    obtain ⟨rfl, _, _⟩ := at_ q
    exact ⟨_, ha, _, _, rfl⟩
  have only : Only H := fun b => by
    cases q : H b with
    | none => exact .inl rfl
    | some u =>
      obtain ⟨_, _, rfl⟩ := at_ q
      exact .inr ⟨so, _, rfl⟩
  have seq : SqL K H a (ns.map V.int) := by
    cases q : K.lookup a with
    | none => exact .inl (.inr ⟨so, if_pos ⟨rfl, q⟩⟩)
    | some o =>
      have e := KX a o q
      rw [ha] at e
      cases e
      exact .inr ⟨_, vs.toArray, _, q, rfl, rfl, rfl, by rw [List.size_toArray, hi.length]; exact hl, by simpa using rv⟩
  have ok : HOk P w H s.heap := fun b u q => by
    obtain ⟨rfl, _, rfl⟩ := at_ q
    exact ⟨ha, by rw [List.length_map]; exact hl, vs, _, rv, ha⟩
  have kin : K.In (hidT s.heap H) := fun b o e => hidT_get (KX b o e) (by
    cases q : H b with
    | none => rfl
    | some u =>
      obtain ⟨rfl, z, _⟩ := at_ q
      rw [z] at e
      cases e)
  have lim : (hidT s.heap H).NoLimit := by
    obtain ⟨mc, h1, h2⟩ := hlim
    exact ⟨mc, hid_ns hlist' h1, h2⟩
  have e0 : Env0 P w K mg (hidT s.heap H) callerA [] s H := { frames := rfl, mod := ⟨kin, hid_ns hlist' hns, ⟨mb, hid_ns hlist' hb, hbb⟩, lim⟩, bs := fun b o e => of_hidT e, bsz := Nat.le_of_eq (hidT_size _ _), funs := trivial, frf := fun b z => absurd z (by simp [frs]), hok := ok, bare := .of_eq hg }
  have run := (F (hidT s.heap H) kin (hid_ns hlist' hns) (hid_seer hlist hse)).run callerA [] s H ⟨[.ref a], []⟩ [.ref a] [.ref a] (fun v _ => v = .bl true) (fun _ _ _ => False) hr e0 (hbind s _) (.cons rfl .nil) (hsp H only seq)
  refine codeAny_mono run fun r s' q => ?_
  match r, q with
  | .error e, q => exact (hCX H e s' q).elim
  | .ok .next, q => exact q.elim
  | .ok .brk, q => exact q.elim
  | .ok .cont, q => exact q.elim
  | .ok (.ret u), q =>
    obtain ⟨v, H', os, bare, un, ok', rr, rfl⟩ := q
    obtain rfl : u = Value.bool true := rr
    refine ⟨rfl, PySem.OldK.of_keep fun b o e => ?_, os, bare⟩
    cases q : H b with
    | none => exact un.keep b o e q (by simp [frs]) (by simp)
    | some u =>
      obtain ⟨rfl, _, rfl⟩ := at_ q
      obtain ⟨z1, _⟩ := ok _ _ q
      obtain ⟨z2, _⟩ := ok' _ _ (un.frzs _ so _ q)
      rw [e] at z1
      cases z1
      exact z2
end
theorem pl_walkS {l : PySem.W.OpenLaw} {k : Nat} {q : Program} {loose : List Str} {XP : (Str → Option Value) → Heap → Prop} {YP : World → Heap → Prop} {d : DefRec} {K : Params → PySem.W.Frag} (ca : PySem.W.Frag → CA)
    (hn : l.most = some 63) (hdf : d.params.defaults = []) (hr : Room k callerA) (hq : importsNone q = true) (ht : l.prog.given.tree = none) (hY : ∀ (w : World) (h : Heap), YP w h → (K w.params).In h)
    (F : ∀ (w : World) (mg : Str → Option Value) (fa : Addr) (h : Heap), (K w.params).In h → h.Ns mainGlobals mg → mg d.name = some (.ref fa) →
      ∃ fd : FuncData, (∀ (s : Shared) (u : Value), BindsTo s fd ⟨[u], []⟩ [("_law_script", u)]) ∧
        ∀ base : Heap, (K w.params).In base → base.Ns mainGlobals mg → Seer l.prog base → FnOk l.prog w (K w.params) mg base (L2.CX l.prog w) k fa fd ["_law_script"] (spA (K w.params) (ca (K w.params)) F_law)) :
    PySem.W.WalkO q loose XP YP l.row.toRowW d [] (fun f vs => PySem.call f vs) := by
  refine Att.attach_call hn hdf fun w s₀ s1 mg mb fa o pm cd doc a vs ns G Y ho hd hcd hmg hobj hints hlen hg => ?_
  have KX := hY w _ Y
  obtain ⟨fd, hb, hF⟩ := F w mg fa _ KX G.T.g hmg
  refine seer_call KX G.T.g G.T.b G.T.builtins G.T.nolimit (G.T.seer hq) hg hobj hints (Nat.le_trans hlen (show 63 ≤ sizeLine by rw [sizeLine_eq]; decide)) hr (fun base h1 h2 h3 => hF base h1 h2 ⟨h3, ht⟩) hb (fun H hO hS => ?_) fun H e s' z => ?_
  · refine ⟨H, fun _ => none, fun _ => none, [.lst (ns.map D.int)], fun d _ => d = .bl true, fun _ _ => False, only_rel, .cons (.lst hS (DVs.of_ints ns)) .nil, ⟨ns, rfl, hlen, fun _ => rfl⟩, ?_, fun _ _ _ _ _ _ _ z => z⟩
    rintro v H' G' own' d Ω' e r dv rfl
    cases dv
    rfl
  · obtain ⟨_, _, _, _, _, _, _, _, _, _, _, _, z⟩ := z
    exact z
end PL
namespace PL
theorem sq0 (x : Int) : 0 ≤ x * x := by
  rcases Int.le_total 0 x with h | h
  · exact Int.mul_nonneg h h
  · exact Int.mul_nonneg_of_nonpos_of_nonpos h h
/-- a seminorm of (top, below) -/
def Ls (k1 k0 : Nat) (t b : Int) : Nat := k1 * t.natAbs + k0 * b.natAbs
theorem Ls_add {k1 k0 : Nat} {t b t' b' : Int} : Ls k1 k0 (t + t') (b + b') ≤ Ls k1 k0 t b + Ls k1 k0 t' b' := by
  unfold Ls
  have h1 := Nat.mul_le_mul_left k1 (Int.natAbs_add_le t t')
  have h2 := Nat.mul_le_mul_left k0 (Int.natAbs_add_le b b')
  rw [Nat.mul_add] at h1 h2
  omega
theorem Ls_mul {k1 k0 : Nat} {t b q : Int} : Ls k1 k0 (t * q) (b * q) = q.natAbs * Ls k1 k0 t b := by
  unfold Ls
  rw [Int.natAbs_mul, Int.natAbs_mul]
  generalize t.natAbs = x
  generalize b.natAbs = y
  generalize q.natAbs = z
  grind
/-- what was told, in short: ahead of the first part (1, 4) -/
def gs (bg : Bool) (k1 k0 : Nat) (q : Int) : Nat × Nat := if bg = true then (k1 * q.toNat + k0, k1) else if 1 ≤ q then (q.toNat + 4, 1) else (q.natAbs + 2, 1)
theorem abs_split {t b r q : Int} (hq : 1 ≤ q) (h : t = q * b + r) (hr : 0 ≤ r * b) (hb : b ≠ 0) : t.natAbs = q.toNat * b.natAbs + r.natAbs := by
  rcases Int.lt_or_gt_of_ne hb with z | z
  · have hr0 : r ≤ 0 := by
      rcases Int.lt_or_le 0 r with g | g
      · have := Int.mul_neg_of_pos_of_neg g z
        omega
      · exact g
    have h1 : q * b ≤ 0 := Int.mul_nonpos_of_nonneg_of_nonpos (by omega) (by omega)
    have h2 : (q * b).natAbs = q.toNat * b.natAbs := by rw [Int.natAbs_mul]; congr 1; omega
    omega
  · have hr0 : 0 ≤ r := by
      rcases Int.lt_or_le r 0 with g | g
      · have := Int.mul_neg_of_neg_of_pos g z
        omega
      · exact g
    have h1 : 0 ≤ q * b := Int.mul_nonneg (by omega) (by omega)
    have h2 : (q * b).natAbs = q.toNat * b.natAbs := by rw [Int.natAbs_mul]; congr 1; omega
    omega
/-- a corner behind a part -/
structure Rem (t b q : Int) : Prop where
  b0 : b ≠ 0
  lo : 0 ≤ (t - q * b) * b
  hi : (t - q * b) * b ≤ b * b
theorem Rem.le {t b q : Int} (h : Rem t b q) : (t - q * b).natAbs ≤ b.natAbs := by
  obtain ⟨b0, lo, hi⟩ := h
  generalize t - q * b = r at lo hi ⊢
  rcases Int.lt_or_gt_of_ne b0 with z | z
  · have h1 : r ≤ 0 := by
      rcases Int.lt_or_le 0 r with g | g
      · have := Int.mul_neg_of_pos_of_neg g z
        omega
      · exact g
    have h2 : b ≤ r := by
      rcases Int.lt_or_le r b with g | g
      · have := Int.mul_lt_mul_of_neg_right g z
        omega
      · exact g
    omega
  · have h1 : 0 ≤ r := by
      rcases Int.lt_or_le r 0 with g | g
      · have := Int.mul_neg_of_neg_of_pos g z
        omega
      · exact g
    have h2 : r ≤ b := by
      rcases Int.lt_or_le b r with g | g
      · have := Int.mul_lt_mul_of_pos_right g z
        omega
      · exact g
    omega
theorem rem_of {c c0 : Int × Int} {q : Int} (h1 : 0 < c.2 * c0.2) (h2 : q ≤ c.1.fdiv c.2) (h3 : ¬ (0 < (c.1 - (q + 1) * c.2) * c.2 ∨ ((c.1 - (q + 1) * c.2) * c.2 = 0 ∧ c.1 * c0.2 = c0.1 * c.2))) : Rem c.1 c.2 q := by
  have b0 : c.2 ≠ 0 := fun e => by rw [e, Int.zero_mul] at h1; omega
  have e1 := Int.mul_fdiv_add_fmod c.1 c.2
  have e2 : 0 ≤ c.1.fmod c.2 * c.2 := by
    rcases Int.lt_or_gt_of_ne b0 with z | z
    · exact Int.mul_nonneg_of_nonpos_of_nonpos (fmod_neg' z).2 (by omega)
    · exact Int.mul_nonneg (Int.fmod_nonneg_of_pos _ z) (by omega)
  refine ⟨b0, ?_, ?_⟩
  · generalize c.1.fmod c.2 = r at e1 e2
    generalize c.1.fdiv c.2 = d at e1 h2
    have e3 : (c.1 - q * c.2) * c.2 = (d - q) * (c.2 * c.2) + r * c.2 := by rw [← e1]; grind
    have e4 : 0 ≤ (d - q) * (c.2 * c.2) := Int.mul_nonneg (by omega) (sq0 _)
    omega
  · have e5 : (c.1 - (q + 1) * c.2) * c.2 = (c.1 - q * c.2) * c.2 - c.2 * c.2 := by grind
    rw [e5] at h3
    omega
theorem gs_first {t b q : Int} (h : Rem t b q) : Ls (gs false 1 4 q).1 (gs false 1 4 q).2 b (t - q * b) ≤ Ls 1 4 t b := by
  have hle := h.le
  obtain ⟨b0, lo, hi⟩ := h
  unfold gs Ls
  simp only [Bool.false_eq_true, if_false]
  by_cases hq : 1 ≤ q
  · rw [if_pos hq]
    have := abs_split hq (t := t) (b := b) (r := t - q * b) (by omega) lo b0
    simp only [Nat.add_mul]
    omega
  · rw [if_neg hq]
    simp only [Nat.add_mul]
    have h1 : (q * b).natAbs = q.natAbs * b.natAbs := Int.natAbs_mul ..
    have h2 : t.natAbs + (t - q * b).natAbs ≥ (q * b).natAbs := by omega
    rw [h1] at h2
    omega
theorem gs_next {k1 k0 : Nat} {t b q : Int} (hq : 1 ≤ q) (h : Rem t b q) : Ls (gs true k1 k0 q).1 (gs true k1 k0 q).2 b (t - q * b) = Ls k1 k0 t b := by
  have := abs_split hq (t := t) (b := b) (r := t - q * b) (by omega) h.lo h.b0
  unfold gs Ls
  simp only [if_true]
  rw [this]
  generalize q.toNat = x
  generalize b.natAbs = y
  generalize (t - q * b).natAbs = z
  grind
/-- begun: tops and belows on one side -/
structure Bgn (s t b : Int) : Prop where
  lo : 0 ≤ s * b
  hi : s * b ≤ s * t
  ps : 0 < s * t
def Sg (s : Int) : Prop := s = 1 ∨ s = -1
theorem Bgn.muladd {s t b t' b' q : Int} (hq : 0 ≤ q) (h : Bgn s t b) (h' : Bgn s t' b') : Bgn s (t * q + t') (b * q + b') := by
  obtain ⟨h1, h2, h3⟩ := h
  obtain ⟨g1, g2, g3⟩ := h'
  have e1 : s * (t * q + t') = s * t * q + s * t' := by grind
  have e2 : s * (b * q + b') = s * b * q + s * b' := by grind
  have e3 := Int.mul_nonneg h1 hq
  have e4 := Int.mul_le_mul_of_nonneg_right h2 hq
  refine ⟨?_, ?_, ?_⟩
  · rw [e2]; omega
  · rw [e1, e2]; omega
  · rw [e1]; omega
/-- the side behind a part -/
theorem Rem.bgn {t b q : Int} (h : Rem t b q) {s : Int} (hs : Sg s) (hb : 0 < s * b) : Bgn s b (t - q * b) := by
  obtain ⟨b0, lo, hi⟩ := h
  generalize t - q * b = r at lo hi ⊢
  rcases hs with rfl | rfl
  · simp only [Int.one_mul] at *
    refine ⟨?_, ?_, ?_⟩ <;> simp only [Int.one_mul]
    · rcases Int.lt_or_le r 0 with g | g
      · have := Int.mul_neg_of_neg_of_pos g hb
        omega
      · exact g
    · rcases Int.lt_or_le b r with g | g
      · have := Int.mul_lt_mul_of_pos_right g hb
        omega
      · exact g
    · exact hb
  · have hb' : b < 0 := by omega
    refine ⟨?_, ?_, ?_⟩
    · rcases Int.lt_or_le 0 r with g | g
      · have := Int.mul_neg_of_pos_of_neg g hb'
        omega
      · omega
    · rcases Int.lt_or_le r b with g | g
      · have := Int.mul_lt_mul_of_neg_right g hb'
        omega
      · omega
    · omega
theorem Bgn.floor {s t b : Int} (hs : Sg s) (h : Bgn s t b) (b0 : b ≠ 0) : 1 ≤ t.fdiv b := by
  obtain ⟨h1, h2, h3⟩ := h
  have e1 := Int.mul_fdiv_add_fmod t b
  have e2 := fmod_lt (t := t) b0
  generalize t.fdiv b = d at e1 ⊢
  rcases Int.lt_or_le 0 d with z | z
  · exact z
  · exfalso
    rcases hs with rfl | rfl
    · have hb : 0 < b := by omega
      have e3 : t.fmod b < b := Int.fmod_lt_of_pos _ hb
      have e4 := Int.mul_nonpos_of_nonneg_of_nonpos (a := b) (b := d) (by omega) (by omega)
      omega
    · have hb : b < 0 := by omega
      have e3 := (fmod_neg' (t := t) hb).1
      have e4 := Int.mul_nonneg_of_nonpos_of_nonpos (a := b) (b := d) (by omega) (by omega)
      omega
/-- a root behind its first part: the next part is 1 or more -/
def RtB (t b f : Int) : Prop := (0 < b ∧ b ≤ t + f) ∨ (b < 0 ∧ t + f + 1 ≤ b)
structure RtI (t s b f : Int) : Prop where
  f0 : 0 ≤ f
  lo : f * f < s
  hi : s < (f + 1) * (f + 1)
  b0 : b ≠ 0
  dv : ∃ e, b * e = s - t * t
theorem rt_part (t b f : Int) (b0 : b ≠ 0) : ∃ ρ : Int, t + f + (if b < 0 then 1 else 0) = (t + f + (if b < 0 then 1 else 0)).fdiv b * b + ρ ∧ (0 < b → 0 ≤ ρ ∧ ρ < b) ∧ (b < 0 → ρ ≤ 0 ∧ b < ρ) := by
  refine ⟨(t + f + (if b < 0 then 1 else 0)).fmod b, ?_, fun h => ⟨Int.fmod_nonneg_of_pos _ h, Int.fmod_lt_of_pos _ h⟩, fun h => ⟨(fmod_neg' h).2, (fmod_neg' h).1⟩⟩
  have := Int.mul_fdiv_add_fmod (t + f + (if b < 0 then 1 else 0)) b
  rw [Int.mul_comm] at this
  exact this.symm
theorem rt_next {t s b f q t' b' : Int} (h : RtI t s b f) (hq : q = (t + f + (if b < 0 then 1 else 0)).fdiv b) (ht : t' = q * b - t) (hb : b' = (s - t' * t').fdiv b) :
    RtI t' s b' f ∧ RtB t' b' f ∧ b * b' = s - t' * t' ∧ t'.natAbs ≤ f.toNat + 1 + b.natAbs ∧ b'.natAbs ≤ 2 * f.toNat + 2 + b.natAbs := by
  obtain ⟨f0, lo, hi, b0, e, he⟩ := h
  obtain ⟨ρ, h1, h2, h3⟩ := rt_part t b f b0
  rw [← hq] at h1
  -- b divides
  have hd : b * b' = s - t' * t' := by
    have hx : s - t' * t' = b * (e - q * (q * b - 2 * t)) := by rw [ht]; grind
    rw [hb, hx, Int.mul_fdiv_cancel_left _ b0]
  have tl : t'.natAbs ≤ f.toNat + 1 + b.natAbs := by
    rcases Int.lt_or_gt_of_ne b0 with z | z
    · rw [if_pos z] at h1
      have := h3 z
      omega
    · rw [if_neg (by omega)] at h1
      have := h2 z
      omega
  have key : RtB t' b' f ∧ b'.natAbs ≤ 2 * f.toNat + 2 + b.natAbs := by
    rcases Int.lt_or_gt_of_ne b0 with z | z
    · -- below nought
      rw [if_pos z] at h1
      obtain ⟨r1, r2⟩ := h3 z
      have e1 : t' = f + 1 - ρ := by omega
      have x1 : (-b) * b' = t' * t' - s := by rw [Int.neg_mul]; omega
      have x2 : t' * t' - s < (1 - ρ) * (t' + f) := by
        have : (1 - ρ) * (t' + f) = t' * t' - f * f := by rw [e1]; grind
        omega
      have x3 : (1 - ρ) * (t' + f) ≤ (-b) * (t' + f) := Int.mul_le_mul_of_nonneg_right (by omega) (by omega)
      have x4 : (-b) * b' < (-b) * (t' + f) := by omega
      have x5 : b' < t' + f := Int.lt_of_mul_lt_mul_left x4 (by omega)
      have x6 : 0 < (-b) * b' := by
        have : (f + 1) * (f + 1) ≤ t' * t' := Int.mul_le_mul (by omega) (by omega) (by omega) (by omega)
        omega
      have x7 : 0 < b' := Int.pos_of_mul_pos_right x6 (by omega)
      exact ⟨.inl ⟨x7, by omega⟩, by omega⟩
    · rw [if_neg (by omega)] at h1
      obtain ⟨r1, r2⟩ := h2 z
      have e1 : t' = f - ρ := by omega
      rcases Int.lt_or_le (t' + f) 0 with g | g
      · have x2 : t' * t' - s < ((-t') - f) * ρ := by
          have : ((-t') - f) * ρ = t' * t' - f * f := by
            have : ρ = f - t' := by omega
            rw [this]; grind
          omega
        have x3 : ((-t') - f) * ρ ≤ ((-t') - f) * b := Int.mul_le_mul_of_nonneg_left (by omega) (by omega)
        have x4 : b * (-b') < b * ((-t') - f) := by
          have : b * (-b') = t' * t' - s := by rw [Int.mul_neg]; omega
          have : b * ((-t') - f) = ((-t') - f) * b := Int.mul_comm ..
          omega
        have x5 : (-b') < (-t') - f := Int.lt_of_mul_lt_mul_left x4 (by omega)
        have x6 : 0 < b * (-b') := by
          have h5 : (f + 1) * (f + 1) ≤ (-t') * (-t') := Int.mul_le_mul (by omega) (by omega) (by omega) (by omega)
          have : b * (-b') = t' * t' - s := by rw [Int.mul_neg]; omega
          have : (-t') * (-t') = t' * t' := by grind
          omega
        have x7 : 0 < -b' := Int.pos_of_mul_pos_right x6 (by omega)
        exact ⟨.inr ⟨by omega, by omega⟩, by omega⟩
      · have x1 : t' ≤ f := by omega
        have x2 : s - t' * t' < (ρ + 1) * (f + 1 + t') := by
          have : (ρ + 1) * (f + 1 + t') = (f + 1) * (f + 1) - t' * t' := by
            have : ρ = f - t' := by omega
            rw [this]; grind
          omega
        have x3 : (ρ + 1) * (f + 1 + t') ≤ b * (f + 1 + t') := Int.mul_le_mul_of_nonneg_right (by omega) (by omega)
        have x4 : b * b' < b * (f + 1 + t') := by omega
        have x5 : b' < f + 1 + t' := Int.lt_of_mul_lt_mul_left x4 (by omega)
        have x6 : 0 < b * b' := by
          have : t' * t' ≤ f * f := by
            rcases Int.le_total 0 t' with y | y
            · exact Int.mul_le_mul x1 x1 y f0
            · have : (-t') * (-t') ≤ f * f := Int.mul_le_mul (by omega) (by omega) (by omega) f0
              have : (-t') * (-t') = t' * t' := by grind
              omega
          omega
        have x7 : 0 < b' := Int.pos_of_mul_pos_right x6 (by omega)
        exact ⟨.inl ⟨x7, by omega⟩, by omega⟩
  have nb : b' ≠ 0 := by
    rcases key.1 with ⟨z, _⟩ | ⟨z, _⟩ <;> omega
  exact ⟨⟨f0, lo, hi, nb, b, by rw [Int.mul_comm]; exact hd⟩, key.1, hd, tl, key.2⟩
theorem rt_one {t b f : Int} (h : RtB t b f) : 1 ≤ (t + f + (if b < 0 then 1 else 0)).fdiv b := by
  rcases h with ⟨h1, h2⟩ | ⟨h1, h2⟩
  · rw [if_neg (by omega)]
    exact Bgn.floor (s := 1) (.inl rfl) ⟨by omega, by omega, by omega⟩ (by omega)
  · rw [if_pos h1]
    exact Bgn.floor (s := -1) (.inr rfl) ⟨by omega, by omega, by omega⟩ (by omega)
/-- a leaf, its parts short of P bits, for KM parts -/
def LfI (P KM : Nat) : R → Prop
  | .frac k t b => t.natAbs + 2 ≤ 2 ^ P ∧ b.natAbs + 2 ≤ 2 ^ P ∧ (k = 0 → b ≠ 0) ∧ (0 < k → ∃ s, Sg s ∧ Bgn s t b)
  | .root k t s b f => RtI t s b f ∧ (0 < k → RtB t b f) ∧ Sm s ∧ ∃ W, b.natAbs + (KM - k) * (2 * f.toNat + 2) ≤ W ∧ t.natAbs ≤ W ∧ 2 * W + 2 * f.toNat + 4 ≤ 2 ^ P
  | .ruled _ ps ring steps => 1 ≤ ps.length ∧ ps.length < 2 ^ 60 ∧ ring.length < 2 ^ 60 ∧ steps.length = ring.length ∧ (∀ n ∈ ps.drop 1 ++ ring, 1 ≤ n) ∧ (∀ n ∈ steps, 0 ≤ n) ∧ (∀ n ∈ ps ++ ring, n.natAbs + 2 ≤ 2 ^ P) ∧ ∀ n ∈ ring, ∀ m ∈ steps, n.natAbs + KM * m.natAbs + 2 ≤ 2 ^ P
  | _ => False
theorem LfI.kd {P KM : Nat} {r : R} (h : LfI P KM r) : r.kd = .leaf := by cases r <;> first | rfl | exact h.elim
theorem sm_p {x : Int} {P : Nat} (h : x.natAbs + 2 ≤ 2 ^ P) (hP : P ≤ 289900) : Sm x := by
  have : 2 ^ P ≤ 2 ^ 290000 := Nat.pow_le_pow_right (by decide) (by omega)
  unfold Sm
  omega
theorem leaf_step {P KM : Nat} (hP : P ≤ 289900) {r : R} (h : LfI P KM r) (hk : r.tk < KM) (hK : KM < 2 ^ 50) : (0 < r.tk ∧ ∀ m, Told 0 r m r m .fin) ∨
    (Told 0 r 0 r 0 .waits ∧ ∃ q r', (∀ m : Int, m ≠ 0 → Told 0 r m r' (m - 1) (.part q)) ∧ LfI P KM r' ∧ r'.tk = r.tk + 1 ∧ q.natAbs + 1 ≤ 2 ^ P ∧ (0 < r.tk → 1 ≤ q)) := by
  cases r with
  | frac k t b =>
    obtain ⟨h1, h2, h3, h4⟩ := h
    by_cases b0 : b = 0
    · subst b0
      refine .inl ⟨?_, fun m => .frEnd⟩
      rcases Nat.eq_zero_or_pos k with z | z
      · exact absurd rfl (h3 z)
      · exact z
    · refine .inr ⟨.frWait b0, t.fdiv b, .frac (k + 1) b (t - t.fdiv b * b), fun m hm => .frPart b0 hm (sm_p h1 hP) (sm_p h2 hP), ⟨h2, ?_, fun z => by omega, fun _ => ?_⟩, rfl, ?_, fun z => ?_⟩
      · rw [sub_fdiv]
        have := fmod_lt (t := t) b0
        omega
      · have rm : Rem t b (t.fdiv b) := by
          refine ⟨b0, ?_, ?_⟩ <;> rw [sub_fdiv]
          · rcases Int.lt_or_gt_of_ne b0 with z | z
            · exact Int.mul_nonneg_of_nonpos_of_nonpos (fmod_neg' z).2 (by omega)
            · exact Int.mul_nonneg (Int.fmod_nonneg_of_pos _ z) (by omega)
          · rcases Int.lt_or_gt_of_ne b0 with z | z
            · exact Int.mul_le_mul_of_nonpos_right (by have := (fmod_neg' (t := t) z).1; omega) (by omega)
            · exact Int.mul_le_mul_of_nonneg_right (by have := Int.fmod_lt_of_pos t z; omega) (by omega)
        rcases Int.lt_or_gt_of_ne b0 with z | z
        · exact ⟨-1, .inr rfl, rm.bgn (.inr rfl) (by omega)⟩
        · exact ⟨1, .inl rfl, rm.bgn (.inl rfl) (by omega)⟩
      · have := fdiv_le (t := t) (b := b)
        omega
      · obtain ⟨s, hs, hb⟩ := h4 z
        exact hb.floor hs b0
  | root k t s b f =>
    obtain ⟨h1, h2, h3, W, w1, w2, w3⟩ := h
    simp only [R.tk] at hk ⊢
    obtain ⟨g1, g2, g3, g4, g5⟩ := rt_next h1 rfl rfl rfl
    have hf := h1.f0
    have hkm : (KM - k) * (2 * f.toNat + 2) = (KM - (k + 1)) * (2 * f.toNat + 2) + (2 * f.toNat + 2) := by
      obtain ⟨e, he⟩ : ∃ e, KM - k = e + 1 := ⟨KM - k - 1, by omega⟩
      rw [he, show KM - (k + 1) = e by omega, Nat.add_mul, Nat.one_mul]
    have sm : ∀ x : Int, x.natAbs ≤ 2 * W + 2 * f.toNat + 2 → Sm x := fun x hx => sm_p (P := P) (by omega) hP
    refine .inr ⟨.rtWait, _, .root (k + 1) _ s _ f, fun m hm => .rtPart hm h1.b0 (sm _ (by omega)) h3 (sm _ (by omega)) (sm _ (by omega)) rfl rfl (sm _ ?_), ⟨g1, fun _ => g2, h3, W, ?_, ?_, w3⟩, rfl, ?_, fun z => rt_one (h2 z)⟩
    · refine Nat.le_trans g4 ?_
      omega
    · omega
    · omega
    · have := fdiv_le (t := t + f + (if b < 0 then 1 else 0)) (b := b)
      have e : (t + f + (if b < 0 then 1 else 0)).natAbs ≤ t.natAbs + f.toNat + 1 := by split <;> omega
      omega
  | ruled k ps ring steps =>
    obtain ⟨h1, h2, h3, h4, h5, h6, h7, h8⟩ := h
    simp only [R.tk] at hk ⊢
    have hsm : ∀ n ∈ ring ++ steps, Sm n := fun n hn => by
      rcases List.mem_append.mp hn with hn | hn
      · exact sm_p (h7 n (List.mem_append_right _ hn)) hP
      · by_cases hr : ring = []
        · have : steps = [] := List.length_eq_zero_iff.mp (by rw [h4, hr]; rfl)
          rw [this] at hn
          cases hn
        · obtain ⟨x, hx⟩ := List.exists_mem_of_ne_nil _ hr
          have := h8 x hx n hn
          have h9 : n.natAbs ≤ KM * n.natAbs := Nat.le_mul_of_pos_left _ (by omega)
          exact sm_p (P := P) (by omega) hP
    by_cases hend : ring = [] ∧ ps.length ≤ k
    · obtain ⟨rfl, hl⟩ := hend
      exact .inl ⟨by omega, fun m => .ruEnd hl⟩
    · have hgo : ring = [] → k < ps.length := fun z => by
        rcases Nat.lt_or_ge k ps.length with g | g
        · exact g
        · exact absurd ⟨z, g⟩ hend
      refine .inr ⟨.ruWait hgo, ruV k ps ring steps, .ruled (k + 1) ps ring steps, fun m hm => .ruPart hgo hm h4 (by omega) h2 h3 hsm, ⟨h1, h2, h3, h4, h5, h6, h7, h8⟩, rfl, ?_, fun z => ?_⟩
      · unfold ruV
        by_cases hl : k < ps.length
        · rw [if_pos hl]
          have := h7 _ (List.mem_append_left _ (getD_mem (xs := ps) hl))
          omega
        · rw [if_neg hl]
          have hr : 0 < ring.length := List.length_pos_iff.mpr fun z => hl (hgo z)
          have hm : (k - ps.length) % ring.length < ring.length := Nat.mod_lt _ hr
          have := h8 _ (getD_mem (xs := ring) hm) _ (getD_mem (xs := steps) (by rw [h4]; exact hm))
          generalize ring.getD ((k - ps.length) % ring.length) 0 = x at this ⊢
          generalize steps.getD ((k - ps.length) % ring.length) 0 = y at this ⊢
          have hd : (k - ps.length) / ring.length ≤ KM := by
            have := Nat.div_le_self (k - ps.length) ring.length
            omega
          have e1 : ((((k - ps.length) / ring.length : Nat) : Int) * y).natAbs = (k - ps.length) / ring.length * y.natAbs := by rw [Int.natAbs_mul]; rfl
          have e2 := Nat.mul_le_mul_right y.natAbs hd
          omega
      · unfold ruV
        by_cases hl : k < ps.length
        · rw [if_pos hl]
          refine h5 _ (List.mem_append_left _ ?_)
          rw [List.getD_eq_getElem?_getD, List.getElem?_eq_getElem hl]
          show ps[k] ∈ ps.drop 1
          rw [List.mem_iff_getElem?]
          refine ⟨k - 1, ?_⟩
          rw [List.getElem?_drop, show 1 + (k - 1) = k by omega, List.getElem?_eq_getElem hl]
        · rw [if_neg hl]
          have hr : 0 < ring.length := List.length_pos_iff.mpr fun z => hl (hgo z)
          have hm : (k - ps.length) % ring.length < ring.length := Nat.mod_lt _ hr
          have e1 := h5 _ (List.mem_append_right _ (getD_mem (xs := ring) hm))
          have e2 := h6 _ (getD_mem (xs := steps) (i := (k - ps.length) % ring.length) (by rw [h4]; exact hm))
          have := Int.mul_nonneg (Int.natCast_nonneg ((k - ps.length) / ring.length)) e2
          omega
  | _ => exact h.elim
structure Bgn4 (s a b c d : Int) : Prop where
  sg : Sg s
  i : Bgn s a c
  o : Bgn s (a + b) (c + d)
structure Bgn8 (s a b c d e f g h : Int) : Prop where
  sg : Sg s
  ii : Bgn s a e
  io : Bgn s (a + b) (e + f)
  oi : Bgn s (a + c) (e + g)
  oo : Bgn s (a + b + c + d) (e + f + g + h)
/-- r within bounds: whether it has told parts, what it told in short, how many bits it adds to P for each part of a leaf -/
inductive Gd (P KM : Nat) : R → Bool → Nat → Nat → Nat → Prop
  | fixed {t b bg k1 k0 β} : 2 * Ls k1 k0 t b + 8 ≤ 2 ^ β → 1 ≤ k1 → 1 ≤ k0 → k1 + k0 ≤ 2 ^ β → (bg = false → k1 = 1 ∧ k0 = 4) → (bg = true → ∃ s, Sg s ∧ Bgn s t b) → Gd P KM (.fixed t b bg) bg k1 k0 β
  | leaf {r bg k1 k0} : LfI P KM r → bg = decide (0 < r.tk) → 1 ≤ k1 → 1 ≤ k0 → k1 + k0 ≤ 2 ^ (P * r.tk + 3) → (bg = false → k1 = 1 ∧ k0 = 4) → Gd P KM r bg k1 k0 3
  | four {a b c d rdy bg x k1 k0 x1 x0 N ν β} : Gd P KM x rdy x1 x0 β → N < 2 ^ ν → 1 ≤ N → a * d ≠ b * c → 1 ≤ k1 → 1 ≤ k0 → (bg = false → k1 = 1 ∧ k0 = 4) → (rdy = false → bg = false ∧ Ls k1 k0 a c ≤ N ∧ Ls k1 k0 b d ≤ N) → (rdy = true → Ls k1 k0 a c ≤ N * x1 ∧ Ls k1 k0 (a + b) (c + d) ≤ N * (x1 + x0)) →
      (bg = true → k1 ≤ N * x1 ∧ k0 ≤ N * x1 + 1 ∧ ∃ s, Bgn4 s a b c d) → Gd P KM (.four a b c d rdy bg x) bg k1 k0 (β + ν + 3)
  | fourX {x t b bg k1 k0 β} : 2 * Ls k1 k0 t b + 8 ≤ 2 ^ (P * x.tk + β) → 3 ≤ β → 1 ≤ k1 → 1 ≤ k0 → k1 + k0 ≤ 2 ^ (P * x.tk + β) → (bg = false → k1 = 1 ∧ k0 = 4) → (bg = true → ∃ s, Sg s ∧ Bgn s t b) → Gd P KM (.fourX x t b bg) bg k1 k0 β
  | eight {a b c d e f g h m0 m1 bg x y k1 k0 x1 x0 y1 y0 N ν β γ} : Gd P KM x (decide (0 < m0)) x1 x0 β → Gd P KM y (decide (0 < m1)) y1 y0 γ → N < 2 ^ ν → 1 ≤ N → m1 ≤ m0 → m0 ≤ m1 + 1 → 1 ≤ k1 → 1 ≤ k0 → (bg = false → k1 = 1 ∧ k0 = 4) → (m1 = 0 → bg = false) →
      (m0 = 0 → Ls k1 k0 a e ≤ N ∧ Ls k1 k0 b f ≤ N ∧ Ls k1 k0 c g ≤ N ∧ Ls k1 k0 d h ≤ N) →
      (0 < m0 → m1 = 0 → Ls k1 k0 a e ≤ N * x1 ∧ Ls k1 k0 b f ≤ N * x1 ∧ Ls k1 k0 (a + c) (e + g) ≤ N * (x1 + x0) ∧ Ls k1 k0 (b + d) (f + h) ≤ N * (x1 + x0)) →
      (0 < m1 → Ls k1 k0 a e ≤ N * x1 * y1 ∧ Ls k1 k0 (a + b) (e + f) ≤ N * x1 * (y1 + y0) ∧ Ls k1 k0 (a + c) (e + g) ≤ N * (x1 + x0) * y1 ∧ Ls k1 k0 (a + b + c + d) (e + f + g + h) ≤ N * (x1 + x0) * (y1 + y0)) →
      (bg = true → k1 ≤ N * x1 * y1 ∧ k0 ≤ N * x1 * y1 + 1 ∧ ∃ s, Bgn8 s a b c d e f g h) → Gd P KM (.eight a b c d e f g h m0 m1 bg x y) bg k1 k0 (β + γ + ν + 3)
  | eightX {x y t b bg k1 k0 β} : 2 * Ls k1 k0 t b + 8 ≤ 2 ^ (P * (x.tk + y.tk) + β) → 3 ≤ β → 1 ≤ k1 → 1 ≤ k0 → k1 + k0 ≤ 2 ^ (P * (x.tk + y.tk) + β) → (bg = false → k1 = 1 ∧ k0 = 4) → (bg = true → ∃ s, Sg s ∧ Bgn s t b) → Gd P KM (.eightX x y t b bg) bg k1 k0 β
  | eightF {w dead fr bg k1 k0 β} : fr.kd = .four → 3 ≤ β → Gd P KM fr bg k1 k0 (P * dead.tk + β) → Gd P KM (.eightF w dead fr) bg k1 k0 β
theorem Gd.three {P KM : Nat} {r : R} {bg : Bool} {k1 k0 β : Nat} (h : Gd P KM r bg k1 k0 β) : 3 ≤ β := by
  cases h with
  | fixed h =>
    rcases Nat.lt_or_ge β 3 with z | z
    · have : 2 ^ β ≤ 2 ^ 2 := Nat.pow_le_pow_right (by decide) (by omega)
      omega
    · exact z
  | leaf => exact Nat.le_refl _
  | four => omega
  | fourX _ h => exact h
  | eight => omega
  | eightX _ h => exact h
  | eightF _ h => exact h
theorem pow_le3 {n : Nat} (h : 3 ≤ n) : 8 ≤ 2 ^ n := show 2 ^ 3 ≤ 2 ^ n from Nat.pow_le_pow_right (by decide) h
/-- N x1 (and x1 + x0) in bits -/
theorem nx_le {N ν x e : Nat} (h : N < 2 ^ ν) (hx : x ≤ 2 ^ e) : N * x ≤ 2 ^ (e + ν) := by
  rw [Nat.pow_add, Nat.mul_comm]
  exact Nat.mul_le_mul hx (Nat.le_of_lt h)
theorem Gd.bd {P KM : Nat} {r : R} {bg : Bool} {k1 k0 β : Nat} (h : Gd P KM r bg k1 k0 β) : k1 + k0 ≤ 2 ^ (P * r.tk + β) ∧ 1 ≤ k1 ∧ 1 ≤ k0 ∧ (bg = false → k1 = 1 ∧ k0 = 4) := by
  induction h with
  | @fixed t b bg k1 k0 β h1 h2 h3 h4 h5 h6 => exact ⟨by simp only [R.tk, Nat.mul_zero, Nat.zero_add]; exact h4, h2, h3, h5⟩
  | leaf h1 h2 h3 h4 h5 h6 => exact ⟨h5, h3, h4, h6⟩
  | @four a b c d rdy bg x k1 k0 x1 x0 N ν β hx h1 h2 h3 h4 h5 h6 h7 h8 h9 ih =>
    refine ⟨?_, h4, h5, h6⟩
    simp only [R.tk]
    have e1 : 2 ^ (P * x.tk + (β + ν + 3)) = 2 ^ (P * x.tk + β + ν) * 8 := by rw [show P * x.tk + (β + ν + 3) = P * x.tk + β + ν + 3 by omega, Nat.pow_add]
    have e2 := hx.three
    have e3 := pow_le3 (n := P * x.tk + β + ν) (by omega)
    cases bg with
    | false => have := h6 rfl; omega
    | true =>
      have h10 := h9 rfl
      have := nx_le h1 (x := x1) (e := P * x.tk + β) (by omega)
      omega
  | fourX h1 h2 h3 h4 h5 h6 h7 => exact ⟨h5, h3, h4, h6⟩
  | @eight a b c d e f g h m0 m1 bg x y k1 k0 x1 x0 y1 y0 N ν β γ hx hy h1 h2 h3 h4 h5 h6 h7 h8 h9 h10 h11 h12 ih1 ih2 =>
    refine ⟨?_, h5, h6, h7⟩
    simp only [R.tk]
    have e1 : 2 ^ (P * (x.tk + y.tk) + (β + γ + ν + 3)) = 2 ^ (P * y.tk + γ + (P * x.tk + β + ν)) * 8 := by rw [Nat.mul_add, show P * x.tk + P * y.tk + (β + γ + ν + 3) = P * y.tk + γ + (P * x.tk + β + ν) + 3 by omega, Nat.pow_add]
    have e2 := hx.three
    have e3 := pow_le3 (n := P * y.tk + γ + (P * x.tk + β + ν)) (by omega)
    cases bg with
    | false => have := h7 rfl; omega
    | true =>
      have h13 := h12 rfl
      have q1 := nx_le h1 (x := x1) (e := P * x.tk + β) (by omega)
      have q2 : N * x1 * y1 ≤ 2 ^ (P * y.tk + γ + (P * x.tk + β + ν)) := by
        rw [Nat.pow_add (m := P * y.tk + γ), Nat.mul_comm]
        exact Nat.mul_le_mul (by omega) q1
      omega
  | eightX h1 h2 h3 h4 h5 h6 h7 => exact ⟨h5, h3, h4, h6⟩
  | @eightF w dead fr bg k1 k0 β h1 h2 h3 ih =>
    refine ⟨?_, ih.2⟩
    have := ih.1
    simp only [R.tk]
    rw [Nat.mul_add, show P * dead.tk + P * fr.tk + β = P * fr.tk + (P * dead.tk + β) by omega]
    exact this
theorem sm_of {x : Int} {e : Nat} (h : x.natAbs ≤ 2 ^ e) (he : e < 290000) : Sm x := by
  have : 2 ^ e < 2 ^ 290000 := Nat.pow_lt_pow_right (by decide) he
  unfold Sm
  omega
theorem Ls_top {k1 k0 : Nat} {t b : Int} {n : Nat} (h : Ls k1 k0 t b ≤ n) (h1 : 1 ≤ k1) (h2 : 1 ≤ k0) : t.natAbs ≤ n ∧ b.natAbs ≤ n := by
  unfold Ls at h
  have e1 := Nat.mul_le_mul_right t.natAbs h1
  have e2 := Nat.mul_le_mul_right b.natAbs h2
  omega
/-- a four's numbers -/
theorem Gd.sm4 {P KM : Nat} {a b c d : Int} {rdy bg : Bool} {x : R} {k1 k0 B : Nat} (h : Gd P KM (.four a b c d rdy bg x) bg k1 k0 B) (hB : P * x.tk + B < 290000) : Sm a ∧ Sm b ∧ Sm c ∧ Sm d := by
  cases h with
  | leaf h => exact h.elim
  | @four _ _ _ _ _ _ _ _ _ x1 x0 N ν β hx h1 h2 h3 h4 h5 h6 h7 h8 h9 =>
    obtain ⟨b1, b2, b3, b4⟩ := hx.bd
    have e1 : 2 ^ (P * x.tk + (β + ν + 3)) = 2 ^ (P * x.tk + β + ν) * 8 := by rw [show P * x.tk + (β + ν + 3) = P * x.tk + β + ν + 3 by omega, Nat.pow_add]
    have q1 := nx_le h1 (x := x1 + x0) (e := P * x.tk + β) b1
    have q2 : N * x1 ≤ N * (x1 + x0) := Nat.mul_le_mul_left _ (by omega)
    have q3 : N ≤ N * x1 := Nat.le_mul_of_pos_right _ (by omega)
    have fin : ∀ y : Int, y.natAbs ≤ 2 * (N * (x1 + x0)) → Sm y := fun y hy => sm_of (by rw [e1]; omega) hB
    cases rdy with
    | false =>
      obtain ⟨_, g1, g2⟩ := h7 rfl
      have g1 := Ls_top g1 h4 h5
      have g2 := Ls_top g2 h4 h5
      exact ⟨fin _ (by omega), fin _ (by omega), fin _ (by omega), fin _ (by omega)⟩
    | true =>
      obtain ⟨g1, g2⟩ := h8 rfl
      have g1 := Ls_top g1 h4 h5
      have g2 := Ls_top g2 h4 h5
      exact ⟨fin _ (by omega), fin _ (by omega), fin _ (by omega), fin _ (by omega)⟩
theorem one_abs {u : Int} {Z : Nat} (h1 : u.natAbs ≤ Z) : u.natAbs ≤ 4 * Z := by omega
theorem two_abs {u v : Int} {Z : Nat} (h2 : u.natAbs ≤ Z) (h1 : (u + v).natAbs ≤ Z) : v.natAbs ≤ 4 * Z := by omega
theorem four_abs {a b c d : Int} {Z : Nat} (h1 : a.natAbs ≤ Z) (h2 : (a + b).natAbs ≤ Z) (h3 : (a + c).natAbs ≤ Z) (h4 : (a + b + c + d).natAbs ≤ Z) : d.natAbs ≤ 4 * Z := by omega
theorem Gd.sm8 {P KM : Nat} {a b c d e f g h : Int} {m0 m1 : Nat} {bg : Bool} {x y : R} {k1 k0 B : Nat} (hG : Gd P KM (.eight a b c d e f g h m0 m1 bg x y) bg k1 k0 B) (hB : P * (x.tk + y.tk) + B < 290000) : Sm8 a b c d e f g h := by
  cases hG with
  | leaf h => exact h.elim
  | @eight _ _ _ _ _ _ _ _ _ _ _ _ _ _ _ x1 x0 y1 y0 N ν β γ hx hy h1 h2 h3 h4 h5 h6 h7 h8 h9 h10 h11 h12 =>
    obtain ⟨b1, b2, b3, b4⟩ := hx.bd
    obtain ⟨c1, c2, c3, c4⟩ := hy.bd
    have e1 : 2 ^ (P * (x.tk + y.tk) + (β + γ + ν + 3)) = 2 ^ (P * y.tk + γ + (P * x.tk + β + ν)) * 8 := by rw [Nat.mul_add, show P * x.tk + P * y.tk + (β + γ + ν + 3) = P * y.tk + γ + (P * x.tk + β + ν) + 3 by omega, Nat.pow_add]
    have q0 := nx_le h1 (x := x1 + x0) (e := P * x.tk + β) b1
    have q1 : N * (x1 + x0) * (y1 + y0) ≤ 2 ^ (P * y.tk + γ + (P * x.tk + β + ν)) := by
      rw [Nat.pow_add (m := P * y.tk + γ), Nat.mul_comm]
      exact Nat.mul_le_mul c1 q0
    have q2 : N * x1 * (y1 + y0) ≤ N * (x1 + x0) * (y1 + y0) := Nat.mul_le_mul_right _ (Nat.mul_le_mul_left _ (by omega))
    have q3 : N * (x1 + x0) * y1 ≤ N * (x1 + x0) * (y1 + y0) := Nat.mul_le_mul_left _ (by omega)
    have q4 : N * x1 * y1 ≤ N * x1 * (y1 + y0) := Nat.mul_le_mul_left _ (by omega)
    have q5 : N * (x1 + x0) ≤ N * (x1 + x0) * y1 := Nat.le_mul_of_pos_right _ (by omega)
    have q6 : N * x1 ≤ N * (x1 + x0) := Nat.mul_le_mul_left _ (by omega)
    have q7 : N ≤ N * x1 := Nat.le_mul_of_pos_right _ (by omega)
    generalize hZ : 2 ^ (P * y.tk + γ + (P * x.tk + β + ν)) = Z at e1 q1
    have r6 := Nat.le_trans q2 q1
    have r5 := Nat.le_trans q3 q1
    have r4 := Nat.le_trans q4 r6
    have r3 := Nat.le_trans q5 r5
    have r2 := Nat.le_trans q6 r3
    have r1 := Nat.le_trans q7 r2
    have z8 : 4 * Z ≤ Z * 8 := by clear q1 q2 q3 q4 q5 q6 q7 r1 r2 r3 r4 r5 r6 e1; omega
    have fin : ∀ v : Int, v.natAbs ≤ 4 * Z → Sm v := fun v hv => sm_of (by rw [e1]; exact Nat.le_trans hv z8) hB
    by_cases z0 : m0 = 0
    · obtain ⟨g1, g2, g3, g4⟩ := h9 z0
      have y1 : _ ≤ Z ∧ _ ≤ Z := ⟨Nat.le_trans (Ls_top g1 h5 h6).1 (by first | exact r1 | exact r2 | exact r3 | exact r4 | exact r5 | exact r6 | exact q1), Nat.le_trans (Ls_top g1 h5 h6).2 (by first | exact r1 | exact r2 | exact r3 | exact r4 | exact r5 | exact r6 | exact q1)⟩
      have y2 : _ ≤ Z ∧ _ ≤ Z := ⟨Nat.le_trans (Ls_top g2 h5 h6).1 (by first | exact r1 | exact r2 | exact r3 | exact r4 | exact r5 | exact r6 | exact q1), Nat.le_trans (Ls_top g2 h5 h6).2 (by first | exact r1 | exact r2 | exact r3 | exact r4 | exact r5 | exact r6 | exact q1)⟩
      have y3 : _ ≤ Z ∧ _ ≤ Z := ⟨Nat.le_trans (Ls_top g3 h5 h6).1 (by first | exact r1 | exact r2 | exact r3 | exact r4 | exact r5 | exact r6 | exact q1), Nat.le_trans (Ls_top g3 h5 h6).2 (by first | exact r1 | exact r2 | exact r3 | exact r4 | exact r5 | exact r6 | exact q1)⟩
      have y4 : _ ≤ Z ∧ _ ≤ Z := ⟨Nat.le_trans (Ls_top g4 h5 h6).1 (by first | exact r1 | exact r2 | exact r3 | exact r4 | exact r5 | exact r6 | exact q1), Nat.le_trans (Ls_top g4 h5 h6).2 (by first | exact r1 | exact r2 | exact r3 | exact r4 | exact r5 | exact r6 | exact q1)⟩
      refine ⟨?_, ?_, ?_, ?_, ?_, ?_, ?_, ?_⟩ <;> first | exact fin _ (one_abs y1.1) | exact fin _ (one_abs y1.2) | exact fin _ (one_abs y2.1) | exact fin _ (one_abs y2.2) | exact fin _ (one_abs y3.1) | exact fin _ (one_abs y3.2) | exact fin _ (one_abs y4.1) | exact fin _ (one_abs y4.2) | exact fin _ (two_abs y1.1 y2.1) | exact fin _ (two_abs y1.2 y2.2) | exact fin _ (two_abs y1.1 y3.1) | exact fin _ (two_abs y1.2 y3.2) | exact fin _ (two_abs y1.1 y4.1) | exact fin _ (two_abs y1.2 y4.2) | exact fin _ (two_abs y2.1 y3.1) | exact fin _ (two_abs y2.2 y3.2) | exact fin _ (two_abs y2.1 y4.1) | exact fin _ (two_abs y2.2 y4.2) | exact fin _ (two_abs y3.1 y4.1) | exact fin _ (two_abs y3.2 y4.2) | exact fin _ (four_abs y1.1 y2.1 y3.1 y4.1) | exact fin _ (four_abs y1.2 y2.2 y3.2 y4.2)
    · by_cases z1 : m1 = 0
      · obtain ⟨g1, g2, g3, g4⟩ := h10 (Nat.pos_of_ne_zero z0) z1
        have y1 : _ ≤ Z ∧ _ ≤ Z := ⟨Nat.le_trans (Ls_top g1 h5 h6).1 (by first | exact r1 | exact r2 | exact r3 | exact r4 | exact r5 | exact r6 | exact q1), Nat.le_trans (Ls_top g1 h5 h6).2 (by first | exact r1 | exact r2 | exact r3 | exact r4 | exact r5 | exact r6 | exact q1)⟩
        have y2 : _ ≤ Z ∧ _ ≤ Z := ⟨Nat.le_trans (Ls_top g2 h5 h6).1 (by first | exact r1 | exact r2 | exact r3 | exact r4 | exact r5 | exact r6 | exact q1), Nat.le_trans (Ls_top g2 h5 h6).2 (by first | exact r1 | exact r2 | exact r3 | exact r4 | exact r5 | exact r6 | exact q1)⟩
        have y3 : _ ≤ Z ∧ _ ≤ Z := ⟨Nat.le_trans (Ls_top g3 h5 h6).1 (by first | exact r1 | exact r2 | exact r3 | exact r4 | exact r5 | exact r6 | exact q1), Nat.le_trans (Ls_top g3 h5 h6).2 (by first | exact r1 | exact r2 | exact r3 | exact r4 | exact r5 | exact r6 | exact q1)⟩
        have y4 : _ ≤ Z ∧ _ ≤ Z := ⟨Nat.le_trans (Ls_top g4 h5 h6).1 (by first | exact r1 | exact r2 | exact r3 | exact r4 | exact r5 | exact r6 | exact q1), Nat.le_trans (Ls_top g4 h5 h6).2 (by first | exact r1 | exact r2 | exact r3 | exact r4 | exact r5 | exact r6 | exact q1)⟩
        refine ⟨?_, ?_, ?_, ?_, ?_, ?_, ?_, ?_⟩ <;> first | exact fin _ (one_abs y1.1) | exact fin _ (one_abs y1.2) | exact fin _ (one_abs y2.1) | exact fin _ (one_abs y2.2) | exact fin _ (one_abs y3.1) | exact fin _ (one_abs y3.2) | exact fin _ (one_abs y4.1) | exact fin _ (one_abs y4.2) | exact fin _ (two_abs y1.1 y2.1) | exact fin _ (two_abs y1.2 y2.2) | exact fin _ (two_abs y1.1 y3.1) | exact fin _ (two_abs y1.2 y3.2) | exact fin _ (two_abs y1.1 y4.1) | exact fin _ (two_abs y1.2 y4.2) | exact fin _ (two_abs y2.1 y3.1) | exact fin _ (two_abs y2.2 y3.2) | exact fin _ (two_abs y2.1 y4.1) | exact fin _ (two_abs y2.2 y4.2) | exact fin _ (two_abs y3.1 y4.1) | exact fin _ (two_abs y3.2 y4.2) | exact fin _ (four_abs y1.1 y2.1 y3.1 y4.1) | exact fin _ (four_abs y1.2 y2.2 y3.2 y4.2)
      · obtain ⟨g1, g2, g3, g4⟩ := h11 (Nat.pos_of_ne_zero z1)
        have y1 : _ ≤ Z ∧ _ ≤ Z := ⟨Nat.le_trans (Ls_top g1 h5 h6).1 (by first | exact r1 | exact r2 | exact r3 | exact r4 | exact r5 | exact r6 | exact q1), Nat.le_trans (Ls_top g1 h5 h6).2 (by first | exact r1 | exact r2 | exact r3 | exact r4 | exact r5 | exact r6 | exact q1)⟩
        have y2 : _ ≤ Z ∧ _ ≤ Z := ⟨Nat.le_trans (Ls_top g2 h5 h6).1 (by first | exact r1 | exact r2 | exact r3 | exact r4 | exact r5 | exact r6 | exact q1), Nat.le_trans (Ls_top g2 h5 h6).2 (by first | exact r1 | exact r2 | exact r3 | exact r4 | exact r5 | exact r6 | exact q1)⟩
        have y3 : _ ≤ Z ∧ _ ≤ Z := ⟨Nat.le_trans (Ls_top g3 h5 h6).1 (by first | exact r1 | exact r2 | exact r3 | exact r4 | exact r5 | exact r6 | exact q1), Nat.le_trans (Ls_top g3 h5 h6).2 (by first | exact r1 | exact r2 | exact r3 | exact r4 | exact r5 | exact r6 | exact q1)⟩
        have y4 : _ ≤ Z ∧ _ ≤ Z := ⟨Nat.le_trans (Ls_top g4 h5 h6).1 (by first | exact r1 | exact r2 | exact r3 | exact r4 | exact r5 | exact r6 | exact q1), Nat.le_trans (Ls_top g4 h5 h6).2 (by first | exact r1 | exact r2 | exact r3 | exact r4 | exact r5 | exact r6 | exact q1)⟩
        refine ⟨?_, ?_, ?_, ?_, ?_, ?_, ?_, ?_⟩ <;> first | exact fin _ (one_abs y1.1) | exact fin _ (one_abs y1.2) | exact fin _ (one_abs y2.1) | exact fin _ (one_abs y2.2) | exact fin _ (one_abs y3.1) | exact fin _ (one_abs y3.2) | exact fin _ (one_abs y4.1) | exact fin _ (one_abs y4.2) | exact fin _ (two_abs y1.1 y2.1) | exact fin _ (two_abs y1.2 y2.2) | exact fin _ (two_abs y1.1 y3.1) | exact fin _ (two_abs y1.2 y3.2) | exact fin _ (two_abs y1.1 y4.1) | exact fin _ (two_abs y1.2 y4.2) | exact fin _ (two_abs y2.1 y3.1) | exact fin _ (two_abs y2.2 y3.2) | exact fin _ (two_abs y2.1 y4.1) | exact fin _ (two_abs y2.2 y4.2) | exact fin _ (two_abs y3.1 y4.1) | exact fin _ (two_abs y3.2 y4.2) | exact fin _ (four_abs y1.1 y2.1 y3.1 y4.1) | exact fin _ (four_abs y1.2 y2.2 y3.2 y4.2)
theorem gs_pos {bg : Bool} {k1 k0 : Nat} {q : Int} (h1 : 1 ≤ k1) (h0 : 1 ≤ k0) (hq : bg = true → 1 ≤ q) : 1 ≤ (gs bg k1 k0 q).1 ∧ 1 ≤ (gs bg k1 k0 q).2 := by
  unfold gs
  cases bg with
  | true =>
    have h := hq rfl
    simp only [if_true]
    have := Nat.le_mul_of_pos_right k1 (show 0 < q.toNat by omega)
    omega
  | false =>
    simp only [Bool.false_eq_true, if_false]
    split <;> simp only <;> omega
/-- what a part leaves of a corner, in short -/
theorem gs_rem {bg : Bool} {k1 k0 : Nat} {t b q : Int} (hb : bg = false → k1 = 1 ∧ k0 = 4) (hq : bg = true → 1 ≤ q) (h : Rem t b q) : Ls (gs bg k1 k0 q).1 (gs bg k1 k0 q).2 b (t - q * b) ≤ Ls k1 k0 t b := by
  cases bg with
  | true => exact Nat.le_of_eq (gs_next (hq rfl) h)
  | false =>
    obtain ⟨rfl, rfl⟩ := hb rfl
    exact gs_first h
theorem gs_k {bg : Bool} {k1 k0 n : Nat} {t b q : Int} (h1 : 1 ≤ k1) (h0 : 1 ≤ k0) (hq : bg = true → 1 ≤ q) (h : Ls (gs bg k1 k0 q).1 (gs bg k1 k0 q).2 b (t - q * b) ≤ n) (b0 : b ≠ 0) (hk : bg = true → k1 ≤ n) : (gs bg k1 k0 q).1 ≤ n ∧ (gs bg k1 k0 q).2 ≤ n + 1 := by
  obtain ⟨g1, g2⟩ := gs_pos h1 h0 hq
  unfold Ls at h
  have := Nat.le_mul_of_pos_right (gs bg k1 k0 q).1 (show 0 < b.natAbs by omega)
  refine ⟨by omega, ?_⟩
  cases bg with
  | true => unfold gs; simp only [if_true]; have := hk rfl; omega
  | false => unfold gs; simp only [Bool.false_eq_true, if_false]; split <;> simp only <;> omega
theorem sg_of {b : Int} (h : b ≠ 0) : ∃ s, Sg s ∧ 0 < s * b := by
  rcases Int.lt_or_gt_of_ne h with z | z
  · exact ⟨-1, .inr rfl, by omega⟩
  · exact ⟨1, .inl rfl, by omega⟩
theorem sg_same {s b b' : Int} (hs : Sg s) (h : 0 < s * b) (h' : 0 < b' * b) : 0 < s * b' := by
  rcases hs with rfl | rfl
  · have : 0 < b := by omega
    have := Int.pos_of_mul_pos_left h' this
    omega
  · have hb : b < 0 := by omega
    rcases Int.lt_or_le b' 0 with z | z
    · omega
    · have := Int.mul_nonpos_of_nonneg_of_nonpos z (by omega : b ≤ 0)
      omega
/-- all corners behind a sure part -/
theorem sure_rem {c0 : Int × Int} {r : List (Int × Int)} {q : Int} (h : belowAll (c0 :: r) = some q) : (∃ s, Sg s ∧ ∀ c ∈ c0 :: r, 0 < s * c.2) ∧ (∀ c ∈ c0 :: r, Rem c.1 c.2 q) ∧ ∃ c ∈ c0 :: r, q = c.1.fdiv c.2 := by
  obtain ⟨h1, h2, h3, h4⟩ := belowAll_spec.mp h
  have b0 : c0.2 ≠ 0 := fun e => by
    have := h1 c0 List.mem_cons_self
    rw [e, Int.zero_mul] at this
    omega
  obtain ⟨s, hs, hp⟩ := sg_of b0
  exact ⟨⟨s, hs, fun c hc => sg_same hs hp (h1 c hc)⟩, fun c hc => rem_of (h1 c hc) (h3 c hc) (h4 c hc), h2⟩
theorem Rem.lt {t b q : Int} (h : Rem t b q) (hq : 1 ≤ q) : (t - q * b).natAbs < t.natAbs := by
  have e := abs_split hq (t := t) (b := b) (r := t - q * b) (by omega) h.lo h.b0
  have h0 := h.b0
  have := Nat.le_mul_of_pos_left b.natAbs (show 0 < q.toNat by omega)
  omega
theorem Ls_lin {k1 k0 : Nat} {t b t' b' p : Int} {n m : Nat} (hp : 0 ≤ p) (h : Ls k1 k0 t b ≤ n) (h' : Ls k1 k0 t' b' ≤ m) : Ls k1 k0 (t * p + t') (b * p + b') ≤ p.toNat * n + m := by
  have h1 := Ls_add (k1 := k1) (k0 := k0) (t := t * p) (b := b * p) (t' := t') (b' := b')
  rw [Ls_mul] at h1
  have h2 := Nat.mul_le_mul_left p.natAbs h
  have : p.natAbs = p.toNat := by omega
  rw [this] at h1 h2
  omega
theorem Ls_lin' {k1 k0 : Nat} {t b t' b' p : Int} {n m : Nat} (h : Ls k1 k0 t b ≤ n) (h' : Ls k1 k0 t' b' ≤ m) : Ls k1 k0 (t * p + t') (b * p + b') ≤ p.natAbs * n + m := by
  have h1 := Ls_add (k1 := k1) (k0 := k0) (t := t * p) (b := b * p) (t' := t') (b' := b')
  rw [Ls_mul] at h1
  have h2 := Nat.mul_le_mul_left p.natAbs h
  omega
/-- the two corners in one chain's direction, behind a part of it -/
theorem two_in {k1 k0 M x1 x0 : Nat} {t b t' b' p : Int} (hp : 1 ≤ p) (h : Ls k1 k0 t b ≤ M * x1) (h' : Ls k1 k0 (t + t') (b + b') ≤ M * (x1 + x0)) :
    Ls k1 k0 (t * p + t') (b * p + b') ≤ M * (x1 * p.toNat + x0) ∧ Ls k1 k0 (t * p + t' + t) (b * p + b' + b) ≤ M * (x1 * p.toNat + x0 + x1) := by
  have e1 : t * p + t' = t * (p - 1) + (t + t') := by grind
  have e2 : b * p + b' = b * (p - 1) + (b + b') := by grind
  have e3 : t * p + t' + t = t * p + (t + t') := by grind
  have e4 : b * p + b' + b = b * p + (b + b') := by grind
  obtain ⟨n, rfl⟩ : ∃ n : Nat, p = (n : Int) + 1 := ⟨(p - 1).toNat, by omega⟩
  have q1 := Ls_lin (p := (n : Int) + 1 - 1) (by omega) h h'
  have q2 := Ls_lin (p := (n : Int) + 1) (by omega) h h'
  have t1 : ((n : Int) + 1 - 1).toNat = n := by omega
  have t2 : ((n : Int) + 1).toNat = n + 1 := by omega
  rw [t1] at q1
  rw [t2] at q2
  rw [e3, e4, e1, e2, t2]
  refine ⟨Nat.le_trans q1 (Nat.le_of_eq ?_), Nat.le_trans q2 (Nat.le_of_eq ?_)⟩ <;> grind
/-- .. the first part -/
theorem two_first {k1 k0 M : Nat} {t b t' b' p : Int} (h : Ls k1 k0 t b ≤ M) (h' : Ls k1 k0 t' b' ≤ M) : Ls k1 k0 (t * p + t') (b * p + b') ≤ M * (gs false 1 4 p).1 ∧ Ls k1 k0 (t * p + t' + t) (b * p + b' + b) ≤ M * ((gs false 1 4 p).1 + (gs false 1 4 p).2) := by
  have q1 := Ls_lin' (p := p) h h'
  have q2 := Ls_add (k1 := k1) (k0 := k0) (t := t * p + t') (b := b * p + b') (t' := t) (b' := b)
  have g1 : p.natAbs + 1 ≤ (gs false 1 4 p).1 := by unfold gs; simp only [Bool.false_eq_true, if_false]; split <;> simp only <;> omega
  have g2 : (gs false 1 4 p).2 = 1 := by unfold gs; simp only [Bool.false_eq_true, if_false]; split <;> rfl
  rw [g2]
  have g3 := Nat.mul_le_mul_left M g1
  have g4 : M * (p.natAbs + 1) = p.natAbs * M + M := by grind
  have g5 : M * ((gs false 1 4 p).1 + 1) = M * (gs false 1 4 p).1 + M := by grind
  omega
theorem gs_up {x1 x0 : Nat} {p : Int} (hp : 1 ≤ p) : (gs true x1 x0 p).1 = x1 * p.toNat + x0 ∧ (gs true x1 x0 p).2 = x1 ∧ x1 ≤ x1 * p.toNat + x0 := by
  refine ⟨by unfold gs; simp, by unfold gs; simp, ?_⟩
  have := Nat.le_mul_of_pos_right x1 (show 0 < p.toNat by omega)
  omega
/-- a four with the bounds of its inner reader in sight -/
structure G4 (a b c d : Int) (rdy bg : Bool) (k1 k0 x1 x0 N : Nat) : Prop where
  det : a * d ≠ b * c
  p1 : 1 ≤ k1
  p0 : 1 ≤ k0
  n1 : 1 ≤ N
  fst : bg = false → k1 = 1 ∧ k0 = 4
  off : rdy = false → bg = false ∧ Ls k1 k0 a c ≤ N ∧ Ls k1 k0 b d ≤ N
  on : rdy = true → Ls k1 k0 a c ≤ N * x1 ∧ Ls k1 k0 (a + b) (c + d) ≤ N * (x1 + x0)
  bgn : bg = true → k1 ≤ N * x1 ∧ k0 ≤ N * x1 + 1 ∧ ∃ s, Bgn4 s a b c d
theorem Gd.of4 {P KM : Nat} {a b c d : Int} {rdy bg : Bool} {x : R} {k1 k0 x1 x0 N ν β : Nat} (hx : Gd P KM x rdy x1 x0 β) (h : N < 2 ^ ν) (g : G4 a b c d rdy bg k1 k0 x1 x0 N) : Gd P KM (.four a b c d rdy bg x) bg k1 k0 (β + ν + 3) :=
  .four hx h g.n1 g.det g.p1 g.p0 g.fst g.off g.on g.bgn
theorem G4.tell {a b c d q : Int} {rdy bg : Bool} {k1 k0 x1 x0 N : Nat} (g : G4 a b c d rdy bg k1 k0 x1 x0 N) (hs : sure4 rdy a b c d = some q) :
    (bg = true → 1 ≤ q) ∧ G4 c d (a - q * c) (b - q * d) rdy true (gs bg k1 k0 q).1 (gs bg k1 k0 q).2 x1 x0 N ∧
      (bg = true → c.natAbs + (a - q * c).natAbs + (c + d).natAbs + (a - q * c + (b - q * d)).natAbs < a.natAbs + c.natAbs + (a + b).natAbs + (c + d).natAbs) := by
  obtain ⟨h3, h4, h5, h2, h6, h7, h8, h9⟩ := g
  unfold sure4 at hs
  split at hs
  · rename_i hr
    subst hr
    obtain ⟨⟨s, hs', hp⟩, hrem, c', hc', eq⟩ := sure_rem hs
    have m1 : (a, c) ∈ [(a, c), (a + b, c + d)] := by simp
    have m2 : (a + b, c + d) ∈ [(a, c), (a + b, c + d)] := by simp
    obtain ⟨g1, g2⟩ := h8 rfl
    have hq : bg = true → 1 ≤ q := fun hb => by
      obtain ⟨_, _, s, hb4⟩ := h9 hb
      rw [eq]
      have r0 := (hrem c' hc').b0
      simp only [List.mem_cons, List.not_mem_nil, or_false] at hc'
      rcases hc' with rfl | rfl
      · exact hb4.i.floor hb4.sg r0
      · exact hb4.o.floor hb4.sg r0
    have r1 := hrem _ m1
    have r2 := hrem _ m2
    simp only at r1 r2
    have e2 : a + b - q * (c + d) = a - q * c + (b - q * d) := by grind
    have l1 := Nat.le_trans (gs_rem h6 hq r1) g1
    have l2 := Nat.le_trans (gs_rem h6 hq r2) g2
    refine ⟨hq, ?_, fun hb => ?_⟩
    · rw [e2] at l2
      obtain ⟨p1, p2⟩ := gs_pos h4 h5 hq
      obtain ⟨q1, q2⟩ := gs_k h4 h5 hq l1 r1.b0 (fun hb => (h9 hb).1)
      refine ⟨?_, p1, p2, h2, fun z => (by cases z), fun z => (by cases z), fun _ => ⟨l1, l2⟩, fun _ => ⟨q1, q2, s, hs', r1.bgn hs' (hp _ m1), ?_⟩⟩
      · have : c * (b - q * d) - d * (a - q * c) = -(a * d - b * c) := by grind
        omega
      · have := r2.bgn hs' (hp _ m2)
        rw [e2] at this
        exact this
    · have w1 := r1.lt (hq hb)
      have w2 := r2.lt (hq hb)
      rw [e2] at w2
      omega
  · cases hs
theorem G4.take {a b c d p : Int} {rdy bg : Bool} {k1 k0 x1 x0 N : Nat} (g : G4 a b c d rdy bg k1 k0 x1 x0 N) (hp : rdy = true → 1 ≤ p) (hx : rdy = false → x1 = 1 ∧ x0 = 4) : G4 (a * p + b) a (c * p + d) c true bg k1 k0 (gs rdy x1 x0 p).1 (gs rdy x1 x0 p).2 N := by
  obtain ⟨det, p1, p0, n1, fst, off, on, bgn⟩ := g
  have hdet : (a * p + b) * c ≠ a * (c * p + d) := by
    have : (a * p + b) * c - a * (c * p + d) = -(a * d - b * c) := by grind
    omega
  cases rdy with
  | false =>
    obtain ⟨hb, o1, o2⟩ := off rfl
    obtain ⟨e1, e2⟩ := hx rfl
    subst e1 e2
    obtain ⟨q1, q2⟩ := two_first (p := p) o1 o2
    exact ⟨hdet, p1, p0, n1, fst, fun z => (by cases z), fun _ => ⟨q1, q2⟩, fun z => by rw [hb] at z; cases z⟩
  | true =>
    obtain ⟨o1, o2⟩ := on rfl
    have hp1 := hp rfl
    obtain ⟨u1, u2, u3⟩ := gs_up (x1 := x1) (x0 := x0) hp1
    rw [u1, u2]
    obtain ⟨q1, q2⟩ := two_in hp1 o1 o2
    refine ⟨hdet, p1, p0, n1, fst, fun z => (by cases z), fun _ => ⟨q1, q2⟩, fun z => ?_⟩
    obtain ⟨b1, b2, s, b3⟩ := bgn z
    have := Nat.mul_le_mul_left N u3
    refine ⟨by omega, by omega, s, b3.sg, ?_, ?_⟩
    · have e1 : a * p + b = a * (p - 1) + (a + b) := by grind
      have e2 : c * p + d = c * (p - 1) + (c + d) := by grind
      rw [e1, e2]
      exact Bgn.muladd (by omega) b3.i b3.o
    · have e3 : a * p + b + a = a * p + (a + b) := by grind
      have e4 : c * p + d + c = c * p + (c + d) := by grind
      rw [e3, e4]
      exact Bgn.muladd (by omega) b3.i b3.o
/-- .. an eight -/
structure G8 (a b c d e f g h : Int) (m0 m1 : Nat) (bg : Bool) (k1 k0 x1 x0 y1 y0 N : Nat) : Prop where
  p1 : 1 ≤ k1
  p0 : 1 ≤ k0
  n1 : 1 ≤ N
  m01 : m1 ≤ m0
  m10 : m0 ≤ m1 + 1
  fst : bg = false → k1 = 1 ∧ k0 = 4
  nb : m1 = 0 → bg = false
  z0 : m0 = 0 → Ls k1 k0 a e ≤ N ∧ Ls k1 k0 b f ≤ N ∧ Ls k1 k0 c g ≤ N ∧ Ls k1 k0 d h ≤ N
  z1 : 0 < m0 → m1 = 0 → Ls k1 k0 a e ≤ N * x1 ∧ Ls k1 k0 b f ≤ N * x1 ∧ Ls k1 k0 (a + c) (e + g) ≤ N * (x1 + x0) ∧ Ls k1 k0 (b + d) (f + h) ≤ N * (x1 + x0)
  on : 0 < m1 → Ls k1 k0 a e ≤ N * x1 * y1 ∧ Ls k1 k0 (a + b) (e + f) ≤ N * x1 * (y1 + y0) ∧ Ls k1 k0 (a + c) (e + g) ≤ N * (x1 + x0) * y1 ∧ Ls k1 k0 (a + b + c + d) (e + f + g + h) ≤ N * (x1 + x0) * (y1 + y0)
  bgn : bg = true → k1 ≤ N * x1 * y1 ∧ k0 ≤ N * x1 * y1 + 1 ∧ ∃ s, Bgn8 s a b c d e f g h
theorem Gd.of8 {P KM : Nat} {a b c d e f g h : Int} {m0 m1 : Nat} {bg : Bool} {x y : R} {k1 k0 x1 x0 y1 y0 N ν β γ : Nat} (hx : Gd P KM x (decide (0 < m0)) x1 x0 β) (hy : Gd P KM y (decide (0 < m1)) y1 y0 γ) (hN : N < 2 ^ ν) (q : G8 a b c d e f g h m0 m1 bg k1 k0 x1 x0 y1 y0 N) : Gd P KM (.eight a b c d e f g h m0 m1 bg x y) bg k1 k0 (β + γ + ν + 3) :=
  .eight hx hy hN q.n1 q.m01 q.m10 q.p1 q.p0 q.fst q.nb q.z0 q.z1 q.on q.bgn
theorem G8.tell {a b c d e f g h q : Int} {m0 m1 : Nat} {bg : Bool} {k1 k0 x1 x0 y1 y0 N : Nat} (hG : G8 a b c d e f g h m0 m1 bg k1 k0 x1 x0 y1 y0 N) (hs : sure8 m0 m1 a b c d e f g h = some q) :
    (bg = true → 1 ≤ q) ∧ G8 e f g h (a - q * e) (b - q * f) (c - q * g) (d - q * h) m0 m1 true (gs bg k1 k0 q).1 (gs bg k1 k0 q).2 x1 x0 y1 y0 N ∧
      (bg = true → e.natAbs + (a - q * e).natAbs + (e + f).natAbs + (a - q * e + (b - q * f)).natAbs + (e + g).natAbs + (a - q * e + (c - q * g)).natAbs + (e + f + g + h).natAbs + (a - q * e + (b - q * f) + (c - q * g) + (d - q * h)).natAbs <
        a.natAbs + e.natAbs + (a + b).natAbs + (e + f).natAbs + (a + c).natAbs + (e + g).natAbs + (a + b + c + d).natAbs + (e + f + g + h).natAbs) := by
  obtain ⟨p1, p0, n1, m01, m10, fst, nb, z0, z1, on, bgn⟩ := hG
  unfold sure8 at hs
  split at hs
  · rename_i hm
    obtain ⟨⟨s, hs', hp⟩, hrem, c', hc', eq⟩ := sure_rem hs
    have i1 : (a, e) ∈ [(a, e), (a + b, e + f), (a + c, e + g), (a + b + c + d, e + f + g + h)] := by simp
    have i2 : (a + b, e + f) ∈ [(a, e), (a + b, e + f), (a + c, e + g), (a + b + c + d, e + f + g + h)] := by simp
    have i3 : (a + c, e + g) ∈ [(a, e), (a + b, e + f), (a + c, e + g), (a + b + c + d, e + f + g + h)] := by simp
    have i4 : (a + b + c + d, e + f + g + h) ∈ [(a, e), (a + b, e + f), (a + c, e + g), (a + b + c + d, e + f + g + h)] := by simp
    obtain ⟨g1, g2, g3, g4⟩ := on hm.2
    have hq : bg = true → 1 ≤ q := fun hb => by
      obtain ⟨_, _, s, hb8⟩ := bgn hb
      rw [eq]
      have r0 := (hrem c' hc').b0
      simp only [List.mem_cons, List.not_mem_nil, or_false] at hc'
      rcases hc' with rfl | rfl | rfl | rfl
      · exact hb8.ii.floor hb8.sg r0
      · exact hb8.io.floor hb8.sg r0
      · exact hb8.oi.floor hb8.sg r0
      · exact hb8.oo.floor hb8.sg r0
    have r1 := hrem _ i1
    have r2 := hrem _ i2
    have r3 := hrem _ i3
    have r4 := hrem _ i4
    simp only at r1 r2 r3 r4
    have e2 : a + b - q * (e + f) = a - q * e + (b - q * f) := by grind
    have e3 : a + c - q * (e + g) = a - q * e + (c - q * g) := by grind
    have e4 : a + b + c + d - q * (e + f + g + h) = a - q * e + (b - q * f) + (c - q * g) + (d - q * h) := by grind
    refine ⟨hq, ?_, fun hb => ?_⟩
    rotate_left
    · have w1 := r1.lt (hq hb)
      have w2 := r2.lt (hq hb)
      have w3 := r3.lt (hq hb)
      have w4 := r4.lt (hq hb)
      rw [e2] at w2
      rw [e3] at w3
      rw [e4] at w4
      omega
    have l1 := Nat.le_trans (gs_rem fst hq r1) g1
    have l2 := Nat.le_trans (gs_rem fst hq r2) g2
    have l3 := Nat.le_trans (gs_rem fst hq r3) g3
    have l4 := Nat.le_trans (gs_rem fst hq r4) g4
    rw [e2] at l2
    rw [e3] at l3
    rw [e4] at l4
    obtain ⟨q1, q2⟩ := gs_pos p1 p0 hq
    obtain ⟨q3, q4⟩ := gs_k p1 p0 hq l1 r1.b0 (fun hb => (bgn hb).1)
    have b2 := r2.bgn hs' (hp _ i2)
    have b3 := r3.bgn hs' (hp _ i3)
    have b4 := r4.bgn hs' (hp _ i4)
    rw [e2] at b2
    rw [e3] at b3
    rw [e4] at b4
    exact ⟨q1, q2, n1, m01, m10, fun z => (by cases z), fun z => by omega, fun z => by omega, fun _ z => by omega, fun _ => ⟨l1, l2, l3, l4⟩, fun _ => ⟨q3, q4, s, hs', r1.bgn hs' (hp _ i1), b2, b3, b4⟩⟩
  · cases hs
/-- a part of the first chain -/
theorem G8.take0 {a b c d e f g h p : Int} {m0 m1 : Nat} {bg : Bool} {k1 k0 x1 x0 y1 y0 N : Nat} (hG : G8 a b c d e f g h m0 m1 bg k1 k0 x1 x0 y1 y0 N) (hm : ¬ m1 < m0) (hp : 0 < m0 → 1 ≤ p) (hx : m0 = 0 → x1 = 1 ∧ x0 = 4) :
    G8 (a * p + c) (b * p + d) a b (e * p + g) (f * p + h) e f (m0 + 1) m1 bg k1 k0 (gs (decide (0 < m0)) x1 x0 p).1 (gs (decide (0 < m0)) x1 x0 p).2 y1 y0 N := by
  obtain ⟨p1, p0, n1, m01, m10, fst, nb, z0, z1, on, bgn⟩ := hG
  have hmm : m0 = m1 := by omega
  by_cases z : m0 = 0
  · have zz : m1 = 0 := by omega
    obtain ⟨g1, g2, g3, g4⟩ := z0 z
    obtain ⟨e1, e2⟩ := hx z
    have hd : decide (0 < m0) = false := decide_eq_false (by omega)
    rw [hd]
    subst e1 e2
    obtain ⟨q1, q2⟩ := two_first (p := p) g1 g3
    obtain ⟨q3, q4⟩ := two_first (p := p) g2 g4
    exact ⟨p1, p0, n1, by omega, by omega, fst, nb, fun z => by omega, fun _ _ => ⟨q1, q3, q2, q4⟩, fun z => by omega, fun z => by rw [nb zz] at z; cases z⟩
  · have hp1 := hp (by omega)
    have hd : decide (0 < m0) = true := decide_eq_true (by omega)
    rw [hd]
    obtain ⟨u1, u2, u3⟩ := gs_up (x1 := x1) (x0 := x0) hp1
    rw [u1, u2]
    obtain ⟨g1, g2, g3, g4⟩ := on (by omega)
    rw [Nat.mul_right_comm] at g1 g2 g3 g4
    obtain ⟨q1, q2⟩ := two_in hp1 g1 g3
    have e4 : a + b + c + d = a + b + (c + d) := by grind
    have e5 : e + f + g + h = e + f + (g + h) := by grind
    rw [e4, e5] at g4
    obtain ⟨q3, q4⟩ := two_in hp1 g2 g4
    rw [Nat.mul_right_comm] at q1 q2 q3 q4
    have t1 : a * p + c + (b * p + d) = (a + b) * p + (c + d) := by grind
    have t2 : e * p + g + (f * p + h) = (e + f) * p + (g + h) := by grind
    have t3 : a * p + c + (b * p + d) + a + b = (a + b) * p + (c + d) + (a + b) := by grind
    have t4 : e * p + g + (f * p + h) + e + f = (e + f) * p + (g + h) + (e + f) := by grind
    refine ⟨p1, p0, n1, by omega, by omega, fst, fun z => by omega, fun z => by omega, fun _ z => by omega, fun _ => ⟨q1, by rw [t1, t2]; exact q3, q2, by rw [t3, t4]; exact q4⟩, fun z => ?_⟩
    obtain ⟨b1, b2, s, b3⟩ := bgn z
    have := Nat.mul_le_mul_right y1 (Nat.mul_le_mul_left N u3)
    have w1 : a * p + c = a * (p - 1) + (a + c) := by grind
    have w2 : e * p + g = e * (p - 1) + (e + g) := by grind
    have w3 : a * p + c + a = a * p + (a + c) := by grind
    have w4 : e * p + g + e = e * p + (e + g) := by grind
    have w5 : (a + b) * p + (c + d) = (a + b) * (p - 1) + (a + b + c + d) := by grind
    have w6 : (e + f) * p + (g + h) = (e + f) * (p - 1) + (e + f + g + h) := by grind
    have w7 : (a + b) * p + (c + d) + (a + b) = (a + b) * p + (a + b + c + d) := by grind
    have w8 : (e + f) * p + (g + h) + (e + f) = (e + f) * p + (e + f + g + h) := by grind
    refine ⟨by omega, by omega, s, b3.sg, ?_, ?_, ?_, ?_⟩
    · rw [w1, w2]; exact Bgn.muladd (by omega) b3.ii b3.oi
    · rw [t1, t2, w5, w6]; exact Bgn.muladd (by omega) b3.io b3.oo
    · rw [w3, w4]; exact Bgn.muladd (by omega) b3.ii b3.oi
    · rw [t3, t4, w7, w8]; exact Bgn.muladd (by omega) b3.io b3.oo
/-- .. of the second one -/
theorem G8.take1 {a b c d e f g h p : Int} {m0 m1 : Nat} {bg : Bool} {k1 k0 x1 x0 y1 y0 N : Nat} (hG : G8 a b c d e f g h m0 m1 bg k1 k0 x1 x0 y1 y0 N) (hm : m1 < m0) (hp : 0 < m1 → 1 ≤ p) (hx : m1 = 0 → y1 = 1 ∧ y0 = 4) :
    G8 (a * p + b) a (c * p + d) c (e * p + f) e (g * p + h) g m0 (m1 + 1) bg k1 k0 x1 x0 (gs (decide (0 < m1)) y1 y0 p).1 (gs (decide (0 < m1)) y1 y0 p).2 N := by
  obtain ⟨p1, p0, n1, m01, m10, fst, nb, z0, z1, on, bgn⟩ := hG
  by_cases z : m1 = 0
  · obtain ⟨g1, g2, g3, g4⟩ := z1 (by omega) z
    obtain ⟨e1, e2⟩ := hx z
    have hd : decide (0 < m1) = false := decide_eq_false (by omega)
    rw [hd]
    subst e1 e2
    obtain ⟨q1, q2⟩ := two_first (p := p) g1 g2
    obtain ⟨q3, q4⟩ := two_first (p := p) g3 g4
    have t1 : a * p + b + (c * p + d) = (a + c) * p + (b + d) := by grind
    have t2 : e * p + f + (g * p + h) = (e + g) * p + (f + h) := by grind
    have t3 : a * p + b + a + (c * p + d) + c = (a + c) * p + (b + d) + (a + c) := by grind
    have t4 : e * p + f + e + (g * p + h) + g = (e + g) * p + (f + h) + (e + g) := by grind
    exact ⟨p1, p0, n1, by omega, by omega, fst, fun z => by omega, fun z => by omega, fun _ z => by omega, fun _ => ⟨q1, q2, by rw [t1, t2]; exact q3, by rw [t3, t4]; exact q4⟩, fun z' => by rw [nb z] at z'; cases z'⟩
  · have hp1 := hp (by omega)
    have hd : decide (0 < m1) = true := decide_eq_true (by omega)
    rw [hd]
    obtain ⟨u1, u2, u3⟩ := gs_up (x1 := y1) (x0 := y0) hp1
    rw [u1, u2]
    obtain ⟨g1, g2, g3, g4⟩ := on (by omega)
    obtain ⟨q1, q2⟩ := two_in hp1 g1 g2
    have e4 : a + b + c + d = a + c + (b + d) := by grind
    have e5 : e + f + g + h = e + g + (f + h) := by grind
    rw [e4, e5] at g4
    obtain ⟨q3, q4⟩ := two_in hp1 g3 g4
    have t1 : a * p + b + (c * p + d) = (a + c) * p + (b + d) := by grind
    have t2 : e * p + f + (g * p + h) = (e + g) * p + (f + h) := by grind
    have t3 : a * p + b + a + (c * p + d) + c = (a + c) * p + (b + d) + (a + c) := by grind
    have t4 : e * p + f + e + (g * p + h) + g = (e + g) * p + (f + h) + (e + g) := by grind
    refine ⟨p1, p0, n1, by omega, by omega, fst, fun z => by omega, fun z => by omega, fun _ z => by omega, fun _ => ⟨q1, q2, by rw [t1, t2]; exact q3, by rw [t3, t4]; exact q4⟩, fun z => ?_⟩
    obtain ⟨b1, b2, s, b3⟩ := bgn z
    have := Nat.mul_le_mul_left (N * x1) u3
    have w1 : a * p + b = a * (p - 1) + (a + b) := by grind
    have w2 : e * p + f = e * (p - 1) + (e + f) := by grind
    have w3 : a * p + b + a = a * p + (a + b) := by grind
    have w4 : e * p + f + e = e * p + (e + f) := by grind
    have w5 : (a + c) * p + (b + d) = (a + c) * (p - 1) + (a + b + c + d) := by grind
    have w6 : (e + g) * p + (f + h) = (e + g) * (p - 1) + (e + f + g + h) := by grind
    have w7 : (a + c) * p + (b + d) + (a + c) = (a + c) * p + (a + b + c + d) := by grind
    have w8 : (e + g) * p + (f + h) + (e + g) = (e + g) * p + (e + f + g + h) := by grind
    refine ⟨by omega, by omega, s, b3.sg, ?_, ?_, ?_, ?_⟩
    · rw [w1, w2]; exact Bgn.muladd (by omega) b3.ii b3.io
    · rw [w3, w4]; exact Bgn.muladd (by omega) b3.ii b3.io
    · rw [t1, t2, w5, w6]; exact Bgn.muladd (by omega) b3.oi b3.oo
    · rw [t3, t4, w7, w8]; exact Bgn.muladd (by omega) b3.oi b3.oo
end PL
namespace PL
/-- r, asked with purse m and again with what is left, goes on to its end -/
inductive Tt (P KM : Nat) : R → Bool → Nat → Nat → Nat → Nat → Prop
  | part {n r r' bg k1 k0 β q} {m m' : Nat} : Told n r m r' m' (.part q) → (bg = true → 1 ≤ q) → Gd P KM r' true (gs bg k1 k0 q).1 (gs bg k1 k0 q).2 β → Tt P KM r' true (gs bg k1 k0 q).1 (gs bg k1 k0 q).2 β m' → r'.tk + m' = r.tk + m → Tt P KM r bg k1 k0 β m
  | waits {n r r' bg k1 k0 β} {m : Nat} : Told n r m r' 0 .waits → Gd P KM r' bg k1 k0 β → r'.tk = r.tk + m → Tt P KM r bg k1 k0 β m
  | fin {n r r' bg k1 k0 β} {m m' : Nat} : bg = true → Told n r m r' m' .fin → Gd P KM r' bg k1 k0 β → r'.tk + m' = r.tk + m → Tt P KM r bg k1 k0 β m
  | none {n r r' bg k1 k0 β} {m m' : Nat} : bg = false → Told n r m r' m' .none → Gd P KM r' bg k1 k0 β → r'.tk + m' = r.tk + m → Tt P KM r bg k1 k0 β m
section
variable {P KM : Nat}
theorem Tt.lift {r r0 : R} {bg : Bool} {k1 k0 β m m0 : Nat} (h : Tt P KM r bg k1 k0 β m) (ht : ∀ n r' (m' : Nat) ans, Told n r m r' m' ans → ∃ n', Told n' r0 m0 r' m' ans) (hk : r.tk + m = r0.tk + m0) : Tt P KM r0 bg k1 k0 β m0 := by
  cases h with
  | part h1 h2 h3 h4 h5 =>
    obtain ⟨n', h1'⟩ := ht _ _ _ _ h1
    exact .part h1' h2 h3 h4 (by omega)
  | waits h1 h2 h3 =>
    obtain ⟨n', h1'⟩ := ht _ _ 0 _ h1
    exact .waits h1' h2 (by omega)
  | fin h0 h1 h2 h3 =>
    obtain ⟨n', h1'⟩ := ht _ _ _ _ h1
    exact .fin h0 h1' h2 (by omega)
  | none h0 h1 h2 h3 =>
    obtain ⟨n', h1'⟩ := ht _ _ _ _ h1
    exact .none h0 h1' h2 (by omega)
/-- a plain fraction's next part -/
structure Fx (t b : Int) (bg : Bool) (k1 k0 E : Nat) : Prop where
  sz : 2 * Ls k1 k0 t b + 8 ≤ E
  p1 : 1 ≤ k1
  p0 : 1 ≤ k0
  ks : k1 + k0 ≤ E
  fst : bg = false → k1 = 1 ∧ k0 = 4
  bgn : bg = true → ∃ s, Sg s ∧ Bgn s t b
theorem Fx.rem {t b : Int} (b0 : b ≠ 0) : Rem t b (t.fdiv b) := by
  refine ⟨b0, ?_, ?_⟩ <;> rw [sub_fdiv]
  · rcases Int.lt_or_gt_of_ne b0 with z | z
    · exact Int.mul_nonneg_of_nonpos_of_nonpos (fmod_neg' z).2 (by omega)
    · exact Int.mul_nonneg (Int.fmod_nonneg_of_pos _ z) (by omega)
  · rcases Int.lt_or_gt_of_ne b0 with z | z
    · exact Int.mul_le_mul_of_nonpos_right (by have := (fmod_neg' (t := t) z).1; omega) (by omega)
    · exact Int.mul_le_mul_of_nonneg_right (by have := Int.fmod_lt_of_pos t z; omega) (by omega)
theorem Fx.next {t b : Int} {bg : Bool} {k1 k0 E : Nat} (h : Fx t b bg k1 k0 E) (b0 : b ≠ 0) : (bg = true → 1 ≤ t.fdiv b) ∧ Fx b (t - t.fdiv b * b) true (gs bg k1 k0 (t.fdiv b)).1 (gs bg k1 k0 (t.fdiv b)).2 E := by
  obtain ⟨sz, p1, p0, ks, fst, bgn⟩ := h
  have rm := Fx.rem (t := t) b0
  have hq : bg = true → 1 ≤ t.fdiv b := fun z => by
    obtain ⟨s, hs, hb⟩ := bgn z
    exact hb.floor hs b0
  have l1 := gs_rem fst hq rm
  have hk : bg = true → k1 ≤ Ls k1 k0 t b := fun z => by
    obtain ⟨s, hs, hb⟩ := bgn z
    have h3 := hb.ps
    have : t ≠ 0 := fun e => by rw [e, Int.mul_zero] at h3; omega
    unfold Ls
    have := Nat.le_mul_of_pos_right k1 (show 0 < t.natAbs by omega)
    omega
  obtain ⟨q1, q2⟩ := gs_k p1 p0 hq l1 b0 hk
  obtain ⟨q3, q4⟩ := gs_pos p1 p0 hq
  refine ⟨hq, by omega, q3, q4, by omega, (fun z => by cases z), fun _ => ?_⟩
  obtain ⟨s, hs, hp⟩ := sg_of b0
  exact ⟨s, hs, rm.bgn hs hp⟩
theorem Fx.sm {t b : Int} {bg : Bool} {k1 k0 e : Nat} (h : Fx t b bg k1 k0 (2 ^ e)) (he : e < 290000) : Sm t ∧ Sm b := by
  have := Ls_top (Nat.le_refl _) h.p1 h.p0 (t := t) (b := b)
  have := h.sz
  exact ⟨sm_of (e := e) (by omega) he, sm_of (e := e) (by omega) he⟩
theorem Gd.ofX {x : R} {t b : Int} {bg : Bool} {k1 k0 β : Nat} (h : Fx t b bg k1 k0 (2 ^ (P * x.tk + β))) (h3 : 3 ≤ β) : Gd P KM (.fourX x t b bg) bg k1 k0 β := .fourX h.sz h3 h.p1 h.p0 h.ks h.fst h.bgn
theorem Gd.of8X {x y : R} {t b : Int} {bg : Bool} {k1 k0 β : Nat} (h : Fx t b bg k1 k0 (2 ^ (P * (x.tk + y.tk) + β))) (h3 : 3 ≤ β) : Gd P KM (.eightX x y t b bg) bg k1 k0 β := .eightX h.sz h3 h.p1 h.p0 h.ks h.fst h.bgn
theorem Gd.ofF {t b : Int} {bg : Bool} {k1 k0 β : Nat} (h : Fx t b bg k1 k0 (2 ^ β)) : Gd P KM (.fixed t b bg) bg k1 k0 β := .fixed h.sz h.p1 h.p0 h.ks h.fst h.bgn
theorem fixed_tt {β m : Nat} (hb : β < 290000) : ∀ (n : Nat) (t b : Int) (bg : Bool) (k1 k0 : Nat), b.natAbs ≤ n → Fx t b bg k1 k0 (2 ^ β) → Tt P KM (.fixed t b bg) bg k1 k0 β m
  | n, t, b, bg, k1, k0, hn, h => by
    by_cases b0 : b = 0
    · subst b0
      cases bg with
      | true => exact .fin (m' := m) rfl .fxEnd (.ofF h) rfl
      | false => exact .none (m' := m) rfl .fxNo (.ofF h) rfl
    · obtain ⟨hq, h'⟩ := h.next b0
      obtain ⟨s1, s2⟩ := h.sm hb
      match n, hn with
      | 0, hn => omega
      | n + 1, hn => exact .part (m' := m) (.fxPart b0 s1 s2) hq (.ofF h') (fixed_tt hb n _ _ _ _ _ (by have := fmod_lt (t := t) b0; rw [sub_fdiv]; omega) h') rfl
theorem fourX_tt {x : R} {β m : Nat} (h3 : 3 ≤ β) (hb : P * x.tk + β < 290000) : ∀ (n : Nat) (t b : Int) (bg : Bool) (k1 k0 : Nat), b.natAbs ≤ n → Fx t b bg k1 k0 (2 ^ (P * x.tk + β)) → Tt P KM (.fourX x t b bg) bg k1 k0 β m
  | n, t, b, bg, k1, k0, hn, h => by
    by_cases b0 : b = 0
    · subst b0
      cases bg with
      | true => exact .fin (m' := m) rfl (.fxX .fxEnd) (.ofX h h3) rfl
      | false => exact .none (m' := m) rfl (.fxX .fxNo) (.ofX h h3) rfl
    · obtain ⟨hq, h'⟩ := h.next b0
      obtain ⟨s1, s2⟩ := h.sm hb
      match n, hn with
      | 0, hn => omega
      | n + 1, hn => exact .part (m' := m) (.fxX (.fxPart b0 s1 s2)) hq (.ofX h' h3) (fourX_tt h3 hb n _ _ _ _ _ (by have := fmod_lt (t := t) b0; rw [sub_fdiv]; omega) h') rfl
theorem eightX_tt {x y : R} {β m : Nat} (h3 : 3 ≤ β) (hb : P * (x.tk + y.tk) + β < 290000) : ∀ (n : Nat) (t b : Int) (bg : Bool) (k1 k0 : Nat), b.natAbs ≤ n → Fx t b bg k1 k0 (2 ^ (P * (x.tk + y.tk) + β)) → Tt P KM (.eightX x y t b bg) bg k1 k0 β m
  | n, t, b, bg, k1, k0, hn, h => by
    by_cases b0 : b = 0
    · subst b0
      cases bg with
      | true => exact .fin (m' := m) rfl (.exX .fxEnd) (.of8X h h3) rfl
      | false => exact .none (m' := m) rfl (.exX .fxNo) (.of8X h h3) rfl
    · obtain ⟨hq, h'⟩ := h.next b0
      obtain ⟨s1, s2⟩ := h.sm hb
      match n, hn with
      | 0, hn => omega
      | n + 1, hn => exact .part (m' := m) (.exX (.fxPart b0 s1 s2)) hq (.of8X h' h3) (eightX_tt h3 hb n _ _ _ _ _ (by have := fmod_lt (t := t) b0; rw [sub_fdiv]; omega) h') rfl
theorem leaf_tt (hP : P ≤ 289900) (hK : KM < 2 ^ 50) : ∀ (m : Nat) (r : R) (bg : Bool) (k1 k0 : Nat), LfI P KM r → r.tk + m < KM → bg = decide (0 < r.tk) → 1 ≤ k1 → 1 ≤ k0 → k1 + k0 ≤ 2 ^ (P * r.tk + 3) → (bg = false → k1 = 1 ∧ k0 = 4) → Tt P KM r bg k1 k0 3 m := by
  intro m
  induction m with
  | zero =>
    intro r bg k1 k0 h hk hb h1 h0 hs hf
    rcases leaf_step hP h (by omega) hK with ⟨g1, g2⟩ | ⟨g1, _⟩
    · exact .fin (m' := 0) (by rw [hb]; exact decide_eq_true g1) (g2 _) (.leaf h hb h1 h0 hs hf) rfl
    · exact .waits g1 (.leaf h hb h1 h0 hs hf) rfl
  | succ m ih =>
    intro r bg k1 k0 h hk hb h1 h0 hs hf
    rcases leaf_step hP h (by omega) hK with ⟨g1, g2⟩ | ⟨_, q, r', g1, g2, g3, g4, g5⟩
    · exact .fin (m' := m + 1) (by rw [hb]; exact decide_eq_true g1) (g2 _) (.leaf h hb h1 h0 hs hf) rfl
    · have hq : bg = true → 1 ≤ q := fun z => g5 (by rw [hb] at z; exact of_decide_eq_true z)
      obtain ⟨p1, p0⟩ := gs_pos h1 h0 hq
      have hb' : true = decide (0 < r'.tk) := (decide_eq_true (by omega)).symm
      have hs' : (gs bg k1 k0 q).1 + (gs bg k1 k0 q).2 ≤ 2 ^ (P * r'.tk + 3) := by
        have e : 2 ^ (P * r'.tk + 3) = 2 ^ P * 2 ^ (P * r.tk + 3) := by rw [g3, Nat.mul_add, Nat.mul_one, ← Nat.pow_add]; congr 1; omega
        rw [e]
        cases bg with
        | true =>
          obtain ⟨u1, u2, u3⟩ := gs_up (x1 := k1) (x0 := k0) (hq rfl)
          rw [u1, u2]
          have e1 : (q.toNat + 1) * (k1 + k0) ≤ 2 ^ P * 2 ^ (P * r.tk + 3) := Nat.mul_le_mul (by omega) hs
          have e2 : (q.toNat + 1) * (k1 + k0) = k1 * q.toNat + k0 + k1 + q.toNat * k0 := by grind
          omega
        | false =>
          have e1 : (q.natAbs + 1) * 8 ≤ 2 ^ P * 2 ^ (P * r.tk + 3) := Nat.mul_le_mul (by omega) (pow_le3 (by omega))
          unfold gs
          simp only [Bool.false_eq_true, if_false]
          split <;> simp only <;> omega
      have hm : ((m + 1 : Nat) : Int) - 1 = (m : Int) := by omega
      have ht := g1 ((m + 1 : Nat) : Int) (by omega)
      rw [hm] at ht
      exact .part ht hq (.leaf g2 hb' p1 p0 hs' (fun z => by cases z)) (ih r' true _ _ g2 (by omega) hb' p1 p0 hs' fun z => by cases z) (by omega)
/-- all fours over one inner reader, if those that are not sure -/
theorem four_close {x : R} {rdy : Bool} {x1 x0 N ν β m : Nat} (hx : Gd P KM x rdy x1 x0 β) (hN : N < 2 ^ ν) (hB : P * x.tk + (β + ν + 3) < 290000)
    (base : ∀ a b c d bg k1 k0, G4 a b c d rdy bg k1 k0 x1 x0 N → sure4 rdy a b c d = none → Tt P KM (.four a b c d rdy bg x) bg k1 k0 (β + ν + 3) m) :
    ∀ a b c d bg k1 k0, G4 a b c d rdy bg k1 k0 x1 x0 N → Tt P KM (.four a b c d rdy bg x) bg k1 k0 (β + ν + 3) m := by
  have on : ∀ (n : Nat) a b c d k1 k0, a.natAbs + c.natAbs + (a + b).natAbs + (c + d).natAbs ≤ n → G4 a b c d rdy true k1 k0 x1 x0 N → Tt P KM (.four a b c d rdy true x) true k1 k0 (β + ν + 3) m := by
    intro n
    induction n with
    | zero =>
      intro a b c d k1 k0 hn g
      exfalso
      have hd := g.det
      have : a = 0 := by omega
      have : c = 0 := by omega
      subst_vars
      simp at hd
    | succ n ih =>
      intro a b c d k1 k0 hn g
      cases hs : sure4 rdy a b c d with
      | none => exact base _ _ _ _ _ _ _ g hs
      | some q =>
        obtain ⟨s1, s2, s3, s4⟩ := (Gd.of4 hx hN g).sm4 hB
        obtain ⟨hq, g', hl⟩ := g.tell hs
        refine .part (m' := m) (.foTell s1 s2 s3 s4 hs) hq (.of4 hx hN g') (ih _ _ _ _ _ _ ?_ g') rfl
        have := hl rfl
        omega
  intro a b c d bg k1 k0 g
  cases bg with
  | true => exact on _ _ _ _ _ _ _ (Nat.le_refl _) g
  | false =>
    cases hs : sure4 rdy a b c d with
    | none => exact base _ _ _ _ _ _ _ g hs
    | some q =>
      obtain ⟨s1, s2, s3, s4⟩ := (Gd.of4 hx hN g).sm4 hB
      obtain ⟨hq, g', hl⟩ := g.tell hs
      exact .part (m' := m) (.foTell s1 s2 s3 s4 hs) hq (.of4 hx hN g') (on _ _ _ _ _ _ _ (Nat.le_refl _) g') rfl
theorem nx_fx {k1 k0 N ν x e : Nat} {t b : Int} (h : N < 2 ^ ν) (hx : x ≤ 2 ^ e) (hl : Ls k1 k0 t b ≤ N * x) (he : 3 ≤ e) : 2 * Ls k1 k0 t b + 8 ≤ 2 ^ (e + ν + 3) := by
  have := nx_le h hx
  have := pow_le3 (n := e + ν) (by omega)
  have e1 : 2 ^ (e + ν + 3) = 2 ^ (e + ν) * 8 := by rw [Nat.pow_add]
  omega
theorem four_tt {x : R} {rdy : Bool} {x1 x0 β m : Nat} (ht : Tt P KM x rdy x1 x0 β m) : ∀ {N ν : Nat}, Gd P KM x rdy x1 x0 β → N < 2 ^ ν → P * (x.tk + m) + (β + ν + 3) < 290000 →
    ∀ a b c d bg k1 k0, G4 a b c d rdy bg k1 k0 x1 x0 N → Tt P KM (.four a b c d rdy bg x) bg k1 k0 (β + ν + 3) m := by
  induction ht with
  | @part n r r' rdy k1 k0 β q m m' h1 h2 h3 h4 h5 ih =>
    intro N ν hx hN hB
    have hle : P * r.tk ≤ P * (r.tk + m) := Nat.mul_le_mul_left _ (by omega)
    refine four_close hx hN (by omega) fun a b c d bg u1 u0 g hs => ?_
    obtain ⟨s1, s2, s3, s4⟩ := (Gd.of4 hx hN g).sm4 (by omega)
    have hle' : P * r'.tk ≤ P * (r.tk + m) := Nat.mul_le_mul_left _ (by omega)
    have hq : Sm q := by
      have hb := h3.bd
      refine sm_of (e := P * r'.tk + β) ?_ (by omega)
      have : q.natAbs ≤ (gs rdy k1 k0 q).1 := by
        unfold gs
        cases rdy with
        | true =>
          simp only [if_true]
          have := h2 rfl
          have hx1 := hx.bd
          have := Nat.le_mul_of_pos_left q.toNat (show 0 < k1 by omega)
          omega
        | false => simp only [Bool.false_eq_true, if_false]; split <;> simp only <;> omega
      omega
    have t := ih h3 hN (by rw [h5]; omega) _ _ _ _ _ _ _ (g.take (p := q) h2 hx.bd.2.2.2)
    exact t.lift (fun n' r'' m'' ans h => ⟨_, .foIn s1 s2 s3 s4 hs h1 hq h⟩) (by simp only [R.tk]; omega)
  | @waits n r r' rdy k1 k0 β m h1 h2 h3 =>
    intro N ν hx hN hB
    have hle : P * r.tk ≤ P * (r.tk + m) := Nat.mul_le_mul_left _ (by omega)
    refine four_close hx hN (by omega) fun a b c d bg u1 u0 g hs => ?_
    obtain ⟨s1, s2, s3, s4⟩ := (Gd.of4 hx hN g).sm4 (by omega)
    exact .waits (.foWait s1 s2 s3 s4 hs h1) (.of4 h2 hN g) (by simp only [R.tk]; omega)
  | @fin n r r' rdy k1 k0 β m m' h0 h1 h2 h3 =>
    intro N ν hx hN hB
    have hle : P * r.tk ≤ P * (r.tk + m) := Nat.mul_le_mul_left _ (by omega)
    refine four_close hx hN (by omega) fun a b c d bg u1 u0 g hs => ?_
    obtain ⟨s1, s2, s3, s4⟩ := (Gd.of4 hx hN g).sm4 (by omega)
    have hle' : P * r'.tk ≤ P * (r.tk + m) := Nat.mul_le_mul_left _ (by omega)
    have e1 : P * r'.tk + (β + ν + 3) = P * r'.tk + β + ν + 3 := by omega
    have h3' := h2.three
    have hb2 := h2.bd.1
    have fx : Fx a c bg u1 u0 (2 ^ (P * r'.tk + (β + ν + 3))) := by
      have hGb := (Gd.of4 h2 hN g).bd.1
      refine ⟨?_, g.p1, g.p0, hGb, g.fst, fun z => ?_⟩
      · rw [e1]
        exact nx_fx hN (x := k1) (by omega) (g.on h0).1 (by omega)
      · obtain ⟨_, _, s, hb⟩ := g.bgn z
        exact ⟨s, hb.sg, hb.i⟩
    have t := fourX_tt (KM := KM) (x := r') (m := m') (by omega) (by omega) _ a c bg u1 u0 (Nat.le_refl _) fx
    refine t.lift (fun n' r'' m'' ans h => ?_) (by simp only [R.tk]; omega)
    cases h with
    | fxX h => exact ⟨_, .foEnd s1 s2 s3 s4 hs h1 h⟩
  | @none n r r' rdy k1 k0 β m m' h0 h1 h2 h3 =>
    intro N ν hx hN hB
    have hle : P * r.tk ≤ P * (r.tk + m) := Nat.mul_le_mul_left _ (by omega)
    refine four_close hx hN (by omega) fun a b c d bg u1 u0 g hs => ?_
    obtain ⟨s1, s2, s3, s4⟩ := (Gd.of4 hx hN g).sm4 (by omega)
    exact .none (m' := m') (g.off h0).1 (.foNo s1 s2 s3 s4 hs h1) (.of4 h2 hN g) (by simp only [R.tk]; omega)
theorem Told.tk_le {n : Nat} {r r' : R} {m m' : Int} {ans : Ans} (h : Told n r m r' m' ans) : r.tk ≤ r'.tk := by
  induction h with
  | @etWait a b c d e f g h m0 m1 bg x y m w i z m' _ _ _ _ ih => cases w <;> simp only [cond, R.tk] at * <;> omega
  | @etNo a b c d e f g h m0 m1 bg x y m w i z m' _ _ _ _ ih => cases w <;> simp only [cond, R.tk] at * <;> omega
  | @etFour a b c d e f g h m0 m1 bg x y m w i z m2 n fr m' ans _ _ _ _ _ _ ih1 ih2 => cases w <;> simp only [cond, R.tk] at * <;> omega
  | @etFix a b c d e f g h m0 m1 bg x y m w i z m2 t0 b0 t' b' g' m' ans _ _ _ _ _ _ _ ih1 ih2 => cases w <;> simp only [cond, R.tk] at * <;> omega
  | _ => simp only [R.tk] at * <;> omega
/-- one asking, and what holds behind a part -/
inductive On (P KM : Nat) (S : R → Nat → Nat → Nat → Prop) : R → Bool → Nat → Nat → Nat → Nat → Prop
  | part {n r r' bg k1 k0 β q} {m m' : Nat} : Told n r m r' m' (.part q) → (bg = true → 1 ≤ q) → Gd P KM r' true (gs bg k1 k0 q).1 (gs bg k1 k0 q).2 β → S r' (gs bg k1 k0 q).1 (gs bg k1 k0 q).2 m' → r'.tk + m' = r.tk + m → On P KM S r bg k1 k0 β m
  | waits {n r r' bg k1 k0 β} {m : Nat} : Told n r m r' 0 .waits → Gd P KM r' bg k1 k0 β → r'.tk = r.tk + m → On P KM S r bg k1 k0 β m
  | fin {n r r' bg k1 k0 β} {m m' : Nat} : bg = true → Told n r m r' m' .fin → Gd P KM r' bg k1 k0 β → r'.tk + m' = r.tk + m → On P KM S r bg k1 k0 β m
  | none {n r r' bg k1 k0 β} {m m' : Nat} : bg = false → Told n r m r' m' .none → Gd P KM r' bg k1 k0 β → r'.tk + m' = r.tk + m → On P KM S r bg k1 k0 β m
theorem Tt.rec' {β : Nat} {C : R → Bool → Nat → Nat → Nat → Prop} (h : ∀ r bg k1 k0 m, Tt P KM r bg k1 k0 β m → On P KM (fun r' a b m' => Tt P KM r' true a b β m' ∧ C r' true a b m') r bg k1 k0 β m → C r bg k1 k0 m) {r : R} {bg : Bool} {k1 k0 m : Nat} (t : Tt P KM r bg k1 k0 β m) : C r bg k1 k0 m := by
  induction t with
  | part h1 h2 h3 h4 h5 ih => exact h _ _ _ _ _ (.part h1 h2 h3 h4 h5) (.part h1 h2 h3 ⟨h4, ih h⟩ h5)
  | waits h1 h2 h3 => exact h _ _ _ _ _ (.waits h1 h2 h3) (.waits h1 h2 h3)
  | fin h0 h1 h2 h3 => exact h _ _ _ _ _ (.fin h0 h1 h2 h3) (.fin h0 h1 h2 h3)
  | none h0 h1 h2 h3 => exact h _ _ _ _ _ (.none h0 h1 h2 h3) (.none h0 h1 h2 h3)
theorem eight_close {x y : R} {m0 m1 : Nat} {x1 x0 y1 y0 N ν β γ m : Nat} (hx : Gd P KM x (decide (0 < m0)) x1 x0 β) (hy : Gd P KM y (decide (0 < m1)) y1 y0 γ) (hN : N < 2 ^ ν) (hB : P * (x.tk + y.tk) + (β + γ + ν + 3) < 290000)
    (base : ∀ a b c d e f g h bg k1 k0, G8 a b c d e f g h m0 m1 bg k1 k0 x1 x0 y1 y0 N → sure8 m0 m1 a b c d e f g h = none → Tt P KM (.eight a b c d e f g h m0 m1 bg x y) bg k1 k0 (β + γ + ν + 3) m) :
    ∀ a b c d e f g h bg k1 k0, G8 a b c d e f g h m0 m1 bg k1 k0 x1 x0 y1 y0 N → Tt P KM (.eight a b c d e f g h m0 m1 bg x y) bg k1 k0 (β + γ + ν + 3) m := by
  have on : ∀ (n : Nat) a b c d e f g h k1 k0, a.natAbs + e.natAbs + (a + b).natAbs + (e + f).natAbs + (a + c).natAbs + (e + g).natAbs + (a + b + c + d).natAbs + (e + f + g + h).natAbs < n → G8 a b c d e f g h m0 m1 true k1 k0 x1 x0 y1 y0 N → Tt P KM (.eight a b c d e f g h m0 m1 true x y) true k1 k0 (β + γ + ν + 3) m := by
    intro n
    induction n with
    | zero => intro a b c d e f g h k1 k0 hn; omega
    | succ n ih =>
      intro a b c d e f g h k1 k0 hn q8
      cases hs : sure8 m0 m1 a b c d e f g h with
      | none => exact base _ _ _ _ _ _ _ _ _ _ _ q8 hs
      | some q =>
        have s8 := (Gd.of8 hx hy hN q8).sm8 hB
        obtain ⟨hq, g', hl⟩ := q8.tell hs
        refine .part (m' := m) (.etTell s8 hs) hq (.of8 hx hy hN g') (ih _ _ _ _ _ _ _ _ _ _ ?_ g') rfl
        have := hl rfl
        omega
  intro a b c d e f g h bg k1 k0 q8
  cases bg with
  | true => exact on _ _ _ _ _ _ _ _ _ _ _ (Nat.lt_succ_self _) q8
  | false =>
    cases hs : sure8 m0 m1 a b c d e f g h with
    | none => exact base _ _ _ _ _ _ _ _ _ _ _ q8 hs
    | some q =>
      have s8 := (Gd.of8 hx hy hN q8).sm8 hB
      obtain ⟨hq, g', hl⟩ := q8.tell hs
      exact .part (m' := m) (.etTell s8 hs) hq (.of8 hx hy hN g') (on _ _ _ _ _ _ _ _ _ _ _ (Nat.lt_succ_self _) g') rfl
/-- the part that an inner reader told is small -/
theorem sm_part {r' : R} {bg : Bool} {k1 k0 β : Nat} {q : Int} (h3 : Gd P KM r' true (gs bg k1 k0 q).1 (gs bg k1 k0 q).2 β) (h2 : bg = true → 1 ≤ q) (h1 : 1 ≤ k1) (hB : P * r'.tk + β < 290000) : Sm q := by
  have hb := h3.bd
  refine sm_of (e := P * r'.tk + β) ?_ hB
  have : q.natAbs ≤ (gs bg k1 k0 q).1 := by
    unfold gs
    cases bg with
    | true =>
      simp only [if_true]
      have := h2 rfl
      have := Nat.le_mul_of_pos_left q.toNat (show 0 < k1 by omega)
      omega
    | false => simp only [Bool.false_eq_true, if_false]; split <;> simp only <;> omega
  omega
/-- what is left where the first chain ended, or the second one -/
theorem G8.left {a b c d e f g h : Int} {m0 m1 : Nat} {bg : Bool} {k1 k0 x1 x0 y1 y0 N : Nat} (w : Bool) (q : G8 a b c d e f g h m0 m1 bg k1 k0 x1 x0 y1 y0 N) (hm : 0 < m1) (hx : 1 ≤ x1) (hy : 1 ≤ y1) (hdet : a * cond w g f ≠ cond w c b * e) :
    G4 a (cond w c b) e (cond w g f) true bg k1 k0 (cond w x1 y1) (cond w x0 y0) (N * cond w y1 x1) := by
  obtain ⟨p1, p0, n1, m01, m10, fst, nb, z0, z1, on, bgn⟩ := q
  obtain ⟨g1, g2, g3, g4⟩ := on hm
  refine ⟨hdet, p1, p0, ?_, fst, fun z => (by cases z), fun _ => ?_, fun z => ?_⟩
  · cases w <;> exact Nat.mul_pos n1 (by assumption)
  · cases w with
    | true => simp only [cond]; rw [Nat.mul_right_comm, Nat.mul_right_comm N y1]; exact ⟨g1, g3⟩
    | false => simp only [cond]; exact ⟨g1, g2⟩
  · obtain ⟨b1, b2, s, b3⟩ := bgn z
    cases w with
    | true => simp only [cond]; rw [Nat.mul_right_comm]; exact ⟨b1, b2, s, b3.sg, b3.ii, b3.oi⟩
    | false => simp only [cond]; exact ⟨b1, b2, s, b3.sg, b3.ii, b3.io⟩
theorem eightF_tt {w : Bool} {dead : R} {β : Nat} (h3 : 3 ≤ β) {fr : R} {bg : Bool} {k1 k0 m : Nat} (hk : fr.kd = .four) (t : Tt P KM fr bg k1 k0 (P * dead.tk + β) m) : Tt P KM (.eightF w dead fr) bg k1 k0 β m := by
  refine Tt.rec' (C := fun fr bg k1 k0 m => fr.kd = .four → Tt P KM (.eightF w dead fr) bg k1 k0 β m) (fun r bg k1 k0 m _ o hk => ?_) t hk
  cases o with
  | part h1 h2 g3 h4 h5 => exact .part (.exF hk h1) h2 (.eightF (by rw [h1.kd]; exact hk) h3 g3) (h4.2 (by rw [h1.kd]; exact hk)) (by simp only [R.tk]; omega)
  | waits h1 h2 g3 => exact .waits (.exF hk h1) (.eightF (by rw [h1.kd]; exact hk) h3 h2) (by simp only [R.tk]; omega)
  | fin h0 h1 h2 g3 => exact .fin h0 (.exF hk h1) (.eightF (by rw [h1.kd]; exact hk) h3 h2) (by simp only [R.tk]; omega)
  | none h0 h1 h2 g3 => exact .none h0 (.exF hk h1) (.eightF (by rw [h1.kd]; exact hk) h3 h2) (by simp only [R.tk]; omega)
def E8 (P KM L : Nat) (x : R) (bgx : Bool) (x1 x0 β : Nat) (y : R) (bgy : Bool) (y1 y0 γ : Nat) (m : Nat) : Prop := ∀ N ν m0 m1, bgx = decide (0 < m0) → bgy = decide (0 < m1) → Gd P KM x bgx x1 x0 β → Gd P KM y bgy y1 y0 γ → x.lv ≤ L → y.lv ≤ L → N < 2 ^ ν → P * (x.tk + y.tk + m) + (β + γ + ν + 3) < 290000 → x.tk + y.tk + m < KM →
  ∀ a b c d e f g h bg k1 k0, G8 a b c d e f g h m0 m1 bg k1 k0 x1 x0 y1 y0 N → Tt P KM (.eight a b c d e f g h m0 m1 bg x y) bg k1 k0 (β + γ + ν + 3) m
/-- all readers so deep go on to their end -/
def TL (P KM L : Nat) : Prop := ∀ r bg k1 k0 β m, r.lv ≤ L → Gd P KM r bg k1 k0 β → P * (r.tk + m) + β < 290000 → r.tk + m < KM → Tt P KM r bg k1 k0 β m
theorem eight_left {L : Nat} (IH : TL P KM L) (w : Bool) {x y z : R} {m0 m1 m m' j : Nat} {x1 x0 y1 y0 N ν β γ : Nat} (hx : Gd P KM x (decide (0 < m0)) x1 x0 β) (hy : Gd P KM y (decide (0 < m1)) y1 y0 γ) (hN : N < 2 ^ ν) (hlx : x.lv ≤ L) (hly : y.lv ≤ L)
    (hB : P * (x.tk + y.tk + m) + (β + γ + ν + 3) < 290000) (hKM : x.tk + y.tk + m < KM) {a b c d e f g h : Int} {bg : Bool} {k1 k0 : Nat} (q8 : G8 a b c d e f g h m0 m1 bg k1 k0 x1 x0 y1 y0 N) (hs : sure8 m0 m1 a b c d e f g h = none)
    (hw : w = decide (m1 < m0)) (hm1 : 0 < m1) (ht : Told j (cond w y x) m z m' .fin) (hz : Gd P KM z true (cond w y1 x1) (cond w y0 x0) (cond w γ β)) (htk : z.tk + m' = (cond w y x).tk + m) : Tt P KM (.eight a b c d e f g h m0 m1 bg x y) bg k1 k0 (β + γ + ν + 3) m := by
  have s8 := (Gd.of8 hx hy hN q8).sm8 (Nat.lt_of_le_of_lt (Nat.add_le_add_right (Nat.mul_le_mul_left _ (by omega)) _) hB)
  have hle := ht.tk_le
  have hx1 := hx.bd.2.1
  have hy1 := hy.bd.2.1
  have hm0 : 0 < m0 := by have := q8.m01; omega
  have d0 : decide (0 < m0) = true := decide_eq_true hm0
  have d1 : decide (0 < m1) = true := decide_eq_true hm1
  rw [d0] at hx
  rw [d1] at hy
  have hzb := hz.bd.1
  by_cases hdet : a * cond w g f = cond w c b * e
  · -- a fraction
    obtain ⟨g1, g2, g3, g4⟩ := q8.on hm1
    obtain ⟨t0, b0, htb⟩ : ∃ t0 b0, (t0, b0) = (if a = 0 ∧ e = 0 then (cond w c b, cond w g f) else (a, e)) := ⟨_, _, rfl⟩
    have l0 : Ls k1 k0 t0 b0 ≤ N * (x1 + x0) * (y1 + y0) := by
      have q2 : N * x1 * (y1 + y0) ≤ N * (x1 + x0) * (y1 + y0) := Nat.mul_le_mul_right _ (Nat.mul_le_mul_left _ (by omega))
      have q3 : N * (x1 + x0) * y1 ≤ N * (x1 + x0) * (y1 + y0) := Nat.mul_le_mul_left _ (by omega)
      have q4 : N * x1 * y1 ≤ N * x1 * (y1 + y0) := Nat.mul_le_mul_left _ (by omega)
      split at htb
      · rename_i hz0
        obtain ⟨rfl, rfl⟩ := hz0
        cases w with
        | true =>
          simp only [cond, Prod.mk.injEq] at htb
          obtain ⟨rfl, rfl⟩ := htb
          rw [Int.zero_add, Int.zero_add] at g3
          omega
        | false =>
          simp only [cond, Prod.mk.injEq] at htb
          obtain ⟨rfl, rfl⟩ := htb
          rw [Int.zero_add, Int.zero_add] at g2
          omega
      · cases htb
        omega
    have hT : P * ((cond w x z).tk + (cond w z y).tk) + (β + γ + ν + 3) < 290000 := by
      refine Nat.lt_of_le_of_lt (Nat.add_le_add_right (Nat.mul_le_mul_left _ ?_) _) hB
      cases w <;> simp only [cond] at htk ⊢ <;> omega
    have hmono : 2 ^ (P * (x.tk + y.tk) + (β + γ + ν + 3)) ≤ 2 ^ (P * ((cond w x z).tk + (cond w z y).tk) + (β + γ + ν + 3)) := by
      refine Nat.pow_le_pow_right (by decide) (Nat.add_le_add_right (Nat.mul_le_mul_left _ ?_) _)
      cases w <;> simp only [cond] at hle ⊢ <;> omega
    have hsz : 2 * Ls k1 k0 t0 b0 + 8 ≤ 2 ^ (P * (x.tk + y.tk) + (β + γ + ν + 3)) := by
      have e1 : 2 ^ (P * (x.tk + y.tk) + (β + γ + ν + 3)) = 2 ^ (P * y.tk + γ + (P * x.tk + β + ν)) * 8 := by rw [Nat.mul_add, show P * x.tk + P * y.tk + (β + γ + ν + 3) = P * y.tk + γ + (P * x.tk + β + ν) + 3 by omega, Nat.pow_add]
      have q1 := nx_le hN (x := x1 + x0) (e := P * x.tk + β) hx.bd.1
      have q2 : N * (x1 + x0) * (y1 + y0) ≤ 2 ^ (P * y.tk + γ + (P * x.tk + β + ν)) := by
        rw [Nat.pow_add (m := P * y.tk + γ), Nat.mul_comm]
        exact Nat.mul_le_mul hy.bd.1 q1
      have e2 := hx.three
      have e3 := pow_le3 (n := P * y.tk + γ + (P * x.tk + β + ν)) (by omega)
      omega
    have fx : Fx t0 b0 bg k1 k0 (2 ^ (P * ((cond w x z).tk + (cond w z y).tk) + (β + γ + ν + 3))) := by
      have hks := (Gd.of8 (m0 := m0) (m1 := m1) (by rw [d0]; exact hx) (by rw [d1]; exact hy) hN q8).bd.1
      simp only [R.tk] at hks
      refine ⟨by omega, q8.p1, q8.p0, by omega, q8.fst, fun zb => ?_⟩
      obtain ⟨_, _, s, hb⟩ := q8.bgn zb
      have h3 := hb.ii.ps
      rw [if_neg (fun zz => by rw [zz.1, Int.mul_zero] at h3; omega)] at htb
      cases htb
      exact ⟨s, hb.sg, hb.ii⟩
    have t := eightX_tt (KM := KM) (m := m') (by omega) hT _ t0 b0 bg k1 k0 (Nat.le_refl _) fx
    refine t.lift (fun n' r'' m'' ans hh => ?_) (by simp only [R.tk]; cases w <;> simp only [cond] at htk ⊢ <;> omega)
    cases hh with
    | exX hh => exact ⟨_, .etFix s8 hs hw ht hdet htb hh⟩
  · have g4 := q8.left w hm1 hx1 hy1 hdet
    -- the other one
    have go : Gd P KM (cond w x y) true (cond w x1 y1) (cond w x0 y0) (cond w β γ) := by cases w; exact hy; exact hx
    have hlo : (cond w x y).lv ≤ L := by cases w; exact hly; exact hlx
    have hnu : N * cond w y1 x1 < 2 ^ (ν + (P * z.tk + cond w γ β)) := by
      rw [Nat.pow_add]
      refine Nat.mul_lt_mul_of_lt_of_le hN (by omega) ?_
      have := hz.bd.2.1
      omega
    have e1 : cond w β γ + (ν + (P * z.tk + cond w γ β)) + 3 = P * z.tk + (β + γ + ν + 3) := by cases w <;> simp only [cond] <;> omega
    have e2 : P * ((cond w x y).tk + m') + (P * z.tk + (β + γ + ν + 3)) ≤ P * (x.tk + y.tk + m) + (β + γ + ν + 3) := by
      rw [← Nat.add_assoc, ← Nat.mul_add]
      refine Nat.add_le_add_right (Nat.mul_le_mul_left _ ?_) _
      cases w <;> simp only [cond] at htk ⊢ <;> omega
    have e3 : P * ((cond w x y).tk + m') + cond w β γ ≤ P * ((cond w x y).tk + m') + (P * z.tk + (β + γ + ν + 3)) := by
      refine Nat.add_le_add_left ?_ _
      cases w <;> simp only [cond] <;> omega
    have to := IH _ _ _ _ _ m' hlo go (by omega) (by cases w <;> simp only [cond] at htk hle ⊢ <;> omega)
    have t4 := four_tt to go hnu (by rw [e1]; omega) _ _ _ _ bg k1 k0 g4
    rw [e1] at t4
    have t := eightF_tt (w := w) (dead := z) (by omega) rfl t4
    refine t.lift (fun n' r'' m'' ans hh => ?_) (by simp only [R.tk]; cases w <;> simp only [cond] at htk ⊢ <;> omega)
    cases hh with
    | exF _ hh =>
      have hd : decide (0 < cond w m0 m1) = true := by cases w; exact d1; exact d0
      exact ⟨_, .etFour s8 hs hw ht hdet (by rw [hd]; exact hh)⟩
theorem eight_step' {L m : Nat} (IH : TL P KM L) {x y : R} {bgx bgy : Bool} {x1 x0 β y1 y0 γ : Nat} (IHm : ∀ m' < m, ∀ x bgx x1 x0 y bgy y1 y0, E8 P KM L x bgx x1 x0 β y bgy y1 y0 γ m')
    (ox : On P KM (fun x' u1 u0 m' => m' = m → E8 P KM L x' true u1 u0 β y bgy y1 y0 γ m) x bgx x1 x0 β m) (oy : On P KM (fun y' u1 u0 m' => m' = m → E8 P KM L x bgx x1 x0 β y' true u1 u0 γ m) y bgy y1 y0 γ m) : E8 P KM L x bgx x1 x0 β y bgy y1 y0 γ m := by
  intro N ν m0 m1 hbx hby hx hy hlx hly hN hB hKM
  subst hbx hby
  have hB0 : P * (x.tk + y.tk) + (β + γ + ν + 3) < 290000 := Nat.lt_of_le_of_lt (Nat.add_le_add_right (Nat.mul_le_mul_left _ (by omega)) _) hB
  refine eight_close hx hy hN hB0 fun a b c d e f g h bg k1 k0 q8 hs => ?_
  have s8 := (Gd.of8 hx hy hN q8).sm8 hB0
  have b0 : m1 = 0 → bg = false := q8.nb
  by_cases hw : m1 < m0
  · -- the second chain
    have hwt : true = decide (m1 < m0) := (decide_eq_true hw).symm
    cases oy with
    | @part n r r' bgy k1 k0 β' q m' m'' h1 h2 h3 h4 h5 =>
      have hle := h1.tk_le
      have hq : Sm q := sm_part h3 h2 hy.bd.2.1 (Nat.lt_of_le_of_lt (by
        have : P * r'.tk ≤ P * (x.tk + y.tk + m) := Nat.mul_le_mul_left _ (by omega)
        omega) hB)
      have g' := q8.take1 (p := q) hw (fun z => h2 (decide_eq_true z)) (fun z => hy.bd.2.2.2 (decide_eq_false (by omega)))
      have E : E8 P KM L x (decide (0 < m0)) x1 x0 β r' true (gs (decide (0 < m1)) y1 y0 q).1 (gs (decide (0 < m1)) y1 y0 q).2 γ m'' := by
        by_cases z : m'' = m
        · subst z; exact h4 rfl
        · exact IHm m'' (by omega) _ _ _ _ _ _ _ _
      have t := E N ν m0 (m1 + 1) rfl (decide_eq_true (by omega)).symm hx h3 hlx (Nat.le_trans h1.lv hly) hN (by rw [show x.tk + r'.tk + m'' = x.tk + y.tk + m by omega]; exact hB) (by omega) _ _ _ _ _ _ _ _ _ _ _ g'
      exact t.lift (fun n' r'' m3 ans hh => ⟨_, .etIn1 s8 hs hw h1 hq hh⟩) (by simp only [R.tk]; omega)
    | waits h1 h2 h3 => exact .waits (.etWait s8 hs hwt h1) (.of8 hx h2 hN q8) (by simp only [R.tk, cond]; omega)
    | @fin n r r' bgy k1 k0 β' m' m'' h0 h1 h2 h3 =>
      have hm1 : 0 < m1 := of_decide_eq_true h0
      exact eight_left IH true hx hy hN hlx hly hB hKM q8 hs hwt hm1 h1 (by rw [h0] at h2; exact h2) h3
    | @none n r r' bgy k1 k0 β' m' m'' h0 h1 h2 h3 =>
      have hm1 : m1 = 0 := by have := of_decide_eq_false h0; omega
      exact .none (m' := m'') (b0 hm1) (.etNo s8 hs hwt h1) (.of8 hx h2 hN q8) (by simp only [R.tk, cond]; omega)
  · have hwf : false = decide (m1 < m0) := (decide_eq_false hw).symm
    have hmm : m0 = m1 := by have := q8.m01; omega
    cases ox with
    | @part n r r' bgx k1 k0 β' q m' m'' h1 h2 h3 h4 h5 =>
      have hle := h1.tk_le
      have hq : Sm q := sm_part h3 h2 hx.bd.2.1 (Nat.lt_of_le_of_lt (by
        have : P * r'.tk ≤ P * (x.tk + y.tk + m) := Nat.mul_le_mul_left _ (by omega)
        omega) hB)
      have g' := q8.take0 (p := q) hw (fun z => h2 (decide_eq_true z)) (fun z => hx.bd.2.2.2 (decide_eq_false (by omega)))
      have E : E8 P KM L r' true (gs (decide (0 < m0)) x1 x0 q).1 (gs (decide (0 < m0)) x1 x0 q).2 β y (decide (0 < m1)) y1 y0 γ m'' := by
        by_cases z : m'' = m
        · subst z; exact h4 rfl
        · exact IHm m'' (by omega) _ _ _ _ _ _ _ _
      have t := E N ν (m0 + 1) m1 (decide_eq_true (by omega)).symm rfl h3 hy (Nat.le_trans h1.lv hlx) hly hN (by rw [show r'.tk + y.tk + m'' = x.tk + y.tk + m by omega]; exact hB) (by omega) _ _ _ _ _ _ _ _ _ _ _ g'
      exact t.lift (fun n' r'' m3 ans hh => ⟨_, .etIn0 s8 hs hw h1 hq hh⟩) (by simp only [R.tk]; omega)
    | waits h1 h2 h3 => exact .waits (.etWait s8 hs hwf h1) (.of8 h2 hy hN q8) (by simp only [R.tk, cond]; omega)
    | @fin n r r' bgx k1 k0 β' m' m'' h0 h1 h2 h3 =>
      have hm0 : 0 < m0 := of_decide_eq_true h0
      exact eight_left IH false hx hy hN hlx hly hB hKM q8 hs hwf (by omega) h1 (by rw [h0] at h2; exact h2) h3
    | @none n r r' bgx k1 k0 β' m' m'' h0 h1 h2 h3 =>
      have hm0 : m0 = 0 := by have := of_decide_eq_false h0; omega
      exact .none (m' := m'') (b0 (by omega)) (.etNo s8 hs hwf h1) (.of8 h2 hy hN q8) (by simp only [R.tk, cond]; omega)
theorem On.imp {S S' : R → Nat → Nat → Nat → Prop} {r : R} {bg : Bool} {k1 k0 β m : Nat} (o : On P KM S r bg k1 k0 β m) (h : ∀ r' a b m', S r' a b m' → S' r' a b m') : On P KM S' r bg k1 k0 β m := by
  cases o with
  | part h1 h2 h3 h4 h5 => exact .part h1 h2 h3 (h _ _ _ _ h4) h5
  | waits h1 h2 h3 => exact .waits h1 h2 h3
  | fin h0 h1 h2 h3 => exact .fin h0 h1 h2 h3
  | none h0 h1 h2 h3 => exact .none h0 h1 h2 h3
theorem eight_tt {L β γ : Nat} (IH : TL P KM L) : ∀ m x bgx x1 x0 y bgy y1 y0, E8 P KM L x bgx x1 x0 β y bgy y1 y0 γ m := by
  intro m
  induction m using Nat.strongRecOn with
  | _ m IHm =>
    have key : ∀ x bgx x1 x0, Tt P KM x bgx x1 x0 β m → ∀ y bgy y1 y0, Tt P KM y bgy y1 y0 γ m → E8 P KM L x bgx x1 x0 β y bgy y1 y0 γ m := by
      intro x bgx x1 x0 tx
      refine Tt.rec' (C := fun x bgx x1 x0 mm => mm = m → ∀ y bgy y1 y0, Tt P KM y bgy y1 y0 γ m → E8 P KM L x bgx x1 x0 β y bgy y1 y0 γ m) (fun x bgx x1 x0 mm tx ox hm => ?_) tx rfl
      subst hm
      intro y bgy y1 y0 ty
      refine Tt.rec' (C := fun y bgy y1 y0 m2 => m2 = mm → E8 P KM L x bgx x1 x0 β y bgy y1 y0 γ mm) (fun yy bgyy yy1 yy0 m2 tyy oy hm2 => ?_) ty rfl
      subst hm2
      exact eight_step' IH IHm (ox.imp fun x' u1 u0 m' hc e => hc.2 e _ _ _ _ tyy) (oy.imp fun y' u1 u0 m' hc e => hc.2 e)
    intro x bgx x1 x0 y bgy y1 y0 N ν m0 m1 hbx hby hx hy hlx hly hN hB hKM
    have e1 : P * (x.tk + m) + β < 290000 := by
      have : P * (x.tk + m) ≤ P * (x.tk + y.tk + m) := Nat.mul_le_mul_left _ (by omega)
      omega
    have e2 : P * (y.tk + m) + γ < 290000 := by
      have : P * (y.tk + m) ≤ P * (x.tk + y.tk + m) := Nat.mul_le_mul_left _ (by omega)
      omega
    exact key x bgx x1 x0 (IH _ _ _ _ _ m hlx hx e1 (by omega)) y bgy y1 y0 (IH _ _ _ _ _ m hly hy e2 (by omega)) N ν m0 m1 hbx hby hx hy hlx hly hN hB hKM
theorem total (hP : P ≤ 289900) (hK : KM < 2 ^ 50) : ∀ L, TL P KM L := by
  intro L
  induction L with
  | zero =>
    intro r bg k1 k0 β m hl
    cases r <;> simp only [R.lv] at hl <;> omega
  | succ L ih =>
    intro r bg k1 k0 β m hl hG hB hKM
    cases hG with
    | fixed h1 h2 h3 h4 h5 h6 => exact fixed_tt (by simp only [R.tk] at hB; omega) _ _ _ _ _ _ (Nat.le_refl _) ⟨h1, h2, h3, h4, h5, h6⟩
    | leaf h1 h2 h3 h4 h5 h6 => exact leaf_tt hP hK m _ _ _ _ h1 hKM h2 h3 h4 h5 h6
    | @four a b c d rdy bg x k1 k0 x1 x0 N ν β hx h1 h2 h3 h4 h5 h6 h7 h8 h9 =>
      simp only [R.tk] at hB hKM
      have hlx : x.lv ≤ L := by simp only [R.lv] at hl; omega
      exact four_tt (ih _ _ _ _ _ m hlx hx (by omega) hKM) hx h1 hB _ _ _ _ _ _ _ ⟨h3, h4, h5, h2, h6, h7, h8, h9⟩
    | fourX h1 h2 h3 h4 h5 h6 h7 =>
      simp only [R.tk] at hB
      exact fourX_tt h2 (Nat.lt_of_le_of_lt (Nat.add_le_add_right (Nat.mul_le_mul_left _ (by omega)) _) hB) _ _ _ _ _ _ (Nat.le_refl _) ⟨h1, h3, h4, h5, h6, h7⟩
    | @eight a b c d e f g h m0 m1 bg x y k1 k0 x1 x0 y1 y0 N ν β γ hx hy h1 h2 h3 h4 h5 h6 h7 h8 h9 h10 h11 h12 =>
      simp only [R.tk] at hB hKM
      have hlx : x.lv ≤ L := by simp only [R.lv] at hl; omega
      have hly : y.lv ≤ L := by simp only [R.lv] at hl; omega
      exact eight_tt ih m x _ x1 x0 y _ y1 y0 N ν m0 m1 rfl rfl hx hy hlx hly h1 hB hKM _ _ _ _ _ _ _ _ _ _ _ ⟨h5, h6, h2, h3, h4, h7, h8, h9, h10, h11, h12⟩
    | eightX h1 h2 h3 h4 h5 h6 h7 =>
      simp only [R.tk] at hB
      exact eightX_tt h2 (Nat.lt_of_le_of_lt (Nat.add_le_add_right (Nat.mul_le_mul_left _ (by omega)) _) hB) _ _ _ _ _ _ (Nat.le_refl _) ⟨h1, h3, h4, h5, h6, h7⟩
    | @eightF w dead fr bg k1 k0 β hk h3 hf =>
      simp only [R.tk] at hB hKM
      have hlf : fr.lv ≤ L := by simp only [R.lv] at hl; omega
      have e : P * (fr.tk + m) + (P * dead.tk + β) = P * (dead.tk + fr.tk + m) + β := by rw [← Nat.add_assoc, ← Nat.mul_add]; congr 2; omega
      exact eightF_tt h3 hk (ih _ _ _ _ _ m hlf hf (by omega) (by omega))
end
end PL
namespace PL
abbrev KK : Nat := 2 ^ 20
theorem sq_of_ratio {x s y : Int} (hy : y ≠ 0) (h : x * x = s * y * y) : ∃ z : Int, s = z * z := by
  have hd : y ∣ x := by
    have h2 : y.natAbs ^ 2 ∣ x.natAbs ^ 2 := by
      refine ⟨s.natAbs, ?_⟩
      have := congrArg Int.natAbs h
      rw [Int.natAbs_mul, Int.natAbs_mul, Int.natAbs_mul] at this
      rw [Nat.pow_two, Nat.pow_two, this]
      grind
    exact Int.natAbs_dvd_natAbs.mp ((Nat.pow_dvd_pow_iff (by decide)).mp h2)
  obtain ⟨z, rfl⟩ := hd
  refine ⟨z, ?_⟩
  have h3 : y * y * (s - z * z) = 0 := by grind
  rcases Int.mul_eq_zero.mp h3 with h4 | h4
  · rcases Int.mul_eq_zero.mp h4 with h5 | h5 <;> exact absurd h5 hy
  · omega
theorem no_sq {s f z : Int} (f0 : 0 ≤ f) (h1 : f * f < s) (h2 : s < (f + 1) * (f + 1)) : s ≠ z * z := by
  intro e
  have hz : ∀ w : Int, 0 ≤ w → w * w = s → False := fun w w0 hw => by
    rcases Int.lt_or_le f w with g | g
    · have := Int.mul_le_mul (a := f + 1) (b := f + 1) (c := w) (d := w) (by omega) (by omega) (by omega) (by omega)
      omega
    · have := Int.mul_le_mul g g w0 f0
      omega
  rcases Int.le_total 0 z with g | g
  · exact hz z g e.symm
  · exact hz (-z) (by omega) (by rw [e]; grind)
theorem abI_sq {b : Int} : abI b * abI b = b * b := by unfold abI; split <;> grind
theorem few_le {b : Int} (h : Few b) : -10 ^ 12 ≤ b ∧ b ≤ 10 ^ 12 := by unfold Few at h; omega
theorem root_lf {t s b f f' : Int} (ht : Few t) (hs : Few s) (hb : Few b) (s0 : 0 ≤ s) (b0 : b ≠ 0) (h0 : 0 ≤ f) (h1 : f * f < s) (h2 : s < (f + 1) * (f + 1)) (h3 : 0 ≤ f') (h4 : f' * f' ≤ s * abI b * abI b) (h5 : s * abI b * abI b < (f' + 1) * (f' + 1)) :
    LfI 84 KK (.root 0 (t * abI b) (s * abI b * abI b) (b * abI b) f') := by
  have ha : abI b ≠ 0 := by unfold abI; split <;> omega
  have ha1 : 0 ≤ abI b ∧ abI b ≤ 10 ^ 12 := by have := few_le hb; unfold abI; split <;> omega
  obtain ⟨t1, t2⟩ := few_le ht
  obtain ⟨s1, s2⟩ := few_le hs
  obtain ⟨b1, b2⟩ := few_le hb
  have q1 : 0 ≤ s * abI b := Int.mul_nonneg s0 ha1.1
  have q2 : s * abI b ≤ 10 ^ 12 * 10 ^ 12 := Int.mul_le_mul s2 ha1.2 ha1.1 (by decide)
  have q3 : 0 ≤ s * abI b * abI b := Int.mul_nonneg q1 ha1.1
  have q4 : s * abI b * abI b ≤ 10 ^ 12 * 10 ^ 12 * 10 ^ 12 := Int.mul_le_mul q2 ha1.2 ha1.1 (by decide)
  have q5 : f' ≤ 10 ^ 18 := by
    rcases Int.lt_or_le (10 ^ 18) f' with g | g
    · have := Int.mul_le_mul (a := 10 ^ 18 + 1) (b := 10 ^ 18 + 1) (c := f') (d := f') (by omega) (by omega) (by decide) (by omega)
      omega
    · exact g
  have bd : ∀ x : Int, -10 ^ 12 ≤ x → x ≤ 10 ^ 12 → (x * abI b).natAbs ≤ 10 ^ 24 := fun x x1 x2 => by
    rw [Int.natAbs_mul]
    have : x.natAbs * (abI b).natAbs ≤ 10 ^ 12 * 10 ^ 12 := Nat.mul_le_mul (by omega) (by omega)
    omega
  refine ⟨⟨h3, ?_, h5, ?_, ?_⟩, fun z => by omega, ?_, 10 ^ 24 + 2 ^ 20 * (2 * 10 ^ 18 + 2), ?_, ?_, ?_⟩
  · rcases Int.lt_or_le (f' * f') (s * abI b * abI b) with g | g
    · exact g
    · obtain ⟨z, hz⟩ := sq_of_ratio (x := f') (s := s) (y := abI b) ha (by omega)
      exact absurd hz (no_sq h0 h1 h2)
  · intro e
    rcases Int.mul_eq_zero.mp e with z | z
    · exact b0 z
    · exact ha z
  · have e2 := abI_sq (b := b)
    rcases Int.lt_or_le b 0 with g | g
    · refine ⟨-(s - t * t), ?_⟩
      have : abI b = -b := by unfold abI; rw [if_pos g]
      rw [this]
      grind
    · refine ⟨s - t * t, ?_⟩
      have : abI b = b := by unfold abI; rw [if_neg (by omega)]
      rw [this]
      grind
  · have : (s * abI b * abI b).natAbs ≤ 10 ^ 36 := by omega
    have h9 : (10 : Nat) ^ 36 ≤ 2 ^ 120 := by decide +kernel
    exact sm_of (Nat.le_trans this h9) (show 120 < 290000 by omega)
  · have := bd b b1 b2
    exact Nat.add_le_add this (Nat.mul_le_mul (by decide) (by omega))
  · have := bd t t1 t2
    omega
  · have : f'.toNat ≤ 10 ^ 18 := by omega
    omega
theorem pow84 : (2 : Nat) ^ 84 = 19342813113834066795298816 := by decide
theorem frac_lf {t b : Int} (ht : t.natAbs ≤ 10 ^ 13) (hb : b.natAbs ≤ 10 ^ 13) (b0 : b ≠ 0) : LfI 84 KK (.frac 0 t b) := ⟨by rw [pow84]; omega, by rw [pow84]; omega, fun _ => b0, fun z => by omega⟩
theorem leaf_gd {r : R} (h : LfI 84 KK r) (hk : r.tk = 0) : Gd 84 KK r false 1 4 3 := .leaf h (by rw [hk]; rfl) (by decide) (by decide) (by rw [hk]; decide) fun _ => ⟨rfl, rfl⟩
theorem ls_few {a c : Int} (ha : Few a) (hc : Few c) : Ls 1 4 a c ≤ 5 * 10 ^ 12 := by
  unfold Few at ha hc
  unfold Ls
  omega
theorem pows_tk {r : R} (h : r.tk = 0) : ∀ n, (pows r n).tk = 0
  | 0 => h
  | n + 1 => by simp only [pows, R.tk, h, pows_tk h n]
theorem pows_gd {r : R} {β : Nat} (h : Gd 84 KK r false 1 4 β) : ∀ n, ∃ γ, Gd 84 KK (pows r n) false 1 4 γ ∧ γ + 46 = (n + 1) * (β + 46)
  | 0 => ⟨β, h, by omega⟩
  | n + 1 => by
    obtain ⟨γ, h1, h2⟩ := pows_gd h n
    refine ⟨_, .eight (N := 5) (ν := 43) h h1 (by decide) (by decide) (Nat.le_refl _) (by decide) (by decide) (by decide) (fun _ => ⟨rfl, rfl⟩) (fun _ => rfl) (fun _ => ⟨by decide, by decide, by decide, by decide⟩) (fun z => by omega) (fun z => by omega) (fun z => by cases z), ?_⟩
    rw [Nat.add_mul (n + 1) 1, Nat.one_mul]
    omega
theorem Opened.tk0 {tr : Tr} {r : R} (h : Opened tr r) : r.tk = 0 := by
  induction h with
  | power _ ih => exact pows_tk ih _
  | eight _ _ ih1 ih2 => simp only [R.tk, ih1, ih2]
  | four _ ih => exact ih
  | _ => rfl
theorem opened_gd : ∀ (k : Nat) (tr : Tr) (r : R), tr.good k → Opened tr r → ∃ β, Gd 84 KK r false 1 4 β ∧ β + 46 ≤ 50 * 4 ^ k
  | 0, tr, r, h, _ => by cases tr <;> exact h.elim
  | k + 1, .frac t b, r, h, o => by
    obtain ⟨h1, h2, h3⟩ := h
    cases o
    have := Nat.pow_pos (n := k) (show 0 < 4 by decide)
    exact ⟨3, leaf_gd (frac_lf (by unfold Few at h1; omega) (by unfold Few at h2; omega) h3) rfl, by rw [Nat.pow_succ]; omega⟩
  | k + 1, .root t s b, r, h, o => by
    obtain ⟨h1, h2, h3, h4, h5⟩ := h
    have := Nat.pow_pos (n := k) (show 0 < 4 by decide)
    cases o with
    | rootF g1 g2 =>
      rename_i f
      have : f ≤ 10 ^ 12 := by
        rcases Int.lt_or_le (10 ^ 12) f with g | g
        · have := Int.mul_le_mul (a := 1) (b := f) (c := f) (d := f) (by omega) (by omega) (by omega) (by omega)
          have := few_le h2
          omega
        · exact g
      exact ⟨3, leaf_gd (frac_lf (by unfold Few at h1; omega) (by unfold Few at h3; omega) h5) rfl, by rw [Nat.pow_succ]; omega⟩
    | rootR g1 g2 g3 g4 g5 g6 => exact ⟨3, leaf_gd (root_lf h1 h2 h3 h4 h5 g1 g2 g3 g4 g5 g6) rfl, by rw [Nat.pow_succ]; omega⟩
  | k + 1, .ruled ps ring steps, r, h, o => by
    obtain ⟨h1, h2, h3, h4, h5, h6, h7, h8⟩ := h
    have := Nat.pow_pos (n := k) (show 0 < 4 by decide)
    cases o
    have hf : ∀ n ∈ ps ++ ring ++ steps, n.natAbs ≤ 10 ^ 12 := h5
    refine ⟨3, leaf_gd ⟨h1, by omega, by omega, h4.symm, h6, h7, fun n hn => by have := hf n (List.mem_append_left _ hn); rw [pow84]; omega, fun n hn m hm => ?_⟩ rfl, by rw [Nat.pow_succ]; omega⟩
    have e1 := hf n (List.mem_append_left _ (List.mem_append_right _ hn))
    have e2 := hf m (List.mem_append_right _ hm)
    rw [pow84]
    have : KK * m.natAbs ≤ 2 ^ 20 * 10 ^ 12 := Nat.mul_le_mul (by decide) e2
    omega
  | k + 1, .four a b c d x, r, h, o => by
    obtain ⟨h1, h2, h3, h4, h5, h6⟩ := h
    cases o with
    | four ho =>
      obtain ⟨β, g1, g2⟩ := opened_gd k x _ h6 ho
      have := Nat.pow_pos (n := k) (show 0 < 4 by decide)
      refine ⟨_, .four (N := 5 * 10 ^ 12) (ν := 43) g1 (by decide) (by decide) h5 (by decide) (by decide) (fun _ => ⟨rfl, rfl⟩) (fun _ => ⟨rfl, ls_few h1 h3, ls_few h2 h4⟩) (fun z => by cases z) (fun z => by cases z), by rw [Nat.pow_succ]; omega⟩
  | k + 1, .eight a b c d e f g i x y, r, h, o => by
    obtain ⟨h1, h2, h3, h4⟩ := h
    cases o with
    | eight ho ho2 =>
      obtain ⟨β, g1, g2⟩ := opened_gd k x _ h3 ho
      obtain ⟨γ, g3, g4⟩ := opened_gd k y _ h4 ho2
      have fw : ∀ n ∈ [a, b, c, d, e, f, g, i], Few n := h1
      refine ⟨_, .eight (N := 5 * 10 ^ 12) (ν := 43) g1 g3 (by decide) (by decide) (Nat.le_refl _) (by decide) (by decide) (by decide) (fun _ => ⟨rfl, rfl⟩) (fun _ => rfl) (fun _ => ⟨ls_few (fw _ (by simp)) (fw _ (by simp)), ls_few (fw _ (by simp)) (fw _ (by simp)), ls_few (fw _ (by simp)) (fw _ (by simp)), ls_few (fw _ (by simp)) (fw _ (by simp))⟩) (fun z => by omega) (fun z => by omega) (fun z => by cases z), by rw [Nat.pow_succ]; omega⟩
  | k + 1, .power x n, r, h, o => by
    obtain ⟨h1, h2, h3⟩ := h
    cases o with
    | power ho =>
      obtain ⟨β, g1, g2⟩ := opened_gd k x _ h3 ho
      obtain ⟨γ, g3, g4⟩ := pows_gd g1 (n - 1).toNat
      refine ⟨γ, g3, ?_⟩
      rw [g4, Nat.pow_succ]
      have : ((n - 1).toNat + 1) * (β + 46) ≤ 4 * (50 * 4 ^ k) := Nat.mul_le_mul (by omega) g2
      omega
theorem pows_lv {r : R} : ∀ n, (pows r n).lv ≤ max r.lv 3 + 2 * n
  | 0 => by simp only [pows]; omega
  | n + 1 => by
    have := pows_lv (r := r) n
    simp only [pows, R.lv]
    omega
theorem opened_lv : ∀ (k : Nat) (tr : Tr) (r : R), tr.good k → Opened tr r → r.lv ≤ 3 + 6 * k
  | 0, tr, r, h, _ => by cases tr <;> exact h.elim
  | k + 1, tr, r, h, o => by
    cases o with
    | four ho =>
      have := opened_lv k _ _ h.2.2.2.2.2 ho
      simp only [R.lv]; omega
    | eight ho ho2 =>
      have := opened_lv k _ _ h.2.2.1 ho
      have := opened_lv k _ _ h.2.2.2 ho2
      simp only [R.lv]; omega
    | @power x n r0 ho =>
      obtain ⟨h1, h2, h3⟩ := h
      have := opened_lv k _ _ h3 ho
      have := pows_lv (r := r0) (n - 1).toNat
      omega
    | _ => simp only [R.lv]; omega
/-- one asking of a reader within bounds -/
theorem ask {r : R} {bg : Bool} {k1 k0 β : Nat} (h : Gd 84 KK r bg k1 k0 β) (m : Nat) (hB : 84 * (r.tk + m) + β < 290000) : ∃ n r' ans, ∃ m' : Nat, Told n r m r' m' ans ∧ r'.tk + m' = r.tk + m ∧ ∃ bg' k1' k0', Gd 84 KK r' bg' k1' k0' β ∧
    ((∃ q, ans = .part q ∧ (bg = true → 1 ≤ q) ∧ bg' = true) ∨ (ans = .waits ∧ m' = 0 ∧ bg' = bg) ∨ (ans = .fin ∧ bg = true ∧ bg' = true) ∨ (ans = .none ∧ bg = false ∧ bg' = false)) := by
  have t := total (P := 84) (KM := KK) (by decide) (by decide) r.lv r bg k1 k0 β m (Nat.le_refl _) h hB (by have : KK = 1048576 := rfl; omega)
  cases t with
  | part h1 h2 h3 h4 h5 => exact ⟨_, _, _, _, h1, h5, _, _, _, h3, .inl ⟨_, rfl, h2, rfl⟩⟩
  | waits h1 h2 h3 => exact ⟨_, _, _, 0, h1, by omega, _, _, _, h2, .inr (.inl ⟨rfl, rfl, rfl⟩)⟩
  | fin h0 h1 h2 h3 => exact ⟨_, _, _, _, h1, h3, _, _, _, h2, .inr (.inr (.inl ⟨rfl, h0, h0⟩))⟩
  | none h0 h1 h2 h3 => exact ⟨_, _, _, _, h1, h3, _, _, _, h2, .inr (.inr (.inr ⟨rfl, h0, h0⟩))⟩
end PL
namespace PL
open PySem PySem.Spec PyProof.Rows L2
section
variable {X : Cx} {ca : CA} {W : WX} {pos pos' np : Pos} {x n : Str} {cv : Value} {body suite : List Stmt} {b0 : Stmt} {tb : WX → TS} {rb : ATS} {tsu : TS} {rsu : ATS}
/-- a wish of an exception that nothing is asked of -/
theorem any_takes (hs : X.stack = X.env :: X.outer) (hf : X.env.frame = some X.env.locals) (W : WX) : ∃ xe, Takes (X.tr [] xe) W ∧ PassesOwn (model X.prog X.w) X.A X.env xe := by
  refine ⟨fun e s => wpAny (model X.prog X.w) X.A (noteFrame e X.env) (fun _ s2 => wpAny (model X.prog X.w) X.A (setFlight e none) (fun _ _ => True) (fun _ _ => True) s2) (fun _ _ => True) s, fun u s' xx => ?_, PassesOwn.looking⟩
  obtain ⟨a, B, sI, pins', σ', H', cls, d, rfl, J', nb, up, sky, na, os, ag, w⟩ := xx
  have hfr : X.A.frames = some (X.env :: X.outer) := by rw [J'.ok.frames.symm.symm]; exact congrArg some hs
  have sky' : Sky B (X.env :: X.outer) a (Zc cls d) X.env.locals s'.heap := by rw [← hs]; exact sky
  show wpAny (model X.prog X.w) X.A (noteFrame (.ref a) X.env) (fun _ s2 => wpAny (model X.prog X.w) X.A (setFlight (.ref a) none) (fun _ _ => True) (fun _ _ => True) s2) (fun _ _ => True) s'
  refine Sky.land Zc.steady hfr hf sky' fun h3 fl3 up3 => ?_
  exact True.intro
def aTry (c : Value → Option Bool) (b h : ATS) : ATS := fun Wa Da ρ Ω => b (fun cls ρ' Ω' => ∃ k, c cls = some k ∧ if k = true then h Wa Da ρ' Ω' else Wa cls ρ' Ω') Da ρ Ω
theorem as_tryOnly (hs : X.stack = X.env :: X.outer) (hf : X.env.frame = some X.env.locals) (hc : Names X x cv) (tk : Takes X W)
    (hb : ∀ (W' : WX) (pn : List (Addr × Obj)) (xe : Value → Shared → Prop), Takes (X.tr pn xe) W' → PassesOwn (model X.prog X.w) X.A X.env xe → ASs (X.tr pn xe) ca W' body (tb W') rb)
    (hsu : ∀ (a : Addr) (pn : List (Addr × Obj)), ASs (X.suite a pn) ca W (b0 :: suite) tsu rsu) :
    AS X ca W (.Try body [.ExceptHandler (some (.Name x np)) none (b0 :: suite) pos'] [] [] pos) (fun D σ H => tb (wOnly X.K cv (fun _ _ _ => tsu) W D) D σ H) (aTry (fun cls => PySem.W.exmOne X.K cls cv) rb rsu) := by
  refine ⟨ps_try_only hs hf hc tk (fun W' pn xe h1 h2 => (hb W' pn xe h1 h2).pe) (fun a oe cls d pn _ _ => (hsu a ((a, oe) :: pn)).pe), fun σ H G own ρ Ω Wa Da Dc r s h k => ?_⟩
  obtain ⟨xe, h1, h2⟩ := any_takes (W := wOnly X.K cv (fun _ _ _ => tsu) W Dc) hs hf
  refine (hb _ [] xe h1 h2).sim σ H G own ρ Ω _ Da Dc r s h ⟨k.nx, k.rt, k.bk, k.ct, fun cls σ' H' G' own' ρ' Ω' e r' s' q => ?_⟩
  obtain ⟨b, hb', q⟩ := q
  refine ⟨b, hb', fun e1 a _ => ?_, fun e1 => ?_⟩
  · subst e1
    exact (hsu a []).sim σ' H' G' own' ρ' Ω' Wa Da Dc r' s' q (k.mono e)
  · subst e1
    exact k.ex _ _ _ _ _ _ _ e r' s' q
end
end PL
namespace PL
open PySem L2
section
variable {X : Cx} {ca : CA} {W : WX} {a b e : Expr} {ta tb te : TE} {ra rb re : ATE} {pos p p2 : Pos} {ts : TS} {rs : ATS}
def pairD (xs ys : List D) : List D := List.zipWith (fun x y => .tup [x, y]) xs ys
def aForZip (ra rb : ATE) (g : AG) (b : ATS) : ATS := fun Wa Da ρ Ω => ra Wa ρ Ω fun d Ω1 => rb Wa ρ Ω1 fun d2 Ω2 => ∃ xs ys, d = .lst xs ∧ d2 = .lst ys ∧ xs.length = ys.length ∧ forL g b (pairD xs ys) Wa Da ρ Ω2
/-- [elt for (..) in zip(xs, ys)] -/
def aLcZip (ra rb : ATE) (g : AG) (re : ATE) (vs : List Nat) : ATE := fun Wa ρ Ω Q => ra Wa ρ Ω fun d Ω1 => rb Wa ρ Ω1 fun d2 Ω2 => ∃ xs ys, d = .lst xs ∧ d2 = .lst ys ∧ xs.length = ys.length ∧ compL g aYes re vs (pairD xs ys) [] Wa0 ρ Ω2 Q
end
end PL
namespace PL
open PySem L2
theorem ASs.cast {X : Cx} {ca : CA} {W : WX} {l : List Stmt} {ts ts' : TS} {rs rs' : ATS} (h : ASs X ca W l ts' rs') (h1 : ts' = ts) (h2 : rs' = rs) : ASs X ca W l ts rs := h2 ▸ h1 ▸ h
instance seer_tr {X : Cx} {pn : List (Addr × Obj)} {xe : Value → Shared → Prop} [sr : Seer X.prog X.base] : Seer (X.tr pn xe).prog (X.tr pn xe).base := sr
end PL
namespace PL
open PySem L2
def forO (a : Addr) (ns : List Int) (g : AG) (b : ATS) : List Int → ATS
  | [], _, Da, ρ, Ω => Ω a = some (.lst (ns.map D.int)) ∧ Da.nx ρ Ω
  | x :: xs, Wa, Da, ρ, Ω => Ω a = some (.lst (ns.map D.int)) ∧ g (.int x) ρ Ω fun ρ1 Ω1 => b Wa { Da with nx := forO a ns g b xs Wa Da, ct := forO a ns g b xs Wa Da, bk := Da.nx } ρ1 Ω1
def aForO (ra : ATE) (g : AG) (b : ATS) : ATS := fun Wa Da ρ Ω => ra Wa ρ Ω fun d Ω1 => ∃ a ns, d = .o a ∧ forO a ns g b ns Wa Da ρ Ω1
end PL
namespace PL
open PySem PySem.Spec PyProof.Rows L2
section
variable {X : Cx} {ca : CA} {W : WX} {a b e : Expr} {ta tb te : TE} {ra rb re : ATE} {pos p p2 : Pos} {ts : TS} {rs : ATS}
/-- for x, y in zip(a tuple, a list) -/
def aForZipM (ra rb : ATE) (g : AG) (b : ATS) : ATS := fun Wa Da ρ Ω => ra Wa ρ Ω fun d Ω1 => rb Wa ρ Ω1 fun d2 Ω2 => ∃ xs ys, d = .tup xs ∧ d2 = .lst ys ∧ xs.length = ys.length ∧ forL g b (pairD xs ys) Wa Da ρ Ω2
end
section
variable {X : Cx} {ca : CA} {W : WX} {a b : Expr} {ta tb : TE} {ra rb : ATE} {pos : Pos}
def fInD (neg : Bool) : D → D → Om → AQ → Prop := fun x y Ω Q => ∃ (ys : List D) (p : PyData) (ps : List PyData), y = .lst ys ∧ x.py = some p ∧ D.pys ys = some ps ∧ SeqAt.shaped p = true ∧ SeqAt.shaped (.list ps) = true ∧ Q (.bl (if neg then !(ps.any fun z => PyData.eqv z p) else ps.any fun z => PyData.eqv z p)) Ω
theorem simr_inD {K : PySem.W.Frag} : SimR K ca (rInD K) (fInD false) := by
  intro H G own Ω x y v w Qa Qc r dx dy h k
  obtain ⟨ys, p, ps, rfl, e1, e2, s1, s2, h⟩ := h
  exact ⟨p, ps, dx.dp r.sub e1, dy.dp r.sub (by simp only [D.py, e2, Option.map_some]), s1, s2, k _ _ _ _ _ _ Stp.refl r (.bl _) h⟩
theorem simr_notInD {K : PySem.W.Frag} : SimR K ca (rNotInD K) (fInD true) := by
  intro H G own Ω x y v w Qa Qc r dx dy h k
  obtain ⟨ys, p, ps, rfl, e1, e2, s1, s2, h⟩ := h
  exact ⟨p, ps, dx.dp r.sub e1, dy.dp r.sub (by simp only [D.py, e2, Option.map_some]), s1, s2, k _ _ _ _ _ _ Stp.refl r (.bl _) h⟩
def aInD := aOp (fInD false)
def aNotInD := aOp (fInD true)
theorem at_inD (hu : X.A.units + 65 < cLine) (ha : AE X ca W a ta ra) (hb : AE X ca W b tb rb) (hm : behindInMarks .In b = false := by rfl) : AT X ca W (.Compare a [.In] [b] pos) (tTest (tOp (rInD X.K) ta tb)) (aB (aInD ra rb)) := at_cmp (op_inD hu) simr_inD ha hb hm
theorem at_notInD (hu : X.A.units + 65 < cLine) (ha : AE X ca W a ta ra) (hb : AE X ca W b tb rb) (hm : behindInMarks .NotIn b = false := by rfl) : AT X ca W (.Compare a [.NotIn] [b] pos) (tTest (tOp (rNotInD X.K) ta tb)) (aB (aNotInD ra rb)) := at_cmp (op_notInD hu) simr_notInD ha hb hm
end
theorem u65 {k : Nat} {A : Around} (r : Room k A) : A.units + 65 < cLine := by have := r.un; omega
end PL
namespace PySem.W
open PySem
end PySem.W
namespace PL
open PySem PySem.Spec PyProof.Rows L2
theorem pe_gT {X : Cx} {x : Str} {Tn : String} {pos : Pos} (hg : Gl X x) (hm : X.mg x = none) (hv : bootBuiltins x = some (.type Tn)) (hn : x ≠ "__name__" := by decide) (hd : (x == ("__debug__" : Str)) = false := by decide) : PE X (.Name x pos) (tC (.ty Tn)) := pe_bltn hg hm hv rfl hn hd
section
variable {X : Cx} {ca : CA} {W : WX} {pos pos' np p p2 : Pos} {a : Addr} {oe : Obj} {cls : Value} {pn : List (Addr × Obj)} {e e1 e2 : Expr} {te : TE} {re : ATE}
def aIsE (K : PySem.W.Frag) (cls : Value) (a : Addr) (cv : Value) (re : ATE) : ATE := fun Wa ρ Ω Q => re Wa ρ Ω fun x Ω1 => x = .o a ∧ ∃ D b, cls = .ref D ∧ ExcC K D ∧ PySem.W.kitOne K (.ref D) cv = some b ∧ Q (.bl b) Ω1
def aIsET (K : PySem.W.Frag) (cls : Value) (a : Addr) (cvs : List Value) (re : ATE) : ATE := fun Wa ρ Ω Q => re Wa ρ Ω fun x Ω1 => x = .o a ∧ ∃ D b, cls = .ref D ∧ ExcC K D ∧ PySem.W.kitAny K (.ref D) cvs = some b ∧ Q (.bl b) Ω1
end
section
variable {X : Cx} {ca : CA} {W : WX} {pos pos' np : Pos} {x n : Str} {cv : Value} {i : Nat} {body suite : List Stmt} {b0 : Stmt} {tb : WX → TS} {rb : ATS} {tsu : Addr → Value → TS} {rsu : Addr → Value → ATS}
def aTryAs (c : Value → Option Bool) (i : Nat) (b : ATS) (h : Addr → Value → ATS) : ATS := fun Wa Da ρ Ω => b (fun cls ρ' Ω' => ∃ k, c cls = some k ∧ if k = true then (∀ a, Ω' a = none → h a cls Wa ⟨fun ρ Ω => Da.nx (ρ.set i none) Ω, Da.rt, fun ρ Ω => Da.bk (ρ.set i none) Ω, fun ρ Ω => Da.ct (ρ.set i none) Ω⟩ (ρ'.set i (some (.o a))) Ω') else Wa cls ρ' Ω') Da ρ Ω
end
section
variable {X : Cx} {ca : CA} {es : List Expr} {pos : Pos}
def agTupL (n : Nat) (is : List Nat) : AG := fun d ρ Ω Q => ∃ xs, d = .lst xs ∧ xs.length = n ∧ is.length = n ∧ Q (setAll ρ is xs) Ω
end
end PL
namespace PL
open PySem L2
def valD : List (Key × D) → Key → Option D
  | [], _ => none
  | p :: r, k => if p.1 = k then some p.2 else valD r k
def putD : List (Key × D) → Key → D → List (Key × D)
  | [], k, v => [(k, v)]
  | p :: r, k, v => if p.1 = k then (p.1, v) :: r.map (fun kv => if kv.1 = k then (kv.1, v) else kv) else p :: putD r k v
theorem valD_map {k j : Key} {y : D} (h : j ≠ k) : ∀ r : List (Key × D), valD (r.map fun kv => if kv.1 = k then (kv.1, y) else kv) j = valD r j
  | [] => rfl
  | p :: r => by
    simp only [List.map_cons, valD]
    by_cases e : p.1 = k
    · rw [if_pos e]
      have e2 : p.1 ≠ j := fun z => h (z.symm.trans e)
      rw [if_neg e2, if_neg e2]
      exact valD_map h r
    · rw [if_neg e]
      by_cases e2 : p.1 = j
      · rw [if_pos e2, if_pos e2]
      · rw [if_neg e2, if_neg e2]
        exact valD_map h r
theorem valD_put {k j : Key} {y : D} : ∀ r : List (Key × D), valD (putD r k y) j = if j = k then some y else valD r j
  | [] => by
    simp only [putD, valD]
    by_cases e : j = k
    · rw [if_pos e, if_pos e.symm]
    · rw [if_neg e, if_neg (fun z => e z.symm)]
  | p :: r => by
    simp only [putD]
    by_cases e : p.1 = k
    · rw [if_pos e]
      simp only [valD]
      by_cases e2 : j = k
      · rw [if_pos e2, if_pos (e.trans e2.symm)]
      · rw [if_neg e2]
        have e3 : p.1 ≠ j := fun z => e2 (z.symm.trans e)
        rw [if_neg e3, if_neg e3]
        exact valD_map e2 r
    · rw [if_neg e]
      simp only [valD]
      by_cases e2 : p.1 = j
      · rw [if_pos e2, if_pos e2, if_neg (fun z => e (e2.trans z))]
      · rw [if_neg e2, if_neg e2]
        exact valD_put r
theorem len_putD_in {k : Key} {y : D} : ∀ {r : List (Key × D)}, valD r k ≠ none → (putD r k y).length = r.length
  | [], h => absurd rfl h
  | p :: r, h => by
    simp only [putD, valD] at *
    split
    · rw [List.length_cons, List.length_map, List.length_cons]
    · rename_i e
      rw [if_neg e] at h
      rw [List.length_cons, List.length_cons, len_putD_in h]
theorem putK_cons {p : Key × V} {r : List (Key × V)} {k : Key} {v : V} : putK (p :: r) k v = if p.1 = k then (p.1, v) :: r.map (fun kv => if kv.1 = k then (kv.1, v) else kv) else p :: putK r k v := by
  unfold putK
  rw [List.any_cons]
  by_cases e : p.1 = k
  · rw [decide_eq_true e, Bool.true_or, if_pos rfl, if_pos e, List.map_cons, if_pos e]
  · rw [decide_eq_false e, Bool.false_or, if_neg e]
    by_cases h : (r.any fun kv => decide (kv.1 = k)) = true
    · rw [if_pos h, if_pos h, List.map_cons, if_neg e]
    · rw [if_neg h, if_neg h, List.cons_append]
section
variable {K : PySem.W.Frag} {G : Hp}
theorem KVs.len {l : List (Key × V)} {m : List (Key × D)} (h : KVs K G l m) : l.length = m.length := Paired.length h
theorem KVs.val {l : List (Key × V)} {m : List (Key × D)} (h : KVs K G l m) {k : Key} {d : D} (e : valD m k = some d) : ∃ v, valV l k = some v ∧ DV K G v d := by
  unfold KVs at h
  induction h with
  | nil => cases e
  | @cons p q l m h t ih =>
    simp only [valD] at e
    by_cases c : q.1 = k
    · rw [if_pos c] at e
      cases e
      exact ⟨p.2, valV_pos (h.1.trans c), h.2⟩
    · rw [if_neg c] at e
      obtain ⟨v, h1, h2⟩ := ih e
      exact ⟨v, by rw [valV_neg (fun z => c (h.1.symm.trans z))]; exact h1, h2⟩
theorem KVs.mapD {l : List (Key × V)} {m : List (Key × D)} (h : KVs K G l m) {k : Key} {v : V} {d : D} (hv : DV K G v d) : KVs K G (l.map fun kv => if kv.1 = k then (kv.1, v) else kv) (m.map fun kv => if kv.1 = k then (kv.1, d) else kv) := by
  unfold KVs at *
  induction h with
  | nil => exact .nil
  | @cons p q l m h t ih =>
    rw [List.map_cons, List.map_cons]
    refine .cons ?_ ih
    by_cases c : q.1 = k
    · rw [if_pos c, if_pos (h.1.trans c)]
      exact ⟨h.1, hv⟩
    · rw [if_neg c, if_neg (fun z => c (h.1.symm.trans z))]
      exact h
theorem KVs.put {l : List (Key × V)} {m : List (Key × D)} (h : KVs K G l m) {k : Key} {v : V} {d : D} (hv : DV K G v d) : KVs K G (putK l k v) (putD m k d) := by
  unfold KVs at *
  induction h with
  | nil => exact .cons ⟨rfl, hv⟩ .nil
  | @cons p q l m h t ih =>
    rw [putK_cons]
    simp only [putD]
    by_cases c : q.1 = k
    · rw [if_pos c, if_pos (h.1.trans c)]
      exact .cons ⟨h.1, hv⟩ (KVs.mapD t hv)
    · rw [if_neg c, if_neg (fun z => c (h.1.symm.trans z))]
      exact .cons h ih
end
theorem merge_app : ∀ (more acc : List (Key × V)), ((acc ++ more).map (·.1)).Nodup → mergeK acc more = acc ++ more
  | [], acc, _ => by rw [List.append_nil]; rfl
  | p :: r, acc, h => by
    have hn : valV acc p.1 = none := by
      cases q : valV acc p.1 with
      | none => rfl
      | some x =>
        exfalso
        have h2 : (acc.any fun kv => decide (kv.1 = p.1)) = true := by rw [valV_any, q]; rfl
        obtain ⟨kv, hk, e⟩ := List.any_eq_true.mp h2
        have e := of_decide_eq_true e
        rw [List.map_append, List.nodup_append] at h
        exact h.2.2 kv.1 (List.mem_map_of_mem hk) p.1 (by simp) e
    have e1 : mergeK acc (p :: r) = mergeK (putK acc p.1 p.2) r := rfl
    rw [e1, putK_new p.2 hn]
    have e2 : acc ++ [(p.1, p.2)] ++ r = acc ++ p :: r := by rw [List.append_assoc]; rfl
    rw [merge_app r _ (by rw [e2]; exact h), e2]
section
variable {K : PySem.W.Frag} {ca : CA} {G H : Hp} {own : Addr → Option Addr} {Ω : Om} {a p : Addr}
theorem Rel.dicAt {kvs : List (Key × D)} (r : Rel K ca G own H Ω) (e : Ω a = some (.dic kvs)) : own a = some a ∧ ∃ l, H a = some (.dK l) ∧ KVs K G l kvs := r.objs a _ e
theorem Rel.setDic {l : List (Key × V)} {m m' : List (Key × D)} (r : Rel K ca G own H Ω) (e : Ω a = some (.dic m)) (d : KVs K G l m') : Rel K ca G own (upd H a (.dK l)) (oset Ω a (.dic m')) := by
  obtain ⟨w, u, hu, nu⟩ := (r.objs a _ e).there
  refine r.turn (fun b v hb ho => ?_) (fun b v hb hi => ?_) ⟨w, l, upd_same, d⟩
  · rw [upd_ne (fun z => ho (by rw [z]; exact w))]; exact hb
  · rw [upd_ne (fun z => by rw [z, hu] at hb; cases hb; exact nu hi)]; exact hb
theorem Rel.privDic {l : List (Key × V)} {m : List (Key × D)} {v : HO} (r : Rel K ca G own H Ω) (h : H p = some v) (hi : ¬ Imm v) (hg : G p = none) (ho : own p = none) (d : KVs K G l m) : Rel K ca G (uown own p (some p)) (upd H p (.dK l)) (oset Ω p (.dic m)) := by
  refine ⟨fun b w e => ?_, fun b w e => ?_, fun b w e => ?_⟩
  · rw [upd_ne (ne_of_none e hg)]; exact r.sub _ _ e
  · unfold uown; rw [if_neg (ne_of_none e hg)]; exact r.imm _ _ e
  · by_cases hb : b = p
    · subst hb
      rw [oset_same] at e
      cases e
      exact ⟨if_pos rfl, l, upd_same, d⟩
    · rw [oset_ne hb] at e
      refine (r.objs b w e).keep (Same.refl G) (fun c x hc hw => ?_) fun c x hc hx => ?_
      · have hcp : c ≠ p := fun z => by rw [z, ho] at hw; cases hw
        refine ⟨by rw [upd_ne hcp]; exact hc, ?_⟩
        unfold uown
        rw [if_neg hcp]
        exact hw
      · rw [upd_ne (fun z => by rw [z, h] at hc; cases hc; exact hi hx)]; exact hc
theorem Rel.none_of (r : Rel K ca G own H Ω) (ho : own p = none) : Ω p = none := by
  cases q : Ω p with
  | none => rfl
  | some o =>
    have := (r.objs p o q).there.1
    rw [ho] at this; cases this
end
section
variable {X : Cx} {ca : CA} {W : WX} {o i e v : Expr} {pos pos' : Pos} {td ty tv : TE} {rd ry rv : ATE}
/-- d[k] -/
def aDGet (rd ry : ATE) : ATE := fun Wa ρ Ω Q => rd Wa ρ Ω fun x Ω1 => ry Wa ρ Ω1 fun y Ω2 => ∃ a m k d, x = .o a ∧ Ω2 a = some (.dic m) ∧ y = .str k ∧ valD m (.inr k) = some d ∧ Q d Ω2
theorem ae_dget (hu : X.A.units + 64 < cLine) (ho : AE X ca W o td rd) (hi : AE X ca W i ty ry) (hs : NoSl i := by intro _ _; rfl) : AE X ca W (.Subscript o i pos) (tDGet td ty) (aDGet rd ry) :=
  ⟨pe_dget (by omega) ho.pe hi.pe hs, fun σ H G own ρ Ω Wa Qa Qc r s h k kx => ho.sim σ H G own ρ Ω Wa _ _ r s h (fun x1 H1 G1 own1 d1 Ω1 e1 r1 dv1 q1 => hi.sim σ H1 G1 own1 ρ Ω1 Wa _ _ r1 (s.mono e1.same) q1 (fun y1 H2 G2 own2 d2 Ω2 e2 r2 dv2 q2 => by
    obtain ⟨a, m, kk, d, rfl, ha, rfl, hv, q⟩ := q2
    cases dv1
    cases dv2
    obtain ⟨_, l, hl, kv⟩ := r2.dicAt ha
    obtain ⟨w, hw, dw⟩ := kv.val hv
    refine ⟨a, w, rfl, ?_, k _ _ _ _ _ _ (e1.trans e2) r2 dw q⟩
    rw [← hw]
    exact DGet.k (k := .inr kk) hl) (kx.mono e1)) kx⟩
/-- d[k] = v -/
def aDPut (rd ry rv : ATE) : ATS := fun Wa Da ρ Ω => rv Wa ρ Ω fun z Ω1 => rd Wa ρ Ω1 fun x Ω2 => ry Wa ρ Ω2 fun y Ω3 => ∃ a m k, x = .o a ∧ Ω3 a = some (.dic m) ∧ y = .str k ∧ m.length < 1000 ∧ Da.nx ρ (oset Ω3 a (.dic (putD m (.inr k) z)))
theorem as_dput (hu : X.A.units + 64 < cLine) (hv : AE X ca W v tv rv) (ho : AE X ca W o td rd) (hi : AE X ca W i ty ry) (hs : swapsWith v (some (.Subscript o i pos')) pos.line X.env = pure false := by rfl) :
    AS X ca W (.Assign [.Subscript o i pos'] v pos) (sDPut td ty tv) (aDPut rd ry rv) :=
  ⟨ps_dput (by omega) ho.pe hi.pe hv.pe hs, fun σ H G own ρ Ω Wa Da Dc r s h k => hv.sim σ H G own ρ Ω Wa _ _ r s h (fun z1 H1 G1 own1 d1 Ω1 e1 r1 dv1 q1 => ho.sim σ H1 G1 own1 ρ Ω1 Wa _ _ r1 (s.mono e1.same) q1 (fun x1 H2 G2 own2 d2 Ω2 e2 r2 dv2 q2 => hi.sim σ H2 G2 own2 ρ Ω2 Wa _ _ r2 (s.mono (e1.trans e2).same) q2 (fun y1 H3 G3 own3 d3 Ω3 e3 r3 dv3 q3 => by
    obtain ⟨a, m, kk, rfl, ha, rfl, hl, q⟩ := q3
    cases dv2
    cases dv3
    obtain ⟨w, l, hla, kv⟩ := r3.dicAt ha
    have e13 := (e1.trans e2).trans e3
    refine ⟨a, _, rfl, DPut.k (k := .inr kk) hla ?_, ?_⟩
    · rw [kv.len, sizeLine_eq]; omega
    · exact k.nx _ _ _ _ _ _ (e13.trans (stp_own w)) (r3.setDic ha (kv.put (dv1.mono (e2.trans e3).same))) (s.mono e13.same) q) ((k.kx s).mono (e1.trans e2))) ((k.kx s).mono e1)) (k.kx s)⟩
def SimP (K : PySem.W.Frag) (ca : CA) (W : WX) (trs : List (TE × TE)) (ks : List Str) (ta : ATA) : Prop := ∀ (σ : St) (H : Hp) (G : Hp) (own : Addr → Option Addr) (ρ : En) (Ω : Om) (Wa : AW) (Qa : List D → Om → Prop) (Qc : List (V × V) → Hp → Prop), Rel K ca G own H Ω → SR K G σ ρ → ta Wa ρ Ω Qa →
  (∀ vs H' G' own' ds Ω', Stp G own H G' own' H' → Rel K ca G' own' H' Ω' → DVs K G' vs ds → vs.length = ks.length → Qa ds Ω' → Qc ((ks.zip vs).map fun kv => (V.str kv.1, kv.2)) H') → KX K ca W G own H σ ρ Wa → tPairs trs σ H Qc
structure AP (X : Cx) (ca : CA) (W : WX) (pos : Pos) (keys : List (Option Expr)) (values : List Expr) (trs : List (TE × TE)) (ks : List Str) (ta : ATA) : Prop where
  pe : PPs X pos keys values trs
  sim : SimP X.K ca W trs ks ta
theorem ap_nil : AP X ca W pos [] [] [] [] aNil := ⟨pps_nil, fun σ H G own ρ Ω Wa Qa Qc r s h k kx => k [] _ _ _ _ _ Stp.refl r .nil rfl h⟩
theorem ap_cons {j : Nat} {kp : Pos} {kx : Str} {keys : List (Option Expr)} {values : List Expr} {trs : List (TE × TE)} {ks : List Str} {rr : ATA} (hv : AE X ca W v tv rv) (hr : AP X ca W pos keys values trs ks rr) :
    AP X ca W pos (some (.Constant (.str kx) j kp) :: keys) (v :: values) ((tC (.str kx), tv) :: trs) (kx :: ks) (aCons rv rr) :=
  ⟨pps_cons pe_str hv.pe hr.pe, fun σ H G own ρ Ω Wa Qa Qc r s h k kk => hv.sim σ H G own ρ Ω Wa _ _ r s h (fun w H1 G1 own1 d Ω1 e1 r1 dv1 q1 => hr.sim σ H1 G1 own1 ρ Ω1 Wa _ _ r1 (s.mono e1.same) q1 (fun vs H2 G2 own2 ds Ω2 e2 r2 dv2 hl q2 =>
    k (w :: vs) _ _ _ (d :: ds) _ (e1.trans e2) r2 (.cons (dv1.mono e2.same) dv2) (by rw [List.length_cons, List.length_cons, hl]) q2) (kk.mono e1)) kk⟩
def aDisp (ks : List Str) (rr : ATA) : ATE := fun Wa ρ Ω Q => rr Wa ρ Ω fun ds Ω1 => ∀ p, Ω1 p = none → Q (.o p) (oset Ω1 p (.dic ((ks.map Sum.inr).zip ds)))
theorem zip_kvs {K : PySem.W.Frag} {G : Hp} : ∀ {ks : List Str} {vs : List V} {ds : List D}, DVs K G vs ds → KVs K G ((ks.map (Sum.inr : Str → Key)).zip vs) ((ks.map Sum.inr).zip ds)
  | [], _, _, _ => by simp only [List.map_nil, List.zip_nil_left]; exact .nil
  | _ :: _, _, _, .nil => by simp only [List.zip_nil_right]; exact .nil
  | k :: ks, _, _, .cons h t => by
    simp only [List.map_cons, List.zip_cons_cons]
    exact .cons ⟨rfl, h⟩ (zip_kvs t)
theorem zip_pairs : ∀ (ks : List Str) (vs : List V), ((ks.map (Sum.inr : Str → Key)).zip vs).map (fun kv => (kV kv.1, kv.2)) = (ks.zip vs).map fun kv => (V.str kv.1, kv.2)
  | [], _ => rfl
  | _ :: _, [] => rfl
  | k :: ks, v :: vs => by
    simp only [List.map_cons, List.zip_cons_cons]
    rw [zip_pairs ks vs]
    rfl
theorem zip_fst : ∀ (ks : List Str) (vs : List V), vs.length = ks.length → (((ks.map (Sum.inr : Str → Key)).zip vs).map (·.1)) = ks.map Sum.inr
  | [], _, _ => rfl
  | _ :: _, [], h => by simp at h
  | k :: ks, v :: vs, h => by
    simp only [List.map_cons, List.zip_cons_cons]
    rw [zip_fst ks vs (by simpa using h)]
theorem nodup_inr {ks : List Str} (h : ks.Nodup) : (ks.map (Sum.inr : Str → Key)).Nodup := by
  induction ks with
  | nil => exact List.nodup_nil
  | cons k ks ih =>
    rw [List.nodup_cons] at h
    rw [List.map_cons, List.nodup_cons]
    refine ⟨fun z => ?_, ih h.2⟩
    obtain ⟨x, hx, e⟩ := List.mem_map.mp z
    rw [Sum.inr.inj e] at hx
    exact h.1 hx
theorem ae_disp {keys : List (Option Expr)} {values : List Expr} {trs : List (TE × TE)} {ks : List Str} {rr : ATA} (h : AP X ca W pos keys values trs ks rr) (hn : ks.Nodup := by decide) (h15 : ks.length ≤ 15 := by decide) (hall : keys.all (·.isSome) = true := by rfl) (hl : keys.length = values.length := by rfl) (h0 : keys ≠ [] := by intro z; cases z) (h15' : keys.length ≤ 15 := by decide) :
    AE X ca W (.Dict keys values pos) (tDisp trs) (aDisp ks rr) :=
  ⟨pe_disp h.pe hall hl h0 h15', fun σ H G own ρ Ω Wa Qa Qc r s hh k kx => by
    intro p hp
    have st := stp_new (G := G) (own := own) (p := p) (u := .dK []) (x := none) hp
    have rp := r.priv (u := .dK []) hp
    refine h.sim σ _ G _ ρ Ω Wa _ _ rp s hh (fun vs H2 G2 own2 ds Ω2 e2 r2 dv2 hl2 q2 => ?_) (kx.mono st)
    have hg : G p = none := r.sub.free hp
    obtain ⟨f1, f2, f3⟩ := e2.fr p (.dK []) upd_same (if_pos rfl) hg
    have hm : mergeK [] ((ks.map (Sum.inr : Str → Key)).zip vs) = (ks.map (Sum.inr : Str → Key)).zip vs := by
      refine merge_app _ [] ?_
      rw [List.nil_append, zip_fst ks vs hl2]
      exact nodup_inr hn
    refine ⟨f1, (ks.map (Sum.inr : Str → Key)).zip vs, (zip_pairs ks vs).symm, ?_, ?_⟩
    · rw [List.length_zip, List.length_map]; omega
    rw [hm]
    have e := st.trans e2
    refine k _ _ _ _ _ _ ⟨e.same, fun b u hb n g => ?_⟩ (r2.privDic f1 (fun z => z) f3 f2 (zip_kvs dv2)) (.o p) (q2 p (r2.none_of f2))
    obtain ⟨z1, z2, z3⟩ := e.fr b u hb n g
    have hbp : b ≠ p := ne_of_none hb hp
    refine ⟨by rw [upd_ne hbp]; exact z1, ?_, z3⟩
    unfold uown
    rw [if_neg hbp]
    exact z2⟩
end
section
variable {X : Cx} {ca : CA} {W : WX} {a b : Expr} {pos : Pos} {ta tb : TE} {ra rb : ATE}
theorem ae_notInI (ha : AE X ca W a ta ra) (hb : AE X ca W b tb rb) (hm : behindInMarks .NotIn b = false := by rfl) : AE X ca W (.Compare a [.NotIn] [b] pos) (tOp (rIn X.K true) ta tb) (aOp (fInI true) ra rb) := ⟨pe_cmpR op_notIn_seq ha.pe hb.pe hm, sim_op simr_inI ha.sim hb.sim⟩
end
end PL
namespace PL
theorem sureA {c0 : Int × Int} {r : List (Int × Int)} {mn mx : Int} (h1 : ∃ c ∈ c0 :: r, c.2 = mn) (h3 : ∃ c ∈ c0 :: r, c.2 = mx) (a1 : mn ≤ 0) (a2 : 0 ≤ mx) : belowAll (c0 :: r) = none := by
  have : ∃ c ∈ c0 :: r, c.2 * c0.2 ≤ 0 := by
    rcases Int.lt_trichotomy c0.2 0 with z | z | z
    · obtain ⟨c, hc, e⟩ := h3
      exact ⟨c, hc, Int.mul_nonpos_of_nonneg_of_nonpos (by omega) (by omega)⟩
    · exact ⟨c0, List.mem_cons_self, by rw [z]; omega⟩
    · obtain ⟨c, hc, e⟩ := h1
      exact ⟨c, hc, Int.mul_nonpos_of_nonpos_of_nonneg (by omega) (by omega)⟩
  obtain ⟨c, hc, e⟩ := this
  unfold belowAll
  have : (c0 :: r).any (fun c => decide (c.2 * c0.2 ≤ 0)) = true := List.any_eq_true.mpr ⟨c, hc, by simpa using e⟩
  simp only [this, if_true]
theorem sureB {c0 : Int × Int} {r : List (Int × Int)} {mn mx : Int} (h2 : ∀ c ∈ c0 :: r, mn ≤ c.2) (h4 : ∀ c ∈ c0 :: r, c.2 ≤ mx) (a : ¬ (mn ≤ 0 ∧ 0 ≤ mx)) : ∀ c ∈ c0 :: r, 0 < c.2 * c0.2 := by
  intro c hc
  have q1 := h2 c hc
  have q2 := h4 c hc
  have q3 := h2 c0 List.mem_cons_self
  have q4 := h4 c0 List.mem_cons_self
  rcases Int.lt_or_le 0 mn with z | z
  · exact Int.mul_pos (by omega) (by omega)
  · exact Int.mul_pos_of_neg_of_neg (by omega) (by omega)
theorem sureN {c0 : Int × Int} {r : List (Int × Int)} {q : Int} (h : ∀ c ∈ c0 :: r, 0 < c.2 * c0.2) (h1 : ∃ c ∈ c0 :: r, q = c.1.fdiv c.2) (h2 : ∀ c ∈ c0 :: r, q ≤ c.1.fdiv c.2) (h3 : ∃ c ∈ c0 :: r, 0 < (c.1 - (q + 1) * c.2) * c.2 ∨ ((c.1 - (q + 1) * c.2) * c.2 = 0 ∧ c.1 * c0.2 = c0.1 * c.2)) : belowAll (c0 :: r) = none := by
  cases hq : belowAll (c0 :: r) with
  | none => rfl
  | some q' =>
    obtain ⟨_, ⟨c, hc, e⟩, g2, g3⟩ := belowAll_spec.mp hq
    obtain ⟨c', hc', e'⟩ := h1
    have := h2 c hc
    have := g2 c' hc'
    have : q' = q := by omega
    subst this
    obtain ⟨c2, hc2, hbad⟩ := h3
    exact absurd hbad (g3 c2 hc2)
theorem far_iff {t b q : Int} (b0 : b ≠ 0) (hq : q ≤ t.fdiv b) : b.natAbs < (t - q * b).natAbs ↔ 0 < (t - (q + 1) * b) * b := by
  have e1 := Int.mul_fdiv_add_fmod t b
  have e2 : 0 ≤ t.fmod b * b := by
    rcases Int.lt_or_gt_of_ne b0 with z | z
    · exact Int.mul_nonneg_of_nonpos_of_nonpos (fmod_neg' z).2 (by omega)
    · exact Int.mul_nonneg (Int.fmod_nonneg_of_pos _ z) (by omega)
  have e3 : 0 ≤ (t - q * b) * b := by
    generalize t.fmod b = r at e1 e2
    generalize t.fdiv b = d at e1 hq
    have e3 : (t - q * b) * b = (d - q) * (b * b) + r * b := by rw [← e1]; grind
    have e4 : 0 ≤ (d - q) * (b * b) := Int.mul_nonneg (by omega) (sq0 _)
    omega
  have e4 : (t - (q + 1) * b) * b = (t - q * b) * b - b * b := by grind
  rw [e4]
  generalize t - q * b = r at e3 ⊢
  rcases Int.lt_or_gt_of_ne b0 with z | z
  · have r0 : r ≤ 0 := by
      rcases Int.lt_or_le 0 r with g | g
      · have := Int.mul_neg_of_pos_of_neg g z
        omega
      · exact g
    constructor
    · intro h
      have h1 : r < b := by omega
      have := Int.mul_lt_mul_of_neg_right h1 z
      omega
    · intro h
      rcases Int.lt_or_le r b with g | g
      · omega
      · have := Int.mul_le_mul_of_nonpos_right g (Int.le_of_lt z)
        omega
  · have r0 : 0 ≤ r := by
      rcases Int.lt_or_le r 0 with g | g
      · have := Int.mul_neg_of_neg_of_pos g z
        omega
      · exact g
    constructor
    · intro h
      have h1 : b < r := by omega
      have := Int.mul_lt_mul_of_pos_right h1 z
      omega
    · intro h
      rcases Int.lt_or_le b r with g | g
      · omega
      · have := Int.mul_le_mul_of_nonneg_right g (Int.le_of_lt z)
        omega
theorem sureC {c0 : Int × Int} {r : List (Int × Int)} {q : Int} (h : ∀ c ∈ c0 :: r, 0 < c.2 * c0.2) (h1 : ∃ c ∈ c0 :: r, q = c.1.fdiv c.2) (h2 : ∀ c ∈ c0 :: r, q ≤ c.1.fdiv c.2) (h3 : ∃ c ∈ c0 :: r, c.2.natAbs < (c.1 - q * c.2).natAbs) : belowAll (c0 :: r) = none := by
  obtain ⟨c, hc, e⟩ := h3
  have b0 : c.2 ≠ 0 := fun z => by have := h c hc; rw [z, Int.zero_mul] at this; omega
  exact sureN h h1 h2 ⟨c, hc, .inl ((far_iff b0 (h2 c hc)).mp e)⟩
theorem sureD {c0 : Int × Int} {r : List (Int × Int)} {q : Int} (h : ∀ c ∈ c0 :: r, 0 < c.2 * c0.2) (h1 : ∃ c ∈ c0 :: r, q = c.1.fdiv c.2) (h2 : ∀ c ∈ c0 :: r, q ≤ c.1.fdiv c.2) (h3 : c0.1 = (q + 1) * c0.2) : belowAll (c0 :: r) = none :=
  sureN h h1 h2 ⟨c0, List.mem_cons_self, .inr ⟨by rw [h3]; grind, rfl⟩⟩
theorem sureE {c0 : Int × Int} {r : List (Int × Int)} {q : Int} (h : ∀ c ∈ c0 :: r, 0 < c.2 * c0.2) (h1 : ∃ c ∈ c0 :: r, q = c.1.fdiv c.2) (h2 : ∀ c ∈ c0 :: r, q ≤ c.1.fdiv c.2) (h3 : ∀ c ∈ c0 :: r, ¬ c.2.natAbs < (c.1 - q * c.2).natAbs) (h4 : c0.1 ≠ (q + 1) * c0.2) : belowAll (c0 :: r) = some q := by
  refine belowAll_spec.mpr ⟨h, h1, h2, fun c hc => ?_⟩
  have b0 : c.2 ≠ 0 := fun z => by have := h c hc; rw [z, Int.zero_mul] at this; omega
  rintro (z | ⟨z1, z2⟩)
  · exact h3 c hc ((far_iff b0 (h2 c hc)).mpr z)
  · have z3 : c.1 - (q + 1) * c.2 = 0 := by
      rcases Int.mul_eq_zero.mp z1 with g | g
      · exact g
      · exact absurd g b0
    have z4 : c.1 = (q + 1) * c.2 := by omega
    rw [z4] at z2
    have z5 : c.2 * ((q + 1) * c0.2 - c0.1) = 0 := by grind
    rcases Int.mul_eq_zero.mp z5 with g | g
    · exact b0 g
    · omega
end PL
namespace PL
open PySem L2
section
variable {X : Cx} {ca : CA} {W : WX} {a b : Expr} {ta tb : TE} {ra rb : ATE} {pos : Pos}
def fDivmod : List D → Om → AQ → Prop := fun xs Ω Q => ∃ i j : Int, xs = [.int i, .int j] ∧ 0 < j ∧ j < 2 ^ 60 ∧ Q (.tup [.int (i / j), .int (i % j)]) Ω
def rDivmod : List V → Hp → VK → Prop := fun xs H Q => ∃ i j, xs = [.int i, .int j] ∧ CDivP i j ∧ ∀ p, H p = none → Q (.ref p) (upd H p (.tup [.int (i / j), .int (i % j)]))
theorem nopylong {i j : Int} (h : j < 2 ^ 60) (h0 : 0 < j) : Builtin.divisionGoesByPylong i j = false := by
  unfold Builtin.divisionGoesByPylong
  have : j.natAbs.log2 < 60 := by
    rw [Nat.log2_lt (by omega)]
    omega
  have e : (j == 0) = false := by simp; omega
  simp only [e]
  have h3 : ¬ (300 < j.natAbs.log2 / 30 + 1) := by omega
  simp [h3]
theorem boot_divmod' : bootBuiltins "divmod" = some (.builtin "divmod") := by decide +kernel
theorem ae_divmod {p : Pos} (hg : Gl X "divmod") (hm : X.mg "divmod" = none) (ha : AE X ca W a ta ra) (hb : AE X ca W b tb rb) (hs : starEach [a, b] X.env = (false, eval a X.env) :: starEach [b] X.env := by rfl) (hs2 : starEach [b] X.env = (false, eval b X.env) :: starEach [] X.env := by rfl) :
    AE X ca W (.Call (.Name "divmod" p) [a, b] [] pos) (tCB rDivmod (tCons ta (tCons tb tNil))) (aCall fDivmod (aCons ra (aCons rb aNil))) :=
  ae_callB call_divmodW (by
    intro H G own Ω xs vs Qa Qc r d h k
    obtain ⟨i, j, rfl, h0, h1, q⟩ := h
    cases d with
    | cons d1 d2 =>
      obtain ⟨v, rfl, dv⟩ := dv1 d2
      cases d1
      cases dv
      refine ⟨i, j, rfl, ⟨h0, nopylong h1 h0⟩, fun l hl => ?_⟩
      obtain ⟨r4, e4⟩ := r.data (u := .tup [.int (i / j), .int (i % j)]) hl
      exact k _ _ _ _ _ _ (stp_data e4 hl) r4 (.tup (SqT.of upd_same) (.cons (.int _) (.cons (.int _) .nil))) q) hg hm boot_divmod' (aa_cons ha (aa_cons hb aa_nil hs2) hs) (by decide) (by decide) hs (by rw [hs2]; rfl)
end
end PL
namespace PL
open PySem L2
section
variable {X : Cx} {ca : CA} {W : WX} {a b : Expr} {ta tb : TE} {ra rb : ATE} {pos : Pos}
def fMin2 : List D → Om → AQ → Prop := fun xs Ω Q => ∃ i j : Int, xs = [.int i, .int j] ∧ Q (.int (if j < i then j else i)) Ω
theorem ae_min2 {p : Pos} (hg : Gl X "min") (hm : X.mg "min" = none) (hc : X.calm = true) (ha : AE X ca W a ta ra) (hb : AE X ca W b tb rb) (hs : starEach [a, b] X.env = (false, eval a X.env) :: starEach [b] X.env := by rfl) (hs2 : starEach [b] X.env = (false, eval b X.env) :: starEach [] X.env := by rfl) : AE X ca W (.Call (.Name "min" p) [a, b] [] pos) (tCB (fun xs H Q => ∃ i j, xs = [.int i, .int j] ∧ Q (.int (if j < i then j else i)) H) (tCons ta (tCons tb tNil))) (aCall fMin2 (aCons ra (aCons rb aNil))) :=
  ae_callB (call_min2 hc) (by
    intro H G own Ω xs vs Qa Qc r d h k
    obtain ⟨i, j, rfl, q⟩ := h
    cases d with
    | cons d1 d2 =>
      obtain ⟨v, rfl, dv⟩ := dv1 d2
      cases d1
      cases dv
      exact ⟨i, j, rfl, k _ _ _ _ _ _ Stp.refl r (.int _) q⟩) hg hm boot_min' (aa_cons ha (aa_cons hb aa_nil hs2) hs) (by decide) (by decide) hs (by rw [hs2]; rfl)
end
end PL
namespace PL
open PySem PySem.Spec PyProof.Rows L2
mutual
def D.pyO (Ω : Om) : D → Option PyData
  | .non => some .none
  | .bl b => some (.bool b)
  | .int i => some (.int i)
  | .str x => some (.str x)
  | .tup xs => (D.pysO Ω xs).map .tuple
  | .lst xs => (D.pysO Ω xs).map .list
  | .o a => match Ω a with
    | some (.lst xs) => (D.pys xs).map .list
    | _ => none
def D.pysO (Ω : Om) : List D → Option (List PyData)
  | [] => some []
  | x :: xs => match D.pyO Ω x, D.pysO Ω xs with
    | some p, some ps => some (p :: ps)
    | _, _ => none
end
section
variable {K : PySem.W.Frag} {ca : CA} {G H : Hp} {own : Addr → Option Addr} {Ω : Om}
mutual
theorem DV.dpO (r : Rel K ca G own H Ω) : ∀ {d : D} {v : V} {p : PyData}, DV K G v d → D.pyO Ω d = some p → Dp K H v p
  | .non, _, _, h, q => by cases h; simp only [D.pyO, Option.some.injEq] at q; subst q; exact .non
  | .bl _, _, _, h, q => by cases h; simp only [D.pyO, Option.some.injEq] at q; subst q; exact .bl _
  | .int _, _, _, h, q => by cases h; simp only [D.pyO, Option.some.injEq] at q; subst q; exact .int _
  | .str _, _, _, h, q => by cases h; simp only [D.pyO, Option.some.injEq] at q; subst q; exact .str _
  | .o a, _, _, h, q => by
    cases h
    simp only [D.pyO] at q
    cases e : Ω a with
    | none => rw [e] at q; cases q
    | some o =>
      rw [e] at q
      cases o with
      | lst xs =>
        obtain ⟨G', own', _, _, r', dv'⟩ := r.freeze e
        exact dv'.dp r'.sub (show D.py (.lst xs) = some _ from q)
      | row => cases q
      | dic _ => cases q
      | obj _ _ => cases q
  | .tup xs, _, _, h, q => by
    cases h with
    | tup a b =>
      simp only [D.pyO, Option.map_eq_some_iff] at q
      obtain ⟨ps, e1, rfl⟩ := q
      exact .tup (same_seqT r.sub a) (DVs.dpO r b e1)
  | .lst xs, _, _, h, q => by
    cases h with
    | lst a b =>
      simp only [D.pyO, Option.map_eq_some_iff] at q
      obtain ⟨ps, e1, rfl⟩ := q
      exact .lst (r.sub.seq a) (DVs.dpO r b e1)
theorem DVs.dpO (r : Rel K ca G own H Ω) : ∀ {d : List D} {v : List V} {p : List PyData}, DVs K G v d → D.pysO Ω d = some p → DpAll K H v p
  | [], _, _, h, q => by cases h; simp only [D.pysO, Option.some.injEq] at q; subst q; exact .nil
  | x :: xs, _, _, h, q => by
    cases h with
    | cons h1 h2 =>
      simp only [D.pysO] at q
      cases e1 : D.pyO Ω x with
      | none => rw [e1] at q; cases q
      | some p =>
        cases e2 : D.pysO Ω xs with
        | none => rw [e1, e2] at q; cases q
        | some ps =>
          rw [e1, e2] at q
          simp only [Option.some.injEq] at q
          subst q
          exact .cons (DV.dpO r h1 e1) (DVs.dpO r h2 e2)
end
end
def fEqO (neg : Bool) : D → D → Om → AQ → Prop := fun x y Ω Q => ∃ p q, x.pyO Ω = some p ∧ y.pyO Ω = some q ∧ SeqAt.shaped p = true ∧ SeqAt.shaped q = true ∧ Q (.bl (if neg then !PyData.eqv p q else PyData.eqv p q)) Ω
theorem simr_neO {K : PySem.W.Frag} {ca : CA} : SimR K ca (rNeD K) (fEqO true) := by
  intro H G own Ω x y v w Qa Qc r dx dy h k
  obtain ⟨p, q, e1, e2, s1, s2, h⟩ := h
  exact ⟨p, q, dx.dpO r e1, dy.dpO r e2, s1, s2, k _ _ _ _ _ _ Stp.refl r (.bl _) h⟩
section
variable {X : Cx} {ca : CA} {W : WX} {a b e : Expr} {ta tb te : TE} {ra rb re : ATE} {pos : Pos}
def aNeO := aOp (fEqO true)
theorem at_neO (hu : X.A.units + 64 < cLine) (ha : AE X ca W a ta ra) (hb : AE X ca W b tb rb) : AT X ca W (.Compare a [.NotEq] [b] pos) (tTest (tOp (rNeD X.K) ta tb)) (aB (aNeO ra rb)) := at_cmp (op_neD hu) simr_neO ha hb (nomark _)
def aIsi2 (S T : String) (ra : ATE) : ATE := fun Wa ρ Ω Q => ra Wa ρ Ω fun x Ω1 => ∃ t b c, x.ty Ω1 = some t ∧ isT t S = some b ∧ isT t T = some c ∧ Q (.bl (b || c)) Ω1
theorem ae_isi2 {p p1 p2 tp : Pos} {x1 : Nat} {S T : Str} {Sn Tn : String} (hg : Gl X "isinstance") (hm : X.mg "isinstance" = none) (hS : PE X (.Name S p1) (tC (.ty Sn))) (hT : PE X (.Name T p2) (tC (.ty Tn))) (ha : AE X ca W e te re)
    (hs1 : starEach [.Name S p1, .Name T p2] X.env = (false, eval (.Name S p1) X.env) :: starEach [.Name T p2] X.env := by rfl) (hs2 : starEach [.Name T p2] X.env = (false, eval (.Name T p2) X.env) :: starEach [] X.env := by rfl)
    (hs : starEach [e, .Tuple [.Name S p1, .Name T p2] x1 tp] X.env = (false, eval e X.env) :: starEach [.Tuple [.Name S p1, .Name T p2] x1 tp] X.env := by rfl) (hpl : (backTo pos (starEach [.Tuple [.Name S p1, .Name T p2] x1 tp] X.env)).any (·.1) = false := by rfl) (hs3 : starEach [.Tuple [.Name S p1, .Name T p2] x1 tp] X.env = (false, eval (.Tuple [.Name S p1, .Name T p2] x1 tp) X.env) :: starEach [] X.env := by rfl) :
    AE X ca W (.Call (.Name "isinstance" p) [e, .Tuple [.Name S p1, .Name T p2] x1 tp] [] pos) (tCB (rIsiT X.K) (tCons te (tCons (tTup (tCons (tC (.ty Sn)) (tCons (tC (.ty Tn)) tNil))) tNil))) (aIsi2 Sn Tn re) :=
  ⟨pe_callB call_isiT hg hm boot_isi (pa_cons ha.pe (pa_cons (pe_tup (pa_cons hS (pa_cons hT pa_nil hs2) hs1)) pa_nil hs3) hs) (by decide) (by decide) hs hpl, fun σ H G own ρ Ω Wa Qa Qc r s h k kx => ha.sim σ H G own ρ Ω Wa _ _ r s h (fun v H1 G1 own1 d Ω1 e1 r1 dv1 q1 => by
    obtain ⟨t, b, c, ht, hb, hc, q⟩ := q1
    refine ⟨by rw [sizeLine_eq]; show 2 ≤ _; decide, fun p hp => ?_⟩
    obtain ⟨r2, e2'⟩ := r1.data (u := .tup [.ty Sn, .ty Tn]) hp
    have dv2 := dv1.mono e2'
    refine ⟨v, p, [.ty Sn, .ty Tn], .type t, [.type Sn, .type Tn], b || c, rfl, upd_same, .cons (.ty Sn) (.cons (.ty Tn) .nil), ty_of r2 dv2 ht, ?_, k _ _ _ _ _ _ (e1.trans (stp_data e2' hp)) r2 (.bl _) q⟩
    have k1 : PySem.W.kitOne X.K (.type t) (.type Sn) = some b := kit_ty hb
    have k2 : PySem.W.kitOne X.K (.type t) (.type Tn) = some c := kit_ty hc
    simp only [PySem.W.kitAny, k1, k2]
    cases b <;> cases c <;> rfl) kx⟩
end
end PL
namespace PL
theorem Told.det {n : Nat} {r r1 : R} {m m1 : Int} {a1 : Ans} (h : Told n r m r1 m1 a1) : ∀ {n' : Nat} {r2 : R} {m2 : Int} {a2 : Ans}, Told n' r m r2 m2 a2 → r1 = r2 ∧ m1 = m2 ∧ a1 = a2 := by
  induction h with
  | fxEnd =>
    intro _ _ _ _ g
    cases g with
    | fxEnd => exact ⟨rfl, rfl, rfl⟩
    | fxPart h => exact absurd rfl h
  | fxNo =>
    intro _ _ _ _ g
    cases g with
    | fxNo => exact ⟨rfl, rfl, rfl⟩
    | fxPart h => exact absurd rfl h
  | fxPart h =>
    intro _ _ _ _ g
    cases g with
    | fxEnd => exact absurd rfl h
    | fxNo => exact absurd rfl h
    | fxPart _ => exact ⟨rfl, rfl, rfl⟩
  | frEnd =>
    intro _ _ _ _ g
    cases g with
    | frEnd => exact ⟨rfl, rfl, rfl⟩
    | frWait h => exact absurd rfl h
    | frPart h => exact absurd rfl h
  | frWait h =>
    intro _ _ _ _ g
    cases g with
    | frEnd => exact absurd rfl h
    | frWait _ => exact ⟨rfl, rfl, rfl⟩
    | frPart _ h2 => exact absurd rfl h2
  | frPart h h2 =>
    intro _ _ _ _ g
    cases g with
    | frEnd => exact absurd rfl h
    | frWait _ => exact absurd rfl h2
    | frPart => exact ⟨rfl, rfl, rfl⟩
  | rtWait =>
    intro _ _ _ _ g
    cases g with
    | rtWait => exact ⟨rfl, rfl, rfl⟩
    | rtPart h => exact absurd rfl h
  | rtPart h _ _ _ _ _ e1 e2 =>
    intro _ _ _ _ g
    cases g with
    | rtWait => exact absurd rfl h
    | rtPart _ _ _ _ _ _ f1 f2 => subst e1; subst e2; subst f1; subst f2; exact ⟨rfl, rfl, rfl⟩
  | ruEnd h =>
    intro _ _ _ _ g
    cases g with
    | ruEnd => exact ⟨rfl, rfl, rfl⟩
    | ruWait h2 => exact absurd (h2 rfl) (by omega)
    | ruPart h2 => exact absurd (h2 rfl) (by omega)
  | ruWait h =>
    intro _ _ _ _ g
    cases g with
    | ruEnd h2 => exact absurd (h rfl) (by omega)
    | ruWait => exact ⟨rfl, rfl, rfl⟩
    | ruPart _ h3 => exact absurd rfl h3
  | ruPart h h3 =>
    intro _ _ _ _ g
    cases g with
    | ruEnd h2 => exact absurd (h rfl) (by omega)
    | ruWait => exact absurd rfl h3
    | ruPart => exact ⟨rfl, rfl, rfl⟩
  | foTell _ _ _ _ e =>
    intro _ _ _ _ g
    cases g with
    | foTell _ _ _ _ e2 => rw [e] at e2; cases e2; exact ⟨rfl, rfl, rfl⟩
    | foWait _ _ _ _ e2 | foNo _ _ _ _ e2 | foEnd _ _ _ _ e2 | foIn _ _ _ _ e2 => rw [e] at e2; cases e2
  | foWait _ _ _ _ e _ ih =>
    intro _ _ _ _ g
    cases g with
    | foTell _ _ _ _ e2 => rw [e] at e2; cases e2
    | foWait _ _ _ _ _ t | foNo _ _ _ _ _ t | foEnd _ _ _ _ _ t | foIn _ _ _ _ _ t =>
      obtain ⟨x1, x2, x3⟩ := ih t
      first | cases x3; done | (subst x1; subst x2; exact ⟨rfl, rfl, rfl⟩)
  | foNo _ _ _ _ e _ ih =>
    intro _ _ _ _ g
    cases g with
    | foTell _ _ _ _ e2 => rw [e] at e2; cases e2
    | foWait _ _ _ _ _ t | foNo _ _ _ _ _ t | foEnd _ _ _ _ _ t | foIn _ _ _ _ _ t =>
      obtain ⟨x1, x2, x3⟩ := ih t
      first | cases x3; done | (subst x1; subst x2; exact ⟨rfl, rfl, rfl⟩)
  | foEnd _ _ _ _ e _ _ ih1 ih2 =>
    intro _ _ _ _ g
    cases g with
    | foTell _ _ _ _ e2 => rw [e] at e2; cases e2
    | foWait _ _ _ _ _ t | foNo _ _ _ _ _ t | foIn _ _ _ _ _ t => obtain ⟨x1, x2, x3⟩ := ih1 t; cases x3
    | foEnd _ _ _ _ _ t t2 =>
      obtain ⟨x1, x2, x3⟩ := ih1 t
      subst x1; subst x2
      obtain ⟨y1, y2, y3⟩ := ih2 t2
      cases y1; subst y2; subst y3
      exact ⟨rfl, rfl, rfl⟩
  | foIn _ _ _ _ e _ _ _ ih1 ih2 =>
    intro _ _ _ _ g
    cases g with
    | foTell _ _ _ _ e2 => rw [e] at e2; cases e2
    | foWait _ _ _ _ _ t | foNo _ _ _ _ _ t | foEnd _ _ _ _ _ t => obtain ⟨x1, x2, x3⟩ := ih1 t; cases x3
    | foIn _ _ _ _ _ t _ t2 =>
      obtain ⟨x1, x2, x3⟩ := ih1 t
      cases x3; subst x1; subst x2
      exact ih2 t2
  | fxX _ ih =>
    intro _ _ _ _ g
    cases g with
    | fxX t =>
      obtain ⟨x1, x2, x3⟩ := ih t
      cases x1; subst x2; subst x3
      exact ⟨rfl, rfl, rfl⟩
  | exX _ ih =>
    intro _ _ _ _ g
    cases g with
    | exX t =>
      obtain ⟨x1, x2, x3⟩ := ih t
      cases x1; subst x2; subst x3
      exact ⟨rfl, rfl, rfl⟩
  | exF _ _ ih =>
    intro _ _ _ _ g
    cases g with
    | exF _ t =>
      obtain ⟨x1, x2, x3⟩ := ih t
      subst x1; subst x2; subst x3
      exact ⟨rfl, rfl, rfl⟩
  | etTell _ e =>
    intro _ _ _ _ g
    cases g with
    | etTell _ e2 => rw [e] at e2; cases e2; exact ⟨rfl, rfl, rfl⟩
    | etWait _ e2 | etNo _ e2 | etFour _ e2 | etFix _ e2 | etIn0 _ e2 | etIn1 _ e2 => rw [e] at e2; cases e2
  | etWait _ e hw _ ih =>
    intro _ _ _ _ g
    subst hw
    cases g with
    | etTell _ e2 => rw [e] at e2; cases e2
    | etWait _ _ hw2 t | etNo _ _ hw2 t | etFour _ _ hw2 t | etFix _ _ hw2 t =>
      subst hw2
      obtain ⟨x1, x2, x3⟩ := ih t
      first | cases x3; done | (subst x1; subst x2; exact ⟨rfl, rfl, rfl⟩)
    | etIn0 _ _ hw2 t | etIn1 _ _ hw2 t =>
      simp only [hw2, decide_true, decide_false, cond] at ih
      obtain ⟨x1, x2, x3⟩ := ih t
      cases x3
  | etNo _ e hw _ ih =>
    intro _ _ _ _ g
    subst hw
    cases g with
    | etTell _ e2 => rw [e] at e2; cases e2
    | etWait _ _ hw2 t | etNo _ _ hw2 t | etFour _ _ hw2 t | etFix _ _ hw2 t =>
      subst hw2
      obtain ⟨x1, x2, x3⟩ := ih t
      first | cases x3; done | (subst x1; subst x2; exact ⟨rfl, rfl, rfl⟩)
    | etIn0 _ _ hw2 t | etIn1 _ _ hw2 t =>
      simp only [hw2, decide_true, decide_false, cond] at ih
      obtain ⟨x1, x2, x3⟩ := ih t
      cases x3
  | etFour _ e hw _ hd _ ih ih2 =>
    intro _ _ _ _ g
    subst hw
    cases g with
    | etTell _ e2 => rw [e] at e2; cases e2
    | etWait _ _ hw2 t | etNo _ _ hw2 t => subst hw2; obtain ⟨x1, x2, x3⟩ := ih t; cases x3
    | etFix _ _ hw2 t hd2 => subst hw2; exact absurd hd2 hd
    | etFour _ _ hw2 t hd2 t2 =>
      subst hw2
      obtain ⟨x1, x2, x3⟩ := ih t
      subst x1; subst x2
      obtain ⟨y1, y2, y3⟩ := ih2 t2
      subst y1; subst y2; subst y3
      exact ⟨rfl, rfl, rfl⟩
    | etIn0 _ _ hw2 t | etIn1 _ _ hw2 t =>
      simp only [hw2, decide_true, decide_false, cond] at ih
      obtain ⟨x1, x2, x3⟩ := ih t
      cases x3
  | etFix _ e hw _ hd he _ ih ih2 =>
    intro _ _ _ _ g
    subst hw
    cases g with
    | etTell _ e2 => rw [e] at e2; cases e2
    | etWait _ _ hw2 t | etNo _ _ hw2 t => subst hw2; obtain ⟨x1, x2, x3⟩ := ih t; cases x3
    | etFour _ _ hw2 t hd2 => subst hw2; exact absurd hd hd2
    | etFix _ _ hw2 t hd2 he2 t2 =>
      subst hw2
      obtain ⟨x1, x2, x3⟩ := ih t
      subst x1; subst x2
      have he3 := he.trans he2.symm
      cases he3
      obtain ⟨y1, y2, y3⟩ := ih2 t2
      cases y1; subst y2; subst y3
      exact ⟨rfl, rfl, rfl⟩
    | etIn0 _ _ hw2 t | etIn1 _ _ hw2 t =>
      simp only [hw2, decide_true, decide_false, cond] at ih
      obtain ⟨x1, x2, x3⟩ := ih t
      cases x3
  | etIn0 _ e hw _ _ _ ih ih2 =>
    intro _ _ _ _ g
    cases g with
    | etTell _ e2 => rw [e] at e2; cases e2
    | etWait _ _ hw2 t | etNo _ _ hw2 t | etFour _ _ hw2 t | etFix _ _ hw2 t =>
      subst hw2
      simp only [hw, decide_false, cond] at t
      obtain ⟨x1, x2, x3⟩ := ih t
      cases x3
    | etIn1 _ _ hw2 => exact absurd hw2 hw
    | etIn0 _ _ _ t _ t2 =>
      obtain ⟨x1, x2, x3⟩ := ih t
      cases x3; subst x1; subst x2
      exact ih2 t2
  | etIn1 _ e hw _ _ _ ih ih2 =>
    intro _ _ _ _ g
    cases g with
    | etTell _ e2 => rw [e] at e2; cases e2
    | etWait _ _ hw2 t | etNo _ _ hw2 t | etFour _ _ hw2 t | etFix _ _ hw2 t =>
      subst hw2
      simp only [hw, decide_true, cond] at t
      obtain ⟨x1, x2, x3⟩ := ih t
      cases x3
    | etIn0 _ _ hw2 => exact absurd hw hw2
    | etIn1 _ _ _ t _ t2 =>
      obtain ⟨x1, x2, x3⟩ := ih t
      cases x3; subst x1; subst x2
      exact ih2 t2
/-- with more to take, the same is told -/
theorem Told.mono {k : Int} (hk : 0 ≤ k) {n : Nat} {r r1 : R} {m m1 : Int} {a1 : Ans} (h : Told n r m r1 m1 a1) : 0 ≤ m → 0 ≤ m1 ∧ (a1 ≠ .waits → Told n r (m + k) r1 (m1 + k) a1) := by
  have sh : ∀ m : Int, m - 1 + k = m + k - 1 := fun m => by omega
  induction h with
  | fxEnd => exact fun h => ⟨h, fun _ => .fxEnd⟩
  | fxNo => exact fun h => ⟨h, fun _ => .fxNo⟩
  | fxPart h1 h2 h3 => exact fun h => ⟨h, fun _ => .fxPart h1 h2 h3⟩
  | frEnd => exact fun h => ⟨h, fun _ => .frEnd⟩
  | frWait => exact fun h => ⟨h, fun z => absurd rfl z⟩
  | frPart h1 h2 h3 h4 => exact fun h => ⟨by omega, fun _ => by rw [sh]; exact .frPart h1 (by omega) h3 h4⟩
  | rtWait => exact fun h => ⟨h, fun z => absurd rfl z⟩
  | rtPart h1 h2 h3 h4 h5 h6 h7 h8 h9 => exact fun h => ⟨by omega, fun _ => by rw [sh]; exact .rtPart (by omega) h2 h3 h4 h5 h6 h7 h8 h9⟩
  | ruEnd h1 => exact fun h => ⟨h, fun _ => .ruEnd h1⟩
  | ruWait => exact fun h => ⟨h, fun z => absurd rfl z⟩
  | ruPart h1 h2 h3 h4 h5 h6 h7 => exact fun h => ⟨by omega, fun _ => by rw [sh]; exact .ruPart h1 (by omega) h3 h4 h5 h6 h7⟩
  | foTell h1 h2 h3 h4 h5 => exact fun h => ⟨h, fun _ => .foTell h1 h2 h3 h4 h5⟩
  | foWait h1 h2 h3 h4 h5 _ ih => exact fun h => ⟨(ih h).1, fun z => absurd rfl z⟩
  | foNo h1 h2 h3 h4 h5 _ ih => exact fun h => ⟨(ih h).1, fun _ => .foNo h1 h2 h3 h4 h5 ((ih h).2 (by simp))⟩
  | foEnd h1 h2 h3 h4 h5 _ _ ih1 ih2 => exact fun h => ⟨(ih2 (ih1 h).1).1, fun z => .foEnd h1 h2 h3 h4 h5 ((ih1 h).2 (by simp)) ((ih2 (ih1 h).1).2 z)⟩
  | foIn h1 h2 h3 h4 h5 _ h6 _ ih1 ih2 => exact fun h => ⟨(ih2 (ih1 h).1).1, fun z => .foIn h1 h2 h3 h4 h5 ((ih1 h).2 (by simp)) h6 ((ih2 (ih1 h).1).2 z)⟩
  | fxX _ ih => exact fun h => ⟨(ih h).1, fun z => .fxX ((ih h).2 z)⟩
  | exX _ ih => exact fun h => ⟨(ih h).1, fun z => .exX ((ih h).2 z)⟩
  | exF hf _ ih => exact fun h => ⟨(ih h).1, fun z => .exF hf ((ih h).2 z)⟩
  | etTell h1 h2 => exact fun h => ⟨h, fun _ => .etTell h1 h2⟩
  | etWait h1 h2 h3 _ ih => exact fun h => ⟨(ih h).1, fun z => absurd rfl z⟩
  | etNo h1 h2 h3 _ ih => exact fun h => ⟨(ih h).1, fun _ => .etNo h1 h2 h3 ((ih h).2 (by simp))⟩
  | etFour h1 h2 h3 _ h4 _ ih1 ih2 => exact fun h => ⟨(ih2 (ih1 h).1).1, fun z => .etFour h1 h2 h3 ((ih1 h).2 (by simp)) h4 ((ih2 (ih1 h).1).2 z)⟩
  | etFix h1 h2 h3 _ h4 h5 _ ih1 ih2 => exact fun h => ⟨(ih2 (ih1 h).1).1, fun z => .etFix h1 h2 h3 ((ih1 h).2 (by simp)) h4 h5 ((ih2 (ih1 h).1).2 z)⟩
  | etIn0 h1 h2 h3 _ h4 _ ih1 ih2 => exact fun h => ⟨(ih2 (ih1 h).1).1, fun z => .etIn0 h1 h2 h3 ((ih1 h).2 (by simp)) h4 ((ih2 (ih1 h).1).2 z)⟩
  | etIn1 h1 h2 h3 _ h4 _ ih1 ih2 => exact fun h => ⟨(ih2 (ih1 h).1).1, fun z => .etIn1 h1 h2 h3 ((ih1 h).2 (by simp)) h4 ((ih2 (ih1 h).1).2 z)⟩
end PL
namespace PL
open PySem L2
/-- a reader within bounds: it can be asked for 2600 parts of leaves in all -/
def GdC (r : R) : Prop := ∃ bg u1 u0 β, Gd 84 KK r bg u1 u0 β ∧ β ≤ 60000
theorem gdc_of {k : Nat} {tr : Tr} {r : R} (hk : k ≤ 5) (hg : tr.good k) (ho : Opened tr r) : GdC r := by
  obtain ⟨β, hG, hβ⟩ := opened_gd k tr r hg ho
  have : 4 ^ k ≤ 4 ^ 5 := Nat.pow_le_pow_right (by decide) hk
  exact ⟨_, _, _, β, hG, by omega⟩
theorem GdC.ask {r : R} (h : GdC r) (m : Nat) (hm : r.tk + m ≤ 2600) : ∃ n r' ans, ∃ m' : Nat, Told n r m r' m' ans ∧ r'.tk + m' = r.tk + m ∧ GdC r' ∧ (ans = .waits → m' = 0) := by
  obtain ⟨bg, u1, u0, β, hG, hβ⟩ := h
  obtain ⟨n, r', ans, m', t0, htk, bg', v1, v0, hG2, hor⟩ := PL.ask hG m (by omega)
  refine ⟨n, r', ans, m', t0, htk, ⟨bg', v1, v0, β, hG2, hβ⟩, fun e => ?_⟩
  rcases hor with ⟨q, h1, _⟩ | ⟨h1, h2, _⟩ | ⟨h1, _⟩ | ⟨h1, _⟩
  · rw [h1] at e; cases e
  · exact h2
  · rw [h1] at e; cases e
  · rw [h1] at e; cases e
inductive Wd where
  | less | same | more | waits | none
def Wd.s : Wd → Str
  | .less => "less"
  | .same => "same"
  | .more => "more"
  | .waits => "waits"
  | .none => "none"
def Ans.stp : Ans → Bool
  | .part _ => true
  | .fin => true
  | _ => false
/-- whether the first of two unlike steps belongs to the greater number -/
def gfB (a b : Ans) (n : Nat) : Bool :=
  decide ((match a, b with
    | .fin, _ => true
    | _, .fin => false
    | .part x, .part y => decide (y < x)
    | _, _ => false) = decide (n % 2 = 0))
inductive Bes (most : Int) : Nat → Nat → R → R → Wd → Prop
  | w1 {i n r s r1 m1} : Told i r (most - r.tk - s.tk) r1 m1 .waits → Bes most 0 n r s .waits
  | n1 {i n r s r1 m1} : Told i r (most - r.tk - s.tk) r1 m1 .none → Bes most 0 n r s .none
  | w2 {i j n r s r1 s1 m1 m2 a} : a.stp = true → Told i r (most - r.tk - s.tk) r1 m1 a → Told j s (most - r1.tk - s.tk) s1 m2 .waits → Bes most 0 n r s .waits
  | n2 {i j n r s r1 s1 m1 m2 a} : a.stp = true → Told i r (most - r.tk - s.tk) r1 m1 a → Told j s (most - r1.tk - s.tk) s1 m2 .none → Bes most 0 n r s .none
  | diff {i j n r s r1 s1 m1 m2 a b} : a.stp = true → b.stp = true → Told i r (most - r.tk - s.tk) r1 m1 a → Told j s (most - r1.tk - s.tk) s1 m2 b → a ≠ b → Bes most 0 n r s (if gfB a b n = true then .more else .less)
  | same {i j n r s r1 s1 m1 m2} : Told i r (most - r.tk - s.tk) r1 m1 .fin → Told j s (most - r1.tk - s.tk) s1 m2 .fin → Bes most 0 n r s .same
  | next {i j d n r s r1 s1 m1 m2 q w} : Told i r (most - r.tk - s.tk) r1 m1 (.part q) → Told j s (most - r1.tk - s.tk) s1 m2 (.part q) → Bes most d (n + 1) r1 s1 w → Bes most (d + 1) n r s w
theorem bes_ex {most : Nat} (hm : most ≤ 2600) : ∀ (P : Nat) (r s : R) (n : Nat), GdC r → GdC s → r.tk + s.tk + P = most → ∃ d w, Bes (most : Int) d n r s w := by
  intro P
  induction P using Nat.strongRecOn with
  | ind P IH =>
    have key : ∀ {r : R} {bg : Bool} {u1 u0 β' m : Nat}, Tt 84 KK r bg u1 u0 β' m → m ≤ P → β' ≤ 60000 → ∀ (s : R) (n : Nat), GdC s → r.tk + s.tk + m = most → ∃ d w, Bes (most : Int) d n r s w := by
      intro r bg u1 u0 β' m t
      induction t with
      | @waits n0 r r' bg k1 k0 β m h1 h2 h3 =>
        intro _ _ s n hs hP
        exact ⟨0, _, .w1 (by rw [show ((most : Int) - r.tk - s.tk) = (m : Int) by omega]; exact h1)⟩
      | @none n0 r r' bg k1 k0 β m m' h0 h1 h2 h3 =>
        intro _ _ s n hs hP
        exact ⟨0, _, .n1 (by rw [show ((most : Int) - r.tk - s.tk) = (m : Int) by omega]; exact h1)⟩
      | @fin n0 r r' bg k1 k0 β m m' h0 h1 h2 h3 =>
        intro _ _ s n hs hP
        have e1 : ((most : Int) - r.tk - s.tk) = (m : Int) := by omega
        have e2 : ((most : Int) - r'.tk - s.tk) = (m' : Int) := by omega
        obtain ⟨n2, s1, ans, m2, t2, htk, hs1, _⟩ := hs.ask m' (by omega)
        rw [← e1] at h1
        rw [← e2] at t2
        cases ans with
        | waits => exact ⟨0, _, .w2 rfl h1 t2⟩
        | none => exact ⟨0, _, .n2 rfl h1 t2⟩
        | fin => exact ⟨0, _, .same h1 t2⟩
        | part q => exact ⟨0, _, .diff rfl rfl h1 t2 (by intro z; cases z)⟩
      | @part n0 r r' bg k1 k0 β q m m' h1 h2 h3 h4 h5 ih =>
        intro hmP hβ s n hs hP
        have e1 : ((most : Int) - r.tk - s.tk) = (m : Int) := by omega
        have e2 : ((most : Int) - r'.tk - s.tk) = (m' : Int) := by omega
        obtain ⟨n2, s1, ans, m2, t2, htk, hs1, _⟩ := hs.ask m' (by omega)
        have hle := t2.tk_le
        have hle2 := h1.tk_le
        rw [← e1] at h1
        rw [← e2] at t2
        cases ans with
        | waits => exact ⟨0, _, .w2 rfl h1 t2⟩
        | none => exact ⟨0, _, .n2 rfl h1 t2⟩
        | fin => exact ⟨0, _, .diff rfl rfl h1 t2 (by intro z; cases z)⟩
        | part q2 =>
          by_cases hq : q = q2
          · subst hq
            by_cases hs0 : s1.tk = s.tk
            · obtain ⟨d, w, hb⟩ := ih (by omega) hβ s1 (n + 1) hs1 (by omega)
              exact ⟨d + 1, w, .next h1 t2 hb⟩
            · obtain ⟨d, w, hb⟩ := IH m2 (by omega) r' s1 (n + 1) ⟨_, _, _, β, h3, hβ⟩ hs1 (by omega)
              exact ⟨d + 1, w, .next h1 t2 hb⟩
          · exact ⟨0, _, .diff rfl rfl h1 t2 (by intro z; cases z; exact hq rfl)⟩
    intro r s n hr hs hP
    obtain ⟨bg, u1, u0, β, hG, hβ⟩ := hr
    have T := total (P := 84) (KM := KK) (by decide) (by decide) r.lv r bg u1 u0 β P (Nat.le_refl _) hG (by omega) (by have : KK = 1048576 := rfl; omega)
    exact key T (Nat.le_refl _) hβ s n hs hP
def inOrd (x y : Int × Int) : List (Int × Int) := if x.1 * y.2 < y.1 * x.2 then [x, y] else [y, x]
def Bi (x : Int) : Prop := x.natAbs < 2 ^ 290400
/-- the nearest fractions on either side; none: it is refused -/
inductive Nea (size most : Int) : Nat → R → Int × Int → Int × Int → Bool → Option (List (Int × Int)) → Prop
  | waits {i r r1 m1 x y g} : Told i r (most - r.tk) r1 m1 .waits → Nea size most 0 r x y g (some [])
  | none {i r r1 m1 x y g} : Told i r (most - r.tk) r1 m1 .none → Nea size most 0 r x y g none
  | fin {i r r1 m1 x y g} : Told i r (most - r.tk) r1 m1 .fin → Nea size most 0 r x y g (some [y])
  | first {i d r r1 m1 q x y o} : Told i r (most - r.tk) r1 m1 (.part q) → Nea size most d r1 x (q, 1) true o → Nea size most (d + 1) r x y false o
  | next {i d r r1 m1 q x y o} : Told i r (most - r.tk) r1 m1 (.part q) → Bi q → Bi y.1 → Bi y.2 → x.2 + q * y.2 ≤ size → Nea size most d r1 y (x.1 + q * y.1, x.2 + q * y.2) true o → Nea size most (d + 1) r x y true o
  | stop {i r r1 m1 q x y} : Told i r (most - r.tk) r1 m1 (.part q) → Bi q → Bi y.1 → Bi y.2 → y.2 ≠ 0 → Bi ((size - x.2).fdiv y.2) → Bi (x.1 + (size - x.2).fdiv y.2 * y.1) → Bi (x.2 + (size - x.2).fdiv y.2 * y.2) → size < x.2 + q * y.2 →
      Nea size most 0 r x y true (some (inOrd y (x.1 + (size - x.2).fdiv y.2 * y.1, x.2 + (size - x.2).fdiv y.2 * y.2)))
def Wd.ok (C : CT) (w : Wd) (Q : AQ) (E : Value → Om → Prop) (Ω : Om) : Prop := match w with
  | .none => E (.ref C.c_NoValue) Ω
  | w => Q (.str w.s) Ω
/-- two readers in one store -/
structure Two (C : CT) (Ω0 : Om) (S1 S2 : List Addr) (Ω : Om) (p : Addr) (r : R) (A : List Addr) (q : Addr) (s : R) (B : List Addr) : Prop where
  r1 : RdO C Ω p r A
  r2 : RdO C Ω q s B
  dj : ∀ b ∈ A, b ∉ B
  n1 : ∀ b ∈ A, b ∈ S1 ∨ b ∈ S2 ∨ Ω0 b = none
  n2 : ∀ b ∈ B, b ∈ S1 ∨ b ∈ S2 ∨ Ω0 b = none
  fr : ∀ b, b ∉ S1 → b ∉ S2 → Ω0 b ≠ none → Ω b = Ω0 b
section
variable {C : CT} {Ω0 Ω Ω' : Om} {S1 S2 A B A' : List Addr} {p q : Addr} {r s r' : R}
theorem Two.start (h1 : RdO C Ω0 p r S1) (h2 : RdO C Ω0 q s S2) (hd : ∀ b ∈ S1, b ∉ S2) : Two C Ω0 S1 S2 Ω0 p r S1 q s S2 := ⟨h1, h2, hd, fun _ h => .inl h, fun _ h => .inr (.inl h), fun _ _ _ _ => rfl⟩
theorem Two.old (t : Two C Ω0 S1 S2 Ω p r A q s B) {b : Addr} (h : Ω b = none) : b ∈ S1 ∨ b ∈ S2 ∨ Ω0 b = none := by
  by_cases h1 : b ∈ S1
  · exact .inl h1
  by_cases h2 : b ∈ S2
  · exact .inr (.inl h2)
  refine .inr (.inr ?_)
  cases e : Ω0 b with
  | none => rfl
  | some o => have := t.fr b h1 h2 (by rw [e]; simp); rw [h, e] at this; cases this
theorem Two.swap (t : Two C Ω0 S1 S2 Ω p r A q s B) : Two C Ω0 S1 S2 Ω q s B p r A := ⟨t.r2, t.r1, fun b h1 h2 => t.dj b h2 h1, t.n2, t.n1, t.fr⟩
theorem Two.fst (t : Two C Ω0 S1 S2 Ω p r A q s B) (h : RdO C Ω' p r' A') (k1 : ∀ b, b ∉ A → Ω b ≠ none → Ω' b = Ω b) (k2 : ∀ b ∈ A', b ∈ A ∨ Ω b = none) : Two C Ω0 S1 S2 Ω' p r' A' q s B := by
  refine ⟨h, t.r2.keep fun b hb => k1 b (fun z => t.dj b z hb) (t.r2.there b hb), fun b h1 h2 => ?_, fun b hb => ?_, t.n2, fun b h1 h2 h3 => ?_⟩
  · rcases k2 b h1 with z | z
    · exact t.dj b z h2
    · exact t.r2.there b h2 z
  · rcases k2 b hb with z | z
    · exact t.n1 b z
    · exact t.old z
  · have e := t.fr b h1 h2 h3
    rw [k1 b (fun z => ?_) (by rw [e]; exact h3), e]
    rcases t.n1 b z with w | w | w
    · exact h1 w
    · exact h2 w
    · exact h3 w
theorem Two.snd (t : Two C Ω0 S1 S2 Ω p r A q s B) {s' : R} {B' : List Addr} (h : RdO C Ω' q s' B') (k1 : ∀ b, b ∉ B → Ω b ≠ none → Ω' b = Ω b) (k2 : ∀ b ∈ B', b ∈ B ∨ Ω b = none) : Two C Ω0 S1 S2 Ω' p r A q s' B' := (t.swap.fst h k1 k2).swap
theorem Two.set (t : Two C Ω0 S1 S2 Ω p r A q s B) {a : Addr} {o : AO} (h1 : a ∉ A) (h2 : a ∉ B) (h3 : a ∈ S1 ∨ a ∈ S2 ∨ Ω0 a = none) : Two C Ω0 S1 S2 (oset Ω a o) p r A q s B := by
  refine ⟨t.r1.keep fun b hb => oset_ne fun e => h1 (by rw [← e]; exact hb), t.r2.keep fun b hb => oset_ne fun e => h2 (by rw [← e]; exact hb), t.dj, t.n1, t.n2, fun b k1 k2 k3 => ?_⟩
  rw [oset_ne (fun e => ?_)]
  · exact t.fr b k1 k2 k3
  · subst e
    rcases h3 with w | w | w
    · exact k1 w
    · exact k2 w
    · exact k3 w
end
/-- the first parts, and how it stopped -/
inductive Hw where
  | parts | fin | waits | none
def Hw.s : Hw → Str
  | .parts => "parts"
  | .fin => "end"
  | .waits => "waits"
  | .none => "none"
inductive Fst (most : Int) : Nat → R → List Int → Hw → Prop
  | stop {r} : Fst most 0 r [] .parts
  | part {i n r r1 m1 q l h} : Told i r (most - r.tk) r1 m1 (.part q) → Fst most n r1 l h → Fst most (n + 1) r (q :: l) h
  | fin {i n r r1 m1} : Told i r (most - r.tk) r1 m1 .fin → Fst most (n + 1) r [] .fin
  | waits {i n r r1 m1} : Told i r (most - r.tk) r1 m1 .waits → Fst most (n + 1) r [] .waits
  | none {i n r r1 m1} : Told i r (most - r.tk) r1 m1 .none → Fst most (n + 1) r [] .none
theorem fst_ex {most : Nat} (hm : most ≤ 2600) : ∀ (n : Nat) (r : R), GdC r → r.tk ≤ most → ∃ l h, Fst (most : Int) n r l h
  | 0, r, _, _ => ⟨_, _, .stop⟩
  | n + 1, r, hr, hk => by
    obtain ⟨i, r1, ans, m', t0, htk, hr1, _⟩ := hr.ask (most - r.tk) (by omega)
    rw [show ((most - r.tk : Nat) : Int) = (most : Int) - r.tk by omega] at t0
    cases ans with
    | part q =>
      obtain ⟨l, h, x⟩ := fst_ex hm n r1 hr1 (by omega)
      exact ⟨_, _, .part t0 x⟩
    | fin => exact ⟨_, _, .fin t0⟩
    | waits => exact ⟨_, _, .waits t0⟩
    | none => exact ⟨_, _, .none t0⟩
theorem Bes.first {most : Int} {d n : Nat} {r s : R} {w : Wd} (h : Bes most d n r s w) : ∃ i r1 m1 a, Told i r (most - r.tk - s.tk) r1 m1 a ∧ ((a = .waits ∧ w = .waits) ∨ (a = .none ∧ w = .none) ∨ (a.stp = true ∧ ∃ j s1 m2 b, Told j s (most - r1.tk - s.tk) s1 m2 b ∧ ((b = .waits ∧ w = .waits) ∨ (b = .none ∧ w = .none) ∨
    (b.stp = true ∧ ((a ≠ b ∧ w = if gfB a b n = true then .more else .less) ∨ (a = .fin ∧ b = .fin ∧ w = .same) ∨ ∃ q d', a = .part q ∧ b = .part q ∧ d = d' + 1 ∧ Bes most d' (n + 1) r1 s1 w))))) := by
  cases h with
  | w1 h => exact ⟨_, _, _, _, h, .inl ⟨rfl, rfl⟩⟩
  | n1 h => exact ⟨_, _, _, _, h, .inr (.inl ⟨rfl, rfl⟩)⟩
  | w2 ha h1 h2 => exact ⟨_, _, _, _, h1, .inr (.inr ⟨ha, _, _, _, _, h2, .inl ⟨rfl, rfl⟩⟩)⟩
  | n2 ha h1 h2 => exact ⟨_, _, _, _, h1, .inr (.inr ⟨ha, _, _, _, _, h2, .inr (.inl ⟨rfl, rfl⟩)⟩)⟩
  | diff ha hb h1 h2 hne => exact ⟨_, _, _, _, h1, .inr (.inr ⟨ha, _, _, _, _, h2, .inr (.inr ⟨hb, .inl ⟨hne, rfl⟩⟩)⟩)⟩
  | same h1 h2 => exact ⟨_, _, _, _, h1, .inr (.inr ⟨rfl, _, _, _, _, h2, .inr (.inr ⟨rfl, .inr (.inl ⟨rfl, rfl, rfl⟩)⟩)⟩)⟩
  | next h1 h2 h => exact ⟨_, _, _, _, h1, .inr (.inr ⟨rfl, _, _, _, _, h2, .inr (.inr ⟨rfl, .inr (.inr ⟨_, _, rfl, rfl, rfl, h⟩)⟩)⟩)⟩
def pick (w : Wd) (x y : Int × Int) : Option (Option (Int × Int)) := match w with
  | .none => none
  | .waits => some none
  | .less => some (some x)
  | .same => some (some (if x.2 ≤ y.2 then x else y))
  | .more => some (some y)
/-- the nearest fraction: none where it is refused, some none where it waits -/
inductive Nst (most : Int) (r : R) : Option (List (Int × Int)) → Option (Option (Int × Int)) → Prop
  | none : Nst most r none none
  | nil : Nst most r (some []) (some none)
  | one {x} : Nst most r (some [x]) (some (some x))
  | eq {x} : Nst most r (some [x, x]) (some (some x))
  | two {x y d w} : x ≠ y → Bi x.1 → Bi x.2 → Bi y.1 → Bi y.2 → Bi (2 * x.2) → Bes most d 0 r (.fixed (x.1 * y.2 + y.1 * x.2) (2 * x.2 * y.2) false) w → Nst most r (some [x, y]) (pick w x y)
end PL
namespace PL
open PySem L2
/-- one asking, and how great the part may be -/
theorem askq {r : R} {bg : Bool} {k1 k0 β : Nat} (h : Gd 84 KK r bg k1 k0 β) (m : Nat) (hB : 84 * (r.tk + m) + β < 290000) : ∃ n r' ans, ∃ m' : Nat, Told n r m r' m' ans ∧ r'.tk + m' = r.tk + m ∧ ∃ bg' k1' k0', Gd 84 KK r' bg' k1' k0' β ∧
    ((∃ q, ans = .part q ∧ (bg = true → 1 ≤ q) ∧ bg' = true ∧ q.natAbs ≤ 2 ^ (84 * r'.tk + β)) ∨ (ans = .waits ∧ m' = 0) ∨ ans = .fin ∨ ans = .none) := by
  have t := total (P := 84) (KM := KK) (by decide) (by decide) r.lv r bg k1 k0 β m (Nat.le_refl _) h hB (by have : KK = 1048576 := rfl; omega)
  cases t with
  | @part n _ r' _ _ _ _ q _ m' h1 h2 h3 h4 h5 =>
    refine ⟨_, _, _, _, h1, h5, _, _, _, h3, .inl ⟨_, rfl, h2, rfl, ?_⟩⟩
    have hb := h3.bd
    have p1 := h.bd.2.1
    have : q.natAbs ≤ (gs bg k1 k0 q).1 := by
      unfold gs
      cases bg with
      | true =>
        simp only [if_true]
        have := h2 rfl
        have := Nat.le_mul_of_pos_left q.toNat (show 0 < k1 by omega)
        omega
      | false => simp only [Bool.false_eq_true, if_false]; split <;> simp only <;> omega
    omega
  | waits h1 h2 h3 => exact ⟨_, _, _, 0, h1, by omega, _, _, _, h2, .inr (.inl ⟨rfl, rfl⟩)⟩
  | fin h0 h1 h2 h3 => exact ⟨_, _, _, _, h1, h3, _, _, _, h2, .inr (.inr (.inl rfl))⟩
  | none h0 h1 h2 h3 => exact ⟨_, _, _, _, h1, h3, _, _, _, h2, .inr (.inr (.inr rfl))⟩
/-- .. with more room -/
def GdW (r : R) : Prop := ∃ bg u1 u0 β, Gd 84 KK r bg u1 u0 β ∧ β ≤ 100000
theorem GdC.w {r : R} (h : GdC r) : GdW r := by
  obtain ⟨bg, u1, u0, β, hG, hβ⟩ := h
  exact ⟨bg, u1, u0, β, hG, by omega⟩
theorem GdW.ask {r : R} (h : GdW r) (m : Nat) (hm : r.tk + m ≤ 2200) : ∃ n r' ans, ∃ m' : Nat, Told n r m r' m' ans ∧ r'.tk + m' = r.tk + m ∧ GdW r' ∧ (ans = .waits → m' = 0) := by
  obtain ⟨bg, u1, u0, β, hG, hβ⟩ := h
  obtain ⟨n, r', ans, m', t0, htk, bg', v1, v0, hG2, hor⟩ := PL.ask hG m (by omega)
  refine ⟨n, r', ans, m', t0, htk, ⟨bg', v1, v0, β, hG2, hβ⟩, fun e => ?_⟩
  rcases hor with ⟨q, h1, _⟩ | ⟨h1, h2, _⟩ | ⟨h1, _⟩ | ⟨h1, _⟩
  · rw [h1] at e; cases e
  · exact h2
  · rw [h1] at e; cases e
  · rw [h1] at e; cases e
theorem bes_exW {most : Nat} (hm : most ≤ 2200) : ∀ (P : Nat) (r s : R) (n : Nat), GdW r → GdW s → r.tk + s.tk + P = most → ∃ d w, Bes (most : Int) d n r s w := by
  intro P
  induction P using Nat.strongRecOn with
  | ind P IH =>
    have key : ∀ {r : R} {bg : Bool} {u1 u0 β' m : Nat}, Tt 84 KK r bg u1 u0 β' m → m ≤ P → β' ≤ 100000 → ∀ (s : R) (n : Nat), GdW s → r.tk + s.tk + m = most → ∃ d w, Bes (most : Int) d n r s w := by
      intro r bg u1 u0 β' m t
      induction t with
      | @waits n0 r r' bg k1 k0 β m h1 h2 h3 =>
        intro _ _ s n hs hP
        exact ⟨0, _, .w1 (by rw [show ((most : Int) - r.tk - s.tk) = (m : Int) by omega]; exact h1)⟩
      | @none n0 r r' bg k1 k0 β m m' h0 h1 h2 h3 =>
        intro _ _ s n hs hP
        exact ⟨0, _, .n1 (by rw [show ((most : Int) - r.tk - s.tk) = (m : Int) by omega]; exact h1)⟩
      | @fin n0 r r' bg k1 k0 β m m' h0 h1 h2 h3 =>
        intro _ _ s n hs hP
        have e1 : ((most : Int) - r.tk - s.tk) = (m : Int) := by omega
        have e2 : ((most : Int) - r'.tk - s.tk) = (m' : Int) := by omega
        obtain ⟨n2, s1, ans, m2, t2, htk, hs1, _⟩ := hs.ask m' (by omega)
        rw [← e1] at h1
        rw [← e2] at t2
        cases ans with
        | waits => exact ⟨0, _, .w2 rfl h1 t2⟩
        | none => exact ⟨0, _, .n2 rfl h1 t2⟩
        | fin => exact ⟨0, _, .same h1 t2⟩
        | part q => exact ⟨0, _, .diff rfl rfl h1 t2 (by intro z; cases z)⟩
      | @part n0 r r' bg k1 k0 β q m m' h1 h2 h3 h4 h5 ih =>
        intro hmP hβ s n hs hP
        have e1 : ((most : Int) - r.tk - s.tk) = (m : Int) := by omega
        have e2 : ((most : Int) - r'.tk - s.tk) = (m' : Int) := by omega
        obtain ⟨n2, s1, ans, m2, t2, htk, hs1, _⟩ := hs.ask m' (by omega)
        have hle := t2.tk_le
        have hle2 := h1.tk_le
        rw [← e1] at h1
        rw [← e2] at t2
        cases ans with
        | waits => exact ⟨0, _, .w2 rfl h1 t2⟩
        | none => exact ⟨0, _, .n2 rfl h1 t2⟩
        | fin => exact ⟨0, _, .diff rfl rfl h1 t2 (by intro z; cases z)⟩
        | part q2 =>
          by_cases hq : q = q2
          · subst hq
            by_cases hs0 : s1.tk = s.tk
            · obtain ⟨d, w, hb⟩ := ih (by omega) hβ s1 (n + 1) hs1 (by omega)
              exact ⟨d + 1, w, .next h1 t2 hb⟩
            · obtain ⟨d, w, hb⟩ := IH m2 (by omega) r' s1 (n + 1) ⟨_, _, _, β, h3, hβ⟩ hs1 (by omega)
              exact ⟨d + 1, w, .next h1 t2 hb⟩
          · exact ⟨0, _, .diff rfl rfl h1 t2 (by intro z; cases z; exact hq rfl)⟩
    intro r s n hr hs hP
    obtain ⟨bg, u1, u0, β, hG, hβ⟩ := hr
    have T := total (P := 84) (KM := KK) (by decide) (by decide) r.lv r bg u1 u0 β P (Nat.le_refl _) hG (by omega) (by have : KK = 1048576 := rfl; omega)
    exact key T (Nat.le_refl _) hβ s n hs hP
/-- a fraction of its own, within bounds -/
theorem fixed_w {t b : Int} {e : Nat} (he : e ≤ 99000) (ht : t.natAbs ≤ 2 ^ e) (hb : b.natAbs ≤ 2 ^ e) : GdW (.fixed t b false) := by
  have e1 : 2 ^ (e + 10) = 2 ^ e * 1024 := by rw [Nat.pow_add]
  have e2 : 1 ≤ 2 ^ e := Nat.one_le_two_pow
  refine ⟨false, 1, 4, e + 10, .fixed ?_ (by decide) (by decide) (by omega) (fun _ => ⟨rfl, rfl⟩) (fun z => by cases z), by omega⟩
  unfold Ls
  omega
def CB (B : Nat) (x y : Int × Int) : Prop := 0 ≤ x.2 ∧ 1 ≤ y.2 ∧ y.2 ≤ 60 ∧ x.2 ≤ y.2 ∧ (x.1 * y.2 - y.1 * x.2 = 1 ∨ x.1 * y.2 - y.1 * x.2 = -1) ∧ y.1.natAbs ≤ B * y.2.natAbs ∧ (x.1.natAbs ≤ B * x.2.natAbs ∨ (x.1 = 1 ∧ x.2 = 0 ∧ y.1.natAbs + 1 ≤ B * y.2.natAbs))
theorem mul_abs_le {q y : Int} {B : Nat} {z : Int} (hq : 0 ≤ q) (hz : 0 ≤ z) (h : y.natAbs ≤ B * z.natAbs) : (q * y).natAbs ≤ B * (q * z).natAbs := by
  rw [Int.natAbs_mul, Int.natAbs_mul, Nat.mul_left_comm]
  exact Nat.mul_le_mul_left _ h
theorem CB.next {B : Nat} {x y : Int × Int} (h : CB B x y) {q : Int} (hq : 1 ≤ q) (hs : x.2 + q * y.2 ≤ 60) : CB B y (x.1 + q * y.1, x.2 + q * y.2) ∧ x.2 + y.2 < y.2 + (x.2 + q * y.2) := by
  obtain ⟨h1, h2, h3, h4, h5, h6, h7⟩ := h
  obtain ⟨x1, x2⟩ := x
  obtain ⟨y1, y2⟩ := y
  simp only at *
  have e1 : y2 ≤ q * y2 := by
    have := Int.mul_le_mul_of_nonneg_right hq (show 0 ≤ y2 by omega)
    omega
  have e2 : (x2 + q * y2).natAbs = x2.natAbs + (q * y2).natAbs := by omega
  have e3 := mul_abs_le (q := q) (by omega) (by omega) h6
  refine ⟨⟨by omega, by omega, by omega, by omega, ?_, ?_, .inl h6⟩, by omega⟩
  · have : y1 * (x2 + q * y2) - (x1 + q * y1) * y2 = -(x1 * y2 - y1 * x2) := by grind
    rw [this]
    omega
  · rw [e2, Nat.mul_add]
    have e4 := Int.natAbs_add_le x1 (q * y1)
    rcases h7 with h7 | ⟨rfl, rfl, h7⟩
    · omega
    · have e5 : (q * y1).natAbs + 1 ≤ B * (q * y2).natAbs := by
        rw [Int.natAbs_mul, Int.natAbs_mul, Nat.mul_left_comm]
        have := Nat.mul_le_mul_left q.natAbs h7
        rw [Nat.mul_add] at this
        omega
      omega
theorem bi_of {x : Int} {e : Nat} (h : x.natAbs ≤ 2 ^ e) (he : e < 290400) : Bi x := by
  unfold Bi
  exact Nat.lt_of_le_of_lt h (Nat.pow_lt_pow_right (by decide) he)
structure Szd (e : Nat) (x : Int × Int) : Prop where
  t : x.1.natAbs ≤ 2 ^ e
  b : 0 < x.2
  b2 : x.2 ≤ 60
/-- what is found: two that are told apart, or one -/
def OkO (e : Nat) : Option (List (Int × Int)) → Prop
  | none => True
  | some [] => True
  | some [_] => True
  | some [x, y] => Szd e x ∧ Szd e y ∧ x ≠ y
  | _ => False
theorem CB.szd {B e : Nat} {x y : Int × Int} (h : CB B x y) (hB : B * 64 ≤ 2 ^ e) : Szd e y := by
  obtain ⟨h1, h2, h3, h4, h5, h6, h7⟩ := h
  refine ⟨Nat.le_trans h6 (Nat.le_trans (Nat.mul_le_mul_left B (show y.2.natAbs ≤ 64 by omega)) hB), by omega, h3⟩
theorem CB.abs {B e : Nat} {x y : Int × Int} (h : CB B x y) (hB : B * 64 ≤ 2 ^ e) (hB1 : 1 ≤ B) : x.1.natAbs ≤ 2 ^ e := by
  obtain ⟨h1, h2, h3, h4, h5, h6, h7⟩ := h
  rcases h7 with h7 | ⟨h7, _, _⟩
  · exact Nat.le_trans h7 (Nat.le_trans (Nat.mul_le_mul_left B (show x.2.natAbs ≤ 64 by omega)) hB)
  · rw [h7]
    show 1 ≤ _
    exact Nat.one_le_two_pow
theorem inOrd_ok {e : Nat} {x y : Int × Int} (hx : Szd e x) (hy : Szd e y) (hne : x ≠ y) : OkO e (some (inOrd x y)) := by
  unfold inOrd
  split
  · exact ⟨hx, hy, hne⟩
  · exact ⟨hy, hx, fun z => hne z.symm⟩
theorem fdiv_small {a b : Int} (h0 : 0 ≤ a) (h1 : a ≤ 60) (hb : 1 ≤ b) : 0 ≤ a.fdiv b ∧ a.fdiv b ≤ 60 := by
  rw [Int.fdiv_eq_ediv_of_nonneg _ (by omega)]
  exact ⟨Int.ediv_nonneg h0 (by omega), Int.le_trans (Int.ediv_le_self b h0) h1⟩
theorem fuel_lt {a b c : Int} {n : Nat} (ha : 0 ≤ a) (hb : 1 ≤ b) (h : 200 - (a + b).toNat ≤ n + 1) (hlt : a + b < c) (hc : c ≤ 120) : 200 - c.toNat ≤ n := by omega
theorem nea_go {most size : Nat} (hm : most ≤ 450) (hs : size ≤ 60) {B β E : Nat} (hβ : β ≤ 51200) (hE : E ≤ 89100) (hB : B * 64 ≤ 2 ^ E) (hB1 : 1 ≤ B) : ∀ (n : Nat) (r : R) (x y : Int × Int) (k1 k0 : Nat), Gd 84 KK r true k1 k0 β → r.tk ≤ most → CB B x y → y.2 ≤ size → 200 - (x.2 + y.2).toNat ≤ n → ∃ d o, Nea (size : Int) (most : Int) d r x y true o ∧ OkO (E + 10) o := by
  intro n
  induction n with
  | zero =>
    intro r x y k1 k0 hG hk hC hy hn
    obtain ⟨h1, h2, h3, h4, h5, h6, h7⟩ := hC
    omega
  | succ n ih =>
    intro r x y k1 k0 hG hk hC hy hn
    have e1 : ((most - r.tk : Nat) : Int) = (most : Int) - r.tk := by omega
    obtain ⟨i, r1, ans, m', t0, htk, bg', v1, v0, hG2, hor⟩ := askq hG (most - r.tk) (by omega)
    rw [e1] at t0
    rcases hor with ⟨q, rfl, hq, rfl, hqb⟩ | ⟨rfl, _⟩ | rfl | rfl
    · have hq1 := hq rfl
      have hqB : Bi q := bi_of hqb (by omega)
      have hys := hC.szd hB
      have hxs := hC.abs hB hB1
      have yb : Bi y.1 := bi_of hys.t (by omega)
      have h1 := hC.1
      have h2 := hC.2.1
      have h3 := hC.2.2.1
      have y2 : Bi y.2 := bi_of (e := 64) (by omega) (by decide)
      by_cases hle : x.2 + q * y.2 ≤ size
      · obtain ⟨hC2, hlt⟩ := hC.next hq1 (by omega)
        obtain ⟨d, o, hN, hO⟩ := ih r1 y _ v1 v0 hG2 (by omega) hC2 hle (fuel_lt h1 h2 hn hlt (by omega))
        exact ⟨d + 1, o, .next t0 hqB yb y2 hle hN, hO⟩
      · obtain ⟨u, hu⟩ : ∃ u, u = ((size : Int) - x.2).fdiv y.2 := ⟨_, rfl⟩
        have hdet := hC.2.2.2.2.1
        have hx2 := hC.2.2.2.1
        have hE0 : (size : Int) - x.2 = u * y.2 + ((size : Int) - x.2).fmod y.2 := by
          have := Int.mul_fdiv_add_fmod ((size : Int) - x.2) y.2
          rw [← hu, Int.mul_comm] at this
          omega
        have f0 : 0 ≤ ((size : Int) - x.2).fmod y.2 := Int.fmod_nonneg_of_pos _ (by omega)
        have f1 : ((size : Int) - x.2).fmod y.2 < y.2 := Int.fmod_lt_of_pos _ (by omega)
        have u0 : 0 ≤ u ∧ u ≤ 60 := by
          rw [hu]
          exact fdiv_small (by omega) (by omega) h2
        have ob : x.2 + u * y.2 = (size : Int) - ((size : Int) - x.2).fmod y.2 := by omega
        have obt : (x.1 + u * y.1).natAbs ≤ 2 ^ (E + 10) := by
          have a1 := Int.natAbs_add_le x.1 (u * y.1)
          have a2 : (u * y.1).natAbs ≤ 60 * 2 ^ E := by
            rw [Int.natAbs_mul]
            exact Nat.mul_le_mul (by omega) hys.t
          rw [Nat.pow_add]
          omega
        have so : Szd (E + 10) (x.1 + u * y.1, x.2 + u * y.2) := ⟨obt, by simp only; omega, by simp only; omega⟩
        have ne : y ≠ (x.1 + u * y.1, x.2 + u * y.2) := fun e => by
          have g1 : y.1 = x.1 + u * y.1 := congrArg Prod.fst e
          have g2 : y.2 = x.2 + u * y.2 := congrArg Prod.snd e
          have g3 : x.1 * y.2 - y.1 * x.2 = 0 := by
            have g4 : x.1 = y.1 - u * y.1 := by omega
            have g5 : x.2 = y.2 - u * y.2 := by omega
            rw [g4, g5]
            grind
          omega
        have hN := Nea.stop (size := (size : Int)) (most := (most : Int)) t0 hqB yb y2 (by omega) (hu ▸ bi_of (e := 64) (by omega) (by decide)) (hu ▸ bi_of obt (by omega)) (hu ▸ bi_of (e := 64) (by omega) (by decide)) (by omega)
        rw [← hu] at hN
        exact ⟨0, _, hN, inOrd_ok ⟨Nat.le_trans hys.t (Nat.pow_le_pow_right (by decide) (by omega)), hys.b, hys.b2⟩ so ne⟩
    · exact ⟨0, _, .waits t0, True.intro⟩
    · exact ⟨0, _, .fin t0, True.intro⟩
    · exact ⟨0, _, .none t0, True.intro⟩
theorem cb_first {B : Nat} {q : Int} (h : q.natAbs + 1 ≤ B) : CB B (1, 0) (q, 1) :=
  ⟨by show (0 : Int) ≤ 0; decide, by show (1 : Int) ≤ 1; decide, by show (1 : Int) ≤ 60; decide, by show (0 : Int) ≤ 1; decide, .inl (by show (1 : Int) * 1 - q * 0 = 1; omega), by show q.natAbs ≤ B * 1; omega, .inr ⟨rfl, rfl, by show q.natAbs + 1 ≤ B * 1; omega⟩⟩
/-- the nearest fractions on either side are found -/
theorem nea_ex {most size : Nat} (hm : most ≤ 450) (h1 : 1 ≤ size) (hs : size ≤ 60) {r : R} {β : Nat} (hG : Gd 84 KK r false 1 4 β) (hβ : β ≤ 51200) (hk : r.tk = 0) : ∃ d o, Nea (size : Int) (most : Int) d r (1, 0) (0, 1) false o ∧ OkO 89110 o := by
  have e1 : ((most - r.tk : Nat) : Int) = (most : Int) - r.tk := by omega
  obtain ⟨i, r1, ans, m', t0, htk, bg', v1, v0, hG2, hor⟩ := askq hG (most - r.tk) (by omega)
  rw [e1] at t0
  rcases hor with ⟨q, rfl, hq, rfl, hqb⟩ | ⟨rfl, _⟩ | rfl | rfl
  · have hE : 84 * r1.tk + β ≤ 89000 := by omega
    have hp : 2 ^ (84 * r1.tk + β) ≤ 2 ^ 89000 := Nat.pow_le_pow_right (by decide) hE
    obtain ⟨E, hE0⟩ : ∃ E, E = 89000 := ⟨_, rfl⟩
    rw [← hE0] at hp
    have hE2 : E + 100 ≤ 89100 := by omega
    have hqE : q.natAbs ≤ 2 ^ E := Nat.le_trans hqb hp
    clear hp hqb
    have p1 : 1 ≤ 2 ^ E := Nat.one_le_two_pow
    have p2 : 2 ^ (E + 100) = 2 ^ E * 1267650600228229401496703205376 := by rw [Nat.pow_add]
    obtain ⟨d, o, hN, hO⟩ := nea_go (size := size) (B := 2 ^ E + 1) hm hs hβ hE2 (by omega) (by omega) 200 r1 (1, 0) (q, 1) v1 v0 hG2 (by omega) (cb_first (by omega)) (by simp only; omega) (by omega)
    refine ⟨d + 1, o, .first t0 hN, ?_⟩
    rw [hE0] at hO
    exact hO
  · exact ⟨0, _, .waits t0, True.intro⟩
  · exact ⟨0, _, .fin t0, True.intro⟩
  · exact ⟨0, _, .none t0, True.intro⟩
/-- .. and the nearest one -/
theorem nst_ex {most : Nat} (hm : most ≤ 450) {r : R} (hr : GdW r) (hk : r.tk = 0) {o : Option (List (Int × Int))} (hO : OkO 89110 o) : ∃ v, Nst (most : Int) r o v := by
  match o, hO with
  | none, _ => exact ⟨_, .none⟩
  | some [], _ => exact ⟨_, .nil⟩
  | some [x], _ => exact ⟨_, .one⟩
  | some [x, y], ⟨hx, hy, hne⟩ =>
    obtain ⟨E, hE⟩ : ∃ E, E = 89110 := ⟨_, rfl⟩
    rw [← hE] at hx hy
    have e1 : (x.1 * y.2 + y.1 * x.2).natAbs ≤ 2 ^ (E + 10) := by
      have a1 := Int.natAbs_add_le (x.1 * y.2) (y.1 * x.2)
      have a2 : (x.1 * y.2).natAbs ≤ 2 ^ E * 60 := by
        rw [Int.natAbs_mul]
        exact Nat.mul_le_mul hx.t (by have := hy.b; have := hy.b2; omega)
      have a3 : (y.1 * x.2).natAbs ≤ 2 ^ E * 60 := by
        rw [Int.natAbs_mul]
        exact Nat.mul_le_mul hy.t (by have := hx.b; have := hx.b2; omega)
      rw [Nat.pow_add]
      omega
    have e2 : (2 * x.2 * y.2).natAbs ≤ 2 ^ (E + 10) := by
      have a1 : (2 * x.2 * y.2).natAbs ≤ 120 * 60 := by
        rw [Int.natAbs_mul]
        exact Nat.mul_le_mul (by have := hx.b; have := hx.b2; omega) (by have := hy.b; have := hy.b2; omega)
      have a2 : 2 ^ 20 ≤ 2 ^ (E + 10) := Nat.pow_le_pow_right (by decide) (by omega)
      omega
    obtain ⟨d, w, hB⟩ := bes_exW (most := most) (by omega) most r (.fixed (x.1 * y.2 + y.1 * x.2) (2 * x.2 * y.2) false) 0 hr (fixed_w (e := E + 10) (by omega) e1 e2) (by rw [hk]; simp [R.tk])
    exact ⟨_, .two hne (bi_of hx.t (by omega)) (bi_of (e := 64) (by have := hx.b; have := hx.b2; omega) (by decide)) (bi_of hy.t (by omega)) (bi_of (e := 64) (by have := hy.b; have := hy.b2; omega) (by decide)) (bi_of (e := 64) (by have := hx.b; have := hx.b2; omega) (by decide)) hB⟩
end PL
namespace PL
abbrev T3 := Int × Int × Int
theorem sqNN (x : Int) : 0 ≤ x * x := by
  rcases Int.le_total 0 x with h | h
  · exact Int.mul_nonneg h h
  · exact Int.mul_nonneg_of_nonpos_of_nonpos h h
/-- the greatest whole number whose square is no greater -/
def isqN : Nat → Nat
  | 0 => 0
  | n + 1 => if (isqN n + 1) * (isqN n + 1) ≤ n + 1 then isqN n + 1 else isqN n
def isq (n : Int) : Int := (isqN n.toNat : Nat)
theorem isqN_spec : ∀ n : Nat, isqN n * isqN n ≤ n ∧ n < (isqN n + 1) * (isqN n + 1)
  | 0 => by simp [isqN]
  | n + 1 => by
    obtain ⟨h1, h2⟩ := isqN_spec n
    unfold isqN
    split
    · rename_i h
      refine ⟨h, ?_⟩
      have : (isqN n + 1 + 1) * (isqN n + 1 + 1) = (isqN n + 1) * (isqN n + 1) + 2 * isqN n + 3 := by grind
      omega
    · omega
theorem isq_spec {n : Int} (h : 0 ≤ n) : 0 ≤ isq n ∧ isq n * isq n ≤ n ∧ n < (isq n + 1) * (isq n + 1) := by
  obtain ⟨m, rfl⟩ := Int.eq_ofNat_of_zero_le h
  obtain ⟨h1, h2⟩ := isqN_spec m
  unfold isq
  rw [Int.toNat_natCast]
  refine ⟨by omega, ?_, ?_⟩
  · exact_mod_cast h1
  · exact_mod_cast h2
/-- x no greater than a root of s -/
theorem le_isq {s g : Int} (h0 : 0 ≤ g) (h1 : g * g ≤ s) (h2 : s < (g + 1) * (g + 1)) (z : Int) : z ≤ g ↔ z ≤ 0 ∨ z * z ≤ s := by
  constructor
  · intro h
    rcases Int.lt_or_le 0 z with w | w
    · have : z * z ≤ g * g := Int.mul_le_mul h h (by omega) h0
      exact .inr (by omega)
    · exact .inl w
  · rintro (h | h)
    · omega
    · rcases Int.lt_or_le g z with w | w
      · have : (g + 1) * (g + 1) ≤ z * z := Int.mul_le_mul (by omega) (by omega) (by omega) (by omega)
        omega
      · exact w
theorem isq_uniq {s g : Int} (h0 : 0 ≤ g) (h1 : g * g ≤ s) (h2 : s < (g + 1) * (g + 1)) : isq s = g := by
  have hs : 0 ≤ s := by have := Int.mul_nonneg h0 h0; omega
  obtain ⟨k0, k1, k2⟩ := isq_spec hs
  have a1 := (le_isq h0 h1 h2 (isq s)).mpr (.inr k1)
  have a2 := (le_isq k0 k1 k2 g).mpr (.inr h1)
  omega
theorem isq_scale {s g f k : Int} (hk : 0 < k) (g0 : 0 ≤ g) (g1 : g * g ≤ s) (g2 : s < (g + 1) * (g + 1)) (f0 : 0 ≤ f) (f1 : f * f ≤ k * k * s) (f2 : k * k * s < (f + 1) * (f + 1)) (z : Int) : z ≤ g ↔ k * z ≤ f := by
  rw [le_isq g0 g1 g2, le_isq f0 f1 f2]
  have e : k * z * (k * z) = k * k * (z * z) := by grind
  have hkk : 0 < k * k := Int.mul_pos hk hk
  rw [e]
  constructor
  · rintro (h | h)
    · exact .inl (Int.mul_nonpos_of_nonneg_of_nonpos (Int.le_of_lt hk) h)
    · exact .inr (Int.mul_le_mul_of_nonneg_left h (Int.le_of_lt hkk))
  · rintro (h | h)
    · left
      rcases Int.lt_or_le 0 z with w | w
      · have := Int.mul_pos hk w; omega
      · exact w
    · exact .inr (Int.le_of_mul_le_mul_left h hkk)
theorem le_fdiv_pos {x c y : Int} (hc : 0 < c) : y ≤ x.fdiv c ↔ y * c ≤ x := by
  have e := Int.mul_fdiv_add_fmod x c
  have h1 := Int.fmod_nonneg_of_pos x hc
  have h2 := Int.fmod_lt_of_pos x hc
  generalize x.fdiv c = q at *
  constructor
  · intro h
    have := Int.mul_le_mul_of_nonneg_right h (Int.le_of_lt hc)
    have e2 : q * c = c * q := Int.mul_comm ..
    omega
  · intro h
    rcases Int.lt_or_le q y with w | w
    · have := Int.mul_le_mul_of_nonneg_right (show q + 1 ≤ y by omega) (Int.le_of_lt hc)
      have e2 : (q + 1) * c = c * q + c := by grind
      omega
    · exact w
theorem le_fdiv_neg {x c y : Int} (hc : c < 0) : y ≤ x.fdiv c ↔ x ≤ y * c := by
  have e := Int.mul_fdiv_add_fmod x c
  obtain ⟨h1, h2⟩ := fmod_neg' (t := x) hc
  generalize x.fdiv c = q at *
  constructor
  · intro h
    have := Int.mul_le_mul_of_nonpos_right h (Int.le_of_lt hc)
    have e2 : q * c = c * q := Int.mul_comm ..
    omega
  · intro h
    rcases Int.lt_or_le q y with w | w
    · have := Int.mul_le_mul_of_nonpos_right (show q + 1 ≤ y by omega) (Int.le_of_lt hc)
      have e2 : (q + 1) * c = c * q + c := by grind
      omega
    · exact w
def gcd3 (x y z : Int) : Nat := Int.gcd ((Int.gcd x y : Nat) : Int) z
def madeT (x y z : Int) : T3 := (x.fdiv (if z < 0 then 0 - (gcd3 x y z : Int) else gcd3 x y z), y.fdiv (if z < 0 then 0 - (gcd3 x y z : Int) else gcd3 x y z), z.fdiv (if z < 0 then 0 - (gcd3 x y z : Int) else gcd3 x y z))
structure Nm (p : T3) : Prop where
  pos : 0 < p.2.2
  one : gcd3 p.1 p.2.1 p.2.2 = 1
theorem gcd3_mul (k a b c : Int) : gcd3 (k * a) (k * b) (k * c) = k.natAbs * gcd3 a b c := by
  unfold gcd3
  rw [Int.gcd_mul_left]
  have e : ((k.natAbs * Int.gcd a b : Nat) : Int) = (k.natAbs : Int) * (Int.gcd a b : Nat) := by simp
  have e2 : Int.gcd ((k.natAbs : Int) * (Int.gcd a b : Nat)) (k * c) = Int.gcd (k * (Int.gcd a b : Nat)) (k * c) := by
    rcases Int.natAbs_eq k with h | h
    · conv => lhs; rw [show ((k.natAbs : Int)) = k from h.symm]
    · have : (k.natAbs : Int) = -k := by omega
      rw [this, Int.neg_mul, Int.neg_gcd]
  rw [e, e2, Int.gcd_mul_left]
theorem gcd3_dvd (x y z : Int) : ((gcd3 x y z : Nat) : Int) ∣ x ∧ ((gcd3 x y z : Nat) : Int) ∣ y ∧ ((gcd3 x y z : Nat) : Int) ∣ z := by
  unfold gcd3
  have h1 : ((Int.gcd ((Int.gcd x y : Nat) : Int) z : Nat) : Int) ∣ ((Int.gcd x y : Nat) : Int) := Int.gcd_dvd_left ..
  exact ⟨Int.dvd_trans h1 (Int.gcd_dvd_left ..), Int.dvd_trans h1 (Int.gcd_dvd_right ..), Int.gcd_dvd_right ..⟩
theorem dvd_gcd3 {c x y z : Int} (h1 : c ∣ x) (h2 : c ∣ y) (h3 : c ∣ z) : c ∣ (gcd3 x y z : Nat) := by
  unfold gcd3
  exact Int.dvd_coe_gcd (Int.dvd_coe_gcd h1 h2) h3
theorem madeT_spec {x y z : Int} (hz : z ≠ 0) : ∃ g : Int, g ≠ 0 ∧ x = g * (madeT x y z).1 ∧ y = g * (madeT x y z).2.1 ∧ z = g * (madeT x y z).2.2 ∧ Nm (madeT x y z) := by
  obtain ⟨⟨a, ha⟩, ⟨b, hb⟩, ⟨c, hc⟩⟩ := gcd3_dvd x y z
  have g0 : 0 < gcd3 x y z := Int.gcd_pos_of_ne_zero_right _ hz
  have hg : gcd3 x y z = (gcd3 x y z) * gcd3 a b c := by
    have := gcd3_mul (gcd3 x y z) a b c
    rw [← ha, ← hb, ← hc] at this
    simpa using this
  have one : gcd3 a b c = 1 := Nat.eq_of_mul_eq_mul_left g0 (by rw [← hg, Nat.mul_one])
  unfold madeT
  generalize gcd3 x y z = g at *
  by_cases e : z < 0
  · rw [if_pos e]
    have hcn : c < 0 := by
      rcases Int.lt_or_le c 0 with w | w
      · exact w
      · have := Int.mul_nonneg (show (0 : Int) ≤ g by omega) w; omega
    have f : ∀ u v : Int, u = (g : Int) * v → u.fdiv (0 - (g : Int)) = -v := fun u v h => by
      rw [h, show (g : Int) * v = (0 - (g : Int)) * (-v) by grind, Int.mul_fdiv_cancel_left _ (by omega)]
    rw [f x a ha, f y b hb, f z c hc]
    refine ⟨-(g : Int), by omega, by simp only; grind, by simp only; grind, by simp only; grind, ⟨by simp only; omega, ?_⟩⟩
    have := gcd3_mul (-1) a b c
    simp only [Int.neg_mul, Int.one_mul] at this
    simp only
    rw [this, one]
    rfl
  · rw [if_neg e]
    have hcp : 0 < c := by
      rcases Int.lt_trichotomy c 0 with w | w | w
      · have := Int.mul_neg_of_pos_of_neg (show (0 : Int) < g by omega) w; omega
      · rw [w, Int.mul_zero] at hc; exact absurd hc hz
      · exact w
    have f : ∀ u v : Int, u = (g : Int) * v → u.fdiv (g : Int) = v := fun u v h => by rw [h, Int.mul_fdiv_cancel_left _ (by omega)]
    rw [f x a ha, f y b hb, f z c hc]
    exact ⟨(g : Int), by omega, ha, hb, hc, ⟨hcp, one⟩⟩
/-- the same number, told by t, m and β -/
structure Px (p : T3) (t m β : Int) : Prop where
  one : p.1 * β = t * p.2.2
  two : p.2.1 * β = m * p.2.2
  ne : β ≠ 0
theorem Px.k {p : T3} {t m β : Int} (hp : Nm p) (h : Px p t m β) : ∃ k : Int, k ≠ 0 ∧ t = k * p.1 ∧ m = k * p.2.1 ∧ β = k * p.2.2 := by
  obtain ⟨h1, h2, h3⟩ := h
  obtain ⟨hc, hg⟩ := hp
  obtain ⟨a, b, c⟩ := p
  simp only at *
  have d1 : c ∣ (gcd3 (β * a) (β * b) (β * c) : Nat) := dvd_gcd3 ⟨t, by grind⟩ ⟨m, by grind⟩ ⟨β, by grind⟩
  rw [gcd3_mul, hg, Nat.mul_one] at d1
  have d2 : c ∣ β := by
    rcases Int.natAbs_eq β with w | w
    · rw [w]; exact d1
    · rw [w]; exact Int.dvd_neg.mpr d1
  obtain ⟨k, hk⟩ := d2
  have hcc : c ≠ 0 := by omega
  refine ⟨k, fun z => by rw [z, Int.mul_zero] at hk; exact h3 hk, ?_, ?_, by rw [hk]; grind⟩
  · refine Int.eq_of_mul_eq_mul_right hcc ?_
    rw [← h1, hk]; grind
  · refine Int.eq_of_mul_eq_mul_right hcc ?_
    rw [← h2, hk]; grind
theorem Px.le {p : T3} {t m β : Int} (hp : Nm p) (h : Px p t m β) : p.1.natAbs ≤ t.natAbs ∧ p.2.1.natAbs ≤ m.natAbs ∧ p.2.2.natAbs ≤ β.natAbs := by
  obtain ⟨k, k0, h1, h2, h3⟩ := h.k hp
  rw [h1, h2, h3, Int.natAbs_mul, Int.natAbs_mul, Int.natAbs_mul]
  exact ⟨Nat.le_mul_of_pos_left _ (by omega), Nat.le_mul_of_pos_left _ (by omega), Nat.le_mul_of_pos_left _ (by omega)⟩
theorem madeT_px {x y z : Int} (hz : z ≠ 0) : Px (madeT x y z) x y z ∧ Nm (madeT x y z) := by
  obtain ⟨g, g0, h1, h2, h3, h4⟩ := madeT_spec (x := x) (y := y) hz
  generalize madeT x y z = p at *
  exact ⟨⟨by rw [h1, h3]; grind, by rw [h2, h3]; grind, hz⟩, h4⟩
def sumT (p q : T3) (k : Int) : T3 := madeT (p.1 * q.2.2 + k * q.1 * p.2.2) (p.2.1 * q.2.2 + k * q.2.1 * p.2.2) (p.2.2 * q.2.2)
def prodT (p q : T3) (d : Int) : T3 := madeT (p.1 * q.1 + d * p.2.1 * q.2.1) (p.1 * q.2.1 + p.2.1 * q.1) (p.2.2 * q.2.2)
def quotT (p q : T3) (d : Int) : Option T3 := if q.1 = 0 ∧ q.2.1 = 0 then none else some (prodT p (madeT (q.2.2 * q.1) (0 - q.2.2 * q.2.1) (q.1 * q.1 - d * q.2.1 * q.2.1)) d)
def rootT (p : T3) (d : Int) : Int := if p.2.1 < 0 then 0 - isq (p.2.1 * p.2.1 * d) - (if isq (p.2.1 * p.2.1 * d) * isq (p.2.1 * p.2.1 * d) < p.2.1 * p.2.1 * d then 1 else 0) else isq (p.2.1 * p.2.1 * d)
def belowT (p : T3) (d : Int) : Int := (p.1 + rootT p d).fdiv p.2.2
def nextT (p : T3) (d : Int) : Option T3 := quotT (1, 0, 1) (sumT p (belowT p d, 0, 1) (-1)) d
/-- d is no square -/
def NSq (d : Int) : Prop := 0 < d ∧ ∀ x y : Int, y ≠ 0 → x * x ≠ d * y * y
theorem alg_q {a b c d q z1 z2 z3 a1 b1 c1 a2 b2 c2 a3 b3 c3 : Int} (u1 : a + -1 * q * c = z1 * a1) (u2 : b = z1 * b1) (u3 : c = z1 * c1) (v1 : c1 * a1 = z2 * a2) (v2 : 0 - c1 * b1 = z2 * b2) (v3 : a1 * a1 - d * b1 * b1 = z2 * c2) (w1 : a2 = z3 * a3) (w2 : b2 = z3 * b3) (w3 : c2 = z3 * c3) :
    z1 * z1 * z2 * z3 * a3 = c * (a - q * c) ∧ z1 * z1 * z2 * z3 * b3 = - (c * b) ∧ z1 * z1 * z2 * z3 * c3 = (a - q * c) * (a - q * c) - d * b * b := by
  have e1 : a - q * c = z1 * a1 := by rw [← u1]; grind
  rw [e1]
  subst w1 w2 w3 u2 u3
  refine ⟨?_, ?_, ?_⟩
  · have : z1 * z1 * z2 * z3 * a3 = z1 * z1 * (z2 * (z3 * a3)) := by grind
    rw [this, ← v1]; grind
  · have : z1 * z1 * z2 * z3 * b3 = z1 * z1 * (z2 * (z3 * b3)) := by grind
    rw [this, ← v2]; grind
  · have : z1 * z1 * z2 * z3 * c3 = z1 * z1 * (z2 * (z3 * c3)) := by grind
    rw [this, ← v3]; grind
theorem alg_r {a b c d q k t m β s : Int} (ht : t = k * a) (hmk : m = k * b) (hβ : β = k * c) (hs : s = d * m * m) :
    c * (a - q * c) * (s - (q * β - t) * (q * β - t)) = ((a - q * c) * (a - q * c) - d * b * b) * (β * (q * β - t)) ∧
    -(c * b) * (s - (q * β - t) * (q * β - t)) = ((a - q * c) * (a - q * c) - d * b * b) * (β * m) := by
  subst ht hmk hβ hs
  constructor <;> grind
/-- the next number, of a root's -/
theorem stepQ {d : Int} (hd : NSq d) {p : T3} (hp : Nm p) {t m s β f : Int} (hm : 0 < m) (hs : s = d * m * m) (R : RtI t s β f) (P : Px p t m β) :
    belowT p d = (t + f + (if β < 0 then 1 else 0)).fdiv β ∧ ∃ p', nextT p d = some p' ∧ Nm p' ∧ Px p' (belowT p d * β - t) m ((s - (belowT p d * β - t) * (belowT p d * β - t)).fdiv β) := by
  obtain ⟨k, k0, ht, hmk, hβ⟩ := P.k hp
  have hc := hp.pos
  have R' := R
  obtain ⟨f0, lo, hi, b0, e, he⟩ := R
  obtain ⟨hd0, hns⟩ := hd
  obtain ⟨a, b, c⟩ := p
  simp only at *
  have hb0 : b ≠ 0 := fun z => by rw [z, Int.mul_zero] at hmk; omega
  have hS : 0 ≤ b * b * d := Int.mul_nonneg (sqNN b) (Int.le_of_lt hd0)
  obtain ⟨g0, g1, g2⟩ := isq_spec hS
  have hne : isq (b * b * d) * isq (b * b * d) ≠ b * b * d := fun z => hns (isq (b * b * d)) b hb0 (by rw [z]; grind)
  have hsk : s = k * k * (b * b * d) := by rw [hs, hmk]; grind
  have hq : belowT (a, b, c) d = (t + f + (if β < 0 then 1 else 0)).fdiv β := by
    unfold belowT rootT
    simp only
    generalize hg : isq (b * b * d) = g at *
    rcases Int.lt_or_gt_of_ne k0 with hk | hk
    · have hbn : b < 0 := by
        rcases Int.lt_or_le b 0 with w | w
        · exact w
        · have := Int.mul_nonpos_of_nonpos_of_nonneg (Int.le_of_lt hk) w; omega
      have hβn : β < 0 := by rw [hβ]; exact Int.mul_neg_of_neg_of_pos hk hc
      rw [if_pos hbn, if_pos (by omega), if_pos hβn]
      have key : ∀ y : Int, y ≤ (a + (0 - g - 1)).fdiv c ↔ y ≤ (t + f + 1).fdiv β := fun y => by
        rw [le_fdiv_pos hc, le_fdiv_neg hβn]
        have hsc := isq_scale (s := b * b * d) (g := g) (f := f) (k := -k) (by omega) g0 g1 g2 f0 (by rw [show -k * -k = k * k by grind, ← hsk]; omega) (by rw [show -k * -k = k * k by grind, ← hsk]; exact hi) (a - y * c)
        have e1 : -k * (a - y * c) = y * β - t := by rw [hβ, ht]; grind
        rw [e1] at hsc
        constructor
        · intro h
          rcases Int.lt_or_le (y * β) (t + f + 1) with w | w
          · have := hsc.mpr (by omega); omega
          · exact w
        · intro h
          rcases Int.lt_or_le (a + (0 - g - 1)) (y * c) with w | w
          · have := hsc.mp (by omega); omega
          · exact w
      have a1 := (key _).mp (Int.le_refl _)
      have a2 := (key _).mpr (Int.le_refl _)
      omega
    · have hbp : ¬ b < 0 := fun w => by
        have := Int.mul_neg_of_pos_of_neg hk w; omega
      have hβp : 0 < β := by rw [hβ]; exact Int.mul_pos hk hc
      rw [if_neg hbp, if_neg (by omega), Int.add_zero]
      have key : ∀ y : Int, y ≤ (a + g).fdiv c ↔ y ≤ (t + f).fdiv β := fun y => by
        rw [le_fdiv_pos hc, le_fdiv_pos hβp]
        have hsc := isq_scale (s := b * b * d) (g := g) (f := f) (k := k) hk g0 g1 g2 f0 (by rw [← hsk]; omega) (by rw [← hsk]; exact hi) (y * c - a)
        have e1 : k * (y * c - a) = y * β - t := by rw [hβ, ht]; grind
        rw [e1] at hsc
        constructor
        · intro h; have := hsc.mp (by omega); omega
        · intro h; have := hsc.mpr (by omega); omega
      have a1 := (key _).mp (Int.le_refl _)
      have a2 := (key _).mpr (Int.le_refl _)
      omega
  refine ⟨hq, ?_⟩
  obtain ⟨R2, _, hbb, _, _⟩ := rt_next R' hq rfl rfl
  generalize hqq : belowT (a, b, c) d = q at *
  generalize hb' : (s - (q * β - t) * (q * β - t)).fdiv β = β' at *
  unfold nextT
  rw [hqq]
  unfold sumT
  simp only [Int.mul_one, Int.mul_zero, Int.zero_mul, Int.add_zero]
  obtain ⟨z1, z10, u1, u2, u3, u4⟩ := madeT_spec (x := a + -1 * q * c) (y := b) (z := c) (by omega)
  generalize madeT (a + -1 * q * c) b c = p1 at *
  obtain ⟨a1, b1, c1⟩ := p1
  simp only at *
  have b10 : b1 ≠ 0 := fun w => by rw [w, Int.mul_zero] at u2; exact hb0 u2
  unfold quotT
  simp only
  rw [if_neg (fun w => b10 w.2)]
  have hsz : a1 * a1 - d * b1 * b1 ≠ 0 := fun w => hns a1 b1 b10 (by omega)
  obtain ⟨z2, z20, v1, v2, v3, v4⟩ := madeT_spec (x := c1 * a1) (y := 0 - c1 * b1) hsz
  generalize madeT (c1 * a1) (0 - c1 * b1) (a1 * a1 - d * b1 * b1) = p2 at *
  obtain ⟨a2, b2, c2⟩ := p2
  simp only at *
  unfold prodT
  simp only [Int.one_mul, Int.mul_zero, Int.zero_mul, Int.add_zero]
  obtain ⟨z3, z30, w1, w2, w3, w4⟩ := madeT_spec (x := a2) (y := b2) (z := c2) (Int.ne_of_gt v4.pos)
  refine ⟨_, rfl, w4, ?_⟩
  generalize madeT a2 b2 c2 = p3 at *
  obtain ⟨a3, b3, c3⟩ := p3
  simp only at *
  have hG : z1 * z1 * z2 * z3 * β ≠ 0 := Int.mul_ne_zero (Int.mul_ne_zero (Int.mul_ne_zero (Int.mul_ne_zero z10 z10) z20) z30) b0
  obtain ⟨x1, x2, x3⟩ := alg_q (q := q) (d := d) u1 u2 u3 v1 v2 v3 w1 w2 w3
  obtain ⟨y1, y2⟩ := alg_r (q := q) (d := d) (a := a) (b := b) (c := c) ht hmk hβ hs
  refine ⟨?_, ?_, R2.b0⟩
  · refine Int.eq_of_mul_eq_mul_left hG ?_
    have e1 : z1 * z1 * z2 * z3 * β * (a3 * β') = (z1 * z1 * z2 * z3 * a3) * (β * β') := by
      generalize z1 * z1 * z2 * z3 = G
      rw [Int.mul_assoc, Int.mul_left_comm β a3, ← Int.mul_assoc]
    have e2 : z1 * z1 * z2 * z3 * β * ((q * β - t) * c3) = (z1 * z1 * z2 * z3 * c3) * (β * (q * β - t)) := by
      generalize z1 * z1 * z2 * z3 = G
      generalize q * β - t = T
      rw [Int.mul_assoc, Int.mul_comm T c3, Int.mul_left_comm β c3, ← Int.mul_assoc]
    simp only
    rw [e1, x1, hbb, e2, x3]
    exact y1
  · refine Int.eq_of_mul_eq_mul_left hG ?_
    have e1 : z1 * z1 * z2 * z3 * β * (b3 * β') = (z1 * z1 * z2 * z3 * b3) * (β * β') := by
      generalize z1 * z1 * z2 * z3 = G
      rw [Int.mul_assoc, Int.mul_left_comm β b3, ← Int.mul_assoc]
    have e2 : z1 * z1 * z2 * z3 * β * (m * c3) = (z1 * z1 * z2 * z3 * c3) * (β * m) := by
      generalize z1 * z1 * z2 * z3 = G
      rw [Int.mul_assoc, Int.mul_comm m c3, Int.mul_left_comm β c3, ← Int.mul_assoc]
    simp only
    rw [e1, x2, hbb, e2, x3]
    exact y2
theorem nsq_desc {d f : Int} (f0 : 0 ≤ f) (h1 : f * f < d) (h2 : d < (f + 1) * (f + 1)) : ∀ n : Nat, ∀ x y : Int, 0 ≤ x → 0 < y → y.toNat = n → x * x ≠ d * y * y := by
  intro n
  induction n using Nat.strongRecOn with
  | ind n ih =>
    intro x y x0 y0 hn he
    have a1 : f * y < x := by
      rcases Int.lt_or_le (f * y) x with w | w
      · exact w
      · have k1 : x * x ≤ (f * y) * (f * y) := Int.mul_le_mul w w x0 (Int.mul_nonneg f0 (Int.le_of_lt y0))
        have k2 : (f * y) * (f * y) = f * f * (y * y) := by grind
        have k3 : f * f * (y * y) < d * (y * y) := Int.mul_lt_mul_of_pos_right h1 (Int.mul_pos y0 y0)
        have k4 : d * y * y = d * (y * y) := Int.mul_assoc ..
        omega
    have a2 : x < (f + 1) * y := by
      rcases Int.lt_or_le x ((f + 1) * y) with w | w
      · exact w
      · have k1 : ((f + 1) * y) * ((f + 1) * y) ≤ x * x := Int.mul_le_mul w w (Int.mul_nonneg (by omega) (Int.le_of_lt y0)) x0
        have k2 : ((f + 1) * y) * ((f + 1) * y) = (f + 1) * (f + 1) * (y * y) := by grind
        have k3 : d * (y * y) < (f + 1) * (f + 1) * (y * y) := Int.mul_lt_mul_of_pos_right h2 (Int.mul_pos y0 y0)
        have k4 : d * y * y = d * (y * y) := Int.mul_assoc ..
        omega
    have e1 : (f + 1) * y = f * y + y := by grind
    have b1 : 0 ≤ d * y - f * x := by
      have k1 : y * (d * y - f * x) = x * (x - f * y) := by
        have : y * (d * y - f * x) = d * y * y - f * x * y := by grind
        rw [this, ← he]; grind
      have k2 : 0 ≤ x * (x - f * y) := Int.mul_nonneg x0 (by omega)
      rw [← k1] at k2
      rcases Int.lt_or_le (d * y - f * x) 0 with w | w
      · have := Int.mul_neg_of_pos_of_neg y0 w; omega
      · exact w
    refine ih (x - f * y).toNat (by omega) (d * y - f * x) (x - f * y) b1 (by omega) rfl ?_
    have : (d * y - f * x) * (d * y - f * x) - d * (x - f * y) * (x - f * y) = (x * x - d * y * y) * (f * f - d) := by grind
    rw [he, Int.sub_self, Int.zero_mul] at this
    omega
theorem nsq_of {d f : Int} (f0 : 0 ≤ f) (h1 : f * f < d) (h2 : d < (f + 1) * (f + 1)) : NSq d := by
  refine ⟨by have := Int.mul_nonneg f0 f0; omega, fun x y hy he => ?_⟩
  refine nsq_desc f0 h1 h2 _ (if x < 0 then -x else x) (if y < 0 then -y else y) (by split <;> omega) (by split <;> omega) rfl ?_
  split <;> split <;> grind
theorem fdiv_k {a c k : Int} (hc : 0 < c) (hk : k ≠ 0) : a.fdiv c = (k * a).fdiv (k * c) := by
  have key : ∀ y, y ≤ a.fdiv c ↔ y ≤ (k * a).fdiv (k * c) := fun y => by
    have e : y * (k * c) = k * (y * c) := by grind
    rcases Int.lt_or_gt_of_ne hk with h | h
    · rw [le_fdiv_pos hc, le_fdiv_neg (Int.mul_neg_of_neg_of_pos h hc), e]
      constructor
      · intro w; exact Int.mul_le_mul_of_nonpos_left (Int.le_of_lt h) w
      · intro w
        rcases Int.lt_or_le a (y * c) with z | z
        · have := Int.mul_lt_mul_of_neg_left z h; omega
        · exact z
    · rw [le_fdiv_pos hc, le_fdiv_pos (Int.mul_pos h hc), e]
      constructor
      · intro w; exact Int.mul_le_mul_of_nonneg_left w (Int.le_of_lt h)
      · intro w; exact Int.le_of_mul_le_mul_left w h
  have a1 := (key _).mp (Int.le_refl _)
  have a2 := (key _).mpr (Int.le_refl _)
  omega
/-- the next number, of a fraction's -/
theorem stepF {d : Int} {p : T3} (hp : Nm p) {t b : Int} (P : Px p t 0 b) :
    belowT p d = t.fdiv b ∧ ((t - t.fdiv b * b = 0 ∧ nextT p d = none) ∨ (t - t.fdiv b * b ≠ 0 ∧ ∃ p', nextT p d = some p' ∧ Nm p' ∧ Px p' b 0 (t - t.fdiv b * b))) := by
  obtain ⟨k, k0, ht, hm, hb⟩ := P.k hp
  have hc := hp.pos
  have hb0 := P.ne
  obtain ⟨a, z, c⟩ := p
  simp only at *
  have hz : z = 0 := by
    rcases Int.mul_eq_zero.mp hm.symm with w | w
    · exact absurd w k0
    · exact w
  subst hz
  have hq : belowT (a, 0, c) d = t.fdiv b := by
    unfold belowT rootT
    simp only [Int.lt_irrefl, if_false, Int.mul_zero, Int.zero_mul]
    rw [show isq 0 = 0 from rfl, Int.add_zero, ht, hb]
    exact fdiv_k hc k0
  refine ⟨hq, ?_⟩
  generalize t.fdiv b = q at *
  have hr : t - q * b = k * (a - q * c) := by rw [ht, hb]; grind
  unfold nextT
  rw [hq]
  unfold sumT
  simp only [Int.mul_one, Int.mul_zero, Int.zero_mul, Int.add_zero]
  obtain ⟨z1, z10, u1, u2, u3, u4⟩ := madeT_spec (x := a + -1 * q * c) (y := 0) (z := c) (by omega)
  generalize madeT (a + -1 * q * c) 0 c = p1 at *
  obtain ⟨a1, b1, c1⟩ := p1
  simp only at *
  have b10 : b1 = 0 := by
    rcases Int.mul_eq_zero.mp u2.symm with w | w
    · exact absurd w z10
    · exact w
  subst b10
  have e1 : a - q * c = z1 * a1 := by rw [← u1]; grind
  rw [hr, e1]
  unfold quotT
  simp only [and_true]
  by_cases h1 : a1 = 0
  · subst h1
    rw [if_pos rfl]
    exact .inl ⟨by simp, rfl⟩
  · rw [if_neg h1]
    refine .inr ⟨Int.mul_ne_zero k0 (Int.mul_ne_zero z10 h1), ?_⟩
    simp only [Int.mul_zero, Int.sub_zero, Int.zero_mul]
    obtain ⟨z2, z20, v1, v2, v3, v4⟩ := madeT_spec (x := c1 * a1) (y := 0) (z := a1 * a1) (Int.mul_ne_zero h1 h1)
    generalize madeT (c1 * a1) 0 (a1 * a1) = p2 at *
    obtain ⟨a2, b2, c2⟩ := p2
    simp only at *
    have b20 : b2 = 0 := by
      rcases Int.mul_eq_zero.mp v2.symm with w | w
      · exact absurd w z20
      · exact w
    subst b20
    unfold prodT
    simp only [Int.one_mul, Int.mul_zero, Int.zero_mul, Int.add_zero]
    obtain ⟨z3, z30, w1, w2, w3, w4⟩ := madeT_spec (x := a2) (y := 0) (z := c2) (Int.ne_of_gt v4.pos)
    refine ⟨_, rfl, w4, ?_⟩
    generalize madeT a2 0 c2 = p3 at *
    obtain ⟨a3, b3, c3⟩ := p3
    simp only at *
    have b30 : b3 = 0 := by
      rcases Int.mul_eq_zero.mp w2.symm with w | w
      · exact absurd w z30
      · exact w
    subst b30
    refine ⟨?_, by simp only [Int.zero_mul], Int.mul_ne_zero k0 (Int.mul_ne_zero z10 h1)⟩
    simp only
    -- a3 * (k z1 a1) = k c1 z1 * c3, with z2 z3 a3 = c1 a1 and z2 z3 c3 = a1 a1
    refine Int.eq_of_mul_eq_mul_left (a := z2 * z3) (Int.mul_ne_zero z20 z30) ?_
    have x1 : z2 * z3 * a3 = c1 * a1 := by rw [v1, w1, Int.mul_assoc]
    have x3 : z2 * z3 * c3 = a1 * a1 := by rw [v3, w3, Int.mul_assoc]
    rw [← Int.mul_assoc, x1, hb, u3]
    have : z2 * z3 * (k * (z1 * c1) * c3) = (z2 * z3 * c3) * (k * (z1 * c1)) := by
      generalize z2 * z3 = G
      generalize k * (z1 * c1) = L
      rw [Int.mul_comm L c3, Int.mul_assoc]
    rw [this, x3]
    grind
def Ht (B : Nat) (p : T3) : Prop := p.1.natAbs < 2 ^ B ∧ p.2.1.natAbs < 2 ^ B ∧ p.2.2.natAbs < 2 ^ B
/-- a quotient's own square is no nought -/
def Sz (d : Int) (s : T3) : Prop := (s.1 = 0 ∧ s.2.1 = 0) ∨ s.1 * s.1 - d * s.2.1 * s.2.1 ≠ 0
theorem sz_of {d : Int} {s : T3} (h : NSq d ∨ s.2.1 = 0) : Sz d s := by
  by_cases hz : s.2.1 = 0
  · by_cases h1 : s.1 = 0
    · exact .inl ⟨h1, hz⟩
    · right
      rw [hz, Int.mul_zero, Int.sub_zero]
      exact Int.mul_ne_zero h1 h1
  · rcases h with h | h
    · exact .inr fun e => h.2 s.1 s.2.1 hz (by omega)
    · exact absurd h hz
def PB (B : Nat) (d : Int) : Nat → Option T3 → Prop
  | 0, _ => True
  | _ + 1, none => True
  | n + 1, some p => Ht B p ∧ (belowT p d).natAbs < 2 ^ B ∧ 0 < p.2.2 ∧ Sz d (sumT p (belowT p d, 0, 1) (-1)) ∧ PB B d n (nextT p d)
theorem PB_root {B : Nat} {d : Int} (hd : NSq d) {m s f : Int} (hm : 0 < m) (hs : s = d * m * m) {W : Nat} (hW : W + f.toNat + 1 < 2 ^ B) (hmW : m.natAbs ≤ W) : ∀ (n : Nat) {p : T3} {t β : Int}, Nm p → RtI t s β f → Px p t m β → t.natAbs ≤ W → β.natAbs + n * (2 * f.toNat + 2) ≤ W → PB B d n (some p)
  | 0, _, _, _, _, _, _, _, _ => True.intro
  | n + 1, p, t, β, hp, R, P, ht, hb => by
    obtain ⟨h1, p', h2, h3, h4⟩ := stepQ hd hp hm hs R P
    obtain ⟨l1, l2, l3⟩ := P.le hp
    obtain ⟨R', _, _, k1, k2⟩ := rt_next R h1 rfl rfl
    rw [Nat.succ_mul] at hb
    refine ⟨⟨by omega, by omega, by omega⟩, ?_, hp.pos, sz_of (.inl hd), ?_⟩
    · rw [h1]
      refine Nat.lt_of_le_of_lt fdiv_le ?_
      have := R.f0
      split <;> omega
    · rw [h2]
      exact PB_root hd hm hs hW hmW n h3 R' h4 (by omega) (by omega)
/-- a triple's number beside a leaf's -/
inductive QR (d : Int) : Option T3 → R → Prop
  | root {p : T3} {k : Nat} {t m s β f : Int} : NSq d → Nm p → 0 < m → s = d * m * m → RtI t s β f → Px p t m β → QR d (some p) (.root k t s β f)
  | frac {p : T3} {k : Nat} {t b : Int} : Nm p → Px p t 0 b → QR d (some p) (.frac k t b)
  | done {k : Nat} {t : Int} : QR d none (.frac k t 0)
theorem QR.part {d : Int} {p : T3} {r r' : R} {n : Nat} {m m' : Int} {ans : Ans} (h : QR d (some p) r) (hm : m ≠ 0) (ht : Told n r m r' m' ans) : ans = .part (belowT p d) ∧ QR d (nextT p d) r' ∧ r'.tk = r.tk + 1 ∧ m' = m - 1 := by
  cases h with
  | root h1 h2 h3 h4 h5 h6 =>
    obtain ⟨e1, p', e2, e3, e4⟩ := stepQ h1 h2 h3 h4 h5 h6
    cases ht with
    | rtWait => exact absurd rfl hm
    | rtPart _ _ _ _ _ _ hq ht' _ =>
      subst hq ht'
      rw [← e1]
      refine ⟨rfl, ?_, rfl, rfl⟩
      rw [e2]
      obtain ⟨R', _⟩ := rt_next h5 e1 rfl rfl
      exact .root h1 e3 h3 h4 R' e4
  | frac h1 h2 =>
    obtain ⟨e1, e2⟩ := stepF (d := d) h1 h2
    cases ht with
    | frEnd => exact absurd rfl h2.ne
    | frWait => exact absurd rfl hm
    | frPart _ _ _ _ =>
      rw [← e1]
      refine ⟨rfl, ?_, rfl, rfl⟩
      rw [e1]
      rcases e2 with ⟨z, hn⟩ | ⟨z, p', hn, h3, h4⟩
      · rw [hn, z]; exact .done
      · rw [hn]; exact .frac h3 h4
theorem QR.fin {d : Int} {r r' : R} {n : Nat} {m m' : Int} {ans : Ans} (h : QR d none r) (ht : Told n r m r' m' ans) : ans = .fin ∧ r' = r ∧ m' = m := by
  cases h with
  | done =>
    cases ht with
    | frEnd => exact ⟨rfl, rfl, rfl⟩
    | frWait h => exact absurd rfl h
    | frPart h => exact absurd rfl h
theorem Px.scale {p : T3} {t m β k : Int} (h : Px p t m β) (hk : k ≠ 0) : Px p (t * k) (m * k) (β * k) := by
  obtain ⟨h1, h2, h3⟩ := h
  refine ⟨?_, ?_, Int.mul_ne_zero h3 hk⟩
  · have : p.1 * (β * k) = p.1 * β * k := (Int.mul_assoc ..).symm
    rw [this, h1]; grind
  · have : p.2.1 * (β * k) = p.2.1 * β * k := (Int.mul_assoc ..).symm
    rw [this, h2]; grind
/-- how a root's reader begins -/
theorem rt_start {top d b g : Int} (b0 : b ≠ 0) (hd : NSq d) (g0 : 0 ≤ g) (g1 : g * g ≤ d * abI b * abI b) (g2 : d * abI b * abI b < (g + 1) * (g + 1)) : RtI (top * abI b) (d * abI b * abI b) (b * abI b) g ∧ 0 < abI b := by
  have ha : 0 < abI b ∧ ∃ e : Int, e * e = 1 ∧ b = e * abI b := by
    unfold abI
    split
    · exact ⟨by omega, -1, by decide, by omega⟩
    · exact ⟨by omega, 1, by decide, by omega⟩
  obtain ⟨a0, e, he, hb⟩ := ha
  refine ⟨⟨g0, ?_, g2, Int.mul_ne_zero b0 (by omega), (d - top * top) * e, ?_⟩, a0⟩
  · have := hd.2 g (abI b) (by omega)
    omega
  · generalize abI b = u at *
    rw [hb]
    have : e * u * u * ((d - top * top) * e) = (e * e) * (u * u * (d - top * top)) := by grind
    rw [this, he]
    grind
end PL
namespace PL
open PySem L2
local macro_rules | `(tactic| walk_at "pl") => `(tactic| try simp only [aSeq, aSet, aAsg, agName, agTup, setAll, aVar, aC, aOp, aAdd, aSub, aMul, aFdv, aMod, aPow, aPowB, aShl1, aLt, aLe, aGt, aGe, aEqI, aNeI, aEqD, aNeD, aEqS, aNeS, fI, fB, aIfS, aNext, aRet, aRetN, aDrop, aB, aAnd, aOr, aNot,
  aAndV, aOrV, aNotV, aIf, aCons, aNil, aTup, aLst, aLstO, aCall, fAbs, fIntB, fLen, fListD, fListO, fTuple, aFn, aIx, fIx, aBits, aIsi, aIsN, aNotN, TT2, aSetIx, aApp, aFor, aForT, aForR1, aForR2, aLc, aLcR, aCatL, fCatL, aCatO, fCatO, aCatT, fCatT, aForRev, aForO, aForZipM, aInD, aNotInD, aForZip, aLcZip, aTry, aTryAs, aIsE, aIsET, agTupL, aDGet, aDPut, aDisp, aChain, fLe, fLt, lseq_lst, lseq_o, aFrz, aTake, aFld, agFld, agNew, aMeth, aMake, agTupG, glNil, glCons, aRaise, fInI, aNever, Prod.mk.injEq, AO.obj.injEq, and_assoc, aSl, aPart, aNoPart, reduceCtorEq, false_and, and_false, exists_false, or_false, false_or, exists_const, aPar, astart, seq_lst, seq_tup, seq_o, ty_int, ty_bl, isT_ii, isT_ib, isT_bi, isT_bb, isT_tt, isT_ss, isT_ll, ty_tup, ty_str, ty_lst, ty_non, at_0, at_1, at_2, at_3, at_l, ix_40, ix_41, ix_42, ix_43, aAsRow, oset_same, oset_oset, AO.lst.injEq, List.cons.injEq,
  List.map_cons, List.map_nil, List.length_cons, List.length_nil, List.replicate, Nat.sub_self, Nat.zero_add, Nat.reduceSub, Nat.reduceAdd, List.cons_append, List.nil_append, List.append_nil, List.set_cons_zero, List.set_cons_succ, List.getElem?_cons_zero, List.getElem?_cons_succ,
  Option.some.injEq, D.int.injEq, D.bl.injEq, D.str.injEq, D.o.injEq, D.lst.injEq, D.tup.injEq, exists_and_left, exists_eq_left', exists_eq_left, true_and, and_true, decide_eq_true_eq, Bool.true_eq_false, Bool.false_eq_true, if_true, if_false, Int.toNat_natCast])
local macro_rules | `(tactic| walk_at "nm") => `(tactic| (intro z; simp only [List.map_cons, List.map_nil, List.mem_cons, List.not_mem_nil, or_false] at z; try (revert z; decide)))
theorem boot_ty_tuple : bootBuiltins "tuple" = some (.type "tuple") := by decide +kernel
theorem boot_ty_str : bootBuiltins "str" = some (.type "str") := by decide +kernel
theorem sq_nn (x : Int) : 0 ≤ x * x := by
  rcases Int.le_total 0 x with h | h
  · exact Int.mul_nonneg h h
  · exact Int.mul_nonneg_of_nonpos_of_nonpos h h
def topS (i : Nat) : Stmt := PySem.Challenge.pw_chainparts_k27_whole_any_trees_told_of.main.body.getD i (.Pass ⟨0, 0, 0, 0⟩)
abbrev s_root_below : Stmt := topS 5
theorem sc_root_below : FnScope ["number", "found"] ["number"] (defScope s_root_below) := ⟨rfl, rfl, rfl, by decide +kernel, rfl, by decide +kernel, by decide +kernel⟩
abbrev s_Purse___init__ : Stmt := inClass (topS 7) 0
theorem sc_Purse___init__ : FnScope ["self", "left"] ["self", "left"] (defScope s_Purse___init__) := ⟨rfl, rfl, rfl, by decide +kernel, rfl, by decide +kernel, by decide +kernel⟩
abbrev s_Reader_part : Stmt := inClass (topS 8) 0
theorem sc_Reader_part : FnScope ["self", "most"] ["self", "most"] (defScope s_Reader_part) := ⟨rfl, rfl, rfl, by decide +kernel, rfl, by decide +kernel, by decide +kernel⟩
abbrev s_Reader_took : Stmt := inClass (topS 8) 2
theorem sc_Reader_took : FnScope ["self"] ["self"] (defScope s_Reader_took) := ⟨rfl, rfl, rfl, by decide +kernel, rfl, by decide +kernel, by decide +kernel⟩
abbrev s_Fixed___init__ : Stmt := inClass (topS 9) 0
theorem sc_Fixed___init__ : FnScope ["self", "top", "below", "begun"] ["self", "top", "below", "begun"] (defScope s_Fixed___init__) := ⟨rfl, rfl, rfl, by decide +kernel, rfl, by decide +kernel, by decide +kernel⟩
abbrev s_Fixed_told : Stmt := inClass (topS 9) 1
theorem sc_Fixed_told : FnScope ["self", "purse", "found"] ["self", "purse"] (defScope s_Fixed_told) := ⟨rfl, rfl, rfl, by decide +kernel, rfl, by decide +kernel, by decide +kernel⟩
abbrev s_Leaf___init__ : Stmt := inClass (topS 10) 0
theorem sc_Leaf___init__ : FnScope ["self"] ["self"] (defScope s_Leaf___init__) := ⟨rfl, rfl, rfl, by decide +kernel, rfl, by decide +kernel, by decide +kernel⟩
abbrev s_Leaf_told : Stmt := inClass (topS 10) 1
theorem sc_Leaf_told : FnScope ["self", "purse"] ["self", "purse"] (defScope s_Leaf_told) := ⟨rfl, rfl, rfl, by decide +kernel, rfl, by decide +kernel, by decide +kernel⟩
abbrev s_Leaf_at_end : Stmt := inClass (topS 10) 2
theorem sc_Leaf_at_end : FnScope ["self"] ["self"] (defScope s_Leaf_at_end) := ⟨rfl, rfl, rfl, by decide +kernel, rfl, by decide +kernel, by decide +kernel⟩
abbrev s_Leaf_took : Stmt := inClass (topS 10) 4
theorem sc_Leaf_took : FnScope ["self"] ["self"] (defScope s_Leaf_took) := ⟨rfl, rfl, rfl, by decide +kernel, rfl, by decide +kernel, by decide +kernel⟩
abbrev s_Fraction___init__ : Stmt := inClass (topS 11) 0
theorem sc_Fraction___init__ : FnScope ["self", "top", "below"] ["self", "top", "below"] (defScope s_Fraction___init__) := ⟨rfl, rfl, rfl, by decide +kernel, rfl, by decide +kernel, by decide +kernel⟩
abbrev s_Fraction_at_end : Stmt := inClass (topS 11) 1
theorem sc_Fraction_at_end : FnScope ["self"] ["self"] (defScope s_Fraction_at_end) := ⟨rfl, rfl, rfl, by decide +kernel, rfl, by decide +kernel, by decide +kernel⟩
abbrev s_Fraction_following : Stmt := inClass (topS 11) 2
theorem sc_Fraction_following : FnScope ["self", "found"] ["self"] (defScope s_Fraction_following) := ⟨rfl, rfl, rfl, by decide +kernel, rfl, by decide +kernel, by decide +kernel⟩
abbrev s_Root___init__ : Stmt := inClass (topS 12) 0
theorem sc_Root___init__ : FnScope ["self", "top", "square", "below"] ["self", "top", "square", "below"] (defScope s_Root___init__) := ⟨rfl, rfl, rfl, by decide +kernel, rfl, by decide +kernel, by decide +kernel⟩
abbrev s_Root_following : Stmt := inClass (topS 12) 1
theorem sc_Root_following : FnScope ["self", "found"] ["self"] (defScope s_Root_following) := ⟨rfl, rfl, rfl, by decide +kernel, rfl, by decide +kernel, by decide +kernel⟩
abbrev s_Ruled___init__ : Stmt := inClass (topS 13) 0
theorem sc_Ruled___init__ : FnScope ["self", "parts", "ring", "steps"] ["self", "parts", "ring", "steps"] (defScope s_Ruled___init__) := ⟨rfl, rfl, rfl, by decide +kernel, rfl, by decide +kernel, by decide +kernel⟩
abbrev s_Ruled_at_end : Stmt := inClass (topS 13) 1
theorem sc_Ruled_at_end : FnScope ["self"] ["self"] (defScope s_Ruled_at_end) := ⟨rfl, rfl, rfl, by decide +kernel, rfl, by decide +kernel, by decide +kernel⟩
abbrev s_Ruled_following : Stmt := inClass (topS 13) 2
theorem sc_Ruled_following : FnScope ["self", "at", "turn"] ["self"] (defScope s_Ruled_following) := ⟨rfl, rfl, rfl, by decide +kernel, rfl, by decide +kernel, by decide +kernel⟩
abbrev s_root_of : Stmt := topS 14
theorem sc_root_of : FnScope ["top", "square", "below", "floor", "size"] ["top", "square", "below"] (defScope s_root_of) := ⟨rfl, rfl, rfl, by decide +kernel, rfl, by decide +kernel, by decide +kernel⟩
abbrev s_below_all : Stmt := topS 16
theorem sc_below_all : FnScope ["corners", "top", "below", "least", "rest"] ["corners"] (defScope s_below_all) := ⟨rfl, rfl, rfl, by decide +kernel, rfl, by decide +kernel, by decide +kernel⟩
abbrev s_Four___init__ : Stmt := inClass (topS 17) 0
theorem sc_Four___init__ : FnScope ["self", "numbers", "inner", "ready", "begun"] ["self", "numbers", "inner", "ready", "begun"] (defScope s_Four___init__) := ⟨rfl, rfl, rfl, by decide +kernel, rfl, by decide +kernel, by decide +kernel⟩
abbrev s_Four_took : Stmt := inClass (topS 17) 1
theorem sc_Four_took : FnScope ["self"] ["self"] (defScope s_Four_took) := ⟨rfl, rfl, rfl, by decide +kernel, rfl, by decide +kernel, by decide +kernel⟩
abbrev s_Four_sure : Stmt := inClass (topS 17) 2
theorem sc_Four_sure : FnScope ["self", "a", "b", "c", "d"] ["self"] (defScope s_Four_sure) := ⟨rfl, rfl, rfl, by decide +kernel, rfl, by decide +kernel, by decide +kernel⟩
abbrev s_Four_told : Stmt := inClass (topS 17) 3
theorem sc_Four_told : FnScope ["self", "purse", "a", "b", "c", "d", "found", "got"] ["self", "purse"] (defScope s_Four_told) := ⟨rfl, rfl, rfl, by decide +kernel, rfl, by decide +kernel, by decide +kernel⟩
abbrev s_Eight___init__ : Stmt := inClass (topS 18) 0
theorem sc_Eight___init__ : FnScope ["self", "numbers", "one", "other"] ["self", "numbers", "one", "other"] (defScope s_Eight___init__) := ⟨rfl, rfl, rfl, by decide +kernel, rfl, by decide +kernel, by decide +kernel⟩
abbrev s_Eight_took : Stmt := inClass (topS 18) 1
theorem sc_Eight_took : FnScope ["self"] ["self"] (defScope s_Eight_took) := ⟨rfl, rfl, rfl, by decide +kernel, rfl, by decide +kernel, by decide +kernel⟩
abbrev s_Eight_sure : Stmt := inClass (topS 18) 2
theorem sc_Eight_sure : FnScope ["self", "a", "b", "c", "d", "e", "f", "g", "h"] ["self"] (defScope s_Eight_sure) := ⟨rfl, rfl, rfl, by decide +kernel, rfl, by decide +kernel, by decide +kernel⟩
abbrev s_Eight_told : Stmt := inClass (topS 18) 3
theorem sc_Eight_told : FnScope ["self", "purse", "found", "rows", "which", "got", "k"] ["self", "purse"] (defScope s_Eight_told) := ⟨rfl, rfl, rfl, by decide +kernel, rfl, by decide +kernel, by decide +kernel⟩
abbrev s_Eight_take : Stmt := inClass (topS 18) 4
theorem sc_Eight_take : FnScope ["self", "which", "part", "a", "b", "c", "d", "e", "f", "g", "h"] ["self", "which", "part"] (defScope s_Eight_take) := ⟨rfl, rfl, rfl, by decide +kernel, rfl, by decide +kernel, by decide +kernel⟩
abbrev s_Eight_left_of : Stmt := inClass (topS 18) 5
theorem sc_Eight_left_of : FnScope ["self", "which", "a", "b", "c", "d", "e", "f", "g", "h", "four"] ["self", "which"] (defScope s_Eight_left_of) := ⟨rfl, rfl, rfl, by decide +kernel, rfl, by decide +kernel, by decide +kernel⟩
abbrev s_must : Stmt := topS 24
theorem sc_must : FnScope ["good"] ["good"] (defScope s_must) := ⟨rfl, rfl, rfl, by decide +kernel, rfl, by decide +kernel, by decide +kernel⟩
abbrev s_need_numbers : Stmt := topS 25
theorem sc_need_numbers : FnScope ["numbers", "number"] ["numbers"] (defScope s_need_numbers) := ⟨rfl, rfl, rfl, by decide +kernel, rfl, by decide +kernel, by decide +kernel⟩
abbrev s_need_ruled : Stmt := topS 26
theorem sc_need_ruled : FnScope ["parts", "ring", "steps", "part", "step"] ["parts", "ring", "steps"] (defScope s_need_ruled) := ⟨rfl, rfl, rfl, by decide +kernel, rfl, by decide +kernel, by decide +kernel⟩
abbrev s_need_eight : Stmt := topS 27
theorem sc_need_eight : FnScope ["numbers", "apart", "i", "j"] ["numbers"] (defScope s_need_eight) := ⟨rfl, rfl, rfl, by decide +kernel, rfl, by decide +kernel, by decide +kernel⟩
abbrev s_need_tree : Stmt := topS 28
theorem sc_need_tree : FnScope ["tree", "deep", "kind"] ["tree", "deep"] (defScope s_need_tree) := ⟨rfl, rfl, rfl, by decide +kernel, rfl, by decide +kernel, by decide +kernel⟩
abbrev s_opened : Stmt := topS 31
theorem sc_opened : FnScope ["tree", "kind", "made", "k"] ["tree"] (defScope s_opened) := ⟨rfl, rfl, rfl, by decide +kernel, rfl, by decide +kernel, by decide +kernel⟩
abbrev s_reader : Stmt := topS 32
theorem sc_reader : FnScope ["tree"] ["tree"] (defScope s_reader) := ⟨rfl, rfl, rfl, by decide +kernel, rfl, by decide +kernel, by decide +kernel⟩
abbrev s_first_parts : Stmt := topS 33
theorem sc_first_parts : FnScope ["tree", "many", "most", "made", "found", "got"] ["tree", "many", "most"] (defScope s_first_parts) := ⟨rfl, rfl, rfl, by decide +kernel, rfl, by decide +kernel, by decide +kernel⟩
abbrev s_greater_first : Stmt := topS 35
theorem sc_greater_first : FnScope ["one", "other", "at", "above"] ["one", "other", "at"] (defScope s_greater_first) := ⟨rfl, rfl, rfl, by decide +kernel, rfl, by decide +kernel, by decide +kernel⟩
abbrev s_read_beside : Stmt := topS 36
theorem sc_read_beside : FnScope ["one", "other", "most", "at", "steps", "made", "step"] ["one", "other", "most"] (defScope s_read_beside) := ⟨rfl, rfl, rfl, by decide +kernel, rfl, by decide +kernel, by decide +kernel⟩
abbrev s_compared : Stmt := topS 37
theorem sc_compared : FnScope ["one", "other", "most", "first"] ["one", "other", "most"] (defScope s_compared) := ⟨rfl, rfl, rfl, by decide +kernel, rfl, by decide +kernel, by decide +kernel⟩
abbrev s_beside : Stmt := topS 39
theorem sc_beside : FnScope ["tree", "size", "most", "made", "ahead", "last", "begun", "got", "part", "times"] ["tree", "size", "most"] (defScope s_beside) := ⟨rfl, rfl, rfl, by decide +kernel, rfl, by decide +kernel, by decide +kernel⟩
abbrev s_in_order : Stmt := topS 40
theorem sc_in_order : FnScope ["one", "other"] ["one", "other"] (defScope s_in_order) := ⟨rfl, rfl, rfl, by decide +kernel, rfl, by decide +kernel, by decide +kernel⟩
abbrev s_nearest : Stmt := topS 41
theorem sc_nearest : FnScope ["tree", "size", "most", "found", "low", "high", "middle", "told"] ["tree", "size", "most"] (defScope s_nearest) := ⟨rfl, rfl, rfl, by decide +kernel, rfl, by decide +kernel, by decide +kernel⟩
abbrev s__law_row : Stmt := topS 43
theorem sc__law_row : FnScope ["_law_script", "_law_mixed", "_law_cell"] ["_law_script"] (defScope s__law_row) := ⟨rfl, rfl, rfl, by decide +kernel, rfl, by decide +kernel, by decide +kernel⟩
abbrev s__law_taken : Stmt := topS 44
theorem sc__law_taken : FnScope ["_law_row_here", "_law_many", "_law_found", "_law_cell"] ["_law_row_here", "_law_many"] (defScope s__law_taken) := ⟨rfl, rfl, rfl, by decide +kernel, rfl, by decide +kernel, by decide +kernel⟩
abbrev s__law_signed : Stmt := topS 46
theorem sc__law_signed : FnScope ["_law_row_here", "_law_most"] ["_law_row_here", "_law_most"] (defScope s__law_signed) := ⟨rfl, rfl, rfl, by decide +kernel, rfl, by decide +kernel, by decide +kernel⟩
abbrev s__law_root : Stmt := topS 47
theorem sc__law_root : FnScope ["_law_number", "_law_low", "_law_high", "_law_middle"] ["_law_number"] (defScope s__law_root) := ⟨rfl, rfl, rfl, by decide +kernel, rfl, by decide +kernel, by decide +kernel⟩
abbrev s__law_common : Stmt := topS 48
theorem sc__law_common : FnScope ["_law_one", "_law_other"] ["_law_one", "_law_other"] (defScope s__law_common) := ⟨rfl, rfl, rfl, by decide +kernel, rfl, by decide +kernel, by decide +kernel⟩
abbrev s__law_made : Stmt := topS 50
theorem sc__law_made : FnScope ["_law_a", "_law_b", "_law_c", "_law_part"] ["_law_a", "_law_b", "_law_c"] (defScope s__law_made) := ⟨rfl, rfl, rfl, by decide +kernel, rfl, by decide +kernel, by decide +kernel⟩
abbrev s__law_sum : Stmt := topS 51
theorem sc__law_sum : FnScope ["_law_one", "_law_other", "_law_by", "_law_a"] ["_law_one", "_law_other", "_law_by"] (defScope s__law_sum) := ⟨rfl, rfl, rfl, by decide +kernel, rfl, by decide +kernel, by decide +kernel⟩
abbrev s__law_product : Stmt := topS 52
theorem sc__law_product : FnScope ["_law_one", "_law_other", "_law_d", "_law_a"] ["_law_one", "_law_other", "_law_d"] (defScope s__law_product) := ⟨rfl, rfl, rfl, by decide +kernel, rfl, by decide +kernel, by decide +kernel⟩
abbrev s__law_quotient : Stmt := topS 53
theorem sc__law_quotient : FnScope ["_law_one", "_law_other", "_law_d", "_law_size"] ["_law_one", "_law_other", "_law_d"] (defScope s__law_quotient) := ⟨rfl, rfl, rfl, by decide +kernel, rfl, by decide +kernel, by decide +kernel⟩
abbrev s__law_below : Stmt := topS 54
theorem sc__law_below : FnScope ["_law_one", "_law_d", "_law_size", "_law_root_here"] ["_law_one", "_law_d"] (defScope s__law_below) := ⟨rfl, rfl, rfl, by decide +kernel, rfl, by decide +kernel, by decide +kernel⟩
abbrev s__law_ruled : Stmt := topS 55
theorem sc__law_ruled : FnScope ["_law_row_here", "_law_many", "_law_parts", "_law_size", "_law_ring", "_law_steps", "_law_k"] ["_law_row_here"] (defScope s__law_ruled) := ⟨rfl, rfl, rfl, by decide +kernel, rfl, by decide +kernel, by decide +kernel⟩
abbrev s__law_corners : Stmt := topS 56
theorem sc__law_corners : FnScope ["_law_numbers_here", "_law_a", "_law_b", "_law_c", "_law_d", "_law_e", "_law_f", "_law_g", "_law_h"] ["_law_numbers_here"] (defScope s__law_corners) := ⟨rfl, rfl, rfl, by decide +kernel, rfl, by decide +kernel, by decide +kernel⟩
abbrev s__law_sure : Stmt := topS 57
theorem sc__law_sure : FnScope ["_law_corners_here", "_law_top", "_law_below_here", "_law_unders", "_law_part"] ["_law_corners_here"] (defScope s__law_sure) := ⟨rfl, rfl, rfl, by decide +kernel, rfl, by decide +kernel, by decide +kernel⟩
abbrev s__law_moved : Stmt := topS 58
theorem sc__law_moved : FnScope ["_law_numbers_here", "_law_which", "_law_part", "_law_a", "_law_b", "_law_c", "_law_d", "_law_e", "_law_f", "_law_g", "_law_h"] ["_law_numbers_here", "_law_which", "_law_part"] (defScope s__law_moved) := ⟨rfl, rfl, rfl, by decide +kernel, rfl, by decide +kernel, by decide +kernel⟩
abbrev s__law_ended : Stmt := topS 59
theorem sc__law_ended : FnScope ["_law_m", "_law_which", "_law_a", "_law_left"] ["_law_m", "_law_which"] (defScope s__law_ended) := ⟨rfl, rfl, rfl, by decide +kernel, rfl, by decide +kernel, by decide +kernel⟩
abbrev s__law_rest : Stmt := topS 60
theorem sc__law_rest : FnScope ["_law_m", "_law_top", "_law_below_here", "_law_part"] ["_law_m"] (defScope s__law_rest) := ⟨rfl, rfl, rfl, by decide +kernel, rfl, by decide +kernel, by decide +kernel⟩
abbrev s__law_apart : Stmt := topS 61
theorem sc__law_apart : FnScope ["_law_some", "_law_half", "_law_i", "_law_j"] ["_law_some"] (defScope s__law_apart) := ⟨rfl, rfl, rfl, by decide +kernel, rfl, by decide +kernel, by decide +kernel⟩
abbrev s__law_numbers : Stmt := topS 62
theorem sc__law_numbers : FnScope ["_law_row_here", "_law_many", "_law_most", "_law_found", "_law_some", "_law_k"] ["_law_row_here", "_law_many"] (defScope s__law_numbers) := ⟨rfl, rfl, rfl, by decide +kernel, rfl, by decide +kernel, by decide +kernel⟩
abbrev s__law_any_leaf : Stmt := topS 63
theorem sc__law_any_leaf : FnScope ["_law_row_here", "_law_way", "_law_top", "_law_below_here", "_law_square"] ["_law_row_here"] (defScope s__law_any_leaf) := ⟨rfl, rfl, rfl, by decide +kernel, rfl, by decide +kernel, by decide +kernel⟩
abbrev s__law_any : Stmt := topS 64
theorem sc__law_any : FnScope ["_law_row_here", "_law_deep", "_law_way", "_law_numbers_here", "_law_first_here"] ["_law_row_here", "_law_deep"] (defScope s__law_any) := ⟨rfl, rfl, rfl, by decide +kernel, rfl, by decide +kernel, by decide +kernel⟩
abbrev s__law_opened : Stmt := topS 65
theorem sc__law_opened : FnScope ["_law_tree", "_law_kind", "_law_m", "_law_root_here", "_law_k", "_law_inners"] ["_law_tree"] (defScope s__law_opened) := ⟨rfl, rfl, rfl, by decide +kernel, rfl, by decide +kernel, by decide +kernel⟩
abbrev s__law_took : Stmt := topS 66
theorem sc__law_took : FnScope ["_law_m", "_law_inner"] ["_law_m"] (defScope s__law_took) := ⟨rfl, rfl, rfl, by decide +kernel, rfl, by decide +kernel, by decide +kernel⟩
abbrev s__law_leaf_told : Stmt := topS 67
theorem sc__law_leaf_told : FnScope ["_law_m", "_law_purse", "_law_tree", "_law_at", "_law_turn", "_law_k", "_law_top", "_law_below_here", "_law_part"] ["_law_m", "_law_purse"] (defScope s__law_leaf_told) := ⟨rfl, rfl, rfl, by decide +kernel, rfl, by decide +kernel, by decide +kernel⟩
abbrev s__law_told : Stmt := topS 68
theorem sc__law_told : FnScope ["_law_m", "_law_purse", "_law_which", "_law_ready", "_law_part", "_law_half", "_law_ahead", "_law_under", "_law_got", "_law_k"] ["_law_m", "_law_purse"] (defScope s__law_told) := ⟨rfl, rfl, rfl, by decide +kernel, rfl, by decide +kernel, by decide +kernel⟩
abbrev s__law_first : Stmt := topS 69
theorem sc__law_first : FnScope ["_law_tree", "_law_many", "_law_most", "_law_m", "_law_found", "_law_got"] ["_law_tree", "_law_many", "_law_most"] (defScope s__law_first) := ⟨rfl, rfl, rfl, by decide +kernel, rfl, by decide +kernel, by decide +kernel⟩
abbrev s__law_beside : Stmt := topS 70
theorem sc__law_beside : FnScope ["_law_ms", "_law_most", "_law_at", "_law_steps", "_law_m", "_law_above"] ["_law_ms", "_law_most"] (defScope s__law_beside) := ⟨rfl, rfl, rfl, by decide +kernel, rfl, by decide +kernel, by decide +kernel⟩
abbrev s__law_pair : Stmt := topS 71
theorem sc__law_pair : FnScope ["_law_tree", "_law_size", "_law_most", "_law_m", "_law_ahead", "_law_last", "_law_many", "_law_got", "_law_part", "_law_times", "_law_other"] ["_law_tree", "_law_size", "_law_most"] (defScope s__law_pair) := ⟨rfl, rfl, rfl, by decide +kernel, rfl, by decide +kernel, by decide +kernel⟩
abbrev s__law_nearest : Stmt := topS 72
theorem sc__law_nearest : FnScope ["_law_tree", "_law_size", "_law_most", "_law_some", "_law_low", "_law_high", "_law_middle", "_law_word"] ["_law_tree", "_law_size", "_law_most"] (defScope s__law_nearest) := ⟨rfl, rfl, rfl, by decide +kernel, rfl, by decide +kernel, by decide +kernel⟩
abbrev s__law_asked : Stmt := topS 73
theorem sc__law_asked : FnScope ["_law_way", "_law_tree", "_law_other", "_law_many", "_law_most", "_law_found"] ["_law_way", "_law_tree", "_law_other", "_law_many", "_law_most"] (defScope s__law_asked) := ⟨rfl, rfl, rfl, by decide +kernel, rfl, by decide +kernel, by decide +kernel⟩
abbrev s_law : Stmt := topS 74
theorem sc_law : FnScope ["_law_script", "_law_row_here", "_law_turn", "_law_tree", "_law_other", "_law_many", "_law_most", "_law_first_here", "_law_due", "_law_again", "_law_found", "_law_way"] ["_law_script"] (defScope s_law) := ⟨rfl, rfl, rfl, by decide +kernel, rfl, by decide +kernel, by decide +kernel⟩
structure Txt (K : PySem.W.Frag) (mg : Str → Option Value) (C : CT) : Prop where
  d_root_below : Dfn K mg "root_below" "root_below" s_root_below ["number"]
  d_root_of : Dfn K mg "root_of" "root_of" s_root_of ["top", "square", "below"]
  d_below_all : Dfn K mg "below_all" "below_all" s_below_all ["corners"]
  d_must : Dfn K mg "must" "must" s_must ["good"]
  d_need_numbers : Dfn K mg "need_numbers" "need_numbers" s_need_numbers ["numbers"]
  d_need_ruled : Dfn K mg "need_ruled" "need_ruled" s_need_ruled ["parts", "ring", "steps"]
  d_need_eight : Dfn K mg "need_eight" "need_eight" s_need_eight ["numbers"]
  d_need_tree : Dfn K mg "need_tree" "need_tree" s_need_tree ["tree", "deep"]
  d_opened : Dfn K mg "opened" "opened" s_opened ["tree"]
  d_reader : Dfn K mg "reader" "reader" s_reader ["tree"]
  d_first_parts : Dfn K mg "first_parts" "first_parts" s_first_parts ["tree", "many", "most"]
  d_greater_first : Dfn K mg "greater_first" "greater_first" s_greater_first ["one", "other", "at"]
  d_read_beside : Dfn K mg "read_beside" "read_beside" s_read_beside ["one", "other", "most"]
  d_compared : Dfn K mg "compared" "compared" s_compared ["one", "other", "most"]
  d_beside : Dfn K mg "beside" "beside" s_beside ["tree", "size", "most"]
  d_in_order : Dfn K mg "in_order" "in_order" s_in_order ["one", "other"]
  d_nearest : Dfn K mg "nearest" "nearest" s_nearest ["tree", "size", "most"]
  d_law_row : Dfn K mg "_law_row" "_law_row" s__law_row ["_law_script"]
  d_law_taken : Dfn K mg "_law_taken" "_law_taken" s__law_taken ["_law_row_here", "_law_many"]
  d_law_signed : Dfn K mg "_law_signed" "_law_signed" s__law_signed ["_law_row_here", "_law_most"]
  d_law_root : Dfn K mg "_law_root" "_law_root" s__law_root ["_law_number"]
  d_law_common : Dfn K mg "_law_common" "_law_common" s__law_common ["_law_one", "_law_other"]
  d_law_made : Dfn K mg "_law_made" "_law_made" s__law_made ["_law_a", "_law_b", "_law_c"]
  d_law_sum : Dfn K mg "_law_sum" "_law_sum" s__law_sum ["_law_one", "_law_other", "_law_by"]
  d_law_product : Dfn K mg "_law_product" "_law_product" s__law_product ["_law_one", "_law_other", "_law_d"]
  d_law_quotient : Dfn K mg "_law_quotient" "_law_quotient" s__law_quotient ["_law_one", "_law_other", "_law_d"]
  d_law_below : Dfn K mg "_law_below" "_law_below" s__law_below ["_law_one", "_law_d"]
  d_law_ruled : Dfn K mg "_law_ruled" "_law_ruled" s__law_ruled ["_law_row_here"]
  d_law_corners : Dfn K mg "_law_corners" "_law_corners" s__law_corners ["_law_numbers_here"]
  d_law_sure : Dfn K mg "_law_sure" "_law_sure" s__law_sure ["_law_corners_here"]
  d_law_moved : Dfn K mg "_law_moved" "_law_moved" s__law_moved ["_law_numbers_here", "_law_which", "_law_part"]
  d_law_ended : Dfn K mg "_law_ended" "_law_ended" s__law_ended ["_law_m", "_law_which"]
  d_law_rest : Dfn K mg "_law_rest" "_law_rest" s__law_rest ["_law_m"]
  d_law_apart : Dfn K mg "_law_apart" "_law_apart" s__law_apart ["_law_some"]
  d_law_numbers : Dfn K mg "_law_numbers" "_law_numbers" s__law_numbers ["_law_row_here", "_law_many"]
  d_law_any_leaf : Dfn K mg "_law_any_leaf" "_law_any_leaf" s__law_any_leaf ["_law_row_here"]
  d_law_any : Dfn K mg "_law_any" "_law_any" s__law_any ["_law_row_here", "_law_deep"]
  d_law_opened : Dfn K mg "_law_opened" "_law_opened" s__law_opened ["_law_tree"]
  d_law_took : Dfn K mg "_law_took" "_law_took" s__law_took ["_law_m"]
  d_law_leaf_told : Dfn K mg "_law_leaf_told" "_law_leaf_told" s__law_leaf_told ["_law_m", "_law_purse"]
  d_law_told : Dfn K mg "_law_told" "_law_told" s__law_told ["_law_m", "_law_purse"]
  d_law_first : Dfn K mg "_law_first" "_law_first" s__law_first ["_law_tree", "_law_many", "_law_most"]
  d_law_beside : Dfn K mg "_law_beside" "_law_beside" s__law_beside ["_law_ms", "_law_most"]
  d_law_pair : Dfn K mg "_law_pair" "_law_pair" s__law_pair ["_law_tree", "_law_size", "_law_most"]
  d_law_nearest : Dfn K mg "_law_nearest" "_law_nearest" s__law_nearest ["_law_tree", "_law_size", "_law_most"]
  d_law_asked : Dfn K mg "_law_asked" "_law_asked" s__law_asked ["_law_way", "_law_tree", "_law_other", "_law_many", "_law_most"]
  d_law : Dfn K mg "law" "law" s_law ["_law_script"]
  k_Purse : Mki K mg "Purse" C.c_Purse "Purse.__init__" s_Purse___init__ ["self", "left"]
  m_Reader_part : Mdf K [C.c_Fixed, C.c_Fraction, C.c_Root, C.c_Ruled, C.c_Four, C.c_Eight] "part" "Reader.part" s_Reader_part ["self", "most"]
  m_Reader_took : Mdf K [C.c_Fixed] "took" "Reader.took" s_Reader_took ["self"]
  k_Fixed : Mki K mg "Fixed" C.c_Fixed "Fixed.__init__" s_Fixed___init__ ["self", "top", "below", "begun"]
  m_Fixed_told : Mdf K [C.c_Fixed] "told" "Fixed.told" s_Fixed_told ["self", "purse"]
  i_Leaf : Cdf K mg "Leaf" "__init__" "Leaf.__init__" s_Leaf___init__ ["self"]
  m_Leaf_told : Mdf K [C.c_Fraction, C.c_Root, C.c_Ruled] "told" "Leaf.told" s_Leaf_told ["self", "purse"]
  m_Leaf_at_end : Mdf K [C.c_Root] "at_end" "Leaf.at_end" s_Leaf_at_end ["self"]
  m_Leaf_took : Mdf K [C.c_Fraction, C.c_Root, C.c_Ruled] "took" "Leaf.took" s_Leaf_took ["self"]
  k_Fraction : Mki K mg "Fraction" C.c_Fraction "Fraction.__init__" s_Fraction___init__ ["self", "top", "below"]
  m_Fraction_at_end : Mdf K [C.c_Fraction] "at_end" "Fraction.at_end" s_Fraction_at_end ["self"]
  m_Fraction_following : Mdf K [C.c_Fraction] "following" "Fraction.following" s_Fraction_following ["self"]
  k_Root : Mki K mg "Root" C.c_Root "Root.__init__" s_Root___init__ ["self", "top", "square", "below"]
  m_Root_following : Mdf K [C.c_Root] "following" "Root.following" s_Root_following ["self"]
  k_Ruled : Mki K mg "Ruled" C.c_Ruled "Ruled.__init__" s_Ruled___init__ ["self", "parts", "ring", "steps"]
  m_Ruled_at_end : Mdf K [C.c_Ruled] "at_end" "Ruled.at_end" s_Ruled_at_end ["self"]
  m_Ruled_following : Mdf K [C.c_Ruled] "following" "Ruled.following" s_Ruled_following ["self"]
  k_Four : Mki K mg "Four" C.c_Four "Four.__init__" s_Four___init__ ["self", "numbers", "inner", "ready", "begun"]
  m_Four_took : Mdf K [C.c_Four] "took" "Four.took" s_Four_took ["self"]
  m_Four_sure : Mdf K [C.c_Four] "sure" "Four.sure" s_Four_sure ["self"]
  m_Four_told : Mdf K [C.c_Four] "told" "Four.told" s_Four_told ["self", "purse"]
  k_Eight : Mki K mg "Eight" C.c_Eight "Eight.__init__" s_Eight___init__ ["self", "numbers", "one", "other"]
  m_Eight_took : Mdf K [C.c_Eight] "took" "Eight.took" s_Eight_took ["self"]
  m_Eight_sure : Mdf K [C.c_Eight] "sure" "Eight.sure" s_Eight_sure ["self"]
  m_Eight_told : Mdf K [C.c_Eight] "told" "Eight.told" s_Eight_told ["self", "purse"]
  m_Eight_take : Mdf K [C.c_Eight] "take" "Eight.take" s_Eight_take ["self", "which", "part"]
  m_Eight_left_of : Mdf K [C.c_Eight] "left_of" "Eight.left_of" s_Eight_left_of ["self", "which"]
  n_Purse_left : NoAttr K C.c_Purse "left"
  n_Fixed_top : NoAttr K C.c_Fixed "top"
  n_Fixed_below : NoAttr K C.c_Fixed "below"
  n_Fixed_begun : NoAttr K C.c_Fixed "begun"
  n_Fraction_many : NoAttr K C.c_Fraction "many"
  n_Fraction_top : NoAttr K C.c_Fraction "top"
  n_Fraction_below : NoAttr K C.c_Fraction "below"
  n_Root_many : NoAttr K C.c_Root "many"
  n_Root_top : NoAttr K C.c_Root "top"
  n_Root_square : NoAttr K C.c_Root "square"
  n_Root_below : NoAttr K C.c_Root "below"
  n_Root_floor : NoAttr K C.c_Root "floor"
  n_Ruled_many : NoAttr K C.c_Ruled "many"
  n_Ruled_first : NoAttr K C.c_Ruled "first"
  n_Ruled_ring : NoAttr K C.c_Ruled "ring"
  n_Ruled_steps : NoAttr K C.c_Ruled "steps"
  n_Four_numbers : NoAttr K C.c_Four "numbers"
  n_Four_inner : NoAttr K C.c_Four "inner"
  n_Four_ready : NoAttr K C.c_Four "ready"
  n_Four_begun : NoAttr K C.c_Four "begun"
  n_Four_fixed : NoAttr K C.c_Four "fixed"
  n_Eight_numbers : NoAttr K C.c_Eight "numbers"
  n_Eight_inners : NoAttr K C.c_Eight "inners"
  n_Eight_many : NoAttr K C.c_Eight "many"
  n_Eight_begun : NoAttr K C.c_Eight "begun"
  n_Eight_rest : NoAttr K C.c_Eight "rest"
  x_BadTree : Xcl K mg "BadTree" C.c_BadTree
  x_NoValue : Xcl K mg "NoValue" C.c_NoValue
  y_NoValue : mg "NoValue" = some (.ref C.c_NoValue)
  e_BadTree_NoValue : PySem.W.exmOne K (.ref C.c_BadTree) (.ref C.c_NoValue) = some false
  e_NoValue_NoValue : PySem.W.exmOne K (.ref C.c_NoValue) (.ref C.c_NoValue) = some true
  g_DEEPEST : ∃ t, mg "DEEPEST" = some (.int 5 t)
  g_MOST_NUMBER : ∃ t, mg "MOST_NUMBER" = some (.int 1000000000000 t)
  g_MOST_PARTS : ∃ t, mg "MOST_PARTS" = some (.int 12 t)
  g_MOST_POWER : ∃ t, mg "MOST_POWER" = some (.int 4 t)
  t_TIMES : TupK K mg "TIMES" C.a_TIMES [1, 0, 0, 0, 0, 0, 0, 1]
  b_divmod : mg "divmod" = none
  b_abs : mg "abs" = none
  b_bool : mg "bool" = none
  b_int : mg "int" = none
  b_isinstance : mg "isinstance" = none
  b_len : mg "len" = none
  b_list : mg "list" = none
  b_max : mg "max" = none
  b_min : mg "min" = none
  b_range : mg "range" = none
  b_reversed : mg "reversed" = none
  b_str : mg "str" = none
  b_sum : mg "sum" = none
  b_tuple : mg "tuple" = none
  b_zip : mg "zip" = none
def caOf (_ : PySem.W.Frag) : CA := {}
theorem newton1 {n f q g : Int} (hf : 0 < f) (hq : n < (q + 1) * f) (hg : f + q + 1 ≤ 2 * (g + 1)) (hg0 : 0 ≤ f + q + 1) : n < (g + 1) * (g + 1) := by
  have h1 := sq_nn (f - (q + 1))
  have h2 : (f + q + 1) * (f + q + 1) ≤ (2 * (g + 1)) * (2 * (g + 1)) := Int.mul_le_mul hg hg hg0 (by omega)
  grind
theorem newton2 {n f q g : Int} (hf : 0 < f) (h : n < f * f) (hq : q * f ≤ n) (hg : 2 * g ≤ f + q) : g < f := by
  have : q < f := by
    rcases Int.lt_or_le q f with h' | h'
    · exact h'
    · have := Int.mul_le_mul_of_nonneg_right h' (Int.le_of_lt hf)
      omega
  omega
theorem root_start {n : Int} (h0 : 0 ≤ n) : n < ((2 : Int) ^ ((Builtin.Int.intBits n + 1) / 2) + 1) * (2 ^ ((Builtin.Int.intBits n + 1) / 2) + 1) := by
  have h1 := lt_bits (n := n)
  have h2 : Builtin.Int.intBits n ≤ (Builtin.Int.intBits n + 1) / 2 + (Builtin.Int.intBits n + 1) / 2 := by omega
  have h3 : 2 ^ Builtin.Int.intBits n ≤ 2 ^ ((Builtin.Int.intBits n + 1) / 2) * 2 ^ ((Builtin.Int.intBits n + 1) / 2) := by
    rw [← Nat.pow_add]
    exact Nat.pow_le_pow_right (by decide) h2
  generalize hb : (2 : Nat) ^ ((Builtin.Int.intBits n + 1) / 2) = x at h3
  have e : ((2 : Int) ^ ((Builtin.Int.intBits n + 1) / 2)) = (x : Int) := by rw [← hb]; simp
  rw [e]
  have h4 : n.natAbs < x * x := Nat.lt_of_lt_of_le h1 h3
  have h5 : n < ((x * x : Nat) : Int) := by omega
  rw [Int.natCast_mul] at h5
  have h6 : (x : Int) * x ≤ (x + 1) * (x + 1) := Int.mul_le_mul (by omega) (by omega) (by omega) (by omega)
  omega
section
variable {P : Program} {w : World} {K : PySem.W.Frag} {mg : Str → Option Value} {base : Heap} {ca : CA} {C : CT} [Seer P base]
def F_root : AF := fun ds Ω Q _ => ∃ n : Int, ds = [.int n] ∧ 0 ≤ n ∧ n < 2 ^ 300 ∧ ∀ r, 0 ≤ r → r * r ≤ n → n < (r + 1) * (r + 1) → Q (.int r) Ω
theorem c_root_below (T : Txt K mg C) : Clb P w K mg base ca 1 "root_below" F_root := by
  refine clb T.d_root_below sc_root_below (fun ds Ω Q E h => ?_) (fun f cdv A outer s H E hr => ⟨_, _, (ass_cons (as_if (at_eqI (ae_var 0) ae_int) (ass_one (as_ret ae_int)) ass_nil)
      (ass_cons (as_set 1 sc_root_below.nd (ae_shl1 ae_int (ae_fdv (div_of hr) (ae_add (ae_bits (ae_var 0)) ae_int) ae_int)))
      (ass_cons (as_while (passes_of rfl) (at_gt (ae_mul (ae_var 1) (ae_var 1)) (ae_var 0)) (ass_one (as_set 1 sc_root_below.nd (ae_fdv (div_of hr) (ae_add (ae_var 1) (ae_fdv (div_of hr) (ae_var 0) (ae_var 1))) ae_int))))
      (ass_one (as_ret (ae_var 1)))))), fun ds Ω Qa Ea h => ?_⟩)
  · obtain ⟨n, rfl, _⟩ := h
    rfl
  · obtain ⟨n, rfl, h0, h1, k⟩ := h
    walk_at "pl"
    refine ite2 (fun e => k 0 (by omega) (by omega) (by omega)) (fun e => ⟨nopy (by decide) (by decide), (Builtin.Int.intBits n + 1) / 2, ?_, ?_, ?_⟩)
    · rw [Int.fdiv_eq_ediv_of_nonneg _ (by decide)]
      omega
    · have := bits_le (n := n) (b := 300) (by omega)
      omega
    · refine ⟨fun m ρ Ω' => ∃ g : Int, ρ = [some (.int n), some (.int g)] ∧ Ω' = Ω ∧ 0 < g ∧ g < 2 ^ 400 ∧ n < (g + 1) * (g + 1) ∧ m = g.toNat, ⟨_, _, rfl, rfl, Int.pow_pos (by decide), ?_, ?_, rfl⟩, ?_⟩
      · have h2 := bits_le (n := n) (b := 300) (by omega)
        exact Int.ofNat_lt.mpr (Nat.pow_lt_pow_right (by decide) (by omega) : 2 ^ ((Builtin.Int.intBits n + 1) / 2) < 2 ^ 400)
      · exact root_start h0
      · rintro m ρ Ω' ⟨g, rfl, rfl, g0, g1, g2, rfl⟩
        walk_at "pl"
        refine ⟨mulok (a := 400) (b := 400) (by omega) (by omega) (by decide), ?_⟩
        have q1 : n.fdiv g = n / g := Int.fdiv_eq_ediv_of_nonneg _ (by omega)
        have q2 : n / g * g ≤ n := Int.ediv_mul_le _ (by omega)
        have q3 : n < (n / g + 1) * g := Int.lt_ediv_add_one_mul_self _ g0
        have q4 : 0 ≤ n / g := Int.ediv_nonneg h0 (by omega)
        refine ite2 (fun e => ⟨nopy (by omega) (by omega), nopy (by decide) (by decide), ?_⟩) (fun e => k g (by omega) (by omega) g2)
        rw [q1]
        have q5 : (g + n / g).fdiv 2 = (g + n / g) / 2 := Int.fdiv_eq_ediv_of_nonneg _ (by decide)
        rw [q5]
        have q6 : (g + n / g) / 2 < g := newton2 g0 (by omega) q2 (by omega)
        have q7 : 2 ≤ g + n / g := by
          by_cases z : 1 ≤ n / g
          · omega
          · have z' : n / g = 0 := by omega
            rw [z'] at q3
            have : 1 < g := by omega
            omega
        exact ⟨((g + n / g) / 2).toNat, by omega, by omega, by omega, newton1 g0 q3 (by omega) (by omega), rfl⟩
def F_purse (C : CT) : AF := fun ds Ω Q _ => ∃ (p : Addr) (m : Int), ds = [.o p, .int m] ∧ Ω p = some (.obj C.c_Purse []) ∧ Q .non (oset Ω p (oPurse C m))
theorem mk_Purse (T : Txt K mg C) : Mkc P w K mg base ca 1 "Purse" C.c_Purse (F_purse C) := by
  refine mkc T.k_Purse sc_Purse___init__ (fun ds Ω Q E h => ?_) (fun f cdv A outer s H E hr => ⟨_, _, (ass_one (as_asg (ae_var 1) (ag_new (ae_var 0)))), fun ds Ω Qa Ea h => ?_⟩)
  · obtain ⟨_, _, rfl, _⟩ := h
    rfl
  · obtain ⟨p, m, rfl, ho, k⟩ := h
    walk_at "pl"
    exact ⟨_, _, ho, by walk_at "nm", T.n_Purse_left, by decide, k⟩
def F_fixed (C : CT) : AF := fun ds Ω Q _ => ∃ (p : Addr) (t b : Int) (g : Bool), ds = [.o p, .int t, .int b, .bl g] ∧ Ω p = some (.obj C.c_Fixed []) ∧ Q .non (oset Ω p (oFixed C t b g))
theorem mk_Fixed (T : Txt K mg C) : Mkc P w K mg base ca 1 "Fixed" C.c_Fixed (F_fixed C) := by
  refine mkc T.k_Fixed sc_Fixed___init__ (fun ds Ω Q E h => ?_) (fun f cdv A outer s H E hr => ⟨_, _, (ass_cons (as_asg (ae_var 1) (ag_new (ae_var 0)))
      (ass_cons (as_asg (ae_var 2) (ag_new (ae_var 0)))
      (ass_one (as_asg (ae_var 3) (ag_new (ae_var 0)))))), fun ds Ω Qa Ea h => ?_⟩)
  · obtain ⟨_, _, _, _, rfl, _⟩ := h
    rfl
  · obtain ⟨p, t, b, g, rfl, ho, k⟩ := h
    walk_at "pl"
    refine ⟨_, _, ho, by walk_at "nm", T.n_Fixed_top, by decide, ?_⟩
    walk_at "pl"
    refine ⟨by walk_at "nm", T.n_Fixed_below, by decide, ?_⟩
    walk_at "pl"
    exact ⟨by walk_at "nm", T.n_Fixed_begun, by decide, k⟩
def F_leafInit (K : PySem.W.Frag) : AF := fun ds Ω Q _ => ∃ (p c : Addr), ds = [.o p] ∧ Ω p = some (.obj c []) ∧ NoAttr K c "many" ∧ Q .non (oset Ω p (.obj c [("many", .int 0)]))
theorem cf_Leaf (T : Txt K mg C) : Cfn P w K mg base ca 1 "Leaf" "__init__" (F_leafInit K) := by
  refine cfn T.i_Leaf sc_Leaf___init__ (fun ds Ω Q E h => ?_) (fun f cdv A outer s H E hr => ⟨_, _, (ass_one (as_asg ae_int (ag_new (ae_var 0)))), fun ds Ω Qa Ea h => ?_⟩)
  · obtain ⟨_, _, rfl, _⟩ := h
    rfl
  · obtain ⟨p, c, rfl, ho, na, k⟩ := h
    walk_at "pl"
    exact ⟨_, _, ho, by walk_at "nm", na, by decide, k⟩
def F_frac (C : CT) : AF := fun ds Ω Q _ => ∃ (p : Addr) (t b : Int), ds = [.o p, .int t, .int b] ∧ Ω p = some (.obj C.c_Fraction []) ∧ Q .non (oset Ω p (oFrac C 0 t b))
theorem mk_Fraction (T : Txt K mg C) : Mkc P w K mg base ca 2 "Fraction" C.c_Fraction (F_frac C) := by
  refine mkc T.k_Fraction sc_Fraction___init__ (fun ds Ω Q E h => ?_) (fun f cdv A outer s H E hr => ⟨_, _, (ass_cons (as_expr (ae_ccall (cf_Leaf T) hr (takes_of rfl rfl rfl rfl) (by omega) (aa_cons (ae_var 0) aa_nil)))
      (ass_cons (as_asg (ae_var 1) (ag_new (ae_var 0)))
      (ass_one (as_asg (ae_var 2) (ag_new (ae_var 0)))))), fun ds Ω Qa Ea h => ?_⟩)
  · obtain ⟨_, _, _, rfl, _⟩ := h
    rfl
  · obtain ⟨p, t, b, rfl, ho, k⟩ := h
    walk_at "pl"
    refine ⟨p, _, rfl, ho, T.n_Fraction_many, ?_⟩
    walk_at "pl"
    refine ⟨by walk_at "nm", T.n_Fraction_top, by decide, ?_⟩
    walk_at "pl"
    exact ⟨by walk_at "nm", T.n_Fraction_below, by decide, k⟩
def F_rootI (C : CT) : AF := fun ds Ω Q _ => ∃ (p : Addr) (t s b : Int), ds = [.o p, .int t, .int s, .int b] ∧ Ω p = some (.obj C.c_Root []) ∧ 0 ≤ s ∧ s < 2 ^ 300 ∧ ∀ f, 0 ≤ f → f * f ≤ s → s < (f + 1) * (f + 1) → Q .non (oset Ω p (oRoot C 0 t s b f))
theorem mk_Root (T : Txt K mg C) : Mkc P w K mg base ca 2 "Root" C.c_Root (F_rootI C) := by
  refine mkc T.k_Root sc_Root___init__ (fun ds Ω Q E h => ?_) (fun f cdv A outer s H E hr => ⟨_, _, (ass_cons (as_expr (ae_ccall (cf_Leaf T) hr (takes_of rfl rfl rfl rfl) (by omega) (aa_cons (ae_var 0) aa_nil)))
      (ass_cons (as_asg (ae_var 1) (ag_new (ae_var 0)))
      (ass_cons (as_asg (ae_var 2) (ag_new (ae_var 0)))
      (ass_cons (as_asg (ae_var 3) (ag_new (ae_var 0)))
      (ass_one (as_asg (ae_call (c_root_below T) hr (takes_of rfl rfl rfl rfl) (by omega) (aa_cons (ae_var 2) aa_nil)) (ag_new (ae_var 0)))))))), fun ds Ω Qa Ea h => ?_⟩)
  · obtain ⟨_, _, _, _, rfl, _⟩ := h
    rfl
  · obtain ⟨p, t, s, b, rfl, ho, s0, s1, k⟩ := h
    walk_at "pl"
    refine ⟨p, _, rfl, ho, T.n_Root_many, ?_⟩
    walk_at "pl"
    refine ⟨by walk_at "nm", T.n_Root_top, by decide, ?_⟩
    walk_at "pl"
    refine ⟨by walk_at "nm", T.n_Root_square, by decide, ?_⟩
    walk_at "pl"
    refine ⟨by walk_at "nm", T.n_Root_below, by decide, ?_⟩
    refine ⟨s, rfl, s0, s1, fun f f0 f1 f2 => ?_⟩
    walk_at "pl"
    exact ⟨by walk_at "nm", T.n_Root_floor, by decide, k f f0 f1 f2⟩
def F_ruledI (C : CT) : AF := fun ds Ω Q _ => ∃ (p : Addr) (ps ring steps : List Int), ds = [.o p, dtup ps, dtup ring, dtup steps] ∧ Ω p = some (.obj C.c_Ruled []) ∧ Q .non (oset Ω p (oRuled C 0 ps ring steps))
theorem mk_Ruled (T : Txt K mg C) : Mkc P w K mg base ca 2 "Ruled" C.c_Ruled (F_ruledI C) := by
  refine mkc T.k_Ruled sc_Ruled___init__ (fun ds Ω Q E h => ?_) (fun f cdv A outer s H E hr => ⟨_, _, (ass_cons (as_expr (ae_ccall (cf_Leaf T) hr (takes_of rfl rfl rfl rfl) (by omega) (aa_cons (ae_var 0) aa_nil)))
      (ass_cons (as_asg (ae_var 1) (ag_new (ae_var 0)))
      (ass_cons (as_asg (ae_var 2) (ag_new (ae_var 0)))
      (ass_one (as_asg (ae_var 3) (ag_new (ae_var 0))))))), fun ds Ω Qa Ea h => ?_⟩)
  · obtain ⟨_, _, _, _, rfl, _⟩ := h
    rfl
  · obtain ⟨p, ps, ring, steps, rfl, ho, k⟩ := h
    walk_at "pl"
    refine ⟨p, _, rfl, ho, T.n_Ruled_many, ?_⟩
    walk_at "pl"
    refine ⟨by walk_at "nm", T.n_Ruled_first, by decide, ?_⟩
    walk_at "pl"
    refine ⟨by walk_at "nm", T.n_Ruled_ring, by decide, ?_⟩
    walk_at "pl"
    exact ⟨by walk_at "nm", T.n_Ruled_steps, by decide, k⟩
def F_fracEnd (C : CT) : AF := fun ds Ω Q _ => ∃ (p : Addr) (k t b : Int), ds = [.o p] ∧ Ω p = some (oFrac C k t b) ∧ Q (.bl (decide (b = 0))) Ω
theorem m_fracEnd (T : Txt K mg C) : ∀ D ∈ [C.c_Fraction], Mth P w K mg base ca 1 D "at_end" (F_fracEnd C) := by
  refine mth T.m_Fraction_at_end sc_Fraction_at_end (fun ds Ω Q E h => ?_) (fun f cdv A outer s H E hr => ⟨_, _, (ass_one (as_ret (ae_eqI (ae_fld 2 (ae_var 0)) ae_int))), fun ds Ω Qa Ea h => ?_⟩)
  · obtain ⟨_, _, _, _, rfl, _⟩ := h
    rfl
  · obtain ⟨p, k, t, b, rfl, ho, q⟩ := h
    walk_at "pl"
    simp only [ho]
    walk_at "pl"
    exact q
def F_noEnd : AF := fun ds Ω Q _ => ∃ p : Addr, ds = [.o p] ∧ Q (.bl false) Ω
theorem m_rootEnd (T : Txt K mg C) : ∀ D ∈ [C.c_Root], Mth P w K mg base ca 1 D "at_end" F_noEnd := by
  refine mth T.m_Leaf_at_end sc_Leaf_at_end (fun ds Ω Q E h => ?_) (fun f cdv A outer s H E hr => ⟨_, _, (ass_one (as_ret ae_bl)), fun ds Ω Qa Ea h => ?_⟩)
  · obtain ⟨_, rfl, _⟩ := h
    rfl
  · obtain ⟨p, rfl, q⟩ := h
    walk_at "pl"
    exact q
def F_fracNext (C : CT) : AF := fun ds Ω Q _ => ∃ (p : Addr) (k t b : Int), ds = [.o p] ∧ Ω p = some (oFrac C k t b) ∧ b ≠ 0 ∧ Sm t ∧ Sm b ∧ Q (.int (t.fdiv b)) (oset Ω p (oFrac C k b (t - t.fdiv b * b)))
theorem sm_nopy {i j : Int} (h : j ≠ 0) (_ : Sm j) : NoPy i j := h
theorem sm_mul {i j : Int} (h : Sm i) (hj : Sm j) : IntMulOk i j := mulok h hj (by decide)
theorem sm_fdiv {i j : Int} (h : Sm i) : Sm (i.fdiv j) := Nat.lt_of_le_of_lt fdiv_le h
theorem m_fracNext (T : Txt K mg C) : ∀ D ∈ [C.c_Fraction], Mth P w K mg base ca 1 D "following" (F_fracNext C) := by
  refine mth T.m_Fraction_following sc_Fraction_following (fun ds Ω Q E h => ?_) (fun f cdv A outer s H E hr => ⟨_, _, (ass_cons (as_set 1 sc_Fraction_following.nd (ae_fdv (div_of hr) (ae_fld 1 (ae_var 0)) (ae_fld 2 (ae_var 0))))
      (ass_cons (as_asg (ae_tup (aa_cons (ae_fld 2 (ae_var 0)) (aa_cons (ae_sub (ae_fld 1 (ae_var 0)) (ae_mul (ae_var 1) (ae_fld 2 (ae_var 0)))) aa_nil))) (ag_tupG (n := 2) rfl (agl_cons (ag_fld 1 (ae_var 0)) (agl_cons (ag_fld 2 (ae_var 0)) agl_nil))))
      (ass_one (as_ret (ae_var 1))))), fun ds Ω Qa Ea h => ?_⟩)
  · obtain ⟨_, _, _, _, rfl, _⟩ := h
    rfl
  · obtain ⟨p, k, t, b, rfl, ho, b0, ht, hb, q⟩ := h
    walk_at "pl"
    simp only [ho]
    walk_at "pl"
    exact ⟨sm_nopy b0 hb, sm_mul (sm_fdiv ht) hb, by decide, by decide, by decide, q⟩
def F_rootNext (C : CT) : AF := fun ds Ω Q _ => ∃ (p : Addr) (k t s b f q t' : Int), ds = [.o p] ∧ Ω p = some (oRoot C k t s b f) ∧ b ≠ 0 ∧ Sm t ∧ Sm s ∧ Sm b ∧ Sm f ∧ q = (t + f + (if b < 0 then 1 else 0)).fdiv b ∧ t' = q * b - t ∧ Sm t' ∧ Q (.int q) (oset Ω p (oRoot C k t' s ((s - t' * t').fdiv b) f))
theorem m_rootNext (T : Txt K mg C) : ∀ D ∈ [C.c_Root], Mth P w K mg base ca 1 D "following" (F_rootNext C) := by
  refine mth T.m_Root_following sc_Root_following (fun ds Ω Q E h => ?_) (fun f cdv A outer s H E hr => ⟨_, _, (ass_cons (as_set 1 sc_Root_following.nd (ae_fdv (div_of hr) (ae_add (ae_add (ae_fld 1 (ae_var 0)) (ae_fld 4 (ae_var 0))) (ae_intB rfl T.b_int (ae_lt (ae_fld 3 (ae_var 0)) ae_int))) (ae_fld 3 (ae_var 0))))
      (ass_cons (as_asg (ae_sub (ae_mul (ae_var 1) (ae_fld 3 (ae_var 0))) (ae_fld 1 (ae_var 0))) (ag_fld 1 (ae_var 0)))
      (ass_cons (as_asg (ae_fdv (div_of hr) (ae_sub (ae_fld 2 (ae_var 0)) (ae_mul (ae_fld 1 (ae_var 0)) (ae_fld 1 (ae_var 0)))) (ae_fld 3 (ae_var 0))) (ag_fld 3 (ae_var 0)))
      (ass_one (as_ret (ae_var 1)))))), fun ds Ω Qa Ea h => ?_⟩)
  · obtain ⟨_, _, _, _, _, _, _, _, rfl, _⟩ := h
    rfl
  · obtain ⟨p, k, t, s, b, f, q, t', rfl, ho, b0, ht, hs, hb, hf, eq, et, ht', kk⟩ := h
    walk_at "pl"
    simp only [ho]
    walk_at "pl"
    rw [← eq, ← et]
    have hq : q.natAbs < 2 ^ 290002 := by
      have h1 : q.natAbs ≤ (t + f + (if b < 0 then 1 else 0)).natAbs := by rw [eq]; exact fdiv_le
      have h2 : t.natAbs < 2 ^ 290000 := ht
      have h3 : f.natAbs < 2 ^ 290000 := hf
      have h4 : (2 : Nat) ^ 290002 = 2 ^ 290000 * 4 := by rw [show 290002 = 290000 + 2 from rfl, Nat.pow_add]
      generalize (2 : Nat) ^ 290002 = X at h4 ⊢
      generalize (2 : Nat) ^ 290000 = Y at h2 h3 h4
      split at h1 <;> omega
    exact ⟨sm_nopy b0 hb, mulok hq hb (by decide), by decide, sm_mul ht' ht', sm_nopy b0 hb, by decide, kk⟩
def F_ruEnd (C : CT) : AF := fun ds Ω Q _ => ∃ (p : Addr) (k : Int) (ps ring steps : List Int), ds = [.o p] ∧ Ω p = some (oRuled C k ps ring steps) ∧ Q (.bl (decide (ring = [] ∧ ps.length ≤ k))) Ω
theorem m_ruEnd (T : Txt K mg C) : ∀ D ∈ [C.c_Ruled], Mth P w K mg base ca 1 D "at_end" (F_ruEnd C) := by
  refine mth T.m_Ruled_at_end sc_Ruled_at_end (fun ds Ω Q E h => ?_) (fun f cdv A outer s H E hr => ⟨_, _, (ass_one (as_ret (ae_and (ae_eqD hr.units (ae_fld 2 (ae_var 0)) (ae_tup aa_nil)) (ae_one (ae_ge (ae_fld 0 (ae_var 0)) (ae_len rfl T.b_len (ae_fld 1 (ae_var 0)))))))), fun ds Ω Qa Ea h => ?_⟩)
  · obtain ⟨_, _, _, _, _, rfl, _⟩ := h
    rfl
  · obtain ⟨p, k, ps, ring, steps, rfl, ho, kk⟩ := h
    walk_at "pl"
    simp only [ho]
    walk_at "pl"
    refine ⟨Nat.zero_le _, fEq_nil ⟨_, rfl, ?_⟩⟩
    simp only [Bool.false_eq_true, if_false]
    by_cases hr : ring = []
    · rw [decide_eq_true hr, if_pos rfl]
      simp only [ho]
      walk_at "pl"
      rw [List.length_map]
      have e : (decide (ring = [] ∧ (ps.length : Int) ≤ k)) = decide ((ps.length : Int) ≤ k) := by simp only [hr, true_and]
      rw [e] at kk
      exact kk
    · rw [decide_eq_false hr, if_neg (by decide)]
      have e : (decide (ring = [] ∧ (ps.length : Int) ≤ k)) = false := by simp only [hr, false_and]; rfl
      rw [e] at kk
      exact kk
def F_ruNext (C : CT) : AF := fun ds Ω Q _ => ∃ (p : Addr) (k : Nat) (ps ring steps : List Int), ds = [.o p] ∧ Ω p = some (oRuled C ((k : Int) + 1) ps ring steps) ∧ (ring = [] → k < ps.length) ∧ steps.length = ring.length ∧ k < 2 ^ 60 ∧ ps.length < 2 ^ 60 ∧ ring.length < 2 ^ 60 ∧ (∀ n ∈ ring ++ steps, Sm n) ∧ Q (.int (ruV k ps ring steps)) Ω
theorem m_ruNext (T : Txt K mg C) : ∀ D ∈ [C.c_Ruled], Mth P w K mg base ca 1 D "following" (F_ruNext C) := by
  refine mth T.m_Ruled_following sc_Ruled_following (fun ds Ω Q E h => ?_) (fun f cdv A outer s H E hr => ⟨_, _, (ass_cons (as_set 1 sc_Ruled_following.nd (ae_sub (ae_fld 0 (ae_var 0)) ae_int))
      (ass_cons (as_if (at_lt (ae_var 1) (ae_len rfl T.b_len (ae_fld 1 (ae_var 0)))) (ass_one (as_ret (ae_ix (ae_fld 1 (ae_var 0)) (ae_var 1)))) ass_nil)
      (ass_cons (as_set 1 sc_Ruled_following.nd (ae_sub (ae_var 1) (ae_len rfl T.b_len (ae_fld 1 (ae_var 0)))))
      (ass_cons (as_set 2 sc_Ruled_following.nd (ae_fdv (div_of hr) (ae_var 1) (ae_len rfl T.b_len (ae_fld 2 (ae_var 0)))))
      (ass_one (as_ret (ae_add (ae_ix (ae_fld 2 (ae_var 0)) (ae_mod (ae_var 1) (ae_len rfl T.b_len (ae_fld 2 (ae_var 0))))) (ae_mul (ae_var 2) (ae_ix (ae_fld 3 (ae_var 0)) (ae_mod (ae_var 1) (ae_len rfl T.b_len (ae_fld 2 (ae_var 0))))))))))))), fun ds Ω Qa Ea h => ?_⟩)
  · obtain ⟨_, _, _, _, _, rfl, _⟩ := h
    rfl
  · obtain ⟨p, k, ps, ring, steps, rfl, ho, h1, h2, h3, h4, h5, h6, kk⟩ := h
    walk_at "pl"
    simp only [ho]
    walk_at "pl"
    simp only [List.length_map]
    unfold ruV at kk
    have e0 : (k : Int) + 1 - 1 = k := by omega
    rw [e0]
    refine ite2 (fun e => ?_) (fun e => ?_)
    · have e' : k < ps.length := by omega
      rw [if_pos e'] at kk
      exact ⟨_, getD_at e' rfl, kk⟩
    · have e' : ¬ k < ps.length := by omega
      rw [if_neg e'] at kk
      have hr : 0 < ring.length := List.length_pos_iff.mpr fun z => e' (h1 z)
      have e1 : (k : Int) - ps.length = ((k - ps.length : Nat) : Int) := by omega
      have hm : (k - ps.length) % ring.length < ring.length := Nat.mod_lt _ hr
      have f1 : ((k - ps.length : Nat) : Int).fmod (ring.length : Int) = (((k - ps.length) % ring.length : Nat) : Int) := by rw [Int.fmod_eq_emod_of_nonneg _ (by omega)]; rfl
      have f2 : ((k - ps.length : Nat) : Int).fdiv (ring.length : Int) = (((k - ps.length) / ring.length : Nat) : Int) := by rw [Int.fdiv_eq_ediv_of_nonneg _ (by omega)]; rfl
      rw [e1, f1, f2]
      have hs : Sm (steps.getD ((k - ps.length) % ring.length) 0) := h6 _ (List.mem_append_right _ (getD_mem (by rw [h2]; exact hm)))
      have hd : (k - ps.length) / ring.length ≤ k - ps.length := Nat.div_le_self _ _
      generalize (k - ps.length) / ring.length = qq at hd kk ⊢
      exact ⟨nopy (by omega) (Nat.lt_of_lt_of_le (m := 2 ^ 60) (by omega) (Nat.pow_le_pow_right (by decide) (by decide))), by omega, _, getD_at hm rfl, by omega, _, getD_at (by rw [h2]; exact hm) rfl, _, rfl, mulok_l (by omega) (by omega), _, rfl, kk⟩
/-- all but S and pu stand -/
def Fr (S : List Addr) (pu : Addr) (Ω Ω' : Om) : Prop := ∀ b, b ∉ S → b ≠ pu → Ω b ≠ none → Ω' b = Ω b
/-- a four keeps its inner reader -/
def Inn (kd : Kd) (p : Addr) (Ω Ω' : Om) : Prop := kd = .four → ∃ c fs c' fs', Ω p = some (.obj c fs) ∧ Ω' p = some (.obj c' fs') ∧ fs'[1]? = fs[1]?
def F_told (C : CT) (kd : Kd) (L : Nat) : AF := fun ds Ω Q E => ∃ (p pu : Addr) (r : R) (S : List Addr) (n : Nat) (m : Int) (r' : R) (m' : Int) (ans : Ans), ds = [.o p, .o pu] ∧ r.kd = kd ∧ r.lv ≤ L ∧ RdO C Ω p r S ∧ Ω pu = some (oPurse C m) ∧ pu ∉ S ∧ Told n r m r' m' ans ∧
  ∀ (Ω' : Om) (S' : List Addr), RdO C Ω' p r' S' → Ω' pu = some (oPurse C m') → Fr S pu Ω Ω' → (∀ b ∈ S', b ∈ S ∨ Ω b = none) → Inn kd p Ω Ω' → ans.ok C Q E Ω'
theorem told_len {C : CT} {kd : Kd} {L : Nat} : ∀ ds Ω Q E, F_told C kd L ds Ω Q E → ds.length = (["self", "purse"] : List Str).length := by
  rintro ds Ω Q E ⟨_, _, _, _, _, _, _, _, _, rfl, _⟩
  rfl
theorem fr_set {S : List Addr} {pu p : Addr} {Ω : Om} {o : AO} (h : p ∈ S) : Fr S pu Ω (oset Ω p o) := fun b hb _ _ => oset_ne fun e => hb (e ▸ h)
theorem fr_refl {S : List Addr} {pu : Addr} {Ω : Om} : Fr S pu Ω Ω := fun _ _ _ _ => rfl
theorem m_fixedTold (T : Txt K mg C) : ∀ D ∈ [C.c_Fixed], Mth P w K mg base ca 1 D "told" (F_told C .fixed 1) := by
  refine mth T.m_Fixed_told sc_Fixed_told told_len (fun f cdv A outer s H E hr => ⟨_, _, (ass_cons (as_if (at_eqI (ae_fld 1 (ae_var 0)) ae_int) (ass_cons (as_if (at_not (at_val (ae_fld 2 (ae_var 0)))) (ass_one (as_raise rfl (takes_of rfl rfl rfl rfl) T.x_NoValue)) ass_nil)
      (ass_one (as_ret (ae_tup (aa_cons ae_str aa_nil))))) ass_nil)
      (ass_cons (as_set 2 sc_Fixed_told.nd (ae_fdv (div_of hr) (ae_fld 0 (ae_var 0)) (ae_fld 1 (ae_var 0))))
      (ass_cons (as_asg ae_bl (ag_fld 2 (ae_var 0)))
      (ass_cons (as_asg (ae_tup (aa_cons (ae_fld 1 (ae_var 0)) (aa_cons (ae_sub (ae_fld 0 (ae_var 0)) (ae_mul (ae_var 2) (ae_fld 1 (ae_var 0)))) aa_nil))) (ag_tupG (n := 2) rfl (agl_cons (ag_fld 0 (ae_var 0)) (agl_cons (ag_fld 1 (ae_var 0)) agl_nil))))
      (ass_one (as_ret (ae_tup (aa_cons ae_str (aa_cons (ae_var 2) aa_nil))))))))), fun ds Ω Qa Ea h => ?_⟩)
  obtain ⟨p, pu, r, S, n, m, r', m', ans, rfl, hk, hl, hR, hp, hn, ht, k⟩ := h
  cases hR with
  | fixed ho =>
    rename_i t b g
    walk_at "pl"
    simp only [ho]
    walk_at "pl"
    cases ht with
    | fxEnd => exact ⟨by decide, k _ _ (.fixed ho) hp fr_refl (fun b hb => .inl hb) nofun⟩
    | fxNo => exact k _ _ (.fixed ho) hp fr_refl (fun b hb => .inl hb) nofun
    | fxPart b0 h1 h2 =>
      rw [if_neg b0]
      have hne : pu ≠ p := fun e => hn (by simp [e])
      exact ⟨sm_nopy b0 h2, by decide, sm_mul (sm_fdiv h1) h2, by decide, by decide, by decide, by decide, k _ _ (.fixed oset_same) ((oset_ne hne).trans hp) (fr_set (by simp)) (fun b hb => .inl hb) nofun⟩
  | _ => cases hk
theorem fr_two {S : List Addr} {pu p : Addr} {Ω : Om} {o u : AO} (h : p ∈ S) : Fr S pu Ω (oset (oset Ω pu u) p o) := fun b hb hp _ => by rw [oset_ne (fun e => hb (by rw [e]; exact h)), oset_ne hp]
theorem m_leafTold (T : Txt K mg C) : ∀ D ∈ [C.c_Fraction, C.c_Root, C.c_Ruled], Mth P w K mg base ca 2 D "told" (F_told C .leaf 3) := by
  refine mth T.m_Leaf_told sc_Leaf_told told_len (fun f cdv A outer s H E hr => ⟨_, _, (ass_cons (as_if (at_val (ae_meth0 (k := 1) hr (takes_of rfl rfl rfl rfl) (by omega) (ae_var 0))) (ass_one (as_ret (ae_tup (aa_cons ae_str aa_nil)))) ass_nil)
      (ass_cons (as_if (at_eqI (ae_fld 0 (ae_var 1)) ae_int) (ass_one (as_ret (ae_tup (aa_cons ae_str aa_nil)))) ass_nil)
      (ass_cons (as_asg (ae_sub (ae_fld 0 (ae_var 1)) ae_int) (ag_fld 0 (ae_var 1)))
      (ass_cons (as_asg (ae_add (ae_fld 0 (ae_var 0)) ae_int) (ag_fld 0 (ae_var 0)))
      (ass_one (as_ret (ae_tup (aa_cons ae_str (aa_cons (ae_meth0 (k := 1) hr (takes_of rfl rfl rfl rfl) (by omega) (ae_var 0)) aa_nil))))))))), fun ds Ω Qa Ea h => ?_⟩)
  obtain ⟨p, pu, r, S, n, m, r', m', ans, rfl, hk, hl, hR, hp, hn, ht, k⟩ := h
  cases hR with
  | frac ho =>
    rename_i kk t b
    have hne : pu ≠ p := fun e => hn (by simp [e])
    have hne' : p ≠ pu := Ne.symm hne
    walk_at "pl"
    refine ⟨_, _, ho, by walk_at "nm", F_fracEnd C, m_fracEnd T _ (by simp), p, kk, t, b, rfl, ho, _, rfl, ?_⟩
    cases ht with
    | frEnd => exact ⟨by decide, k _ _ (.frac ho) hp fr_refl (fun b hb => .inl hb) nofun⟩
    | frWait b0 =>
      rw [if_neg (by simp [b0])]
      simp only [hp]
      walk_at "pl"
      exact ⟨by decide, k _ _ (.frac ho) hp fr_refl (fun b hb => .inl hb) nofun⟩
    | frPart b0 m0 h1 h2 =>
      rw [if_neg (by simp [b0])]
      simp only [hp]
      walk_at "pl"
      rw [if_neg m0]
      refine ⟨by decide, ?_⟩
      simp only [oset_ne hne', ho]
      walk_at "pl"
      refine ⟨by decide, by decide, F_fracNext C, m_fracNext T _ (by simp), p, kk + 1, t, b, rfl, oset_same, b0, h1, h2, by decide, ?_⟩
      rw [oset_oset]
      exact k _ _ (.frac oset_same) ((oset_ne hne).trans oset_same) (fr_two (by simp)) (fun b hb => .inl hb) nofun
  | root ho =>
    rename_i kk t s' b f'
    have hne : pu ≠ p := fun e => hn (by simp [e])
    have hne' : p ≠ pu := Ne.symm hne
    walk_at "pl"
    refine ⟨_, _, ho, by walk_at "nm", F_noEnd, m_rootEnd T _ (by simp), p, rfl, _, rfl, ?_⟩
    rw [if_neg (by decide)]
    simp only [hp]
    walk_at "pl"
    cases ht with
    | rtWait => exact ⟨by decide, k _ _ (.root ho) hp fr_refl (fun b hb => .inl hb) nofun⟩
    | rtPart m0 b0 h1 h2 h3 h4 h5 h6 h7 =>
      rename_i q t'
      rw [if_neg m0]
      refine ⟨by decide, ?_⟩
      simp only [oset_ne hne', ho]
      walk_at "pl"
      refine ⟨by decide, by decide, F_rootNext C, m_rootNext T _ (by simp), p, kk + 1, t, s', b, f', q, t', rfl, oset_same, b0, h1, h2, h3, h4, h5, h6, h7, by decide, ?_⟩
      rw [oset_oset]
      exact k _ _ (.root oset_same) ((oset_ne hne).trans oset_same) (fr_two (by simp)) (fun b hb => .inl hb) nofun
  | ruled ho =>
    rename_i kk ps ring steps
    have hne : pu ≠ p := fun e => hn (by simp [e])
    have hne' : p ≠ pu := Ne.symm hne
    walk_at "pl"
    refine ⟨_, _, ho, by walk_at "nm", F_ruEnd C, m_ruEnd T _ (by simp), p, kk, ps, ring, steps, rfl, ho, _, rfl, ?_⟩
    cases ht with
    | ruEnd h1 =>
      rw [if_pos (by simp; omega)]
      exact ⟨by decide, k _ _ (.ruled ho) hp fr_refl (fun b hb => .inl hb) nofun⟩
    | ruWait h1 =>
      rw [if_neg (by simp; intro z; have := h1 z; omega)]
      simp only [hp]
      walk_at "pl"
      exact ⟨by decide, k _ _ (.ruled ho) hp fr_refl (fun b hb => .inl hb) nofun⟩
    | ruPart h1 m0 h2 h3 h4 h5 h6 =>
      rw [if_neg (by simp; intro z; have := h1 z; omega)]
      simp only [hp]
      walk_at "pl"
      rw [if_neg m0]
      refine ⟨by decide, ?_⟩
      simp only [oset_ne hne', ho]
      walk_at "pl"
      refine ⟨by decide, by decide, F_ruNext C, m_ruNext T _ (by simp), p, kk, ps, ring, steps, rfl, oset_same, h1, h2, h3, h4, h5, h6, by decide, ?_⟩
      exact k _ _ (.ruled oset_same) ((oset_ne hne).trans oset_same) (fr_two (by simp)) (fun b hb => .inl hb) nofun
  | _ => cases hk
structure Tolds (P : Program) (w : World) (K : PySem.W.Frag) (mg : Str → Option Value) (base : Heap) (ca : CA) (C : CT) (L : Nat) : Prop where
  all : ∀ kd, ∀ D ∈ C.cls kd, Mth P w K mg base ca L D "told" (F_told C kd L)
theorem F_told_leaf {C : CT} {L M : Nat} (hL : 3 ≤ L) : ∀ ds Ω Q E, F_told C .leaf M ds Ω Q E → F_told C .leaf L ds Ω Q E := by
  rintro ds Ω Q E ⟨p, pu, r, S, n, m, r', m', ans, e, hk, hl, z⟩
  exact ⟨p, pu, r, S, n, m, r', m', ans, e, hk, by rw [R.lv_leaf hk]; omega, z⟩
theorem F_told_fixed {C : CT} {L M : Nat} (hL : 1 ≤ L) : ∀ ds Ω Q E, F_told C .fixed M ds Ω Q E → F_told C .fixed L ds Ω Q E := by
  rintro ds Ω Q E ⟨p, pu, r, S, n, m, r', m', ans, e, hk, hl, z⟩
  exact ⟨p, pu, r, S, n, m, r', m', ans, e, hk, by rw [R.lv_fixed hk]; omega, z⟩
theorem tolds3 (T : Txt K mg C) : Tolds P w K mg base ca C 3 := by
  refine ⟨fun kd D hD => ?_⟩
  cases kd with
  | fixed => exact ((m_fixedTold T D hD).imp (F_told_fixed (by decide))).mono (by decide)
  | leaf => exact ((m_leafTold T D hD).imp (F_told_leaf (by decide))).mono (by decide)
  | four => exact mth_none T.m_Four_told (fun ds Ω Q E ⟨p, pu, r, S, n, m, r', m', ans, e, hk, hl, z⟩ => by have := R.lv_four hk; omega) D hD
  | eight => exact mth_none T.m_Eight_told (fun ds Ω Q E ⟨p, pu, r, S, n, m, r', m', ans, e, hk, hl, z⟩ => by have := R.lv_eight hk; omega) D hD
def F_part (C : CT) (L : Nat) : AF := fun ds Ω Q E => ∃ (p : Addr) (r : R) (S : List Addr) (n : Nat) (m : Int) (r' : R) (m' : Int) (ans : Ans), ds = [.o p, .int m] ∧ r.lv ≤ L ∧ RdO C Ω p r S ∧ Told n r m r' m' ans ∧
  ∀ (Ω' : Om) (S' : List Addr), RdO C Ω' p r' S' → (∀ b, b ∉ S → Ω b ≠ none → Ω' b = Ω b) → (∀ b ∈ S', b ∈ S ∨ Ω b = none) → ans.ok C Q E Ω'
theorem m_part (T : Txt K mg C) {L : Nat} (tl : Tolds P w K mg base ca C L) : ∀ D ∈ [C.c_Fixed, C.c_Fraction, C.c_Root, C.c_Ruled, C.c_Four, C.c_Eight], Mth P w K mg base ca (L + 2 + 1) D "part" (F_part C L) := by
  refine mth T.m_Reader_part sc_Reader_part (fun ds Ω Q E h => ?_) (fun f cdv A outer s H E hr => ⟨_, _, (ass_one (as_ret (ae_meth (k := L) hr (takes_of rfl rfl rfl rfl) (by omega) (ae_var 0) (aa_cons (ae_make (mk_Purse T) hr (takes_of rfl rfl rfl rfl) (by omega) (aa_cons (ae_var 1) aa_nil)) aa_nil)))), fun ds Ω Qa Ea h => ?_⟩)
  · obtain ⟨_, _, _, _, _, _, _, _, rfl, _⟩ := h
    rfl
  · obtain ⟨p, r, S, n, m, r', m', ans, rfl, hl, hR, ht, k⟩ := h
    obtain ⟨c, fs, ho, hm, hc⟩ := hR.obj
    walk_at "pl"
    refine ⟨c, fs, ho, hm _ (.inl rfl), F_told C r.kd L, tl.all r.kd c hc, fun pu hpu => ⟨pu, m, rfl, oset_same, rfl, ?_⟩⟩
    have hS : ∀ b ∈ S, b ≠ pu := fun b hb e => hR.there b hb (by rw [e]; exact hpu)
    rw [oset_oset]
    refine ⟨p, pu, r, S, n, m, r', m', ans, rfl, rfl, hl, hR.keep fun b hb => oset_ne (hS b hb), oset_same, fun z => hS pu z rfl, ht, fun Ω' S' hR' hp' fr fs' _ => ?_⟩
    have fr' : ∀ b, b ∉ S → Ω b ≠ none → Ω' b = Ω b := fun b hb hn => by
      have hne : b ≠ pu := fun e => hn (by rw [e]; exact hpu)
      rw [fr b hb hne (by rw [oset_ne hne]; exact hn), oset_ne hne]
    have q := k Ω' S' hR' fr' fun b hb => (fs' b hb).imp id fun z => by
      by_cases e : b = pu
      · rw [e]; exact hpu
      · rwa [oset_ne e] at z
    cases ans <;> exact q
def F_took (C : CT) (r : R → Prop) : AF := fun ds Ω Q _ => ∃ (p : Addr) (x : R) (S : List Addr), ds = [.o p] ∧ RdO C Ω p x S ∧ r x ∧ Q (.int x.tk) Ω
theorem m_leafTook (T : Txt K mg C) : ∀ D ∈ [C.c_Fraction, C.c_Root, C.c_Ruled], Mth P w K mg base ca 1 D "took" (F_took C fun r => r.kd = .leaf) := by
  refine mth T.m_Leaf_took sc_Leaf_took (fun ds Ω Q E h => ?_) (fun f cdv A outer s H E hr => ⟨_, _, (ass_one (as_ret (ae_fld 0 (ae_var 0)))), fun ds Ω Qa Ea h => ?_⟩)
  · obtain ⟨_, _, _, rfl, _⟩ := h
    rfl
  · obtain ⟨p, x, S, rfl, hR, hk, k⟩ := h
    cases hR with
    | frac ho =>
      walk_at "pl"
      simp only [ho]
      walk_at "pl"
      exact k
    | root ho =>
      walk_at "pl"
      simp only [ho]
      walk_at "pl"
      exact k
    | ruled ho =>
      walk_at "pl"
      simp only [ho]
      walk_at "pl"
      exact k
    | _ => cases hk
def F_must (C : CT) : AF := fun ds Ω Q E => ∃ b : Bool, ds = [.bl b] ∧ (if b = true then Q .non Ω else E (.ref C.c_BadTree) Ω)
theorem c_must (T : Txt K mg C) : Clb P w K mg base ca 1 "must" (F_must C) := by
  refine clb T.d_must sc_must (fun ds Ω Q E h => ?_) (fun f cdv A outer s H E hr => ⟨_, _, (ass_one (as_if (at_not (at_val (ae_var 0))) (ass_one (as_raise rfl (takes_of rfl rfl rfl rfl) T.x_BadTree)) ass_nil)), fun ds Ω Qa Ea h => ?_⟩)
  · obtain ⟨_, rfl, _⟩ := h
    rfl
  · obtain ⟨b, rfl, k⟩ := h
    walk_at "pl"
    cases b <;> exact k
def optD : Option Int → D
  | none => .non
  | some q => .int q
def cD (c : Int × Int) : D := .tup [.int c.1, .int c.2]
theorem seq_cD {Ω : Om} {c : Int × Int} : (cD c).seq Ω = some [.int c.1, .int c.2] := rfl
def Bg (x : Int) : Prop := x.natAbs < 2 ^ 290400
theorem compL_map {α : Type} {g : AG} {c : ATT} {re : ATE} {vs : List Nat} {Wa : AW} {ρ : En} {Q : AQ} (em f : α → D) (I : Om → Prop) : ∀ (xs : List α) (acc : List D) (Ω : Om), I Ω → acc.length + xs.length ≤ 100000 →
    (∀ x ∈ xs, ∀ (Ω' : Om) (R : AQ) (Z : Om → Prop), I Ω' → (∀ Ω'', I Ω'' → R (f x) Ω'') → g (em x) (wipeA ρ vs) Ω' fun ρ1 Ω1 => c Wa ρ1 Ω1 fun k Ω2 => if k = true then re Wa ρ1 Ω2 R else Z Ω2) →
    (∀ Ω', I Ω' → Q (.lst (acc ++ xs.map f)) Ω') → compL g c re vs (xs.map em) acc Wa ρ Ω Q
  | [], acc, Ω, i, _, _, k => by
    have := k Ω i
    rw [List.map_nil, List.append_nil] at this
    exact this
  | x :: xs, acc, Ω, i, hl, h, k => h x List.mem_cons_self Ω _ _ i fun Ω' i' => ⟨by rw [List.length_cons] at hl; exact small1000' (by omega), by
    refine compL_map em f I xs (acc ++ [f x]) Ω' i' (by rw [List.length_append, List.length_singleton]; rw [List.length_cons] at hl; omega) (fun y hy => h y (List.mem_cons_of_mem _ hy)) fun Ω'' i'' => ?_
    rw [List.append_assoc]
    exact k Ω'' i''⟩
def F_below : AF := fun ds Ω Q _ => ∃ (c0 : Int × Int) (cs : List (Int × Int)), ds = [.lst ((c0 :: cs).map cD)] ∧ cs.length ≤ 3 ∧ (∀ c ∈ c0 :: cs, Bg c.1 ∧ Bg c.2) ∧ Q (optD (belowAll (c0 :: cs))) Ω
def P_b1 (c0 : Int × Int) (cs : List (Int × Int)) (Ω : Om) : List D → En → Om → Prop := fun us ρ Ω' => ∃ (ds dn : List (Int × Int)) (z1 z2 : Option D), us = ds.map cD ∧ dn ++ ds = c0 :: cs ∧ (∀ c ∈ dn, 0 < c.2 * c0.2) ∧ Ω' = Ω ∧ ρ = [some (.lst ((c0 :: cs).map cD)), z1, z2, none, none]
def P_b2 (c0 : Int × Int) (cs : List (Int × Int)) (l : Int) (Ω : Om) : List D → En → Om → Prop := fun us ρ Ω' => ∃ (ds dn : List (Int × Int)) (z1 z2 z3 : Option D), us = ds.map cD ∧ dn ++ ds = c0 :: cs ∧ belowRest l c0 (c0 :: cs) = belowRest l c0 ds ∧ Ω' = Ω ∧ ρ = [some (.lst ((c0 :: cs).map cD)), z1, z2, some (.int l), z3]
theorem bg_mul {i j : Int} (h : Bg i) (hj : Bg j) : IntMulOk i j := mulok h hj (by decide)
theorem bg_nopy {i j : Int} (h : j ≠ 0) (_ : Bg j) : NoPy i j := h
theorem bg_rest {t b l : Int} (ht : Bg t) (hb : Bg b) (hl : l.natAbs ≤ 2 ^ 290400) : IntMulOk (l + 1) b ∧ IntMulOk (t - (l + 1) * b) b := by
  unfold Bg at ht hb
  have e1 : (2 : Nat) ^ 290402 = 2 ^ 290400 * 4 := by rw [show 290402 = 290400 + 2 from rfl, Nat.pow_add]
  have e2 : (2 : Nat) ^ 580803 = 2 ^ 290402 * 2 ^ 290401 := by rw [← Nat.pow_add]
  have e3 : (2 : Nat) ^ 290401 = 2 ^ 290400 * 2 := by rw [Nat.pow_succ]
  have h1 : (l + 1).natAbs < 2 ^ 290402 := by
    generalize (2 : Nat) ^ 290402 = X at e1 ⊢
    generalize (2 : Nat) ^ 290400 = Y at *
    omega
  have h2 : (t - (l + 1) * b).natAbs < 2 ^ 580804 := by
    have h3 : ((l + 1) * b).natAbs ≤ 2 ^ 290402 * 2 ^ 290400 := by
      rw [Int.natAbs_mul]
      exact Nat.mul_le_mul (Nat.le_of_lt h1) (Nat.le_of_lt hb)
    have h4 : (2 : Nat) ^ 580804 = 2 ^ 290402 * 2 ^ 290400 * 4 := by rw [← Nat.pow_add, show (4 : Nat) = 2 ^ 2 from rfl, ← Nat.pow_add]
    have h5 : (2 : Nat) ^ 290400 ≤ 2 ^ 290402 * 2 ^ 290400 := Nat.le_mul_of_pos_left _ (Nat.pow_pos (by decide))
    have h6 := Int.natAbs_sub_le t ((l + 1) * b)
    rw [h4]
    generalize (2 : Nat) ^ 290402 * 2 ^ 290400 = X at h3 h5 ⊢
    generalize (2 : Nat) ^ 290400 = Y at *
    omega
  exact ⟨mulok h1 hb (by decide), mulok h2 hb (by decide)⟩
theorem c_below_all (T : Txt K mg C) : Clb P w K mg base ca 1 "below_all" F_below := by
  refine clb T.d_below_all sc_below_all (fun ds Ω Q E h => ?_) (fun f cdv A outer s H E hr => ⟨_, _, (ass_cons (as_for (passes_of rfl) rfl (ae_var 0) (ag_tup (n := 2) rfl (ags_cons (i := 1) sc_below_all.nd rfl (Or.inl rfl) (ags_cons (i := 2) sc_below_all.nd rfl (Or.inl rfl) ags_nil))) (ass_one (as_if (at_le (ae_mul (ae_var 2) (ae_ix (ae_ix (ae_var 0) ae_int) ae_int)) ae_int) (ass_one (as_ret ae_non)) ass_nil)))
      (ass_cons (as_set 3 sc_below_all.nd (ae_min rfl T.b_min rfl (ae_lc rfl sc_below_all.nd (ae_var 0) (show BlkOk ["corners", "top", "below", "least", "rest"] (defScope s_below_all) _ [("top", 1), ("below", 2)] from blkOk_by (by decide +kernel)) (wip_tup (by decide)) (fun s1 H1 C1 cl1 fp1 => (ag_tup (n := 2) rfl (ags_cons (i := 1) sc_below_all.nd rfl (Or.inl rfl) (ags_cons (i := 2) sc_below_all.nd rfl (Or.inl rfl) ags_nil)))) (fun s1 H1 C1 cl1 fp1 => AE.cast (ae_fdv (div_blk (div_of hr)) (ae_var 1) (ae_var 2)) (by first | (dsimp only [Blk, Cx.blk]; done) | rfl)))))
      (ass_cons (as_for (passes_of rfl) rfl (ae_var 0) (ag_tup (n := 2) rfl (ags_cons (i := 1) sc_below_all.nd rfl (Or.inl rfl) (ags_cons (i := 2) sc_below_all.nd rfl (Or.inl rfl) ags_nil))) (ass_cons (as_set 4 sc_below_all.nd (ae_mul (ae_sub (ae_var 1) (ae_mul (ae_add (ae_var 3) ae_int) (ae_var 2))) (ae_var 2)))
      (ass_one (as_if (AWt.at_ (aw_or (at_gt (ae_var 4) ae_int) (aw_or1 (AWt.at_ (aw_and (at_eqI (ae_var 4) ae_int) (aw_and1 (at_eqI (ae_mul (ae_var 1) (ae_ix (ae_ix (ae_var 0) ae_int) ae_int)) (ae_mul (ae_ix (ae_ix (ae_var 0) ae_int) ae_int) (ae_var 2))))))))) (ass_one (as_ret ae_non)) ass_nil))))
      (ass_one (as_ret (ae_var 3)))))), fun ds Ω Qa Ea h => ?_⟩)
  · obtain ⟨_, _, rfl, _⟩ := h
    rfl
  · obtain ⟨c0, cs, rfl, hl, hb, k⟩ := h
    walk_at "pl"
    refine forL_ind (P_b1 c0 cs Ω) ⟨c0 :: cs, [], none, none, rfl, rfl, by simp, rfl, rfl⟩ ?_ ?_
    · rintro ρ Ω' ⟨ds, dn, z1, z2, e, e2, h0, rfl, rfl⟩
      have hds : ds = [] := by cases ds with
        | nil => rfl
        | cons _ _ => cases e
      subst hds
      rw [List.append_nil] at e2
      subst e2
      have hany : (c0 :: cs).any (fun c => decide (c.2 * c0.2 ≤ 0)) = false := by
        rw [List.any_eq_false]
        intro c hc
        have := h0 c hc
        simp only [decide_eq_true_eq]
        omega
      have hbel : belowAll (c0 :: cs) = belowRest ((cs.map fun c => c.1.fdiv c.2).foldl min (c0.1.fdiv c0.2)) c0 (c0 :: cs) := by
        unfold belowAll
        simp only [hany]
        rfl
      have hne : ∀ c ∈ c0 :: cs, c.2 ≠ 0 := fun c hc z => by
        have := h0 c hc
        rw [z, Int.zero_mul] at this
        omega
      walk_at "pl"
      refine compL_map cD (fun c => .int (c.1.fdiv c.2)) (fun Ω'' => Ω'' = Ω') (c0 :: cs) [] Ω' rfl (by simp only [List.length_cons, List.length_nil]; omega) (fun c hc Ω1 R Z hΩ hk => ?_) (fun Ω1 hΩ => ?_)
      · subst hΩ
        simp only [wipeA, aYes, cD]
        walk_at "pl"
        exact ⟨bg_nopy (hne c hc) (hb c hc).2, hk _ rfl⟩
      · subst hΩ
        refine ⟨(c0 :: cs).map fun c => c.1.fdiv c.2, by rw [List.nil_append, List.map_map]; rfl, by simp, fun m hm hm2 => ?_⟩
        rw [List.map_cons] at hm hm2
        rw [min_spec (cs.map fun c : Int × Int => c.1.fdiv c.2) (c0.1.fdiv c0.2) m hm hm2] at hbel
        have hmb : m.natAbs ≤ 2 ^ 290400 := by
          rw [← List.map_cons (f := fun c : Int × Int => c.1.fdiv c.2)] at hm
          obtain ⟨c, hc, rfl⟩ := List.mem_map.mp hm
          exact Nat.le_of_lt (Nat.lt_of_le_of_lt fdiv_le (hb c hc).1)
        refine forL_ind (P_b2 c0 cs m Ω1) ⟨c0 :: cs, [], z1, z2, none, rfl, rfl, rfl, rfl, rfl⟩ ?_ ?_
        · rintro ρ Ω' ⟨ds, dn, z1, z2, z3, e, e2, h1, rfl, rfl⟩
          have hds : ds = [] := by cases ds with
            | nil => rfl
            | cons _ _ => cases e
          subst hds
          walk_at "pl"
          rw [hbel, h1] at k
          exact k
        · rintro x us ρ Ω' De ert ih _ _ ⟨ds, dn, z1, z2, z3, e, e2, h1, rfl, rfl⟩
          cases ds with
          | nil => cases e
          | cons c ds =>
            have hc : c ∈ c0 :: cs := by rw [← e2]; simp
            rw [List.map_cons, List.cons.injEq] at e
            obtain ⟨rfl, rfl⟩ := e
            simp only [cD]
            walk_at "pl"
            obtain ⟨q1, q2⟩ := bg_rest (hb c hc).1 (hb c hc).2 hmb
            simp only [seq_cD]
            walk_at "pl"
            refine ⟨q1, q2, ?_⟩
            have q3 := bg_mul (hb c hc).1 (hb c0 List.mem_cons_self).2
            have q4 := bg_mul (hb c0 List.mem_cons_self).1 (hb c hc).2
            by_cases g1 : 0 < (c.1 - (m + 1) * c.2) * c.2
            · rw [if_pos g1, ert]
              have : belowRest m c0 ((c.1, c.2) :: ds) = none := by unfold belowRest; rw [if_pos (.inl g1)]
              rw [hbel, h1, this] at k
              exact k
            · rw [if_neg g1]
              have hno : ¬ ((c.1 - (m + 1) * c.2) * c.2 = 0 ∧ c.1 * c0.2 = c0.1 * c.2) → De.nx [some (.lst ((c0 :: cs).map cD)), some (.int c.1), some (.int c.2), some (.int m), some (.int ((c.1 - (m + 1) * c.2) * c.2))] Ω' := fun hn => by
                have : belowRest m c0 ((c.1, c.2) :: ds) = belowRest m c0 ds := by
                  conv => lhs; unfold belowRest
                  rw [if_neg]
                  rintro (z | z)
                  · exact g1 z
                  · exact hn z
                exact ih _ _ ⟨ds, dn ++ [c], _, _, _, rfl, by rw [List.append_assoc]; exact e2, h1.trans this, rfl, rfl⟩
              refine ite2 (fun g2 => ?_) (fun g2 => ?_)
              · refine ⟨q3, q4, ite2 (fun g3 => ?_) (fun g3 => hno fun z => g3 z.2)⟩
                rw [ert]
                have : belowRest m c0 ((c.1, c.2) :: ds) = none := by unfold belowRest; rw [if_pos (.inr ⟨g2, g3⟩)]
                rw [hbel, h1, this] at k
                exact k
              · exact hno fun z => g2 z.1
    · rintro x us ρ Ω' De ert ih _ _ ⟨ds, dn, z1, z2, e, e2, h0, rfl, rfl⟩
      cases ds with
      | nil => cases e
      | cons c ds =>
        have hc : c ∈ c0 :: cs := by rw [← e2]; simp
        rw [List.map_cons, List.cons.injEq] at e
        obtain ⟨rfl, rfl⟩ := e
        simp only [cD]
        walk_at "pl"
        simp only [seq_cD]
        walk_at "pl"
        refine ⟨bg_mul (hb c hc).2 (hb c0 List.mem_cons_self).2, ite2 (fun g => ?_) (fun g => ?_)⟩
        · rw [ert]
          have : belowAll (c0 :: cs) = none := by
            unfold belowAll
            have : (c0 :: cs).any (fun c => decide (c.2 * c0.2 ≤ 0)) = true := List.any_eq_true.mpr ⟨c, hc, by simpa using g⟩
            simp only [this, if_true]
          rw [this] at k
          exact k
        · exact ih _ _ ⟨ds, dn ++ [c], _, _, rfl, by rw [List.append_assoc]; exact e2, fun c' h' => by
            rcases List.mem_append.mp h' with h' | h'
            · exact h0 c' h'
            · rw [List.mem_singleton.mp h']; omega, rfl, rfl⟩
def F_fourI (C : CT) : AF := fun ds Ω Q _ => ∃ (p z : Addr) (ns : List D) (rdy bg : Bool), ds = [.o p, .tup ns, .o z, .bl rdy, .bl bg] ∧ Ω p = some (.obj C.c_Four []) ∧ Q .non (oset Ω p (oFour C ns z rdy bg .non))
theorem mk_Four (T : Txt K mg C) : Mkc P w K mg base ca 1 "Four" C.c_Four (F_fourI C) := by
  refine mkc T.k_Four sc_Four___init__ (fun ds Ω Q E h => ?_) (fun f cdv A outer s H E hr => ⟨_, _, (ass_cons (as_asg (ae_var 1) (ag_new (ae_var 0)))
      (ass_cons (as_asg (ae_var 2) (ag_new (ae_var 0)))
      (ass_cons (as_asg (ae_var 3) (ag_new (ae_var 0)))
      (ass_cons (as_asg (ae_var 4) (ag_new (ae_var 0)))
      (ass_one (as_asg ae_non (ag_new (ae_var 0)))))))), fun ds Ω Qa Ea h => ?_⟩)
  · obtain ⟨_, _, _, _, _, rfl, _⟩ := h
    rfl
  · obtain ⟨p, z, ns, rdy, bg, rfl, ho, k⟩ := h
    walk_at "pl"
    refine ⟨_, _, ho, by walk_at "nm", T.n_Four_numbers, by decide, ?_⟩
    walk_at "pl"
    refine ⟨by walk_at "nm", T.n_Four_inner, by decide, ?_⟩
    walk_at "pl"
    refine ⟨by walk_at "nm", T.n_Four_ready, by decide, ?_⟩
    walk_at "pl"
    refine ⟨by walk_at "nm", T.n_Four_begun, by decide, ?_⟩
    walk_at "pl"
    exact ⟨by walk_at "nm", T.n_Four_fixed, by decide, k⟩
def F_eightI (C : CT) : AF := fun ds Ω Q _ => ∃ (p z1 z2 : Addr) (ns : List D), ds = [.o p, .tup ns, .o z1, .o z2] ∧ Ω p = some (.obj C.c_Eight []) ∧ ∀ k, k ≠ p → Ω k = none → Q .non (oset (oset Ω k (.lst [.int 0, .int 0])) p (oEight C ns z1 z2 k false .non))
theorem mk_Eight (T : Txt K mg C) : Mkc P w K mg base ca 1 "Eight" C.c_Eight (F_eightI C) := by
  refine mkc T.k_Eight sc_Eight___init__ (fun ds Ω Q E h => ?_) (fun f cdv A outer s H E hr => ⟨_, _, (ass_cons (as_asg (ae_var 1) (ag_new (ae_var 0)))
      (ass_cons (as_asg (ae_lst (aa_cons (ae_var 2) (aa_cons (ae_var 3) aa_nil))) (ag_new (ae_var 0)))
      (ass_cons (as_asg (ae_lstO (aa_cons ae_int (aa_cons ae_int aa_nil))) (ag_new (ae_var 0)))
      (ass_cons (as_asg ae_bl (ag_new (ae_var 0)))
      (ass_one (as_asg ae_non (ag_new (ae_var 0)))))))), fun ds Ω Qa Ea h => ?_⟩)
  · obtain ⟨_, _, _, _, rfl, _⟩ := h
    rfl
  · obtain ⟨p, z1, z2, ns, rfl, ho, k⟩ := h
    walk_at "pl"
    refine ⟨_, _, ho, by walk_at "nm", T.n_Eight_numbers, by decide, ?_⟩
    walk_at "pl"
    refine ⟨by decide, by walk_at "nm", T.n_Eight_inners, by decide, by decide, fun kk hk => ?_⟩
    have hne : kk ≠ p := fun e => by rw [e, oset_same] at hk; cases hk
    have hne' : p ≠ kk := Ne.symm hne
    rw [oset_ne hne'] 
    walk_at "pl"
    refine ⟨by walk_at "nm", T.n_Eight_many, by decide, ?_⟩
    walk_at "pl"
    refine ⟨by walk_at "nm", T.n_Eight_begun, by decide, ?_⟩
    walk_at "pl"
    refine ⟨by walk_at "nm", T.n_Eight_rest, by decide, ?_⟩
    have := k kk hne (by rw [oset_ne hne] at hk; exact hk)
    have e : oset (oset (oset Ω p (.obj C.c_Eight [("numbers", .tup ns), ("inners", .lst [.o z1, .o z2])])) kk (.lst [.int 0, .int 0])) p (oEight C ns z1 z2 kk false .non) = oset (oset Ω kk (.lst [.int 0, .int 0])) p (oEight C ns z1 z2 kk false .non) := by
      funext b
      unfold oset
      by_cases h1 : b = p
      · rw [if_pos h1, if_pos h1]
      · rw [if_neg h1, if_neg h1]
        by_cases h2 : b = kk
        · rw [if_pos h2]; simp only [h1, if_false]
        · rw [if_neg h2]; simp only [h1, if_false]
    rw [← e] at this
    exact this
theorem sm_bg {a : Int} (h : Sm a) : Bg a := Nat.lt_trans h (Nat.pow_lt_pow_right (by decide) (by decide))
theorem sm_bg2 {a b : Int} (h : Sm a) (h2 : Sm b) : Bg (a + b) := by
  unfold Sm at h h2
  unfold Bg
  have e1 : (2 : Nat) ^ 290400 = 2 ^ 290000 * 2 ^ 400 := by rw [← Nat.pow_add]
  have e2 : (2 : Nat) ^ 400 ≥ 4 := by decide
  have := Nat.mul_le_mul_left (2 ^ 290000) e2
  have h3 := Int.natAbs_add_le a b
  rw [e1]
  omega
theorem sm_bg4 {a b c d : Int} (h : Sm a) (h2 : Sm b) (h3 : Sm c) (h4 : Sm d) : Bg (a + b + c + d) := by
  unfold Sm at h h2 h3 h4
  unfold Bg
  have e1 : (2 : Nat) ^ 290400 = 2 ^ 290000 * 2 ^ 400 := by rw [← Nat.pow_add]
  have e2 : (2 : Nat) ^ 400 ≥ 4 := by decide
  have := Nat.mul_le_mul_left (2 ^ 290000) e2
  have h5 := Int.natAbs_add_le a b
  have h6 := Int.natAbs_add_le (a + b) c
  have h7 := Int.natAbs_add_le (a + b + c) d
  rw [e1]
  omega
def F_sure4 (C : CT) : AF := fun ds Ω Q _ => ∃ (p z : Addr) (a b c d : Int) (rdy bg : Bool) (f : D), ds = [.o p] ∧ Ω p = some (oFour C [.int a, .int b, .int c, .int d] z rdy bg f) ∧ Sm a ∧ Sm b ∧ Sm c ∧ Sm d ∧ Q (optD (sure4 rdy a b c d)) Ω
theorem m_sure4 (T : Txt K mg C) : ∀ D ∈ [C.c_Four], Mth P w K mg base ca 2 D "sure" (F_sure4 C) := by
  refine mth T.m_Four_sure sc_Four_sure (fun ds Ω Q E h => ?_) (fun f cdv A outer s H E hr => ⟨_, _, (ass_cons (as_asg (ae_fld 0 (ae_var 0)) (ag_tup (n := 4) rfl (ags_cons (i := 1) sc_Four_sure.nd rfl (Or.inl rfl) (ags_cons (i := 2) sc_Four_sure.nd rfl (Or.inl rfl) (ags_cons (i := 3) sc_Four_sure.nd rfl (Or.inl rfl) (ags_cons (i := 4) sc_Four_sure.nd rfl (Or.inl rfl) ags_nil))))))
      (ass_cons (as_if (at_not (at_val (ae_fld 2 (ae_var 0)))) (ass_one (as_ret ae_non)) ass_nil)
      (ass_one (as_ret (ae_call (c_below_all T) hr (takes_of rfl rfl rfl rfl) (by omega) (aa_cons (ae_lst (aa_cons (ae_tup (aa_cons (ae_var 1) (aa_cons (ae_var 3) aa_nil))) (aa_cons (ae_tup (aa_cons (ae_add (ae_var 1) (ae_var 2)) (aa_cons (ae_add (ae_var 3) (ae_var 4)) aa_nil))) aa_nil))) aa_nil)))))), fun ds Ω Qa Ea h => ?_⟩)
  · obtain ⟨_, _, _, _, _, _, _, _, _, rfl, _⟩ := h
    rfl
  · obtain ⟨p, z, a, b, c, d, rdy, bg, f, rfl, ho, ha, hb, hc, hd, k⟩ := h
    walk_at "pl"
    repeat (simp only [ho]; walk_at "pl")
    unfold sure4 at k
    cases rdy with
    | false => exact k
    | true =>
      exact ⟨by decide, by decide, by decide, (a, c), [(a + b, c + d)], rfl, by simp, by
        intro x hx
        simp only [List.mem_cons, List.not_mem_nil, or_false] at hx
        rcases hx with rfl | rfl
        · exact ⟨sm_bg ha, sm_bg hc⟩
        · exact ⟨sm_bg2 ha hb, sm_bg2 hc hd⟩, k⟩
def F_sure8 (C : CT) : AF := fun ds Ω Q _ => ∃ (p z1 z2 kk : Addr) (a b c d e f g h : Int) (m0 m1 : Nat) (bg : Bool) (q : D), ds = [.o p] ∧ Ω p = some (oEight C [.int a, .int b, .int c, .int d, .int e, .int f, .int g, .int h] z1 z2 kk bg q) ∧ Ω kk = some (.lst [.int m0, .int m1]) ∧
  Sm a ∧ Sm b ∧ Sm c ∧ Sm d ∧ Sm e ∧ Sm f ∧ Sm g ∧ Sm h ∧ Q (optD (sure8 m0 m1 a b c d e f g h)) Ω
theorem m_sure8 (T : Txt K mg C) : ∀ D ∈ [C.c_Eight], Mth P w K mg base ca 2 D "sure" (F_sure8 C) := by
  refine mth T.m_Eight_sure sc_Eight_sure (fun ds Ω Q E h => ?_) (fun f cdv A outer s H E hr => ⟨_, _, (ass_cons (as_asg (ae_fld 0 (ae_var 0)) (ag_tup (n := 8) rfl (ags_cons (i := 1) sc_Eight_sure.nd rfl (Or.inl rfl) (ags_cons (i := 2) sc_Eight_sure.nd rfl (Or.inl rfl) (ags_cons (i := 3) sc_Eight_sure.nd rfl (Or.inl rfl) (ags_cons (i := 4) sc_Eight_sure.nd rfl (Or.inl rfl) (ags_cons (i := 5) sc_Eight_sure.nd rfl (Or.inl rfl) (ags_cons (i := 6) sc_Eight_sure.nd rfl (Or.inl rfl) (ags_cons (i := 7) sc_Eight_sure.nd rfl (Or.inl rfl) (ags_cons (i := 8) sc_Eight_sure.nd rfl (Or.inl rfl) ags_nil))))))))))
      (ass_cons (as_if (at_inI ae_int (ae_fld 2 (ae_var 0))) (ass_one (as_ret ae_non)) ass_nil)
      (ass_one (as_ret (ae_call (c_below_all T) hr (takes_of rfl rfl rfl rfl) (by omega) (aa_cons (ae_lst (aa_cons (ae_tup (aa_cons (ae_var 1) (aa_cons (ae_var 5) aa_nil))) (aa_cons (ae_tup (aa_cons (ae_add (ae_var 1) (ae_var 2)) (aa_cons (ae_add (ae_var 5) (ae_var 6)) aa_nil))) (aa_cons (ae_tup (aa_cons (ae_add (ae_var 1) (ae_var 3)) (aa_cons (ae_add (ae_var 5) (ae_var 7)) aa_nil))) (aa_cons (ae_tup (aa_cons (ae_add (ae_add (ae_add (ae_var 1) (ae_var 2)) (ae_var 3)) (ae_var 4)) (aa_cons (ae_add (ae_add (ae_add (ae_var 5) (ae_var 6)) (ae_var 7)) (ae_var 8)) aa_nil))) aa_nil))))) aa_nil)))))), fun ds Ω Qa Ea h => ?_⟩)
  · obtain ⟨_, _, _, _, _, _, _, _, _, _, _, _, _, _, _, _, rfl, _⟩ := h
    rfl
  · obtain ⟨p, z1, z2, kk, a, b, c, d, e, f', g, h', m0, m1, bg, q, rfl, ho, hk, ha, hb, hc, hd, he, hf, hg, hh, k⟩ := h
    walk_at "pl"
    rw [ho]
    walk_at "pl"
    rw [ho]
    walk_at "pl"
    simp only [seq_o hk]
    refine ⟨[(m0 : Int), m1], rfl, ?_⟩
    unfold sure8 at k
    by_cases hm : 0 < m0 ∧ 0 < m1
    · rw [if_pos hm] at k
      rw [if_neg (by simp; omega)]
      walk_at "pl"
      exact ⟨by decide, by decide, by decide, by decide, by decide, (a, e), [(a + b, e + f'), (a + c, e + g), (a + b + c + d, e + f' + g + h')], rfl, by simp, by
        intro x hx
        simp only [List.mem_cons, List.not_mem_nil, or_false] at hx
        rcases hx with rfl | rfl | rfl | rfl
        · exact ⟨sm_bg ha, sm_bg he⟩
        · exact ⟨sm_bg2 ha hb, sm_bg2 he hf⟩
        · exact ⟨sm_bg2 ha hc, sm_bg2 he hg⟩
        · exact ⟨sm_bg4 ha hb hc hd, sm_bg4 he hf hg hh⟩, k⟩
    · rw [if_neg hm] at k
      rw [if_pos (by simp; omega)]
      exact k
structure Mv (S0 : List Addr) (pu : Addr) (Ω0 : Om) (S : List Addr) (Ω : Om) : Prop where
  fr : Fr S0 pu Ω0 Ω
  fs : ∀ b ∈ S, b ∈ S0 ∨ Ω0 b = none
theorem Mv.refl {S : List Addr} {pu : Addr} {Ω : Om} : Mv S pu Ω S Ω := ⟨fun _ _ _ _ => rfl, fun b hb => .inl hb⟩
theorem Mv.trans {S0 S1 S2 : List Addr} {pu : Addr} {Ω0 Ω1 Ω2 : Om} (h1 : Mv S0 pu Ω0 S1 Ω1) (h2 : Mv S1 pu Ω1 S2 Ω2) (hp : Ω1 pu ≠ none) : Mv S0 pu Ω0 S2 Ω2 := by
  refine ⟨fun b hb hbp hn => ?_, fun b hb => ?_⟩
  · have e1 := h1.fr b hb hbp hn
    have hb1 : b ∉ S1 := fun z => (h1.fs b z).elim hb hn
    rw [h2.fr b hb1 hbp (by rw [e1]; exact hn), e1]
  · rcases h2.fs b hb with h | h
    · exact h1.fs b h
    · by_cases hb0 : b ∈ S0
      · exact .inl hb0
      · refine .inr ?_
        cases hq : Ω0 b with
        | none => rfl
        | some u =>
          have hbp : b ≠ pu := fun e => hp (by rw [← e]; exact h)
          have := h1.fr b hb0 hbp (by rw [hq]; simp)
          rw [h, hq] at this
          cases this
theorem Mv.of {S0 S : List Addr} {pu : Addr} {Ω0 Ω : Om} (T : List Addr) (h : Mv S pu Ω0 S0 Ω) (hd : ∀ b ∈ T, b ∉ S ∨ True) : Mv (T ++ S) pu Ω0 (T ++ S0) Ω := by
  refine ⟨fun b hb hbp hn => h.fr b (fun z => hb (List.mem_append_right _ z)) hbp hn, fun b hb => ?_⟩
  rcases List.mem_append.mp hb with h' | h'
  · exact .inl (List.mem_append_left _ h')
  · exact (h.fs b h').imp (List.mem_append_right _) id
theorem Mv.cons {S0 S : List Addr} {pu : Addr} {Ω0 Ω : Om} (p : Addr) (h : Mv S pu Ω0 S0 Ω) : Mv (p :: S) pu Ω0 (p :: S0) Ω := h.of [p] (fun _ _ => .inr True.intro)
theorem Mv.keep {S0 S : List Addr} {pu p : Addr} {Ω0 Ω : Om} (h : Mv S0 pu Ω0 S Ω) (h1 : p ∉ S0) (h2 : p ≠ pu) (h3 : Ω0 p ≠ none) : Ω p = Ω0 p ∧ p ∉ S := ⟨h.fr p h1 h2 h3, fun z => (h.fs p z).elim h1 h3⟩
theorem Mv.nopu {S0 S : List Addr} {pu : Addr} {Ω0 Ω : Om} (h : Mv S0 pu Ω0 S Ω) (h1 : pu ∉ S0) (h3 : Ω0 pu ≠ none) : pu ∉ S := fun z => (h.fs pu z).elim h1 h3
theorem Mv.set {S : List Addr} {pu p : Addr} {Ω : Om} {o : AO} (h : p ∈ S) : Mv S pu Ω S (oset Ω p o) := ⟨fun b hb _ _ => oset_ne fun e => hb (e ▸ h), fun b hb => .inl hb⟩
theorem Mv.sub {S0 S S' : List Addr} {pu : Addr} {Ω0 Ω : Om} (h : Mv S0 pu Ω0 S Ω) (hs : ∀ b ∈ S', b ∈ S) : Mv S0 pu Ω0 S' Ω := ⟨h.fr, fun b hb => h.fs b (hs b hb)⟩
def Inn2 (p : Addr) (Ω Ω' : Om) : Prop := ∃ c fs c' fs', Ω p = some (.obj c fs) ∧ Ω' p = some (.obj c' fs') ∧ fs'[1]? = fs[1]?
theorem Inn2.trans {p : Addr} {Ω Ω1 Ω2 : Om} (h : Inn2 p Ω Ω1) (h2 : Inn2 p Ω1 Ω2) : Inn2 p Ω Ω2 := by
  obtain ⟨c, fs, c', fs', e1, e2, e3⟩ := h
  obtain ⟨d, gs, d', gs', g1, g2, g3⟩ := h2
  rw [e2] at g1
  cases g1
  exact ⟨c, fs, d', gs', e1, g2, g3.trans e3⟩
def I_four (C : CT) (L : Nat) (p pu : Addr) (r' : R) (m' : Int) (ans : Ans) (S0 : List Addr) (Ω0 : Om) : Nat → En → Om → Prop := fun n ρ Ω => ∃ (r : R) (S : List Addr) (m : Int) (k : Nat) (z1 z2 z3 z4 z5 z6 : Option D), r.kd = .four ∧ r.lv ≤ L + 1 ∧ RdO C Ω p r S ∧ Ω pu = some (oPurse C m) ∧ pu ∉ S ∧ Told k r m r' m' ans ∧ Mv S0 pu Ω0 S Ω ∧ Inn2 p Ω0 Ω ∧
  n = (match r with | .four .. => k + 1 | _ => 0) ∧ ρ = [some (.o p), some (.o pu), z1, z2, z3, z4, z5, z6]
theorem inn_set {p : Addr} {Ω Ω1 : Om} {c : Addr} {fs fs' : List (Str × D)} (h : Ω p = some (.obj c fs)) (h2 : Ω1 p = some (.obj c fs')) (h1 : fs'[1]? = fs[1]?) : Inn2 p Ω Ω1 := ⟨_, _, _, _, h, h2, h1⟩
theorem inn_same {p : Addr} {Ω Ω1 Ω2 : Om} (h : Inn2 p Ω Ω1) (h2 : Ω2 p = Ω1 p) : Inn2 p Ω Ω2 := by
  obtain ⟨c, fs, c', fs', e1, e2, e3⟩ := h
  exact ⟨c, fs, c', fs', e1, h2.trans e2, e3⟩
theorem sure_bg {c0 : Int × Int} {r : List (Int × Int)} {q : Int} (h : belowAll (c0 :: r) = some q) (hb : ∀ c ∈ c0 :: r, Bg c.1) : Bg q := by
  obtain ⟨c, hc, rfl⟩ := (belowAll_spec.mp h).2.1
  exact Nat.lt_of_le_of_lt fdiv_le (hb c hc)
theorem sure4_bg {rdy : Bool} {a b c d q : Int} (h : sure4 rdy a b c d = some q) (ha : Sm a) (hb : Sm b) : Bg q := by
  unfold sure4 at h
  split at h
  · exact sure_bg h fun c hc => by
      simp only [List.mem_cons, List.not_mem_nil, or_false] at hc
      rcases hc with rfl | rfl
      · exact sm_bg ha
      · exact sm_bg2 ha hb
  · cases h
theorem sure8_bg {m0 m1 : Nat} {a b c d e f g i q : Int} (h : sure8 m0 m1 a b c d e f g i = some q) (ha : Sm a) (hb : Sm b) (hc : Sm c) (hd : Sm d) : Bg q := by
  unfold sure8 at h
  split at h
  · exact sure_bg h fun x hx => by
      simp only [List.mem_cons, List.not_mem_nil, or_false] at hx
      rcases hx with rfl | rfl | rfl | rfl
      · exact sm_bg ha
      · exact sm_bg2 ha hb
      · exact sm_bg2 ha hc
      · exact sm_bg4 ha hb hc hd
  · cases h
theorem told_in {L : Nat} (tl : Tolds P w K mg base ca C L) {z pu : Addr} {x x' : R} {S1 : List Addr} {Ω1 : Om} {m m1 : Int} {j : Nat} {ans1 : Ans} (hlx : x.lv ≤ L) (hz : RdO C Ω1 z x S1) (hp : Ω1 pu = some (oPurse C m)) (hn1 : pu ∉ S1) (Q : AQ) (E : Value → Om → Prop) (ht : Told j x m x' m1 ans1)
    (k : ∀ (Ω2 : Om) (S2 : List Addr), RdO C Ω2 z x' S2 → Ω2 pu = some (oPurse C m1) → Mv S1 pu Ω1 S2 Ω2 → Inn x.kd z Ω1 Ω2 → ans1.ok C Q E Ω2) : ∃ c fs, Ω1 z = some (.obj c fs) ∧ ("told" : Str) ∉ fs.map (·.1) ∧ ∃ F, Mth P w K mg base ca L c "told" F ∧ F [.o z, .o pu] Ω1 Q E := by
  obtain ⟨c, fs, ho, hm, hc⟩ := hz.obj
  exact ⟨c, fs, ho, hm _ (.inl rfl), F_told C x.kd L, tl.all x.kd c hc, z, pu, x, S1, j, m, x', m1, ans1, rfl, rfl, hlx, hz, hp, hn1, ht, fun Ω2 S2 h1 h2 h3 h4 h5 => k Ω2 S2 h1 h2 ⟨h3, h4⟩ h5⟩
theorem m_fourTold (T : Txt K mg C) {L : Nat} (hL : 3 ≤ L) (tl : Tolds P w K mg base ca C L) : ∀ D ∈ [C.c_Four], Mth P w K mg base ca (L + 1) D "told" (F_told C .four (L + 1)) := by
  refine mth T.m_Four_told sc_Four_told told_len (fun f cdv A outer s H E hr => ⟨_, _, (ass_cons (as_while (passes_of rfl) (at_isN (ae_fld 4 (ae_var 0))) (ass_cons (as_asg (ae_fld 0 (ae_var 0)) (ag_tup (n := 4) rfl (ags_cons (i := 2) sc_Four_told.nd rfl (Or.inl rfl) (ags_cons (i := 3) sc_Four_told.nd rfl (Or.inl rfl) (ags_cons (i := 4) sc_Four_told.nd rfl (Or.inl rfl) (ags_cons (i := 5) sc_Four_told.nd rfl (Or.inl rfl) ags_nil))))))
      (ass_cons (as_set 6 sc_Four_told.nd (ae_meth0 (k := L) hr (takes_of rfl rfl rfl rfl) (by omega) (ae_var 0)))
      (ass_cons (as_if (at_notN (ae_var 6)) (ass_cons (as_asg (ae_tup (aa_cons (ae_var 4) (aa_cons (ae_var 5) (aa_cons (ae_sub (ae_var 2) (ae_mul (ae_var 6) (ae_var 4))) (aa_cons (ae_sub (ae_var 3) (ae_mul (ae_var 6) (ae_var 5))) aa_nil))))) (ag_fld 0 (ae_var 0)))
      (ass_cons (as_asg ae_bl (ag_fld 3 (ae_var 0)))
      (ass_one (as_ret (ae_tup (aa_cons ae_str (aa_cons (ae_var 6) aa_nil))))))) ass_nil)
      (ass_cons (as_set 7 sc_Four_told.nd (ae_meth (k := L) hr (takes_of rfl rfl rfl rfl) (by omega) (ae_fld 1 (ae_var 0)) (aa_cons (ae_var 1) aa_nil)))
      (ass_cons (as_if (at_eqS (ae_ix (ae_var 7) ae_int) ae_str) (ass_one (as_ret (ae_var 7))) ass_nil)
      (ass_one (as_if (at_eqS (ae_ix (ae_var 7) ae_int) ae_str) (ass_one (as_asg (ae_make (mk_Fixed T) hr (takes_of rfl rfl rfl rfl) (by omega) (aa_cons (ae_var 2) (aa_cons (ae_var 4) (aa_cons (ae_fld 3 (ae_var 0)) aa_nil)))) (ag_fld 4 (ae_var 0)))) (ass_cons (as_asg (ae_tup (aa_cons (ae_add (ae_mul (ae_var 2) (ae_ix (ae_var 7) ae_int)) (ae_var 3)) (aa_cons (ae_var 2) (aa_cons (ae_add (ae_mul (ae_var 4) (ae_ix (ae_var 7) ae_int)) (ae_var 5)) (aa_cons (ae_var 4) aa_nil))))) (ag_fld 0 (ae_var 0)))
      (ass_one (as_asg ae_bl (ag_fld 2 (ae_var 0)))))))))))))
      (ass_one (as_ret (ae_meth (k := L) hr (takes_of rfl rfl rfl rfl) (by omega) (ae_fld 4 (ae_var 0)) (aa_cons (ae_var 1) aa_nil))))), fun ds Ω Qa Ea h => ?_⟩)
  obtain ⟨p, pu, r, S, n, m, r', m', ans, rfl, hk, hl, hR, hp, hn, ht, k⟩ := h
  walk_at "pl"
  refine ⟨I_four C L p pu r' m' ans S Ω, ⟨_, r, S, m, n, none, none, none, none, none, none, hk, hl, hR, hp, hn, ht, .refl, ?_, rfl, rfl⟩, ?_⟩
  · cases hR with
    | four e _ _ => exact ⟨_, _, _, _, e, e, rfl⟩
    | fourX e _ _ _ _ _ => exact ⟨_, _, _, _, e, e, rfl⟩
    | _ => cases hk
  rintro n ρ Ω1 ⟨r, S1, m, i, z1, z2, z3, z4, z5, z6, hk, hl, hR, hp, hn, ht, mv, inn, rfl, rfl⟩
  have fin : ∀ {S2 : List Addr} {Ω2 : Om}, RdO C Ω2 p r' S2 → Ω2 pu = some (oPurse C m') → Mv S pu Ω S2 Ω2 → Inn2 p Ω Ω2 → ans.ok C Qa Ea Ω2 := fun hR2 hp2 mv2 inn2 => k _ _ hR2 hp2 mv2.fr mv2.fs fun _ => inn2
  clear k
  cases hR with
  | four ho hz hnp =>
    rename_i z a b c d rdy bg x S1
    have hne : pu ≠ p := fun e => hn (by simp [e])
    have hn1 : pu ∉ S1 := fun e => hn (by simp [e])
    have hlx : x.lv ≤ L := by simp only [R.lv] at hl; omega
    walk_at "pl"
    rw [ho]
    walk_at "pl"
    simp only [D.isNon]
    walk_at "pl"
    rw [ho]
    walk_at "pl"
    refine ⟨by walk_at "nm", F_sure4 C, (m_sure4 T _ (by simp)).mono (by omega), p, z, a, b, c, d, rdy, bg, .non, rfl, ho, ?_⟩
    have hnn : Ω1 p ≠ none := by rw [ho]; simp
    have hpn : Ω1 pu ≠ none := by rw [hp]; simp
    cases ht with
    | foTell h1 h2 h3 h4 hs =>
      refine ⟨h1, h2, h3, h4, ?_⟩
      rw [hs]
      simp only [optD]
      walk_at "pl"
      have hq := sure4_bg hs h1 h2
      rw [if_pos (by decide)]
      refine ⟨bg_mul hq (sm_bg h3), bg_mul hq (sm_bg h4), by decide, ?_⟩
      rw [ho]
      walk_at "pl"
      refine ⟨by decide, by decide, by decide, fin (.four (S := S1) oset_same (hz.keep fun b hb => oset_ne fun e => hnp (e ▸ hb)) hnp) ((oset_ne hne).trans hp) (mv.trans (Mv.set (by simp)) hpn) (inn.trans (inn_set ho oset_same rfl))⟩
    | foWait h1 h2 h3 h4 hs hx =>
      refine ⟨h1, h2, h3, h4, ?_⟩
      rw [hs]
      simp only [optD]
      walk_at "pl"
      rw [ho]
      walk_at "pl"
      refine told_in tl hlx hz hp hn1 _ _ hx fun Ω2 S2 hR2 hp2 mv2 inn2 => ?_
      simp only [Ans.ok, Ans.d]
      walk_at "pl"
      obtain ⟨e1, e2⟩ := mv2.keep hnp (Ne.symm hne) hnn
      exact fin (.four (e1.trans ho) hR2 e2) hp2 (mv.trans (mv2.cons p) hpn) (inn_same inn e1)
    | foNo h1 h2 h3 h4 hs hx =>
      refine ⟨h1, h2, h3, h4, ?_⟩
      rw [hs]
      simp only [optD]
      walk_at "pl"
      rw [ho]
      walk_at "pl"
      refine told_in tl hlx hz hp hn1 _ _ hx fun Ω2 S2 hR2 hp2 mv2 inn2 => ?_
      obtain ⟨e1, e2⟩ := mv2.keep hnp (Ne.symm hne) hnn
      exact fin (.four (e1.trans ho) hR2 e2) hp2 (mv.trans (mv2.cons p) hpn) (inn_same inn e1)
    | foEnd h1 h2 h3 h4 hs hx hf =>
      refine ⟨h1, h2, h3, h4, ?_⟩
      rw [hs]
      simp only [optD]
      walk_at "pl"
      rw [ho]
      walk_at "pl"
      refine told_in tl hlx hz hp hn1 _ _ hx fun Ω2 S2 hR2 hp2 mv2 inn2 => ?_
      simp only [Ans.ok, Ans.d]
      walk_at "pl"
      obtain ⟨e1, e2⟩ := mv2.keep hnp (Ne.symm hne) hnn
      rw [if_neg (by decide), e1, ho]
      walk_at "pl"
      intro q hq
      have hqp : q ≠ p := fun e => by rw [e, e1, ho] at hq; cases hq
      have hqu : q ≠ pu := fun e => by rw [e, hp2] at hq; cases hq
      have hqS : q ∉ S2 := fun z => hR2.there q z hq
      refine ⟨q, a, c, bg, rfl, oset_same, rfl, ?_⟩
      rw [oset_oset, oset_ne (Ne.symm hqp), e1, ho]
      walk_at "pl"
      refine ⟨by decide, 0, by omega, _, p :: q :: S2, _, 0, _, _, _, _, _, _, rfl, ?_, .fourX (ns := [.int a, .int b, .int c, .int d]) (z := z) (rdy := rdy) (bg := bg) oset_same ?_ (hR2.keep fun b hb => ?_) e2 hqS (Ne.symm hqp), ?_, ?_, .fxX hf, mv.trans ((mv2.cons p).trans ?_ (by rw [hp2]; simp)) hpn, ?_, rfl, rfl⟩
      · have := hx.lv
        simp only [R.lv]
        omega
      · rw [oset_ne hqp, oset_same]
      · rw [oset_ne (fun e : b = p => e2 (by rw [← e]; exact hb)), oset_ne (fun e : b = q => hqS (by rw [← e]; exact hb))]
      · rw [oset_ne hne, oset_ne (Ne.symm hqu)]
        exact hp2
      · have := mv2.nopu hn1 hpn
        simp only [List.mem_cons, not_or]
        exact ⟨hne, Ne.symm hqu, this⟩
      · have hne' := hqp
        refine ⟨fun b hb hbp hn => ?_, fun b hb => ?_⟩
        · rw [oset_ne (fun e => hb (by simp [e])), oset_ne (fun e => hn (by rw [e]; exact hq))]
        · simp only [List.mem_cons] at hb ⊢
          rcases hb with rfl | rfl | hb
          · exact .inl (.inl rfl)
          · exact .inr hq
          · exact .inl (.inr hb)
      · exact (inn_same inn e1).trans (inn_set (e1.trans ho) oset_same rfl)
    | foIn h1 h2 h3 h4 hs hx hq ht2 =>
      refine ⟨h1, h2, h3, h4, ?_⟩
      rw [hs]
      simp only [optD]
      walk_at "pl"
      rw [ho]
      walk_at "pl"
      refine told_in tl hlx hz hp hn1 _ _ hx fun Ω2 S2 hR2 hp2 mv2 inn2 => ?_
      simp only [Ans.ok, Ans.d]
      walk_at "pl"
      obtain ⟨e1, e2⟩ := mv2.keep hnp (Ne.symm hne) hnn
      rw [if_neg (by decide), if_neg (by decide)]
      refine ⟨sm_mul h1 hq, sm_mul h3 hq, by decide, ?_⟩
      rw [e1, ho]
      walk_at "pl"
      refine ⟨by decide, by decide, _, Nat.lt_succ_self _, _, p :: S2, _, _, _, _, _, _, _, _, rfl, ?_, .four oset_same (hR2.keep fun b hb => oset_ne fun e => e2 (e ▸ hb)) e2, (oset_ne hne).trans hp2, ?_, ht2, mv.trans ((mv2.cons p).trans (Mv.set (by simp)) (by rw [hp2]; simp)) hpn, (inn_same inn e1).trans (inn_set (e1.trans ho) oset_same rfl), rfl, rfl⟩
      · have := hx.lv
        simp only [R.lv]
        omega
      · have := mv2.nopu hn1 hpn
        simp only [List.mem_cons, not_or]
        exact ⟨hne, this⟩
  | fourX ho hf hz hnp hnf hpf =>
    rename_i z f ns t b g rdy bg x S1
    walk_at "pl"
    rw [ho]
    walk_at "pl"
    simp only [D.isNon]
    walk_at "pl"
    refine ⟨_, _, hf, by walk_at "nm", F_told C .fixed L, tl.all .fixed _ (by simp [CT.cls]), f, pu, .fixed t b g, [f], 0, m, ?_⟩
    cases ht with
    | fxX hx =>
      rename_i t' b' g'
      refine ⟨.fixed t' b' g', m', ans, rfl, rfl, by simp only [R.lv]; omega, .fixed hf, hp, fun e => hn (by simp at e; simp [e]), hx, fun Ω2 S2 hR2 hp2 fr2 fs2 _ => ?_⟩
      cases hR2 with
      | fixed hf2 =>
        have hne : pu ≠ p := fun e => hn (by simp [e])
        have e1 : Ω2 p = Ω1 p := fr2 p (by simp [hpf]) (Ne.symm hne) (by rw [ho]; simp)
        refine fin (.fourX (e1.trans ho) hf2 (hz.keep fun b hb => ?_) hnp hnf hpf) hp2 (mv.trans (Mv.cons p ?_) (by rw [hp]; simp)) (inn_same inn e1)
        · exact fr2 b (fun z => hnf (by simp at z; rw [← z]; exact hb)) (fun z => hn (by rw [← z]; simp [hb])) (hz.there b hb)
        · exact ⟨fun b hb hbp hn => fr2 b (fun z => hb (by simp at z; simp [z])) hbp hn, fun b hb => .inl hb⟩
  | _ => cases hk
def bI (w : Bool) : Int := cond w 1 0
def F_take (C : CT) : AF := fun ds Ω Q _ => ∃ (p z1 z2 kk : Addr) (a b c d e f g h q : Int) (m0 m1 : Nat) (bg w : Bool) (fx : D), ds = [.o p, .int (bI w), .int q] ∧ Ω p = some (oEight C [.int a, .int b, .int c, .int d, .int e, .int f, .int g, .int h] z1 z2 kk bg fx) ∧ Ω kk = some (.lst [.int m0, .int m1]) ∧ kk ≠ p ∧
  Sm8 a b c d e f g h ∧ Sm q ∧ Q .non (oset (oset Ω p (oEight C (cond w [.int (a * q + b), .int a, .int (c * q + d), .int c, .int (e * q + f), .int e, .int (g * q + h), .int g] [.int (a * q + c), .int (b * q + d), .int a, .int b, .int (e * q + g), .int (f * q + h), .int e, .int f]) z1 z2 kk bg fx)) kk
    (.lst (cond w [.int m0, .int (m1 + 1 : Nat)] [.int (m0 + 1 : Nat), .int m1])))
theorem m_take (T : Txt K mg C) : ∀ D ∈ [C.c_Eight], Mth P w K mg base ca 1 D "take" (F_take C) := by
  refine mth T.m_Eight_take sc_Eight_take (fun ds Ω Q E h => ?_) (fun f cdv A outer s H E hr => ⟨_, _, (ass_cons (as_asg (ae_fld 0 (ae_var 0)) (ag_tup (n := 8) rfl (ags_cons (i := 3) sc_Eight_take.nd rfl (Or.inl rfl) (ags_cons (i := 4) sc_Eight_take.nd rfl (Or.inl rfl) (ags_cons (i := 5) sc_Eight_take.nd rfl (Or.inl rfl) (ags_cons (i := 6) sc_Eight_take.nd rfl (Or.inl rfl) (ags_cons (i := 7) sc_Eight_take.nd rfl (Or.inl rfl) (ags_cons (i := 8) sc_Eight_take.nd rfl (Or.inl rfl) (ags_cons (i := 9) sc_Eight_take.nd rfl (Or.inl rfl) (ags_cons (i := 10) sc_Eight_take.nd rfl (Or.inl rfl) ags_nil))))))))))
      (ass_cons (as_if (at_eqI (ae_var 1) ae_int) (ass_one (as_asg (ae_tup (aa_cons (ae_add (ae_mul (ae_var 3) (ae_var 2)) (ae_var 5)) (aa_cons (ae_add (ae_mul (ae_var 4) (ae_var 2)) (ae_var 6)) (aa_cons (ae_var 3) (aa_cons (ae_var 4) (aa_cons (ae_add (ae_mul (ae_var 7) (ae_var 2)) (ae_var 9)) (aa_cons (ae_add (ae_mul (ae_var 8) (ae_var 2)) (ae_var 10)) (aa_cons (ae_var 7) (aa_cons (ae_var 8) aa_nil))))))))) (ag_fld 0 (ae_var 0)))) (ass_one (as_asg (ae_tup (aa_cons (ae_add (ae_mul (ae_var 3) (ae_var 2)) (ae_var 4)) (aa_cons (ae_var 3) (aa_cons (ae_add (ae_mul (ae_var 5) (ae_var 2)) (ae_var 6)) (aa_cons (ae_var 5) (aa_cons (ae_add (ae_mul (ae_var 7) (ae_var 2)) (ae_var 8)) (aa_cons (ae_var 7) (aa_cons (ae_add (ae_mul (ae_var 9) (ae_var 2)) (ae_var 10)) (aa_cons (ae_var 9) aa_nil))))))))) (ag_fld 0 (ae_var 0)))))
      (ass_one (as_setIx (ae_add (ae_ix (ae_fld 2 (ae_var 0)) (ae_var 1)) ae_int) (ae_fld 2 (ae_var 0)) (ae_var 1))))), fun ds Ω Qa Ea h => ?_⟩)
  · obtain ⟨_, _, _, _, _, _, _, _, _, _, _, _, _, _, _, _, _, _, rfl, _⟩ := h
    rfl
  · obtain ⟨p, z1, z2, kk, a, b, c, d, e, f', g, h', q, m0, m1, bg, w, fx, rfl, ho, hk, hne, ⟨ha, hb, hc, hd, he, hf, hg, hh⟩, hq, k⟩ := h
    have hpk : p ≠ kk := Ne.symm hne
    cases w with
    | true =>
      simp only [bI, cond] at k ⊢
      walk_at "pl"
      rw [ho]
      walk_at "pl"
      rw [if_neg (by decide)]
      refine ⟨sm_mul ha hq, sm_mul hc hq, sm_mul he hq, sm_mul hg hq, by decide, ?_⟩
      rw [ho]
      walk_at "pl"
      simp only [D.seq, oset_ne hne, hk]
      walk_at "pl"
      exact ⟨by decide, 1, by decide, k⟩
    | false =>
      simp only [bI, cond] at k ⊢
      walk_at "pl"
      rw [ho]
      walk_at "pl"
      refine ⟨sm_mul ha hq, sm_mul hb hq, sm_mul he hq, sm_mul hf hq, by decide, ?_⟩
      rw [ho]
      walk_at "pl"
      simp only [D.seq, oset_ne hne, hk]
      walk_at "pl"
      exact ⟨by decide, 0, by decide, k⟩
def F_left (C : CT) : AF := fun ds Ω Q _ => ∃ (p z1 z2 kk : Addr) (a b c d e f g h : Int) (m0 m1 : Nat) (bg w : Bool) (fx : D), ds = [.o p, .int (bI w)] ∧ Ω p = some (oEight C [.int a, .int b, .int c, .int d, .int e, .int f, .int g, .int h] z1 z2 kk bg fx) ∧ Ω kk = some (.lst [.int m0, .int m1]) ∧
  Sm8 a b c d e f g h ∧ ∀ q, Ω q = none → Q (.o q) (oset Ω q (if a * cond w g f ≠ cond w c b * e then oFour C [.int a, .int (cond w c b), .int e, .int (cond w g f)] (cond w z1 z2) (decide (0 < cond w m0 m1)) bg .non else
    oFixed C (if a = 0 ∧ e = 0 then cond w c b else a) (if a = 0 ∧ e = 0 then cond w g f else e) bg))
def M_left (C : CT) (p : Addr) (a b c d e f g h : Int) (w : Bool) (Ω : Om) : En → Om → Prop := fun ρ Ω' => Ω' = Ω ∧ ∃ z3 z4 z5 z6 z7 z8 z9 z10, ρ = [some (.o p), some (.int (bI w)), z3, z4, z5, z6, z7, z8, z9, z10, some (.tup [.int a, .int (cond w c b), .int e, .int (cond w g f)])]
theorem m_left (T : Txt K mg C) : ∀ D ∈ [C.c_Eight], Mth P w K mg base ca 3 D "left_of" (F_left C) := by
  refine mth T.m_Eight_left_of sc_Eight_left_of (fun ds Ω Q E h => ?_) (fun f cdv A outer s H E hr => ⟨_, _, (ass_cons (as_asg (ae_fld 0 (ae_var 0)) (ag_tup (n := 8) rfl (ags_cons (i := 2) sc_Eight_left_of.nd rfl (Or.inl rfl) (ags_cons (i := 3) sc_Eight_left_of.nd rfl (Or.inl rfl) (ags_cons (i := 4) sc_Eight_left_of.nd rfl (Or.inl rfl) (ags_cons (i := 5) sc_Eight_left_of.nd rfl (Or.inl rfl) (ags_cons (i := 6) sc_Eight_left_of.nd rfl (Or.inl rfl) (ags_cons (i := 7) sc_Eight_left_of.nd rfl (Or.inl rfl) (ags_cons (i := 8) sc_Eight_left_of.nd rfl (Or.inl rfl) (ags_cons (i := 9) sc_Eight_left_of.nd rfl (Or.inl rfl) ags_nil))))))))))
      (ass_cons (as_set 10 sc_Eight_left_of.nd (ae_tup (aa_cons (ae_var 2) (aa_cons (ae_var 3) (aa_cons (ae_var 6) (aa_cons (ae_var 7) aa_nil))))))
      (ass_cut (as_if (at_eqI (ae_var 1) ae_int) (ass_one (as_set 10 sc_Eight_left_of.nd (ae_tup (aa_cons (ae_var 2) (aa_cons (ae_var 4) (aa_cons (ae_var 6) (aa_cons (ae_var 8) aa_nil))))))) ass_nil)
      (ass_cons (as_if (at_neI (ae_mul (ae_ix (ae_var 10) ae_int) (ae_ix (ae_var 10) ae_int)) (ae_mul (ae_ix (ae_var 10) ae_int) (ae_ix (ae_var 10) ae_int))) (ass_one (as_ret (ae_make (mk_Four T) hr (takes_of rfl rfl rfl rfl) (by omega) (aa_cons (ae_var 10) (aa_cons (ae_ix (ae_fld 1 (ae_var 0)) (ae_sub ae_int (ae_var 1))) (aa_cons (ae_gt (ae_ix (ae_fld 2 (ae_var 0)) (ae_sub ae_int (ae_var 1))) ae_int) (aa_cons (ae_fld 3 (ae_var 0)) aa_nil))))))) ass_nil)
      (ass_cons (as_if (AWt.at_ (aw_and (at_eqI (ae_ix (ae_var 10) ae_int) ae_int) (aw_and1 (at_eqI (ae_ix (ae_var 10) ae_int) ae_int)))) (ass_one (as_ret (ae_make (mk_Fixed T) hr (takes_of rfl rfl rfl rfl) (by omega) (aa_cons (ae_ix (ae_var 10) ae_int) (aa_cons (ae_ix (ae_var 10) ae_int) (aa_cons (ae_fld 3 (ae_var 0)) aa_nil)))))) ass_nil)
      (ass_one (as_ret (ae_make (mk_Fixed T) hr (takes_of rfl rfl rfl rfl) (by omega) (aa_cons (ae_ix (ae_var 10) ae_int) (aa_cons (ae_ix (ae_var 10) ae_int) (aa_cons (ae_fld 3 (ae_var 0)) aa_nil))))))))))), fun ds Ω Qa Ea h => ?_⟩)
  · obtain ⟨_, _, _, _, _, _, _, _, _, _, _, _, _, _, _, _, _, rfl, _⟩ := h
    rfl
  · obtain ⟨p, z1, z2, kk, a, b, c, d, e, f', g, h', m0, m1, bg, w, fx, rfl, ho, hk, ⟨ha, hb, hc, hd, he, hf, hg, hh⟩, k⟩ := h
    walk_at "pl"
    rw [ho]
    walk_at "pl"
    refine ⟨by decide, M_left C p a b c d e f' g h' w Ω, ?_, ?_⟩
    · cases w with
      | true =>
        simp only [bI, cond]
        walk_at "pl"
        exact ⟨by decide, rfl, _, _, _, _, _, _, _, _, rfl⟩
      | false =>
        simp only [bI, cond]
        walk_at "pl"
        rw [if_neg (by decide)]
        exact ⟨rfl, _, _, _, _, _, _, _, _, rfl⟩
    · rintro ρ Ω1 ⟨rfl, z3, z4, z5, z6, z7, z8, z9, z10, rfl⟩
      have hp2 : Sm (cond w c b) := by cases w; exact hb; exact hc
      have hp4 : Sm (cond w g f') := by cases w; exact hf; exact hg
      walk_at "pl"
      refine ⟨sm_mul ha hp4, sm_mul hp2 he, ?_⟩
      by_cases hq : a * cond w g f' = cond w c b * e
      · rw [if_neg (by simpa using hq)]
        have k' : ∀ q, Ω1 q = none → Qa (.o q) (oset Ω1 q (oFixed C (if a = 0 ∧ e = 0 then cond w c b else a) (if a = 0 ∧ e = 0 then cond w g f' else e) bg)) := fun q hq' => by
          have := k q hq'
          rw [if_neg (fun z => z hq)] at this
          exact this
        clear k
        rw [ho]
        walk_at "pl"
        refine ite2 (fun e1 => ite2 (fun e2 => fun q hq => ?_) (fun e2 => fun q hq => ?_)) (fun e1 => fun q hq => ?_)
        · rw [if_pos ⟨e1, e2⟩, if_pos ⟨e1, e2⟩] at k'
          exact ⟨q, _, _, bg, rfl, oset_same, rfl, by rw [oset_oset]; exact k' q hq⟩
        · rw [if_neg (fun z => e2 z.2), if_neg (fun z => e2 z.2)] at k'
          exact ⟨q, _, _, bg, rfl, oset_same, rfl, by rw [oset_oset]; exact k' q hq⟩
        · rw [if_neg (fun z => e1 z.1), if_neg (fun z => e1 z.1)] at k'
          exact ⟨q, _, _, bg, rfl, oset_same, rfl, by rw [oset_oset]; exact k' q hq⟩
      · rw [if_pos (by simpa using hq)]
        have k' : ∀ q, Ω1 q = none → Qa (.o q) (oset Ω1 q (oFour C [.int a, .int (cond w c b), .int e, .int (cond w g f')] (cond w z1 z2) (decide (0 < cond w m0 m1)) bg .non)) := fun q hq' => by
          have := k q hq'
          rw [if_pos hq] at this
          exact this
        clear k
        rw [ho]
        walk_at "pl"
        simp only [seq_o hk]
        have e1 : atI [D.o z1, D.o z2] (1 - bI w) = some (.o (cond w z1 z2)) := by cases w <;> rfl
        have e2 : atI [D.int (m0 : Int), D.int (m1 : Int)] (1 - bI w) = some (.int ((cond w m0 m1 : Nat) : Int)) := by cases w <;> rfl
        rw [e1]
        walk_at "pl"
        refine ⟨_, e2, _, rfl, fun q hq => ⟨q, _, _, _, bg, rfl, oset_same, rfl, ?_⟩⟩
        rw [oset_oset]
        have e3 : decide (0 < ((cond w m0 m1 : Nat) : Int)) = decide (0 < cond w m0 m1) := by simp
        rw [e3]
        exact k' q hq
def I_eight (C : CT) (L : Nat) (p pu : Addr) (r' : R) (m' : Int) (ans : Ans) (S0 : List Addr) (Ω0 : Om) : Nat → En → Om → Prop := fun n ρ Ω => ∃ (r : R) (S : List Addr) (m : Int) (k : Nat) (z1 z2 z3 z4 z5 : Option D), r.kd = .eight ∧ r.lv ≤ L + 1 ∧ RdO C Ω p r S ∧ Ω pu = some (oPurse C m) ∧ pu ∉ S ∧ Told k r m r' m' ans ∧ Mv S0 pu Ω0 S Ω ∧
  n = (match r with | .eight .. => k + 1 | _ => 0) ∧ ρ = [some (.o p), some (.o pu), z1, z2, z3, z4, z5]
theorem rows_eq {a b c d e f g h q : Int} {Ω : Om} {ρ : En} {Wa : AW} {Q : AQ} (re : ATE) (vs : List Nat)
    (hs : ∀ k : Nat, k < 4 → ∀ (Ω' : Om) (R : AQ), Ω' = Ω → R (.int (([a, b, c, d].getD k 0) - q * ([e, f, g, h].getD k 0))) Ω' → re Wa ((wipeA ρ vs).set 6 (some (.int k))) Ω' R)
    (k : Q (.lst [.int (a - q * e), .int (b - q * f), .int (c - q * g), .int (d - q * h)]) Ω) : compL (agName 6) aYes re vs (rngD 0 4) [] Wa ρ Ω Q := by
  have e4 : rngD 0 4 = [0, 1, 2, 3].map fun k : Nat => D.int (k : Int) := rfl
  rw [e4]
  refine compL_map _ (fun k => .int (([a, b, c, d].getD k 0) - q * ([e, f, g, h].getD k 0))) (fun Ω' => Ω' = Ω) _ _ _ rfl (by decide) (fun x hx Ω' R Z hΩ hk => ?_) (fun Ω' hΩ => ?_)
  · subst hΩ
    simp only [aYes, agName, if_true]
    refine hs x ?_ _ _ rfl (hk _ rfl)
    simp only [List.mem_cons, List.not_mem_nil, or_false] at hx
    omega
  · subst hΩ
    exact k
theorem which_eq {m0 m1 : Nat} {w : Bool} (h : w = decide (m1 < m0)) : (if (m1 : Int) < m0 then (1 : Int) else 0) = bI w := by
  subst h
  by_cases h : m1 < m0
  · rw [decide_eq_true h, if_pos (by omega)]; rfl
  · rw [decide_eq_false h, if_neg (by omega)]; rfl
theorem inn_eq {w : Bool} {y1 y2 : Addr} : atI [D.o y1, D.o y2] (bI w) = some (.o (cond w y2 y1)) := by cases w <;> rfl
theorem eight_step {Ω1 Ω2 : Om} {p kk pu y1 y2 : Addr} {x y z : R} {S1 S2 S3 : List Addr} (w : Bool) (hp : Ω1 p ≠ none) (hk : Ω1 kk ≠ none) (hpu : Ω1 pu ≠ none) (hx : RdO C Ω1 y1 x S1) (hy : RdO C Ω1 y2 y S2) (n2 : p ∉ S1) (n3 : p ∉ S2) (n4 : kk ∉ S1) (n5 : kk ∉ S2) (n6 : ∀ b ∈ S1, b ∉ S2)
    (hn : pu ∉ p :: kk :: (S1 ++ S2)) (hR : RdO C Ω2 (cond w y2 y1) z S3) (mv : Mv (cond w S2 S1) pu Ω1 S3 Ω2) : ∃ T1 T2, RdO C Ω2 y1 (cond w x z) T1 ∧ RdO C Ω2 y2 (cond w z y) T2 ∧ Ω2 p = Ω1 p ∧ Ω2 kk = Ω1 kk ∧ p ∉ T1 ∧ p ∉ T2 ∧ kk ∉ T1 ∧ kk ∉ T2 ∧ (∀ b ∈ T1, b ∉ T2) ∧ pu ∉ T1 ∧ pu ∉ T2 ∧ Mv (S1 ++ S2) pu Ω1 (T1 ++ T2) Ω2 := by
  have q0 : pu ≠ p := fun e => hn (by simp [e])
  have q1 : pu ≠ kk := fun e => hn (by simp [e])
  have q2 : pu ∉ S1 := fun e => hn (by simp [e])
  have q3 : pu ∉ S2 := fun e => hn (by simp [e])
  cases w with
  | true =>
    simp only [cond] at *
    have k1 : ∀ b ∈ S1, Ω2 b = Ω1 b ∧ b ∉ S3 := fun b hb => mv.keep (n6 b hb) (fun e => q2 (e ▸ hb)) (hx.there b hb)
    obtain ⟨g1, g2⟩ := mv.keep n3 (Ne.symm q0) hp
    obtain ⟨g3, g4⟩ := mv.keep n5 (Ne.symm q1) hk
    exact ⟨S1, S3, hx.keep fun b hb => (k1 b hb).1, hR, g1, g3, n2, g2, n4, g4, fun b hb => (k1 b hb).2, q2, mv.nopu q3 hpu, mv.of S1 fun _ _ => .inr True.intro⟩
  | false =>
    simp only [cond] at *
    have k1 : ∀ b ∈ S2, Ω2 b = Ω1 b ∧ b ∉ S3 := fun b hb => mv.keep (fun z => n6 b z hb) (fun e => q3 (e ▸ hb)) (hy.there b hb)
    obtain ⟨g1, g2⟩ := mv.keep n2 (Ne.symm q0) hp
    obtain ⟨g3, g4⟩ := mv.keep n4 (Ne.symm q1) hk
    refine ⟨S3, S2, hR, hy.keep fun b hb => (k1 b hb).1, g1, g3, g2, n3, g4, n5, fun b hb hb2 => (k1 b hb2).2 hb, mv.nopu q2 hpu, q3, ?_⟩
    refine ⟨fun b hb hbp hn => mv.fr b (fun z => hb (List.mem_append_left _ z)) hbp hn, fun b hb => ?_⟩
    rcases List.mem_append.mp hb with h' | h'
    · exact (mv.fs b h').imp (List.mem_append_left _) id
    · exact .inl (List.mem_append_right _ h')
theorem m_eightTold (T : Txt K mg C) {L : Nat} (hL : 3 ≤ L) (tl : Tolds P w K mg base ca C L) : ∀ D ∈ [C.c_Eight], Mth P w K mg base ca (L + 1) D "told" (F_told C .eight (L + 1)) := by
  refine mth T.m_Eight_told sc_Eight_told told_len (fun f cdv A outer s H E hr => ⟨_, _, (ass_cons (as_while (passes_of rfl) (at_isN (ae_fld 4 (ae_var 0))) (ass_cons (as_set 2 sc_Eight_told.nd (ae_meth0 (k := L) hr (takes_of rfl rfl rfl rfl) (by omega) (ae_var 0)))
      (ass_cons (as_if (at_notN (ae_var 2)) (ass_cons (as_asg ae_bl (ag_fld 3 (ae_var 0)))
      (ass_cons (as_setLcR (i := 3) rfl sc_Eight_told.nd rfl rfl (sw_true rfl rfl rfl (by decide +kernel)) rfl T.b_range ae_int (show BlkOk ["self", "purse", "found", "rows", "which", "got", "k"] (defScope s_Eight_told) _ [("k", 6)] from blkOk_by (by decide +kernel)) (wip_name (by decide)) (fun s1 H1 C1 cl1 fp1 => (ag_name (i := 6) sc_Eight_told.nd rfl (Or.inl rfl))) (fun s1 H1 C1 cl1 fp1 => AE.cast (ae_sub (ae_ix (ae_fld 0 (ae_var 0)) (ae_var 6)) (ae_mul (ae_var 2) (ae_ix (ae_fld 0 (ae_var 0)) (ae_add (ae_var 6) ae_int)))) (by first | (dsimp only [Blk, Cx.blk]; done) | rfl)))
      (ass_cons (as_asg (ae_catT (ae_sl (ae_fld 0 (ae_var 0)) (ao_some ae_int) ao_none) (ae_tuple rfl T.b_tuple (ae_var 3))) (ag_fld 0 (ae_var 0)))
      (ass_one (as_ret (ae_tup (aa_cons ae_str (aa_cons (ae_var 2) aa_nil)))))))) ass_nil)
      (ass_cons (as_set 4 sc_Eight_told.nd (ae_intB rfl T.b_int (ae_lt (ae_ix (ae_fld 2 (ae_var 0)) ae_int) (ae_ix (ae_fld 2 (ae_var 0)) ae_int))))
      (ass_cons (as_set 5 sc_Eight_told.nd (ae_meth (k := L) hr (takes_of rfl rfl rfl rfl) (by omega) (ae_ix (ae_fld 1 (ae_var 0)) (ae_var 4)) (aa_cons (ae_var 1) aa_nil)))
      (ass_cons (as_if (at_eqS (ae_ix (ae_var 5) ae_int) ae_str) (ass_one (as_ret (ae_var 5))) ass_nil)
      (ass_one (as_if (at_eqS (ae_ix (ae_var 5) ae_int) ae_str) (ass_one (as_asg (ae_meth (k := L) hr (takes_of rfl rfl rfl rfl) (by omega) (ae_var 0) (aa_cons (ae_var 4) aa_nil)) (ag_fld 4 (ae_var 0)))) (ass_one (as_expr (ae_meth (k := L) hr (takes_of rfl rfl rfl rfl) (by omega) (ae_var 0) (aa_cons (ae_var 4) (aa_cons (ae_ix (ae_var 5) ae_int) aa_nil)))))))))))))
      (ass_one (as_ret (ae_meth (k := L) hr (takes_of rfl rfl rfl rfl) (by omega) (ae_fld 4 (ae_var 0)) (aa_cons (ae_var 1) aa_nil))))), fun ds Ω Qa Ea h => ?_⟩)
  obtain ⟨p, pu, r, S, n, m, r', m', ans, rfl, hk, hl, hR, hp, hn, ht, k⟩ := h
  walk_at "pl"
  refine ⟨I_eight C L p pu r' m' ans S Ω, ⟨_, r, S, m, n, none, none, none, none, none, hk, hl, hR, hp, hn, ht, .refl, rfl, rfl⟩, ?_⟩
  rintro n ρ Ω1 ⟨r, S1, m, i, z1, z2, z3, z4, z5, hk, hl, hR, hp, hn, ht, mv, rfl, rfl⟩
  have fin : ∀ {S2 : List Addr} {Ω2 : Om}, RdO C Ω2 p r' S2 → Ω2 pu = some (oPurse C m') → Mv S pu Ω S2 Ω2 → ans.ok C Qa Ea Ω2 := fun hR2 hp2 mv2 => k _ _ hR2 hp2 mv2.fr mv2.fs nofun
  clear k
  have hpn : Ω1 pu ≠ none := by rw [hp]; simp
  cases hR with
  | eight ho hkk hx hy n1 n2 n3 n4 n5 n6 =>
    rename_i y1 y2 kk a b c d e f' g h' m0 m1 bg x y S1 S2
    have hne : pu ≠ p := fun e => hn (by simp [e])
    walk_at "pl"
    rw [ho]
    walk_at "pl"
    simp only [D.isNon]
    walk_at "pl"
    refine ⟨by walk_at "nm", F_sure8 C, (m_sure8 T _ (by simp)).mono (by omega), p, y1, y2, kk, a, b, c, d, e, f', g, h', m0, m1, bg, .non, rfl, ho, hkk, ?_⟩
    have hnn : Ω1 p ≠ none := by rw [ho]; simp
    have hkn : Ω1 kk ≠ none := by rw [hkk]; simp
    have lvs : ∀ w : Bool, (cond w y x).lv ≤ L := fun w => by cases w <;> simp only [R.lv, cond] at hl ⊢ <;> omega
    have rds : ∀ w : Bool, RdO C Ω1 (cond w y2 y1) (cond w y x) (cond w S2 S1) := fun w => by cases w; exact hx; exact hy
    have nps : ∀ w : Bool, pu ∉ cond w S2 S1 := fun w e => hn (by cases w <;> simp only [cond] at e <;> simp [e])
    cases ht with
    | etTell h1 hs =>
      rename_i q
      obtain ⟨ha, hb, hc, hd, he, hf, hg, hh⟩ := h1
      refine ⟨ha, hb, hc, hd, he, hf, hg, hh, ?_⟩
      rw [hs]
      simp only [optD]
      walk_at "pl"
      have hq := sure8_bg hs ha hb hc hd
      rw [if_pos (by decide)]
      rw [ho]
      walk_at "pl"
      refine ⟨by decide, by decide, by decide, rows_eq (a := a) (b := b) (c := c) (d := d) (e := e) (f := f') (g := g) (h := h') (q := q) _ _ (fun k hk4 Ω2 R hΩ hk => ?_) ?_⟩
      · subst hΩ
        simp only [wipeA]
        walk_at "pl"
        have hbq : Bg q := hq
        rcases (by omega : k = 0 ∨ k = 1 ∨ k = 2 ∨ k = 3) with rfl | rfl | rfl | rfl
        · exact ⟨_, rfl, _, rfl, _, rfl, bg_mul hq (sm_bg he), _, rfl, hk⟩
        · exact ⟨_, rfl, _, rfl, _, rfl, bg_mul hq (sm_bg hf), _, rfl, hk⟩
        · exact ⟨_, rfl, _, rfl, _, rfl, bg_mul hq (sm_bg hg), _, rfl, hk⟩
        · exact ⟨_, rfl, _, rfl, _, rfl, bg_mul hq (sm_bg hh), _, rfl, hk⟩
      · rw [oset_same]
        walk_at "pl"
        rw [cut_4]
        refine ⟨by simp; decide, by decide, by decide, ?_⟩
        have hne' : ∀ b ∈ S1, b ≠ p := fun b hb e => n2 (e ▸ hb)
        have hne2 : ∀ b ∈ S2, b ≠ p := fun b hb e => n3 (e ▸ hb)
        exact fin (.eight oset_same ((oset_ne (Ne.symm n1)).trans hkk) (hx.keep fun b hb => oset_ne (hne' b hb)) (hy.keep fun b hb => oset_ne (hne2 b hb)) n1 n2 n3 n4 n5 n6) ((oset_ne hne).trans hp) (mv.trans (Mv.set (by simp)) hpn)
    | @etWait _ _ _ _ _ _ _ _ _ _ _ _ _ _ w j z _ h1 hs hw hx2 =>
      obtain ⟨ha, hb, hc, hd, he, hf, hg, hh⟩ := h1
      refine ⟨ha, hb, hc, hd, he, hf, hg, hh, ?_⟩
      rw [hs]
      simp only [optD]
      walk_at "pl"
      rw [ho]
      walk_at "pl"
      simp only [seq_o hkk]
      walk_at "pl"
      rw [if_neg (by decide), which_eq hw, inn_eq]
      refine ⟨_, rfl, _, rfl, told_in tl (lvs w) (rds w) hp (nps w) _ _ hx2 fun Ω2 S3 hR2 hp2 mv2 inn2 => ?_⟩
      obtain ⟨T1, T2, k1, k2, k3, k4, k5, k6, k7, k8, k9, k10, k11, k12⟩ := eight_step w hnn hkn hpn hx hy n2 n3 n4 n5 n6 hn hR2 mv2
      simp only [Ans.ok, Ans.d]
      walk_at "pl"
      exact fin (.eight (k3.trans ho) (k4.trans hkk) k1 k2 n1 k5 k6 k7 k8 k9) hp2 (mv.trans ((k12.cons kk).cons p) hpn)
    | @etNo _ _ _ _ _ _ _ _ _ _ _ _ _ _ w j z _ h1 hs hw hx2 =>
      obtain ⟨ha, hb, hc, hd, he, hf, hg, hh⟩ := h1
      refine ⟨ha, hb, hc, hd, he, hf, hg, hh, ?_⟩
      rw [hs]
      simp only [optD]
      walk_at "pl"
      rw [ho]
      walk_at "pl"
      simp only [seq_o hkk]
      walk_at "pl"
      rw [if_neg (by decide), which_eq hw, inn_eq]
      refine ⟨_, rfl, _, rfl, told_in tl (lvs w) (rds w) hp (nps w) _ _ hx2 fun Ω2 S3 hR2 hp2 mv2 inn2 => ?_⟩
      obtain ⟨T1, T2, k1, k2, k3, k4, k5, k6, k7, k8, k9, k10, k11, k12⟩ := eight_step w hnn hkn hpn hx hy n2 n3 n4 n5 n6 hn hR2 mv2
      exact fin (.eight (k3.trans ho) (k4.trans hkk) k1 k2 n1 k5 k6 k7 k8 k9) hp2 (mv.trans ((k12.cons kk).cons p) hpn)
    | @etFour _ _ _ _ _ _ _ _ _ _ _ _ _ _ w j z m2 jj fr _ _ h1 hs hw hx2 hdet ht2 =>
      have h1' := h1
      obtain ⟨ha, hb, hc, hd, he, hf, hg, hh⟩ := h1
      refine ⟨ha, hb, hc, hd, he, hf, hg, hh, ?_⟩
      rw [hs]
      simp only [optD]
      walk_at "pl"
      rw [ho]
      walk_at "pl"
      simp only [seq_o hkk]
      walk_at "pl"
      rw [if_neg (by decide), which_eq hw, inn_eq]
      refine ⟨_, rfl, _, rfl, told_in tl (lvs w) (rds w) hp (nps w) _ _ hx2 fun Ω2 S3 hR2 hp2 mv2 inn2 => ?_⟩
      obtain ⟨T1, T2, k1, k2, k3, k4, k5, k6, k7, k8, k9, k10, k11, k12⟩ := eight_step w hnn hkn hpn hx hy n2 n3 n4 n5 n6 hn hR2 mv2
      simp only [Ans.ok, Ans.d]
      walk_at "pl"
      rw [if_neg (by decide)]
      have ho2 := k3.trans ho
      have hk2 := k4.trans hkk
      rw [ho2]
      walk_at "pl"
      refine ⟨by walk_at "nm", F_left C, (m_left T _ (by simp)).mono (by omega), p, y1, y2, kk, a, b, c, d, e, f', g, h', m0, m1, bg, w, .non, rfl, ho2, hk2, h1', fun q hq => ?_⟩
      have hqp : q ≠ p := fun e => by rw [e, ho2] at hq; cases hq
      have hqu : q ≠ pu := fun e => by rw [e, hp2] at hq; cases hq
      have hq1 : q ∉ T1 := fun z => k1.there q z hq
      have hq2 : q ∉ T2 := fun z => k2.there q z hq
      rw [if_pos hdet]
      dsimp only
      rw [oset_ne (Ne.symm hqp), ho2]
      walk_at "pl"
      have hzl := hx2.lv
      have kp : ∀ b ∈ T1 ++ T2, ∀ u v, oset (oset Ω2 q u) p v b = Ω2 b := fun b hb u v => by
        have h1 : b ≠ p := fun e => by rcases List.mem_append.mp hb with z | z; exact k5 (e ▸ z); exact k6 (e ▸ z)
        have h2 : b ≠ q := fun e => by rcases List.mem_append.mp hb with z | z; exact hq1 (e ▸ z); exact hq2 (e ▸ z)
        rw [oset_ne h1, oset_ne h2]
      have mvn : ∀ (S' : List Addr) u v, (∀ b ∈ S', b = p ∨ b = q ∨ b ∈ T1 ++ T2) → Mv S pu Ω S' (oset (oset Ω2 q u) p v) := fun S' u v hS => by
        refine mv.trans (((k12.cons kk).cons p).trans ⟨fun b hb hbp hn => ?_, fun b hb => ?_⟩ (by rw [hp2]; simp)) hpn
        · rw [oset_ne (fun e => hb (by simp [e])), oset_ne (fun e => hn (by rw [e]; exact hq))]
        · rcases hS b hb with rfl | rfl | h
          · exact .inl (by simp)
          · exact .inr hq
          · exact .inl (by simp only [List.mem_cons]; exact .inr (.inr h))
      have hzl2 := lvs w
      refine ⟨by decide, 0, by omega, .eightF w z (.four a (cond w c b) e (cond w g f') (decide (0 < cond w m0 m1)) bg (cond w x y)), ?_⟩
      have hlw : (R.eightF w z (.four a (cond w c b) e (cond w g f') (decide (0 < cond w m0 m1)) bg (cond w x y))).lv ≤ L + 1 := by
        simp only [R.lv] at hl ⊢
        cases w <;> simp only [cond] at hzl hzl2 ⊢ <;> omega
      cases w with
      | true =>
        simp only [cond] at *
        refine ⟨p :: (T2 ++ (q :: T1)), m2, 0, _, _, _, _, _, rfl, hlw, .eightF (w := true) (ns := [.int a, .int b, .int c, .int d, .int e, .int f', .int g, .int h']) (z1 := y1) (z2 := y2) (k := kk) (bg := bg) (q := q) oset_same ((oset_ne hqp).trans oset_same) rfl (k2.keep fun b hb => kp b (List.mem_append_right _ hb) _ _) (.four ((oset_ne hqp).trans oset_same) (k1.keep fun b hb => kp b (List.mem_append_left _ hb) _ _) hq1) rfl k6 (by simp [Ne.symm hqp, k5]) (fun b hb => ?_), ?_, ?_, .exF rfl ht2, mvn _ _ _ (fun b hb => ?_), by first | rfl | trivial, by first | rfl | trivial⟩
        · simp only [List.mem_cons, not_or]
          exact ⟨fun e => hq2 (e ▸ hb), fun z => k9 b z hb⟩
        · rw [oset_ne hne, oset_ne (Ne.symm hqu)]; exact hp2
        · simp only [List.mem_cons, List.mem_append, not_or]
          exact ⟨hne, k11, Ne.symm hqu, k10⟩
        · simp only [List.mem_cons, List.mem_append] at hb ⊢
          rcases hb with h | h | h | h
          · exact .inl h
          · exact .inr (.inr (.inr h))
          · exact .inr (.inl h)
          · exact .inr (.inr (.inl h))
      | false =>
        simp only [cond] at *
        refine ⟨p :: (T1 ++ (q :: T2)), m2, 0, _, _, _, _, _, rfl, hlw, .eightF (w := false) (ns := [.int a, .int b, .int c, .int d, .int e, .int f', .int g, .int h']) (z1 := y1) (z2 := y2) (k := kk) (bg := bg) (q := q) oset_same ((oset_ne hqp).trans oset_same) rfl (k1.keep fun b hb => kp b (List.mem_append_left _ hb) _ _) (.four ((oset_ne hqp).trans oset_same) (k2.keep fun b hb => kp b (List.mem_append_right _ hb) _ _) hq2) rfl k5 (by simp [Ne.symm hqp, k6]) (fun b hb => ?_), ?_, ?_, .exF rfl ht2, mvn _ _ _ (fun b hb => ?_), by first | rfl | trivial, by first | rfl | trivial⟩
        · simp only [List.mem_cons, not_or]
          exact ⟨fun e => hq1 (e ▸ hb), fun z => k9 b hb z⟩
        · rw [oset_ne hne, oset_ne (Ne.symm hqu)]; exact hp2
        · simp only [List.mem_cons, List.mem_append, not_or]
          exact ⟨hne, k10, Ne.symm hqu, k11⟩
        · simp only [List.mem_cons, List.mem_append] at hb ⊢
          rcases hb with h | h | h | h
          · exact .inl h
          · exact .inr (.inr (.inl h))
          · exact .inr (.inl h)
          · exact .inr (.inr (.inr h))
    | @etFix _ _ _ _ _ _ _ _ _ _ _ _ _ _ w j z m2 t0 b0 t' b' g' _ _ h1 hs hw hx2 hdet htb ht2 =>
      have h1' := h1
      obtain ⟨ha, hb, hc, hd, he, hf, hg, hh⟩ := h1
      refine ⟨ha, hb, hc, hd, he, hf, hg, hh, ?_⟩
      rw [hs]
      simp only [optD]
      walk_at "pl"
      rw [ho]
      walk_at "pl"
      simp only [seq_o hkk]
      walk_at "pl"
      rw [if_neg (by decide), which_eq hw, inn_eq]
      refine ⟨_, rfl, _, rfl, told_in tl (lvs w) (rds w) hp (nps w) _ _ hx2 fun Ω2 S3 hR2 hp2 mv2 inn2 => ?_⟩
      obtain ⟨T1, T2, k1, k2, k3, k4, k5, k6, k7, k8, k9, k10, k11, k12⟩ := eight_step w hnn hkn hpn hx hy n2 n3 n4 n5 n6 hn hR2 mv2
      simp only [Ans.ok, Ans.d]
      walk_at "pl"
      rw [if_neg (by decide)]
      have ho2 := k3.trans ho
      have hk2 := k4.trans hkk
      rw [ho2]
      walk_at "pl"
      refine ⟨by walk_at "nm", F_left C, (m_left T _ (by simp)).mono (by omega), p, y1, y2, kk, a, b, c, d, e, f', g, h', m0, m1, bg, w, .non, rfl, ho2, hk2, h1', fun q hq => ?_⟩
      have hqp : q ≠ p := fun e => by rw [e, ho2] at hq; cases hq
      have hqu : q ≠ pu := fun e => by rw [e, hp2] at hq; cases hq
      have hq1 : q ∉ T1 := fun z => k1.there q z hq
      have hq2 : q ∉ T2 := fun z => k2.there q z hq
      rw [if_neg (fun z => z hdet)]
      dsimp only
      rw [oset_ne (Ne.symm hqp), ho2]
      walk_at "pl"
      have hzl := hx2.lv
      have kp : ∀ b ∈ T1 ++ T2, ∀ u v, oset (oset Ω2 q u) p v b = Ω2 b := fun b hb u v => by
        have h1 : b ≠ p := fun e => by rcases List.mem_append.mp hb with z | z; exact k5 (e ▸ z); exact k6 (e ▸ z)
        have h2 : b ≠ q := fun e => by rcases List.mem_append.mp hb with z | z; exact hq1 (e ▸ z); exact hq2 (e ▸ z)
        rw [oset_ne h1, oset_ne h2]
      have mvn : ∀ (S' : List Addr) u v, (∀ b ∈ S', b = p ∨ b = q ∨ b ∈ T1 ++ T2) → Mv S pu Ω S' (oset (oset Ω2 q u) p v) := fun S' u v hS => by
        refine mv.trans (((k12.cons kk).cons p).trans ⟨fun b hb hbp hn => ?_, fun b hb => ?_⟩ (by rw [hp2]; simp)) hpn
        · rw [oset_ne (fun e => hb (by simp [e])), oset_ne (fun e => hn (by rw [e]; exact hq))]
        · rcases hS b hb with rfl | rfl | h
          · exact .inl (by simp)
          · exact .inr hq
          · exact .inl (by simp only [List.mem_cons]; exact .inr (.inr h))
      have htb1 : (if a = 0 ∧ e = 0 then cond w c b else a) = t0 := by
        have := congrArg Prod.fst htb
        split at this <;> simp_all
      have htb2 : (if a = 0 ∧ e = 0 then cond w g f' else e) = b0 := by
        have := congrArg Prod.snd htb
        split at this <;> simp_all
      rw [htb1, htb2]
      refine ⟨by decide, 0, by omega, .eightX (cond w x z) (cond w z y) t0 b0 bg, p :: q :: (T1 ++ T2), m2, 0, _, _, _, _, _, rfl, ?_, .eightX (ns := [.int a, .int b, .int c, .int d, .int e, .int f', .int g, .int h']) (k := kk) (bg := bg) oset_same ((oset_ne hqp).trans oset_same) (k1.keep fun b hb => kp b (List.mem_append_left _ hb) _ _) (k2.keep fun b hb => kp b (List.mem_append_right _ hb) _ _) (Ne.symm hqp) k5 k6 hq1 hq2 k9, ?_, ?_, .exX ht2, mvn _ _ _ (fun b hb => ?_), rfl, rfl⟩
      · have hzl2 := lvs w
        simp only [R.lv] at hl ⊢
        cases w <;> simp only [cond] at hzl hzl2 ⊢ <;> omega
      · rw [oset_ne hne, oset_ne (Ne.symm hqu)]; exact hp2
      · simp only [List.mem_cons, List.mem_append, not_or]
        exact ⟨hne, Ne.symm hqu, k10, k11⟩
      · simp only [List.mem_cons] at hb
        rcases hb with h | h | h
        · exact .inl h
        · exact .inr (.inl h)
        · exact .inr (.inr h)
    | @etIn0 _ _ _ _ _ _ _ _ _ _ _ _ _ _ j z m2 q jj _ _ _ h1 hs hw hx2 hq ht2 =>
      have h1' := h1
      obtain ⟨ha, hb, hc, hd, he, hf, hg, hh⟩ := h1
      refine ⟨ha, hb, hc, hd, he, hf, hg, hh, ?_⟩
      rw [hs]
      simp only [optD]
      walk_at "pl"
      rw [ho]
      walk_at "pl"
      simp only [seq_o hkk]
      walk_at "pl"
      have hw' : false = decide (m1 < m0) := (decide_eq_false hw).symm
      rw [if_neg (by decide), which_eq hw', inn_eq]
      refine ⟨_, rfl, _, rfl, told_in tl (lvs false) (rds false) hp (nps false) _ _ hx2 fun Ω2 S3 hR2 hp2 mv2 inn2 => ?_⟩
      obtain ⟨T1, T2, k1, k2, k3, k4, k5, k6, k7, k8, k9, k10, k11, k12⟩ := eight_step false hnn hkn hpn hx hy n2 n3 n4 n5 n6 hn hR2 mv2
      simp only [Ans.ok, Ans.d]
      walk_at "pl"
      rw [if_neg (by decide), if_neg (by decide)]
      have ho2 := k3.trans ho
      have hk2 := k4.trans hkk
      rw [ho2]
      walk_at "pl"
      refine ⟨by walk_at "nm", F_take C, (m_take T _ (by simp)).mono (by omega), p, y1, y2, kk, a, b, c, d, e, f', g, h', q, m0, m1, bg, false, .non, rfl, ho2, hk2, Ne.symm n1, h1', hq, ?_⟩
      have hkp : pu ≠ kk := fun e => hn (by simp [e])
      have kp : ∀ b ∈ T1 ++ T2, ∀ u v, oset (oset Ω2 p u) kk v b = Ω2 b := fun b hb u v => by
        have h1 : b ≠ p := fun e => by rcases List.mem_append.mp hb with z | z; exact k5 (e ▸ z); exact k6 (e ▸ z)
        have h2 : b ≠ kk := fun e => by rcases List.mem_append.mp hb with z | z; exact k7 (e ▸ z); exact k8 (e ▸ z)
        rw [oset_ne h2, oset_ne h1]
      have hzl := hx2.lv
      refine ⟨_, Nat.lt_succ_self _, _, p :: kk :: (T1 ++ T2), m2, _, _, _, _, _, _, rfl, ?_, .eight ((oset_ne n1).trans oset_same) oset_same (k1.keep fun b hb => kp b (List.mem_append_left _ hb) _ _) (k2.keep fun b hb => kp b (List.mem_append_right _ hb) _ _) n1 k5 k6 k7 k8 k9, ?_, ?_, ht2, mv.trans (((k12.cons kk).cons p).trans ((Mv.set (by simp)).trans (Mv.set (by simp)) (by rw [oset_ne hne, hp2]; simp)) (by rw [hp2]; simp)) hpn, rfl, rfl⟩
      · simp only [R.lv, cond] at hl ⊢
        omega
      · rw [oset_ne hkp, oset_ne hne]; exact hp2
      · simp only [List.mem_cons, List.mem_append, not_or]
        exact ⟨hne, hkp, k10, k11⟩
    | @etIn1 _ _ _ _ _ _ _ _ _ _ _ _ _ _ j z m2 q jj _ _ _ h1 hs hw hx2 hq ht2 =>
      have h1' := h1
      obtain ⟨ha, hb, hc, hd, he, hf, hg, hh⟩ := h1
      refine ⟨ha, hb, hc, hd, he, hf, hg, hh, ?_⟩
      rw [hs]
      simp only [optD]
      walk_at "pl"
      rw [ho]
      walk_at "pl"
      simp only [seq_o hkk]
      walk_at "pl"
      have hw' : true = decide (m1 < m0) := (decide_eq_true hw).symm
      rw [if_neg (by decide), which_eq hw', inn_eq]
      refine ⟨_, rfl, _, rfl, told_in tl (lvs true) (rds true) hp (nps true) _ _ hx2 fun Ω2 S3 hR2 hp2 mv2 inn2 => ?_⟩
      obtain ⟨T1, T2, k1, k2, k3, k4, k5, k6, k7, k8, k9, k10, k11, k12⟩ := eight_step true hnn hkn hpn hx hy n2 n3 n4 n5 n6 hn hR2 mv2
      simp only [Ans.ok, Ans.d]
      walk_at "pl"
      rw [if_neg (by decide), if_neg (by decide)]
      have ho2 := k3.trans ho
      have hk2 := k4.trans hkk
      rw [ho2]
      walk_at "pl"
      refine ⟨by walk_at "nm", F_take C, (m_take T _ (by simp)).mono (by omega), p, y1, y2, kk, a, b, c, d, e, f', g, h', q, m0, m1, bg, true, .non, rfl, ho2, hk2, Ne.symm n1, h1', hq, ?_⟩
      have hkp : pu ≠ kk := fun e => hn (by simp [e])
      have kp : ∀ b ∈ T1 ++ T2, ∀ u v, oset (oset Ω2 p u) kk v b = Ω2 b := fun b hb u v => by
        have h1 : b ≠ p := fun e => by rcases List.mem_append.mp hb with z | z; exact k5 (e ▸ z); exact k6 (e ▸ z)
        have h2 : b ≠ kk := fun e => by rcases List.mem_append.mp hb with z | z; exact k7 (e ▸ z); exact k8 (e ▸ z)
        rw [oset_ne h2, oset_ne h1]
      have hzl := hx2.lv
      refine ⟨_, Nat.lt_succ_self _, _, p :: kk :: (T1 ++ T2), m2, _, _, _, _, _, _, rfl, ?_, .eight ((oset_ne n1).trans oset_same) oset_same (k1.keep fun b hb => kp b (List.mem_append_left _ hb) _ _) (k2.keep fun b hb => kp b (List.mem_append_right _ hb) _ _) n1 k5 k6 k7 k8 k9, ?_, ?_, ht2, mv.trans (((k12.cons kk).cons p).trans ((Mv.set (by simp)).trans (Mv.set (by simp)) (by rw [oset_ne hne, hp2]; simp)) (by rw [hp2]; simp)) hpn, rfl, rfl⟩
      · simp only [R.lv, cond] at hl ⊢
        omega
      · rw [oset_ne hkp, oset_ne hne]; exact hp2
      · simp only [List.mem_cons, List.mem_append, not_or]
        exact ⟨hne, hkp, k10, k11⟩
  | eightX ho hq hx hy n1 n2 n3 n4 n5 n6 =>
    rename_i y1 y2 kk q ns t b g bg x y S1 S2
    walk_at "pl"
    rw [ho]
    walk_at "pl"
    simp only [D.isNon]
    walk_at "pl"
    refine ⟨_, _, hq, by walk_at "nm", F_told C .fixed L, tl.all .fixed _ (by simp [CT.cls]), q, pu, .fixed t b g, [q], 0, m, ?_⟩
    have hnS : ∀ b ∈ S1 ++ S2, b ≠ q ∧ b ≠ pu := fun b hb => ⟨fun e => by
      rw [e] at hb
      rcases List.mem_append.mp hb with z | z
      · exact n4 z
      · exact n5 z, fun e => hn (by rw [← e]; simp only [List.mem_cons]; exact .inr (.inr hb))⟩
    cases ht with
    | @exX _ _ _ _ _ _ t' b' g' _ _ ht =>
      refine ⟨.fixed t' b' g', m', ans, rfl, rfl, by simp only [R.lv]; omega, .fixed hq, hp, fun e => hn (by simp at e; simp [e]), ht, fun Ω2 S3 hR2 hp2 fr2 fs2 _ => ?_⟩
      cases hR2 with
      | fixed hf2 =>
        have hne : pu ≠ p := fun e => hn (by simp [e])
        have e1 : Ω2 p = Ω1 p := fr2 p (by simp [n1]) (Ne.symm hne) (by rw [ho]; simp)
        have kp : ∀ b ∈ S1 ++ S2, Ω1 b ≠ none → Ω2 b = Ω1 b := fun b hb hbn => fr2 b (by simp [(hnS b hb).1]) (hnS b hb).2 hbn
        refine fin (.eightX (e1.trans ho) hf2 (hx.keep fun b hb => kp b (List.mem_append_left _ hb) (hx.there b hb)) (hy.keep fun b hb => kp b (List.mem_append_right _ hb) (hy.there b hb)) n1 n2 n3 n4 n5 n6) hp2 (mv.trans ⟨fun b hb hbp hn => fr2 b (fun z => hb (by simp at z; simp [z])) hbp hn, fun b hb => .inl hb⟩ hpn)
  | eightF ho hq hl2 hx hy hkd n1 n2 n3 =>
    rename_i y1 y2 kk q c ns fs bg w dead fr S1 S2
    walk_at "pl"
    rw [ho]
    walk_at "pl"
    simp only [D.isNon]
    walk_at "pl"
    have hnp2 : pu ∉ S2 := fun e => hn (by simp [e])
    have hne : pu ≠ p := fun e => hn (by simp [e])
    cases ht with
    | exF _ ht =>
      rename_i fr'
      refine told_in tl (by simp only [R.lv] at hl; omega) hy hp hnp2 _ _ ht fun Ω2 S3 hR2 hp2 mv2 inn2 => ?_
      obtain ⟨e1, e2⟩ := mv2.keep n2 (Ne.symm hne) (by rw [ho]; simp)
      obtain ⟨c1, fs1, c2, fs2, g1, g2, g3⟩ := inn2 hkd
      rw [hq] at g1
      cases g1
      have hS1 : ∀ b ∈ S1, Ω2 b = Ω1 b ∧ b ∉ S3 := fun b hb => mv2.keep (n3 b hb) (fun e => hn (by rw [← e]; simp [hb])) (hx.there b hb)
      have := fin (.eightF (e1.trans ho) g2 (g3.trans hl2) (hx.keep fun b hb => (hS1 b hb).1) hR2 ?_ n1 e2 fun b hb => (hS1 b hb).2) hp2 (mv.trans ((mv2.of S1 fun _ _ => .inr True.intro).cons p) hpn)
      · cases ans <;> exact this
      · rw [ht.kd]; exact hkd
  | _ => cases hk
theorem tolds (T : Txt K mg C) : ∀ {L : Nat}, 3 ≤ L → Tolds P w K mg base ca C L
  | 0, h => by omega
  | L + 1, h => by
    by_cases e : L + 1 = 3
    · have : L = 2 := by omega
      subst this
      exact tolds3 T
    · have tl := tolds T (L := L) (by omega)
      refine ⟨fun kd D hD => ?_⟩
      cases kd with
      | fixed => exact ((m_fixedTold T D hD).imp (F_told_fixed (by omega))).mono (by omega)
      | leaf => exact ((m_leafTold T D hD).imp (F_told_leaf (by omega))).mono (by omega)
      | four => exact m_fourTold T (by omega) tl D hD
      | eight => exact m_eightTold T (by omega) tl D hD
structure Tooks (P : Program) (w : World) (K : PySem.W.Frag) (mg : Str → Option Value) (base : Heap) (ca : CA) (C : CT) (L : Nat) : Prop where
  all : ∀ kd, ∀ D ∈ C.cls kd, Mth P w K mg base ca L D "took" (F_took C fun r => r.kd = kd ∧ r.lv ≤ L)
theorem took_in {L : Nat} (tk : Tooks P w K mg base ca C L) {z : Addr} {x : R} {S1 : List Addr} {Ω1 : Om} (hlx : x.lv ≤ L) (hz : RdO C Ω1 z x S1) (Q : AQ) (E : Value → Om → Prop) (k : Q (.int x.tk) Ω1) :
    ∃ c fs, Ω1 z = some (.obj c fs) ∧ ("took" : Str) ∉ fs.map (·.1) ∧ ∃ F, Mth P w K mg base ca L c "took" F ∧ F [.o z] Ω1 Q E := by
  obtain ⟨c, fs, ho, hm, hc⟩ := hz.obj
  exact ⟨c, fs, ho, hm _ (.inr (.inr rfl)), _, tk.all x.kd c hc, z, x, S1, rfl, hz, ⟨rfl, hlx⟩, k⟩
theorem m_fixedTook (T : Txt K mg C) : ∀ D ∈ [C.c_Fixed], Mth P w K mg base ca 1 D "took" (F_took C fun r => r.kd = .fixed) := by
  refine mth T.m_Reader_took sc_Reader_took (fun ds Ω Q E h => ?_) (fun f cdv A outer s H E hr => ⟨_, _, (ass_one (as_ret ae_int)), fun ds Ω Qa Ea h => ?_⟩)
  · obtain ⟨_, _, _, rfl, _⟩ := h
    rfl
  · obtain ⟨p, x, S, rfl, hR, hk, k⟩ := h
    cases hR with
    | fixed ho =>
      walk_at "pl"
      exact k
    | _ => cases hk
theorem m_fourTook (T : Txt K mg C) {L : Nat} (tk : Tooks P w K mg base ca C L) : ∀ D ∈ [C.c_Four], Mth P w K mg base ca (L + 1) D "took" (F_took C fun r => r.kd = .four ∧ r.lv ≤ L + 1) := by
  refine mth T.m_Four_took sc_Four_took (fun ds Ω Q E h => ?_) (fun f cdv A outer s H E hr => ⟨_, _, (ass_one (as_ret (ae_meth0 (k := L) hr (takes_of rfl rfl rfl rfl) (by omega) (ae_fld 1 (ae_var 0))))), fun ds Ω Qa Ea h => ?_⟩)
  · obtain ⟨_, _, _, rfl, _⟩ := h
    rfl
  · obtain ⟨p, x, S, rfl, hR, ⟨hk, hl⟩, k⟩ := h
    cases hR with
    | four ho hz =>
      walk_at "pl"
      rw [ho]
      walk_at "pl"
      exact took_in tk (by simp only [R.lv] at hl; omega) hz _ _ k
    | fourX ho _ hz =>
      walk_at "pl"
      rw [ho]
      walk_at "pl"
      exact took_in tk (by simp only [R.lv] at hl; omega) hz _ _ k
    | _ => cases hk
theorem m_eightTook (T : Txt K mg C) {L : Nat} (tk : Tooks P w K mg base ca C L) : ∀ D ∈ [C.c_Eight], Mth P w K mg base ca (L + 1) D "took" (F_took C fun r => r.kd = .eight ∧ r.lv ≤ L + 1) := by
  refine mth T.m_Eight_took sc_Eight_took (fun ds Ω Q E h => ?_) (fun f cdv A outer s H E hr => ⟨_, _, (ass_one (as_ret (ae_add (ae_meth0 (k := L) hr (takes_of rfl rfl rfl rfl) (by omega) (ae_ix (ae_fld 1 (ae_var 0)) ae_int)) (ae_meth0 (k := L) hr (takes_of rfl rfl rfl rfl) (by omega) (ae_ix (ae_fld 1 (ae_var 0)) ae_int))))), fun ds Ω Qa Ea h => ?_⟩)
  · obtain ⟨_, _, _, rfl, _⟩ := h
    rfl
  · obtain ⟨p, x, S, rfl, hR, ⟨hk, hl⟩, k⟩ := h
    cases hR with
    | eight ho _ hx hy =>
      walk_at "pl"
      rw [ho]
      walk_at "pl"
      refine took_in tk (by simp only [R.lv] at hl; omega) hx _ _ ?_
      rw [ho]
      walk_at "pl"
      refine took_in tk (by simp only [R.lv] at hl; omega) hy _ _ ⟨_, rfl, ?_⟩
      simp only [R.tk, Int.natCast_add] at k
      exact k
    | eightX ho _ hx hy =>
      walk_at "pl"
      rw [ho]
      walk_at "pl"
      refine took_in tk (by simp only [R.lv] at hl; omega) hx _ _ ?_
      rw [ho]
      walk_at "pl"
      refine took_in tk (by simp only [R.lv] at hl; omega) hy _ _ ⟨_, rfl, ?_⟩
      simp only [R.tk, Int.natCast_add] at k
      exact k
    | @eightF _ z1 z2 kk q c ns fs bg w dead fr S1 S2 ho hq hi hd hf hkd =>
      walk_at "pl"
      rw [ho]
      walk_at "pl"
      -- the reader within the four
      obtain ⟨xi, Si, hxi, htk, hlv⟩ : ∃ xi Si, RdO C Ω (if w then z1 else z2) xi Si ∧ xi.tk = fr.tk ∧ xi.lv ≤ fr.lv := by
        cases hf with
        | four e hz =>
          rw [hq] at e
          cases e
          simp only [List.getElem?_cons_succ, List.getElem?_cons_zero, Option.some.injEq, Prod.mk.injEq, D.o.injEq, true_and] at hi
          rw [hi] at hz
          exact ⟨_, _, hz, rfl, by simp only [R.lv]; omega⟩
        | fourX e _ hz =>
          rw [hq] at e
          cases e
          simp only [List.getElem?_cons_succ, List.getElem?_cons_zero, Option.some.injEq, Prod.mk.injEq, D.o.injEq, true_and] at hi
          rw [hi] at hz
          exact ⟨_, _, hz, rfl, by simp only [R.lv]; omega⟩
        | _ => cases hkd
      cases w with
      | true =>
        simp only [if_true, Bool.false_eq_true, if_false] at *
        refine took_in tk (by simp only [R.lv] at hl; omega) hxi _ _ ?_
        rw [ho]
        walk_at "pl"
        refine took_in tk (by simp only [R.lv] at hl; omega) hd _ _ ⟨_, rfl, ?_⟩
        simp only [R.tk, Int.natCast_add] at k
        rw [htk, Int.add_comm]
        exact k
      | false =>
        simp only [if_true, Bool.false_eq_true, if_false] at *
        refine took_in tk (by simp only [R.lv] at hl; omega) hd _ _ ?_
        rw [ho]
        walk_at "pl"
        refine took_in tk (by simp only [R.lv] at hl; omega) hxi _ _ ⟨_, rfl, ?_⟩
        simp only [R.tk, Int.natCast_add] at k
        rw [htk]
        exact k
    | _ => cases hk
theorem tooks (T : Txt K mg C) : ∀ {L : Nat}, 3 ≤ L → Tooks P w K mg base ca C L
  | 0, h => by omega
  | L + 1, h => by
    have st : (4 ≤ L + 1 → Tooks P w K mg base ca C L) → Tooks P w K mg base ca C (L + 1) := fun h4 => by
      refine ⟨fun kd D hD => ?_⟩
      cases kd with
      | fixed => exact ((m_fixedTook T D hD).imp fun ds Ω Q E ⟨p, x, S, e, h1, h2, h3⟩ => ⟨p, x, S, e, h1, h2.1, h3⟩).mono (by omega)
      | leaf => exact ((m_leafTook T D hD).imp fun ds Ω Q E ⟨p, x, S, e, h1, h2, h3⟩ => ⟨p, x, S, e, h1, h2.1, h3⟩).mono (by omega)
      | four =>
        by_cases e : 4 ≤ L + 1
        · exact m_fourTook T (h4 e) D hD
        · exact mth_none T.m_Four_took (fun ds Ω Q E ⟨p, x, S, _, _, ⟨hk, hl⟩, _⟩ => by have := R.lv_four hk; omega) D hD
      | eight =>
        by_cases e : 4 ≤ L + 1
        · exact m_eightTook T (h4 e) D hD
        · exact mth_none T.m_Eight_took (fun ds Ω Q E ⟨p, x, S, _, _, ⟨hk, hl⟩, _⟩ => by have := R.lv_eight hk; omega) D hD
    exact st fun h4 => tooks T (by omega)
inductive Rw where
  | frac (t b : Int)
  | root (t s b : Int)
  | ruled (ps ring steps : List Int)
  | four (ns : List Int) (x : Rw)
  | eight (ns : List Int) (x y : Rw)
  | power (x : Rw) (n : Int)
def Rw.d : Rw → D
  | .frac t b => .tup [.str "fraction", .int t, .int b]
  | .root t s b => .tup [.str "root", .int t, .int s, .int b]
  | .ruled ps ring steps => .tup [.str "ruled", dtup ps, dtup ring, dtup steps]
  | .four ns x => .tup [.str "four", dtup ns, x.d]
  | .eight ns x y => .tup [.str "eight", dtup ns, x.d, y.d]
  | .power x n => .tup [.str "power", x.d, .int n]
def fewB (n : Int) : Bool := decide (n.natAbs ≤ 10 ^ 12)
theorem fewB_iff {n : Int} : fewB n = true ↔ Few n := decide_eq_true_iff
def ruB (ps ring steps : List Int) : Bool := decide (1 ≤ ps.length ∧ ps.length ≤ 12 ∧ ring.length ≤ 12 ∧ ring.length = steps.length) && (ps ++ ring ++ steps).all fewB && (ps.drop 1 ++ ring).all (fun n => decide (1 ≤ n)) && steps.all (fun n => decide (0 ≤ n)) &&
  (if ring = [] then if 1 < ps.length then decide (2 ≤ ps.getLast?.getD 0) else true else true)
def apN (ns : List Int) (i j : Nat) : Bool := !decide (ns.getD i 0 * ns.getD (4 + j) 0 = ns.getD j 0 * ns.getD (4 + i) 0)
def apI (ns : List Int) (i j : Nat) : Bool := (List.range j).any (apN ns i)
def apA (ns : List Int) (i : Nat) : Bool := (List.range i).any fun i => apI ns i i
def eiB (ns : List Int) : Bool := decide (ns.length = 8) && ns.all fewB && apA ns 4
def foB (ns : List Int) : Bool := decide (ns.length = 4) && ns.all fewB && !decide (ns.getD 0 0 * ns.getD 3 0 = ns.getD 1 0 * ns.getD 2 0)
def Rw.ok : Nat → Rw → Bool
  | 0, _ => false
  | _ + 1, .frac t b => fewB t && fewB b && !decide (b = 0)
  | _ + 1, .root t s b => fewB t && fewB s && fewB b && decide (0 ≤ s) && !decide (b = 0)
  | _ + 1, .ruled ps ring steps => ruB ps ring steps
  | k + 1, .four ns x => foB ns && x.ok k
  | k + 1, .eight ns x y => eiB ns && x.ok k && y.ok k
  | k + 1, .power x n => decide (1 ≤ n ∧ n ≤ 4) && x.ok k
/-- refused or let by -/
def gate (C : CT) (b : Bool) (Q : AQ) (E : Value → Om → Prop) (Ω : Om) : Prop := if b = true then Q .non Ω else E (.ref C.c_BadTree) Ω
theorem gate_t {Q : AQ} {E : Value → Om → Prop} {Ω : Om} {b : Bool} (h : gate C b Q E Ω) (e : b = true) : Q .non Ω := by subst e; exact h
theorem gate_f {Q : AQ} {E : Value → Om → Prop} {Ω : Om} {b : Bool} (h : gate C b Q E Ω) (e : b = false) : E (.ref C.c_BadTree) Ω := by subst e; exact h
def F_numbersG (C : CT) : AF := fun ds Ω Q E => ∃ ns : List Int, ds = [.tup (ns.map D.int)] ∧ gate C (ns.all fewB) Q E Ω
def P_numbersG (d : D) (b : Bool) (Ω : Om) : List D → En → Om → Prop := fun us ρ Ω' => ∃ (ns : List Int) (z : Option D), us = ns.map D.int ∧ ns.all fewB = b ∧ Ω' = Ω ∧ ρ = [some d, z]
theorem few_abs {y : Int} : decide ((if y < 0 then -y else y) ≤ 1000000000000) = fewB y := by
  unfold fewB
  congr 1
  simp only [eq_iff_iff]
  split <;> omega
theorem c_need_numbersG (T : Txt K mg C) : Clb P w K mg base ca 2 "need_numbers" (F_numbersG C) := by
  refine clb T.d_need_numbers sc_need_numbers (fun ds Ω Q E h => ?_) (fun f cdv A outer s H E hr => ⟨_, _, (ass_one (as_forT (passes_of rfl) rfl (ae_var 0) (ag_name (i := 1) sc_need_numbers.nd rfl (Or.inl rfl)) (ass_one (as_expr (ae_call (c_must T) hr (takes_of rfl rfl rfl rfl) (by omega) (aa_cons (ae_le (ae_abs rfl T.b_abs (ae_var 1)) (ae_globE rfl T.g_MOST_NUMBER)) aa_nil)))))), fun ds Ω Qa Ea h => ?_⟩)
  · obtain ⟨_, rfl, _⟩ := h
    rfl
  · obtain ⟨ns, rfl, k⟩ := h
    walk_at "pl"
    refine forL_ind (P_numbersG (.tup (ns.map D.int)) (ns.all fewB) Ω) ⟨ns, none, rfl, rfl, rfl, rfl⟩ ?_ ?_
    · rintro ρ Ω' ⟨ms, z, e, hb, rfl, rfl⟩
      have : ms = [] := by cases ms with
        | nil => rfl
        | cons _ _ => cases e
      subst this
      exact gate_t k hb.symm
    · rintro x us ρ Ω' De _ ih _ _ ⟨ms, z, e, hm, rfl, rfl⟩
      cases ms with
      | nil => cases e
      | cons y ys =>
        simp only [List.map_cons, List.cons.injEq] at e
        obtain ⟨rfl, rfl⟩ := e
        walk_at "pl"
        refine ⟨_, rfl, ?_⟩
        rw [few_abs]
        rw [List.all_cons] at hm
        cases hy : fewB y with
        | true =>
          rw [hy, Bool.true_and] at hm
          exact ih _ _ ⟨ys, _, rfl, hm, rfl, rfl⟩
        | false =>
          rw [hy, Bool.false_and] at hm
          exact gate_f k hm.symm
def F_needRuledG (C : CT) : AF := fun ds Ω Q E => ∃ ps ring steps : List Int, ds = [dtup ps, dtup ring, dtup steps] ∧ gate C (ruB ps ring steps) Q E Ω
def P_ruG1 (a b c : D) (q : Bool) (Ω : Om) : List D → En → Om → Prop := fun us ρ Ω' => ∃ (ns : List Int) (z : Option D), us = ns.map D.int ∧ ns.all (fun n => decide (1 ≤ n)) = q ∧ Ω' = Ω ∧ ρ = [some a, some b, some c, z, none]
def P_ruG2 (a b c : D) (q : Bool) (Ω : Om) : List D → En → Om → Prop := fun us ρ Ω' => ∃ (ns : List Int) (z z2 : Option D), us = ns.map D.int ∧ ns.all (fun n => decide (0 ≤ n)) = q ∧ Ω' = Ω ∧ ρ = [some a, some b, some c, z, z2]
def M_ruG (a b c : D) (q : Prop) (Ω : Om) : En → Om → Prop := fun ρ Ω' => q ∧ Ω' = Ω ∧ ρ = [some a, some b, some c, none, none]
theorem c_need_ruledG (T : Txt K mg C) : Clb P w K mg base ca 3 "need_ruled" (F_needRuledG C) := by
  refine clb T.d_need_ruled sc_need_ruled (fun ds Ω Q E h => ?_) (fun f cdv A outer s H E hr => ⟨_, _, (ass_cut (as_expr (ae_call (c_must T) hr (takes_of rfl rfl rfl rfl) (by omega) (aa_cons (ae_and (ae_leLe ae_int (ae_len rfl T.b_len (ae_var 0)) (ae_globE rfl T.g_MOST_PARTS)) (ae_and (ae_le (ae_len rfl T.b_len (ae_var 1)) (ae_globE rfl T.g_MOST_PARTS)) (ae_one (ae_eqI (ae_len rfl T.b_len (ae_var 1)) (ae_len rfl T.b_len (ae_var 2)))))) aa_nil)))
      (ass_cons (as_expr (ae_call (c_need_numbersG T) hr (takes_of rfl rfl rfl rfl) (by omega) (aa_cons (ae_catT (ae_catT (ae_var 0) (ae_var 1)) (ae_var 2)) aa_nil)))
      (ass_cons (as_forT (passes_of rfl) rfl (ae_catT (ae_sl (ae_var 0) (ao_some ae_int) ao_none) (ae_var 1)) (ag_name (i := 3) sc_need_ruled.nd rfl (Or.inl rfl)) (ass_one (as_expr (ae_call (c_must T) hr (takes_of rfl rfl rfl rfl) (by omega) (aa_cons (ae_ge (ae_var 3) ae_int) aa_nil)))))
      (ass_cons (as_forT (passes_of rfl) rfl (ae_var 2) (ag_name (i := 4) sc_need_ruled.nd rfl (Or.inl rfl)) (ass_one (as_expr (ae_call (c_must T) hr (takes_of rfl rfl rfl rfl) (by omega) (aa_cons (ae_ge (ae_var 4) ae_int) aa_nil)))))
      (ass_one (as_if (AWt.at_ (aw_and (at_eqD hr.units (ae_var 1) (ae_tup aa_nil)) (aw_and1 (at_gt (ae_len rfl T.b_len (ae_var 0)) ae_int)))) (ass_one (as_expr (ae_call (c_must T) hr (takes_of rfl rfl rfl rfl) (by omega) (aa_cons (ae_ge (ae_ix (ae_var 0) (ae_neg ae_int)) ae_int) aa_nil)))) ass_nil)))))), fun ds Ω Qa Ea h => ?_⟩)
  · obtain ⟨_, _, _, rfl, _⟩ := h
    rfl
  · obtain ⟨ps, ring, steps, rfl, k⟩ := h
    unfold dtup
    walk_at "pl"
    refine ⟨M_ruG (.tup (ps.map D.int)) (.tup (ring.map D.int)) (.tup (steps.map D.int)) (1 ≤ ps.length ∧ ps.length ≤ 12 ∧ ring.length ≤ 12 ∧ ring.length = steps.length) Ω, ?_, ?_⟩
    · walk_at "pl"
      simp only [List.length_map]
      have bad : ¬ (1 ≤ ps.length ∧ ps.length ≤ 12 ∧ ring.length ≤ 12 ∧ ring.length = steps.length) → Ea (.ref C.c_BadTree) Ω := fun hn => gate_f k (by unfold ruB; rw [decide_eq_false hn]; rfl)
      have good : (1 ≤ ps.length ∧ ps.length ≤ 12 ∧ ring.length ≤ 12 ∧ ring.length = steps.length) → M_ruG (.tup (ps.map D.int)) (.tup (ring.map D.int)) (.tup (steps.map D.int)) (1 ≤ ps.length ∧ ps.length ≤ 12 ∧ ring.length ≤ 12 ∧ ring.length = steps.length) Ω [some (.tup (ps.map D.int)), some (.tup (ring.map D.int)), some (.tup (steps.map D.int)), none, none] Ω := fun h => ⟨h, rfl, rfl⟩
      refine ite2 (fun g1 => ite2 (fun g2 => ite2 (fun g3 => ⟨_, rfl, ?_⟩) (fun g => ⟨_, rfl, bad (by omega)⟩)) (fun g => ⟨_, rfl, bad (by omega)⟩)) (fun g => ⟨_, rfl, bad (by omega)⟩)
      refine ite2 (fun g4 => good ?_) (fun g4 => bad ?_)
      · have := of_decide_eq_true g4
        omega
      · have : ¬ (ring.length : Int) = steps.length := fun z => g4 (decide_eq_true z)
        omega
    · rintro ρ Ω' ⟨⟨h1, h2, h3, h4⟩, rfl, rfl⟩
      walk_at "pl"
      simp only [List.length_map, List.length_append]
      refine ⟨Nat.le_of_lt (small1000' (by omega)), Nat.le_of_lt (small1000' (by omega)), ps ++ ring ++ steps, by rw [List.map_append, List.map_append], ?_⟩
      have hru : ruB ps ring steps = ((ps ++ ring ++ steps).all fewB && (ps.drop 1 ++ ring).all (fun n => decide (1 ≤ n)) && steps.all (fun n => decide (0 ≤ n)) && (if ring = [] then if 1 < ps.length then decide (2 ≤ ps.getLast?.getD 0) else true else true)) := by
        unfold ruB
        rw [decide_eq_true ⟨h1, h2, h3, h4⟩, Bool.true_and]
      rw [hru] at k
      clear hru
      generalize hb0 : (ps ++ ring ++ steps).all fewB = b0 at k ⊢
      cases b0 with
      | false => exact gate_f k rfl
      | true =>
      show (fun d Ω1 => _) _ _
      dsimp only
      rw [Bool.true_and] at k
      rw [cut_1, ← List.map_drop]
      refine ⟨by simp only [List.length_map, List.length_drop]; exact Nat.le_of_lt (small1000' (by omega)), ?_⟩
      rw [← List.map_append]
      refine forL_ind (P_ruG1 (.tup (ps.map D.int)) (.tup (ring.map D.int)) (.tup (steps.map D.int)) ((ps.drop 1 ++ ring).all fun n => decide (1 ≤ n)) _) ⟨_, none, rfl, rfl, rfl, rfl⟩ ?_ ?_
      · rintro ρ Ω' ⟨ms, z, e, hb, rfl, rfl⟩
        have : ms = [] := by cases ms with
          | nil => rfl
          | cons _ _ => cases e
        subst this
        rw [← hb] at k
        simp only [List.all_nil, Bool.true_and] at k
        walk_at "pl"
        refine forL_ind (P_ruG2 (.tup (ps.map D.int)) (.tup (ring.map D.int)) (.tup (steps.map D.int)) (steps.all fun n => decide (0 ≤ n)) _) ⟨_, z, none, rfl, rfl, rfl, rfl⟩ ?_ ?_
        · rintro ρ Ω' ⟨ms, z, z2, e, hb, rfl, rfl⟩
          have : ms = [] := by cases ms with
            | nil => rfl
            | cons _ _ => cases e
          subst this
          rw [← hb] at k
          simp only [List.all_nil, Bool.true_and] at k
          walk_at "pl"
          refine ⟨Nat.zero_le _, fEq_nil ⟨_, rfl, ?_⟩⟩
          simp only [Bool.false_eq_true, if_false, List.length_map]
          by_cases hr : ring = []
          · rw [decide_eq_true hr, if_pos rfl]
            rw [if_pos hr] at k
            refine ite2 (fun e => ?_) (fun e => ?_)
            · rw [if_pos (by omega)] at k
              cases hq : ps.getLast? with
              | none => rw [List.getLast?_eq_none_iff.mp hq] at h1; simp at h1
              | some n =>
                rw [hq] at k
                refine ⟨_, by rw [List.getLast?_map, hq]; rfl, n, rfl, ?_⟩
                exact ⟨_, rfl, k⟩
            · rw [if_neg (by omega)] at k
              exact gate_t k rfl
          · rw [decide_eq_false hr, if_neg (by decide)]
            rw [if_neg hr] at k
            exact gate_t k rfl
        · rintro x us ρ Ω' De _ ih _ _ ⟨ms, z, z2, e, hm, rfl, rfl⟩
          cases ms with
          | nil => cases e
          | cons y ys =>
            simp only [List.map_cons, List.cons.injEq] at e
            obtain ⟨rfl, rfl⟩ := e
            walk_at "pl"
            rw [List.all_cons] at hm
            refine ⟨_, rfl, ?_⟩
            generalize hy : decide (0 ≤ y) = b at hm ⊢
            cases b with
            | true => exact ih _ _ ⟨ys, _, _, rfl, by rw [Bool.true_and] at hm; exact hm, rfl, rfl⟩
            | false =>
              rw [Bool.false_and] at hm
              rw [← hm] at k
              exact gate_f k rfl
      · rintro x us ρ Ω' De _ ih _ _ ⟨ms, z, e, hm, rfl, rfl⟩
        cases ms with
        | nil => cases e
        | cons y ys =>
          simp only [List.map_cons, List.cons.injEq] at e
          obtain ⟨rfl, rfl⟩ := e
          walk_at "pl"
          rw [List.all_cons] at hm
          refine ⟨_, rfl, ?_⟩
          generalize hy : decide (1 ≤ y) = b at hm ⊢
          cases b with
          | true => exact ih _ _ ⟨ys, _, rfl, by rw [Bool.true_and] at hm; exact hm, rfl, rfl⟩
          | false =>
            rw [Bool.false_and] at hm
            rw [← hm] at k
            exact gate_f k rfl
theorem gate_true {Q : AQ} {E : Value → Om → Prop} {Ω : Om} : gate C true Q E Ω = Q .non Ω := rfl
def F_needEight (C : CT) : AF := fun ds Ω Q E => ∃ ns : List Int, ds = [dtup ns] ∧ gate C (eiB ns) Q E Ω
def P_e1 (ns : List Int) (Ω : Om) : List D → En → Om → Prop := fun us ρ Ω' => ∃ (i l : Nat) (z1 z2 : Option D), us = rngD (i : Int) l ∧ i + l = 4 ∧ Ω' = Ω ∧ ρ = [some (dtup ns), some (.bl (apA ns i)), z1, z2]
def P_e2 (ns : List Int) (i : Nat) (Ω : Om) : List D → En → Om → Prop := fun us ρ Ω' => ∃ (j l : Nat) (z2 : Option D), us = rngD (j : Int) l ∧ j + l = i ∧ Ω' = Ω ∧ ρ = [some (dtup ns), some (.bl (apA ns i || apI ns i j)), some (.int i), z2]
theorem rng_step {lo : Int} {l : Nat} {x : D} {us : List D} (h : x :: us = rngD lo l) : ∃ l', l = l' + 1 ∧ x = .int lo ∧ us = rngD (lo + 1) l' := by
  cases l with
  | zero => cases h
  | succ l =>
    rw [rngD_succ] at h
    cases h
    exact ⟨l, rfl, rfl, rfl⟩
theorem rng_nil {lo : Int} {l : Nat} (h : [] = rngD lo l) : l = 0 := by
  cases l with
  | zero => rfl
  | succ l => rw [rngD_succ] at h; cases h
theorem range_snoc {n : Nat} {f : Nat → Bool} : (List.range (n + 1)).any f = ((List.range n).any f || f n) := by
  rw [List.range_succ, List.any_append, List.any_cons, List.any_nil, Bool.or_false]
theorem few_mul {x y : Int} (h : Few x) (h2 : Few y) : IntMulOk x y := by
  unfold Few at h h2
  exact mulok (a := 60) (b := 60) (by omega) (by omega) (by decide)
theorem c_need_eight (T : Txt K mg C) : Clb P w K mg base ca 3 "need_eight" (F_needEight C) := by
  refine clb T.d_need_eight sc_need_eight (fun ds Ω Q E h => ?_) (fun f cdv A outer s H E hr => ⟨_, _, (ass_cons (as_expr (ae_call (c_must T) hr (takes_of rfl rfl rfl rfl) (by omega) (aa_cons (ae_eqI (ae_len rfl T.b_len (ae_var 0)) ae_int) aa_nil)))
      (ass_cons (as_expr (ae_call (c_need_numbersG T) hr (takes_of rfl rfl rfl rfl) (by omega) (aa_cons (ae_var 0) aa_nil)))
      (ass_cons (as_set 1 sc_need_eight.nd ae_bl)
      (ass_cons (as_forR1 (passes_of rfl) rfl rfl T.b_range ae_int (ag_name (i := 2) sc_need_eight.nd rfl (Or.inl rfl)) (ass_one (as_forR1 (passes_of rfl) rfl rfl T.b_range (ae_var 2) (ag_name (i := 3) sc_need_eight.nd rfl (Or.inl rfl)) (ass_one (as_set 1 sc_need_eight.nd (ae_or (ae_var 1) (ae_one (ae_neI (ae_mul (ae_ix (ae_var 0) (ae_var 2)) (ae_ix (ae_var 0) (ae_add ae_int (ae_var 3)))) (ae_mul (ae_ix (ae_var 0) (ae_var 3)) (ae_ix (ae_var 0) (ae_add ae_int (ae_var 2))))))))))))
      (ass_one (as_expr (ae_call (c_must T) hr (takes_of rfl rfl rfl rfl) (by omega) (aa_cons (ae_var 1) aa_nil)))))))), fun ds Ω Qa Ea h => ?_⟩)
  · obtain ⟨_, rfl, _⟩ := h
    rfl
  · obtain ⟨ns, rfl, k⟩ := h
    unfold dtup
    walk_at "pl"
    simp only [List.length_map]
    refine ⟨_, rfl, ?_⟩
    have e8 : decide ((ns.length : Int) = 8) = decide (ns.length = 8) := by congr 1; simp only [eq_iff_iff]; omega
    rw [e8]
    unfold eiB at k
    generalize h8 : decide (ns.length = 8) = b8 at k ⊢
    cases b8 with
    | false => exact gate_f k rfl
    | true =>
    have hl := of_decide_eq_true h8
    rw [Bool.true_and] at k
    refine ⟨ns, rfl, ?_⟩
    generalize hf : ns.all fewB = bf at k ⊢
    cases bf with
    | false => exact gate_f k rfl
    | true =>
    rw [Bool.true_and] at k
    have hfew : ∀ n ∈ ns, Few n := fun n hn => fewB_iff.mp (List.all_eq_true.mp hf n hn)
    show (fun d Ω1 => _) _ _
    dsimp only
    refine ⟨by decide, by decide, ?_⟩
    refine forL_ind (P_e1 ns Ω) ⟨0, 4, none, none, rfl, rfl, rfl, rfl⟩ ?_ ?_
    · rintro ρ Ω' ⟨i, l, z1, z2, e, hi, rfl, rfl⟩
      have := rng_nil e
      have : i = 4 := by omega
      subst this
      walk_at "pl"
      exact ⟨_, rfl, k⟩
    · rintro x us ρ Ω' De e1 ih _ _ ⟨i, l, z1, z2, e, hi, rfl, rfl⟩
      obtain ⟨l', rfl, rfl, rfl⟩ := rng_step e
      walk_at "pl"
      refine ⟨by omega, by omega, ?_⟩
      have e0 : rngD 0 i = rngD ((0 : Nat) : Int) i := rfl
      rw [e0]
      refine forL_ind (P_e2 ns i Ω') ⟨0, i, z2, rfl, by omega, rfl, by simp [apI]⟩ ?_ ?_
      · rintro ρ Ω2 ⟨j, l, z2, e, hj, rfl, rfl⟩
        have := rng_nil e
        have : j = i := by omega
        subst this
        refine ih _ _ ⟨j + 1, l', some (.int j), z2, by rw [Int.natCast_add]; rfl, by omega, rfl, ?_⟩
        rw [show apA ns (j + 1) = (apA ns j || apI ns j j) from range_snoc]
      · rintro x us ρ Ω2 De2 e2 ih2 _ _ ⟨j, l, z2, e, hj, rfl, rfl⟩
        obtain ⟨l2, rfl, rfl, rfl⟩ := rng_step e
        unfold dtup
        walk_at "pl"
        have nx : De2.nx [some (dtup ns), some (.bl (apA ns i || apI ns i (j + 1))), some (.int i), some (.int j)] Ω2 := ih2 _ _ ⟨j + 1, l2, _, by rw [Int.natCast_add]; rfl, by omega, rfl, rfl⟩
        rw [apI, range_snoc, ← Bool.or_assoc] at nx
        rw [show (List.range j).any (apN ns i) = apI ns i j from rfl] at nx
        generalize (apA ns i || apI ns i j) = b at nx ⊢
        cases b with
        | true => exact nx
        | false =>
          have fi : ∀ t : Nat, t < 8 → Few (ns.getD t 0) := fun t ht => hfew _ (getD_mem (by omega))
          exact ⟨_, getD_at (i := i) (by omega) rfl, _, getD_at (i := 4 + j) (by omega) (by omega), _, rfl, _, rfl, few_mul (fi _ (by omega)) (fi _ (by omega)), _, getD_at (i := j) (by omega) rfl, _, getD_at (i := 4 + i) (by omega) (by omega), _, rfl, _, rfl, few_mul (fi _ (by omega)) (fi _ (by omega)), nx⟩
theorem clb_none {x : Str} {st : Stmt} {ps : List Str} (d : Dfn K mg x x st ps) (k : Nat) : Clb P w K mg base ca k x (fun _ _ _ _ => False) := by
  obtain ⟨f, fd, F, m, b⟩ := d.ex
  exact ⟨f, fd, ps, ⟨fun vs H Q E ⟨_, _, _, _, _, _, _, _, z, _⟩ => z.elim, fun _ _ _ _ _ _ _ _ _ _ _ _ _ ⟨_, _, _, _, _, _, _, _, z, _⟩ => z.elim⟩, m, F.kp, b⟩
def F_needT (C : CT) (M : Nat) : AF := fun ds Ω Q E => ∃ (x : Rw) (k : Nat), ds = [x.d, .int k] ∧ k ≤ M ∧ gate C (x.ok k) Q E Ω
theorem need_step (T : Txt K mg C) {j M : Nat} (hj : 4 ≤ j) {Fp : AF} (c_self : Clb P w K mg base ca j "need_tree" Fp) (hF : ∀ (x : Rw) (k : Nat) Ω Q E, k < M → gate C (x.ok k) Q E Ω → Fp [x.d, .int k] Ω Q E) : Clb P w K mg base ca (j + 1) "need_tree" (F_needT C M) := by
  refine clb T.d_need_tree sc_need_tree (fun ds Ω Q E h => ?_) (fun f cdv A outer s H E hr => ⟨_, _, (ass_cons (as_expr (ae_call (c_must T) hr (takes_of rfl rfl rfl rfl) (by omega) (aa_cons (ae_ge (ae_var 1) ae_int) aa_nil)))
      (ass_cons (as_set 2 sc_need_tree.nd (ae_ix (ae_var 0) ae_int))
      (ass_one (as_if (at_eqS (ae_var 2) ae_str) (ass_cons (as_expr (ae_call (c_need_numbersG T) hr (takes_of rfl rfl rfl rfl) (by omega) (aa_cons (ae_sl (ae_var 0) (ao_some ae_int) ao_none) aa_nil)))
      (ass_one (as_expr (ae_call (c_must T) hr (takes_of rfl rfl rfl rfl) (by omega) (aa_cons (ae_neI (ae_ix (ae_var 0) ae_int) ae_int) aa_nil))))) (ass_one (as_if (at_eqS (ae_var 2) ae_str) (ass_cons (as_expr (ae_call (c_need_numbersG T) hr (takes_of rfl rfl rfl rfl) (by omega) (aa_cons (ae_sl (ae_var 0) (ao_some ae_int) ao_none) aa_nil)))
      (ass_one (as_expr (ae_call (c_must T) hr (takes_of rfl rfl rfl rfl) (by omega) (aa_cons (ae_and (ae_ge (ae_ix (ae_var 0) ae_int) ae_int) (ae_one (ae_neI (ae_ix (ae_var 0) ae_int) ae_int))) aa_nil))))) (ass_one (as_if (at_eqS (ae_var 2) ae_str) (ass_one (as_expr (ae_call (c_need_ruledG T) hr (takes_of rfl rfl rfl rfl) (by omega) (aa_cons (ae_ix (ae_var 0) ae_int) (aa_cons (ae_ix (ae_var 0) ae_int) (aa_cons (ae_ix (ae_var 0) ae_int) aa_nil)))))) (ass_one (as_if (at_eqS (ae_var 2) ae_str) (ass_cons (as_expr (ae_call (c_must T) hr (takes_of rfl rfl rfl rfl) (by omega) (aa_cons (ae_eqI (ae_len rfl T.b_len (ae_ix (ae_var 0) ae_int)) ae_int) aa_nil)))
      (ass_cons (as_expr (ae_call (c_need_numbersG T) hr (takes_of rfl rfl rfl rfl) (by omega) (aa_cons (ae_ix (ae_var 0) ae_int) aa_nil)))
      (ass_cons (as_expr (ae_call (c_must T) hr (takes_of rfl rfl rfl rfl) (by omega) (aa_cons (ae_neI (ae_mul (ae_ix (ae_ix (ae_var 0) ae_int) ae_int) (ae_ix (ae_ix (ae_var 0) ae_int) ae_int)) (ae_mul (ae_ix (ae_ix (ae_var 0) ae_int) ae_int) (ae_ix (ae_ix (ae_var 0) ae_int) ae_int))) aa_nil)))
      (ass_one (as_expr (ae_call c_self hr (takes_of rfl rfl rfl rfl) (by omega) (aa_cons (ae_ix (ae_var 0) ae_int) (aa_cons (ae_sub (ae_var 1) ae_int) aa_nil)))))))) (ass_one (as_if (at_eqS (ae_var 2) ae_str) (ass_cons (as_expr (ae_call (c_need_eight T) hr (takes_of rfl rfl rfl rfl) (by omega) (aa_cons (ae_ix (ae_var 0) ae_int) aa_nil)))
      (ass_cons (as_expr (ae_call c_self hr (takes_of rfl rfl rfl rfl) (by omega) (aa_cons (ae_ix (ae_var 0) ae_int) (aa_cons (ae_sub (ae_var 1) ae_int) aa_nil))))
      (ass_one (as_expr (ae_call c_self hr (takes_of rfl rfl rfl rfl) (by omega) (aa_cons (ae_ix (ae_var 0) ae_int) (aa_cons (ae_sub (ae_var 1) ae_int) aa_nil))))))) (ass_cons (as_expr (ae_call (c_must T) hr (takes_of rfl rfl rfl rfl) (by omega) (aa_cons (ae_leLe ae_int (ae_ix (ae_var 0) ae_int) (ae_globE rfl T.g_MOST_POWER)) aa_nil)))
      (ass_one (as_expr (ae_call c_self hr (takes_of rfl rfl rfl rfl) (by omega) (aa_cons (ae_ix (ae_var 0) ae_int) (aa_cons (ae_sub (ae_var 1) ae_int) aa_nil)))))))))))))))))), fun ds Ω Qa Ea h => ?_⟩)
  · obtain ⟨_, _, rfl, _⟩ := h
    rfl
  · obtain ⟨x, kk, rfl, hk, k⟩ := h
    cases kk with
    | zero =>
      walk_at "pl"
      exact ⟨_, rfl, gate_f k rfl⟩
    | succ kk =>
    have hd : ((kk + 1 : Nat) : Int) - 1 = (kk : Int) := by omega
    walk_at "pl"
    refine ⟨_, rfl, ?_⟩
    rw [if_pos (by simp; omega)]
    cases x with
    | frac t b =>
      simp only [Rw.d]
      walk_at "pl"
      rw [cut_1]
      refine ⟨[t, b], rfl, ?_⟩
      simp only [Rw.ok] at k
      simp only [List.all_cons, List.all_nil, Bool.and_true]
      generalize (fewB t && fewB b) = q at k ⊢
      cases q with
      | false => exact gate_f k rfl
      | true => exact ⟨_, rfl, k⟩
    | root t s b =>
      simp only [Rw.d]
      walk_at "pl"
      rw [if_neg (by decide), cut_1]
      refine ⟨[t, s, b], rfl, ?_⟩
      simp only [Rw.ok] at k
      simp only [List.all_cons, List.all_nil, Bool.and_true, ← Bool.and_assoc]
      generalize (fewB t && fewB s && fewB b) = q at k ⊢
      cases q with
      | false => exact gate_f k rfl
      | true =>
        rw [Bool.true_and] at k
        by_cases hs : 0 ≤ s
        · rw [decide_eq_true hs, Bool.true_and] at k
          rw [gate_true]
          rw [if_pos hs]
          exact ⟨_, rfl, k⟩
        · rw [decide_eq_false hs, Bool.false_and] at k
          rw [gate_true]
          rw [if_neg hs]
          exact ⟨_, rfl, k⟩
    | ruled ps ring steps =>
      simp only [Rw.d]
      walk_at "pl"
      rw [if_neg (by decide), if_neg (by decide)]
      exact ⟨ps, ring, steps, rfl, k⟩
    | four ns y =>
      simp only [Rw.d]
      walk_at "pl"
      rw [if_neg (by decide), if_neg (by decide), if_neg (by decide), hd]
      refine ⟨_, rfl, _, rfl, ?_⟩
      simp only [Rw.ok] at k
      unfold foB at k
      rw [List.length_map]
      have e4 : decide ((ns.length : Int) = 4) = decide (ns.length = 4) := by congr 1; simp only [eq_iff_iff]; omega
      rw [e4]
      generalize h4 : decide (ns.length = 4) = b4 at k ⊢
      cases b4 with
      | false => exact gate_f k rfl
      | true =>
      have hl := of_decide_eq_true h4
      rw [Bool.true_and] at k
      refine ⟨ns, rfl, ?_⟩
      generalize hf : ns.all fewB = bf at k ⊢
      cases bf with
      | false => exact gate_f k rfl
      | true =>
      rw [Bool.true_and] at k
      have hfew : ∀ n ∈ ns, Few n := fun n hn => fewB_iff.mp (List.all_eq_true.mp hf n hn)
      have fi : ∀ t : Nat, t < 4 → Few (ns.getD t 0) := fun t ht => hfew _ (getD_mem (by omega))
      have at_ : ∀ t : Nat, t < 4 → (ns.map D.int)[t]? = some (.int (ns.getD t 0)) := fun t ht => by rw [← atI_eq]; exact getD_at (by omega) rfl
      rw [gate_true]
      refine ⟨_, rfl, _, at_ 0 (by omega), _, rfl, _, at_ 3 (by omega), _, rfl, _, rfl, few_mul (fi 0 (by omega)) (fi 3 (by omega)), _, rfl, _, at_ 1 (by omega), _, rfl, _, at_ 2 (by omega), _, rfl, _, rfl, few_mul (fi 1 (by omega)) (fi 2 (by omega)), _, rfl, ?_⟩
      generalize (!decide (ns.getD 0 0 * ns.getD 3 0 = ns.getD 1 0 * ns.getD 2 0)) = q at k ⊢
      cases q with
      | false => exact gate_f k rfl
      | true => exact hF y kk _ _ _ (by omega) k
    | eight ns y z =>
      simp only [Rw.d]
      walk_at "pl"
      rw [if_neg (by decide), if_neg (by decide), if_neg (by decide), if_neg (by decide), hd]
      simp only [Rw.ok] at k
      refine ⟨ns, rfl, ?_⟩
      generalize eiB ns = q at k ⊢
      cases q with
      | false => exact gate_f k rfl
      | true =>
      rw [Bool.true_and] at k
      rw [gate_true]
      refine hF y kk _ _ _ (by omega) ?_
      generalize y.ok kk = q at k ⊢
      cases q with
      | false => exact gate_f k rfl
      | true => exact hF z kk _ _ _ (by omega) k
    | power y n =>
      simp only [Rw.d]
      walk_at "pl"
      rw [if_neg (by decide), if_neg (by decide), if_neg (by decide), if_neg (by decide), if_neg (by decide), hd]
      simp only [Rw.ok] at k
      have go : ∀ b : Bool, decide (1 ≤ n ∧ n ≤ 4) = b → F_must C [.bl b] Ω (fun _ Ω1 => Fp [y.d, .int kk] Ω1 (fun _ Ω1 => Qa .non Ω1) fun cls Ω' => Ea cls Ω') (fun cls Ω' => Ea cls Ω') := fun b hb => by
        rw [hb] at k
        refine ⟨_, rfl, ?_⟩
        cases b with
        | false => exact gate_f k rfl
        | true => exact hF y kk _ _ _ (by omega) k
      refine ite2 (fun h1 => ?_) (fun h1 => go _ (decide_eq_false (by omega)))
      exact go _ (by congr 1; simp only [eq_iff_iff]; omega)
theorem c_need_tree (T : Txt K mg C) : ∀ M : Nat, Clb P w K mg base ca (M + 5) "need_tree" (F_needT C M)
  | 0 => need_step T (Nat.le_refl 4) (clb_none T.d_need_tree 4) (fun _ _ _ _ _ h => by omega)
  | M + 1 => need_step T (by omega) (c_need_tree T M) (fun x k Ω Q E h g => ⟨x, k, rfl, by omega, g⟩)
/-- good trees as raw ones -/
def Tr.raw : Tr → Rw
  | .frac t b => .frac t b
  | .root t s b => .root t s b
  | .ruled ps ring steps => .ruled ps ring steps
  | .four a b c d x => .four [a, b, c, d] x.raw
  | .eight a b c d e f g h x y => .eight [a, b, c, d, e, f, g, h] x.raw y.raw
  | .power x n => .power x.raw n
theorem Tr.raw_d : ∀ t : Tr, t.raw.d = t.d
  | .frac t b => rfl
  | .root t s b => rfl
  | .ruled ps ring steps => rfl
  | .four a b c d x => by simp only [Tr.raw, Rw.d, Tr.d, x.raw_d]
  | .eight a b c d e f g h x y => by simp only [Tr.raw, Rw.d, Tr.d, x.raw_d, y.raw_d]
  | .power x n => by simp only [Tr.raw, Rw.d, Tr.d, x.raw_d]
theorem Tr.raw_ok : ∀ (t : Tr) (k : Nat), t.good k → t.raw.ok k = true
  | t, 0, h => by cases t <;> exact h.elim
  | .frac t b, k + 1, h => by
    obtain ⟨h1, h2, h3⟩ := h
    simp only [Tr.raw, Rw.ok, fewB_iff.mpr h1, fewB_iff.mpr h2, decide_eq_false h3]
    rfl
  | .root t s b, k + 1, h => by
    obtain ⟨h1, h2, h3, h4, h5⟩ := h
    simp only [Tr.raw, Rw.ok, fewB_iff.mpr h1, fewB_iff.mpr h2, fewB_iff.mpr h3, decide_eq_true h4, decide_eq_false h5]
    rfl
  | .ruled ps ring steps, k + 1, h => by
    obtain ⟨h1, h2, h3, h4, h5, h6, h7, h8⟩ := h
    simp only [Tr.raw, Rw.ok]
    unfold ruB
    rw [decide_eq_true ⟨h1, h2, h3, h4⟩, List.all_eq_true.mpr fun n hn => fewB_iff.mpr (h5 n hn), List.all_eq_true.mpr fun n hn => decide_eq_true (h6 n hn), List.all_eq_true.mpr fun n hn => decide_eq_true (h7 n hn)]
    simp only [Bool.true_and]
    split
    · rename_i hr
      split
      · rename_i hl
        cases hq : ps.getLast? with
        | none => rw [List.getLast?_eq_none_iff.mp hq] at h1; simp at h1
        | some n => exact decide_eq_true (h8 hr hl n hq)
      · rfl
    · rfl
  | .four a b c d x, k + 1, h => by
    obtain ⟨h1, h2, h3, h4, h5, h6⟩ := h
    simp only [Tr.raw, Rw.ok, x.raw_ok k h6, foB, List.all_cons, List.all_nil, fewB_iff.mpr h1, fewB_iff.mpr h2, fewB_iff.mpr h3, fewB_iff.mpr h4]
    simpa using h5
  | .eight a b c d e f g i x y, k + 1, h => by
    obtain ⟨h1, h2, h3, h4⟩ := h
    have ha : [a, b, c, d, e, f, g, i].all fewB = true := List.all_eq_true.mpr fun n hn => fewB_iff.mpr (h1 n hn)
    simp only [Tr.raw, Rw.ok, x.raw_ok k h3, y.raw_ok k h4, eiB, ha, Bool.and_true]
    have : apA [a, b, c, d, e, f, g, i] 4 = (apN [a, b, c, d, e, f, g, i] 1 0 || (apN [a, b, c, d, e, f, g, i] 2 0 || apN [a, b, c, d, e, f, g, i] 2 1) || (apN [a, b, c, d, e, f, g, i] 3 0 || apN [a, b, c, d, e, f, g, i] 3 1 || apN [a, b, c, d, e, f, g, i] 3 2)) := by
      unfold apA apI
      simp only [List.range_succ, List.range_zero, List.nil_append, List.any_cons, List.any_nil, List.any_append, List.cons_append, Bool.or_false, Bool.false_or, Bool.or_assoc]
    rw [this]
    simp only [apN, List.getD_cons_zero, List.getD_cons_succ, List.length_cons, List.length_nil, Nat.reduceAdd, decide_true, Bool.true_and, Bool.or_eq_true, Bool.not_eq_true', decide_eq_false_iff_not]
    rcases h2 with z | z | z | z | z | z
    · exact .inl (.inl z)
    · exact .inl (.inr (.inl z))
    · exact .inl (.inr (.inr z))
    · exact .inr (.inl (.inl z))
    · exact .inr (.inl (.inr z))
    · exact .inr (.inr z)
  | .power x n, k + 1, h => by
    obtain ⟨h1, h2, h3⟩ := h
    simp only [Tr.raw, Rw.ok, x.raw_ok k h3, decide_eq_true (And.intro h1 h2)]
    rfl
def F_rootOf (C : CT) : AF := fun ds Ω Q _ => ∃ t s b : Int, ds = [.int t, .int s, .int b] ∧ Few t ∧ Few s ∧ Few b ∧ 0 ≤ s ∧ b ≠ 0 ∧ ∀ r p Ω', Opened (.root t s b) r → RdO C Ω' p r [p] → Ω p = none → (∀ b, Ω b ≠ none → Ω' b = Ω b) → Q (.o p) Ω'
theorem new_stand {Ω : Om} {p : Addr} {o u : AO} (h : Ω p = none) : ∀ b, Ω b ≠ none → oset (oset Ω p o) p u b = Ω b := fun b hb => by
  have : b ≠ p := fun e => hb (by rw [e]; exact h)
  rw [oset_ne this, oset_ne this]
theorem abI_pos {b : Int} (h : b ≠ 0) : 0 < abI b := by unfold abI; split <;> omega
theorem c_root_of (T : Txt K mg C) : Clb P w K mg base ca 4 "root_of" (F_rootOf C) := by
  refine clb T.d_root_of sc_root_of (fun ds Ω Q E h => ?_) (fun f cdv A outer s H E hr => ⟨_, _, (ass_cons (as_set 3 sc_root_of.nd (ae_call (c_root_below T) hr (takes_of rfl rfl rfl rfl) (by omega) (aa_cons (ae_var 1) aa_nil)))
      (ass_cons (as_if (at_eqI (ae_mul (ae_var 3) (ae_var 3)) (ae_var 1)) (ass_one (as_ret (ae_make (mk_Fraction T) hr (takes_of rfl rfl rfl rfl) (by omega) (aa_cons (ae_add (ae_var 0) (ae_var 3)) (aa_cons (ae_var 2) aa_nil))))) ass_nil)
      (ass_cons (as_set 4 sc_root_of.nd (ae_abs rfl T.b_abs (ae_var 2)))
      (ass_one (as_ret (ae_make (mk_Root T) hr (takes_of rfl rfl rfl rfl) (by omega) (aa_cons (ae_mul (ae_var 0) (ae_var 4)) (aa_cons (ae_mul (ae_mul (ae_var 1) (ae_var 4)) (ae_var 4)) (aa_cons (ae_mul (ae_var 2) (ae_var 4)) aa_nil))))))))), fun ds Ω Qa Ea h => ?_⟩)
  · obtain ⟨_, _, _, rfl, _⟩ := h
    rfl
  · obtain ⟨t, s', b, rfl, ht, hs, hb, s0, b0, k⟩ := h
    unfold Few at ht hs hb
    walk_at "pl"
    refine ⟨s', rfl, s0, by omega, fun f f0 f1 f2 => ?_⟩
    have ff : f ≤ s' := by
      rcases Int.lt_or_le f 1 with h | h
      · omega
      · have := Int.mul_le_mul_of_nonneg_left h f0
        omega
    refine ⟨f, rfl, f, rfl, mulok (a := 60) (b := 60) (by omega) (by omega) (by decide), ite2 (fun e => ⟨f, rfl, fun p hp => ⟨p, t + f, b, rfl, oset_same, rfl, ?_⟩⟩) (fun e => ?_)⟩
    · exact k _ p _ (.rootF f0 e) (.frac oset_same) hp (new_stand hp)
    · have eb : (if b < 0 then -b else b) = abI b := rfl
      have hb0 := abI_pos b0
      have hb1 : (abI b).natAbs < 2 ^ 60 := by unfold abI; split <;> omega
      have hb2 : abI b ≤ 10 ^ 12 := by unfold abI; split <;> omega
      rw [eb]
      have g0 : 0 ≤ s' * abI b := Int.mul_nonneg s0 (by omega)
      have g1 : s' * abI b ≤ 10 ^ 12 * 10 ^ 12 := Int.mul_le_mul (by omega) hb2 (by omega) (by decide)
      have g2 : 0 ≤ s' * abI b * abI b := Int.mul_nonneg g0 (by omega)
      have g3 : s' * abI b * abI b ≤ (10 ^ 12 * 10 ^ 12) * 10 ^ 12 := Int.mul_le_mul g1 hb2 (by omega) (by decide)
      refine ⟨mulok (a := 60) (b := 60) (by omega) hb1 (by decide), mulok (a := 60) (b := 60) (by omega) hb1 (by decide), mulok (a := 200) (b := 60) (by omega) hb1 (by decide), mulok (a := 60) (b := 60) (by omega) hb1 (by decide), fun p hp => ⟨p, _, _, _, rfl, oset_same, g2, by omega, fun f' h1 h2 h3 => ⟨rfl, ?_⟩⟩⟩
      exact k _ p _ (.rootR f0 (by omega) f2 h1 h2 h3) (.root oset_same) hp (new_stand hp)
theorem fl_unique {s f g : Int} (f0 : 0 ≤ f) (f1 : f * f ≤ s) (f2 : s < (f + 1) * (f + 1)) (g0 : 0 ≤ g) (g1 : g * g ≤ s) (g2 : s < (g + 1) * (g + 1)) : f = g := by
  rcases Int.lt_trichotomy f g with z | z | z
  · have h1 : f + 1 ≤ g := z
    have := Int.mul_le_mul h1 h1 (by omega) (by omega)
    omega
  · exact z
  · have h1 : g + 1 ≤ f := z
    have := Int.mul_le_mul h1 h1 (by omega) (by omega)
    omega
theorem sq_lt {f : Int} (h : 0 ≤ f) : f * f < (f + 1) * (f + 1) := by
  have : (f + 1) * (f + 1) = f * f + 2 * f + 1 := by grind
  omega
theorem Opened.unique {t : Tr} {r r' : R} (h : Opened t r) (h' : Opened t r') : r = r' := by
  induction h generalizing r' with
  | frac => cases h'; rfl
  | rootF h1 h2 =>
    cases h' with
    | rootF g1 g2 => rw [fl_unique h1 (Int.le_of_eq h2) (by rw [← h2]; exact sq_lt h1) g1 (Int.le_of_eq g2) (by rw [← g2]; exact sq_lt g1)]
    | rootR g1 g2 g3 =>
      have := fl_unique h1 (Int.le_of_eq h2) (by rw [← h2]; exact sq_lt h1) g1 (Int.le_of_lt g2) g3
      subst this
      omega
  | rootR q1 q2 q3 q4 q5 q6 =>
    cases h' with
    | rootF g1 g2 =>
      have := fl_unique g1 (Int.le_of_eq g2) (by rw [← g2]; exact sq_lt g1) q1 (Int.le_of_lt q2) q3
      subst this
      omega
    | rootR g1 g2 g3 g4 g5 g6 => rw [fl_unique q4 q5 q6 g4 g5 g6]
  | ruled => cases h'; rfl
  | four _ ih => cases h' with | four g => rw [ih g]
  | eight _ _ ih1 ih2 => cases h' with | eight g1 g2 => rw [ih1 g1, ih2 g2]
  | power _ ih => cases h' with | power g => rw [ih g]
def Opn (C : CT) (tr : Tr) (Q : AQ) (Ω : Om) : Prop := ∀ r p Ω' S, Opened tr r → RdO C Ω' p r S → (∀ b ∈ S, Ω b = none) → (∀ b, Ω b ≠ none → Ω' b = Ω b) → Q (.o p) Ω'
def F_openG (C : CT) (M : Nat) : AF := fun ds Ω Q _ => ∃ (tr : Tr) (k : Nat), ds = [tr.d] ∧ k ≤ M ∧ tr.good k ∧ Opn C tr Q Ω
def P_open (C : CT) (d z0 : D) (n : Nat) (r : R) (Ω : Om) : List D → En → Om → Prop := fun us ρ Ω' => ∃ (i l : Nat) (p : Addr) (S : List Addr) (z : Option D), us = rngD (i : Int) l ∧ i + l = n ∧ RdO C Ω' p (pows r i) S ∧ (∀ b ∈ S, Ω b = none) ∧ (∀ b, Ω b ≠ none → Ω' b = Ω b) ∧ ρ = [some d, some z0, some (.o p), z]
theorem rd_eight {Ω Ω1 Ω2 : Om} {z1 z2 p kk : Addr} {a b c d e f g h : Int} {x y : R} {S1 S2 : List Addr} (hx : RdO C Ω1 z1 x S1) (h1 : ∀ b ∈ S1, Ω b = none) (k1 : ∀ b, Ω b ≠ none → Ω1 b = Ω b) (hy : RdO C Ω2 z2 y S2) (h2 : ∀ b ∈ S2, Ω1 b = none) (k2 : ∀ b, Ω1 b ≠ none → Ω2 b = Ω1 b) (hp : Ω2 p = none) (hk : Ω2 kk = none) (hne : kk ≠ p) {o : AO} :
    ∃ S, RdO C (oset (oset (oset Ω2 p o) kk (.lst [.int 0, .int 0])) p (oEight C [.int a, .int b, .int c, .int d, .int e, .int f, .int g, .int h] z1 z2 kk false .non)) p (.eight a b c d e f g h 0 0 false x y) S ∧ (∀ v ∈ S, Ω v = none) ∧ ∀ v, Ω v ≠ none → oset (oset (oset Ω2 p o) kk (.lst [.int 0, .int 0])) p (oEight C [.int a, .int b, .int c, .int d, .int e, .int f, .int g, .int h] z1 z2 kk false .non) v = Ω v := by
  have up : ∀ b, Ω b ≠ none → Ω2 b = Ω b := fun b hb => by rw [k2 b (by rw [k1 b hb]; exact hb), k1 b hb]
  have dn : ∀ b, Ω2 b = none → Ω b = none := fun b hb => by
    cases q : Ω b with
    | none => rfl
    | some u => have := up b (by rw [q]; simp); rw [hb, q] at this; cases this
  have hx2 : RdO C Ω2 z1 x S1 := hx.keep fun b hb => k2 b (hx.there b hb)
  have f1 : ∀ b ∈ S1, b ≠ p ∧ b ≠ kk := fun b hb => ⟨fun e => hx2.there b hb (by rw [e]; exact hp), fun e => hx2.there b hb (by rw [e]; exact hk)⟩
  have f2 : ∀ b ∈ S2, b ≠ p ∧ b ≠ kk := fun b hb => ⟨fun e => hy.there b hb (by rw [e]; exact hp), fun e => hy.there b hb (by rw [e]; exact hk)⟩
  refine ⟨p :: kk :: (S1 ++ S2), .eight oset_same ((oset_ne hne).trans oset_same) (hx2.keep fun b hb => ?_) (hy.keep fun b hb => ?_) (Ne.symm hne) (fun z => (f1 p z).1 rfl) (fun z => (f2 p z).1 rfl) (fun z => (f1 kk z).2 rfl) (fun z => (f2 kk z).2 rfl) (fun b hb hb2 => hx.there b hb (h2 b hb2)), fun b hb => ?_, fun b hb => ?_⟩
  · rw [oset_ne (f1 b hb).1, oset_ne (f1 b hb).2, oset_ne (f1 b hb).1]
  · rw [oset_ne (f2 b hb).1, oset_ne (f2 b hb).2, oset_ne (f2 b hb).1]
  · simp only [List.mem_cons, List.mem_append] at hb
    rcases hb with rfl | rfl | hb | hb
    · exact dn _ hp
    · exact dn _ hk
    · exact h1 b hb
    · cases q : Ω b with
      | none => rfl
      | some u => have := k1 b (by rw [q]; simp); rw [h2 b hb, q] at this; cases this
  · have e1 : b ≠ p := fun e => by have := up b hb; rw [e, hp] at this; rw [e] at hb; exact hb this.symm
    have e2 : b ≠ kk := fun e => by have := up b hb; rw [e, hk] at this; rw [e] at hb; exact hb this.symm
    rw [oset_ne e1, oset_ne e2, oset_ne e1, up b hb]
theorem open_step (T : Txt K mg C) {j M : Nat} (hj : 4 ≤ j) {Fp : AF} (c_self : Clb P w K mg base ca j "opened" Fp) (hF : ∀ (tr : Tr) (k : Nat) Ω Q E, k < M → tr.good k → Opn C tr Q Ω → Fp [tr.d] Ω Q E) : Clb P w K mg base ca (j + 1) "opened" (F_openG C M) := by
  refine clb T.d_opened sc_opened (fun ds Ω Q E h => ?_) (fun f cdv A outer s H E hr => ⟨_, _, (ass_cons (as_set 1 sc_opened.nd (ae_ix (ae_var 0) ae_int))
      (ass_cons (as_if (at_eqS (ae_var 1) ae_str) (ass_one (as_ret (ae_make (mk_Fraction T) hr (takes_of rfl rfl rfl rfl) (by omega) (aa_cons (ae_ix (ae_var 0) ae_int) (aa_cons (ae_ix (ae_var 0) ae_int) aa_nil))))) ass_nil)
      (ass_cons (as_if (at_eqS (ae_var 1) ae_str) (ass_one (as_ret (ae_call (c_root_of T) hr (takes_of rfl rfl rfl rfl) (by omega) (aa_cons (ae_ix (ae_var 0) ae_int) (aa_cons (ae_ix (ae_var 0) ae_int) (aa_cons (ae_ix (ae_var 0) ae_int) aa_nil)))))) ass_nil)
      (ass_cons (as_if (at_eqS (ae_var 1) ae_str) (ass_one (as_ret (ae_make (mk_Ruled T) hr (takes_of rfl rfl rfl rfl) (by omega) (aa_cons (ae_ix (ae_var 0) ae_int) (aa_cons (ae_ix (ae_var 0) ae_int) (aa_cons (ae_ix (ae_var 0) ae_int) aa_nil)))))) ass_nil)
      (ass_cons (as_if (at_eqS (ae_var 1) ae_str) (ass_one (as_ret (ae_make (mk_Four T) hr (takes_of rfl rfl rfl rfl) (by omega) (aa_cons (ae_ix (ae_var 0) ae_int) (aa_cons (ae_call c_self hr (takes_of rfl rfl rfl rfl) (by omega) (aa_cons (ae_ix (ae_var 0) ae_int) aa_nil)) (aa_cons ae_bl (aa_cons ae_bl aa_nil))))))) ass_nil)
      (ass_cons (as_if (at_eqS (ae_var 1) ae_str) (ass_one (as_ret (ae_make (mk_Eight T) hr (takes_of rfl rfl rfl rfl) (by omega) (aa_cons (ae_ix (ae_var 0) ae_int) (aa_cons (ae_call c_self hr (takes_of rfl rfl rfl rfl) (by omega) (aa_cons (ae_ix (ae_var 0) ae_int) aa_nil)) (aa_cons (ae_call c_self hr (takes_of rfl rfl rfl rfl) (by omega) (aa_cons (ae_ix (ae_var 0) ae_int) aa_nil)) aa_nil)))))) ass_nil)
      (ass_cons (as_set 2 sc_opened.nd (ae_call c_self hr (takes_of rfl rfl rfl rfl) (by omega) (aa_cons (ae_ix (ae_var 0) ae_int) aa_nil)))
      (ass_cons (as_forR1 (passes_of rfl) rfl rfl T.b_range (ae_sub (ae_ix (ae_var 0) ae_int) ae_int) (ag_name (i := 3) sc_opened.nd rfl (Or.inl rfl)) (ass_one (as_set 2 sc_opened.nd (ae_make (mk_Eight T) hr (takes_of rfl rfl rfl rfl) (by omega) (aa_cons (ae_globT rfl T.t_TIMES) (aa_cons (ae_call c_self hr (takes_of rfl rfl rfl rfl) (by omega) (aa_cons (ae_ix (ae_var 0) ae_int) aa_nil)) (aa_cons (ae_var 2) aa_nil)))))))
      (ass_one (as_ret (ae_var 2))))))))))), fun ds Ω Qa Ea h => ?_⟩)
  · obtain ⟨_, _, rfl, _⟩ := h
    rfl
  · obtain ⟨tr, kk, rfl, hk, hg, k⟩ := h
    have fr : ∀ {b p : Addr} {Ω' : Om}, b ∈ [p] → Ω' p = none → Ω' b = none := fun hb h => by rw [List.mem_singleton.mp hb]; exact h
    cases kk with
    | zero => cases tr <;> exact hg.elim
    | succ kk =>
    cases tr with
    | frac t b =>
      simp only [Tr.d]
      walk_at "pl"
      refine fun p hp => ⟨p, t, b, rfl, oset_same, rfl, ?_⟩
      exact k _ p _ [p] .frac (.frac oset_same) (fun b hb => fr hb hp) (new_stand hp)
    | root t s b =>
      obtain ⟨h1, h2, h3, h4, h5⟩ := hg
      simp only [Tr.d]
      walk_at "pl"
      rw [if_neg (by decide)]
      exact ⟨t, s, b, rfl, h1, h2, h3, h4, h5, fun r p Ω' q1 q2 q3 q4 => k r p Ω' [p] q1 q2 (fun b hb => fr hb q3) q4⟩
    | ruled ps ring steps =>
      simp only [Tr.d]
      walk_at "pl"
      rw [if_neg (by decide), if_neg (by decide)]
      refine fun p hp => ⟨p, ps, ring, steps, rfl, oset_same, rfl, ?_⟩
      exact k _ p _ [p] .ruled (.ruled oset_same) (fun b hb => fr hb hp) (new_stand hp)
    | four a b c d x =>
      obtain ⟨_, _, _, _, _, hx⟩ := hg
      simp only [Tr.d, dtup]
      walk_at "pl"
      rw [if_neg (by decide), if_neg (by decide), if_neg (by decide)]
      refine hF x kk _ _ _ (by omega) hx fun r z Ω1 S o1 h1 h2 h3 => ?_
      intro p hp
      have hpS : ∀ b ∈ S, b ≠ p := fun b hb e => h1.there b hb (by rw [e]; exact hp)
      refine ⟨p, z, _, false, false, rfl, oset_same, rfl, ?_⟩
      rw [oset_oset]
      refine k _ p _ (p :: S) (.four o1) (.four oset_same (h1.keep fun b hb => oset_ne (hpS b hb)) fun z => hpS p z rfl) (fun b hb => ?_) fun b hb => ?_
      · rcases List.mem_cons.mp hb with rfl | hb
        · cases q : Ω b with
          | none => rfl
          | some u => have := h3 b (by rw [q]; simp); rw [hp, q] at this; cases this
        · exact h2 b hb
      · rw [oset_ne (fun e => hb (by rw [e]; cases q : Ω p with
          | none => rfl
          | some u => have := h3 p (by rw [q]; simp); rw [hp, q] at this; cases this)), h3 b hb]
    | eight a b c d e f g h x y =>
      obtain ⟨_, _, hx, hy⟩ := hg
      simp only [Tr.d, dtup]
      walk_at "pl"
      rw [if_neg (by decide), if_neg (by decide), if_neg (by decide), if_neg (by decide)]
      refine hF x kk _ _ _ (by omega) hx fun r z Ω1 S o1 h1 h2 h3 => ?_
      refine hF y kk _ _ _ (by omega) hy fun r2 z2 Ω2 S2 o2 g1 g2 g3 => ?_
      refine fun p hp => ⟨p, z, z2, _, rfl, oset_same, fun q hq hk2 => ⟨rfl, ?_⟩⟩
      obtain ⟨S3, k1, k2, k3⟩ := rd_eight (a := a) (b := b) (c := c) (d := d) (e := e) (f := f) (g := g) (h := h) (o := .obj C.c_Eight []) h1 h2 h3 g1 g2 g3 hp (by rw [oset_ne hq] at hk2; exact hk2) hq
      exact k _ p _ S3 (.eight o1 o2) k1 k2 k3
    | power x n =>
      obtain ⟨n1, n4, hx⟩ := hg
      simp only [Tr.d, dtup]
      walk_at "pl"
      rw [if_neg (by decide), if_neg (by decide), if_neg (by decide), if_neg (by decide), if_neg (by decide)]
      refine hF x kk _ _ _ (by omega) hx fun r z Ω1 S o1 h1 h2 h3 => ?_
      refine ⟨by omega, by omega, ?_⟩
      have e0 : rngD 0 (n - 1).toNat = rngD ((0 : Nat) : Int) (n - 1).toNat := rfl
      rw [e0]
      refine forL_ind (P_open C (.tup [.str "power", x.d, .int n]) (.str "power") (n - 1).toNat r Ω) ⟨0, _, z, S, none, rfl, by omega, h1, h2, h3, rfl⟩ ?_ ?_
      · rintro ρ Ω2 ⟨i, l, p, S, z, e, hi, q1, q2, q3, rfl⟩
        have := rng_nil e
        have : i = (n - 1).toNat := by omega
        subst this
        walk_at "pl"
        exact k _ p _ S (.power o1) q1 q2 q3
      · rintro u us ρ Ω2 De e1 ih _ _ ⟨i, l, p, S2, zz, e, hi, q1, q2, q3, rfl⟩
        obtain ⟨l', rfl, rfl, rfl⟩ := rng_step e
        walk_at "pl"
        refine hF x kk _ _ _ (by omega) hx fun r2 z2 Ω3 S3 o2 g1 g2 g3 => ?_
        rw [Opened.unique o2 o1] at g1
        refine fun pn hp => ⟨pn, z2, p, _, rfl, oset_same, fun q hq hk2 => ⟨rfl, ?_⟩⟩
        have hx3 : RdO C Ω3 p (pows r i) S2 := q1.keep fun b hb => g3 b (q1.there b hb)
        have dn : ∀ b, Ω3 b = none → Ω b = none := fun b hb => by
          cases q : Ω b with
          | none => rfl
          | some u => have := q3 b (by rw [q]; simp); have h5 := g3 b (by rw [this, q]; simp); rw [hb, this, q] at h5; cases h5
        have hk3 : Ω3 q = none := by rw [oset_ne hq] at hk2; exact hk2
        have f3 : ∀ b ∈ S3, b ≠ pn ∧ b ≠ q := fun b hb => ⟨fun e => g1.there b hb (by rw [e]; exact hp), fun e => g1.there b hb (by rw [e]; exact hk3)⟩
        have f2 : ∀ b ∈ S2, b ≠ pn ∧ b ≠ q := fun b hb => ⟨fun e => hx3.there b hb (by rw [e]; exact hp), fun e => hx3.there b hb (by rw [e]; exact hk3)⟩
        refine ih _ _ ⟨i + 1, l', pn, pn :: q :: (S3 ++ S2), some (.int i), by rw [Int.natCast_add]; rfl, by omega, .eight (x := r) (y := pows r i) oset_same ((oset_ne hq).trans oset_same) (g1.keep fun b hb => ?_) (hx3.keep fun b hb => ?_) (Ne.symm hq) (fun z => (f3 pn z).1 rfl) (fun z => (f2 pn z).1 rfl) (fun z => (f3 q z).2 rfl) (fun z => (f2 q z).2 rfl) (fun b hb hb2 => q1.there b hb2 (g2 b hb)), fun b hb => ?_, fun b hb => ?_, rfl⟩
        · rw [oset_ne (f3 b hb).1, oset_ne (f3 b hb).2, oset_ne (f3 b hb).1]
        · rw [oset_ne (f2 b hb).1, oset_ne (f2 b hb).2, oset_ne (f2 b hb).1]
        · simp only [List.mem_cons, List.mem_append] at hb
          rcases hb with rfl | rfl | hb | hb
          · exact dn _ hp
          · exact dn _ hk3
          · cases qq : Ω b with
            | none => rfl
            | some u => have := q3 b (by rw [qq]; simp); rw [g2 b hb, qq] at this; cases this
          · exact q2 b hb
        · have e2 : Ω3 b = Ω b := by rw [g3 b (by rw [q3 b hb]; exact hb), q3 b hb]
          have n1 : b ≠ pn := fun e => by rw [e, hp] at e2; rw [e] at hb; exact hb e2.symm
          have n2 : b ≠ q := fun e => by rw [e, hk3] at e2; rw [e] at hb; exact hb e2.symm
          rw [oset_ne n1, oset_ne n2, oset_ne n1, e2]
theorem c_opened (T : Txt K mg C) : ∀ M : Nat, Clb P w K mg base ca (M + 5) "opened" (F_openG C M)
  | 0 => open_step T (Nat.le_refl 4) (clb_none T.d_opened 4) (fun _ _ _ _ _ h => by omega)
  | M + 1 => open_step T (by omega) (c_opened T M) (fun x k Ω Q E h g o => ⟨x, k, rfl, by omega, g, o⟩)
theorem c_need_tree_5 (T : Txt K mg C) : Clb P w K mg base ca 10 "need_tree" (F_needT C 5) := c_need_tree T 5
theorem c_opened_5 (T : Txt K mg C) : Clb P w K mg base ca 10 "opened" (F_openG C 5) := c_opened T 5
/-- reader of a tree, good or not -/
def F_reader (C : CT) : AF := fun ds Ω Q E => (∃ tr : Tr, ds = [tr.d] ∧ tr.good 5 ∧ Opn C tr Q Ω) ∨ ∃ x : Rw, ds = [x.d] ∧ x.ok 5 = false ∧ E (.ref C.c_BadTree) Ω
theorem c_readerG (T : Txt K mg C) : Clb P w K mg base ca 11 "reader" (F_reader C) := by
  refine clb T.d_reader sc_reader (fun ds Ω Q E h => ?_) (fun f cdv A outer s H E hr => ⟨_, _, (ass_cons (as_expr (ae_call (c_need_tree_5 T) hr (takes_of rfl rfl rfl rfl) (by omega) (aa_cons (ae_var 0) (aa_cons (ae_globE rfl T.g_DEEPEST) aa_nil))))
      (ass_one (as_ret (ae_call (c_opened_5 T) hr (takes_of rfl rfl rfl rfl) (by omega) (aa_cons (ae_var 0) aa_nil))))), fun ds Ω Qa Ea h => ?_⟩)
  · rcases h with ⟨_, rfl, _⟩ | ⟨_, rfl, _⟩ <;> rfl
  · rcases h with ⟨tr, rfl, hg, k⟩ | ⟨x, rfl, hx, k⟩
    · walk_at "pl"
      refine ⟨tr.raw, 5, by rw [tr.raw_d]; rfl, Nat.le_refl 5, ?_⟩
      rw [tr.raw_ok 5 hg]
      exact ⟨tr, 5, rfl, Nat.le_refl 5, hg, k⟩
    · walk_at "pl"
      refine ⟨x, 5, rfl, Nat.le_refl 5, ?_⟩
      rw [hx]
      exact k
def F_row : AF := fun ds Ω Q _ => ∃ ns : List Int, ds = [.lst (ns.map D.int)] ∧ ∀ p, Ω p = none → Q (.o p) (oset Ω p .row)
theorem row_loop {Wa : AW} {Da : AEnds} {Ω : Om} {d0 : D} {b : ATS} : ∀ (ns : List Int) (m : Int) (z : Option D),
    (∀ (m v : Int) (z : Option D) (De : AEnds), De.nx [some d0, some (.int ((m * 48271 + v + 11).fmod 2147483647)), some (.int v)] Ω → b Wa De [some d0, some (.int m), some (.int v)] Ω) →
    (∀ m z, Da.nx [some d0, some (.int m), z] Ω) → forL (agName 2) b (ns.map D.int) Wa Da [some d0, some (.int m), z] Ω
  | [], m, z, _, k => k m z
  | n :: ns, m, z, hb, k => hb m n z _ (row_loop ns _ _ hb k)
theorem c_law_row (T : Txt K mg C) : Clb P w K mg base ca 1 "_law_row" F_row := by
  refine clb T.d_law_row sc__law_row (fun ds Ω Q E h => ?_) (fun f cdv A outer s H E hr => ⟨_, _, (ass_cons (as_set 1 sc__law_row.nd ae_int)
      (ass_cons (as_for (passes_of rfl) rfl (ae_var 0) (ag_name (i := 2) sc__law_row.nd rfl (Or.inl rfl)) (ass_one (as_set 1 sc__law_row.nd (ae_mod (ae_add (ae_add (ae_mul (ae_var 1) ae_int) (ae_var 2)) ae_int) ae_int))))
      (ass_one (as_ret (ae_asRow (ae_lstO (aa_cons (ae_var 0) (aa_cons ae_int (aa_cons ae_int (aa_cons (ae_var 1) aa_nil)))))))))), fun ds Ω Qa Ea h => ?_⟩)
  · obtain ⟨n, rfl, _⟩ := h
    rfl
  · obtain ⟨ns, rfl, k⟩ := h
    walk_at "pl"
    refine row_loop ns 7 none (fun m v z De q => ?_) (fun m z => ?_)
    · walk_at "pl"
      exact ⟨mulok_r (by decide) (by decide), by decide, q⟩
    · walk_at "pl"
      exact ⟨by decide, fun p hp => ⟨ns, 0, 0, m, rfl, by decide, by omega, by decide, k p hp⟩⟩
def F_taken : AF := fun ds Ω Q _ => ∃ (a : Addr) (many : Int), ds = [.o a, .int many] ∧ Ω a = some .row ∧ 0 < many ∧ many < 2 ^ 250 ∧ ∀ n : Int, 0 ≤ n → n < many → Q (.int n) Ω
def F_taken1 : AF := fun ds Ω Q _ => ∃ (a : Addr) (many : Int) (ns : List Int) (i c m : Int), ds = [.o a, .int many] ∧ Ω a = some (.lst (rowD ns i c m)) ∧ 0 ≤ i ∧ i ≤ ns.length ∧ 0 ≤ c ∧ 0 < many ∧ many < 2 ^ 250 ∧
  ∀ n i' c' m' : Int, 0 ≤ n → n < many → 0 ≤ i' → i' ≤ ns.length → 0 ≤ c' → Q (.int n) (oset Ω a (.lst (rowD ns i' c' m')))
theorem taken_imp : ∀ vs H Q E, spA K ca F_taken vs H Q E → spA K ca F_taken1 vs H Q E := by
  rintro vs H Q E ⟨G, own, Ω, ds, Qa, Ea, r, dv, ⟨a, many, rfl, ho, h0, h1, k⟩, k1, k2⟩
  obtain ⟨ns, i, c, m, i0, i1, c0, r'⟩ := r.ofRow ho
  refine ⟨G, own, _, _, fun d Ω' => ∃ n i' c' m' : Int, 0 ≤ n ∧ n < many ∧ 0 ≤ i' ∧ i' ≤ ns.length ∧ 0 ≤ c' ∧ d = .int n ∧ Ω' = oset Ω a (.lst (rowD ns i' c' m')), fun _ _ => False, r', dv,
    ⟨a, many, ns, i, c, m, rfl, oset_same, i0, i1, c0, h0, h1, fun n i' c' m' n0 n1 i0 i1 c0 => ⟨n, i', c', m', n0, n1, i0, i1, c0, rfl, oset_oset⟩⟩, ?_, fun _ _ _ _ _ _ _ z => z.elim⟩
  rintro v H' G' own' d Ω' e r2 dv2 ⟨n, i', c', m', n0, n1, i0, i1, c0, rfl, rfl⟩
  have r3 := r2.toRow oset_same i0 i1 c0
  rw [oset_oset] at r3
  have e2 : oset Ω a .row = Ω := by
    funext b
    unfold oset
    by_cases hb : b = a
    · rw [if_pos hb, hb, ho]
    · rw [if_neg hb]
  rw [e2] at r3
  exact k1 _ _ _ _ _ _ e r3 dv2 (k n n0 n1)
theorem c_law_taken (T : Txt K mg C) : Clb P w K mg base ca 1 "_law_taken" F_taken := by
  refine Clb.imp (F := F_taken1) ?_ taken_imp
  refine clb T.d_law_taken sc__law_taken (fun ds Ω Q E h => ?_) (fun f cdv A outer s H E hr => ⟨_, _, (ass_cons (as_if (at_gt (ae_ix (ae_var 0) ae_int) ae_int) (ass_cons (as_set 2 sc__law_taken.nd (ae_mod (ae_ix (ae_var 0) ae_int) (ae_var 1)))
      (ass_cons (as_setIx (ae_fdv (div_of hr) (ae_ix (ae_var 0) ae_int) (ae_var 1)) (ae_var 0) ae_int)
      (ass_one (as_ret (ae_var 2))))) ass_nil)
      (ass_cons (as_if (at_lt (ae_ix (ae_var 0) ae_int) (ae_len rfl T.b_len (ae_ix (ae_var 0) ae_int))) (ass_cons (as_set 3 sc__law_taken.nd (ae_ix (ae_ix (ae_var 0) ae_int) (ae_ix (ae_var 0) ae_int)))
      (ass_cons (as_setIx (ae_add (ae_ix (ae_var 0) ae_int) ae_int) (ae_var 0) ae_int)
      (ass_cons (as_if (at_ge (ae_var 3) (ae_powB ae_int ae_int)) (ass_one (as_setIx (ae_fdv (div_of hr) (ae_var 3) (ae_var 1)) (ae_var 0) ae_int)) ass_nil)
      (ass_one (as_ret (ae_mod (ae_var 3) (ae_var 1))))))) ass_nil)
      (ass_cons (as_setIx (ae_mod (ae_add (ae_mul (ae_ix (ae_var 0) ae_int) ae_int) ae_int) ae_int) (ae_var 0) ae_int)
      (ass_one (as_ret (ae_mod (ae_fdv (div_of hr) (ae_ix (ae_var 0) ae_int) ae_int) (ae_var 1))))))), fun ds Ω Qa Ea h => ?_⟩)
  · obtain ⟨_, _, _, _, _, _, rfl, _⟩ := h
    rfl
  · obtain ⟨a, many, ns, i, c, m, rfl, ho, i0, i1, c0, h0, h1, k⟩ := h
    unfold rowD at ho k
    walk_at "pl"
    simp only [ho, seq_o ho]
    walk_at "pl"
    have hm : many ≠ 0 := by omega
    have hp : ∀ x : Int, NoPy x many := fun x => nopy hm (by omega)
    have hf : ∀ x : Int, 0 ≤ x.fmod many ∧ x.fmod many < many := fun x => by
      rw [Int.fmod_eq_emod_of_nonneg _ (by omega)]
      exact ⟨Int.emod_nonneg _ hm, Int.emod_lt_of_pos _ h0⟩
    refine ite2 (fun e => ⟨hm, hp _, k _ _ _ _ (hf _).1 (hf _).2 i0 i1 ?_⟩) (fun e => ite2 (fun e2 => ?_) (fun e2 => ⟨mulok_r (by decide) (by decide), by decide, nopy (by decide) (by decide), hm, k _ _ _ _ (hf _).1 (hf _).2 i0 i1 c0⟩))
    · rw [Int.fdiv_eq_ediv_of_nonneg _ (by omega)]
      exact Int.ediv_nonneg c0 (by omega)
    · rw [List.length_map] at e2
      obtain ⟨v, hv, ev⟩ := atI_int i0 e2
      rw [ev]
      walk_at "pl"
      refine ⟨⟨by decide, by decide⟩, ite2 (fun e3 => ⟨hp _, hm, k _ _ _ _ (hf _).1 (hf _).2 (by omega) (by omega) ?_⟩) (fun e3 => ⟨hm, k _ _ _ _ (hf _).1 (hf _).2 (by omega) (by omega) c0⟩)⟩
      rw [Int.fdiv_eq_ediv_of_nonneg _ (by omega)]
      refine Int.ediv_nonneg ?_ (by omega)
      have : (0 : Int) ≤ 10 ^ Int.toNat 18 := by decide
      omega
def F_signed : AF := fun ds Ω Q _ => ∃ (a : Addr) (m : Int), ds = [.o a, .int m] ∧ Ω a = some .row ∧ 0 ≤ m ∧ m < 2 ^ 240 ∧ ∀ n : Int, -m ≤ n → n ≤ m → Q (.int n) Ω
theorem c_law_signed (T : Txt K mg C) : Clb P w K mg base ca 2 "_law_signed" F_signed := by
  refine clb T.d_law_signed sc__law_signed (fun ds Ω Q E h => ?_) (fun f cdv A outer s H E hr => ⟨_, _, (ass_one (as_ret (ae_sub (ae_call (c_law_taken T) hr (takes_of rfl rfl rfl rfl) (by omega) (aa_cons (ae_var 0) (aa_cons (ae_add (ae_mul ae_int (ae_var 1)) ae_int) aa_nil))) (ae_var 1)))), fun ds Ω Qa Ea h => ?_⟩)
  · obtain ⟨_, _, rfl, _⟩ := h
    rfl
  · obtain ⟨a, m, rfl, ho, m0, m1, k⟩ := h
    walk_at "pl"
    refine ⟨mulok_l (by decide) (by decide), a, 2 * m + 1, rfl, ho, by omega, by omega, fun n n0 n1 => ?_⟩
    walk_at "pl"
    exact k _ (by omega) (by omega)
def F_common : AF := fun ds Ω Q _ => ∃ x y : Int, ds = [.int x, .int y] ∧ Q (.int (Int.gcd x y : Nat)) Ω
def I_common (x0 y0 : Int) (Ω : Om) : Nat → En → Om → Prop := fun m ρ Ω' => ∃ x y : Int, ρ = [some (.int x), some (.int y)] ∧ Ω' = Ω ∧ Int.gcd x y = Int.gcd x0 y0 ∧ m = y.natAbs
theorem c_law_common (T : Txt K mg C) : Clb P w K mg base ca 1 "_law_common" F_common := by
  refine clb T.d_law_common sc__law_common (fun ds Ω Q E h => ?_) (fun f cdv A outer s H E hr => ⟨_, _, (ass_cons (as_while (passes_of rfl) (at_neI (ae_var 1) ae_int) (ass_one (as_par 0 1 rfl sc__law_common.nd (ae_var 1) (ae_mod (ae_var 0) (ae_var 1)))))
      (ass_one (as_ret (ae_abs rfl T.b_abs (ae_var 0))))), fun ds Ω Qa Ea h => ?_⟩)
  · obtain ⟨_, _, rfl, _⟩ := h
    rfl
  · obtain ⟨x0, y0, rfl, k⟩ := h
    walk_at "pl"
    refine ⟨I_common x0 y0 Ω, ⟨_, x0, y0, rfl, rfl, rfl, rfl⟩, ?_⟩
    rintro m ρ Ω' ⟨x, y, rfl, rfl, hg, rfl⟩
    walk_at "pl"
    simp only [Bool.not_eq_true', decide_eq_false_iff_not]
    refine ite2 (fun e => ⟨e, _, fmod_lt e, _, _, rfl, rfl, ?_, rfl⟩) (fun e => ?_)
    · rw [gcd_step]; exact hg
    · have : y = 0 := Decidable.not_not.mp e
      subst this
      have e : (if x < 0 then -x else x) = ((Int.gcd x0 y0 : Nat) : Int) := by
        rw [← hg, Int.gcd_zero_right]
        split <;> omega
      rw [e]
      exact k
def tD (p : T3) : D := .tup [.int p.1, .int p.2.1, .int p.2.2]
def otD : Option T3 → D
  | none => .non
  | some p => tD p
def F_lawRoot : AF := fun ds Ω Q _ => ∃ n : Int, ds = [.int n] ∧ 0 ≤ n ∧ n.natAbs < 2 ^ 430000 ∧ Q (.int (isq n)) Ω
theorem nopy2 {x : Int} : NoPy x 2 := by unfold NoPy; decide
theorem c_law_root (T : Txt K mg C) : Clb P w K mg base ca 1 "_law_root" F_lawRoot := by
  refine clb T.d_law_root sc__law_root (fun ds Ω Q E h => ?_) (fun f cdv A outer s H E hr => ⟨_, _, (ass_cons (as_set 1 sc__law_root.nd ae_int)
      (ass_cons (as_set 2 sc__law_root.nd (ae_shl1 ae_int (ae_add (ae_fdv (div_of hr) (ae_bits (ae_var 0)) ae_int) ae_int)))
      (ass_cons (as_while (passes_of rfl) (at_gt (ae_sub (ae_var 2) (ae_var 1)) ae_int) (ass_cons (as_set 3 sc__law_root.nd (ae_fdv (div_of hr) (ae_add (ae_var 1) (ae_var 2)) ae_int))
      (ass_one (as_if (at_le (ae_mul (ae_var 3) (ae_var 3)) (ae_var 0)) (ass_one (as_set 1 sc__law_root.nd (ae_var 3))) (ass_one (as_set 2 sc__law_root.nd (ae_var 3)))))))
      (ass_one (as_ret (ae_var 1)))))), fun ds Ω Qa Ea h => ?_⟩)
  · obtain ⟨n, rfl, _⟩ := h
    rfl
  · obtain ⟨n, rfl, h0, h1, k⟩ := h
    walk_at "pl"
    have hbits := bits_le h1
    obtain ⟨e, he⟩ : ∃ e : Nat, e = Builtin.Int.intBits n / 2 + 1 := ⟨_, rfl⟩
    refine ⟨nopy2, e, by rw [Int.fdiv_eq_ediv_of_nonneg _ (by decide)]; omega, by omega, ?_⟩
    have hx : n < (2 ^ e : Int) * 2 ^ e := by
      have a1 := lt_bits (n := n)
      have a2 : 2 ^ Builtin.Int.intBits n ≤ 2 ^ (e + e) := Nat.pow_le_pow_right (by decide) (by omega)
      rw [Nat.pow_add] at a2
      have a3 : ((2 ^ e : Nat) : Int) = (2 : Int) ^ e := by simp
      rw [← a3]
      generalize (2 : Nat) ^ e = x at *
      have a4 : n.natAbs < x * x := Nat.lt_of_lt_of_le a1 a2
      have a5 : n < ((x * x : Nat) : Int) := by omega
      rwa [Int.natCast_mul] at a5
    have hpos : 0 < (2 ^ e : Int) := Int.pow_pos (by decide)
    obtain ⟨X, hX⟩ : ∃ X : Nat, X = 2 ^ 215002 := ⟨_, rfl⟩
    have hbig : (2 ^ e : Int) ≤ X := by
      rw [hX]
      exact Int.ofNat_le.mpr (Nat.pow_le_pow_right (by decide) (by omega) : 2 ^ e ≤ 2 ^ 215002)
    have h2 : ∀ u : Int, u.natAbs < X → IntMulOk u u := fun u h => by
      rw [hX] at h
      exact mulok h h (by decide)
    clear hX
    clear h1
    refine ⟨fun m ρ Ω' => ∃ (lo hi : Int) (z : Option D), ρ = [some (.int n), some (.int lo), some (.int hi), z] ∧ Ω' = Ω ∧ 0 ≤ lo ∧ lo * lo ≤ n ∧ n < hi * hi ∧ lo < hi ∧ hi ≤ X ∧ m = (hi - lo).toNat, ⟨_, 0, 2 ^ e, none, rfl, rfl, by decide, by omega, hx, hpos, hbig, rfl⟩, ?_⟩
    rintro m ρ Ω' ⟨lo, hi, z, rfl, rfl, l0, l1, l2, l3, l4, rfl⟩
    walk_at "pl"
    refine ite2 (fun g => ?_) (fun g => ?_)
    · have q5 : (lo + hi).fdiv 2 = (lo + hi) / 2 := Int.fdiv_eq_ediv_of_nonneg _ (by decide)
      rw [q5]
      obtain ⟨u, hu⟩ : ∃ u : Int, u = (lo + hi) / 2 := ⟨_, rfl⟩
      rw [← hu]
      have u1 : lo < u := by omega
      have u2 : u < hi := by omega
      refine ⟨nopy2, h2 u (by omega), ite2 (fun w => ?_) (fun w => ?_)⟩
      · exact ⟨(hi - u).toNat, by omega, by omega, w, l2, u2, l4, rfl⟩
      · exact ⟨(u - lo).toNat, by omega, l0, l1, by omega, u1, by omega, rfl⟩
    · have : hi = lo + 1 := by omega
      subst this
      rw [isq_uniq l0 l1 l2] at k
      exact k
def F_made : AF := fun ds Ω Q _ => ∃ x y z : Int, ds = [.int x, .int y, .int z] ∧ z ≠ 0 ∧ Q (tD (madeT x y z)) Ω
theorem c_law_made (T : Txt K mg C) : Clb P w K mg base ca 2 "_law_made" F_made := by
  refine clb T.d_law_made sc__law_made (fun ds Ω Q E h => ?_) (fun f cdv A outer s H E hr => ⟨_, _, (ass_cons (as_set 3 sc__law_made.nd (ae_call (c_law_common T) hr (takes_of rfl rfl rfl rfl) (by omega) (aa_cons (ae_call (c_law_common T) hr (takes_of rfl rfl rfl rfl) (by omega) (aa_cons (ae_var 0) (aa_cons (ae_var 1) aa_nil))) (aa_cons (ae_var 2) aa_nil))))
      (ass_cons (as_if (at_lt (ae_var 2) ae_int) (ass_one (as_set 3 sc__law_made.nd (ae_sub ae_int (ae_var 3)))) ass_nil)
      (ass_one (as_ret (ae_tup (aa_cons (ae_fdv (div_of hr) (ae_var 0) (ae_var 3)) (aa_cons (ae_fdv (div_of hr) (ae_var 1) (ae_var 3)) (aa_cons (ae_fdv (div_of hr) (ae_var 2) (ae_var 3)) aa_nil)))))))), fun ds Ω Qa Ea h => ?_⟩)
  · obtain ⟨_, _, _, rfl, _⟩ := h
    rfl
  · obtain ⟨x, y, z, rfl, hz, k⟩ := h
    have g0 : 0 < gcd3 x y z := Int.gcd_pos_of_ne_zero_right _ hz
    unfold madeT tD at k
    unfold gcd3 at k g0
    walk_at "pl"
    refine ⟨x, y, rfl, _, z, rfl, ite2 (fun e => ?_) (fun e => ?_)⟩
    · rw [if_pos e] at k
      have hp : ∀ u : Int, NoPy u (0 - ((Int.gcd ((Int.gcd x y : Nat) : Int) z : Nat) : Int)) := fun u => by unfold NoPy; omega
      exact ⟨_, rfl, hp _, hp _, hp _, by decide, k⟩
    · rw [if_neg e] at k
      have hp : ∀ u : Int, NoPy u ((Int.gcd ((Int.gcd x y : Nat) : Int) z : Nat) : Int) := fun u => by unfold NoPy; omega
      exact ⟨_, rfl, hp _, _, rfl, hp _, _, rfl, hp _, by decide, k⟩
theorem abs_le_mul' {g s : Int} (h0 : 0 ≤ g) (h : g * g ≤ s) : g ≤ s := by
  rcases Int.lt_or_le s g with w | w
  · rcases Int.lt_or_le g 1 with z | z
    · have : g = 0 := by omega
      subst this
      simpa using h
    · have : g * 1 ≤ g * g := Int.mul_le_mul_of_nonneg_left z h0
      omega
  · exact w
abbrev H2 (p : T3) : Prop := Ht 200000 p
theorem ml9 {i j : Int} (a b : Nat) (hi : i.natAbs < 2 ^ a) (hj : j.natAbs < 2 ^ b) (h : a + b ≤ 900000) : IntMulOk i j := mulok hi hj h
theorem nmul {i j : Int} {a b : Nat} (hi : i.natAbs < 2 ^ a) (hj : j.natAbs < 2 ^ b) : (i * j).natAbs < 2 ^ (a + b) := by
  rw [Int.natAbs_mul, Nat.pow_add]
  exact Nat.mul_lt_mul_of_lt_of_le hi (Nat.le_of_lt hj) (Nat.pow_pos (by decide))
theorem nadd {i j : Int} {a : Nat} (hi : i.natAbs < 2 ^ a) (hj : j.natAbs < 2 ^ a) : (i + j).natAbs < 2 ^ (a + 1) := by
  rw [Nat.pow_succ]; omega
theorem nsub {i j : Int} {a : Nat} (hi : i.natAbs < 2 ^ a) (hj : j.natAbs < 2 ^ a) : (i - j).natAbs < 2 ^ (a + 1) := by
  rw [Nat.pow_succ]; omega
theorem nup {i : Int} {a : Nat} (b : Nat) (hi : i.natAbs < 2 ^ a) (h : a ≤ b) : i.natAbs < 2 ^ b := Nat.lt_of_lt_of_le hi (Nat.pow_le_pow_right (by decide) h)
def F_sum : AF := fun ds Ω Q _ => ∃ (p q : T3) (k : Int), ds = [tD p, tD q, .int k] ∧ Ht 200000 p ∧ Ht 200000 q ∧ k.natAbs < 2 ^ 1000 ∧ p.2.2 ≠ 0 ∧ q.2.2 ≠ 0 ∧ Q (tD (sumT p q k)) Ω
theorem c_law_sum (T : Txt K mg C) : Clb P w K mg base ca 3 "_law_sum" F_sum := by
  refine clb T.d_law_sum sc__law_sum (fun ds Ω Q E h => ?_) (fun f cdv A outer s H E hr => ⟨_, _, (ass_cons (as_set 3 sc__law_sum.nd (ae_add (ae_mul (ae_ix (ae_var 0) ae_int) (ae_ix (ae_var 1) ae_int)) (ae_mul (ae_mul (ae_var 2) (ae_ix (ae_var 1) ae_int)) (ae_ix (ae_var 0) ae_int))))
      (ass_one (as_ret (ae_call (c_law_made T) hr (takes_of rfl rfl rfl rfl) (by omega) (aa_cons (ae_var 3) (aa_cons (ae_add (ae_mul (ae_ix (ae_var 0) ae_int) (ae_ix (ae_var 1) ae_int)) (ae_mul (ae_mul (ae_var 2) (ae_ix (ae_var 1) ae_int)) (ae_ix (ae_var 0) ae_int))) (aa_cons (ae_mul (ae_ix (ae_var 0) ae_int) (ae_ix (ae_var 1) ae_int)) aa_nil))))))), fun ds Ω Qa Ea h => ?_⟩)
  · obtain ⟨_, _, _, rfl, _⟩ := h
    rfl
  · obtain ⟨⟨a, b, c⟩, ⟨a', b', c'⟩, j, rfl, ⟨h1, h2, h3⟩, ⟨g1, g2, g3⟩, hj, hc, hc', k⟩ := h
    simp only at h1 h2 h3 g1 g2 g3 hc hc'
    unfold tD
    unfold sumT at k
    walk_at "pl"
    refine ⟨ml9 _ _ h1 g3 (by decide), ml9 _ _ hj g1 (by decide), ml9 _ _ (nmul hj g1) h3 (by decide), ml9 _ _ h2 g3 (by decide), ml9 _ _ hj g2 (by decide), ml9 _ _ (nmul hj g2) h3 (by decide), ml9 _ _ h3 g3 (by decide), _, _, _, rfl, Int.mul_ne_zero hc hc', k⟩
def F_prod : AF := fun ds Ω Q _ => ∃ (p q : T3) (d : Int), ds = [tD p, tD q, .int d] ∧ Ht 200000 p ∧ Ht 430000 q ∧ d.natAbs < 2 ^ 1000 ∧ p.2.2 ≠ 0 ∧ q.2.2 ≠ 0 ∧ Q (tD (prodT p q d)) Ω
theorem c_law_product (T : Txt K mg C) : Clb P w K mg base ca 3 "_law_product" F_prod := by
  refine clb T.d_law_product sc__law_product (fun ds Ω Q E h => ?_) (fun f cdv A outer s H E hr => ⟨_, _, (ass_cons (as_set 3 sc__law_product.nd (ae_add (ae_mul (ae_ix (ae_var 0) ae_int) (ae_ix (ae_var 1) ae_int)) (ae_mul (ae_mul (ae_var 2) (ae_ix (ae_var 0) ae_int)) (ae_ix (ae_var 1) ae_int))))
      (ass_one (as_ret (ae_call (c_law_made T) hr (takes_of rfl rfl rfl rfl) (by omega) (aa_cons (ae_var 3) (aa_cons (ae_add (ae_mul (ae_ix (ae_var 0) ae_int) (ae_ix (ae_var 1) ae_int)) (ae_mul (ae_ix (ae_var 0) ae_int) (ae_ix (ae_var 1) ae_int))) (aa_cons (ae_mul (ae_ix (ae_var 0) ae_int) (ae_ix (ae_var 1) ae_int)) aa_nil))))))), fun ds Ω Qa Ea h => ?_⟩)
  · obtain ⟨_, _, _, rfl, _⟩ := h
    rfl
  · obtain ⟨⟨a, b, c⟩, ⟨a', b', c'⟩, j, rfl, ⟨h1, h2, h3⟩, ⟨g1, g2, g3⟩, hj, hc, hc', k⟩ := h
    simp only at h1 h2 h3 g1 g2 g3 hc hc'
    unfold tD
    unfold prodT at k
    walk_at "pl"
    refine ⟨ml9 _ _ h1 g1 (by decide), ml9 _ _ hj h2 (by decide), ml9 _ _ (nmul hj h2) g2 (by decide), ml9 _ _ h1 g2 (by decide), ml9 _ _ h2 g1 (by decide), ml9 _ _ h3 g3 (by decide), _, _, _, rfl, Int.mul_ne_zero hc hc', k⟩
def F_quot : AF := fun ds Ω Q _ => ∃ (p q : T3) (d : Int), ds = [tD p, tD q, .int d] ∧ Ht 200000 p ∧ Ht 210000 q ∧ d.natAbs < 2 ^ 1000 ∧ p.2.2 ≠ 0 ∧ q.2.2 ≠ 0 ∧ Sz d q ∧ Q (otD (quotT p q d)) Ω
theorem madeT_ht {x y z : Int} {B : Nat} (hz : z ≠ 0) (h1 : x.natAbs < 2 ^ B) (h2 : y.natAbs < 2 ^ B) (h3 : z.natAbs < 2 ^ B) : Ht B (madeT x y z) := by
  obtain ⟨P, N⟩ := madeT_px (x := x) (y := y) hz
  obtain ⟨l1, l2, l3⟩ := P.le N
  exact ⟨Nat.lt_of_le_of_lt l1 h1, Nat.lt_of_le_of_lt l2 h2, Nat.lt_of_le_of_lt l3 h3⟩
theorem c_law_quotient (T : Txt K mg C) : Clb P w K mg base ca 4 "_law_quotient" F_quot := by
  refine clb T.d_law_quotient sc__law_quotient (fun ds Ω Q E h => ?_) (fun f cdv A outer s H E hr => ⟨_, _, (ass_cons (as_if (AWt.at_ (aw_and (at_eqI (ae_ix (ae_var 1) ae_int) ae_int) (aw_and1 (at_eqI (ae_ix (ae_var 1) ae_int) ae_int)))) (ass_one (as_ret ae_non)) ass_nil)
      (ass_cons (as_set 3 sc__law_quotient.nd (ae_sub (ae_mul (ae_ix (ae_var 1) ae_int) (ae_ix (ae_var 1) ae_int)) (ae_mul (ae_mul (ae_var 2) (ae_ix (ae_var 1) ae_int)) (ae_ix (ae_var 1) ae_int))))
      (ass_one (as_ret (ae_call (c_law_product T) hr (takes_of rfl rfl rfl rfl) (by omega) (aa_cons (ae_var 0) (aa_cons (ae_call (c_law_made T) hr (takes_of rfl rfl rfl rfl) (by omega) (aa_cons (ae_mul (ae_ix (ae_var 1) ae_int) (ae_ix (ae_var 1) ae_int)) (aa_cons (ae_sub ae_int (ae_mul (ae_ix (ae_var 1) ae_int) (ae_ix (ae_var 1) ae_int))) (aa_cons (ae_var 3) aa_nil)))) (aa_cons (ae_var 2) aa_nil)))))))), fun ds Ω Qa Ea h => ?_⟩)
  · obtain ⟨_, _, _, rfl, _⟩ := h
    rfl
  · obtain ⟨p, ⟨a, b, c⟩, j, rfl, hp, ⟨g1, g2, g3⟩, hj, hc, hc', hs, k⟩ := h
    unfold Sz at hs
    simp only at g1 g2 g3 hc' hs
    unfold quotT at k
    have e0 : tD (a, b, c) = .tup [.int a, .int b, .int c] := rfl
    rw [e0]
    walk_at "pl"
    simp only at k
    by_cases h : a = 0 ∧ b = 0
    · rw [if_pos h] at k
      rw [if_pos h.1, if_pos h.2]
      exact k
    · rw [if_neg h] at k
      have hsz : a * a - j * b * b ≠ 0 := by
        rcases hs with z | z
        · exact absurd z h
        · exact z
      have rest : ∀ {A B : Prop}, (¬ (a = 0 ∧ b = 0) → B) → (if a = 0 then (if b = 0 then A else B) else B) := fun f => by
        by_cases u : a = 0
        · by_cases v : b = 0
          · exact absurd ⟨u, v⟩ h
          · rw [if_pos u, if_neg v]; exact f h
        · rw [if_neg u]; exact f h
      have u1 : (c * a).natAbs < 2 ^ 430000 := nup _ (nmul g3 g1) (by decide)
      have u2 : (0 - c * b).natAbs < 2 ^ 430000 := by
        have := nup 430000 (nmul g3 g2) (by decide)
        rw [Int.zero_sub, Int.natAbs_neg]
        exact this
      have u3 : (a * a - j * b * b).natAbs < 2 ^ 430000 := nup _ (nsub (a := 421000) (nup _ (nmul g1 g1) (by decide)) (nup _ (nmul (nmul hj g2) g2) (by decide))) (by decide)
      have hm := madeT_ht hsz u1 u2 u3
      exact rest fun _ => ⟨ml9 _ _ g1 g1 (by decide), ml9 _ _ hj g2 (by decide), ml9 _ _ (nmul hj g2) g2 (by decide), ml9 _ _ g3 g1 (by decide), ml9 _ _ g3 g2 (by decide), _, _, _, rfl, hsz, p, _, j, rfl, hp, hm, hj, hc, Int.ne_of_gt (madeT_px (x := c * a) (y := 0 - c * b) hsz).2.pos, k⟩
def F_below1 : AF := fun ds Ω Q _ => ∃ (p : T3) (d : Int), ds = [tD p, .int d] ∧ Ht 200000 p ∧ d.natAbs < 2 ^ 1000 ∧ 0 ≤ d ∧ p.2.2 ≠ 0 ∧ Q (.int (belowT p d)) Ω
theorem c_law_below (T : Txt K mg C) : Clb P w K mg base ca 2 "_law_below" F_below1 := by
  refine clb T.d_law_below sc__law_below (fun ds Ω Q E h => ?_) (fun f cdv A outer s H E hr => ⟨_, _, (ass_cons (as_set 2 sc__law_below.nd (ae_mul (ae_mul (ae_ix (ae_var 0) ae_int) (ae_ix (ae_var 0) ae_int)) (ae_var 1)))
      (ass_cons (as_set 3 sc__law_below.nd (ae_call (c_law_root T) hr (takes_of rfl rfl rfl rfl) (by omega) (aa_cons (ae_var 2) aa_nil)))
      (ass_cons (as_if (at_lt (ae_ix (ae_var 0) ae_int) ae_int) (ass_one (as_set 3 sc__law_below.nd (ae_sub (ae_sub ae_int (ae_var 3)) (ae_intB rfl T.b_int (ae_lt (ae_mul (ae_var 3) (ae_var 3)) (ae_var 2)))))) ass_nil)
      (ass_one (as_ret (ae_fdv (div_of hr) (ae_add (ae_ix (ae_var 0) ae_int) (ae_var 3)) (ae_ix (ae_var 0) ae_int))))))), fun ds Ω Qa Ea h => ?_⟩)
  · obtain ⟨_, _, rfl, _⟩ := h
    rfl
  · obtain ⟨⟨a, b, c⟩, j, rfl, ⟨g1, g2, g3⟩, hj, hj0, hc, k⟩ := h
    simp only at g1 g2 g3 hc
    unfold belowT rootT at k
    simp only at k
    unfold tD
    walk_at "pl"
    have hS : 0 ≤ b * b * j := Int.mul_nonneg (sqNN b) hj0
    have hS2 : (b * b * j).natAbs < 2 ^ 430000 := nup _ (nmul (nmul g2 g2) hj) (by decide)
    refine ⟨ml9 _ _ g2 g2 (by decide), ml9 _ _ (nmul g2 g2) hj (by decide), _, rfl, hS, hS2, ?_⟩
    have hi : (isq (b * b * j)).natAbs < 2 ^ 430000 := by
      obtain ⟨q0, q1, _⟩ := isq_spec hS
      refine Nat.lt_of_le_of_lt ?_ hS2
      have := abs_le_mul' q0 q1
      generalize b * b * j = u at *
      omega
    dsimp only
    refine ite2 (fun e => ?_) (fun e => ?_)
    · rw [if_pos e] at k
      exact ⟨_, rfl, _, rfl, _, rfl, ml9 _ _ hi hi (by decide), hc, k⟩
    · rw [if_neg e] at k
      exact ⟨_, rfl, hc, k⟩
def RuGood (ps ring steps : List Int) : Prop := 1 ≤ ps.length ∧ ps.length ≤ 12 ∧ ring.length ≤ 12 ∧ ring.length = steps.length ∧ (∀ n ∈ ps ++ ring ++ steps, Few n) ∧ (∀ n ∈ ps.drop 1 ++ ring, 1 ≤ n) ∧ (∀ n ∈ steps, 0 ≤ n) ∧ (ring = [] → 1 < ps.length → ∀ n, ps.getLast? = some n → 2 ≤ n)
theorem compL_intsX {g : AG} {c : ATT} {re : ATE} {vs : List Nat} {Wa : AW} {ρ : En} {Q : AQ} (Px : D → Prop) (Pn : Int → Prop) (I : Om → Prop)
    (step : ∀ (x : D) (Ω' : Om) (R : AQ) (Z : Om → Prop), Px x → I Ω' → (∀ n Ω'', Pn n → I Ω'' → R (.int n) Ω'') → g x (wipeA ρ vs) Ω' fun ρ1 Ω1 => c Wa ρ1 Ω1 fun k Ω2 => if k = true then re Wa ρ1 Ω2 R else Z Ω2) :
    ∀ (xs : List D) (acc : List Int) (Ω : Om), I Ω → (∀ x ∈ xs, Px x) → acc.length + xs.length ≤ 100000 → (∀ n ∈ acc, Pn n) → (∀ (ns : List Int) (Ω' : Om), ns.length = acc.length + xs.length → (∀ n ∈ ns, Pn n) → I Ω' → Q (.lst (ns.map D.int)) Ω') → compL g c re vs xs (acc.map D.int) Wa ρ Ω Q
  | [], acc, Ω, i, _, _, ha, k => k acc Ω (by simp) ha i
  | x :: xs, acc, Ω, i, hx, hl, ha, k => step x Ω _ _ (hx x List.mem_cons_self) i fun n Ω' hn i' => ⟨by rw [List.length_map]; rw [List.length_cons] at hl; exact small1000' (by omega), by
    have e : acc.map D.int ++ [.int n] = (acc ++ [n]).map D.int := by rw [List.map_append]; rfl
    rw [e]
    refine compL_intsX Px Pn I step xs (acc ++ [n]) Ω' i' (fun y hy => hx y (List.mem_cons_of_mem _ hy)) (by rw [List.length_append, List.length_singleton]; rw [List.length_cons] at hl; omega) (fun m hm => ?_) (fun ns Ω'' hn' hp i'' => k ns Ω'' (by rw [hn', List.length_append, List.length_singleton, List.length_cons]; omega) hp i'')
    rcases List.mem_append.mp hm with h | h
    · exact ha m h
    · rw [List.mem_singleton.mp h]; exact hn⟩
theorem rngD_mem {n : Nat} : ∀ x ∈ rngD 0 n, ∃ k : Int, x = .int k ∧ 0 ≤ k := by
  intro x hx
  unfold rngD at hx
  obtain ⟨i, _, rfl⟩ := List.mem_map.mp hx
  exact ⟨_, rfl, by omega⟩
theorem last_cons {n : Int} {ms : List Int} (h : ms ≠ []) : (n :: ms).getLast? = ms.getLast? := by
  cases ms with
  | nil => exact absurd rfl h
  | cons m r => rw [List.getLast?_cons_cons]
theorem ru_good {n : Int} {ms ring steps : List Int} (hl : ms.length ≤ 11) (h2 : ring.length ≤ 12) (h3 : ring.length = steps.length) (n9 : n.natAbs ≤ 9) (hm : ∀ x ∈ ms, 1 ≤ x ∧ x ≤ 60) (hr : ∀ x ∈ ring, 1 ≤ x ∧ x ≤ 5) (hs : ∀ x ∈ steps, 0 ≤ x ∧ x ≤ 4) (hq : ring = [] → ms ≠ [] → ∀ q, ms.getLast? = some q → 2 ≤ q) :
    RuGood (n :: ms) ring steps ∧ ∀ x ∈ (n :: ms) ++ ring ++ steps, x.natAbs ≤ 100 := by
  have hall : ∀ x ∈ (n :: ms) ++ ring ++ steps, x.natAbs ≤ 100 := fun x hx => by
    rcases List.mem_append.mp hx with hx | hx
    · rcases List.mem_append.mp hx with hx | hx
      · rcases List.mem_cons.mp hx with rfl | hx
        · omega
        · have := hm x hx; omega
      · have := hr x hx; omega
    · have := hs x hx; omega
  refine ⟨⟨by simp, by rw [List.length_cons]; omega, h2, h3, fun x hx => by have := hall x hx; unfold Few; omega, fun x hx => ?_, fun x hx => (hs x hx).1, fun e hlt q hq' => ?_⟩, hall⟩
  · rcases List.mem_append.mp hx with hx | hx
    · exact (hm x hx).1
    · exact (hr x hx).1
  · have hne : ms ≠ [] := fun z => by subst z; simp at hlt
    rw [last_cons hne] at hq'
    exact hq e hne q hq'
def F_lawRuled : AF := fun ds Ω Q _ => ∃ p : Addr, ds = [.o p] ∧ Ω p = some .row ∧ ∀ (ps ring steps : List Int) (Ω' : Om), RuGood ps ring steps → (∀ n ∈ ps ++ ring ++ steps, n.natAbs ≤ 100) → (∀ b, Ω b ≠ none → Ω' b = Ω b) → Q (Tr.ruled ps ring steps).d Ω'
def M_lr1 (p : Addr) (Ω : Om) : En → Om → Prop := fun ρ Ω' => ∃ m : Int, 1 ≤ m ∧ m ≤ 12 ∧ Ω' = Ω ∧ ρ = [some (.o p), some (.int m), none, none, none, none, none]
def M_lr2 (p : Addr) (Ω : Om) : En → Om → Prop := fun ρ Ω' => ∃ (m s : Int) (a : Addr) (n : Int) (ms : List Int), 1 ≤ m ∧ m ≤ 12 ∧ 0 ≤ s ∧ s ≤ 12 ∧ m = ms.length + 1 ∧ n.natAbs ≤ 9 ∧ (∀ x ∈ ms, 1 ≤ x ∧ x ≤ 60) ∧ Ω a = none ∧ Ω' = oset Ω a (.lst ((n :: ms).map D.int)) ∧ ρ = [some (.o p), some (.int m), some (.o a), some (.int s), none, none, none]
def M_lr3 (p : Addr) (Ω : Om) : En → Om → Prop := fun ρ Ω' => ∃ (m s : Int) (a : Addr) (ps ring steps : List Int), RuGood ps ring steps ∧ (∀ n ∈ ps ++ ring ++ steps, n.natAbs ≤ 100) ∧ Ω a = none ∧ Ω' = oset Ω a (.lst (ps.map D.int)) ∧ ρ = [some (.o p), some (.int m), some (.o a), some (.int s), some (.lst (ring.map D.int)), some (.lst (steps.map D.int)), none]
theorem c_law_ruled (T : Txt K mg C) : Clb P w K mg base ca 3 "_law_ruled" F_lawRuled := by
  refine clb T.d_law_ruled sc__law_ruled (fun ds Ω Q E h => ?_) (fun f cdv A outer s H E hr => ⟨_, _, (ass_cons (as_set 1 sc__law_ruled.nd (ae_call (c_law_taken T) hr (takes_of rfl rfl rfl rfl) (by omega) (aa_cons (ae_var 0) (aa_cons ae_int aa_nil))))
      (ass_cut (as_set 1 sc__law_ruled.nd (ae_ifExp (at_lt (ae_var 1) ae_int) (ae_add ae_int (ae_mod (ae_var 1) ae_int)) (ae_sub (ae_var 1) ae_int)))
      (ass_cons (as_set 2 sc__law_ruled.nd (ae_catO (ae_lst (aa_cons (ae_call (c_law_signed T) hr (takes_of rfl rfl rfl rfl) (by omega) (aa_cons (ae_var 0) (aa_cons ae_int aa_nil))) aa_nil)) (ae_lcR rfl sc__law_ruled.nd rfl T.b_range (ae_sub (ae_var 1) ae_int) (show BlkOk ["_law_row_here", "_law_many", "_law_parts", "_law_size", "_law_ring", "_law_steps", "_law_k"] (defScope s__law_ruled) _ [("_law_k", 6)] from blkOk_by (by decide +kernel)) (wip_name (by decide)) (fun s1 H1 C1 cl1 fp1 => (ag_name (i := 6) sc__law_ruled.nd rfl (Or.inl rfl))) (fun s1 H1 C1 cl1 fp1 => AE.cast (ae_add ae_int (ae_call (c_law_taken T) hr takes0 (by omega) (aa_cons (ae_var 0) (aa_cons (ae_ix (ae_lst (aa_cons ae_int (aa_cons ae_int aa_nil))) (ae_mod (ae_var 6) ae_int)) aa_nil)))) (by first | (dsimp only [Blk, Cx.blk]; done) | rfl)))))
      (ass_cons (as_set 3 sc__law_ruled.nd (ae_call (c_law_taken T) hr (takes_of rfl rfl rfl rfl) (by omega) (aa_cons (ae_var 0) (aa_cons ae_int aa_nil))))
      (ass_cut (as_set 3 sc__law_ruled.nd (ae_ifExp (at_lt (ae_var 3) ae_int) (ae_mod (ae_var 3) ae_int) (ae_sub (ae_var 3) ae_int)))
      (ass_cons (as_setLcR (i := 4) rfl sc__law_ruled.nd rfl rfl (sw_true rfl rfl rfl (by decide +kernel)) rfl T.b_range (ae_var 3) (show BlkOk ["_law_row_here", "_law_many", "_law_parts", "_law_size", "_law_ring", "_law_steps", "_law_k"] (defScope s__law_ruled) _ [("_law_k", 6)] from blkOk_by (by decide +kernel)) (wip_name (by decide)) (fun s1 H1 C1 cl1 fp1 => (ag_name (i := 6) sc__law_ruled.nd rfl (Or.inl rfl))) (fun s1 H1 C1 cl1 fp1 => AE.cast (ae_add ae_int (ae_call (c_law_taken T) hr takes0 (by omega) (aa_cons (ae_var 0) (aa_cons ae_int aa_nil)))) (by first | (dsimp only [Blk, Cx.blk]; done) | rfl)))
      (ass_cons (as_setLcR (i := 5) rfl sc__law_ruled.nd rfl rfl (sw_true rfl rfl rfl (by decide +kernel)) rfl T.b_range (ae_var 3) (show BlkOk ["_law_row_here", "_law_many", "_law_parts", "_law_size", "_law_ring", "_law_steps", "_law_k"] (defScope s__law_ruled) _ [("_law_k", 6)] from blkOk_by (by decide +kernel)) (wip_name (by decide)) (fun s1 H1 C1 cl1 fp1 => (ag_name (i := 6) sc__law_ruled.nd rfl (Or.inl rfl))) (fun s1 H1 C1 cl1 fp1 => AE.cast (ae_mul (ae_call (c_law_taken T) hr takes0 (by omega) (aa_cons (ae_var 0) (aa_cons ae_int aa_nil))) (ae_call (c_law_taken T) hr takes0 (by omega) (aa_cons (ae_var 0) (aa_cons ae_int aa_nil)))) (by first | (dsimp only [Blk, Cx.blk]; done) | rfl)))
      (ass_cut (as_if (AWt.at_ (aw_and (at_eqI (ae_var 3) ae_int) (aw_and (at_gt (ae_var 1) ae_int) (aw_and1 (at_eqI (ae_ix (ae_var 2) (ae_neg ae_int)) ae_int))))) (ass_one (as_setIx ae_int (ae_var 2) (ae_neg ae_int))) ass_nil)
      (ass_one (as_ret (ae_tup (aa_cons ae_str (aa_cons (ae_tuple rfl T.b_tuple (ae_var 2)) (aa_cons (ae_tuple rfl T.b_tuple (ae_var 4)) (aa_cons (ae_tuple rfl T.b_tuple (ae_var 5)) aa_nil))))))))))))))), fun ds Ω Qa Ea h => ?_⟩)
  · obtain ⟨_, rfl, _⟩ := h
    rfl
  · obtain ⟨p, rfl, ho, k⟩ := h
    walk_at "pl"
    refine ⟨p, 60, rfl, ho, by decide, by decide, fun i i0 i1 => ⟨M_lr1 p Ω, ?_, ?_⟩⟩
    · walk_at "pl"
      have f0 : 0 ≤ i.fmod 5 := Int.fmod_nonneg_of_pos _ (by decide)
      have f1 : i.fmod 5 < 5 := Int.fmod_lt_of_pos _ (by decide)
      exact ite2 (fun e => ⟨by decide, _, by omega, by omega, rfl, rfl⟩) (fun e => ⟨_, by omega, by omega, rfl, rfl⟩)
    · rintro ρ Ω' ⟨m, m0, m1, rfl, rfl⟩
      walk_at "pl"
      refine ⟨p, 9, rfl, ho, by decide, by decide, fun n n0 n1 => ⟨by decide, by omega, by omega, ?_⟩⟩
      refine compL_intsX (fun x => ∃ k : Int, x = .int k ∧ 0 ≤ k) (fun n => 1 ≤ n ∧ n ≤ 60) (fun Ω'' => Ω'' = Ω') (fun x Ω1 R Z hx hΩ hk => ?_) _ [] _ rfl rngD_mem (by rw [rngD_length]; simp only [List.length_nil]; omega) (by simp) (fun ms Ω1 hl hm hΩ => ?_)
      · obtain ⟨kk, rfl, k0⟩ := hx
        subst hΩ
        simp only [wipeA, aYes]
        walk_at "pl"
        refine ⟨by decide, by decide, ?_⟩
        have f0 : 0 ≤ kk.fmod 2 := Int.fmod_nonneg_of_pos _ (by decide)
        have f1 : kk.fmod 2 < 2 := Int.fmod_lt_of_pos _ (by decide)
        obtain ⟨v, hv, ev⟩ := atI_int (ns := [3, 60]) f0 (by simpa using f1)
        simp only [List.map_cons, List.map_nil] at ev
        have v0 : 3 ≤ v ∧ v ≤ 60 := by
          simp only [List.mem_cons, List.not_mem_nil, or_false] at hv
          omega
        refine ⟨_, ev, p, v, rfl, ho, by omega, by omega, fun q q0 q1 => ?_⟩
        walk_at "pl"
        exact hk _ _ ⟨by omega, by omega⟩ rfl
      · subst hΩ
        rw [rngD_length, List.length_nil, Nat.zero_add] at hl
        walk_at "pl"
        refine ⟨by rw [List.length_map]; exact Nat.le_of_lt (small1000' (by omega)), fun a ha => ?_⟩
        have hpa : p ≠ a := fun e => by rw [e, ha] at ho; cases ho
        refine ⟨p, 48, rfl, by rw [oset_ne hpa]; exact ho, by decide, by decide, fun i i0 i1 => ?_⟩
        refine ⟨M_lr2 p Ω1, ?_, ?_⟩
        · walk_at "pl"
          have f0 : 0 ≤ i.fmod 4 := Int.fmod_nonneg_of_pos _ (by decide)
          have f1 : i.fmod 4 < 4 := Int.fmod_lt_of_pos _ (by decide)
          exact ite2 (fun e => ⟨by decide, m, _, a, n, ms, m0, m1, f0, by omega, by omega, by omega, hm, ha, rfl, rfl⟩) (fun e => ⟨m, _, a, n, ms, m0, m1, by omega, by omega, by omega, by omega, hm, ha, rfl, rfl⟩)
        · rintro ρ Ω2 ⟨m, s', a, n, ms, m0, m1, s0, s1, hl, n9, hm, ha, rfl, rfl⟩
          have hpa : p ≠ a := fun e => by rw [e, ha] at ho; cases ho
          have ho2 : oset Ω1 a (.lst ((n :: ms).map D.int)) p = some .row := by rw [oset_ne hpa]; exact ho
          walk_at "pl"
          refine ⟨by omega, by omega, ?_⟩
          refine compL_intsX (fun _ => True) (fun n => 1 ≤ n ∧ n ≤ 5) (fun Ω'' => Ω'' = oset Ω1 a (.lst ((n :: ms).map D.int))) (fun x Ω3 R Z hx hΩ hk => ?_) _ [] _ rfl (fun _ _ => True.intro) (by rw [rngD_length]; simp only [List.length_nil]; omega) (by simp) (fun ring Ω3 hl2 hm2 hΩ => ?_)
          · subst hΩ
            simp only [wipeA, aYes]
            walk_at "pl"
            refine ⟨p, 5, rfl, ho2, by omega, by omega, fun q q0 q1 => ?_⟩
            walk_at "pl"
            exact hk _ _ ⟨by omega, by omega⟩ rfl
          · subst hΩ
            rw [rngD_length, List.length_nil, Nat.zero_add] at hl2
            walk_at "pl"
            refine ⟨by omega, by omega, ?_⟩
            refine compL_intsX (fun _ => True) (fun n => 0 ≤ n ∧ n ≤ 4) (fun Ω'' => Ω'' = oset Ω1 a (.lst ((n :: ms).map D.int))) (fun x Ω3 R Z hx hΩ hk => ?_) _ [] _ rfl (fun _ _ => True.intro) (by rw [rngD_length]; simp only [List.length_nil]; omega) (by simp) (fun steps Ω3 hl3 hm3 hΩ => ?_)
            · subst hΩ
              simp only [wipeA, aYes]
              walk_at "pl"
              refine ⟨p, 3, rfl, ho2, by omega, by omega, fun q q0 q1 => ?_⟩
              walk_at "pl"
              refine ⟨p, 3, rfl, ho2, by omega, by omega, fun q' q0' q1' => ?_⟩
              have e1 : 0 ≤ q * q' := Int.mul_nonneg q0 q0'
              have e2 : q * q' ≤ 2 * 2 := Int.mul_le_mul (by omega) (by omega) q0' (by decide)
              walk_at "pl"
              exact ⟨mulok_l (by omega) (by omega), hk _ _ ⟨by omega, by omega⟩ rfl⟩
            · subst hΩ
              rw [rngD_length, List.length_nil, Nat.zero_add] at hl3
              refine ⟨M_lr3 p Ω1, ?_, ?_⟩
              · walk_at "pl"
                have fin : ∀ ms' : List Int, ms'.length = ms.length → (∀ x ∈ ms', 1 ≤ x ∧ x ≤ 60) → (ring = [] → ms' ≠ [] → ∀ q, ms'.getLast? = some q → 2 ≤ q) → M_lr3 p Ω1 [some (.o p), some (.int m), some (.o a), some (.int s'), some (.lst (ring.map D.int)), some (.lst (steps.map D.int)), none] (oset Ω1 a (.lst ((n :: ms').map D.int))) := fun ms' e1 e2 e3 => by
                  obtain ⟨g1, g2⟩ := ru_good (n := n) (ms := ms') (ring := ring) (steps := steps) (by omega) (by omega) (by omega) n9 e2 hm2 hm3 e3
                  exact ⟨m, s', a, _, ring, steps, g1, g2, ha, rfl, rfl⟩
                refine ite2 (fun e => ite2 (fun e2 => ?_) (fun e2 => ?_)) (fun e => ?_)
                · have hne : ms ≠ [] := fun z => by subst z; simp at hl; omega
                  rw [← List.map_cons (f := D.int), List.getLast?_map, last_cons hne]
                  cases hq : ms.getLast? with
                  | none => exact absurd (List.getLast?_eq_none_iff.mp hq) hne
                  | some q =>
                    refine ⟨_, rfl, _, rfl, ite2 (fun e3 => ?_) (fun e3 => ?_)⟩
                    · refine ⟨_, ix_l (by omega), ?_⟩
                      have hset : ((n :: ms).map D.int).set ((ms.map D.int).length + 1 - 1) (.int 2) = (n :: ms.set (ms.length - 1) 2).map D.int := by
                        have hpos : 0 < ms.length := List.length_pos_iff.mpr hne
                        rw [List.length_map, Nat.add_sub_cancel]
                        obtain ⟨k, hk⟩ : ∃ k, ms.length = k + 1 := ⟨ms.length - 1, by omega⟩
                        rw [hk, List.map_cons, List.set_cons_succ, Nat.add_sub_cancel, List.map_cons, List.map_set]
                      rw [hset]
                      refine fin _ (by rw [List.length_set]) (fun x hx => ?_) (fun _ hne' q' hq' => (tail_set fun x hx => (hm x hx).1).2 hne' q' hq')
                      rcases List.mem_or_eq_of_mem_set hx with h' | h'
                      · exact hm x h'
                      · omega
                    · exact fin ms rfl hm fun _ _ q' hq' => by
                        rw [hq] at hq'
                        cases hq'
                        have := hm q (List.mem_of_getLast? hq)
                        omega
                · exact fin ms rfl hm fun _ hne _ _ => absurd (List.length_pos_iff.mpr hne) (by omega)
                · exact fin ms rfl hm fun z _ _ _ => by
                    rw [z] at hl2
                    simp at hl2
                    omega
              · rintro ρ Ω4 ⟨m, s', a, ps, ring, steps, hg, hsm, ha, rfl, rfl⟩
                walk_at "pl"
                refine ⟨by decide, k ps ring steps _ hg hsm fun b hb => oset_ne fun e => hb (by rw [e]; exact ha)⟩
theorem told_part {C : CT} {Ω : Om} {p : Addr} {r : R} {S : List Addr} (h : RdO C Ω p r S) : ∃ c fs, Ω p = some (.obj c fs) ∧ ("part" : Str) ∉ fs.map (·.1) ∧ ("took" : Str) ∉ fs.map (·.1) ∧ c ∈ C.cls r.kd ∧ c ∈ [C.c_Fixed, C.c_Fraction, C.c_Root, C.c_Ruled, C.c_Four, C.c_Eight] := by
  obtain ⟨c, fs, ho, hm, hc⟩ := h.obj
  refine ⟨c, fs, ho, hm _ (.inr (.inl rfl)), hm _ (.inr (.inr rfl)), hc, ?_⟩
  revert hc
  cases r.kd <;> intro z <;> simp only [CT.cls, List.mem_cons, List.not_mem_nil, or_false] at z ⊢
  · exact .inl z
  · rcases z with z | z | z
    · exact .inr (.inl z)
    · exact .inr (.inr (.inl z))
    · exact .inr (.inr (.inr (.inl z)))
  · exact .inr (.inr (.inr (.inr (.inl z))))
  · exact .inr (.inr (.inr (.inr (.inr z))))
theorem fEq_bl {neg : Bool} {x y : Bool} {Ω : Om} {Q : AQ} (k : Q (.bl (if neg then !decide (x = y) else decide (x = y))) Ω) : fEq neg (.bl x) (.bl y) Ω Q := by
  refine ⟨.bool x, .bool y, rfl, rfl, ?_, ?_, ?_⟩
  · cases x <;> decide +kernel
  · cases y <;> decide +kernel
  · have e : PyData.eqv (.bool x) (.bool y) = decide (x = y) := by cases x <;> cases y <;> first | rfl | (simp [PyData.eqv]; done) | (simp only [PyData.eqv]; decide)
    rw [e]
    exact k
def F_gf : AF := fun ds Ω Q _ => ∃ (a b : Ans) (n : Nat), ds = [a.d, b.d, .int n] ∧ a.stp = true ∧ b.stp = true ∧ Q (.bl (gfB a b n)) Ω
theorem c_greater_first (T : Txt K mg C) : Clb P w K mg base ca 1 "greater_first" F_gf := by
  refine clb T.d_greater_first sc_greater_first (fun ds Ω Q E h => ?_) (fun f cdv A outer s H E hr => ⟨_, _, (ass_cons (as_if (at_eqS (ae_ix (ae_var 0) ae_int) ae_str) (ass_one (as_set 3 sc_greater_first.nd ae_bl)) (ass_one (as_if (at_eqS (ae_ix (ae_var 1) ae_int) ae_str) (ass_one (as_set 3 sc_greater_first.nd ae_bl)) (ass_one (as_set 3 sc_greater_first.nd (ae_gt (ae_ix (ae_var 0) ae_int) (ae_ix (ae_var 1) ae_int)))))))
      (ass_one (as_ret (ae_eqD hr.units (ae_var 3) (ae_eqI (ae_mod (ae_var 2) ae_int) ae_int))))), fun ds Ω Qa Ea h => ?_⟩)
  · obtain ⟨_, _, _, rfl, _⟩ := h
    rfl
  · obtain ⟨a, b, n, rfl, ha, hb, k⟩ := h
    have hmod : (decide ((n : Int).fmod 2 = 0)) = decide (n % 2 = 0) := by
      have : (n : Int).fmod 2 = (n : Int) % 2 := Int.fmod_eq_emod_of_nonneg _ (by decide)
      rw [this]
      by_cases h : n % 2 = 0
      · rw [decide_eq_true h, decide_eq_true (by omega)]
      · rw [decide_eq_false h, decide_eq_false (by omega)]
    cases a with
    | waits => cases ha
    | none => cases ha
    | fin =>
      simp only [Ans.d]
      walk_at "pl"
      refine ⟨by decide, ?_⟩
      rw [hmod]
      refine fEq_bl ?_
      cases b with
      | waits => cases hb
      | none => cases hb
      | fin => exact k
      | part y => exact k
    | part x =>
      cases b with
      | waits => cases hb
      | none => cases hb
      | fin =>
        simp only [Ans.d]
        walk_at "pl"
        refine ⟨by decide, ?_⟩
        rw [hmod]
        exact fEq_bl k
      | part y =>
        simp only [Ans.d]
        walk_at "pl"
        refine ⟨by decide, ?_⟩
        rw [hmod]
        exact fEq_bl k
theorem fits_stp {n : Nat} {a : Ans} : D.fits (n + 2) a.d = true := by
  have h1 : (PyData.str "part").canLay0 = true := by decide +kernel
  have h2 : (PyData.str "end").canLay0 = true := by decide +kernel
  have h3 : (PyData.str "waits").canLay0 = true := by decide +kernel
  cases a <;> simp only [Ans.d, D.fits, D.fitsAll, h1, h2, h3, Bool.and_true]
theorem ne_ans {a b : Ans} (ha : a.stp = true) (hb : b.stp = true) {Ω : Om} {Q : AQ} (k1 : a = b → Q (.bl false) Ω) (k2 : a ≠ b → Q (.bl true) Ω) : fEq true a.d b.d Ω Q := by
  by_cases e : a = b
  · subst e
    exact fEq_refl (fits_stp (n := 58)) (k1 rfl)
  · have h1 : (PyData.str "part").canLay0 = true := by decide +kernel
    have hp : ∀ q : Int, SeqAt.shaped (.tuple [.str "part", .int q]) = true := fun q => by
      unfold SeqAt.shaped
      simp only [PyData.canLay0, PyData.canLayAll0] at h1 ⊢
      simp [h1, PyData.depth, PyData.depthAll]
    have he : SeqAt.shaped (.tuple [.str "end"]) = true := by decide +kernel
    cases a with
    | waits => cases ha
    | none => cases ha
    | fin =>
      cases b with
      | waits => cases hb
      | none => cases hb
      | fin => exact absurd rfl e
      | part y =>
        refine ⟨.tuple [.str "end"], .tuple [.str "part", .int y], rfl, rfl, he, hp y, ?_⟩
        have e2 : PyData.eqv (.tuple [.str "end"]) (.tuple [.str "part", .int y]) = false := by
          first | (simp [PyData.eqv, PyData.eqvAll]; done) | (simp only [PyData.eqv, PyData.eqvAll]; decide)
        rw [e2]
        exact k2 e
    | part x =>
      cases b with
      | waits => cases hb
      | none => cases hb
      | fin =>
        refine ⟨.tuple [.str "part", .int x], .tuple [.str "end"], rfl, rfl, hp x, he, ?_⟩
        have e2 : PyData.eqv (.tuple [.str "part", .int x]) (.tuple [.str "end"]) = false := by
          first | (simp [PyData.eqv, PyData.eqvAll]; done) | (simp only [PyData.eqv, PyData.eqvAll]; decide)
        rw [e2]
        exact k2 e
      | part y =>
        refine ⟨.tuple [.str "part", .int x], .tuple [.str "part", .int y], rfl, rfl, hp x, hp y, ?_⟩
        have e3 : x ≠ y := fun z => e (by rw [z])
        have e2 : PyData.eqv (.tuple [.str "part", .int x]) (.tuple [.str "part", .int y]) = false := by
          simp [PyData.eqv, PyData.eqvAll, e3]
        rw [e2]
        exact k2 e
theorem ans_head {x : Ans} (h : x.stp = true) : ∃ (xs : List D) (t : Str), x.d = .tup xs ∧ xs[0]? = some (.str t) ∧ t ≠ "waits" ∧ (t = "end" ↔ x = .fin) := by
  cases x with
  | part q => exact ⟨_, _, rfl, rfl, by decide, by constructor <;> intro z <;> revert z <;> simp only [reduceCtorEq] <;> decide⟩
  | fin => exact ⟨_, _, rfl, rfl, by decide, by constructor <;> intro z <;> rfl⟩
  | waits => cases h
  | none => cases h
theorem ok_stp {C : CT} {x : Ans} (h : x.stp = true) {Q : AQ} {E : Value → Om → Prop} {Ω : Om} : x.ok C Q E Ω = Q x.d Ω := by
  cases x with
  | part q => rfl
  | fin => rfl
  | waits => rfl
  | none => cases h
def F_rb (C : CT) (L : Nat) : AF := fun ds Ω Q E => ∃ (p q : Addr) (r s : R) (S1 S2 : List Addr) (most : Int) (d : Nat) (w : Wd), ds = [.o p, .o q, .int most] ∧ r.lv ≤ L ∧ s.lv ≤ L ∧ RdO C Ω p r S1 ∧ RdO C Ω q s S2 ∧ (∀ b ∈ S1, b ∉ S2) ∧ Bes most d 0 r s w ∧
  ∀ Ω' : Om, (∀ b, b ∉ S1 → b ∉ S2 → Ω b ≠ none → Ω' b = Ω b) → w.ok C Q E Ω'
def I_rb (C : CT) (L : Nat) (Ω0 : Om) (S1 S2 : List Addr) (p q : Addr) (most : Int) (w : Wd) : Nat → En → Om → Prop := fun d ρ Ω => ∃ (n : Nat) (r s : R) (A B : List Addr) (z4 z5 z6 : Option D), r.lv ≤ L ∧ s.lv ≤ L ∧ Two C Ω0 S1 S2 Ω p r A q s B ∧ Bes most d n r s w ∧
  ρ = [some (.o p), some (.o q), some (.int most), some (.int n), z4, z5, z6]
theorem c_read_beside (T : Txt K mg C) {L : Nat} (tl : Tolds P w K mg base ca C L) (tk : Tooks P w K mg base ca C (L + 3)) : Clb P w K mg base ca (L + 4) "read_beside" (F_rb C L) := by
  refine clb T.d_read_beside sc_read_beside (fun ds Ω Q E h => ?_) (fun f cdv A outer s H E hr => ⟨_, _, (ass_cons (as_set 3 sc_read_beside.nd ae_int)
      (ass_one (as_while (passes_of rfl) (at_val ae_bl) (ass_cons (as_set 4 sc_read_beside.nd (ae_lstO aa_nil))
      (ass_cons (as_for (passes_of rfl) rfl (ae_lst (aa_cons (ae_var 0) (aa_cons (ae_var 1) aa_nil))) (ag_name (i := 5) sc_read_beside.nd rfl (Or.inl rfl)) (ass_cons (as_set 6 sc_read_beside.nd (ae_meth (k := (L+3)) hr (takes_of rfl rfl rfl rfl) (by omega) (ae_var 5) (aa_cons (ae_sub (ae_sub (ae_var 2) (ae_meth0 (k := (L+3)) hr (takes_of rfl rfl rfl rfl) (by omega) (ae_var 0))) (ae_meth0 (k := (L+3)) hr (takes_of rfl rfl rfl rfl) (by omega) (ae_var 1))) aa_nil)))
      (ass_cons (as_if (at_eqS (ae_ix (ae_var 6) ae_int) ae_str) (ass_one (as_ret ae_str)) ass_nil)
      (ass_one (as_expr (ae_app (ae_var 4) (ae_var 6)))))))
      (ass_cons (as_if (at_neD hr.units (ae_ix (ae_var 4) ae_int) (ae_ix (ae_var 4) ae_int)) (ass_one (as_ret (ae_ix (ae_lst (aa_cons ae_str (aa_cons ae_str aa_nil))) (ae_intB rfl T.b_int (ae_call (c_greater_first T) hr (takes_of rfl rfl rfl rfl) (by omega) (aa_cons (ae_ix (ae_var 4) ae_int) (aa_cons (ae_ix (ae_var 4) ae_int) (aa_cons (ae_var 3) aa_nil)))))))) ass_nil)
      (ass_cons (as_if (at_eqS (ae_ix (ae_ix (ae_var 4) ae_int) ae_int) ae_str) (ass_one (as_ret ae_str)) ass_nil)
      (ass_one (as_set 3 sc_read_beside.nd (ae_add (ae_var 3) ae_int)))))))))), fun ds Ω Qa Ea h => ?_⟩)
  · obtain ⟨_, _, _, _, _, _, _, _, _, rfl, _⟩ := h
    rfl
  · obtain ⟨p, q, r, s, S1, S2, most, d, w, rfl, hl1, hl2, hr1, hr2, hdj, hB, k⟩ := h
    walk_at "pl"
    refine ⟨I_rb C L Ω S1 S2 p q most w, ⟨d, 0, r, s, S1, S2, none, none, none, hl1, hl2, .start hr1 hr2 hdj, hB, rfl⟩, ?_⟩
    rintro d ρ Ω1 ⟨n, r, s, A, B, z4, z5, z6, hl1, hl2, t, hB, rfl⟩
    walk_at "pl"
    refine ⟨by decide, fun a ha => ⟨by decide, ?_⟩⟩
    have haA : a ∉ A := fun z => t.r1.there a z ha
    have haB : a ∉ B := fun z => t.r2.there a z ha
    have t2 : Two C Ω S1 S2 (oset Ω1 a (.lst [])) p r A q s B := t.set haA haB (t.old ha)
    have hoa : oset Ω1 a (.lst []) a = some (.lst []) := oset_same
    have hold := t.old ha
    generalize oset Ω1 a (.lst []) = Ω2 at t2 hoa ⊢
    obtain ⟨i, r1, m1, x, hx, hor⟩ := hB.first
    simp only [forL]
    walk_at "pl"
    obtain ⟨c, fs, ho, hpt, _, _, hc⟩ := told_part t2.r1
    refine ⟨c, fs, ho, hpt, F_part C L, m_part T tl c hc, ?_⟩
    refine took_in tk (Nat.le_trans hl1 (Nat.le_add_right _ _)) t2.r1 _ _ ?_
    refine ⟨_, rfl, ?_⟩
    refine took_in tk (Nat.le_trans hl2 (Nat.le_add_right _ _)) t2.r2 _ _ ?_
    refine ⟨_, rfl, p, r, A, i, _, r1, m1, x, rfl, hl1, t2.r1, hx, fun Ω3 A' h1 k1 k2 => ?_⟩
    have t3 := t2.fst h1 k1 k2
    have ha' : a ∉ A' := fun z => by
      rcases k2 a z with w | w
      · exact haA w
      · rw [hoa] at w; cases w
    have hoa3 : Ω3 a = some (.lst []) := (k1 a haA (by rw [hoa]; simp)).trans hoa
    have hl1' := Nat.le_trans hx.lv hl1
    rcases hor with ⟨rfl, rfl⟩ | ⟨rfl, rfl⟩ | ⟨hxs, j, s1, m2, y, hy, hor⟩
    · simp only [Ans.ok, Ans.d]
      walk_at "pl"
      exact k _ t3.fr
    · simp only [Ans.ok]
      exact k _ t3.fr
    obtain ⟨xs, w0, ex, hx0, hxw, hxe⟩ := ans_head hxs
    rw [ok_stp hxs]
    refine ⟨xs, by rw [ex]; rfl, _, hx0, w0, rfl, ?_⟩
    rw [if_neg hxw]
    refine ⟨⟨a, _, rfl, hoa3⟩, _, hoa3, by decide, ?_⟩
    have t4 : Two C Ω S1 S2 (oset Ω3 a (.lst ([] ++ [x.d]))) p r1 A' q s B := t3.set ha' haB hold
    have hoa4 : oset Ω3 a (.lst ([] ++ [x.d])) a = some (.lst [x.d]) := oset_same
    generalize oset Ω3 a (.lst ([] ++ [x.d])) = Ω4 at t4 hoa4 ⊢
    obtain ⟨c, fs, ho, hpt, _, _, hc⟩ := told_part t4.r2
    refine ⟨c, fs, ho, hpt, F_part C L, m_part T tl c hc, ?_⟩
    refine took_in tk (Nat.le_trans hl1' (Nat.le_add_right _ _)) t4.r1 _ _ ?_
    refine ⟨_, rfl, ?_⟩
    refine took_in tk (Nat.le_trans hl2 (Nat.le_add_right _ _)) t4.r2 _ _ ?_
    refine ⟨_, rfl, q, s, B, j, _, s1, m2, y, rfl, hl2, t4.r2, hy, fun Ω5 B' h2 k3 k4 => ?_⟩
    have t5 := t4.snd h2 k3 k4
    have hb' : a ∉ B' := fun z => by
      rcases k4 a z with w | w
      · exact haB w
      · rw [hoa4] at w; cases w
    have hoa5 : Ω5 a = some (.lst [x.d]) := (k3 a haB (by rw [hoa4]; simp)).trans hoa4
    have hl2' := Nat.le_trans hy.lv hl2
    rcases hor with ⟨rfl, rfl⟩ | ⟨rfl, rfl⟩ | ⟨hys, hor⟩
    · simp only [Ans.ok, Ans.d]
      walk_at "pl"
      exact k _ t5.fr
    · simp only [Ans.ok]
      exact k _ t5.fr
    obtain ⟨ys, w1, ey, hy0, hyw, hye⟩ := ans_head hys
    rw [ok_stp hys]
    refine ⟨ys, by rw [ey]; rfl, _, hy0, w1, rfl, ?_⟩
    rw [if_neg hyw]
    refine ⟨⟨a, _, rfl, hoa5⟩, _, hoa5, by show 1 < _; rw [sizeLine_eq]; decide, ?_⟩
    have t6 : Two C Ω S1 S2 (oset Ω5 a (.lst ([x.d] ++ [y.d]))) p r1 A' q s1 B' := t5.set ha' hb' hold
    have hoa6 : oset Ω5 a (.lst ([x.d] ++ [y.d])) a = some (.lst [x.d, y.d]) := oset_same
    generalize oset Ω5 a (.lst ([x.d] ++ [y.d])) = Ω6 at t6 hoa6 ⊢
    have hseq : (D.o a).seq Ω6 = some [x.d, y.d] := by simp only [D.seq, hoa6]
    rcases hor with ⟨hne, rfl⟩ | ⟨rfl, rfl, rfl⟩ | ⟨v, d', rfl, rfl, rfl, hB2⟩
    · refine ⟨_, rfl, _, rfl, ne_ans hxs hys (fun e => absurd e hne) fun _ => ⟨true, rfl, ?_⟩⟩
      rw [if_pos rfl]
      refine ⟨by decide, _, hseq, _, rfl, _, hseq, _, rfl, x, y, n, rfl, hxs, hys, gfB x y n, rfl, ?_⟩
      have kk := k _ t6.fr
      cases hg : gfB x y n with
      | true =>
        rw [hg] at kk
        exact ⟨_, rfl, kk⟩
      | false =>
        rw [hg] at kk
        exact ⟨_, rfl, kk⟩
    · refine ⟨_, rfl, _, rfl, ne_ans rfl rfl (fun _ => ⟨false, rfl, ?_⟩) fun e => absurd rfl e⟩
      rw [if_neg (by decide)]
      refine ⟨_, hseq, _, rfl, ?_⟩
      simp only [Ans.d]
      walk_at "pl"
      exact k _ t6.fr
    · refine ⟨_, rfl, _, rfl, ne_ans rfl rfl (fun _ => ⟨false, rfl, ?_⟩) fun e => absurd rfl e⟩
      rw [if_neg (by decide)]
      refine ⟨_, hseq, _, rfl, ?_⟩
      simp only [Ans.d]
      walk_at "pl"
      rw [if_neg (by decide)]
      exact ⟨d', Nat.lt_succ_self _, n + 1, r1, s1, A', B', _, _, _, hl1', hl2', t6, hB2, by rw [Int.natCast_add]; rfl⟩
theorem c_rb33 (T : Txt K mg C) : Clb P w K mg base ca 37 "read_beside" (F_rb C 33) := c_read_beside T (tolds T (by decide)) (tooks T (by decide))
def F_cmp (C : CT) : AF := fun ds Ω Q E => ∃ (t1 t2 : Tr) (most : Int), ds = [t1.d, t2.d, .int most] ∧ t1.good 5 ∧ t2.good 5 ∧ ∀ r s, Opened t1 r → Opened t2 s → ∃ d w, Bes most d 0 r s w ∧ ∀ Ω' : Om, (∀ b, Ω b ≠ none → Ω' b = Ω b) → w.ok C Q E Ω'
theorem c_compared (T : Txt K mg C) : Clb P w K mg base ca 38 "compared" (F_cmp C) := by
  refine clb T.d_compared sc_compared (fun ds Ω Q E h => ?_) (fun f cdv A outer s H E hr => ⟨_, _, (ass_cons (as_set 3 sc_compared.nd (ae_call (c_readerG T) hr (takes_of rfl rfl rfl rfl) (by omega) (aa_cons (ae_var 0) aa_nil)))
      (ass_one (as_ret (ae_call (c_rb33 T) hr (takes_of rfl rfl rfl rfl) (by omega) (aa_cons (ae_var 3) (aa_cons (ae_call (c_readerG T) hr (takes_of rfl rfl rfl rfl) (by omega) (aa_cons (ae_var 1) aa_nil)) (aa_cons (ae_var 2) aa_nil))))))), fun ds Ω Qa Ea h => ?_⟩)
  · obtain ⟨_, _, _, rfl, _⟩ := h
    rfl
  · obtain ⟨t1, t2, most, rfl, hg1, hg2, k⟩ := h
    walk_at "pl"
    refine .inl ⟨t1, rfl, hg1, fun r p Ω1 S1 ho1 hr1 hf1 hs1 => ?_⟩
    walk_at "pl"
    refine .inl ⟨t2, rfl, hg2, fun s q Ω2 S2 ho2 hr2 hf2 hs2 => ?_⟩
    obtain ⟨d, w, hB, kk⟩ := k r s ho1 ho2
    have h1 : ∀ b ∈ S1, Ω2 b = Ω1 b := fun b hb => hs2 b (hr1.there b hb)
    refine ⟨p, q, r, s, S1, S2, most, d, w, rfl, Nat.le_trans (opened_lv 5 t1 r hg1 ho1) (by decide), Nat.le_trans (opened_lv 5 t2 s hg2 ho2) (by decide), hr1.keep h1, hr2, fun b hb hb2 => hr1.there b hb (hf2 b hb2), hB, fun Ω' hf => ?_⟩
    have k2 := kk Ω' fun b hb => by
      have e1 := hs1 b hb
      have e2 := hs2 b (by rw [e1]; exact hb)
      rw [hf b (fun z => hb (hf1 b z)) (fun z => hb (by rw [← e1]; exact hf2 b z)) (by rw [e2, e1]; exact hb), e2, e1]
    cases w <;> exact k2
def Hw.okO (C : CT) (h : Hw) (a : Addr) (Q : AQ) (E : Value → Om → Prop) (Ω : Om) : Prop := match h with
  | .none => E (.ref C.c_NoValue) Ω
  | h => Q (.tup [.o a, .str h.s]) Ω
def F_fq (C : CT) (L : Nat) : AF := fun ds Ω Q E => ∃ (tr : Tr) (many : Nat) (most : Int), ds = [tr.d, .int many, .int most] ∧ tr.good 5 ∧ many ≤ 10000 ∧ ∀ r, Opened tr r → ∃ l h, Fst most many r l h ∧ ∀ (a : Addr) (Ω' : Om), Ω a = none → (h ≠ .none → Ω' a = some (.lst (l.map D.int))) → (∀ b, Ω b ≠ none → Ω' b = Ω b) → h.okO C a Q E Ω'
def I_fq (C : CT) (Ω0 : Om) (tr : Tr) (many : Nat) (most : Int) (p a : Addr) (l : List Int) (h : Hw) : Nat → En → Om → Prop := fun n ρ Ω => ∃ (r : R) (S : List Addr) (acc l' : List Int) (z : Option D), r.lv ≤ 33 ∧ RdO C Ω p r S ∧ (∀ b ∈ S, Ω0 b = none) ∧ (∀ b, Ω0 b ≠ none → Ω b = Ω0 b) ∧ a ∉ S ∧ Ω0 a = none ∧ Ω a = some (.lst (acc.map D.int)) ∧ Fst most n r l' h ∧ acc ++ l' = l ∧ acc.length + n = many ∧
  ρ = [some tr.d, some (.int many), some (.int most), some (.o p), some (.o a), z]
theorem c_first_parts (T : Txt K mg C) : Clb P w K mg base ca 38 "first_parts" (F_fq C 33) := by
  have tl : Tolds P w K mg base ca C 33 := tolds T (by decide)
  have tk : Tooks P w K mg base ca C 36 := tooks T (by decide)
  refine clb T.d_first_parts sc_first_parts (fun ds Ω Q E h => ?_) (fun f cdv A outer s H E hr => ⟨_, _, (ass_cons (as_set 3 sc_first_parts.nd (ae_call (c_readerG T) hr (takes_of rfl rfl rfl rfl) (by omega) (aa_cons (ae_var 0) aa_nil)))
      (ass_cons (as_set 4 sc_first_parts.nd (ae_lstO aa_nil))
      (ass_cons (as_while (passes_of rfl) (at_lt (ae_len rfl T.b_len (ae_var 4)) (ae_var 1)) (ass_cons (as_set 5 sc_first_parts.nd (ae_meth (k := 36) hr (takes_of rfl rfl rfl rfl) (by omega) (ae_var 3) (aa_cons (ae_sub (ae_var 2) (ae_meth0 (k := 36) hr (takes_of rfl rfl rfl rfl) (by omega) (ae_var 3))) aa_nil)))
      (ass_cons (as_if (at_neS (ae_ix (ae_var 5) ae_int) ae_str) (ass_one (as_ret (ae_tup (aa_cons (ae_var 4) (aa_cons (ae_ix (ae_var 5) ae_int) aa_nil))))) ass_nil)
      (ass_one (as_expr (ae_app (ae_var 4) (ae_ix (ae_var 5) ae_int)))))))
      (ass_one (as_ret (ae_tup (aa_cons (ae_var 4) (aa_cons ae_str aa_nil)))))))), fun ds Ω Qa Ea h => ?_⟩)
  · obtain ⟨_, _, _, rfl, _⟩ := h
    rfl
  · obtain ⟨tr, many, most, rfl, hg, hmany, k⟩ := h
    walk_at "pl"
    refine .inl ⟨tr, rfl, hg, fun r p Ω1 S1 ho1 hr1 hf1 hs1 => ?_⟩
    obtain ⟨l, h, hF, kk⟩ := k r ho1
    walk_at "pl"
    refine ⟨by decide, fun a ha => ?_⟩
    have ha0 : Ω a = none := by
      cases e : Ω a with
      | none => rfl
      | some o => have := hs1 a (by rw [e]; simp); rw [ha, e] at this; cases this
    refine ⟨I_fq C Ω tr many most p a l h, ⟨many, r, S1, [], l, none, Nat.le_trans (opened_lv 5 tr r hg ho1) (by decide), hr1.keep fun b hb => oset_ne fun e => hr1.there b hb (by rw [e]; exact ha), hf1, fun b hb => ?_, fun z => hr1.there a z ha, ha0, oset_same, hF, rfl, by simp, rfl⟩, ?_⟩
    · rw [oset_ne (fun e => hb (by rw [e]; exact ha0))]
      exact hs1 b hb
    rintro n ρ Ω2 ⟨r, S, acc, l', z, hlv, hR, hf, hs, haS, ha0, hoa, hF, hac, hlen, rfl⟩
    walk_at "pl"
    have hseq : (D.o a).seq Ω2 = some (acc.map D.int) := by simp only [D.seq, hoa]
    refine ⟨_, hseq, ?_⟩
    rw [List.length_map]
    have fro : ∀ {Ω3 : Om}, (∀ b, b ∉ S → Ω2 b ≠ none → Ω3 b = Ω2 b) → ∀ b, Ω b ≠ none → Ω3 b = Ω b := fun {Ω3} h b hb => by
      rw [h b (fun z => hb (hf b z)) (by rw [hs b hb]; exact hb), hs b hb]
    cases hF with
    | stop =>
      rw [if_neg (by omega)]
      rw [List.append_nil] at hac
      subst hac
      exact ⟨by decide, kk a Ω2 ha0 (fun _ => hoa) (fro fun _ _ _ => rfl)⟩
    | @part i n _ r1 m1 q l2 _ t0 hF =>
      rw [if_pos (by omega)]
      obtain ⟨c, fs, ho, hpt, _, _, hc⟩ := told_part hR
      refine ⟨c, fs, ho, hpt, F_part C 33, m_part T tl c hc, ?_⟩
      refine took_in tk (Nat.le_trans hlv (by decide)) hR _ _ ?_
      refine ⟨_, rfl, p, r, S, _, _, r1, m1, _, rfl, hlv, hR, t0, fun Ω3 S' h1 k1 k2 => ?_⟩
      have hoa3 : Ω3 a = some (.lst (acc.map D.int)) := (k1 a haS (by rw [hoa]; simp)).trans hoa
      have haS' : a ∉ S' := fun z => by
        rcases k2 a z with w | w
        · exact haS w
        · rw [hoa] at w; cases w
      simp only [Ans.ok, Ans.d]
      walk_at "pl"
      rw [if_neg (by decide)]
      refine ⟨⟨a, _, rfl, hoa3⟩, _, hoa3, by rw [List.length_map]; exact small1000' (by omega), n, Nat.lt_succ_self _, r1, S', acc ++ [q], l2, _, Nat.le_trans t0.lv hlv, h1.keep fun b hb => oset_ne fun e => haS' (by rw [← e]; exact hb), fun b hb => ?_, fun b hb => ?_, haS', ha0, by rw [oset_same, List.map_append]; rfl, hF, by rw [List.append_assoc]; exact hac, by rw [List.length_append, List.length_singleton]; omega, rfl⟩
      · rcases k2 b hb with z | z
        · exact hf b z
        · cases e : Ω b with
          | none => rfl
          | some o => have := hs b (by rw [e]; simp); rw [z, e] at this; cases this
      · rw [oset_ne (fun e => hb (by rw [e]; exact ha0)), k1 b (fun z => hb (hf b z)) (by rw [hs b hb]; exact hb), hs b hb]
    | @fin i n _ r1 m1 t0 =>
      rw [if_pos (by omega)]
      obtain ⟨c, fs, ho, hpt, _, _, hc⟩ := told_part hR
      refine ⟨c, fs, ho, hpt, F_part C 33, m_part T tl c hc, ?_⟩
      refine took_in tk (Nat.le_trans hlv (by decide)) hR _ _ ?_
      refine ⟨_, rfl, p, r, S, _, _, r1, m1, _, rfl, hlv, hR, t0, fun Ω3 S' h1 k1 k2 => ?_⟩
      have hoa3 : Ω3 a = some (.lst (acc.map D.int)) := (k1 a haS (by rw [hoa]; simp)).trans hoa
      rw [List.append_nil] at hac
      subst hac
      simp only [Ans.ok, Ans.d]
      walk_at "pl"
      rw [if_pos (by decide)]
      exact ⟨by decide, kk a Ω3 ha0 (fun _ => hoa3) (fro k1)⟩
    | @waits i n _ r1 m1 t0 =>
      rw [if_pos (by omega)]
      obtain ⟨c, fs, ho, hpt, _, _, hc⟩ := told_part hR
      refine ⟨c, fs, ho, hpt, F_part C 33, m_part T tl c hc, ?_⟩
      refine took_in tk (Nat.le_trans hlv (by decide)) hR _ _ ?_
      refine ⟨_, rfl, p, r, S, _, _, r1, m1, _, rfl, hlv, hR, t0, fun Ω3 S' h1 k1 k2 => ?_⟩
      have hoa3 : Ω3 a = some (.lst (acc.map D.int)) := (k1 a haS (by rw [hoa]; simp)).trans hoa
      rw [List.append_nil] at hac
      subst hac
      simp only [Ans.ok, Ans.d]
      walk_at "pl"
      rw [if_pos (by decide)]
      exact ⟨by decide, kk a Ω3 ha0 (fun _ => hoa3) (fro k1)⟩
    | @none i n _ r1 m1 t0 =>
      rw [if_pos (by omega)]
      obtain ⟨c, fs, ho, hpt, _, _, hc⟩ := told_part hR
      refine ⟨c, fs, ho, hpt, F_part C 33, m_part T tl c hc, ?_⟩
      refine took_in tk (Nat.le_trans hlv (by decide)) hR _ _ ?_
      refine ⟨_, rfl, p, r, S, _, _, r1, m1, _, rfl, hlv, hR, t0, fun Ω3 S' h1 k1 k2 => ?_⟩
      simp only [Ans.ok]
      exact kk a Ω3 ha0 (fun z => absurd rfl z) fun b hb => by rw [k1 b (fun z => hb (hf b z)) (by rw [hs b hb]; exact hb), hs b hb]
def fD (x : Int × Int) : D := .tup [.int x.1, .int x.2]
def F_ord : AF := fun ds Ω Q _ => ∃ x y : Int × Int, ds = [fD x, fD y] ∧ Bi x.1 ∧ Bi x.2 ∧ Bi y.1 ∧ Bi y.2 ∧ Q (.lst ((inOrd x y).map fD)) Ω
theorem c_in_order (T : Txt K mg C) : Clb P w K mg base ca 1 "in_order" F_ord := by
  refine clb T.d_in_order sc_in_order (fun ds Ω Q E h => ?_) (fun f cdv A outer s H E hr => ⟨_, _, (ass_cons (as_if (at_lt (ae_mul (ae_ix (ae_var 0) ae_int) (ae_ix (ae_var 1) ae_int)) (ae_mul (ae_ix (ae_var 1) ae_int) (ae_ix (ae_var 0) ae_int))) (ass_one (as_ret (ae_lst (aa_cons (ae_var 0) (aa_cons (ae_var 1) aa_nil))))) ass_nil)
      (ass_one (as_ret (ae_lst (aa_cons (ae_var 1) (aa_cons (ae_var 0) aa_nil)))))), fun ds Ω Qa Ea h => ?_⟩)
  · obtain ⟨_, _, rfl, _⟩ := h
    rfl
  · obtain ⟨x, y, rfl, h1, h2, h3, h4, k⟩ := h
    unfold fD
    walk_at "pl"
    refine ⟨bg_mul h1 h4, bg_mul h3 h2, ?_⟩
    unfold inOrd at k
    by_cases h : x.1 * y.2 < y.1 * x.2
    · rw [if_pos h] at k ⊢
      exact ⟨by decide, k⟩
    · rw [if_neg h] at k ⊢
      exact ⟨by decide, k⟩
def osz (o : Option (List (Int × Int))) (C : CT) (Q : AQ) (E : Value → Om → Prop) (Ω : Om) : Prop := match o with
  | none => E (.ref C.c_NoValue) Ω
  | some l => Q (.lst (l.map fD)) Ω
def F_bes (C : CT) : AF := fun ds Ω Q E => ∃ (tr : Tr) (size most : Int), ds = [tr.d, .int size, .int most] ∧ tr.good 5 ∧ ∀ r, Opened tr r → ∃ d o, Nea size most d r (1, 0) (0, 1) false o ∧ ∀ Ω' : Om, (∀ b, Ω b ≠ none → Ω' b = Ω b) → osz o C Q E Ω'
def I_bes (C : CT) (Ω0 : Om) (tr : Tr) (size most : Int) (p : Addr) (o : Option (List (Int × Int))) : Nat → En → Om → Prop := fun d ρ Ω => ∃ (r : R) (S : List Addr) (x y : Int × Int) (g : Bool) (z7 z8 z9 : Option D), r.lv ≤ 33 ∧ RdO C Ω p r S ∧ (∀ b ∈ S, Ω0 b = none) ∧ (∀ b, Ω0 b ≠ none → Ω b = Ω0 b) ∧ Nea size most d r x y g o ∧
  ρ = [some tr.d, some (.int size), some (.int most), some (.o p), some (fD x), some (fD y), some (.bl g), z7, z8, z9]
theorem c_beside (T : Txt K mg C) : Clb P w K mg base ca 38 "beside" (F_bes C) := by
  have tl : Tolds P w K mg base ca C 33 := tolds T (by decide)
  have tk : Tooks P w K mg base ca C 36 := tooks T (by decide)
  refine clb T.d_beside sc_beside (fun ds Ω Q E h => ?_) (fun f cdv A outer s H E hr => ⟨_, _, (ass_cons (as_set 3 sc_beside.nd (ae_call (c_readerG T) hr (takes_of rfl rfl rfl rfl) (by omega) (aa_cons (ae_var 0) aa_nil)))
      (ass_cons (as_set 4 sc_beside.nd (ae_tup (aa_cons ae_int (aa_cons ae_int aa_nil))))
      (ass_cons (as_set 5 sc_beside.nd (ae_tup (aa_cons ae_int (aa_cons ae_int aa_nil))))
      (ass_cons (as_set 6 sc_beside.nd ae_bl)
      (ass_one (as_while (passes_of rfl) (at_val ae_bl) (ass_cons (as_set 7 sc_beside.nd (ae_meth (k := 36) hr (takes_of rfl rfl rfl rfl) (by omega) (ae_var 3) (aa_cons (ae_sub (ae_var 2) (ae_meth0 (k := 36) hr (takes_of rfl rfl rfl rfl) (by omega) (ae_var 3))) aa_nil)))
      (ass_cons (as_if (at_eqS (ae_ix (ae_var 7) ae_int) ae_str) (ass_one (as_ret (ae_lst aa_nil))) ass_nil)
      (ass_cons (as_if (at_eqS (ae_ix (ae_var 7) ae_int) ae_str) (ass_one (as_ret (ae_lst (aa_cons (ae_var 5) aa_nil)))) ass_nil)
      (ass_cons (as_set 8 sc_beside.nd (ae_ix (ae_var 7) ae_int))
      (ass_one (as_if (at_not (at_val (ae_var 6))) (ass_cons (as_set 5 sc_beside.nd (ae_tup (aa_cons (ae_var 8) (aa_cons ae_int aa_nil))))
      (ass_one (as_set 6 sc_beside.nd ae_bl))) (ass_one (as_if (at_le (ae_add (ae_ix (ae_var 4) ae_int) (ae_mul (ae_var 8) (ae_ix (ae_var 5) ae_int))) (ae_var 1)) (ass_one (as_par 4 5 rfl sc_beside.nd (ae_var 5) (ae_tup (aa_cons (ae_add (ae_ix (ae_var 4) ae_int) (ae_mul (ae_var 8) (ae_ix (ae_var 5) ae_int))) (aa_cons (ae_add (ae_ix (ae_var 4) ae_int) (ae_mul (ae_var 8) (ae_ix (ae_var 5) ae_int))) aa_nil))))) (ass_cons (as_set 9 sc_beside.nd (ae_fdv (div_of hr) (ae_sub (ae_var 1) (ae_ix (ae_var 4) ae_int)) (ae_ix (ae_var 5) ae_int)))
      (ass_one (as_ret (ae_call (c_in_order T) hr (takes_of rfl rfl rfl rfl) (by omega) (aa_cons (ae_var 5) (aa_cons (ae_tup (aa_cons (ae_add (ae_ix (ae_var 4) ae_int) (ae_mul (ae_var 9) (ae_ix (ae_var 5) ae_int))) (aa_cons (ae_add (ae_ix (ae_var 4) ae_int) (ae_mul (ae_var 9) (ae_ix (ae_var 5) ae_int))) aa_nil))) aa_nil)))))))))))))))))))), fun ds Ω Qa Ea h => ?_⟩)
  · obtain ⟨_, _, _, rfl, _⟩ := h
    rfl
  · obtain ⟨tr, size, most, rfl, hg, k⟩ := h
    walk_at "pl"
    refine .inl ⟨tr, rfl, hg, fun r p Ω1 S1 ho1 hr1 hf1 hs1 => ?_⟩
    obtain ⟨d, o, hN, kk⟩ := k r ho1
    walk_at "pl"
    refine ⟨by decide, by decide, I_bes C Ω tr size most p o, ⟨d, r, S1, (1, 0), (0, 1), false, none, none, none, Nat.le_trans (opened_lv 5 tr r hg ho1) (by decide), hr1, hf1, hs1, hN, rfl⟩, ?_⟩
    rintro d ρ Ω2 ⟨r, S, x, y, g, z7, z8, z9, hlv, hR, hf, hs, hN, rfl⟩
    walk_at "pl"
    obtain ⟨c, fs, ho, hpt, _, _, hc⟩ := told_part hR
    refine ⟨c, fs, ho, hpt, F_part C 33, m_part T tl c hc, ?_⟩
    refine took_in tk (Nat.le_trans hlv (by decide)) hR _ _ ?_
    refine ⟨_, rfl, ?_⟩
    have old : ∀ {Ω3 : Om} {S' : List Addr}, (∀ b, b ∉ S → Ω2 b ≠ none → Ω3 b = Ω2 b) → (∀ b ∈ S', b ∈ S ∨ Ω2 b = none) → (∀ b ∈ S', Ω b = none) ∧ ∀ b, Ω b ≠ none → Ω3 b = Ω b := fun {Ω3 S'} k1 k2 => by
      refine ⟨fun b hb => ?_, fun b hb => ?_⟩
      · rcases k2 b hb with z | z
        · exact hf b z
        · cases e : Ω b with
          | none => rfl
          | some o => have := hs b (by rw [e]; simp); rw [z, e] at this; cases this
      · rw [k1 b (fun z => hb (hf b z)) (by rw [hs b hb]; exact hb), hs b hb]
    cases hN with
    | waits t0 =>
      refine ⟨p, r, S, _, _, _, _, _, rfl, hlv, hR, t0, fun Ω3 S' h1 k1 k2 => ?_⟩
      simp only [Ans.ok, Ans.d]
      walk_at "pl"
      exact ⟨by decide, kk Ω3 (old k1 k2).2⟩
    | none t0 =>
      refine ⟨p, r, S, _, _, _, _, _, rfl, hlv, hR, t0, fun Ω3 S' h1 k1 k2 => ?_⟩
      simp only [Ans.ok]
      exact kk Ω3 (old k1 k2).2
    | fin t0 =>
      refine ⟨p, r, S, _, _, _, _, _, rfl, hlv, hR, t0, fun Ω3 S' h1 k1 k2 => ?_⟩
      simp only [Ans.ok, Ans.d]
      walk_at "pl"
      rw [if_neg (by decide)]
      exact ⟨by decide, kk Ω3 (old k1 k2).2⟩
    | first t0 hN =>
      refine ⟨p, r, S, _, _, _, _, _, rfl, hlv, hR, t0, fun Ω3 S' h1 k1 k2 => ?_⟩
      simp only [Ans.ok, Ans.d]
      walk_at "pl"
      rw [if_neg (by decide), if_neg (by decide)]
      rw [if_pos (by decide)]
      exact ⟨by decide, _, Nat.lt_succ_self _, _, S', _, _, _, _, _, _, Nat.le_trans t0.lv hlv, h1, (old k1 k2).1, (old k1 k2).2, hN, rfl⟩
    | next t0 b1 b2 b3 hle hN =>
      refine ⟨p, r, S, _, _, _, _, _, rfl, hlv, hR, t0, fun Ω3 S' h1 k1 k2 => ?_⟩
      simp only [Ans.ok, Ans.d]
      unfold fD
      walk_at "pl"
      rw [if_neg (by decide), if_neg (by decide)]
      rw [if_neg (by decide)]
      rw [if_pos hle]
      exact ⟨bg_mul b1 b3, bg_mul b1 b2, bg_mul b1 b3, by decide, _, Nat.lt_succ_self _, _, S', _, _, _, _, _, _, Nat.le_trans t0.lv hlv, h1, (old k1 k2).1, (old k1 k2).2, hN, rfl⟩
    | stop t0 b1 b2 b3 b4 b5 b6 b7 hlt =>
      refine ⟨p, r, S, _, _, _, _, _, rfl, hlv, hR, t0, fun Ω3 S' h1 k1 k2 => ?_⟩
      simp only [Ans.ok, Ans.d]
      unfold fD
      walk_at "pl"
      rw [if_neg (by decide), if_neg (by decide)]
      rw [if_neg (by decide)]
      rw [if_neg (by omega)]
      exact ⟨bg_mul b1 b3, bg_nopy b4 b3, bg_mul b5 b2, bg_mul b5 b3, by decide, y, _, rfl, b2, b3, b6, b7, kk Ω3 (old k1 k2).2⟩
theorem fits_fD {n : Nat} (x : Int × Int) : D.fits (n + 2) (fD x) = true := by simp only [fD, D.fits, D.fitsAll, Bool.and_true]
theorem eq_fD {x y : Int × Int} {Ω : Om} {Q : AQ} (k1 : x = y → Q (.bl true) Ω) (k2 : x ≠ y → Q (.bl false) Ω) : fEq false (fD x) (fD y) Ω Q := by
  by_cases e : x = y
  · subst e
    exact fEq_refl (fits_fD (n := 58) x) (k1 rfl)
  · have sh : ∀ a b : Int, SeqAt.shaped (.tuple [.int a, .int b]) = true := fun a b => by
      unfold SeqAt.shaped
      simp [PyData.canLay0, PyData.canLayAll0, PyData.depth, PyData.depthAll]
    refine ⟨.tuple [.int x.1, .int x.2], .tuple [.int y.1, .int y.2], rfl, rfl, sh _ _, sh _ _, ?_⟩
    have e2 : PyData.eqv (.tuple [.int x.1, .int x.2]) (.tuple [.int y.1, .int y.2]) = false := by
      obtain ⟨x1, x2⟩ := x
      obtain ⟨y1, y2⟩ := y
      simp only [Prod.mk.injEq] at e
      simp [PyData.eqv, PyData.eqvAll]
      omega
    rw [if_neg (by decide), e2]
    exact k2 e
theorem eq_nilF {l : List (Int × Int)} {Ω : Om} {Q : AQ} (k : Q (.bl (decide (l = []))) Ω) : fEq false (.lst (l.map fD)) (.lst []) Ω Q := by
  obtain ⟨p, e1, e2, e3, e4⟩ := D.fits_py 5 (.lst (l.map fD)) (by simp only [D.fits]; exact fits_map (fun x => fits_fD x) l)
  have s : SeqAt.shaped p = true := by
    unfold SeqAt.shaped
    rw [e3, Bool.true_and]
    exact decide_eq_true (by omega)
  refine ⟨p, .list [], e1, rfl, s, by decide +kernel, ?_⟩
  have e : PyData.eqv p (.list []) = decide (l = []) := by
    simp only [D.py, Option.map_eq_some_iff] at e1
    obtain ⟨ps, h, rfl⟩ := e1
    cases l with
    | nil => simp only [List.map_nil, D.pys, Option.some.injEq] at h; subst h; simp [PyData.eqv, PyData.eqvAll]
    | cons x r =>
      simp only [List.map_cons, D.pys] at h
      cases q : D.py (fD x) with
      | none => rw [q] at h; cases h
      | some v =>
        rw [q] at h
        cases q2 : D.pys (r.map fD) with
        | none => rw [q2] at h; cases h
        | some vs => rw [q2] at h; simp only [Option.some.injEq] at h; subst h; simp [PyData.eqv, PyData.eqvAll]
  rw [if_neg (by decide), e]
  exact k
def onr (v : Option (Option (Int × Int))) (C : CT) (Q : AQ) (E : Value → Om → Prop) (Ω : Om) : Prop := match v with
  | none => E (.ref C.c_NoValue) Ω
  | some none => Q .non Ω
  | some (some x) => Q (fD x) Ω
def F_near (C : CT) : AF := fun ds Ω Q E => ∃ (tr : Tr) (size most : Int), ds = [tr.d, .int size, .int most] ∧ tr.good 5 ∧ ∀ r, Opened tr r → ∃ d o v, Nea size most d r (1, 0) (0, 1) false o ∧ Nst most r o v ∧ ∀ Ω' : Om, (∀ b, Ω b ≠ none → Ω' b = Ω b) → onr v C Q E Ω'
theorem c_nearest (T : Txt K mg C) : Clb P w K mg base ca 39 "nearest" (F_near C) := by
  refine clb T.d_nearest sc_nearest (fun ds Ω Q E h => ?_) (fun f cdv A outer s H E hr => ⟨_, _, (ass_cons (as_set 3 sc_nearest.nd (ae_call (c_beside T) hr (takes_of rfl rfl rfl rfl) (by omega) (aa_cons (ae_var 0) (aa_cons (ae_var 1) (aa_cons (ae_var 2) aa_nil)))))
      (ass_cons (as_if (at_eqD hr.units (ae_var 3) (ae_lst aa_nil)) (ass_one (as_ret ae_non)) ass_nil)
      (ass_cons (as_set 4 sc_nearest.nd (ae_ix (ae_var 3) ae_int))
      (ass_cons (as_set 5 sc_nearest.nd (ae_ix (ae_var 3) (ae_neg ae_int)))
      (ass_cons (as_if (at_eqD hr.units (ae_var 4) (ae_var 5)) (ass_one (as_ret (ae_var 4))) ass_nil)
      (ass_cons (as_set 6 sc_nearest.nd (ae_make (mk_Fixed T) hr (takes_of rfl rfl rfl rfl) (by omega) (aa_cons (ae_add (ae_mul (ae_ix (ae_var 4) ae_int) (ae_ix (ae_var 5) ae_int)) (ae_mul (ae_ix (ae_var 5) ae_int) (ae_ix (ae_var 4) ae_int))) (aa_cons (ae_mul (ae_mul ae_int (ae_ix (ae_var 4) ae_int)) (ae_ix (ae_var 5) ae_int)) (aa_cons ae_bl aa_nil)))))
      (ass_cons (as_set 7 sc_nearest.nd (ae_call (c_rb33 T) hr (takes_of rfl rfl rfl rfl) (by omega) (aa_cons (ae_call (c_readerG T) hr (takes_of rfl rfl rfl rfl) (by omega) (aa_cons (ae_var 0) aa_nil)) (aa_cons (ae_var 6) (aa_cons (ae_var 2) aa_nil)))))
      (ass_cons (as_if (at_eqS (ae_var 7) ae_str) (ass_one (as_ret ae_non)) ass_nil)
      (ass_cons (as_if (AWt.at_ (aw_or (AWt.at_ (aw_and (at_eqS (ae_var 7) ae_str) (aw_and1 (at_le (ae_ix (ae_var 4) ae_int) (ae_ix (ae_var 5) ae_int))))) (aw_or1 (at_eqS (ae_var 7) ae_str)))) (ass_one (as_ret (ae_var 4))) ass_nil)
      (ass_one (as_ret (ae_var 5)))))))))))), fun ds Ω Qa Ea h => ?_⟩)
  · obtain ⟨_, _, _, rfl, _⟩ := h
    rfl
  · obtain ⟨tr, size, most, rfl, hg, k⟩ := h
    walk_at "pl"
    refine ⟨tr, size, most, rfl, hg, fun r ho => ?_⟩
    obtain ⟨d, o, v, hN, hS, kk⟩ := k r ho
    refine ⟨d, o, hN, fun Ω1 hf1 => ?_⟩
    cases hS with
    | none => exact kk Ω1 hf1
    | nil =>
      simp only [osz]
      walk_at "pl"
      refine ⟨by decide, eq_nilF (l := []) ⟨_, rfl, ?_⟩⟩
      rw [if_pos (by decide)]
      exact kk Ω1 hf1
    | @one x =>
      simp only [osz]
      walk_at "pl"
      refine ⟨by decide, eq_nilF (l := [x]) ⟨_, rfl, ?_⟩⟩
      rw [if_neg (by simp)]
      refine ⟨_, rfl, eq_fD (fun _ => ⟨_, rfl, ?_⟩) fun e => absurd rfl e⟩
      rw [if_pos rfl]
      exact kk Ω1 hf1
    | @eq x =>
      simp only [osz]
      walk_at "pl"
      refine ⟨by decide, eq_nilF (l := [x, x]) ⟨_, rfl, ?_⟩⟩
      rw [if_neg (by simp)]
      refine ⟨_, rfl, eq_fD (fun _ => ⟨_, rfl, ?_⟩) fun e => absurd rfl e⟩
      rw [if_pos rfl]
      exact kk Ω1 hf1
    | @two x y d2 w hne b1 b2 b3 b4 b5 hB =>
      simp only [osz]
      walk_at "pl"
      refine ⟨by decide, eq_nilF (l := [x, y]) ⟨_, rfl, ?_⟩⟩
      rw [if_neg (by simp)]
      refine ⟨_, rfl, eq_fD (fun e => absurd e hne) fun _ => ⟨_, rfl, ?_⟩⟩
      rw [if_neg (by decide)]
      unfold fD
      walk_at "pl"
      refine ⟨_, rfl, _, rfl, _, rfl, bg_mul b1 b4, _, rfl, _, rfl, _, rfl, bg_mul b3 b2, mulok_l (by decide) (by decide), _, rfl, _, rfl, _, rfl, bg_mul b5 b4, fun pm hpm => ?_⟩
      refine ⟨pm, _, _, false, rfl, oset_same, rfl, .inl ⟨tr, rfl, hg, fun r' p2 Ω3 S ho2 hr2 hf2 hs2 => ?_⟩⟩
      obtain rfl := ho.unique ho2
      rw [oset_oset] at hf2 hs2
      have hfx : Ω3 pm = some (oFixed C (x.1 * y.2 + y.1 * x.2) (2 * x.2 * y.2) false) := (hs2 pm (by rw [oset_same]; simp)).trans oset_same
      have hpS : pm ∉ S := fun z => by have := hf2 pm z; rw [oset_same] at this; cases this
      have h0 : Ω pm = none := by
        cases e : Ω pm with
        | none => rfl
        | some o => have := hf1 pm (by rw [e]; simp); rw [hpm, e] at this; cases this
      refine ⟨p2, pm, r, _, S, [pm], most, d2, w, rfl, Nat.le_trans (opened_lv 5 tr r hg ho) (by decide), by show 1 ≤ 33; decide, hr2, .fixed hfx, fun b hb hb2 => hpS (by rw [List.mem_singleton] at hb2; rw [← hb2]; exact hb), hB, fun Ω4 hf4 => ?_⟩
      have k4 := kk Ω4 fun b hb => by
        have e1 : b ≠ pm := fun e => hb (by rw [e]; exact h0)
        have e2 := hf1 b hb
        have e3 : Ω3 b = Ω1 b := by rw [hs2 b (by rw [oset_ne e1, e2]; exact hb), oset_ne e1]
        have e4 : b ∉ S := fun z => hb (by have := hf2 b z; rw [oset_ne e1, e2] at this; exact this)
        rw [hf4 b e4 (by simpa using e1) (by rw [e3, e2]; exact hb), e3, e2]
      cases w with
      | none => exact k4
      | waits =>
        simp only [Wd.ok, Wd.s]
        walk_at "pl"
        exact k4
      | less =>
        simp only [Wd.ok, Wd.s]
        walk_at "pl"
        rw [if_neg (by decide), if_neg (by decide)]
        exact k4
      | more =>
        simp only [Wd.ok, Wd.s]
        walk_at "pl"
        rw [if_neg (by decide), if_neg (by decide), if_neg (by decide)]
        exact k4
      | same =>
        simp only [Wd.ok, Wd.s]
        walk_at "pl"
        rw [if_neg (by decide)]
        refine ⟨_, rfl, _, rfl, _, rfl, ?_⟩
        by_cases h : x.2 ≤ y.2
        · rw [if_pos h]
          rw [show pick .same x y = some (some x) by unfold pick; rw [if_pos h]] at k4
          exact k4
        · rw [if_neg h, if_neg (by decide)]
          rw [show pick .same x y = some (some y) by unfold pick; rw [if_neg h]] at k4
          exact k4
def Ans.e : Ans → D
  | .none => .tup [.str "none"]
  | a => a.d
def pr (t b : Int) : D := .tup [.int t, .int b]
def F_corners : AF := fun ds Ω Q _ => (∃ a b c d : Int, ds = [dtup [a, b, c, d]] ∧ Q (.lst ([(a, c), (a + b, c + d)].map cD)) Ω) ∨ ∃ a b c d e f g h : Int, ds = [dtup [a, b, c, d, e, f, g, h]] ∧ Q (.lst ([(a, e), (a + b, e + f), (a + c, e + g), (a + b + c + d, e + f + g + h)].map cD)) Ω
theorem c_law_corners (T : Txt K mg C) : Clb P w K mg base ca 1 "_law_corners" F_corners := by
  refine clb T.d_law_corners sc__law_corners (fun ds Ω Q E h => ?_) (fun f cdv A outer s H E hr => ⟨_, _, (ass_cons (as_if (at_eqI (ae_len rfl T.b_len (ae_var 0)) ae_int) (ass_cons (as_asg (ae_var 0) (ag_tup (n := 4) rfl (ags_cons (i := 1) sc__law_corners.nd rfl (Or.inl rfl) (ags_cons (i := 2) sc__law_corners.nd rfl (Or.inl rfl) (ags_cons (i := 3) sc__law_corners.nd rfl (Or.inl rfl) (ags_cons (i := 4) sc__law_corners.nd rfl (Or.inl rfl) ags_nil))))))
      (ass_one (as_ret (ae_lst (aa_cons (ae_tup (aa_cons (ae_var 1) (aa_cons (ae_var 3) aa_nil))) (aa_cons (ae_tup (aa_cons (ae_add (ae_var 1) (ae_var 2)) (aa_cons (ae_add (ae_var 3) (ae_var 4)) aa_nil))) aa_nil)))))) ass_nil)
      (ass_cons (as_asg (ae_var 0) (ag_tup (n := 8) rfl (ags_cons (i := 1) sc__law_corners.nd rfl (Or.inl rfl) (ags_cons (i := 2) sc__law_corners.nd rfl (Or.inl rfl) (ags_cons (i := 3) sc__law_corners.nd rfl (Or.inl rfl) (ags_cons (i := 4) sc__law_corners.nd rfl (Or.inl rfl) (ags_cons (i := 5) sc__law_corners.nd rfl (Or.inl rfl) (ags_cons (i := 6) sc__law_corners.nd rfl (Or.inl rfl) (ags_cons (i := 7) sc__law_corners.nd rfl (Or.inl rfl) (ags_cons (i := 8) sc__law_corners.nd rfl (Or.inl rfl) ags_nil))))))))))
      (ass_one (as_ret (ae_lst (aa_cons (ae_tup (aa_cons (ae_var 1) (aa_cons (ae_var 5) aa_nil))) (aa_cons (ae_tup (aa_cons (ae_add (ae_var 1) (ae_var 2)) (aa_cons (ae_add (ae_var 5) (ae_var 6)) aa_nil))) (aa_cons (ae_tup (aa_cons (ae_add (ae_var 1) (ae_var 3)) (aa_cons (ae_add (ae_var 5) (ae_var 7)) aa_nil))) (aa_cons (ae_tup (aa_cons (ae_add (ae_add (ae_add (ae_var 1) (ae_var 2)) (ae_var 3)) (ae_var 4)) (aa_cons (ae_add (ae_add (ae_add (ae_var 5) (ae_var 6)) (ae_var 7)) (ae_var 8)) aa_nil))) aa_nil))))))))), fun ds Ω Qa Ea h => ?_⟩)
  · rcases h with ⟨_, _, _, _, rfl, _⟩ | ⟨_, _, _, _, _, _, _, _, rfl, _⟩ <;> rfl
  · rcases h with ⟨a, b, c, d, rfl, k⟩ | ⟨a, b, c, d, e, f', g, h', rfl, k⟩
    · unfold dtup
      walk_at "pl"
      exact ⟨by decide, by decide, by decide, k⟩
    · unfold dtup
      walk_at "pl"
      rw [if_neg (by decide)]
      exact ⟨by decide, by decide, by decide, by decide, by decide, k⟩
def F_lawSure : AF := fun ds Ω Q _ => ∃ (c0 : Int × Int) (cs : List (Int × Int)), ds = [.lst ((c0 :: cs).map cD)] ∧ cs.length ≤ 3 ∧ (∀ c ∈ c0 :: cs, Bg c.1 ∧ Bg c.2) ∧ Q (optD (belowAll (c0 :: cs))) Ω
def P_sure (c0 : Int × Int) (cs : List (Int × Int)) (q : Int) (Ω : Om) (ρ0 : Option D → Option D → En) : List D → En → Om → Prop := fun us ρ Ω' => ∃ (dn ds : List (Int × Int)) (z1 z2 : Option D), us = ds.map cD ∧ dn ++ ds = c0 :: cs ∧ (∀ c ∈ dn, ¬ c.2.natAbs < (c.1 - q * c.2).natAbs) ∧ Ω' = Ω ∧ ρ = ρ0 z1 z2
theorem abs_nat {x : Int} : (if x < 0 then -x else x) = (x.natAbs : Int) := by split <;> omega
theorem bg_mul1 {q b : Int} (hq : Bg q) (hb : Bg b) : IntMulOk (q + 1) b := by
  have h1 : (q + 1).natAbs < 2 ^ 290402 := by
    unfold Bg at hq
    have e1 : (2 : Nat) ^ 290402 = 2 ^ 290400 * 4 := by rw [show 290402 = 290400 + 2 from rfl, Nat.pow_add]
    generalize (2 : Nat) ^ 290402 = X at e1 ⊢
    generalize (2 : Nat) ^ 290400 = Y at *
    omega
  exact mulok h1 hb (by decide)
theorem mem_snd {cs : List (Int × Int)} {n : Int} (h : n ∈ cs.map Prod.snd) : ∃ x ∈ cs, x.2 = n := List.mem_map.mp h
theorem snd_mem {cs : List (Int × Int)} {x : Int × Int} (h : x ∈ cs) : x.2 ∈ cs.map Prod.snd := List.mem_map.mpr ⟨x, h, rfl⟩
theorem c_law_sure (T : Txt K mg C) : Clb P w K mg base ca 1 "_law_sure" F_lawSure := by
  refine clb T.d_law_sure sc__law_sure (fun ds Ω Q E h => ?_) (fun f cdv A outer s H E hr => ⟨_, _, (ass_cons (as_setLc (i := 3) rfl sc__law_sure.nd rfl rfl (sw_true rfl rfl rfl (by decide +kernel)) (ae_var 0) (show BlkOk ["_law_corners_here", "_law_top", "_law_below_here", "_law_unders", "_law_part"] (defScope s__law_sure) _ [("_law_top", 1), ("_law_below_here", 2)] from blkOk_by (by decide +kernel)) (wip_tup (by decide)) (fun s1 H1 C1 cl1 fp1 => (ag_tup (n := 2) rfl (ags_cons (i := 1) sc__law_sure.nd rfl (Or.inl rfl) (ags_cons (i := 2) sc__law_sure.nd rfl (Or.inl rfl) ags_nil)))) (fun s1 H1 C1 cl1 fp1 => AE.cast (ae_var 2) (by first | (dsimp only [Blk, Cx.blk]; done) | rfl)))
      (ass_cons (as_if (AWt.at_ (aw_and (at_le (ae_min rfl T.b_min rfl (ae_var 3)) ae_int) (aw_and1 (at_ge (ae_max rfl T.b_max rfl (ae_var 3)) ae_int)))) (ass_one (as_ret ae_non)) ass_nil)
      (ass_cons (as_set 4 sc__law_sure.nd (ae_min rfl T.b_min rfl (ae_lc rfl sc__law_sure.nd (ae_var 0) (show BlkOk ["_law_corners_here", "_law_top", "_law_below_here", "_law_unders", "_law_part"] (defScope s__law_sure) _ [("_law_top", 1), ("_law_below_here", 2)] from blkOk_by (by decide +kernel)) (wip_tup (by decide)) (fun s1 H1 C1 cl1 fp1 => (ag_tup (n := 2) rfl (ags_cons (i := 1) sc__law_sure.nd rfl (Or.inl rfl) (ags_cons (i := 2) sc__law_sure.nd rfl (Or.inl rfl) ags_nil)))) (fun s1 H1 C1 cl1 fp1 => AE.cast (ae_fdv (div_blk (div_of hr)) (ae_var 1) (ae_var 2)) (by first | (dsimp only [Blk, Cx.blk]; done) | rfl)))))
      (ass_cons (as_for (passes_of rfl) rfl (ae_var 0) (ag_tup (n := 2) rfl (ags_cons (i := 1) sc__law_sure.nd rfl (Or.inl rfl) (ags_cons (i := 2) sc__law_sure.nd rfl (Or.inl rfl) ags_nil))) (ass_one (as_if (at_gt (ae_abs rfl T.b_abs (ae_sub (ae_var 1) (ae_mul (ae_var 4) (ae_var 2)))) (ae_abs rfl T.b_abs (ae_var 2))) (ass_one (as_ret ae_non)) ass_nil)))
      (ass_cons (as_if (at_eqI (ae_ix (ae_ix (ae_var 0) ae_int) ae_int) (ae_mul (ae_add (ae_var 4) ae_int) (ae_ix (ae_ix (ae_var 0) ae_int) ae_int))) (ass_one (as_ret ae_non)) ass_nil)
      (ass_one (as_ret (ae_var 4)))))))), fun ds Ω Qa Ea h => ?_⟩)
  · obtain ⟨_, _, rfl, _⟩ := h
    rfl
  · obtain ⟨c0, cs, rfl, hcs, bgs, k⟩ := h
    walk_at "pl"
    refine compL_map cD (fun x => .int x.2) (fun Ω'' => Ω'' = Ω) (c0 :: cs) [] _ rfl (by simp only [List.length_cons, List.length_nil]; omega) (fun x hx Ω1 R Z hΩ hk => ?_) (fun Ω1 hΩ => ?_)
    · subst hΩ
      simp only [wipeA, aYes, cD]
      walk_at "pl"
      exact hk _ rfl
    subst hΩ
    rw [List.nil_append]
    refine ⟨(c0 :: cs).map Prod.snd, by rw [List.map_map]; rfl, by simp, fun mn hmn hmn2 => ⟨mn, rfl, ?_⟩⟩
    have emn : ∃ x ∈ c0 :: cs, x.2 = mn := mem_snd hmn
    refine (fun (hb : (∀ x ∈ c0 :: cs, 0 < x.2 * c0.2) → _) => ite2 (fun g1 => ?_) (fun g1 => hb ?_)) (fun hpos => ?_)
    · refine ⟨(c0 :: cs).map Prod.snd, by rw [List.map_map]; rfl, by simp, fun mx hmx hmx2 => ⟨mx, rfl, ite2 (fun g2 => ?_) (fun g2 => hb ?_)⟩⟩
      · have := sureA (c0 := c0) emn (mem_snd hmx) g1 g2
        rw [this] at k
        exact k
      · exact sureB (c0 := c0) (mn := mn) (mx := mx) (fun x hx => hmn2 _ (snd_mem hx)) (fun x hx => hmx2 _ (snd_mem hx)) (by omega)
    · intro x hx
      have q1 := hmn2 x.2 (snd_mem hx)
      have q2 := hmn2 c0.2 (by simp)
      exact Int.mul_pos (by omega) (by omega)
    have hnz : ∀ x ∈ c0 :: cs, x.2 ≠ 0 := fun x hx z => by have := hpos x hx; rw [z, Int.zero_mul] at this; omega
    rw [show cD c0 :: cs.map cD = (c0 :: cs).map cD from rfl]
    refine compL_map cD (fun x => .int (x.1.fdiv x.2)) (fun Ω'' => Ω'' = _) (c0 :: cs) [] _ rfl (by simp only [List.length_cons, List.length_nil]; omega) (fun x hx Ω2 R Z hΩ hk => ?_) (fun Ω2 hΩ => ?_)
    · subst hΩ
      simp only [wipeA, aYes, cD]
      walk_at "pl"
      exact ⟨bg_nopy (hnz x hx) (bgs x hx).2, hk _ rfl⟩
    subst hΩ
    refine ⟨(c0 :: cs).map fun x => x.1.fdiv x.2, by rw [List.nil_append, List.map_map]; rfl, by simp, fun q hq1 hq2 => ?_⟩
    have hqe : ∃ x ∈ c0 :: cs, q = x.1.fdiv x.2 := by
      obtain ⟨x, hx, ex⟩ := List.mem_map.mp hq1
      exact ⟨x, hx, ex.symm⟩
    have hqm : ∀ x ∈ c0 :: cs, q ≤ x.1.fdiv x.2 := fun x hx => hq2 _ (List.mem_map.mpr ⟨x, hx, rfl⟩)
    have hqb : Bg q := by
      obtain ⟨x, hx, ex⟩ := hqe
      rw [ex]
      exact Nat.lt_of_le_of_lt fdiv_le (bgs x hx).1
    refine forL_ind (P_sure c0 cs q Ω2 fun z1 z2 => [some (.lst ((c0 :: cs).map cD)), z1, z2, some (.lst (((c0 :: cs).map fun x => D.int x.2))), some (.int q)]) ⟨[], c0 :: cs, none, none, rfl, rfl, fun _ h => (by cases h), rfl, rfl⟩ ?_ ?_
    · rintro ρ Ω3 ⟨dn, ds, z1, z2, hu, hd2, hno, rfl, rfl⟩
      have : ds = [] := by cases ds with
        | nil => rfl
        | cons _ _ => cases hu
      subst this
      rw [List.append_nil] at hd2
      subst hd2
      simp only [cD]
      walk_at "pl"
      refine ⟨_, rfl, _, rfl, _, rfl, _, rfl, _, rfl, bg_mul1 hqb (bgs c0 (by simp)).2, _, rfl, ite2 (fun g => ?_) (fun g => ?_)⟩
      · have := sureD (c0 := c0) hpos hqe hqm g
        rw [this] at k
        exact k
      · have := sureE (c0 := c0) hpos hqe hqm hno g
        rw [this] at k
        exact k
    · rintro x us ρ Ω3 De e1 ih _ _ ⟨dn, ds, z1, z2, hu, hd2, hno, rfl, rfl⟩
      cases ds with
      | nil => cases hu
      | cons x ds =>
        rw [List.map_cons, List.cons.injEq] at hu
        obtain ⟨rfl, rfl⟩ := hu
        have hx : x ∈ c0 :: cs := by rw [← hd2]; simp
        simp only [cD]
        walk_at "pl"
        rw [abs_nat, abs_nat]
        refine ⟨bg_mul hqb (bgs x hx).2, ite2 (fun g => ?_) (fun g => ?_)⟩
        · rw [e1]
          have := sureC (c0 := c0) hpos hqe hqm ⟨x, hx, by omega⟩
          rw [this] at k
          exact k
        · exact ih _ _ ⟨dn ++ [x], ds, _, _, rfl, by rw [List.append_assoc]; exact hd2, fun c hc => by
            rcases List.mem_append.mp hc with z | z
            · exact hno c z
            · rw [List.mem_singleton.mp z]; omega, rfl, rfl⟩
structure MN (m : List (Key × D)) (kd : Str) (ins n : D) (wh : Int) (tk : Addr) (r : D) (g : Bool) : Prop where
  n : valD m (.inr "numbers") = some n
  w : valD m (.inr "which") = some (.int wh)
  t : valD m (.inr "taken") = some (.o tk)
  r : valD m (.inr "rest") = some r
  g : valD m (.inr "begun") = some (.bl g)
  k : valD m (.inr "kind") = some (.str kd)
  i : valD m (.inr "inners") = some ins
  len : m.length ≤ 20
section
variable {m : List (Key × D)} {kd : Str} {ins n r : D} {wh : Int} {tk : Addr} {g : Bool}
theorem MN.setN (h : MN m kd ins n wh tk r g) (n' : D) : MN (putD m (.inr "numbers") n') kd ins n' wh tk r g :=
  ⟨by rw [valD_put, if_pos rfl], by rw [valD_put, if_neg (by decide)]; exact h.w, by rw [valD_put, if_neg (by decide)]; exact h.t, by rw [valD_put, if_neg (by decide)]; exact h.r, by rw [valD_put, if_neg (by decide)]; exact h.g, by rw [valD_put, if_neg (by decide)]; exact h.k, by rw [valD_put, if_neg (by decide)]; exact h.i, by rw [len_putD_in (by rw [h.n]; simp)]; exact h.len⟩
theorem MN.setW (h : MN m kd ins n wh tk r g) (w' : Int) : MN (putD m (.inr "which") (.int w')) kd ins n w' tk r g :=
  ⟨by rw [valD_put, if_neg (by decide)]; exact h.n, by rw [valD_put, if_pos rfl], by rw [valD_put, if_neg (by decide)]; exact h.t, by rw [valD_put, if_neg (by decide)]; exact h.r, by rw [valD_put, if_neg (by decide)]; exact h.g, by rw [valD_put, if_neg (by decide)]; exact h.k, by rw [valD_put, if_neg (by decide)]; exact h.i, by rw [len_putD_in (by rw [h.w]; simp)]; exact h.len⟩
theorem MN.setR (h : MN m kd ins n wh tk r g) (r' : D) : MN (putD m (.inr "rest") r') kd ins n wh tk r' g :=
  ⟨by rw [valD_put, if_neg (by decide)]; exact h.n, by rw [valD_put, if_neg (by decide)]; exact h.w, by rw [valD_put, if_neg (by decide)]; exact h.t, by rw [valD_put, if_pos rfl], by rw [valD_put, if_neg (by decide)]; exact h.g, by rw [valD_put, if_neg (by decide)]; exact h.k, by rw [valD_put, if_neg (by decide)]; exact h.i, by rw [len_putD_in (by rw [h.r]; simp)]; exact h.len⟩
theorem MN.setG (h : MN m kd ins n wh tk r g) (g' : Bool) : MN (putD m (.inr "begun") (.bl g')) kd ins n wh tk r g' :=
  ⟨by rw [valD_put, if_neg (by decide)]; exact h.n, by rw [valD_put, if_neg (by decide)]; exact h.w, by rw [valD_put, if_neg (by decide)]; exact h.t, by rw [valD_put, if_neg (by decide)]; exact h.r, by rw [valD_put, if_pos rfl], by rw [valD_put, if_neg (by decide)]; exact h.k, by rw [valD_put, if_neg (by decide)]; exact h.i, by rw [len_putD_in (by rw [h.g]; simp)]; exact h.len⟩
theorem MN.rest (h : MN m kd ins n wh tk r g) {m' : List (Key × D)} {r' : D} {g' : Bool} (h1 : valD m' (.inr "rest") = some r') (h2 : valD m' (.inr "begun") = some (.bl g')) (h3 : ∀ j : Str, j ≠ "rest" → j ≠ "begun" → valD m' (.inr j) = valD m (.inr j)) (h4 : m'.length ≤ 20) : MN m' kd ins n wh tk r' g' :=
  ⟨(h3 _ (by decide) (by decide)).trans h.n, (h3 _ (by decide) (by decide)).trans h.w, (h3 _ (by decide) (by decide)).trans h.t, h1, h2, (h3 _ (by decide) (by decide)).trans h.k, (h3 _ (by decide) (by decide)).trans h.i, h4⟩
end
theorem oset_id {Ω : Om} {p : Addr} {o : AO} (h : Ω p = some o) : oset Ω p o = Ω := by
  funext b
  unfold oset
  by_cases e : b = p
  · rw [if_pos e, e, h]
  · rw [if_neg e]
def F_rest : AF := fun ds Ω Q _ => ∃ (pm : Addr) (m : List (Key × D)) (t b : Int) (g : Bool) (mm mm' : Int) (t' b' : Int) (g' : Bool) (ans : Ans), ds = [.o pm] ∧ Ω pm = some (.dic m) ∧ valD m (.inr "rest") = some (pr t b) ∧ valD m (.inr "begun") = some (.bl g) ∧ m.length ≤ 20 ∧ Told 0 (.fixed t b g) mm (.fixed t' b' g') mm' ans ∧
  ∀ m' : List (Key × D), valD m' (.inr "rest") = some (pr t' b') → valD m' (.inr "begun") = some (.bl g') → (∀ j : Str, j ≠ "rest" → j ≠ "begun" → valD m' (.inr j) = valD m (.inr j)) → m'.length ≤ 20 → Q ans.e (oset Ω pm (.dic m'))
theorem inr_ne {a b : Str} (h : a ≠ b) : (Sum.inr a : Key) ≠ .inr b := fun e => h (Sum.inr.inj e)
theorem c_law_rest (T : Txt K mg C) : Clb P w K mg base ca 1 "_law_rest" F_rest := by
  refine clb T.d_law_rest sc__law_rest (fun ds Ω Q E h => ?_) (fun f cdv A outer s H E hr => ⟨_, _, (ass_cons (as_asg (ae_dget hr.units (ae_var 0) ae_str) (ag_tup (n := 2) rfl (ags_cons (i := 1) sc__law_rest.nd rfl (Or.inl rfl) (ags_cons (i := 2) sc__law_rest.nd rfl (Or.inl rfl) ags_nil))))
      (ass_cons (as_if (at_eqI (ae_var 2) ae_int) (ass_one (as_ret (ae_ix (ae_lst (aa_cons (ae_tup (aa_cons ae_str aa_nil)) (aa_cons (ae_tup (aa_cons ae_str aa_nil)) aa_nil))) (ae_intB rfl T.b_int (ae_dget hr.units (ae_var 0) ae_str))))) ass_nil)
      (ass_cons (as_set 3 sc__law_rest.nd (ae_fdv (div_of hr) (ae_var 1) (ae_var 2)))
      (ass_cons (as_dput hr.units (ae_tup (aa_cons (ae_var 2) (aa_cons (ae_sub (ae_var 1) (ae_mul (ae_var 3) (ae_var 2))) aa_nil))) (ae_var 0) ae_str)
      (ass_cons (as_dput hr.units ae_bl (ae_var 0) ae_str)
      (ass_one (as_ret (ae_tup (aa_cons ae_str (aa_cons (ae_var 3) aa_nil)))))))))), fun ds Ω Qa Ea h => ?_⟩)
  · obtain ⟨_, _, _, _, _, _, _, _, _, _, _, rfl, _⟩ := h
    rfl
  · obtain ⟨pm, m, t, b, g, mm, mm', t', b', g', ans, rfl, ho, hr, hg, hl, ht, k⟩ := h
    walk_at "pl"
    refine ⟨_, ho, _, hr, ?_⟩
    refine ⟨_, rfl, rfl, ?_⟩
    simp only [setAll]
    walk_at "pl"
    cases ht with
    | fxEnd =>
      rw [if_pos rfl]
      refine ⟨by decide, by decide, by decide, _, ho, _, hg, true, rfl, _, rfl, ?_⟩
      have := k m hr hg (fun _ _ _ => rfl) hl
      rw [oset_id ho] at this
      exact this
    | fxNo =>
      rw [if_pos rfl]
      refine ⟨by decide, by decide, by decide, _, ho, _, hg, false, rfl, _, rfl, ?_⟩
      have := k m hr hg (fun _ _ _ => rfl) hl
      rw [oset_id ho] at this
      exact this
    | fxPart hb0 hst hsb =>
      rw [if_neg hb0]
      have hq : Bg (t.fdiv b) := Nat.lt_of_le_of_lt fdiv_le (sm_bg hst)
      have l1 : (putD m (.inr "rest") (pr b (t - t.fdiv b * b))).length = m.length := len_putD_in (by rw [hr]; simp)
      have l2 : (putD (putD m (.inr "rest") (pr b (t - t.fdiv b * b))) (.inr "begun") (.bl true)).length = m.length := (len_putD_in (by rw [valD_put, if_neg (by decide), hg]; simp)).trans l1
      have := k (putD (putD m (.inr "rest") (pr b (t - t.fdiv b * b))) (.inr "begun") (.bl true)) (by rw [valD_put, if_neg (by decide), valD_put, if_pos rfl]) (by rw [valD_put, if_pos rfl]) (fun j h1 h2 => by rw [valD_put, if_neg (inr_ne h2), valD_put, if_neg (inr_ne h1)]) (by omega)
      exact ⟨bg_nopy hb0 (sm_bg hsb), bg_mul hq (sm_bg hsb), by decide, _, ho, by omega, _, rfl, by unfold pr at l1; omega, by decide, this⟩
def F_moved : AF := fun ds Ω Q _ => (∃ a b c d wh q : Int, ds = [dtup [a, b, c, d], .int wh, .int q] ∧ Sm a ∧ Sm b ∧ Sm c ∧ Sm d ∧ Sm q ∧ Q (dtup [a * q + b, a, c * q + d, c]) Ω) ∨
  ∃ (a b c d e f g h q : Int) (w : Bool), ds = [dtup [a, b, c, d, e, f, g, h], .int (bI w), .int q] ∧ Sm8 a b c d e f g h ∧ Sm q ∧ Q (dtup (cond w [a * q + b, a, c * q + d, c, e * q + f, e, g * q + h, g] [a * q + c, b * q + d, a, b, e * q + g, f * q + h, e, f])) Ω
theorem c_law_moved (T : Txt K mg C) : Clb P w K mg base ca 1 "_law_moved" F_moved := by
  refine clb T.d_law_moved sc__law_moved (fun ds Ω Q E h => ?_) (fun f cdv A outer s H E hr => ⟨_, _, (ass_cons (as_if (at_eqI (ae_len rfl T.b_len (ae_var 0)) ae_int) (ass_cons (as_asg (ae_var 0) (ag_tup (n := 4) rfl (ags_cons (i := 3) sc__law_moved.nd rfl (Or.inl rfl) (ags_cons (i := 4) sc__law_moved.nd rfl (Or.inl rfl) (ags_cons (i := 5) sc__law_moved.nd rfl (Or.inl rfl) (ags_cons (i := 6) sc__law_moved.nd rfl (Or.inl rfl) ags_nil))))))
      (ass_one (as_ret (ae_tup (aa_cons (ae_add (ae_mul (ae_var 2) (ae_var 3)) (ae_var 4)) (aa_cons (ae_var 3) (aa_cons (ae_add (ae_mul (ae_var 2) (ae_var 5)) (ae_var 6)) (aa_cons (ae_var 5) aa_nil)))))))) ass_nil)
      (ass_cons (as_asg (ae_var 0) (ag_tup (n := 8) rfl (ags_cons (i := 3) sc__law_moved.nd rfl (Or.inl rfl) (ags_cons (i := 4) sc__law_moved.nd rfl (Or.inl rfl) (ags_cons (i := 5) sc__law_moved.nd rfl (Or.inl rfl) (ags_cons (i := 6) sc__law_moved.nd rfl (Or.inl rfl) (ags_cons (i := 7) sc__law_moved.nd rfl (Or.inl rfl) (ags_cons (i := 8) sc__law_moved.nd rfl (Or.inl rfl) (ags_cons (i := 9) sc__law_moved.nd rfl (Or.inl rfl) (ags_cons (i := 10) sc__law_moved.nd rfl (Or.inl rfl) ags_nil))))))))))
      (ass_cons (as_if (at_eqI (ae_var 1) ae_int) (ass_one (as_ret (ae_tup (aa_cons (ae_add (ae_mul (ae_var 2) (ae_var 3)) (ae_var 5)) (aa_cons (ae_add (ae_mul (ae_var 2) (ae_var 4)) (ae_var 6)) (aa_cons (ae_var 3) (aa_cons (ae_var 4) (aa_cons (ae_add (ae_mul (ae_var 2) (ae_var 7)) (ae_var 9)) (aa_cons (ae_add (ae_mul (ae_var 2) (ae_var 8)) (ae_var 10)) (aa_cons (ae_var 7) (aa_cons (ae_var 8) aa_nil))))))))))) ass_nil)
      (ass_one (as_ret (ae_tup (aa_cons (ae_add (ae_mul (ae_var 2) (ae_var 3)) (ae_var 4)) (aa_cons (ae_var 3) (aa_cons (ae_add (ae_mul (ae_var 2) (ae_var 5)) (ae_var 6)) (aa_cons (ae_var 5) (aa_cons (ae_add (ae_mul (ae_var 2) (ae_var 7)) (ae_var 8)) (aa_cons (ae_var 7) (aa_cons (ae_add (ae_mul (ae_var 2) (ae_var 9)) (ae_var 10)) (aa_cons (ae_var 9) aa_nil)))))))))))))), fun ds Ω Qa Ea h => ?_⟩)
  · rcases h with ⟨_, _, _, _, _, _, rfl, _⟩ | ⟨_, _, _, _, _, _, _, _, _, _, rfl, _⟩ <;> rfl
  · rcases h with ⟨a, b, c, d, wh, q, rfl, ha, hb, hc, hd, hq, k⟩ | ⟨a, b, c, d, e, f', g, h', q, w, rfl, ⟨ha, hb, hc, hd, he, hf, hg, hh⟩, hq, k⟩
    · unfold dtup at k ⊢
      simp only [Int.mul_comm _ q] at k
      walk_at "pl"
      exact ⟨sm_mul hq ha, sm_mul hq hc, by decide, k⟩
    · unfold dtup at k ⊢
      cases w with
      | true =>
        simp only [bI, cond, Int.mul_comm _ q] at k ⊢
        walk_at "pl"
        rw [if_neg (by decide), if_neg (by decide)]
        exact ⟨sm_mul hq ha, sm_mul hq hc, sm_mul hq he, sm_mul hq hg, by decide, k⟩
      | false =>
        simp only [bI, cond, Int.mul_comm _ q] at k ⊢
        walk_at "pl"
        rw [if_neg (by decide)]
        exact ⟨sm_mul hq ha, sm_mul hq hb, sm_mul hq he, sm_mul hq hf, by decide, k⟩
def F_ended : AF := fun ds Ω Q _ => ∃ (pm : Addr) (m : List (Key × D)) (kd : Str) (ins : D) (wh : Int) (tk : Addr) (r : D) (bg : Bool), Ω pm = some (.dic m) ∧
  ((∃ a b c d w : Int, ds = [.o pm, .int w] ∧ MN m kd ins (dtup [a, b, c, d]) wh tk r bg ∧ ∀ m', MN m' kd ins (dtup [a, b, c, d]) wh tk (pr a c) bg → Q .non (oset Ω pm (.dic m'))) ∨
  ∃ (a b c d e f g h : Int) (w : Bool), ds = [.o pm, .int (bI w)] ∧ MN m kd ins (dtup [a, b, c, d, e, f, g, h]) wh tk r bg ∧ Sm8 a b c d e f g h ∧
    (a * cond w g f ≠ cond w c b * e → ∀ m', MN m' kd ins (dtup [a, cond w c b, e, cond w g f]) (1 - bI w) tk r bg → Q .non (oset Ω pm (.dic m'))) ∧
    (a * cond w g f = cond w c b * e → ∀ t0 b0 m', (t0, b0) = (if a = 0 ∧ e = 0 then (cond w c b, cond w g f) else (a, e)) → MN m' kd ins (dtup [a, b, c, d, e, f, g, h]) wh tk (pr t0 b0) bg → Q .non (oset Ω pm (.dic m'))))
theorem c_law_ended (T : Txt K mg C) : Clb P w K mg base ca 1 "_law_ended" F_ended := by
  refine clb T.d_law_ended sc__law_ended (fun ds Ω Q E h => ?_) (fun f cdv A outer s H E hr => ⟨_, _, (ass_cons (as_set 2 sc__law_ended.nd (ae_dget hr.units (ae_var 0) ae_str))
      (ass_cons (as_if (at_eqI (ae_len rfl T.b_len (ae_var 2)) ae_int) (ass_cons (as_dput hr.units (ae_tup (aa_cons (ae_ix (ae_var 2) ae_int) (aa_cons (ae_ix (ae_var 2) ae_int) aa_nil))) (ae_var 0) ae_str)
      (ass_one as_retN)) ass_nil)
      (ass_cons (as_set 3 sc__law_ended.nd (ae_ix (ae_lst (aa_cons (ae_tup (aa_cons (ae_ix (ae_var 2) ae_int) (aa_cons (ae_ix (ae_var 2) ae_int) (aa_cons (ae_ix (ae_var 2) ae_int) (aa_cons (ae_ix (ae_var 2) ae_int) aa_nil))))) (aa_cons (ae_tup (aa_cons (ae_ix (ae_var 2) ae_int) (aa_cons (ae_ix (ae_var 2) ae_int) (aa_cons (ae_ix (ae_var 2) ae_int) (aa_cons (ae_ix (ae_var 2) ae_int) aa_nil))))) aa_nil))) (ae_var 1)))
      (ass_one (as_if (at_neI (ae_mul (ae_ix (ae_var 3) ae_int) (ae_ix (ae_var 3) ae_int)) (ae_mul (ae_ix (ae_var 3) ae_int) (ae_ix (ae_var 3) ae_int))) (ass_cons (as_dput hr.units (ae_var 3) (ae_var 0) ae_str)
      (ass_one (as_dput hr.units (ae_sub ae_int (ae_var 1)) (ae_var 0) ae_str))) (ass_one (as_if (AWt.at_ (aw_and (at_eqI (ae_ix (ae_var 3) ae_int) ae_int) (aw_and1 (at_eqI (ae_ix (ae_var 3) ae_int) ae_int)))) (ass_one (as_dput hr.units (ae_tup (aa_cons (ae_ix (ae_var 3) ae_int) (aa_cons (ae_ix (ae_var 3) ae_int) aa_nil))) (ae_var 0) ae_str)) (ass_one (as_dput hr.units (ae_tup (aa_cons (ae_ix (ae_var 3) ae_int) (aa_cons (ae_ix (ae_var 3) ae_int) aa_nil))) (ae_var 0) ae_str))))))))), fun ds Ω Qa Ea h => ?_⟩)
  · rcases h with ⟨_, _, _, _, _, _, _, _, _, ⟨_, _, _, _, _, rfl, _⟩ | ⟨_, _, _, _, _, _, _, _, _, rfl, _⟩⟩ <;> rfl
  · obtain ⟨pm, m, kd, ins, wh, tk, r, bg, ho, ⟨a, b, c, d, w0, rfl, hM, k⟩ | ⟨a, b, c, d, e, f', g, h', w0, rfl, hM, ⟨ha, hb, hc, hd, he, hf, hg, hh⟩, k1, k2⟩⟩ := h
    · have kk := k _ (hM.setR (pr a c))
      have hn := hM.n
      unfold dtup at hn
      simp only [List.map_cons, List.map_nil] at hn
      unfold pr at kk
      walk_at "pl"
      refine ⟨_, ho, _, hn, ?_⟩
      walk_at "pl"
      rw [if_pos (by decide)]
      exact ⟨by decide, _, ho, by have := hM.len; omega, kk⟩
    · have hn := hM.n
      unfold dtup at hn
      simp only [List.map_cons, List.map_nil] at hn
      walk_at "pl"
      refine ⟨_, ho, _, hn, ?_⟩
      walk_at "pl"
      rw [if_neg (by decide)]
      refine ⟨_, rfl, _, rfl, by decide, _, rfl, _, rfl, by decide, by decide, ?_⟩
      have ml : ∀ {x : D}, (putD m (.inr "numbers") x).length ≤ 20 := fun {x} => (hM.setN x).len
      have mr : m.length < 1000 := by have := hM.len; omega
      cases w0 with
      | false =>
        simp only [bI, cond] at k1 k2 ⊢
        refine ⟨_, rfl, ?_⟩
        walk_at "pl"
        refine ⟨sm_mul ha hf, sm_mul hb he, ?_⟩
        by_cases hdet : a * f' = b * e
        · rw [if_neg (by simpa using hdet)]
          by_cases a0 : a = 0
          · rw [if_pos a0]
            by_cases e0 : e = 0
            · rw [if_pos e0]
              exact ⟨by decide, _, ho, mr, k2 hdet b f' _ (by rw [if_pos ⟨a0, e0⟩]) (hM.setR (pr b f'))⟩
            · rw [if_neg e0]
              exact ⟨by decide, _, ho, mr, k2 hdet a e _ (by rw [if_neg (fun z => e0 z.2)]) (hM.setR (pr a e))⟩
          · rw [if_neg a0]
            exact ⟨by decide, _, ho, mr, k2 hdet a e _ (by rw [if_neg (fun z => a0 z.1)]) (hM.setR (pr a e))⟩
        · rw [if_pos (by simpa using hdet)]
          exact ⟨_, ho, mr, _, rfl, by have := ml (x := .tup [.int a, .int b, .int e, .int f']); omega, k1 hdet _ ((hM.setN (dtup [a, b, e, f'])).setW _)⟩
      | true =>
        simp only [bI, cond] at k1 k2 ⊢
        refine ⟨_, rfl, ?_⟩
        walk_at "pl"
        refine ⟨sm_mul ha hg, sm_mul hc he, ?_⟩
        by_cases hdet : a * g = c * e
        · rw [if_neg (by simpa using hdet)]
          by_cases a0 : a = 0
          · rw [if_pos a0]
            by_cases e0 : e = 0
            · rw [if_pos e0]
              exact ⟨by decide, _, ho, mr, k2 hdet c g _ (by rw [if_pos ⟨a0, e0⟩]) (hM.setR (pr c g))⟩
            · rw [if_neg e0]
              exact ⟨by decide, _, ho, mr, k2 hdet a e _ (by rw [if_neg (fun z => e0 z.2)]) (hM.setR (pr a e))⟩
          · rw [if_neg a0]
            exact ⟨by decide, _, ho, mr, k2 hdet a e _ (by rw [if_neg (fun z => a0 z.1)]) (hM.setR (pr a e))⟩
        · rw [if_pos (by simpa using hdet)]
          exact ⟨_, ho, mr, _, rfl, by have := ml (x := .tup [.int a, .int c, .int e, .int g]); omega, k1 hdet _ ((hM.setN (dtup [a, c, e, g])).setW _)⟩
structure ML (m : List (Key × D)) (kd : Str) (tr : D) (tk : Addr) (r : D) : Prop where
  k : valD m (.inr "kind") = some (.str kd)
  e : valD m (.inr "tree") = some tr
  t : valD m (.inr "taken") = some (.o tk)
  r : valD m (.inr "rest") = some r
  len : m.length ≤ 20
theorem ML.setR {m : List (Key × D)} {kd : Str} {tr : D} {tk : Addr} {r : D} (h : ML m kd tr tk r) (r' : D) : ML (putD m (.inr "rest") r') kd tr tk r' :=
  ⟨by rw [valD_put, if_neg (by decide)]; exact h.k, by rw [valD_put, if_neg (by decide)]; exact h.e, by rw [valD_put, if_neg (by decide)]; exact h.t, by rw [valD_put, if_pos rfl], by rw [len_putD_in (by rw [h.r]; simp)]; exact h.len⟩
theorem ML.setL {m : List (Key × D)} {kd : Str} {tr : D} {tk : Addr} {r l : D} (h : ML m kd tr tk r) (hl : valD m (.inr "left") = some l) (l' : D) : ML (putD m (.inr "left") l') kd tr tk r :=
  ⟨by rw [valD_put, if_neg (by decide)]; exact h.k, by rw [valD_put, if_neg (by decide)]; exact h.e, by rw [valD_put, if_neg (by decide)]; exact h.t, by rw [valD_put, if_neg (by decide)]; exact h.r, by rw [len_putD_in (by rw [hl]; simp)]; exact h.len⟩
abbrev Cx4 := Option (Bool × Addr × R × List Addr)
def insF (cx : Cx4) (q : Addr) : D := match cx with
  | none => .lst [.o q]
  | some (w, q', _, _) => .lst (cond w [.o q', .o q] [.o q, .o q'])
def wF : Cx4 → Bool
  | none => false
  | some (w, _) => w
def wrapF (cx : Cx4) (c : R) : R := match cx with
  | none => c
  | some (w, _, y, _) => .eightF (!w) y c
def ownX : Cx4 → List Addr
  | none => []
  | some (_, _, _, T) => T
inductive C4 (w : Bool) (x : R) : R → D → Nat → Nat → D → Bool → Prop
  | four {a b c d g k o} : C4 w x (.four a b c d (decide (0 < k)) g x) (dtup [a, b, c, d]) (cond w o k) (cond w k o) .non g
  | fourX {t b g n t0 t1} : C4 w x (.fourX x t b g) n t0 t1 (pr t b) g
inductive C8 (x y : R) : R → D → Nat → Nat → D → Bool → Prop
  | eight {a b c d e f g h m0 m1 bg} : C8 x y (.eight a b c d e f g h m0 m1 bg x y) (dtup [a, b, c, d, e, f, g, h]) m0 m1 .non bg
  | eightX {t b g n t0 t1} : C8 x y (.eightX x y t b g) n t0 t1 (pr t b) g
structure Dj (p pt : Addr) (S T : List Addr) : Prop where
  ne : p ≠ pt
  p1 : p ∉ S
  t1 : pt ∉ S
  p2 : p ∉ T
  t2 : pt ∉ T
  dj : ∀ b ∈ S, b ∉ T
def Own (U : List Addr) (p pt : Addr) (S T : List Addr) : Prop := ∀ b, b ∈ U ↔ b = p ∨ b = pt ∨ b ∈ S ∨ b ∈ T
def IsK (kd : Str) : Prop := kd = "four" ∨ kd = "eight"
inductive MaO (Ω : Om) : Addr → R → List Addr → Prop
  | mid {p m t b g} : Ω p = some (.dic m) → valD m (.inr "kind") = some (.str "four") → valD m (.inr "inners") = some (.lst []) → valD m (.inr "rest") = some (pr t b) → valD m (.inr "begun") = some (.bl g) → m.length ≤ 20 → MaO Ω p (.fixed t b g) [p]
  | frac {p pt m kd tr k t b} : Ω p = some (.dic m) → Ω pt = some (.lst [.int (k : Nat), .int 0]) → p ≠ pt → ML m kd tr pt (pr t b) → kd = "fraction" ∨ kd = "root" → MaO Ω p (.frac k t b) [p, pt]
  | root {p pt m k t s β f q d l top b} : Ω p = some (.dic m) → Ω pt = some (.lst [.int (k : Nat), .int 0]) → p ≠ pt → ML m "root" (Tr.root top d b).d pt .non → valD m (.inr "left") = some (tD q) → QR d (some q) (.root k t s β f) → PB 100000 d l (some q) → k + l = 3000 → 0 ≤ d → d.natAbs < 2 ^ 1000 → MaO Ω p (.root k t s β f) [p, pt]
  | ruled {p pt m k ps ring steps} : Ω p = some (.dic m) → Ω pt = some (.lst [.int (k : Nat), .int 0]) → p ≠ pt → ML m "ruled" (Tr.ruled ps ring steps).d pt .non → (ring = [] → k ≤ ps.length) → MaO Ω p (.ruled k ps ring steps) [p, pt]
  | fo {p pt q m kd n t0 t1 rr g x S c U} (cx : Cx4) : Ω p = some (.dic m) → Ω pt = some (.lst [.int (t0 : Nat), .int (t1 : Nat)]) → MN m kd (insF cx q) n (bI (wF cx)) pt rr g → IsK kd → C4 (wF cx) x c n t0 t1 rr g → MaO Ω q x S → (∀ c, cx = some c → MaO Ω c.2.1 c.2.2.1 c.2.2.2) → Dj p pt S (ownX cx) → Own U p pt S (ownX cx) → MaO Ω p (wrapF cx c) U
  | ei {p pt q0 q1 m kd n t0 t1 rr g x y S0 S1 r U} : Ω p = some (.dic m) → Ω pt = some (.lst [.int (t0 : Nat), .int (t1 : Nat)]) → MN m kd (.lst [.o q0, .o q1]) n 0 pt rr g → IsK kd → C8 x y r n t0 t1 rr g → MaO Ω q0 x S0 → MaO Ω q1 y S1 → Dj p pt S0 S1 → Own U p pt S0 S1 → MaO Ω p r U
theorem MaO.keep {Ω Ω' : Om} {p : Addr} {r : R} {S : List Addr} (x : MaO Ω p r S) (h : ∀ b ∈ S, Ω' b = Ω b) : MaO Ω' p r S := by
  induction x with
  | mid e h1 h2 h3 h4 h5 => exact .mid ((h _ (by simp)).trans e) h1 h2 h3 h4 h5
  | frac e e2 n h1 h2 => exact .frac ((h _ (by simp)).trans e) ((h _ (by simp)).trans e2) n h1 h2
  | root e e2 n h1 h2 h3 h4 h5 h6 h7 => exact .root ((h _ (by simp)).trans e) ((h _ (by simp)).trans e2) n h1 h2 h3 h4 h5 h6 h7
  | ruled e e2 n h1 h2 => exact .ruled ((h _ (by simp)).trans e) ((h _ (by simp)).trans e2) n h1 h2
  | fo cx e e2 h1 h2 h3 _ _ dj u ih1 ih2 => exact .fo cx ((h _ ((u _).mpr (.inl rfl))).trans e) ((h _ ((u _).mpr (.inr (.inl rfl)))).trans e2) h1 h2 h3 (ih1 fun b hb => h b ((u _).mpr (.inr (.inr (.inl hb))))) (fun c hc => ih2 c hc fun b hb => h b ((u _).mpr (.inr (.inr (.inr (by subst hc; exact hb)))))) dj u
  | ei e e2 h1 h2 h3 _ _ dj u ih1 ih2 => exact .ei ((h _ ((u _).mpr (.inl rfl))).trans e) ((h _ ((u _).mpr (.inr (.inl rfl)))).trans e2) h1 h2 h3 (ih1 fun b hb => h b ((u _).mpr (.inr (.inr (.inl hb))))) (ih2 fun b hb => h b ((u _).mpr (.inr (.inr (.inr hb))))) dj u
theorem MaO.self {Ω : Om} {p : Addr} {r : R} {S : List Addr} (x : MaO Ω p r S) : p ∈ S := by
  cases x with
  | fo cx e e2 h1 h2 h3 _ _ dj u => exact (u _).mpr (.inl rfl)
  | ei e e2 h1 h2 h3 _ _ dj u => exact (u _).mpr (.inl rfl)
  | _ => simp
theorem MaO.there {Ω : Om} {p : Addr} {r : R} {S : List Addr} (x : MaO Ω p r S) : ∀ b ∈ S, Ω b ≠ none := by
  have key : ∀ {b a : Addr} {o : AO}, b = a → Ω a = some o → Ω b ≠ none := fun e h => by rw [e, h]; simp
  induction x with
  | mid e => intro b hb; exact key (List.mem_singleton.mp hb) e
  | frac e e2 => intro b hb; simp only [List.mem_cons, List.not_mem_nil, or_false] at hb; exact hb.elim (fun z => key z e) (fun z => key z e2)
  | root e e2 => intro b hb; simp only [List.mem_cons, List.not_mem_nil, or_false] at hb; exact hb.elim (fun z => key z e) (fun z => key z e2)
  | ruled e e2 => intro b hb; simp only [List.mem_cons, List.not_mem_nil, or_false] at hb; exact hb.elim (fun z => key z e) (fun z => key z e2)
  | fo cx e e2 _ _ _ _ _ _ u ih1 ih2 =>
    intro b hb
    have hb := (u b).mp hb
    rcases hb with z | z | z | z
    · exact key z e
    · exact key z e2
    · exact ih1 b z
    · cases cx with
      | none => simp [ownX] at z
      | some c => exact ih2 c rfl b z
  | ei e e2 _ _ _ _ _ _ u ih1 ih2 =>
    intro b hb
    have hb := (u b).mp hb
    rcases hb with z | z | z | z
    · exact key z e
    · exact key z e2
    · exact ih1 b z
    · exact ih2 b z
/-- told takes what it says -/
theorem Told.sum {n : Nat} {r r' : R} {m m' : Int} {ans : Ans} (h : Told n r m r' m' ans) : (r'.tk : Int) + m' = r.tk + m ∧ (0 ≤ m → 0 ≤ m') := by
  induction h with
  | @etWait _ _ _ _ _ _ _ _ _ _ _ _ _ _ w => cases w <;> simp only [cond, R.tk] at * <;> omega
  | @etNo _ _ _ _ _ _ _ _ _ _ _ _ _ _ w => cases w <;> simp only [cond, R.tk] at * <;> omega
  | @etFour _ _ _ _ _ _ _ _ _ _ _ _ _ _ w => cases w <;> simp only [cond, R.tk] at * <;> omega
  | @etFix _ _ _ _ _ _ _ _ _ _ _ _ _ _ w => cases w <;> simp only [cond, R.tk] at * <;> omega
  | _ => (try simp only [R.tk] at *) <;> (refine ⟨?_, fun h0 => ?_⟩) <;> first | omega | exact True.intro
def FinT (Ω : Om) (p pp : Addr) (S : List Addr) (Q : AQ) (ans : Ans) (r' : R) (m' : Int) : Prop := ∀ Ω' : Om, MaO Ω' p r' S → Ω' pp = some (.lst [.int m']) → (∀ b, b ∉ S → b ≠ pp → Ω' b = Ω b) → Q ans.e Ω'
theorem in_kind {neg : Bool} {s : Str} {b : Bool} {Ω : Om} {Q : AQ} (h : (b = true ∧ IsK s) ∨ (b = false ∧ (s = "fraction" ∨ s = "root" ∨ s = "ruled"))) (k : Q (.bl (if neg then !b else b)) Ω) : fInD neg (.str s) (.lst [.str "four", .str "eight"]) Ω Q := by
  refine ⟨_, .str s, [.str "four", .str "eight"], rfl, rfl, rfl, ?_, (by decide +kernel), ?_⟩
  · rcases h with ⟨_, rfl | rfl⟩ | ⟨_, rfl | rfl | rfl⟩ <;> decide +kernel
  · have e : (([PyData.str "four", .str "eight"] : List PyData).any fun z => PyData.eqv z (.str s)) = b := by
      rcases h with ⟨rfl, rfl | rfl⟩ | ⟨rfl, rfl | rfl | rfl⟩ <;> first | (simp [PyData.eqv]; done) | (simp only [List.any_cons, List.any_nil, PyData.eqv]; decide)
    rw [e]
    exact k
def F_mtook (M : Nat) : AF := fun ds Ω Q _ => ∃ (p : Addr) (r : R) (S : List Addr), ds = [.o p] ∧ MaO Ω p r S ∧ r.lv ≤ M ∧ Q (.int (r.tk : Int)) Ω
theorem took_step (T : Txt K mg C) {j M : Nat} {Fp : AF} (c_self : Clb P w K mg base ca j "_law_took" Fp) (hF : ∀ (p : Addr) (r : R) (S : List Addr) Ω Q E, MaO Ω p r S → r.lv < M → Q (.int (r.tk : Int)) Ω → Fp [.o p] Ω Q E) : Clb P w K mg base ca (j + 1) "_law_took" (F_mtook M) := by
  refine clb T.d_law_took sc__law_took (fun ds Ω Q E h => ?_) (fun f cdv A outer s H E hr => ⟨_, _, (ass_cons (as_if (at_inD (u65 hr) (ae_dget hr.units (ae_var 0) ae_str) (ae_lst (aa_cons ae_str (aa_cons ae_str aa_nil)))) (ass_one (as_ret (ae_sum rfl T.b_sum rfl (ae_lc rfl sc__law_took.nd (ae_dget hr.units (ae_var 0) ae_str) (show BlkOk ["_law_m", "_law_inner"] (defScope s__law_took) _ [("_law_inner", 1)] from blkOk_by (by decide +kernel)) (wip_name (by decide)) (fun s1 H1 C1 cl1 fp1 => (ag_name (i := 1) sc__law_took.nd rfl (Or.inl rfl))) (fun s1 H1 C1 cl1 fp1 => AE.cast (ae_call c_self hr takes0 (by omega) (aa_cons (ae_var 1) aa_nil)) (by first | (dsimp only [Blk, Cx.blk]; done) | rfl)))))) ass_nil)
      (ass_one (as_ret (ae_ix (ae_dget hr.units (ae_var 0) ae_str) ae_int)))), fun ds Ω Qa Ea h => ?_⟩)
  · obtain ⟨_, _, _, rfl, _⟩ := h
    rfl
  · obtain ⟨p, r, S, rfl, hM, hl, k⟩ := h
    walk_at "pl"
    have one : ∀ {m : List (Key × D)} {kd : Str} {tr rr : D} {pt : Addr} {k : Nat}, Ω p = some (.dic m) → ML m kd tr pt rr → Ω pt = some (.lst [.int (k : Nat), .int 0]) → (kd = "fraction" ∨ kd = "root" ∨ kd = "ruled") → Qa (.int (k : Int)) Ω → (∃ x, Ω p = some (AO.dic x) ∧ ∃ x_1, valD x (Sum.inr (Str.ofString "kind")) = some x_1 ∧ 2 ≤ sizeLine ∧ fInD false x_1 (D.lst [D.str (Str.ofString "four"), D.str (Str.ofString "eight")]) Ω fun x Ω1 => ∃ c, x = D.bl c ∧ if c = true then
                    ∃ x, Ω1 p = some (AO.dic x) ∧ ∃ x_2, valD x (Sum.inr (Str.ofString "inners")) = some x_2 ∧ ∃ xs, x_2 = D.lst xs ∧
                                compL (agName 1) aYes (aFn Fp (aCons (aVar 1) aNil)) [1] xs [] Wa0 [some (D.o p), none] Ω1 fun x Ω1 => fSum [x] Ω1 Qa
                  else ∃ x, Ω1 p = some (AO.dic x) ∧ ∃ x_2, valD x (Sum.inr (Str.ofString "taken")) = some x_2 ∧ ∃ xs, D.seq Ω1 x_2 = some xs ∧ ∃ x, xs[0]? = some x ∧ Qa x Ω1) := fun e hL e2 hk q => by
      refine ⟨_, e, _, hL.k, by decide, in_kind (b := false) (.inr ⟨rfl, hk⟩) ⟨_, rfl, ?_⟩⟩
      rw [if_neg (by decide)]
      exact ⟨_, e, _, hL.t, _, seq_o e2, _, rfl, q⟩
    cases hM with
    | mid e h1 h2 h3 h4 h5 =>
      refine ⟨_, e, _, h1, by decide, in_kind (b := true) (.inl ⟨rfl, .inl rfl⟩) ⟨_, rfl, ?_⟩⟩
      rw [if_pos (by decide)]
      refine ⟨_, e, _, h2, _, rfl, ?_⟩
      simp only [compL]
      exact ⟨[], rfl, k⟩
    | frac e e2 n hL hk => exact one e hL e2 (hk.elim .inl fun z => .inr (.inl z)) k
    | root e e2 n hL => exact one e hL e2 (.inr (.inl rfl)) k
    | ruled e e2 n hL => exact one e hL e2 (.inr (.inr rfl)) k
    | @fo _ pt q m kd n t0 t1 rr g x S c U cx e e2 hN hk hC hx hcx dj u =>
      refine ⟨_, e, _, hN.k, by decide, in_kind (b := true) (.inl ⟨rfl, hk⟩) ⟨_, rfl, ?_⟩⟩
      rw [if_pos (by decide)]
      have hlx : c.tk = x.tk ∧ x.lv < c.lv := by
        cases hC <;> exact ⟨rfl, by simp only [R.lv]; omega⟩
      cases cx with
      | none =>
        refine ⟨_, e, _, hN.i, _, rfl, ?_⟩
        simp only [compL, wipeA, aYes]
        walk_at "pl"
        refine hF q x S _ _ _ hx (Nat.lt_of_lt_of_le hlx.2 hl) ⟨by decide, [(x.tk : Int)], rfl, ?_⟩
        simp only [wrapF, hlx.1] at k
        simpa using k
      | some z =>
        obtain ⟨w', q', y, S'⟩ := z
        have hy := hcx _ rfl
        have hly : y.lv < M ∧ x.lv < M := by
          simp only [wrapF, R.lv] at hl
          have := hlx.2
          omega
        simp only at hy
        simp only [wrapF, R.tk, hlx.1] at k
        cases w' with
        | false =>
          refine ⟨_, e, _, hN.i, _, rfl, ?_⟩
          simp only [cond, compL, wipeA, aYes]
          walk_at "pl"
          refine hF q x S _ _ _ hx hly.2 ⟨by decide, hF q' y S' _ _ _ hy hly.1 ⟨by decide, [(x.tk : Int), (y.tk : Int)], rfl, ?_⟩⟩
          simpa [Int.add_comm] using k
        | true =>
          refine ⟨_, e, _, hN.i, _, rfl, ?_⟩
          simp only [cond, compL, wipeA, aYes]
          walk_at "pl"
          refine hF q' y S' _ _ _ hy hly.1 ⟨by decide, hF q x S _ _ _ hx hly.2 ⟨by decide, [(y.tk : Int), (x.tk : Int)], rfl, ?_⟩⟩
          simpa [Int.add_comm] using k
    | @ei _ pt q0 q1 m kd n t0 t1 rr g x y S0 S1 r U e e2 hN hk hC hx hy dj u =>
      refine ⟨_, e, _, hN.k, by decide, in_kind (b := true) (.inl ⟨rfl, hk⟩) ⟨_, rfl, ?_⟩⟩
      rw [if_pos (by decide)]
      have hlx : r.tk = x.tk + y.tk ∧ x.lv < r.lv ∧ y.lv < r.lv := by
        cases hC <;> exact ⟨rfl, by simp only [R.lv]; omega, by simp only [R.lv]; omega⟩
      refine ⟨_, e, _, hN.i, _, rfl, ?_⟩
      simp only [compL, wipeA, aYes]
      walk_at "pl"
      refine hF q0 x S0 _ _ _ hx (by omega) ⟨by decide, hF q1 y S1 _ _ _ hy (by omega) ⟨by decide, [(x.tk : Int), (y.tk : Int)], rfl, ?_⟩⟩
      rw [hlx.1] at k
      simpa using k
theorem c_law_took (T : Txt K mg C) : ∀ M : Nat, Clb P w K mg base ca (M + 6) "_law_took" (F_mtook M)
  | 0 => took_step T (clb_none T.d_law_took 5) (fun _ _ _ _ _ _ _ h => by omega)
  | M + 1 => took_step T (c_law_took T M) (fun p r S Ω Q E h hl k => ⟨p, r, S, rfl, h, by omega, k⟩)
def F_leaf : AF := fun ds Ω Q _ => ∃ (p pp : Addr) (r : R) (S : List Addr) (nn : Nat) (m m' : Int) (r' : R) (ans : Ans), ds = [.o p, .o pp] ∧ MaO Ω p r S ∧ r.kd = .leaf ∧ Ω pp = some (.lst [.int m]) ∧ pp ∉ S ∧ 0 ≤ m ∧ r.tk + m ≤ 2600 ∧ Told nn r m r' m' ans ∧ FinT Ω p pp S Q ans r' m'
def M_lf (p pp : Addr) (tr : D) (k : Nat) (Ω : Om) (go : Prop) : En → Om → Prop := fun ρ Ω' => go ∧ Ω' = Ω ∧ ρ = [some (.o p), some (.o pp), some tr, some (.int k), none, none, none, none, none]
theorem c_law_leaf_told (T : Txt K mg C) : Clb P w K mg base ca 5 "_law_leaf_told" F_leaf := by
  refine clb T.d_law_leaf_told sc__law_leaf_told (fun ds Ω Q E h => ?_) (fun f cdv A outer s H E hr => ⟨_, _, (ass_cons (as_set 2 sc__law_leaf_told.nd (ae_dget hr.units (ae_var 0) ae_str))
      (ass_cons (as_set 3 sc__law_leaf_told.nd (ae_ix (ae_dget hr.units (ae_var 0) ae_str) ae_int))
      (ass_cut (as_if (AWt.at_ (aw_or (AWt.at_ (aw_and (at_notN (ae_dget hr.units (ae_var 0) ae_str)) (aw_and1 (at_eqI (ae_ix (ae_dget hr.units (ae_var 0) ae_str) ae_int) ae_int)))) (aw_or1 (AWt.at_ (aw_and (at_eqS (ae_dget hr.units (ae_var 0) ae_str) ae_str) (aw_and (at_eqD hr.units (ae_ix (ae_var 2) ae_int) (ae_tup aa_nil)) (aw_and1 (at_eqI (ae_var 3) (ae_len rfl T.b_len (ae_ix (ae_var 2) ae_int)))))))))) (ass_one (as_ret (ae_tup (aa_cons ae_str aa_nil)))) ass_nil)
      (ass_cons (as_if (at_eqI (ae_ix (ae_var 1) ae_int) ae_int) (ass_one (as_ret (ae_tup (aa_cons ae_str aa_nil)))) ass_nil)
      (ass_cons (as_setIx (ae_sub (ae_ix (ae_var 1) ae_int) ae_int) (ae_var 1) ae_int)
      (ass_cut (as_setIx (ae_add (ae_var 3) ae_int) (ae_dget hr.units (ae_var 0) ae_str) ae_int)
      (ass_cons (as_if (at_eqS (ae_dget hr.units (ae_var 0) ae_str) ae_str) (ass_cons (as_if (at_lt (ae_var 3) (ae_len rfl T.b_len (ae_ix (ae_var 2) ae_int))) (ass_one (as_ret (ae_tup (aa_cons ae_str (aa_cons (ae_ix (ae_ix (ae_var 2) ae_int) (ae_var 3)) aa_nil))))) ass_nil)
      (ass_cons (as_asg (ae_divmod rfl T.b_divmod (ae_sub (ae_var 3) (ae_len rfl T.b_len (ae_ix (ae_var 2) ae_int))) (ae_len rfl T.b_len (ae_ix (ae_var 2) ae_int))) (ag_tup (n := 2) rfl (ags_cons (i := 4) sc__law_leaf_told.nd rfl (Or.inl rfl) (ags_cons (i := 5) sc__law_leaf_told.nd rfl (Or.inl rfl) ags_nil))))
      (ass_one (as_ret (ae_tup (aa_cons ae_str (aa_cons (ae_add (ae_ix (ae_ix (ae_var 2) ae_int) (ae_var 5)) (ae_mul (ae_var 4) (ae_ix (ae_ix (ae_var 2) ae_int) (ae_var 5)))) aa_nil))))))) ass_nil)
      (ass_cons (as_if (at_notN (ae_dget hr.units (ae_var 0) ae_str)) (ass_cons (as_asg (ae_dget hr.units (ae_var 0) ae_str) (ag_tup (n := 2) rfl (ags_cons (i := 6) sc__law_leaf_told.nd rfl (Or.inl rfl) (ags_cons (i := 7) sc__law_leaf_told.nd rfl (Or.inl rfl) ags_nil))))
      (ass_cons (as_set 8 sc__law_leaf_told.nd (ae_fdv (div_of hr) (ae_var 6) (ae_var 7)))
      (ass_cons (as_dput hr.units (ae_tup (aa_cons (ae_var 7) (aa_cons (ae_sub (ae_var 6) (ae_mul (ae_var 8) (ae_var 7))) aa_nil))) (ae_var 0) ae_str)
      (ass_one (as_ret (ae_tup (aa_cons ae_str (aa_cons (ae_var 8) aa_nil)))))))) ass_nil)
      (ass_cons (as_set 8 sc__law_leaf_told.nd (ae_call (c_law_below T) hr (takes_of rfl rfl rfl rfl) (by omega) (aa_cons (ae_dget hr.units (ae_var 0) ae_str) (aa_cons (ae_ix (ae_var 2) ae_int) aa_nil))))
      (ass_cons (as_dput hr.units (ae_call (c_law_quotient T) hr (takes_of rfl rfl rfl rfl) (by omega) (aa_cons (ae_tup (aa_cons ae_int (aa_cons ae_int (aa_cons ae_int aa_nil)))) (aa_cons (ae_call (c_law_sum T) hr (takes_of rfl rfl rfl rfl) (by omega) (aa_cons (ae_dget hr.units (ae_var 0) ae_str) (aa_cons (ae_tup (aa_cons (ae_var 8) (aa_cons ae_int (aa_cons ae_int aa_nil)))) (aa_cons (ae_neg ae_int) aa_nil)))) (aa_cons (ae_ix (ae_var 2) ae_int) aa_nil)))) (ae_var 0) ae_str)
      (ass_one (as_ret (ae_tup (aa_cons ae_str (aa_cons (ae_var 8) aa_nil))))))))))))))), fun ds Ω Qa Ea h => ?_⟩)
  · obtain ⟨_, _, _, _, _, _, _, _, _, rfl, _⟩ := h
    rfl
  · obtain ⟨p, pp, r, S, nn, m, m', r', ans, rfl, hM, hk, hpp, hS, h0, hb, ht, fin⟩ := h
    walk_at "pl"
    cases hM with
    | mid => cases hk
    | fo cx e e2 hN hk2 hC => cases cx with
      | none => cases hC <;> cases hk
      | some z => cases hk
    | ei e e2 hN hk2 hC => cases hC <;> cases hk
    | @frac _ pt dm kd tr k t b e e2 ne hL hk2 =>
      refine ⟨_, e, _, hL.e, _, e, _, hL.t, _, seq_o e2, _, rfl, ?_⟩
      have hp1 : pp ≠ p := fun z => hS (by simp [z])
      have hp2 : pp ≠ pt := fun z => hS (by simp [z])
      have hkr : ¬ kd = "ruled" := by rcases hk2 with rfl | rfl <;> decide
      refine ⟨M_lf p pp tr k Ω (b ≠ 0), ?_, ?_⟩
      · walk_at "pl"
        refine ⟨_, e, _, hL.r, ?_⟩
        rw [if_pos (show (!(pr t b).isNon) = true from rfl)]
        refine ⟨_, e, _, hL.r, _, rfl, _, rfl, _, rfl, ite2 (fun hb0 => ?_) (fun hb0 => ?_)⟩
        · subst hb0
          cases ht with
          | frEnd => exact ⟨by decide, fin Ω (.frac e e2 ne hL hk2) hpp (fun _ _ _ => rfl)⟩
          | frWait h => exact absurd rfl h
          | frPart h => exact absurd rfl h
        · refine ⟨_, e, _, hL.k, _, rfl, ?_⟩
          rw [if_neg hkr]
          exact ⟨hb0, rfl, rfl⟩
      rintro ρ Ω1 ⟨hb0, rfl, rfl⟩
      walk_at "pl"
      refine ⟨_, seq_o hpp, _, rfl, _, rfl, ite2 (fun hm => ?_) (fun hm => ?_)⟩
      · subst hm
        cases ht with
        | frEnd => exact absurd rfl hb0
        | frWait h => exact ⟨by decide, fin Ω1 (.frac e e2 ne hL hk2) hpp (fun _ _ _ => rfl)⟩
        | frPart h h2 => exact absurd rfl h2
      refine ⟨_, seq_o hpp, _, rfl, _, rfl, _, hpp, _, rfl, M_lf p pp tr k (oset (oset Ω1 pp (.lst [.int (m - 1)])) pt (.lst [.int ((k : Int) + 1), .int 0])) True, ?_, ?_⟩
      · walk_at "pl"
        exact ⟨_, (oset_ne (Ne.symm hp1)).trans e, _, hL.t, _, rfl, _, (oset_ne (Ne.symm hp2)).trans e2, _, rfl, True.intro, rfl, rfl⟩
      rintro ρ Ω2 ⟨_, rfl, rfl⟩
      walk_at "pl"
      have e3 : oset (oset Ω1 pp (.lst [.int (m - 1)])) pt (.lst [.int ((k : Int) + 1), .int 0]) p = some (.dic dm) := (oset_ne ne).trans ((oset_ne (Ne.symm hp1)).trans e)
      refine ⟨_, e3, _, hL.k, _, rfl, ?_⟩
      rw [if_neg hkr]
      refine ⟨_, e3, _, hL.r, ?_⟩
      rw [if_pos (show (!(pr t b).isNon) = true from rfl)]
      refine ⟨_, e3, _, hL.r, _, rfl, rfl, ?_⟩
      simp only [setAll]
      walk_at "pl"
      cases ht with
      | frEnd => exact absurd rfl hb0
      | frWait => exact absurd rfl hm
      | frPart h1 h2 h3 h4 =>
        have hq : Bg (t.fdiv b) := Nat.lt_of_le_of_lt fdiv_le (sm_bg h3)
        refine ⟨bg_nopy hb0 (sm_bg h4), bg_mul hq (sm_bg h4), by decide, _, e3, by have := hL.len; omega, by decide, ?_⟩
        exact fin _ (.frac (k := k + 1) oset_same ((oset_ne (Ne.symm ne)).trans (by rw [oset_same]; rfl)) ne (hL.setR (pr b (t - t.fdiv b * b))) hk2) ((oset_ne hp1).trans ((oset_ne hp2).trans oset_same)) (fun v hv hv2 => by
          simp only [List.mem_cons, List.not_mem_nil, or_false, not_or] at hv
          rw [oset_ne hv.1, oset_ne hv.2, oset_ne hv2])
    | @root _ pt dm k t s β f q d l top b e e2 ne hL hle hQ hP hkl hd0 hd1 =>
      refine ⟨_, e, _, hL.e, _, e, _, hL.t, _, seq_o e2, _, rfl, ?_⟩
      have hp1 : pp ≠ p := fun z => hS (by simp [z])
      have hp2 : pp ≠ pt := fun z => hS (by simp [z])
      have hkr : ¬ ("root" : Str) = "ruled" := by decide
      refine ⟨M_lf p pp (Tr.root top d b).d k Ω True, ?_, ?_⟩
      · walk_at "pl"
        refine ⟨_, e, _, hL.r, ?_⟩
        rw [if_neg (by decide)]
        refine ⟨_, e, _, hL.k, _, rfl, ?_⟩
        rw [if_neg hkr]
        exact ⟨True.intro, rfl, rfl⟩
      rintro ρ Ω1 ⟨_, rfl, rfl⟩
      walk_at "pl"
      refine ⟨_, seq_o hpp, _, rfl, _, rfl, ite2 (fun hm => ?_) (fun hm => ?_)⟩
      · subst hm
        cases ht with
        | rtWait => exact ⟨by decide, fin Ω1 (.root e e2 ne hL hle hQ hP hkl hd0 hd1) hpp (fun _ _ _ => rfl)⟩
        | rtPart h => exact absurd rfl h
      refine ⟨_, seq_o hpp, _, rfl, _, rfl, _, hpp, _, rfl, M_lf p pp (Tr.root top d b).d k (oset (oset Ω1 pp (.lst [.int (m - 1)])) pt (.lst [.int ((k : Int) + 1), .int 0])) True, ?_, ?_⟩
      · walk_at "pl"
        exact ⟨_, (oset_ne (Ne.symm hp1)).trans e, _, hL.t, _, rfl, _, (oset_ne (Ne.symm hp2)).trans e2, _, rfl, True.intro, rfl, rfl⟩
      rintro ρ Ω2 ⟨_, rfl, rfl⟩
      walk_at "pl"
      have e3 : oset (oset Ω1 pp (.lst [.int (m - 1)])) pt (.lst [.int ((k : Int) + 1), .int 0]) p = some (.dic dm) := (oset_ne ne).trans ((oset_ne (Ne.symm hp1)).trans e)
      refine ⟨_, e3, _, hL.k, _, rfl, ?_⟩
      rw [if_neg hkr]
      refine ⟨_, e3, _, hL.r, ?_⟩
      rw [if_neg (by decide)]
      obtain ⟨rfl, hQ2, _, rfl⟩ := hQ.part hm ht
      simp only [R.tk] at hb
      obtain ⟨l', rfl⟩ : ∃ l', l = l' + 1 := ⟨l - 1, by omega⟩
      obtain ⟨hht, hq, hpos, hsz, hP2⟩ := hP
      have ht2 : Ht 200000 q := ⟨nup _ hht.1 (by decide), nup _ hht.2.1 (by decide), nup _ hht.2.2 (by decide)⟩
      have hqt : Ht 200000 (belowT q d, 0, 1) := ⟨nup _ hq (by decide), Nat.pow_pos (by decide), Nat.one_lt_two_pow (by decide)⟩
      have hs2 : Ht 210000 (sumT q (belowT q d, 0, 1) (-1)) := by
        unfold sumT
        have one : (1 : Int).natAbs < 2 ^ 1 := by decide
        have mone : (-1 : Int).natAbs < 2 ^ 1 := by decide
        have zer : (0 : Int).natAbs < 2 ^ 1 := by decide
        refine madeT_ht (by simp only [Int.mul_one]; omega) ?_ ?_ ?_
        · exact nup _ (nadd (a := 200002) (nup _ (nmul hht.1 one) (by decide)) (nup _ (nmul (nmul mone hq) hht.2.2) (by decide))) (by decide)
        · exact nup _ (nadd (a := 200002) (nup _ (nmul hht.2.1 one) (by decide)) (nup _ (nmul (nmul mone zer) hht.2.2) (by decide))) (by decide)
        · exact nup _ (nmul hht.2.2 one) (by decide)
      have hs3 : (sumT q (belowT q d, 0, 1) (-1)).2.2 ≠ 0 := by
        unfold sumT
        exact Int.ne_of_gt (madeT_px (by simp only [Int.mul_one]; omega)).2.pos
      have htr : D.seq (oset (oset Ω1 pp (.lst [.int (m - 1)])) pt (.lst [.int ((k : Int) + 1), .int 0])) (Tr.root top d b).d = some [.str "root", .int top, .int d, .int b] := rfl
      refine ⟨_, e3, _, hle, _, htr, _, rfl, q, d, rfl, ht2, hd1, hd0, by omega, ?_⟩
      walk_at "pl"
      refine ⟨by decide, _, e3, _, hle, by decide, q, (belowT q d, 0, 1), -1, rfl, ht2, hqt, Nat.one_lt_two_pow (by decide), by omega, (show (1 : Int) ≠ 0 by decide), ?_⟩
      refine ⟨_, htr, _, rfl, (1, 0, 1), _, d, rfl, ⟨Nat.one_lt_two_pow (by decide), Nat.pow_pos (by decide), Nat.one_lt_two_pow (by decide)⟩, hs2, hd1, by decide, hs3, hsz, ?_⟩
      refine ⟨_, e3, by have := hL.len; omega, by decide, ?_⟩
      cases ht with
      | rtPart h1 h2 h3 h4 h5 h6 h7 h8 h9 =>
        obtain ⟨q', hq'⟩ : ∃ q', nextT q d = some q' := by
          cases hnx : nextT q d with
          | some q' => exact ⟨q', rfl⟩
          | none => rw [hnx] at hQ2; cases hQ2
        have hq2 : quotT (1, 0, 1) (sumT q (belowT q d, 0, 1) (-1)) d = some q' := hq'
        rw [hq'] at hQ2 hP2
        rw [hq2]
        exact fin _ (.root (k := k + 1) (l := l') (q := q') oset_same ((oset_ne (Ne.symm ne)).trans (by rw [oset_same]; rfl)) ne (hL.setL hle (tD q')) (by rw [valD_put, if_pos rfl]; rfl) hQ2 hP2 (by omega) hd0 hd1) ((oset_ne hp1).trans ((oset_ne hp2).trans oset_same)) (fun v hv hv2 => by
          simp only [List.mem_cons, List.not_mem_nil, or_false, not_or] at hv
          rw [oset_ne hv.1, oset_ne hv.2, oset_ne hv2])
    | @ruled _ pt dm k ps ring steps e e2 ne hL hke =>
      refine ⟨_, e, _, hL.e, _, e, _, hL.t, _, seq_o e2, _, rfl, ?_⟩
      have hp1 : pp ≠ p := fun z => hS (by simp [z])
      have hp2 : pp ≠ pt := fun z => hS (by simp [z])
      have sq : ∀ Ω : Om, D.seq Ω (Tr.ruled ps ring steps).d = some [.str "ruled", dtup ps, dtup ring, dtup steps] := fun _ => rfl
      refine ⟨M_lf p pp (Tr.ruled ps ring steps).d k Ω (ring = [] → k < ps.length), ?_, ?_⟩
      · walk_at "pl"
        refine ⟨_, e, _, hL.r, ?_⟩
        rw [if_neg (by decide)]
        refine ⟨_, e, _, hL.k, _, rfl, ?_⟩
        rw [if_pos rfl]
        refine ⟨_, sq _, _, rfl, Nat.zero_le _, fEq_nil ⟨_, rfl, ?_⟩⟩
        simp only [Bool.false_eq_true, if_false, decide_eq_true_eq]
        refine ite2 (fun hr => ?_) (fun hr => ?_)
        · refine ⟨_, sq _, _, rfl, _, rfl, ?_⟩
          rw [List.length_map]
          refine ite2 (fun hkl => ?_) (fun hkl => ?_)
          · subst hr
            cases ht with
            | ruEnd => exact ⟨by decide, fin Ω (.ruled e e2 ne hL hke) hpp (fun _ _ _ => rfl)⟩
            | ruWait h => have := h rfl; omega
            | ruPart h => have := h rfl; omega
          · refine ⟨fun _ => ?_, rfl, rfl⟩
            subst hr
            cases ht with
            | ruEnd h => have := hke rfl; omega
            | ruWait h => exact h rfl
            | ruPart h => exact h rfl
        · exact ⟨fun z => absurd z hr, rfl, rfl⟩
      rintro ρ Ω1 ⟨hb0, rfl, rfl⟩
      walk_at "pl"
      refine ⟨_, seq_o hpp, _, rfl, _, rfl, ite2 (fun hm => ?_) (fun hm => ?_)⟩
      · subst hm
        cases ht with
        | ruEnd h => have := hb0 rfl; omega
        | ruWait => exact ⟨by decide, fin Ω1 (.ruled e e2 ne hL hke) hpp (fun _ _ _ => rfl)⟩
        | ruPart _ h => exact absurd rfl h
      refine ⟨_, seq_o hpp, _, rfl, _, rfl, _, hpp, _, rfl, M_lf p pp (Tr.ruled ps ring steps).d k (oset (oset Ω1 pp (.lst [.int (m - 1)])) pt (.lst [.int ((k : Int) + 1), .int 0])) True, ?_, ?_⟩
      · walk_at "pl"
        exact ⟨_, (oset_ne (Ne.symm hp1)).trans e, _, hL.t, _, rfl, _, (oset_ne (Ne.symm hp2)).trans e2, _, rfl, True.intro, rfl, rfl⟩
      rintro ρ Ω2 ⟨_, rfl, rfl⟩
      walk_at "pl"
      have e3 : oset (oset Ω1 pp (.lst [.int (m - 1)])) pt (.lst [.int ((k : Int) + 1), .int 0]) p = some (.dic dm) := (oset_ne ne).trans ((oset_ne (Ne.symm hp1)).trans e)
      refine ⟨_, e3, _, hL.k, _, rfl, ?_⟩
      rw [if_pos rfl]
      refine ⟨_, sq _, _, rfl, _, rfl, ?_⟩
      rw [List.length_map]
      cases ht with
      | ruEnd h => have := hb0 rfl; omega
      | ruWait => exact absurd rfl hm
      | ruPart h1 h2 h3 h4 h5 h6 h7 =>
        have fin2 := fin (oset (oset Ω1 pp (.lst [.int (m - 1)])) pt (.lst [.int ((k : Int) + 1), .int 0])) (.ruled (k := k + 1) e3 (by rw [oset_same]; rfl) ne hL (fun z => h1 z)) ((oset_ne hp2).trans oset_same) (fun v hv hv2 => by
          simp only [List.mem_cons, List.not_mem_nil, or_false, not_or] at hv
          rw [oset_ne hv.2, oset_ne hv2])
        refine ite2 (fun hlt => ?_) (fun hlt => ?_)
        · have hlt : k < ps.length := by omega
          refine ⟨_, sq _, _, rfl, _, rfl, D.int (ps.getD k 0), ?_, by decide, ?_⟩
          · rw [atI_eq, List.getElem?_map, List.getD_eq_getElem?_getD, List.getElem?_eq_getElem hlt]; rfl
          · have ev : ruV k ps ring steps = ps.getD k 0 := by unfold ruV; rw [if_pos hlt]
            rw [ev] at fin2
            exact fin2
        · have hlt : ¬ k < ps.length := by omega
          have hrl : 0 < ring.length := by
            cases ring with
            | nil => exact absurd (hb0 rfl) hlt
            | cons _ _ => simp
          refine ⟨_, sq _, _, rfl, _, rfl, _, sq _, _, rfl, _, rfl, ?_⟩
          rw [List.length_map, List.length_map]
          refine ⟨_, _, rfl, by omega, by omega, _, rfl, rfl, ?_⟩
          simp only [setAll]
          walk_at "pl"
          have ei : ((k : Int) - ps.length) % ring.length = (((k - ps.length) % ring.length : Nat) : Int) := by rw [Int.natCast_emod, Int.natCast_sub (by omega)]
          have ej : ((k : Int) - ps.length) / ring.length = (((k - ps.length) / ring.length : Nat) : Int) := by rw [Int.natCast_ediv, Int.natCast_sub (by omega)]
          have hi : (k - ps.length) % ring.length < ring.length := Nat.mod_lt _ hrl
          have ev : ruV k ps ring steps = ring.getD ((k - ps.length) % ring.length) 0 + ((k - ps.length) / ring.length : Nat) * steps.getD ((k - ps.length) % ring.length) 0 := by unfold ruV; rw [if_neg hlt]
          rw [ev] at fin2
          rw [ei, ej]
          have gd : ∀ {ns : List Int}, (k - ps.length) % ring.length < ns.length → atI (ns.map D.int) (((k - ps.length) % ring.length : Nat) : Int) = some (.int (ns.getD ((k - ps.length) % ring.length) 0)) := fun h => by
            rw [atI_eq, List.getElem?_map, List.getD_eq_getElem?_getD, List.getElem?_eq_getElem h]; rfl
          have his : (k - ps.length) % ring.length < steps.length := by omega
          have hsm : Sm (steps.getD ((k - ps.length) % ring.length) 0) := h7 _ (by
            rw [List.getD_eq_getElem?_getD, List.getElem?_eq_getElem his]
            exact List.mem_append_right _ (List.getElem_mem his))
          have htb : ((((k - ps.length) / ring.length : Nat) : Int)).natAbs < 2 ^ 60 := by
            rw [Int.natAbs_natCast]
            exact Nat.lt_of_le_of_lt (Nat.le_trans (Nat.div_le_self _ _) (Nat.sub_le _ _)) h4
          exact ⟨_, sq _, _, rfl, _, rfl, _, gd hi, _, sq _, _, rfl, _, rfl, _, gd his, _, rfl, ml9 60 290000 htb hsm (by decide), _, rfl, by decide, fin2⟩
def NF : R → Prop
  | .eightF .. => False
  | _ => True
inductive Lq : Nat → R → Int → R → Int → Ans → Prop
  | fix {t b g m r' m' ans} : Told 0 (.fixed t b g) m r' m' ans → Lq 0 (.fixed t b g) m r' m' ans
  | fo {n r m r' m' ans} : r.kd = .four → Told n r m r' m' ans → Lq n r m r' m' ans
  | fF {n w dead fr m fr' m' ans} : fr.kd = .four → Told n fr m fr' m' ans → Lq n (.eightF w dead fr) m (.eightF w dead fr') m' ans
  | x8 {x y t b g m r' m' ans} : Told 0 (.eightX x y t b g) m r' m' ans → Lq 0 (.eightX x y t b g) m r' m' ans
  | one {a b c d e f g h m0 m1 bg x y m r' m' ans} : Told 0 (.eight a b c d e f g h m0 m1 bg x y) m r' m' ans → NF r' → Lq 0 (.eight a b c d e f g h m0 m1 bg x y) m r' m' ans
  | four {a b c d e f g h m0 m1 bg x y m w i z m2 n fr m' ans} : Sm8 a b c d e f g h → sure8 m0 m1 a b c d e f g h = none → w = decide (m1 < m0) → Told i (cond w y x) m z m2 .fin → a * cond w g f ≠ cond w c b * e →
      Told n (.four a (cond w c b) e (cond w g f) (decide (0 < cond w m0 m1)) bg (cond w x y)) m2 fr m' ans → Lq (n + 1) (.eight a b c d e f g h m0 m1 bg x y) m (.eightF w z fr) m' ans
  | in0 {a b c d e f g h m0 m1 bg x y m i z m2 q n r' m' ans} : Sm8 a b c d e f g h → sure8 m0 m1 a b c d e f g h = none → ¬ m1 < m0 → Told i x m z m2 (.part q) → Sm q → Lq n (.eight (a * q + c) (b * q + d) a b (e * q + g) (f * q + h) e f (m0 + 1) m1 bg z y) m2 r' m' ans → Lq (n + 1) (.eight a b c d e f g h m0 m1 bg x y) m r' m' ans
  | in1 {a b c d e f g h m0 m1 bg x y m i z m2 q n r' m' ans} : Sm8 a b c d e f g h → sure8 m0 m1 a b c d e f g h = none → m1 < m0 → Told i y m z m2 (.part q) → Sm q → Lq n (.eight (a * q + b) a (c * q + d) c (e * q + f) e (g * q + h) g m0 (m1 + 1) bg x z) m2 r' m' ans → Lq (n + 1) (.eight a b c d e f g h m0 m1 bg x y) m r' m' ans
theorem lq_of {n : Nat} {r r' : R} {m m' : Int} {ans : Ans} (h : Told n r m r' m' ans) : r.kd ≠ .leaf → ∃ K, Lq K r m r' m' ans := by
  induction h with
  | fxEnd => exact fun _ => ⟨0, .fix .fxEnd⟩
  | fxNo => exact fun _ => ⟨0, .fix .fxNo⟩
  | fxPart h1 h2 h3 => exact fun _ => ⟨0, .fix (.fxPart h1 h2 h3)⟩
  | frEnd => exact fun h => absurd rfl h
  | frWait => exact fun h => absurd rfl h
  | frPart => exact fun h => absurd rfl h
  | rtWait => exact fun h => absurd rfl h
  | rtPart => exact fun h => absurd rfl h
  | ruEnd => exact fun h => absurd rfl h
  | ruWait => exact fun h => absurd rfl h
  | ruPart => exact fun h => absurd rfl h
  | foTell h1 h2 h3 h4 h5 => exact fun _ => ⟨0, .fo rfl (.foTell h1 h2 h3 h4 h5)⟩
  | foWait h1 h2 h3 h4 h5 h6 => exact fun _ => ⟨0, .fo rfl (.foWait h1 h2 h3 h4 h5 h6)⟩
  | foNo h1 h2 h3 h4 h5 h6 => exact fun _ => ⟨0, .fo rfl (.foNo h1 h2 h3 h4 h5 h6)⟩
  | foEnd h1 h2 h3 h4 h5 h6 h7 => exact fun _ => ⟨0, .fo rfl (.foEnd h1 h2 h3 h4 h5 h6 h7)⟩
  | foIn h1 h2 h3 h4 h5 h6 h7 h8 => exact fun _ => ⟨_, .fo rfl (.foIn h1 h2 h3 h4 h5 h6 h7 h8)⟩
  | fxX h1 => exact fun _ => ⟨0, .fo rfl (.fxX h1)⟩
  | etTell h1 h2 => exact fun _ => ⟨0, .one (.etTell h1 h2) True.intro⟩
  | etWait h1 h2 h3 h4 => exact fun _ => ⟨0, .one (.etWait h1 h2 h3 h4) True.intro⟩
  | etNo h1 h2 h3 h4 => exact fun _ => ⟨0, .one (.etNo h1 h2 h3 h4) True.intro⟩
  | etFour h1 h2 h3 h4 h5 h6 => exact fun _ => ⟨_, .four h1 h2 h3 h4 h5 h6⟩
  | etFix h1 h2 h3 h4 h5 h6 h7 => exact fun _ => ⟨0, .one (.etFix h1 h2 h3 h4 h5 h6 h7) True.intro⟩
  | etIn0 h1 h2 h3 h4 h5 h6 ih1 ih2 =>
    obtain ⟨K, hK⟩ := ih2 (by simp [R.kd])
    exact fun _ => ⟨K + 1, .in0 h1 h2 h3 h4 h5 hK⟩
  | etIn1 h1 h2 h3 h4 h5 h6 ih1 ih2 =>
    obtain ⟨K, hK⟩ := ih2 (by simp [R.kd])
    exact fun _ => ⟨K + 1, .in1 h1 h2 h3 h4 h5 hK⟩
  | exX h1 => exact fun _ => ⟨0, .x8 (.exX h1)⟩
  | exF h1 h2 => exact fun _ => ⟨_, .fF h1 h2⟩
/-- a four's core, by itself or within an eight -/
theorem Lq.core {K : Nat} {cx : Cx4} {c r' : R} {m m' : Int} {ans : Ans} (hc : c.kd = .four) (h : Lq K (wrapF cx c) m r' m' ans) : ∃ c', Told K c m c' m' ans ∧ r' = wrapF cx c' := by
  cases cx with
  | none =>
    simp only [wrapF] at h ⊢
    cases h with
    | fo h1 h2 => exact ⟨_, h2, rfl⟩
    | fix h => cases hc
    | fF => cases hc
    | x8 => cases hc
    | one => cases hc
    | four => cases hc
    | in0 => cases hc
    | in1 => cases hc
  | some z =>
    obtain ⟨w, q, y, T⟩ := z
    simp only [wrapF] at h ⊢
    cases h with
    | fF h1 h2 => exact ⟨_, h2, rfl⟩
    | fo h1 h2 => cases h1
theorem Lq.wrap {K : Nat} (cx : Cx4) {c c' : R} {m m' : Int} {ans : Ans} (hc : c.kd = .four) (h : Told K c m c' m' ans) : Lq K (wrapF cx c) m (wrapF cx c') m' ans := by
  cases cx with
  | none => exact .fo hc h
  | some z => exact .fF hc h
def live : R → Nat
  | .four .. => 1
  | .eight .. => 1
  | .eightF _ _ fr => live fr
  | _ => 0
theorem live_wrap {cx : Cx4} {c : R} : live (wrapF cx c) = live c := by cases cx <;> rfl
theorem C4.kd {w : Bool} {x c : R} {n rr : D} {t0 t1 : Nat} {g : Bool} (h : C4 w x c n t0 t1 rr g) : c.kd = .four := by cases h <;> rfl
theorem Told.sm4 {a b c d : Int} {rdy bg : Bool} {x : R} {n : Nat} {m m' : Int} {r' : R} {ans : Ans} (h : Told n (.four a b c d rdy bg x) m r' m' ans) : Sm a ∧ Sm b ∧ Sm c ∧ Sm d := by
  cases h <;> exact ⟨by assumption, by assumption, by assumption, by assumption⟩
theorem Told.sm8 {a b c d e f g h : Int} {m0 m1 : Nat} {bg : Bool} {x y : R} {n : Nat} {m m' : Int} {r' : R} {ans : Ans} (t : Told n (.eight a b c d e f g h m0 m1 bg x y) m r' m' ans) : Sm8 a b c d e f g h := by
  cases t <;> assumption
theorem cut_to3 {xs : List D} (k : Nat) : cutD xs none (some (k : Int)) = xs.take k := by
  unfold cutD
  rw [HT.sIx_nat, HT.sIx_none, List.drop_zero, Nat.sub_zero]
  by_cases h : k ≤ xs.length
  · rw [Nat.min_eq_left h]
  · rw [Nat.min_eq_right (by omega), List.take_of_length_le (Nat.le_refl _), List.take_of_length_le (by omega)]
theorem tk_at {w : Bool} {o k : Nat} : atI [D.int (cond w o k : Nat), D.int (cond w k o : Nat)] (bI w) = some (.int (k : Int)) := by cases w <;> rfl
theorem set_at {w : Bool} {o k : Nat} : ([D.int (cond w o k : Nat), D.int (cond w k o : Nat)]).set (cond w 1 0) (.int ((k : Int) + 1)) = [D.int (cond w o (k + 1) : Nat), D.int (cond w (k + 1) o : Nat)] := by cases w <;> rfl
theorem ix_at {w : Bool} {x y : D} : ixN ([x, y] : List D).length (bI w) = some (cond w 1 0) := by cases w <;> rfl
theorem Lq.sm8 {K : Nat} {a b c d e f g h : Int} {m0 m1 : Nat} {bg : Bool} {x y : R} {m m' : Int} {r' : R} {ans : Ans} (t : Lq K (.eight a b c d e f g h m0 m1 bg x y) m r' m' ans) : Sm8 a b c d e f g h := by
  cases t with
  | fo h => cases h
  | one h => exact h.sm8
  | four h => exact h
  | in0 h => exact h
  | in1 h => exact h
theorem ei_re {Ω3 Ω4 Ω5 : Om} {p pt pp q0 q1 : Addr} {S0 S1 U : List Addr} {x y z r : R} {n rr : D} {t0 t1 : Nat} {g : Bool} {dm : List (Key × D)} {kd : Str} (w : Bool) (e3 : Ω5 p = some (.dic dm)) (e4 : Ω5 pt = some (.lst [.int t0, .int t1])) (hN : MN dm kd (.lst [.o q0, .o q1]) n 0 pt rr g) (hk : IsK kd) (hC : C8 (cond w x z) (cond w z y) r n t0 t1 rr g)
    (hx : MaO Ω3 q0 x S0) (hy : MaO Ω3 q1 y S1) (hz : MaO Ω4 (cond w q1 q0) z (cond w S1 S0)) (dj : Dj p pt S0 S1) (u : Own U p pt S0 S1) (hpp : pp ∉ U) (h34 : ∀ b, b ∉ cond w S1 S0 → b ≠ pp → Ω4 b = Ω3 b) (h45 : ∀ b, b ≠ p → b ≠ pt → Ω5 b = Ω4 b) : MaO Ω5 p r U := by
  have a0 : ∀ b ∈ S0, b ≠ p ∧ b ≠ pt ∧ b ≠ pp := fun b hb => ⟨fun z => dj.p1 (z ▸ hb), fun z => dj.t1 (z ▸ hb), fun z => hpp (z ▸ (u b).mpr (.inr (.inr (.inl hb))))⟩
  have a1 : ∀ b ∈ S1, b ≠ p ∧ b ≠ pt ∧ b ≠ pp := fun b hb => ⟨fun z => dj.p2 (z ▸ hb), fun z => dj.t2 (z ▸ hb), fun z => hpp (z ▸ (u b).mpr (.inr (.inr (.inr hb))))⟩
  cases w with
  | false => exact .ei e3 e4 hN hk hC (hz.keep fun b hb => h45 b (a0 b hb).1 (a0 b hb).2.1) (hy.keep fun b hb => (h45 b (a1 b hb).1 (a1 b hb).2.1).trans (h34 b (fun z => dj.dj b z hb) (a1 b hb).2.2)) dj u
  | true => exact .ei e3 e4 hN hk hC (hx.keep fun b hb => (h45 b (a0 b hb).1 (a0 b hb).2.1).trans (h34 b (fun z => dj.dj b hb z) (a0 b hb).2.2)) (hz.keep fun b hb => h45 b (a1 b hb).1 (a1 b hb).2.1) dj u
def F_mtold (M : Nat) : AF := fun ds Ω Q _ => ∃ (p pp : Addr) (r : R) (S : List Addr) (nn : Nat) (m m' : Int) (r' : R) (ans : Ans), ds = [.o p, .o pp] ∧ MaO Ω p r S ∧ r.lv ≤ M ∧ Ω pp = some (.lst [.int m]) ∧ pp ∉ S ∧ 0 ≤ m ∧ r.tk + m ≤ 2600 ∧ Told nn r m r' m' ans ∧ FinT Ω p pp S Q ans r' m'
structure It (Ω0 : Om) (p pp : Addr) (S : List Addr) (M : Nat) (Q : AQ) (ans : Ans) (m' : Int) (μ : Nat) (Ω : Om) (r : R) (m : Int) (r' : R) (K : Nat) : Prop where
  ma : MaO Ω p r S
  nl : r.kd ≠ .leaf
  lv : r.lv ≤ M
  pu : Ω pp = some (.lst [.int m])
  m0 : 0 ≤ m
  tk : r.tk + m ≤ 2600
  lq : Lq K r m r' m' ans
  fin : FinT Ω0 p pp S Q ans r' m'
  fr : ∀ b, b ∉ S → b ≠ pp → Ω b = Ω0 b
  mu : μ = 2 * K + live r
def I_told (Ω0 : Om) (p pp : Addr) (S : List Addr) (M : Nat) (Q : AQ) (ans : Ans) (m' : Int) : Nat → En → Om → Prop := fun μ ρ Ω => ∃ (r : R) (m : Int) (r' : R) (K : Nat) (z2 z3 z4 z5 z6 z7 z8 z9 : Option D), It Ω0 p pp S M Q ans m' μ Ω r m r' K ∧ ρ = [some (.o p), some (.o pp), z2, z3, z4, z5, z6, z7, z8, z9]
def M_tp (p pp : Addr) (wh : Int) (po : Option Int) (Ω0 : Om) (z5 z6 z7 z8 z9 : Option D) : En → Om → Prop := fun ρ Ω => ∃ z3 : Option D, Ω = Ω0 ∧ ρ = [some (.o p), some (.o pp), some (.int wh), z3, some (optD po), z5, z6, z7, z8, z9]
def M_tw (p pp : Addr) (w : Bool) (Ω0 : Om) (z8 : Option D) : En → Om → Prop := fun ρ Ω => ∃ z3 z4 z5 z6 z7 z9 : Option D, Ω = Ω0 ∧ ρ = [some (.o p), some (.o pp), some (.int (bI w)), z3, z4, z5, z6, z7, z8, z9]
theorem kind_of {Ω : Om} {p : Addr} {r : R} {S : List Addr} (h : MaO Ω p r S) : ∃ m kd, Ω p = some (.dic m) ∧ valD m (.inr "kind") = some (.str kd) ∧ ((r.kd = .leaf ∧ (kd = "fraction" ∨ kd = "root" ∨ kd = "ruled")) ∨ (r.kd ≠ .leaf ∧ IsK kd)) := by
  cases h with
  | mid e h1 => exact ⟨_, _, e, h1, .inr ⟨by simp [R.kd], .inl rfl⟩⟩
  | frac e e2 n h1 h2 => exact ⟨_, _, e, h1.k, .inl ⟨rfl, h2.elim .inl fun z => .inr (.inl z)⟩⟩
  | root e e2 n h1 => exact ⟨_, _, e, h1.k, .inl ⟨rfl, .inr (.inl rfl)⟩⟩
  | ruled e e2 n h1 => exact ⟨_, _, e, h1.k, .inl ⟨rfl, .inr (.inr rfl)⟩⟩
  | fo cx e e2 h1 h2 h3 =>
    refine ⟨_, _, e, h1.k, .inr ⟨?_, h2⟩⟩
    cases cx with
    | none => simp only [wrapF, h3.kd, ne_eq, reduceCtorEq, not_false_eq_true]
    | some z => simp [wrapF, R.kd]
  | ei e e2 h1 h2 h3 => exact ⟨_, _, e, h1.k, .inr ⟨by cases h3 <;> simp [R.kd], h2⟩⟩
theorem fx_shape {n : Nat} {t b : Int} {g : Bool} {m m' : Int} {r' : R} {ans : Ans} (h : Told n (.fixed t b g) m r' m' ans) : n = 0 ∧ ∃ t' b' g', r' = .fixed t' b' g' ∧ m' = m := by cases h <;> exact ⟨rfl, _, _, _, rfl, rfl⟩
theorem ins_at {cx : Cx4} {q : Addr} : ∃ xs, insF cx q = .lst xs ∧ atI xs (bI (wF cx)) = some (.o q) := by
  cases cx with
  | none => exact ⟨_, rfl, rfl⟩
  | some z => obtain ⟨w, q', y, T⟩ := z; cases w <;> exact ⟨_, rfl, rfl⟩
theorem wrap_lv {cx : Cx4} {c c' : R} (h : c'.lv ≤ c.lv) : (wrapF cx c').lv ≤ (wrapF cx c).lv := by
  cases cx with
  | none => exact h
  | some z => simp only [wrapF, R.lv]; omega
theorem wrap_tk {cx : Cx4} : ∃ off, ∀ c, (wrapF cx c).tk = off + c.tk := by
  cases cx with
  | none => exact ⟨0, fun c => by simp [wrapF]⟩
  | some z => exact ⟨z.2.2.1.tk, fun c => rfl⟩
theorem le_wrap {cx : Cx4} {c : R} : c.lv ≤ (wrapF cx c).lv := by
  cases cx with
  | none => exact Nat.le_refl _
  | some z => simp only [wrapF, R.lv]; omega
theorem wrap_nl {cx : Cx4} {c : R} (h : c.kd = .four) : (wrapF cx c).kd ≠ .leaf := by
  cases cx with
  | none => simp only [wrapF, h, ne_eq, reduceCtorEq, not_false_eq_true]
  | some z => simp [wrapF, R.kd]
theorem fo_re {Ω1 Ω2 Ω3 : Om} {cx : Cx4} {p pt q : Addr} {S1 U : List Addr} {x' c' : R} {n rr : D} {t0 t1 : Nat} {g : Bool} {dm : List (Key × D)} {kd : Str} (e3 : Ω3 p = some (.dic dm)) (e4 : Ω3 pt = some (.lst [.int t0, .int t1])) (hN : MN dm kd (insF cx q) n (bI (wF cx)) pt rr g) (hk : IsK kd) (hC : C4 (wF cx) x' c' n t0 t1 rr g) (hx : MaO Ω2 q x' S1)
    (hcx : ∀ c, cx = some c → MaO Ω1 c.2.1 c.2.2.1 c.2.2.2) (dj : Dj p pt S1 (ownX cx)) (u : Own U p pt S1 (ownX cx)) (h12 : ∀ b, b ∈ ownX cx → Ω2 b = Ω1 b) (h23 : ∀ b, b ≠ p → b ≠ pt → Ω3 b = Ω2 b) : MaO Ω3 p (wrapF cx c') U :=
  .fo cx e3 e4 hN hk hC (hx.keep fun b hb => h23 b (fun z => dj.p1 (z ▸ hb)) (fun z => dj.t1 (z ▸ hb)))
    (fun c hc => (hcx c hc).keep fun b hb => by
      have hb : b ∈ ownX cx := by rw [hc]; exact hb
      rw [h23 b (fun z => dj.p2 (z ▸ hb)) (fun z => dj.t2 (z ▸ hb)), h12 b hb]) dj u
theorem told_step (T : Txt K mg C) {j M : Nat} (hj : 5 ≤ j) {Fp : AF} (c_self : Clb P w K mg base ca j "_law_told" Fp) (hF : ∀ (q pp : Addr) (x : R) (S : List Addr) (nn : Nat) (m m' : Int) (x' : R) (a : Ans) Ω Q E, MaO Ω q x S → x.lv < M → Ω pp = some (.lst [.int m]) → pp ∉ S → 0 ≤ m → x.tk + m ≤ 2600 → Told nn x m x' m' a → FinT Ω q pp S Q a x' m' → Fp [.o q, .o pp] Ω Q E) : Clb P w K mg base ca (j + 1) "_law_told" (F_mtold M) := by
  refine clb T.d_law_told sc__law_told (fun ds Ω Q E h => ?_) (fun f cdv A outer s H E hr => ⟨_, _, (ass_cons (as_if (at_notInD (u65 hr) (ae_dget hr.units (ae_var 0) ae_str) (ae_lst (aa_cons ae_str (aa_cons ae_str aa_nil)))) (ass_one (as_ret (ae_call (c_law_leaf_told T) hr (takes_of rfl rfl rfl rfl) (by omega) (aa_cons (ae_var 0) (aa_cons (ae_var 1) aa_nil))))) ass_nil)
      (ass_cons (as_while (passes_of rfl) (at_isN (ae_dget hr.units (ae_var 0) ae_str)) (ass_cons (as_set 2 sc__law_told.nd (ae_dget hr.units (ae_var 0) ae_str))
      (ass_cons (as_set 3 sc__law_told.nd (ae_ix (ae_lst (aa_cons (ae_gt (ae_ix (ae_dget hr.units (ae_var 0) ae_str) (ae_var 2)) ae_int) (aa_cons (ae_notInI ae_int (ae_dget hr.units (ae_var 0) ae_str)) aa_nil))) (ae_intB rfl T.b_int (ae_eqI (ae_len rfl T.b_len (ae_dget hr.units (ae_var 0) ae_str)) ae_int))))
      (ass_cons (as_set 4 sc__law_told.nd ae_non)
      (ass_cut (as_if (at_val (ae_var 3)) (ass_one (as_set 4 sc__law_told.nd (ae_call (c_law_sure T) hr (takes_of rfl rfl rfl rfl) (by omega) (aa_cons (ae_call (c_law_corners T) hr (takes_of rfl rfl rfl rfl) (by omega) (aa_cons (ae_dget hr.units (ae_var 0) ae_str) aa_nil)) aa_nil)))) ass_nil)
      (ass_cons (as_if (at_notN (ae_var 4)) (ass_cons (as_set 5 sc__law_told.nd (ae_fdv (div_of hr) (ae_len rfl T.b_len (ae_dget hr.units (ae_var 0) ae_str)) ae_int))
      (ass_cons (as_set 6 sc__law_told.nd (ae_sl (ae_dget hr.units (ae_var 0) ae_str) ao_none (ao_some (ae_var 5))))
      (ass_cons (as_set 7 sc__law_told.nd (ae_sl (ae_dget hr.units (ae_var 0) ae_str) (ao_some (ae_var 5)) ao_none))
      (ass_cons (as_dput hr.units (ae_catT (ae_var 7) (ae_tuple rfl T.b_tuple (ae_lcR rfl sc__law_told.nd rfl T.b_range (ae_var 5) (show BlkOk ["_law_m", "_law_purse", "_law_which", "_law_ready", "_law_part", "_law_half", "_law_ahead", "_law_under", "_law_got", "_law_k"] (defScope s__law_told) _ [("_law_k", 9)] from blkOk_by (by decide +kernel)) (wip_name (by decide)) (fun s1 H1 C1 cl1 fp1 => (ag_name (i := 9) sc__law_told.nd rfl (Or.inl rfl))) (fun s1 H1 C1 cl1 fp1 => AE.cast (ae_sub (ae_ix (ae_var 6) (ae_var 9)) (ae_mul (ae_var 4) (ae_ix (ae_var 7) (ae_var 9)))) (by first | (dsimp only [Blk, Cx.blk]; done) | rfl))))) (ae_var 0) ae_str)
      (ass_cons (as_dput hr.units ae_bl (ae_var 0) ae_str)
      (ass_one (as_ret (ae_tup (aa_cons ae_str (aa_cons (ae_var 4) aa_nil)))))))))) ass_nil)
      (ass_cut (as_if (at_eqI (ae_len rfl T.b_len (ae_dget hr.units (ae_var 0) ae_str)) ae_int) (ass_one (as_set 2 sc__law_told.nd (ae_intB rfl T.b_int (ae_lt (ae_ix (ae_dget hr.units (ae_var 0) ae_str) ae_int) (ae_ix (ae_dget hr.units (ae_var 0) ae_str) ae_int))))) ass_nil)
      (ass_cons (as_set 8 sc__law_told.nd (ae_call c_self hr (takes_of rfl rfl rfl rfl) (by omega) (aa_cons (ae_ix (ae_dget hr.units (ae_var 0) ae_str) (ae_var 2)) (aa_cons (ae_var 1) aa_nil))))
      (ass_one (as_if (at_eqS (ae_ix (ae_var 8) ae_int) ae_str) (ass_one (as_expr (ae_call (c_law_ended T) hr (takes_of rfl rfl rfl rfl) (by omega) (aa_cons (ae_var 0) (aa_cons (ae_var 2) aa_nil))))) (ass_one (as_if (at_neS (ae_ix (ae_var 8) ae_int) ae_str) (ass_one (as_ret (ae_var 8))) (ass_cons (as_dput hr.units (ae_call (c_law_moved T) hr (takes_of rfl rfl rfl rfl) (by omega) (aa_cons (ae_dget hr.units (ae_var 0) ae_str) (aa_cons (ae_var 2) (aa_cons (ae_ix (ae_var 8) ae_int) aa_nil)))) (ae_var 0) ae_str)
      (ass_one (as_setIx (ae_add (ae_ix (ae_dget hr.units (ae_var 0) ae_str) (ae_var 2)) ae_int) (ae_dget hr.units (ae_var 0) ae_str) (ae_var 2))))))))))))))))
      (ass_one (as_ret (ae_call (c_law_rest T) hr (takes_of rfl rfl rfl rfl) (by omega) (aa_cons (ae_var 0) aa_nil)))))), fun ds Ω Qa Ea h => ?_⟩)
  · obtain ⟨_, _, _, _, _, _, _, _, _, rfl, _⟩ := h
    rfl
  · obtain ⟨p, pp, r, S, nn, m, m', r', ans, rfl, hM, hl, hpp, hS, h0, hb, ht, fin⟩ := h
    walk_at "pl"
    obtain ⟨dm, kd, ep, ek, hkk⟩ := kind_of hM
    rcases hkk with ⟨hlf, hkd⟩ | ⟨hlf, hkd⟩
    · refine ⟨_, ep, _, ek, by decide, in_kind (b := false) (.inr ⟨rfl, hkd⟩) ⟨_, rfl, ?_⟩⟩
      rw [if_pos (by decide)]
      exact ⟨p, pp, r, S, nn, m, m', r', ans, rfl, hM, hlf, hpp, hS, h0, hb, ht, fin⟩
    refine ⟨_, ep, _, ek, by decide, in_kind (b := true) (.inl ⟨rfl, hkd⟩) ⟨_, rfl, ?_⟩⟩
    rw [if_neg (by decide)]
    obtain ⟨K0, hK0⟩ := lq_of ht hlf
    refine ⟨I_told Ω p pp S M Qa ans m', ⟨_, r, m, r', K0, none, none, none, none, none, none, none, none, ⟨hM, hlf, hl, hpp, h0, hb, hK0, fin, fun _ _ _ => rfl, rfl⟩, rfl⟩, ?_⟩
    have hpS : p ∈ S := hM.self
    have hpne : p ≠ pp := fun z => hS (z ▸ hpS)
    clear hK0 K0 ht hM hl hpp h0 hb hlf hkd ek ep kd dm nn fin
    clear r m r'
    rintro μ ρ Ω1 ⟨r, m, r', K, z2, z3, z4, z5, z6, z7, z8, z9, ⟨hM, hlf, hl, hpp, h0, hb, hq, fin, hfr, rfl⟩, rfl⟩
    walk_at "pl"
    cases hM with
    | frac => exact absurd rfl hlf
    | root => exact absurd rfl hlf
    | ruled => exact absurd rfl hlf
    | @mid _ dm t b g e h1 h2 h3 h4 h5 =>
      refine ⟨_, e, _, h3, ?_⟩
      rw [if_neg (by simp [pr, D.isNon])]
      cases hq with
      | fo hh => cases hh
      | fix hq =>
        obtain ⟨_, t', b', g', rfl, rfl⟩ := fx_shape hq
        exact ⟨p, dm, t, b, g, _, _, _, _, _, ans, rfl, e, h3, h4, h5, hq, fun m2 k1 k2 k3 k4 => fin _ (.mid oset_same ((k3 _ (by decide) (by decide)).trans h1) ((k3 _ (by decide) (by decide)).trans h2) k1 k2 k4) ((oset_ne hpne.symm).trans hpp) (fun v v1 v2 => (oset_ne (fun z => v1 (by rw [z]; simp))).trans (hfr v v1 v2))⟩
    | @fo _ pt q dm kd n t0 t1 rr g x S1 c U cx e e2 hN hk hC hx hcx dj u =>
      refine ⟨_, e, _, hN.r, ?_⟩
      obtain ⟨c', hT, rfl⟩ := hq.core hC.kd
      cases hC with
      | @fourX ft fb fg n t0 t1 =>
        rw [if_neg (by simp [pr, D.isNon])]
        cases hT with
        | fxX hT =>
          refine ⟨p, dm, ft, fb, g, _, _, _, _, _, ans, rfl, e, hN.r, hN.g, hN.len, hT, fun m2 k1 k2 k3 k4 => ?_⟩
          exact fin _ (fo_re oset_same ((oset_ne dj.ne.symm).trans e2) (hN.rest k1 k2 k3 k4) hk .fourX hx hcx dj u (fun _ _ => rfl) (fun v v1 _ => oset_ne v1)) ((oset_ne hpne.symm).trans (by rw [(fx_shape hT).2.choose_spec.choose_spec.choose_spec.2]; exact hpp)) (fun v v1 v2 => (oset_ne (fun (z : v = p) => v1 (z ▸ hpS))).trans (hfr v v1 v2))
      | @four a b c d g k o =>
        rw [if_pos (show D.isNon .non = true from rfl)]
        obtain ⟨sa, sb, sc, sd⟩ := hT.sm4
        have hn := hN.n
        unfold dtup at hn
        simp only [List.map_cons, List.map_nil] at hn
        have hml := hN.len
        have hml2 : ∀ x, (putD dm (.inr "numbers") x).length ≤ 20 := fun x => (hN.setN x).len
        have hptS : pt ∈ S := (u pt).mpr (.inr (.inl rfl))
        have hptpp : pt ≠ pp := fun z => hS (z ▸ hptS)
        have hSS : ∀ b, b ∉ S → b ∉ S1 := fun b h z => h ((u b).mpr (.inr (.inr (.inl z))))
        have hXS : ∀ b, b ∈ ownX cx → b ∉ S1 ∧ b ≠ pp := fun b h => ⟨fun z => dj.dj b z h, fun z => hS (z ▸ (u b).mpr (.inr (.inr (.inr h))))⟩
        have hppS : pp ∉ S1 := hSS _ hS
        refine ⟨_, e, _, hN.w, _, e, _, hN.t, _, seq_o e2, _, rfl, _, tk_at, _, rfl, _, e, _, hN.t, [((cond (wF cx) o k : Nat) : Int), ((cond (wF cx) k o : Nat) : Int)], by rw [seq_o e2]; rfl, by decide, _, e, _, hn, _, rfl, ?_⟩
        refine ⟨_, rfl, M_tp p pp (bI (wF cx)) (sure4 (decide (0 < k)) a b c d) Ω1 z5 z6 z7 z8 z9, ?_, ?_⟩
        · walk_at "pl"
          by_cases hk : 0 < k
          · rw [if_pos (by omega)]
            refine ⟨_, e, _, hN.n, .inl ⟨a, b, c, d, rfl, (a, c), [(a + b, c + d)], rfl, by simp, fun x hx => ?_, ?_⟩⟩
            · simp only [List.mem_cons, List.not_mem_nil, or_false] at hx
              rcases hx with rfl | rfl
              · exact ⟨sm_bg sa, sm_bg sc⟩
              · exact ⟨sm_bg2 sa sb, sm_bg2 sc sd⟩
            · unfold sure4
              rw [decide_eq_true hk, if_pos rfl]
              exact ⟨_, rfl, rfl⟩
          · rw [if_neg (by omega)]
            unfold sure4
            rw [decide_eq_false hk, if_neg (by decide)]
            exact ⟨_, rfl, rfl⟩
        rintro ρ Ω2 ⟨z3, rfl, rfl⟩
        walk_at "pl"
        cases hs : sure4 (decide (0 < k)) a b c d with
        | some q =>
          rw [if_pos (by simp [optD, D.isNon])]
          refine ⟨_, e, _, hn, _, rfl, (by decide : (2 : Int) ≠ 0), ?_⟩
          have hd : ((List.length [D.int a, D.int b, D.int c, D.int d] : Nat) : Int).fdiv 2 = 2 := by
            show ((4 : Nat) : Int).fdiv 2 = 2
            decide
          rw [hd]
          refine ⟨_, e, _, hn, .inr ⟨_, rfl, _, e, _, hn, .inr ⟨_, rfl, by decide, by decide, ?_⟩⟩⟩
          have ec : cutD [D.int a, D.int b, D.int c, D.int d] (some 2) none = [.int c, .int d] := cut_from 2
          have ec2 : cutD [D.int a, D.int b, D.int c, D.int d] none (some 2) = [.int a, .int b] := cut_to3 2
          rw [ec, ec2]
          have er2 : rngD 0 (Int.toNat 2) = [(0 : Int), 1].map D.int := rfl
          rw [er2]
          have hbq : IntMulOk q c ∧ IntMulOk q d := by
            have hqb : Bg q := by
              unfold sure4 at hs
              split at hs
              · obtain ⟨_, ⟨x, hx, ex⟩, _⟩ := belowAll_spec.mp hs
                rw [ex]
                refine Nat.lt_of_le_of_lt fdiv_le ?_
                simp only [List.mem_cons, List.not_mem_nil, or_false] at hx
                rcases hx with rfl | rfl
                · exact sm_bg sa
                · exact sm_bg2 sa sb
              · cases hs
            exact ⟨bg_mul hqb (sm_bg sc), bg_mul hqb (sm_bg sd)⟩
          refine compL_map D.int (fun k => .int ([a, b].getD k.toNat 0 - q * [c, d].getD k.toNat 0)) (fun Ω' => Ω' = Ω2) [0, 1] [] _ rfl (by decide) (fun v hv Ω' R Z hΩ hkk => ?_) (fun Ω' hΩ => ?_)
          · subst hΩ
            simp only [wipeA, aYes, optD]
            rcases (by simpa using hv : v = 0 ∨ v = 1) with rfl | rfl
            · walk_at "pl"
              exact ⟨hbq.1, hkk _ rfl⟩
            · walk_at "pl"
              exact ⟨hbq.2, hkk _ rfl⟩
          subst hΩ
          have tellc : Told 0 (.four a b c d (decide (0 < k)) g x) m (.four c d (a - q * c) (b - q * d) (decide (0 < k)) true x) m (.part q) := .foTell sa sb sc sd hs
          obtain ⟨rfl, rfl, rfl⟩ := tellc.det hT
          have hN2 := (hN.setN (dtup [c, d, a - q * c, b - q * d])).setG true
          refine ⟨_, rfl, by show 4 ≤ _; rw [sizeLine_eq]; decide, _, e, by omega, _, rfl, by have := hml2 (dtup [c, d, a - q * c, b - q * d]); exact Nat.lt_of_le_of_lt this (by decide), by decide, ?_⟩
          exact fin _ (fo_re oset_same ((oset_ne dj.ne.symm).trans e2) hN2 hk .four hx hcx dj u (fun _ _ => rfl) (fun v v1 _ => oset_ne v1)) ((oset_ne hpne.symm).trans hpp) (fun v v1 v2 => (oset_ne (fun (z : v = p) => v1 (z ▸ hpS))).trans (hfr v v1 v2))
        | none =>
          rw [if_neg (by simp [optD, D.isNon])]
          refine ⟨M_tw p pp (wF cx) Ω2 z8, ?_, ?_⟩
          · walk_at "pl"
            refine ⟨_, e, _, hn, _, rfl, ?_⟩
            rw [if_neg (show ¬ ((List.length [D.int a, D.int b, D.int c, D.int d] : Nat) : Int) = 8 from by show ¬ ((4 : Nat) : Int) = 8; decide)]
            exact ⟨_, _, _, _, _, _, rfl, rfl⟩
          rintro ρ Ω3 ⟨z3, z4, z5, z6, z7, z9, rfl, rfl⟩
          walk_at "pl"
          obtain ⟨xs, hxs, hat⟩ := ins_at (cx := cx) (q := q)
          have hi := hN.i
          rw [hxs] at hi
          refine ⟨_, e, _, hi, xs, rfl, _, hat, ?_⟩
          have hxl : x.lv < M := by have := le_wrap (cx := cx) (c := .four a b c d (decide (0 < k)) g x); simp only [R.lv] at this; omega
          obtain ⟨off, hoff⟩ := wrap_tk (cx := cx)
          have hxb : (x.tk : Int) + m ≤ 2600 := by rw [hoff] at hb; simp only [R.tk] at hb; omega
          have keep : ∀ {Ω4 : Om}, (∀ b, b ∉ S1 → b ≠ pp → Ω4 b = Ω3 b) → Ω4 p = some (.dic dm) ∧ Ω4 pt = some (.lst [.int (cond (wF cx) o k : Nat), .int (cond (wF cx) k o : Nat)]) ∧ (∀ b, b ∈ ownX cx → Ω4 b = Ω3 b) ∧ ∀ b, b ∉ S → b ≠ pp → Ω4 b = Ω b := fun h => ⟨(h p dj.p1 hpne).trans e, (h pt dj.t1 hptpp).trans e2, fun b hb => h b (hXS b hb).1 (hXS b hb).2, fun b h1 h2 => (h b (hSS b h1) h2).trans (hfr b h1 h2)⟩
          cases hT with
          | foTell _ _ _ _ hs2 => rw [hs] at hs2; cases hs2
          | foWait _ _ _ _ hs2 h2 =>
            refine hF q pp x S1 _ m _ _ .waits Ω3 _ _ hx hxl hpp hppS h0 hxb h2 (fun Ω4 hx4 hp4 hf4 => ?_)
            obtain ⟨k1, k2, k3, k4⟩ := keep hf4
            simp only [Ans.e, Ans.d]
            walk_at "pl"
            rw [if_neg (by decide), if_pos (by decide)]
            exact fin Ω4 (fo_re k1 k2 hN hk .four hx4 hcx dj u k3 (fun _ _ _ => rfl)) hp4 k4
          | foNo _ _ _ _ hs2 h2 =>
            refine hF q pp x S1 _ m _ _ .none Ω3 _ _ hx hxl hpp hppS h0 hxb h2 (fun Ω4 hx4 hp4 hf4 => ?_)
            obtain ⟨k1, k2, k3, k4⟩ := keep hf4
            simp only [Ans.e, Ans.d]
            walk_at "pl"
            rw [if_neg (by decide), if_pos (by decide)]
            exact fin Ω4 (fo_re k1 k2 hN hk .four hx4 hcx dj u k3 (fun _ _ _ => rfl)) hp4 k4
          | @foEnd _ _ _ _ _ _ _ _ i x' m1 t' b' g' _ _ _ _ _ _ hs2 h2 h3 =>
            refine hF q pp x S1 _ m _ _ .fin Ω3 _ _ hx hxl hpp hppS h0 hxb h2 (fun Ω4 hx4 hp4 hf4 => ?_)
            obtain ⟨k1, k2, k3, k4⟩ := keep hf4
            simp only [Ans.e, Ans.d]
            walk_at "pl"
            obtain ⟨hs1, hs2⟩ := h2.sum
            have hlv := h2.lv
            refine ⟨p, dm, kd, insF cx q, bI (wF cx), pt, .non, g, k1, .inl ⟨a, b, c, d, bI (wF cx), rfl, hN, fun m2 hN2 => ?_⟩⟩
            exact ⟨0, by rw [live_wrap]; simp [live], wrapF cx (.fourX x' a c g), m1, _, 0, _, _, _, _, _, _, _, _, ⟨fo_re oset_same ((oset_ne dj.ne.symm).trans k2) hN2 hk .fourX hx4 hcx dj u k3 (fun v v1 _ => oset_ne v1), wrap_nl rfl, Nat.le_trans (wrap_lv (by simp only [R.lv]; omega)) hl, (oset_ne hpne.symm).trans hp4, hs2 h0, by rw [hoff] at hb ⊢; simp only [R.tk] at hb ⊢; omega, Lq.wrap cx rfl (.fxX h3), fin, fun v v1 v2 => (oset_ne (fun (z : v = p) => v1 (z ▸ hpS))).trans (k4 v v1 v2), by rw [live_wrap]; rfl⟩, rfl⟩
          | @foIn _ _ _ _ _ _ _ _ i x' m1 q1 n1 _ _ _ _ _ _ _ hs2 h2 hq1 h3 =>
            refine hF q pp x S1 _ m _ _ (.part q1) Ω3 _ _ hx hxl hpp hppS h0 hxb h2 (fun Ω4 hx4 hp4 hf4 => ?_)
            obtain ⟨k1, k2, k3, k4⟩ := keep hf4
            simp only [Ans.e, Ans.d]
            walk_at "pl"
            obtain ⟨hs1, hs2⟩ := h2.sum
            have hlv := h2.lv
            rw [if_neg (by decide), if_neg (by decide)]
            have hN2 := fun x => hN.setN x
            have h1 : decide (0 < k + 1) = true := by simp
            rw [← h1] at h3
            refine ⟨_, k1, _, hN.n, .inl ⟨a, b, c, d, bI (wF cx), q1, rfl, sa, sb, sc, sd, hq1, ?_⟩⟩
            refine ⟨_, k1, by omega, _, rfl, _, (hN2 _).t, _, seq_o ((oset_ne dj.ne.symm).trans k2), _, tk_at, _, rfl, _, rfl, _, (hN2 _).t, pt, rfl, _, (oset_ne dj.ne.symm).trans k2, _, ix_at, ?_⟩
            rw [set_at]
            exact ⟨2 * n1 + 1, by rw [live_wrap]; simp only [live]; omega, wrapF cx (.four (a * q1 + b) a (c * q1 + d) c (decide (0 < k + 1)) g x'), m1, _, n1, _, _, _, _, _, _, _, _, ⟨fo_re ((oset_ne dj.ne).trans oset_same) oset_same (hN2 _) hk .four hx4 hcx dj u k3 (fun v v1 v2 => (oset_ne v2).trans (oset_ne v1)), wrap_nl rfl, Nat.le_trans (wrap_lv (by simp only [R.lv]; omega)) hl, (oset_ne hptpp.symm).trans ((oset_ne hpne.symm).trans hp4), hs2 h0, by rw [hoff] at hb ⊢; simp only [R.tk] at hb ⊢; omega, Lq.wrap cx rfl h3, fin, fun v v1 v2 => (oset_ne (fun (z : v = pt) => v1 (z ▸ hptS))).trans ((oset_ne (fun (z : v = p) => v1 (z ▸ hpS))).trans (k4 v v1 v2)), by rw [live_wrap]; rfl⟩, rfl⟩
    | @ei _ pt q0 q1 dm kd n t0 t1 rr g x y S0 S1 r U e e2 hN hk hC hx hy dj u =>
      refine ⟨_, e, _, hN.r, ?_⟩
      have hptS : pt ∈ S := (u pt).mpr (.inr (.inl rfl))
      have hptpp : pt ≠ pp := fun z => hS (z ▸ hptS)
      cases hC with
      | @eightX ft fb fg n t0 t1 =>
        rw [if_neg (by simp [pr, D.isNon])]
        cases hq with
        | fo hh => cases hh
        | x8 hT =>
          cases hT with
          | exX hT =>
            refine ⟨p, dm, ft, fb, g, _, _, _, _, _, ans, rfl, e, hN.r, hN.g, hN.len, hT, fun m2 k1 k2 k3 k4 => ?_⟩
            exact fin _ (.ei oset_same ((oset_ne dj.ne.symm).trans e2) (hN.rest k1 k2 k3 k4) hk .eightX (hx.keep fun v hv => oset_ne fun (z : v = p) => dj.p1 (z ▸ hv)) (hy.keep fun v hv => oset_ne fun (z : v = p) => dj.p2 (z ▸ hv)) dj u) ((oset_ne hpne.symm).trans (by rw [(fx_shape hT).2.choose_spec.choose_spec.choose_spec.2]; exact hpp)) (fun v v1 v2 => (oset_ne (fun (z : v = p) => v1 (z ▸ hpS))).trans (hfr v v1 v2))
      | @eight a b c d e' f' g' h' t0 t1 g =>
        rw [if_pos (show D.isNon .non = true from rfl)]
        have hsm := hq.sm8
        obtain ⟨sa, sb, sc, sd, se, sf, sg, sh⟩ := id hsm
        have hn := hN.n
        unfold dtup at hn
        simp only [List.map_cons, List.map_nil] at hn
        have hml := hN.len
        have hml2 : ∀ x, (putD dm (.inr "numbers") x).length ≤ 20 := fun x => (hN.setN x).len
        refine ⟨_, e, _, hN.w, _, e, _, hN.t, _, seq_o e2, _, rfl, _, rfl, _, rfl, _, e, _, hN.t, [(t0 : Int), (t1 : Int)], by rw [seq_o e2]; rfl, by decide, _, e, _, hn, _, rfl, ?_⟩
        refine ⟨_, rfl, M_tp p pp 0 (sure8 t0 t1 a b c d e' f' g' h') Ω1 z5 z6 z7 z8 z9, ?_, ?_⟩
        · walk_at "pl"
          have hz : (!decide ((0 : Int) ∈ [(t0 : Int), (t1 : Int)])) = true ↔ 0 < t0 ∧ 0 < t1 := by
            simp only [Bool.not_eq_true', decide_eq_false_iff_not, List.mem_cons, List.not_mem_nil, or_false, not_or]
            omega
          unfold sure8
          by_cases hk : 0 < t0 ∧ 0 < t1
          · rw [if_pos (hz.mpr hk), if_pos hk]
            refine ⟨_, e, _, hN.n, .inr ⟨a, b, c, d, e', f', g', h', rfl, (a, e'), [(a + b, e' + f'), (a + c, e' + g'), (a + b + c + d, e' + f' + g' + h')], rfl, by simp, fun x hx => ?_, ?_⟩⟩
            · simp only [List.mem_cons, List.not_mem_nil, or_false] at hx
              rcases hx with rfl | rfl | rfl | rfl
              · exact ⟨sm_bg sa, sm_bg se⟩
              · exact ⟨sm_bg2 sa sb, sm_bg2 se sf⟩
              · exact ⟨sm_bg2 sa sc, sm_bg2 se sg⟩
              · exact ⟨sm_bg4 sa sb sc sd, sm_bg4 se sf sg sh⟩
            · exact ⟨_, rfl, rfl⟩
          · rw [if_neg (fun z => hk (hz.mp z)), if_neg hk]
            exact ⟨_, rfl, rfl⟩
        rintro ρ Ω2 ⟨z3, rfl, rfl⟩
        walk_at "pl"
        cases hs : sure8 t0 t1 a b c d e' f' g' h' with
        | some q =>
          rw [if_pos (by simp [optD, D.isNon])]
          refine ⟨_, e, _, hn, _, rfl, (by decide : (2 : Int) ≠ 0), ?_⟩
          have hd : ((List.length [D.int a, D.int b, D.int c, D.int d, D.int e', D.int f', D.int g', D.int h'] : Nat) : Int).fdiv 2 = 4 := by
            show ((8 : Nat) : Int).fdiv 2 = 4
            decide
          rw [hd]
          refine ⟨_, e, _, hn, .inr ⟨_, rfl, _, e, _, hn, .inr ⟨_, rfl, by decide, by decide, ?_⟩⟩⟩
          have ec : cutD [D.int a, D.int b, D.int c, D.int d, D.int e', D.int f', D.int g', D.int h'] (some 4) none = [.int e', .int f', .int g', .int h'] := cut_from 4
          have ec2 : cutD [D.int a, D.int b, D.int c, D.int d, D.int e', D.int f', D.int g', D.int h'] none (some 4) = [.int a, .int b, .int c, .int d] := cut_to3 4
          rw [ec, ec2]
          have er2 : rngD 0 (Int.toNat 4) = [(0 : Int), 1, 2, 3].map D.int := rfl
          rw [er2]
          have hqb : Bg q := by
            unfold sure8 at hs
            split at hs
            · obtain ⟨_, ⟨x, hx, ex⟩, _⟩ := belowAll_spec.mp hs
              rw [ex]
              refine Nat.lt_of_le_of_lt fdiv_le ?_
              simp only [List.mem_cons, List.not_mem_nil, or_false] at hx
              rcases hx with rfl | rfl | rfl | rfl
              · exact sm_bg sa
              · exact sm_bg2 sa sb
              · exact sm_bg2 sa sc
              · exact sm_bg4 sa sb sc sd
            · cases hs
          refine compL_map D.int (fun k => .int ([a, b, c, d].getD k.toNat 0 - q * [e', f', g', h'].getD k.toNat 0)) (fun Ω' => Ω' = Ω2) [0, 1, 2, 3] [] _ rfl (by decide) (fun v hv Ω' R Z hΩ hkk => ?_) (fun Ω' hΩ => ?_)
          · subst hΩ
            simp only [wipeA, aYes, optD]
            rcases (by simpa using hv : v = 0 ∨ v = 1 ∨ v = 2 ∨ v = 3) with rfl | rfl | rfl | rfl
            · walk_at "pl"
              exact ⟨bg_mul hqb (sm_bg se), hkk _ rfl⟩
            · walk_at "pl"
              exact ⟨bg_mul hqb (sm_bg sf), hkk _ rfl⟩
            · walk_at "pl"
              exact ⟨bg_mul hqb (sm_bg sg), hkk _ rfl⟩
            · walk_at "pl"
              exact ⟨bg_mul hqb (sm_bg sh), hkk _ rfl⟩
          subst hΩ
          have tellc : Told 0 (.eight a b c d e' f' g' h' t0 t1 g x y) m (.eight e' f' g' h' (a - q * e') (b - q * f') (c - q * g') (d - q * h') t0 t1 true x y) m (.part q) := .etTell hsm hs
          have hT : Told 0 (.eight a b c d e' f' g' h' t0 t1 g x y) m r' m' ans := by
            cases hq with
            | fo hh => cases hh
            | one h => exact h
            | four _ hs2 => rw [hs] at hs2; cases hs2
            | in0 _ hs2 => rw [hs] at hs2; cases hs2
            | in1 _ hs2 => rw [hs] at hs2; cases hs2
          obtain ⟨rfl, rfl, rfl⟩ := tellc.det hT
          have hN2 := (hN.setN (dtup [e', f', g', h', a - q * e', b - q * f', c - q * g', d - q * h'])).setG true
          refine ⟨_, rfl, by show 8 ≤ _; rw [sizeLine_eq]; decide, _, e, by omega, _, rfl, by have := hml2 (dtup [e', f', g', h', a - q * e', b - q * f', c - q * g', d - q * h']); exact Nat.lt_of_le_of_lt this (by decide), by decide, ?_⟩
          exact fin _ (.ei oset_same ((oset_ne dj.ne.symm).trans e2) hN2 hk .eight (hx.keep fun v hv => oset_ne fun (z : v = p) => dj.p1 (z ▸ hv)) (hy.keep fun v hv => oset_ne fun (z : v = p) => dj.p2 (z ▸ hv)) dj u) ((oset_ne hpne.symm).trans hpp) (fun v v1 v2 => (oset_ne (fun (z : v = p) => v1 (z ▸ hpS))).trans (hfr v v1 v2))
        | none =>
          rw [if_neg (by simp [optD, D.isNon])]
          obtain ⟨w, hw⟩ : ∃ w, w = decide (t1 < t0) := ⟨_, rfl⟩
          refine ⟨M_tw p pp w Ω2 z8, ?_, ?_⟩
          · walk_at "pl"
            refine ⟨_, e, _, hn, _, rfl, ?_⟩
            rw [if_pos (show ((List.length [D.int a, D.int b, D.int c, D.int d, D.int e', D.int f', D.int g', D.int h'] : Nat) : Int) = 8 from rfl)]
            refine ⟨_, e, _, hN.t, _, seq_o e2, _, rfl, _, e, _, hN.t, _, seq_o e2, _, rfl, _, rfl, _, rfl, ?_⟩
            rw [which_eq hw]
            exact ⟨_, _, _, _, _, _, rfl, rfl⟩
          rintro ρ Ω3 ⟨z3, z4, z5, z6, z7, z9, rfl, rfl⟩
          walk_at "pl"
          have hat : atI [D.o q0, D.o q1] (bI w) = some (.o (cond w q1 q0)) := by cases w <;> rfl
          refine ⟨_, e, _, hN.i, _, rfl, _, hat, ?_⟩
          have hxw : MaO Ω3 (cond w q1 q0) (cond w y x) (cond w S1 S0) := by cases w; exact hx; exact hy
          have hxl : (cond w y x).lv < M := by simp only [R.lv] at hl; cases w <;> simp only [cond] <;> omega
          have hxb : ((cond w y x).tk : Int) + m ≤ 2600 := by simp only [R.tk] at hb; cases w <;> simp only [cond] <;> omega
          have hSS : ∀ b, b ∉ S → b ∉ cond w S1 S0 := fun b h z => h ((u b).mpr (by cases w; exact .inr (.inr (.inl z)); exact .inr (.inr (.inr z))))
          have hppS := hSS _ hS
          have hpw : p ∉ cond w S1 S0 ∧ pt ∉ cond w S1 S0 := by cases w; exact ⟨dj.p1, dj.t1⟩; exact ⟨dj.p2, dj.t2⟩
          have keep : ∀ {Ω4 : Om}, (∀ b, b ∉ cond w S1 S0 → b ≠ pp → Ω4 b = Ω3 b) → Ω4 p = some (.dic dm) ∧ Ω4 pt = some (.lst [.int t0, .int t1]) ∧ ∀ b, b ∉ S → b ≠ pp → Ω4 b = Ω b := fun h => ⟨(h p hpw.1 hpne).trans e, (h pt hpw.2 hptpp).trans e2, fun b h1 h2 => (h b (hSS b h1) h2).trans (hfr b h1 h2)⟩
          cases hq with
          | fo hh => cases hh
          | one hT hnf =>
            cases hT with
            | etTell _ hs2 => rw [hs] at hs2; cases hs2
            | etNo _ hs2 hw2 h2 =>
              rw [← hw] at hw2
              have hw3 := hw2.symm
              subst hw3
              refine hF _ pp _ _ _ m _ _ .none Ω3 _ _ hxw hxl hpp hppS h0 hxb h2 (fun Ω4 hx4 hp4 hf4 => ?_)
              obtain ⟨k1, k2, k4⟩ := keep hf4
              simp only [Ans.e, Ans.d]
              walk_at "pl"
              rw [if_neg (by decide), if_pos (by decide)]
              exact fin Ω4 (ei_re w k1 k2 hN hk .eight hx hy hx4 dj u hS hf4 (fun _ _ _ => rfl)) hp4 k4
            | etWait _ hs2 hw2 h2 =>
              rw [← hw] at hw2
              have hw3 := hw2.symm
              subst hw3
              refine hF _ pp _ _ _ m _ _ .waits Ω3 _ _ hxw hxl hpp hppS h0 hxb h2 (fun Ω4 hx4 hp4 hf4 => ?_)
              obtain ⟨k1, k2, k4⟩ := keep hf4
              simp only [Ans.e, Ans.d]
              walk_at "pl"
              rw [if_neg (by decide), if_pos (by decide)]
              exact fin Ω4 (ei_re w k1 k2 hN hk .eight hx hy hx4 dj u hS hf4 (fun _ _ _ => rfl)) hp4 k4
            | etFour => exact hnf.elim
            | @etFix _ _ _ _ _ _ _ _ _ _ _ _ _ _ w2 i z m2 tf bf t'' b'' g'' _ _ _ hs2 hw2 h2 hdet hte h3 =>
              rw [← hw] at hw2
              have hw3 := hw2.symm
              subst hw3
              refine hF _ pp _ _ _ m _ _ .fin Ω3 _ _ hxw hxl hpp hppS h0 hxb h2 (fun Ω4 hx4 hp4 hf4 => ?_)
              obtain ⟨k1, k2, k4⟩ := keep hf4
              obtain ⟨hs1, hs3⟩ := h2.sum
              have hlv := h2.lv
              simp only [Ans.e, Ans.d]
              walk_at "pl"
              refine ⟨p, dm, kd, _, 0, pt, .non, g, k1, .inr ⟨a, b, c, d, e', f', g', h', w, rfl, hN, hsm, fun hdet2 => absurd hdet hdet2, fun _ t0' b0' m3 he hN2 => ?_⟩⟩
              obtain ⟨rfl, rfl⟩ := Prod.mk.inj (he.trans hte.symm)
              refine ⟨0, by simp [live], .eightX (cond w x z) (cond w z y) t0' b0' g, m2, _, 0, _, _, _, _, _, _, _, _, ⟨ei_re w oset_same ((oset_ne dj.ne.symm).trans k2) hN2 hk .eightX hx hy hx4 dj u hS hf4 (fun v v1 _ => oset_ne v1), by simp [R.kd], ?_, (oset_ne hpne.symm).trans hp4, hs3 h0, ?_, .x8 (.exX h3), fin, fun v v1 v2 => (oset_ne (fun (z : v = p) => v1 (z ▸ hpS))).trans (k4 v v1 v2), rfl⟩, rfl⟩
              · simp only [R.lv] at hl ⊢; cases w <;> simp only [cond] at hlv ⊢ <;> omega
              · simp only [R.tk] at hb ⊢; cases w <;> simp only [cond] at hs1 ⊢ <;> omega
          | @four _ _ _ _ _ _ _ _ _ _ _ _ _ _ w2 i z m2 n1 fr _ _ _ hs2 hw2 h2 hdet h3 =>
            rw [← hw] at hw2
            have hw3 := hw2.symm
            subst hw3
            refine hF _ pp _ _ _ m _ _ .fin Ω3 _ _ hxw hxl hpp hppS h0 hxb h2 (fun Ω4 hx4 hp4 hf4 => ?_)
            obtain ⟨k1, k2, k4⟩ := keep hf4
            obtain ⟨hs1, hs3⟩ := h2.sum
            have hlv := h2.lv
            simp only [Ans.e, Ans.d]
            walk_at "pl"
            refine ⟨p, dm, kd, _, 0, pt, .non, g, k1, .inr ⟨a, b, c, d, e', f', g', h', w, rfl, hN, hsm, fun hdet2 m3 hN2 => ?_, fun hdet2 => absurd hdet2 hdet⟩⟩
            refine ⟨2 * n1 + 1, by simp only [live]; omega, .eightF w z (.four a (cond w c b) e' (cond w g' f') (decide (0 < cond w t0 t1)) g (cond w x y)), m2, _, n1, _, _, _, _, _, _, _, _, ⟨?_, by simp [R.kd], ?_, (oset_ne hpne.symm).trans hp4, hs3 h0, ?_, .fF rfl h3, fin, fun v v1 v2 => (oset_ne (fun (z : v = p) => v1 (z ▸ hpS))).trans (k4 v v1 v2), rfl⟩, rfl⟩
            · have a0 : ∀ b ∈ S0, b ≠ p ∧ b ≠ pp := fun b hb => ⟨fun z => dj.p1 (z ▸ hb), fun z => hS (z ▸ (u b).mpr (.inr (.inr (.inl hb))))⟩
              have a1 : ∀ b ∈ S1, b ≠ p ∧ b ≠ pp := fun b hb => ⟨fun z => dj.p2 (z ▸ hb), fun z => hS (z ▸ (u b).mpr (.inr (.inr (.inr hb))))⟩
              cases w with
              | true =>
                exact .fo (x := x) (S := S0) (q := q0) (some (false, q1, z, S1)) oset_same ((oset_ne dj.ne.symm).trans k2) hN2 hk (.four (w := false) (k := t0) (o := t1)) (hx.keep fun b hb => (oset_ne (a0 b hb).1).trans (hf4 b (fun z => dj.dj b hb z) (a0 b hb).2)) (fun c hc => by cases hc; exact hx4.keep fun b hb => oset_ne (a1 b hb).1) dj u
              | false =>
                exact .fo (x := y) (S := S1) (q := q1) (some (true, q0, z, S0)) oset_same ((oset_ne dj.ne.symm).trans k2) hN2 hk (.four (w := true) (k := t1) (o := t0)) (hy.keep fun b hb => (oset_ne (a1 b hb).1).trans (hf4 b (fun z => dj.dj b z hb) (a1 b hb).2)) (fun c hc => by cases hc; exact hx4.keep fun b hb => oset_ne (a0 b hb).1) ⟨dj.ne, dj.p2, dj.t2, dj.p1, dj.t1, fun b h1 h2 => dj.dj b h2 h1⟩ (fun b => (u b).trans ⟨fun h => h.elim .inl fun h => h.elim (fun h => .inr (.inl h)) fun h => h.elim (fun h => .inr (.inr (.inr h))) fun h => .inr (.inr (.inl h)), fun h => h.elim .inl fun h => h.elim (fun h => .inr (.inl h)) fun h => h.elim (fun h => .inr (.inr (.inr h))) fun h => .inr (.inr (.inl h))⟩)
            · simp only [R.lv] at hl ⊢; cases w <;> simp only [cond] at hlv ⊢ <;> omega
            · simp only [R.tk] at hb ⊢; cases w <;> simp only [cond] at hs1 ⊢ <;> omega
          | @in0 _ _ _ _ _ _ _ _ _ _ _ _ _ _ i z m2 qq n1 _ _ _ _ hs2 hlt2 h2 hqq h3 =>
            have hw2 : w = false := by rw [hw, decide_eq_false hlt2]
            subst hw2
            refine hF _ pp _ _ _ m _ _ (.part qq) Ω3 _ _ hxw hxl hpp hppS h0 hxb h2 (fun Ω4 hx4 hp4 hf4 => ?_)
            obtain ⟨k1, k2, k4⟩ := keep hf4
            obtain ⟨hs1, hs3⟩ := h2.sum
            have hlv := h2.lv
            simp only [Ans.e, Ans.d]
            walk_at "pl"
            rw [if_neg (by decide), if_neg (by decide)]
            have hN2 := fun x => hN.setN x
            refine ⟨_, k1, _, hN.n, .inr ⟨a, b, c, d, e', f', g', h', qq, false, rfl, hsm, hqq, ?_⟩⟩
            refine ⟨_, k1, by omega, _, rfl, _, (hN2 _).t, _, seq_o ((oset_ne dj.ne.symm).trans k2), _, rfl, _, rfl, _, rfl, _, (hN2 _).t, pt, rfl, _, (oset_ne dj.ne.symm).trans k2, 0, rfl, ?_⟩
            simp only [cond] at hs1 hlv hf4
            exact ⟨2 * n1 + 1, by simp only [live]; omega, .eight (a * qq + c) (b * qq + d) a b (e' * qq + g') (f' * qq + h') e' f' (t0 + 1) t1 g z y, m2, _, n1, _, _, _, _, _, _, _, _, ⟨ei_re false ((oset_ne dj.ne).trans oset_same) oset_same (hN2 _) hk .eight hx hy hx4 dj u hS hf4 (fun v v1 v2 => (oset_ne v2).trans (oset_ne v1)), by simp [R.kd], by simp only [R.lv] at hl ⊢; omega, (oset_ne hptpp.symm).trans ((oset_ne hpne.symm).trans hp4), hs3 h0, by simp only [R.tk] at hb ⊢; omega, h3, fin, fun v v1 v2 => (oset_ne (fun (z : v = pt) => v1 (z ▸ hptS))).trans ((oset_ne (fun (z : v = p) => v1 (z ▸ hpS))).trans (k4 v v1 v2)), rfl⟩, rfl⟩
          | @in1 _ _ _ _ _ _ _ _ _ _ _ _ _ _ i z m2 qq n1 _ _ _ _ hs2 hlt2 h2 hqq h3 =>
            have hw2 : w = true := by rw [hw, decide_eq_true hlt2]
            subst hw2
            refine hF _ pp _ _ _ m _ _ (.part qq) Ω3 _ _ hxw hxl hpp hppS h0 hxb h2 (fun Ω4 hx4 hp4 hf4 => ?_)
            obtain ⟨k1, k2, k4⟩ := keep hf4
            obtain ⟨hs1, hs3⟩ := h2.sum
            have hlv := h2.lv
            simp only [Ans.e, Ans.d]
            walk_at "pl"
            rw [if_neg (by decide), if_neg (by decide)]
            have hN2 := fun x => hN.setN x
            refine ⟨_, k1, _, hN.n, .inr ⟨a, b, c, d, e', f', g', h', qq, true, rfl, hsm, hqq, ?_⟩⟩
            refine ⟨_, k1, by omega, _, rfl, _, (hN2 _).t, _, seq_o ((oset_ne dj.ne.symm).trans k2), _, rfl, _, rfl, _, rfl, _, (hN2 _).t, pt, rfl, _, (oset_ne dj.ne.symm).trans k2, 1, rfl, ?_⟩
            simp only [cond] at hs1 hlv hf4
            exact ⟨2 * n1 + 1, by simp only [live]; omega, .eight (a * qq + b) a (c * qq + d) c (e' * qq + f') e' (g' * qq + h') g' t0 (t1 + 1) g x z, m2, _, n1, _, _, _, _, _, _, _, _, ⟨ei_re true ((oset_ne dj.ne).trans oset_same) oset_same (hN2 _) hk .eight hx hy hx4 dj u hS hf4 (fun v v1 v2 => (oset_ne v2).trans (oset_ne v1)), by simp [R.kd], by simp only [R.lv] at hl ⊢; omega, (oset_ne hptpp.symm).trans ((oset_ne hpne.symm).trans hp4), hs3 h0, by simp only [R.tk] at hb ⊢; omega, h3, fin, fun v v1 v2 => (oset_ne (fun (z : v = pt) => v1 (z ▸ hptS))).trans ((oset_ne (fun (z : v = p) => v1 (z ▸ hpS))).trans (k4 v v1 v2)), rfl⟩, rfl⟩
theorem c_law_told (T : Txt K mg C) : ∀ M : Nat, Clb P w K mg base ca (M + 7) "_law_told" (F_mtold M)
  | 0 => told_step T (by decide) (clb_none T.d_law_told 6) (fun _ _ _ _ _ _ _ _ _ _ _ _ _ h => by omega)
  | M + 1 => told_step T (by omega) (c_law_told T M) (fun q pp x S nn m m' x' a Ω Q E h hl h1 h2 h3 h4 h5 h6 => ⟨q, pp, x, S, nn, m, m', x', a, rfl, h, by omega, h1, h2, h3, h4, h5, h6⟩)
theorem good_up : ∀ {k : Nat} {tr : Tr}, tr.good k → tr.good (k + 1)
  | 0, tr, h => by cases tr <;> exact h.elim
  | k + 1, .frac _ _, h => h
  | k + 1, .root _ _ _, h => h
  | k + 1, .ruled _ _ _, h => h
  | k + 1, .four _ _ _ _ _, h => ⟨h.1, h.2.1, h.2.2.1, h.2.2.2.1, h.2.2.2.2.1, good_up h.2.2.2.2.2⟩
  | k + 1, .eight _ _ _ _ _ _ _ _ _ _, h => ⟨h.1, h.2.1, good_up h.2.2.1, good_up h.2.2.2⟩
  | k + 1, .power _ _, h => ⟨h.1, h.2.1, good_up h.2.2⟩
def AptL : List Int → Prop
  | [a, b, c, d] => a * d ≠ b * c
  | [a, b, c, d, e, f, g, h] => b * e ≠ a * f ∨ c * e ≠ a * g ∨ c * f ≠ b * g ∨ d * e ≠ a * h ∨ d * f ≠ b * h ∨ d * g ≠ c * h
  | _ => False
theorem apt_of {ns : List Int} {h i j : Nat} (hl : ns.length = 2 * h) (hh : h = 2 ∨ h = 4) (hi : i < h) (hj : j < i) (ne : ¬ (ns.getD i 0 * ns.getD (h + j) 0 = ns.getD j 0 * ns.getD (h + i) 0)) : AptL ns := by
  rcases hh with rfl | rfl
  · match ns, hl with
    | [a, b, c, d], _ =>
      obtain rfl : i = 1 := by omega
      obtain rfl : j = 0 := by omega
      exact fun z => ne z.symm
  · match ns, hl with
    | [a, b, c, d, e, f', g, h'], _ =>
      rcases (by omega : (i = 1 ∧ j = 0) ∨ (i = 2 ∧ j = 0) ∨ (i = 2 ∧ j = 1) ∨ (i = 3 ∧ j = 0) ∨ (i = 3 ∧ j = 1) ∨ (i = 3 ∧ j = 2)) with ⟨rfl, rfl⟩ | ⟨rfl, rfl⟩ | ⟨rfl, rfl⟩ | ⟨rfl, rfl⟩ | ⟨rfl, rfl⟩ | ⟨rfl, rfl⟩
      · exact .inl ne
      · exact .inr (.inl ne)
      · exact .inr (.inr (.inl ne))
      · exact .inr (.inr (.inr (.inl ne)))
      · exact .inr (.inr (.inr (.inr (.inl ne))))
      · exact .inr (.inr (.inr (.inr (.inr ne))))
def F_apart : AF := fun ds Ω Q _ => ∃ (ns : List Int) (h : Nat), ds = [dtup ns] ∧ ns.length = 2 * h ∧ (h = 2 ∨ h = 4) ∧ (∀ n ∈ ns, Few n) ∧ ∀ b : Bool, (b = true → AptL ns) → Q (.bl b) Ω
def P_ap1 (ns : List Int) (h : Nat) (Ω : Om) : List D → En → Om → Prop := fun us ρ Ω' => ∃ (i l : Nat) (z1 z2 : Option D), us = rngD (i : Int) l ∧ i + l = h ∧ Ω' = Ω ∧ ρ = [some (dtup ns), some (.int h), z1, z2]
def P_ap2 (ns : List Int) (h i : Nat) (Ω : Om) : List D → En → Om → Prop := fun us ρ Ω' => ∃ (j l : Nat) (z2 : Option D), us = rngD (j : Int) l ∧ j + l = i ∧ Ω' = Ω ∧ ρ = [some (dtup ns), some (.int h), some (.int i), z2]
theorem c_law_apart (T : Txt K mg C) : Clb P w K mg base ca 1 "_law_apart" F_apart := by
  refine clb T.d_law_apart sc__law_apart (fun ds Ω Q E h => ?_) (fun f cdv A outer s H E hr => ⟨_, _, (ass_cons (as_set 1 sc__law_apart.nd (ae_fdv (div_of hr) (ae_len rfl T.b_len (ae_var 0)) ae_int))
      (ass_cons (as_forR1 (passes_of rfl) rfl rfl T.b_range (ae_var 1) (ag_name (i := 2) sc__law_apart.nd rfl (Or.inl rfl)) (ass_one (as_forR1 (passes_of rfl) rfl rfl T.b_range (ae_var 2) (ag_name (i := 3) sc__law_apart.nd rfl (Or.inl rfl)) (ass_one (as_if (at_neI (ae_mul (ae_ix (ae_var 0) (ae_var 2)) (ae_ix (ae_var 0) (ae_add (ae_var 1) (ae_var 3)))) (ae_mul (ae_ix (ae_var 0) (ae_var 3)) (ae_ix (ae_var 0) (ae_add (ae_var 1) (ae_var 2))))) (ass_one (as_ret ae_bl)) ass_nil)))))
      (ass_one (as_ret ae_bl)))), fun ds Ω Qa Ea h => ?_⟩)
  · obtain ⟨_, _, rfl, _⟩ := h
    rfl
  · obtain ⟨ns, h, rfl, hl, hh, hm, k⟩ := h
    unfold dtup
    walk_at "pl"
    have e2 : ((List.length (ns.map D.int) : Nat) : Int).fdiv 2 = (h : Nat) := by
      rw [List.length_map, hl, Int.fdiv_eq_ediv_of_nonneg _ (by decide)]
      omega
    rw [e2]
    refine ⟨by unfold NoPy; decide, by omega, by omega, ?_⟩
    rw [Int.toNat_natCast]
    have e4 : rngD 0 h = rngD ((0 : Nat) : Int) h := rfl
    rw [e4]
    refine forL_ind (P_ap1 ns h Ω) ⟨0, h, none, none, rfl, by omega, rfl, rfl⟩ ?_ ?_
    · rintro ρ Ω' ⟨i, l, z1, z2, hu, hi, rfl, rfl⟩
      walk_at "pl"
      exact k false (fun z => by cases z)
    · rintro x us ρ Ω' De e1 ih _ _ ⟨i, l, z1, z2, hu, hi, rfl, rfl⟩
      obtain ⟨l', rfl, rfl, rfl⟩ := rng_step hu
      walk_at "pl"
      refine ⟨by omega, by omega, ?_⟩
      have e0 : rngD 0 i = rngD ((0 : Nat) : Int) i := rfl
      rw [e0]
      refine forL_ind (P_ap2 ns h i Ω') ⟨0, i, z2, rfl, by omega, rfl, rfl⟩ ?_ ?_
      · rintro ρ Ω2 ⟨j, l, z2, hu, hj, rfl, rfl⟩
        exact ih _ _ ⟨i + 1, l', _, z2, by rw [Int.natCast_add]; rfl, by omega, rfl, rfl⟩
      · rintro x us ρ Ω2 De2 e2' ih2 _ _ ⟨j, l, z2, hu, hj, rfl, rfl⟩
        obtain ⟨l2, rfl, rfl, rfl⟩ := rng_step hu
        unfold dtup
        walk_at "pl"
        have at_ : ∀ t : Nat, t < 2 * h → atI (ns.map D.int) (t : Int) = some (.int (ns.getD t 0)) := fun t ht => getD_at (by omega) rfl
        have mm : ∀ s t : Nat, s < 2 * h → t < 2 * h → IntMulOk (ns.getD s 0) (ns.getD t 0) := fun s t hs ht => few_mul (hm _ (getD_mem (by omega))) (hm _ (getD_mem (by omega)))
        have c4 : ∀ t : Nat, (h : Int) + t = ((h + t : Nat) : Int) := fun t => by omega
        rw [c4, c4]
        refine ⟨_, at_ i (by omega), _, at_ (h + j) (by omega), _, rfl, _, rfl, mm i (h + j) (by omega) (by omega), _, at_ j (by omega), _, at_ (h + i) (by omega), _, rfl, _, rfl, mm j (h + i) (by omega) (by omega), ite2 (fun hne => ?_) (fun _ => ih2 _ _ ⟨j + 1, l2, _, by rw [Int.natCast_add]; rfl, by omega, rfl, rfl⟩)⟩
        rw [e2', e1]
        have hne' : ¬ (ns.getD i 0 * ns.getD (h + j) 0 = ns.getD j 0 * ns.getD (h + i) 0) := by simpa using hne
        exact k true fun _ => apt_of hl hh (by omega) (by omega) hne'
def F_lnums : AF := fun ds Ω Q _ => ∃ (p : Addr) (h : Nat), ds = [.o p, .int (2 * h : Nat)] ∧ Ω p = some .row ∧ (h = 2 ∨ h = 4) ∧ ∀ ns : List Int, ns.length = 2 * h → (∀ n ∈ ns, Few n) → AptL ns → Q (dtup ns) Ω
def M_lnums (p : Addr) (h : Nat) (Ω : Om) : En → Om → Prop := fun ρ Ω' => ∃ (ns : List Int) (z2 z4 z5 : Option D), ns.length = 2 * h ∧ (∀ n ∈ ns, Few n) ∧ Ω' = Ω ∧ ρ = [some (.o p), some (.int (2 * h : Nat)), z2, some (dtup ns), z4, z5]
theorem c_law_numbers (T : Txt K mg C) : Clb P w K mg base ca 3 "_law_numbers" F_lnums := by
  refine clb T.d_law_numbers sc__law_numbers (fun ds Ω Q E h => ?_) (fun f cdv A outer s H E hr => ⟨_, _, (ass_cons (as_set 2 sc__law_numbers.nd (ae_ix (ae_lst (aa_cons ae_int (aa_cons ae_int (aa_cons ae_int (aa_cons ae_int (aa_cons (ae_powB ae_int ae_int) aa_nil)))))) (ae_call (c_law_taken T) hr (takes_of rfl rfl rfl rfl) (by omega) (aa_cons (ae_var 0) (aa_cons ae_int aa_nil)))))
      (ass_cut (as_set 3 sc__law_numbers.nd (ae_tuple rfl T.b_tuple (ae_lcR rfl sc__law_numbers.nd rfl T.b_range (ae_var 1) (show BlkOk ["_law_row_here", "_law_many", "_law_most", "_law_found", "_law_some", "_law_k"] (defScope s__law_numbers) _ [("_law_k", 5)] from blkOk_by (by decide +kernel)) (wip_name (by decide)) (fun s1 H1 C1 cl1 fp1 => (ag_name (i := 5) sc__law_numbers.nd rfl (Or.inl rfl))) (fun s1 H1 C1 cl1 fp1 => AE.cast (ae_call (c_law_signed T) hr takes0 (by omega) (aa_cons (ae_var 0) (aa_cons (ae_var 2) aa_nil))) (by first | (dsimp only [Blk, Cx.blk]; done) | rfl)))))
      (ass_cut (as_if (AWt.at_ (aw_and (at_eqI (ae_var 1) ae_int) (aw_and1 (at_eqI (ae_call (c_law_taken T) hr (takes_of rfl rfl rfl rfl) (by omega) (aa_cons (ae_var 0) (aa_cons ae_int aa_nil))) ae_int)))) (ass_cons (as_set 4 sc__law_numbers.nd (ae_lst (aa_cons (ae_tup (aa_cons ae_int (aa_cons ae_int (aa_cons ae_int (aa_cons ae_int (aa_cons ae_int (aa_cons ae_int (aa_cons ae_int (aa_cons ae_int aa_nil))))))))) (aa_cons (ae_tup (aa_cons ae_int (aa_cons ae_int (aa_cons ae_int (aa_cons ae_int (aa_cons ae_int (aa_cons ae_int (aa_cons ae_int (aa_cons ae_int aa_nil))))))))) (aa_cons (ae_tup (aa_cons ae_int (aa_cons ae_int (aa_cons (ae_neg ae_int) (aa_cons ae_int (aa_cons ae_int (aa_cons ae_int (aa_cons ae_int (aa_cons ae_int aa_nil))))))))) (aa_cons (ae_tup (aa_cons ae_int (aa_cons ae_int (aa_cons ae_int (aa_cons ae_int (aa_cons ae_int (aa_cons ae_int (aa_cons ae_int (aa_cons ae_int aa_nil))))))))) aa_nil))))))
      (ass_one (as_set 3 sc__law_numbers.nd (ae_ix (ae_var 4) (ae_call (c_law_taken T) hr (takes_of rfl rfl rfl rfl) (by omega) (aa_cons (ae_var 0) (aa_cons ae_int aa_nil))))))) ass_nil)
      (ass_cons (as_if (at_not (at_val (ae_call (c_law_apart T) hr (takes_of rfl rfl rfl rfl) (by omega) (aa_cons (ae_var 3) aa_nil)))) (ass_one (as_ret (ae_ix (ae_lst (aa_cons (ae_tup (aa_cons ae_int (aa_cons ae_int (aa_cons ae_int (aa_cons ae_int aa_nil))))) (aa_cons (ae_tup (aa_cons ae_int (aa_cons ae_int (aa_cons ae_int (aa_cons ae_int (aa_cons ae_int (aa_cons ae_int (aa_cons ae_int (aa_cons ae_int aa_nil))))))))) aa_nil))) (ae_fdv (div_of hr) (ae_var 1) ae_int)))) ass_nil)
      (ass_one (as_ret (ae_var 3))))))), fun ds Ω Qa Ea h => ?_⟩)
  · obtain ⟨_, _, rfl, _⟩ := h
    rfl
  · obtain ⟨p, h, rfl, ho, hh, k⟩ := h
    walk_at "pl"
    refine ⟨⟨by decide, by decide⟩, by decide, p, 5, rfl, ho, by decide, by decide, fun i i0 i1 => ⟨i, rfl, ?_⟩⟩
    obtain ⟨v, hv, ev⟩ := atI_int (ns := [2, 4, 4, 30, 10 ^ Int.toNat 12]) i0 (by simpa using i1)
    simp only [List.map_cons, List.map_nil] at ev
    have hv2 : 0 ≤ v ∧ v ≤ 10 ^ 12 := by
      have e : (10 : Int) ^ Int.toNat 12 = 10 ^ 12 := rfl
      rw [e] at hv
      simp only [List.mem_cons, List.not_mem_nil, or_false] at hv
      omega
    refine ⟨_, ev, M_lnums p h Ω, ?_, ?_⟩
    · walk_at "pl"
      refine ⟨by omega, by omega, ?_⟩
      refine compL_intsX (fun _ => True) (fun n => Few n) (fun Ω'' => Ω'' = Ω) (fun x Ω1 R Z hx hΩ hk => ?_) _ [] _ rfl (fun _ _ => True.intro) (by rw [rngD_length]; simp only [List.length_nil]; omega) (by simp) (fun ns Ω1 hl hm hΩ => ?_)
      · subst hΩ
        simp only [wipeA, aYes]
        walk_at "pl"
        exact ⟨p, v, rfl, ho, by omega, by omega, fun q q0 q1 => hk _ _ (by unfold Few; omega) rfl⟩
      · subst hΩ
        rw [rngD_length, List.length_nil, Nat.zero_add] at hl
        walk_at "pl"
        exact ⟨ns, _, _, _, hl, hm, rfl, rfl⟩
    rintro ρ Ω1 ⟨ns, z2, z4, z5, hl, hm, rfl, rfl⟩
    refine ⟨M_lnums p h Ω1, ?_, ?_⟩
    · walk_at "pl"
      have fin : ∀ (a : List Int) (z : Option D), a.length = 2 * h → (∀ n ∈ a, Few n) → M_lnums p h Ω1 [some (.o p), some (.int (2 * h : Nat)), z2, some (dtup a), z, z5] Ω1 := fun a z h1 h2 => ⟨a, z2, z, z5, h1, h2, rfl, rfl⟩
      have few1 : ∀ {l : List Int}, (∀ n ∈ l, n.natAbs ≤ 2) → ∀ n ∈ l, Few n := fun h n hn => by have := h n hn; unfold Few; omega
      refine ite2 (fun h8 => ?_) (fun _ => fin ns _ hl hm)
      have h4 : 2 * h = 8 := by omega
      refine ⟨p, 2, rfl, ho, by decide, by decide, fun j j0 j1 => ⟨j, rfl, ite2 (fun _ => ?_) (fun _ => fin ns _ hl hm)⟩⟩
      refine ⟨by decide, by decide, by decide, by decide, by decide, p, 4, rfl, ho, by decide, by decide, fun i i0 i1 => ⟨i, rfl, ?_⟩⟩
      rcases (by omega : i = 0 ∨ i = 1 ∨ i = 2 ∨ i = 3) with rfl | rfl | rfl | rfl
      · exact ⟨_, rfl, fin [0, 1, 1, 0, 0, 0, 0, 1] _ h4.symm (few1 (by decide))⟩
      · exact ⟨_, rfl, fin [1, 0, 0, 0, 0, 0, 0, 1] _ h4.symm (few1 (by decide))⟩
      · exact ⟨_, rfl, fin [0, 1, -1, 0, 0, 0, 0, 1] _ h4.symm (few1 (by decide))⟩
      · exact ⟨_, rfl, fin [0, 1, 0, 0, 0, 0, 1, 0] _ h4.symm (few1 (by decide))⟩
    rintro ρ Ω2 ⟨ns, z2, z4, z5, hl, hm, rfl, rfl⟩
    walk_at "pl"
    refine ⟨ns, h, rfl, hl, hh, hm, fun b hb => ⟨b, rfl, ?_⟩⟩
    cases b with
    | true =>
      rw [if_neg (by decide)]
      exact k ns hl hm (hb rfl)
    | false =>
      rw [if_pos (by decide)]
      refine ⟨by decide, by decide, by decide, by unfold NoPy; decide, ?_⟩
      rcases hh with rfl | rfl
      · exact ⟨_, rfl, k [1, 2, 0, 1] rfl (fun n hn => by
          have : ∀ n ∈ ([1, 2, 0, 1] : List Int), n.natAbs ≤ 2 := by decide
          have := this n hn
          unfold Few
          omega) (by decide : (1 : Int) * 1 ≠ 2 * 0)⟩
      · exact ⟨_, rfl, k [0, 1, 1, 0, 0, 0, 0, 1] rfl (fun n hn => by
          have : ∀ n ∈ ([0, 1, 1, 0, 0, 0, 0, 1] : List Int), n.natAbs ≤ 2 := by decide
          have := this n hn
          unfold Few
          omega) (by unfold AptL; decide)⟩
def F_anyLeaf : AF := fun ds Ω Q _ => ∃ p : Addr, ds = [.o p] ∧ Ω p = some .row ∧ ∀ (tr : Tr) (Ω' : Om), tr.good 1 → (∀ b, Ω b ≠ none → Ω' b = Ω b) → Q tr.d Ω'
theorem c_law_any_leaf (T : Txt K mg C) : Clb P w K mg base ca 4 "_law_any_leaf" F_anyLeaf := by
  refine clb T.d_law_any_leaf sc__law_any_leaf (fun ds Ω Q E h => ?_) (fun f cdv A outer s H E hr => ⟨_, _, (ass_cons (as_set 1 sc__law_any_leaf.nd (ae_call (c_law_taken T) hr (takes_of rfl rfl rfl rfl) (by omega) (aa_cons (ae_var 0) (aa_cons ae_int aa_nil))))
      (ass_cons (as_if (at_eqI (ae_var 1) ae_int) (ass_one (as_ret (ae_call (c_law_ruled T) hr (takes_of rfl rfl rfl rfl) (by omega) (aa_cons (ae_var 0) aa_nil)))) ass_nil)
      (ass_cons (as_set 2 sc__law_any_leaf.nd (ae_call (c_law_signed T) hr (takes_of rfl rfl rfl rfl) (by omega) (aa_cons (ae_var 0) (aa_cons (ae_ix (ae_lst (aa_cons ae_int (aa_cons ae_int (aa_cons (ae_powB ae_int ae_int) aa_nil)))) (ae_call (c_law_taken T) hr (takes_of rfl rfl rfl rfl) (by omega) (aa_cons (ae_var 0) (aa_cons ae_int aa_nil)))) aa_nil))))
      (ass_cons (as_set 3 sc__law_any_leaf.nd (ae_call (c_law_signed T) hr (takes_of rfl rfl rfl rfl) (by omega) (aa_cons (ae_var 0) (aa_cons (ae_ix (ae_lst (aa_cons ae_int (aa_cons ae_int (aa_cons ae_int (aa_cons (ae_powB ae_int ae_int) aa_nil))))) (ae_call (c_law_taken T) hr (takes_of rfl rfl rfl rfl) (by omega) (aa_cons (ae_var 0) (aa_cons ae_int aa_nil)))) aa_nil))))
      (ass_cut (as_if (at_eqI (ae_var 3) ae_int) (ass_one (as_set 3 sc__law_any_leaf.nd ae_int)) ass_nil)
      (ass_cons (as_if (at_eqI (ae_var 1) ae_int) (ass_one (as_ret (ae_tup (aa_cons ae_str (aa_cons (ae_var 2) (aa_cons (ae_var 3) aa_nil)))))) ass_nil)
      (ass_cons (as_set 4 sc__law_any_leaf.nd (ae_call (c_law_taken T) hr (takes_of rfl rfl rfl rfl) (by omega) (aa_cons (ae_var 0) (aa_cons (ae_ix (ae_lst (aa_cons ae_int (aa_cons ae_int (aa_cons (ae_powB ae_int ae_int) aa_nil)))) (ae_call (c_law_taken T) hr (takes_of rfl rfl rfl rfl) (by omega) (aa_cons (ae_var 0) (aa_cons ae_int aa_nil)))) aa_nil))))
      (ass_cut (as_if (at_eqI (ae_call (c_law_taken T) hr (takes_of rfl rfl rfl rfl) (by omega) (aa_cons (ae_var 0) (aa_cons ae_int aa_nil))) ae_int) (ass_one (as_set 4 sc__law_any_leaf.nd (ae_powB (ae_mod (ae_var 4) (ae_powB ae_int ae_int)) ae_int))) ass_nil)
      (ass_one (as_ret (ae_tup (aa_cons ae_str (aa_cons (ae_var 2) (aa_cons (ae_var 4) (aa_cons (ae_var 3) aa_nil))))))))))))))), fun ds Ω Qa Ea h => ?_⟩)
  · obtain ⟨_, rfl, _⟩ := h
    rfl
  · obtain ⟨p, rfl, ho, k⟩ := h
    walk_at "pl"
    refine ⟨p, 3, rfl, ho, by decide, by decide, fun way w0 w1 => ⟨way, rfl, ite2 (fun _ => ?_) (fun _ => ?_)⟩⟩
    · exact ⟨p, rfl, ho, fun ps ring steps Ω1 hg _ hf => k (.ruled ps ring steps) Ω1 hg hf⟩
    have e12 : (10 : Int) ^ Int.toNat 12 = 10 ^ 12 := rfl
    refine ⟨⟨by decide, by decide⟩, by decide, p, 3, rfl, ho, by decide, by decide, fun i i0 i1 => ⟨i, rfl, ?_⟩⟩
    obtain ⟨v, hv, ev⟩ := atI_int (ns := [9, 60, 10 ^ Int.toNat 12]) i0 (by simpa using i1)
    simp only [List.map_cons, List.map_nil] at ev
    have hv2 : 0 ≤ v ∧ v ≤ 10 ^ 12 := by
      rw [e12] at hv
      simp only [List.mem_cons, List.not_mem_nil, or_false] at hv
      omega
    refine ⟨_, ev, p, v, rfl, ho, by omega, by omega, fun t t0 t1 => ?_⟩
    refine ⟨⟨by decide, by decide⟩, by decide, p, 4, rfl, ho, by decide, by decide, fun i i0 i1 => ⟨i, rfl, ?_⟩⟩
    obtain ⟨u, hu, eu⟩ := atI_int (ns := [3, 9, 60, 10 ^ Int.toNat 12]) i0 (by simpa using i1)
    simp only [List.map_cons, List.map_nil] at eu
    have hu2 : 0 ≤ u ∧ u ≤ 10 ^ 12 := by
      rw [e12] at hu
      simp only [List.mem_cons, List.not_mem_nil, or_false] at hu
      omega
    refine ⟨_, eu, p, u, rfl, ho, by omega, by omega, fun b b0 b1 => ?_⟩
    have ft : Few t := by unfold Few; omega
    clear hv ev hu eu
    refine ⟨fun ρ Ω1 => ∃ b : Int, Few b ∧ b ≠ 0 ∧ Ω1 = Ω ∧ ρ = [some (.o p), some (.int way), some (.int t), some (.int b), none], ?_, ?_⟩
    · walk_at "pl"
      exact ite2 (fun e => ⟨2, by unfold Few; omega, by decide, rfl⟩) (fun e => ⟨b, by unfold Few; omega, e, rfl⟩)
    clear b0 b1 b
    rintro ρ Ω1 ⟨b, fb, b0, rfl, rfl⟩
    walk_at "pl"
    refine ite2 (fun _ => ⟨by decide, k (.frac t b) Ω1 ⟨ft, fb, b0⟩ fun _ _ => rfl⟩) (fun _ => ?_)
    refine ⟨⟨by decide, by decide⟩, by decide, p, 3, rfl, ho, by decide, by decide, fun i i0 i1 => ⟨i, rfl, ?_⟩⟩
    obtain ⟨v, hv, ev⟩ := atI_int (ns := [30, 400, 10 ^ Int.toNat 12]) i0 (by simpa using i1)
    simp only [List.map_cons, List.map_nil] at ev
    have hv2 : 1 ≤ v ∧ v ≤ 10 ^ 12 := by
      rw [e12] at hv
      simp only [List.mem_cons, List.not_mem_nil, or_false] at hv
      omega
    refine ⟨_, ev, p, v, rfl, ho, by omega, by omega, fun sq s0 s1 => ?_⟩
    clear hv ev
    refine ⟨fun ρ Ω2 => ∃ s : Int, Few s ∧ 0 ≤ s ∧ Ω2 = Ω1 ∧ ρ = [some (.o p), some (.int way), some (.int t), some (.int b), some (.int s)], ?_, ?_⟩
    · walk_at "pl"
      refine ⟨p, 5, rfl, ho, by decide, by decide, fun j j0 j1 => ⟨j, rfl, ite2 (fun _ => ?_) (fun _ => ⟨sq, by unfold Few; omega, s0, rfl, rfl⟩)⟩⟩
      have e6 : (10 : Int) ^ Int.toNat 6 = 10 ^ 6 := rfl
      rw [e6]
      have f0 : 0 ≤ sq.fmod (10 ^ 6) := Int.fmod_nonneg_of_pos _ (by decide)
      have f1 : sq.fmod (10 ^ 6) < 10 ^ 6 := Int.fmod_lt_of_pos _ (by decide)
      generalize sq.fmod (10 ^ 6) = y at f0 f1 ⊢
      have e2 : y ^ Int.toNat 2 = y * y := by
        show y ^ 2 = y * y
        rw [Int.pow_succ, Int.pow_succ, Int.pow_zero, Int.one_mul]
      rw [e2]
      have hy : y * y ≤ (10 ^ 6 - 1) * (10 ^ 6 - 1) := Int.mul_le_mul (by omega) (by omega) f0 (by decide)
      have hy0 : 0 ≤ y * y := Int.mul_nonneg f0 f0
      have hb := bits_le (n := y) (b := 20) (by omega)
      exact ⟨⟨by decide, by decide⟩, by decide, ⟨by decide, by omega⟩, y * y, by unfold Few; omega, hy0, rfl, rfl⟩
    rintro ρ Ω2 ⟨s, fs, s0, rfl, rfl⟩
    walk_at "pl"
    exact ⟨by decide, k (.root t s b) Ω2 ⟨ft, fs, fb, s0, b0⟩ fun _ _ => rfl⟩
theorem good_le {k j : Nat} {tr : Tr} (h : tr.good k) (hj : k ≤ j) : tr.good j := by
  induction hj with
  | refl => exact h
  | step _ ih => exact good_up ih
def F_any (M : Nat) : AF := fun ds Ω Q _ => ∃ (p : Addr) (d : Nat), ds = [.o p, .int d] ∧ Ω p = some .row ∧ 1 ≤ d ∧ d ≤ 4 ∧ d < M ∧ ∀ (tr : Tr) (Ω' : Om), tr.good d → (∀ b, Ω b ≠ none → Ω' b = Ω b) → Q tr.d Ω'
theorem any_step (T : Txt K mg C) {j M : Nat} (hj : 5 ≤ j) {Fp : AF} (c_self : Clb P w K mg base ca j "_law_any" Fp) (hF : ∀ (p : Addr) (d : Nat) Ω Q E, Ω p = some .row → 1 ≤ d → d ≤ 4 → d < M → (∀ (tr : Tr) (Ω' : Om), tr.good d → (∀ b, Ω b ≠ none → Ω' b = Ω b) → Q tr.d Ω') → Fp [.o p, .int d] Ω Q E) : Clb P w K mg base ca (j + 1) "_law_any" (F_any (M + 1)) := by
  refine clb T.d_law_any sc__law_any (fun ds Ω Q E h => ?_) (fun f cdv A outer s H E hr => ⟨_, _, (ass_cons (as_set 2 sc__law_any.nd (ae_call (c_law_taken T) hr (takes_of rfl rfl rfl rfl) (by omega) (aa_cons (ae_var 0) (aa_cons ae_int aa_nil))))
      (ass_cons (as_if (AWt.at_ (aw_or (at_lt (ae_var 1) ae_int) (aw_or1 (at_eqI (ae_var 2) ae_int)))) (ass_one (as_ret (ae_call (c_law_any_leaf T) hr (takes_of rfl rfl rfl rfl) (by omega) (aa_cons (ae_var 0) aa_nil)))) ass_nil)
      (ass_cons (as_if (at_lt (ae_var 2) ae_int) (ass_cons (as_set 3 sc__law_any.nd (ae_call (c_law_numbers T) hr (takes_of rfl rfl rfl rfl) (by omega) (aa_cons (ae_var 0) (aa_cons ae_int aa_nil))))
      (ass_one (as_ret (ae_tup (aa_cons ae_str (aa_cons (ae_var 3) (aa_cons (ae_call c_self hr (takes_of rfl rfl rfl rfl) (by omega) (aa_cons (ae_var 0) (aa_cons (ae_sub (ae_var 1) ae_int) aa_nil))) aa_nil))))))) ass_nil)
      (ass_cons (as_if (at_eqI (ae_var 2) ae_int) (ass_one (as_ret (ae_tup (aa_cons ae_str (aa_cons (ae_call c_self hr (takes_of rfl rfl rfl rfl) (by omega) (aa_cons (ae_var 0) (aa_cons (ae_min2 rfl T.b_min rfl (ae_sub (ae_var 1) ae_int) ae_int) aa_nil))) (aa_cons (ae_add ae_int (ae_call (c_law_taken T) hr (takes_of rfl rfl rfl rfl) (by omega) (aa_cons (ae_var 0) (aa_cons ae_int aa_nil)))) aa_nil)))))) ass_nil)
      (ass_cons (as_set 3 sc__law_any.nd (ae_call (c_law_numbers T) hr (takes_of rfl rfl rfl rfl) (by omega) (aa_cons (ae_var 0) (aa_cons ae_int aa_nil))))
      (ass_cons (as_set 4 sc__law_any.nd (ae_call c_self hr (takes_of rfl rfl rfl rfl) (by omega) (aa_cons (ae_var 0) (aa_cons (ae_sub (ae_var 1) ae_int) aa_nil))))
      (ass_one (as_ret (ae_tup (aa_cons ae_str (aa_cons (ae_var 3) (aa_cons (ae_var 4) (aa_cons (ae_call c_self hr (takes_of rfl rfl rfl rfl) (by omega) (aa_cons (ae_var 0) (aa_cons (ae_sub (ae_var 1) ae_int) aa_nil))) aa_nil))))))))))))), fun ds Ω Qa Ea h => ?_⟩)
  · obtain ⟨_, _, rfl, _⟩ := h
    rfl
  · obtain ⟨p, d, rfl, ho, d1, d4, dM, k⟩ := h
    walk_at "pl"
    have leaf : ∀ Q : AQ, Q = Qa → F_anyLeaf [D.o p] Ω Q (fun cls Ω' => Ea cls Ω') := fun Q e => by
      subst e
      exact ⟨p, rfl, ho, fun tr Ω' hg hf => k tr Ω' (good_le hg d1) hf⟩
    refine ⟨p, 7, rfl, ho, by decide, by decide, fun way w0 w1 => ite2 (fun _ => leaf _ rfl) (fun d2 => ⟨way, rfl, ite2 (fun _ => leaf _ rfl) (fun _ => ⟨way, rfl, ?_⟩)⟩)⟩
    obtain ⟨d, rfl⟩ : ∃ e : Nat, d = e + 2 := ⟨d - 2, by omega⟩
    have ed : ((d + 2 : Nat) : Int) - 1 = ((d + 1 : Nat) : Int) := by omega
    rw [ed]
    refine ite2 (fun _ => ?_) (fun _ => ⟨way, rfl, ite2 (fun _ => ?_) (fun _ => ?_)⟩)
    · refine ⟨p, 2, rfl, ho, .inl rfl, fun ns hl hm ha => ?_⟩
      match ns, hl with
      | [a, b, c, e], _ =>
        refine hF p (d + 1) _ _ _ ho (by omega) (by omega) (by omega) fun tr Ω1 hg hf => ⟨by decide, ?_⟩
        exact k (.four a b c e tr) Ω1 ⟨hm a (by simp), hm b (by simp), hm c (by simp), hm e (by simp), ha, hg⟩ hf
    · have fin : ∀ d' : Nat, 1 ≤ d' → d' ≤ d + 1 → d' ≤ 2 → Fp [D.o p, D.int d'] Ω (fun x Ω1 => F_taken [D.o p, D.int 4] Ω1 (fun y Ω2 => ∃ x_1, y = D.int x_1 ∧ 3 ≤ sizeLine ∧ Qa (D.tup [D.str (Str.ofString "power"), x, D.int (1 + x_1)]) Ω2) fun cls Ω' => Ea cls Ω') (fun cls Ω' => Ea cls Ω') := fun d' h1 h2 h3 =>
        hF p d' _ _ _ ho h1 (by omega) (by omega) fun tr Ω1 hg hf => ⟨p, 4, rfl, (hf p (by rw [ho]; simp)).trans ho, by decide, by decide, fun n n0 n1 => ⟨n, rfl, by decide, k (.power tr (1 + n)) Ω1 ⟨by omega, by omega, good_le hg h2⟩ hf⟩⟩
      simp only [fMin2]
      refine ⟨_, _, rfl, ?_⟩
      by_cases h : (2 : Int) < ((d + 1 : Nat) : Int)
      · rw [if_pos h]
        exact fin 2 (by decide) (by omega) (by decide)
      · rw [if_neg h]
        exact fin (d + 1) (by omega) (by omega) (by omega)
    · refine ⟨p, 4, rfl, ho, .inr rfl, fun ns hl hm ha => ?_⟩
      match ns, hl with
      | [a, b, c, e, f', g, h', i], _ =>
        refine hF p (d + 1) _ _ _ ho (by omega) (by omega) (by omega) fun tr Ω1 hg hf => ?_
        refine hF p (d + 1) _ _ _ ((hf p (by rw [ho]; simp)).trans ho) (by omega) (by omega) (by omega) fun tr2 Ω2 hg2 hf2 => ⟨by decide, ?_⟩
        exact k (.eight a b c e f' g h' i tr tr2) Ω2 ⟨hm, ha, hg, hg2⟩ fun b hb => (hf2 b (by rw [hf b hb]; exact hb)).trans (hf b hb)
theorem c_law_any (T : Txt K mg C) : ∀ M : Nat, Clb P w K mg base ca (M + 6) "_law_any" (F_any M)
  | 0 => Clb.imp (F := fun _ _ _ _ => False) (F' := F_any 0) (clb_none T.d_law_any 6) (spA_imp (fun ds Ω Q E h => (by obtain ⟨_, _, _, _, _, _, h, _⟩ := h; omega)))
  | M + 1 => any_step T (by omega) (c_law_any T M) (fun p d Ω Q E h1 h2 h3 h4 h5 => ⟨p, d, rfl, h1, h2, h3, h4, h5⟩)
def MOp (tr : Tr) (Q : AQ) (Ω : Om) : Prop := ∀ r p Ω' S, Opened tr r → MaO Ω' p r S → (∀ b ∈ S, Ω b = none) → (∀ b, Ω b ≠ none → Ω' b = Ω b) → Q (.o p) Ω'
def F_mopen (M : Nat) : AF := fun ds Ω Q _ => ∃ (tr : Tr) (k : Nat), ds = [tr.d] ∧ k ≤ M ∧ tr.good k ∧ MOp tr Q Ω
def m00 (kd : Str) (d : D) (pt : Addr) : List (Key × D) := [(Sum.inr (Str.ofString "kind") : Key), .inr (Str.ofString "taken"), .inr (Str.ofString "begun"), .inr (Str.ofString "rest"), .inr (Str.ofString "which"), .inr (Str.ofString "tree")].zip [.str kd, .o pt, .bl false, .non, .int 0, d]
def m01 (ins : D) (pt : Addr) : List (Key × D) := [(Sum.inr (Str.ofString "kind") : Key), .inr (Str.ofString "taken"), .inr (Str.ofString "begun"), .inr (Str.ofString "rest"), .inr (Str.ofString "which"), .inr (Str.ofString "inners")].zip [.str "eight", .o pt, .bl false, .non, .int 0, ins]
theorem ml0 {kd : Str} {d : D} {pt : Addr} : ML (m00 kd d pt) kd d pt .non := ⟨rfl, rfl, rfl, rfl, by show 6 ≤ 20; decide⟩
theorem mn0 {kd : Str} {d n ins : D} {pt : Addr} : MN (putD (putD (m00 kd d pt) (.inr "numbers") n) (.inr "inners") ins) kd ins n 0 pt .non false := ⟨rfl, rfl, rfl, rfl, rfl, rfl, rfl, by show 8 ≤ 20; decide⟩
theorem mn1 {n ins : D} {pt : Addr} : MN (putD (m01 ins pt) (.inr "numbers") n) "eight" ins n 0 pt .non false := ⟨rfl, rfl, rfl, rfl, rfl, rfl, rfl, by show 7 ≤ 20; decide⟩
structure St0 (Ω Ω' : Om) (p pt : Addr) (m : List (Key × D)) : Prop where
  e : Ω' p = some (.dic m)
  e2 : Ω' pt = some (.lst [.int 0, .int 0])
  ne : p ≠ pt
  f0 : Ω p = none
  f1 : Ω pt = none
  fr : ∀ b, Ω b ≠ none → Ω' b = Ω b
theorem st_new {Ω : Om} {p pt : Addr} {m : List (Key × D)} (h1 : Ω pt = none) (h2 : oset Ω pt (.lst [.int 0, .int 0]) p = none) : St0 Ω (oset (oset Ω pt (.lst [.int 0, .int 0])) p (.dic m)) p pt m := by
  have ne : p ≠ pt := fun z => by rw [z, oset_same] at h2; cases h2
  rw [oset_ne ne] at h2
  exact ⟨oset_same, (oset_ne ne.symm).trans oset_same, ne, h2, h1, fun b hb => by rw [oset_ne (fun z => hb (by rw [z]; exact h2)), oset_ne (fun z => hb (by rw [z]; exact h1))]⟩
theorem St0.put {Ω Ω' : Om} {p pt : Addr} {m : List (Key × D)} (h : St0 Ω Ω' p pt m) (m' : List (Key × D)) : St0 Ω (oset Ω' p (.dic m')) p pt m' :=
  ⟨oset_same, (oset_ne h.ne.symm).trans h.e2, h.ne, h.f0, h.f1, fun b hb => (oset_ne (fun z => hb (by rw [z]; exact h.f0))).trans (h.fr b hb)⟩
def M_o1 (d : D) (kd : Str) (Ω : Om) : En → Om → Prop := fun ρ Ω' => ∃ p pt, St0 Ω Ω' p pt (m00 kd d pt) ∧ ρ = [some d, some (.str kd), some (.o p), none, none, none]
def M_fin (tr : Tr) (kd : Str) (Ω : Om) : En → Om → Prop := fun ρ Ω' => ∃ r p S z3, Opened tr r ∧ MaO Ω' p r S ∧ (∀ b ∈ S, Ω b = none) ∧ (∀ b, Ω b ≠ none → Ω' b = Ω b) ∧ ρ = [some tr.d, some (.str kd), some (.o p), z3, none, none]
def P_mopen (d z0 : D) (n : Nat) (r : R) (Ω : Om) : List D → En → Om → Prop := fun us ρ Ω' => ∃ (i l : Nat) (p : Addr) (S : List Addr) (z4 z5 : Option D), us = rngD (i : Int) l ∧ i + l = n ∧ MaO Ω' p (pows r i) S ∧ (∀ b ∈ S, Ω b = none) ∧ (∀ b, Ω b ≠ none → Ω' b = Ω b) ∧ ρ = [some d, some z0, some (.o p), none, z4, z5]
theorem mlR {kd : Str} {d r : D} {pt : Addr} : ML (putD (m00 kd d pt) (.inr "rest") r) kd d pt r := ⟨rfl, rfl, rfl, rfl, by show 6 ≤ 20; decide⟩
theorem mlL {kd : Str} {d l : D} {pt : Addr} : ML (putD (m00 kd d pt) (.inr "left") l) kd d pt .non := ⟨rfl, rfl, rfl, rfl, by show 7 ≤ 20; decide⟩
theorem mlRL {kd : Str} {d r l : D} {pt : Addr} : ML (putD (putD (m00 kd d pt) (.inr "rest") r) (.inr "left") l) kd d pt r := ⟨rfl, rfl, rfl, rfl, by show 7 ≤ 20; decide⟩
theorem lt20 {n : Nat} (h : n ≤ 20) : n < 1000 := Nat.lt_of_le_of_lt h (by decide)
theorem St0.two {Ω Ω' : Om} {p pt : Addr} {m : List (Key × D)} (h : St0 Ω Ω' p pt m) : ∀ b ∈ [p, pt], Ω b = none := fun b hb => by
  simp only [List.mem_cons, List.not_mem_nil, or_false] at hb
  rcases hb with rfl | rfl
  · exact h.f0
  · exact h.f1
theorem own_cons {p pt : Addr} {S T : List Addr} : Own (p :: pt :: (S ++ T)) p pt S T := fun b => by simp only [List.mem_cons, List.mem_append]
def Fr0 (Ω Ω' : Om) : Prop := ∀ b, Ω b ≠ none → Ω' b = Ω b
theorem Fr0.tr {A B D : Om} (h : Fr0 A B) (k : Fr0 B D) : Fr0 A D := fun b hb => by
  have e := h b hb
  rw [k b (by rw [e]; exact hb), e]
theorem Fr0.none {A B : Om} (h : Fr0 A B) {b : Addr} (e : B b = none) : A b = none := by
  cases q : A b with
  | none => rfl
  | some o => have := h b (by rw [q]; simp); rw [e, q] at this; cases this
theorem Fr0.fresh {A B : Om} (h : Fr0 A B) {S : List Addr} (k : ∀ b ∈ S, B b = Option.none) : ∀ b ∈ S, A b = Option.none := fun b hb => h.none (k b hb)
theorem Fr0.put {A B : Om} (h : Fr0 A B) {p : Addr} (hp : A p = Option.none) (o : AO) : Fr0 A (oset B p o) := fun b hb => (oset_ne fun (z : b = p) => hb (by rw [z]; exact hp)).trans (h b hb)
theorem ne_fresh {A : Om} {p : Addr} {o : AO} (h : A p = some o) {S : List Addr} (k : ∀ b ∈ S, A b = none) : p ∉ S := fun z => by rw [k p z] at h; cases h
/-- two machines within a new one -/
theorem two_new {Ω Ω2 Ω3 Ω4 : Om} {p pt q0 q1 : Addr} {S0 S1 : List Addr} {x y : R} {a b c d e f g h : Int} {m : List (Key × D)} {kd : Str} (e1 : Ω4 p = some (.dic m)) (e2 : Ω4 pt = some (.lst [.int 0, .int 0])) (ne : p ≠ pt) (f0 : Ω p = none) (f1 : Ω pt = none) (hN : MN m kd (.lst [.o q0, .o q1]) (dtup [a, b, c, d, e, f, g, h]) 0 pt .non false) (hk : IsK kd)
    (hx : MaO Ω2 q0 x S0) (hy : MaO Ω3 q1 y S1) (kx : ∀ b ∈ S0, Ω4 b = Ω2 b) (ky : ∀ b ∈ S1, Ω4 b = Ω3 b) (p0 : p ∉ S0) (t0 : pt ∉ S0) (p1 : p ∉ S1) (t1 : pt ∉ S1) (dj : ∀ b ∈ S0, b ∉ S1) (h0 : ∀ b ∈ S0, Ω b = none) (h1 : ∀ b ∈ S1, Ω b = none) :
    ∃ U, MaO Ω4 p (.eight a b c d e f g h 0 0 false x y) U ∧ ∀ b ∈ U, Ω b = none := by
  refine ⟨p :: pt :: (S0 ++ S1), .ei (t0 := 0) (t1 := 0) e1 e2 hN hk .eight (hx.keep kx) (hy.keep ky) ⟨ne, p0, t0, p1, t1, dj⟩ own_cons, fun b hb => ?_⟩
  simp only [List.mem_cons, List.mem_append] at hb
  rcases hb with rfl | rfl | hb | hb
  · exact f0
  · exact f1
  · exact h0 b hb
  · exact h1 b hb
theorem mopen_step (T : Txt K mg C) {j M : Nat} (hj : 4 ≤ j) {Fp : AF} (c_self : Clb P w K mg base ca j "_law_opened" Fp) (hF : ∀ (tr : Tr) (k : Nat) Ω Q E, k < M → tr.good k → MOp tr Q Ω → Fp [tr.d] Ω Q E) : Clb P w K mg base ca (j + 1) "_law_opened" (F_mopen M) := by
  refine clb T.d_law_opened sc__law_opened (fun ds Ω Q E h => ?_) (fun f cdv A outer s H E hr => ⟨_, _, (ass_cons (as_set 1 sc__law_opened.nd (ae_ix (ae_var 0) ae_int))
      (ass_cut (as_set 2 sc__law_opened.nd (ae_disp (ap_cons (ae_var 1) (ap_cons (ae_lstO (aa_cons ae_int (aa_cons ae_int aa_nil))) (ap_cons ae_bl (ap_cons ae_non (ap_cons ae_int (ap_cons (ae_var 0) ap_nil))))))))
      (ass_cut (as_if (at_eqS (ae_var 1) ae_str) (ass_one (as_dput hr.units (ae_tup (aa_cons (ae_ix (ae_var 0) ae_int) (aa_cons (ae_ix (ae_var 0) ae_int) aa_nil))) (ae_var 2) ae_str)) ass_nil)
      (ass_cut (as_if (at_eqS (ae_var 1) ae_str) (ass_cons (as_set 3 sc__law_opened.nd (ae_call (c_law_root T) hr (takes_of rfl rfl rfl rfl) (by omega) (aa_cons (ae_ix (ae_var 0) ae_int) aa_nil)))
      (ass_cons (as_if (at_eqI (ae_mul (ae_var 3) (ae_var 3)) (ae_ix (ae_var 0) ae_int)) (ass_one (as_dput hr.units (ae_tup (aa_cons (ae_add (ae_ix (ae_var 0) ae_int) (ae_var 3)) (aa_cons (ae_ix (ae_var 0) ae_int) aa_nil))) (ae_var 2) ae_str)) ass_nil)
      (ass_one (as_dput hr.units (ae_call (c_law_made T) hr (takes_of rfl rfl rfl rfl) (by omega) (aa_cons (ae_ix (ae_var 0) ae_int) (aa_cons ae_int (aa_cons (ae_ix (ae_var 0) ae_int) aa_nil)))) (ae_var 2) ae_str)))) ass_nil)
      (ass_cut (as_if (at_eqS (ae_var 1) ae_str) (ass_cons (as_dput hr.units (ae_ix (ae_var 0) ae_int) (ae_var 2) ae_str)
      (ass_one (as_dput hr.units (ae_lst (aa_cons (ae_call c_self hr (takes_of rfl rfl rfl rfl) (by omega) (aa_cons (ae_ix (ae_var 0) ae_int) aa_nil)) aa_nil)) (ae_var 2) ae_str))) ass_nil)
      (ass_cut (as_if (at_eqS (ae_var 1) ae_str) (ass_cons (as_dput hr.units (ae_ix (ae_var 0) ae_int) (ae_var 2) ae_str)
      (ass_one (as_dput hr.units (ae_lst (aa_cons (ae_call c_self hr (takes_of rfl rfl rfl rfl) (by omega) (aa_cons (ae_ix (ae_var 0) ae_int) aa_nil)) (aa_cons (ae_call c_self hr (takes_of rfl rfl rfl rfl) (by omega) (aa_cons (ae_ix (ae_var 0) ae_int) aa_nil)) aa_nil))) (ae_var 2) ae_str))) ass_nil)
      (ass_cons (as_if (at_eqS (ae_var 1) ae_str) (ass_cons (as_set 2 sc__law_opened.nd (ae_call c_self hr (takes_of rfl rfl rfl rfl) (by omega) (aa_cons (ae_ix (ae_var 0) ae_int) aa_nil)))
      (ass_one (as_forR1 (passes_of rfl) rfl rfl T.b_range (ae_sub (ae_ix (ae_var 0) ae_int) ae_int) (ag_name (i := 4) sc__law_opened.nd rfl (Or.inl rfl)) (ass_cons (as_set 5 sc__law_opened.nd (ae_lst (aa_cons (ae_call c_self hr (takes_of rfl rfl rfl rfl) (by omega) (aa_cons (ae_ix (ae_var 0) ae_int) aa_nil)) (aa_cons (ae_var 2) aa_nil))))
      (ass_cons (as_set 2 sc__law_opened.nd (ae_disp (ap_cons ae_str (ap_cons (ae_lstO (aa_cons ae_int (aa_cons ae_int aa_nil))) (ap_cons ae_bl (ap_cons ae_non (ap_cons ae_int (ap_cons (ae_var 5) ap_nil))))))))
      (ass_one (as_dput hr.units (ae_tup (aa_cons ae_int (aa_cons ae_int (aa_cons ae_int (aa_cons ae_int (aa_cons ae_int (aa_cons ae_int (aa_cons ae_int (aa_cons ae_int aa_nil))))))))) (ae_var 2) ae_str))))))) ass_nil)
      (ass_one (as_ret (ae_var 2)))))))))), fun ds Ω Qa Ea h => ?_⟩)
  · obtain ⟨_, _, rfl, _⟩ := h
    rfl
  · obtain ⟨tr, kk, rfl, hk, hg, k⟩ := h
    cases kk with
    | zero => cases tr <;> exact hg.elim
    | succ kk =>
    cases tr with
    | frac t b =>
      simp only [Tr.d]
      walk_at "pl"
      refine ⟨M_o1 (Tr.frac t b).d "fraction" Ω, ?_, ?_⟩
      · walk_at "pl"
        exact ⟨by decide, fun pt h1 p h2 => ⟨p, pt, st_new h1 h2, rfl⟩⟩
      rintro ρ Ω1 ⟨p, pt, hs, rfl⟩
      refine ⟨M_fin (Tr.frac t b) "fraction" Ω, ?_, ?_⟩
      · simp only [Tr.d]
        walk_at "pl"
        try rw [if_pos rfl]
        exact ⟨by decide, _, hs.e, lt20 ml0.len, .frac 0 t b, p, [p, pt], none, .frac, .frac (k := 0) (hs.put _).e (hs.put (putD (m00 "fraction" (Tr.frac t b).d pt) (.inr "rest") (pr t b))).e2 hs.ne mlR (.inl rfl), hs.two, (hs.put _).fr, rfl⟩
      rintro ρ Ω1 ⟨r, p, S, z3, ho, hM, h1, h2, rfl⟩
      refine ⟨M_fin (Tr.frac t b) "fraction" Ω, ?_, ?_⟩
      · walk_at "pl"
        rw [if_neg (by decide)]
        exact ⟨r, p, S, z3, ho, hM, h1, h2, rfl⟩
      rintro ρ Ω1 ⟨r, p, S, z3, ho, hM, h1, h2, rfl⟩
      refine ⟨M_fin (Tr.frac t b) "fraction" Ω, ?_, ?_⟩
      · walk_at "pl"
        rw [if_neg (by decide)]
        exact ⟨r, p, S, z3, ho, hM, h1, h2, rfl⟩
      rintro ρ Ω1 ⟨r, p, S, z3, ho, hM, h1, h2, rfl⟩
      refine ⟨M_fin (Tr.frac t b) "fraction" Ω, ?_, ?_⟩
      · walk_at "pl"
        rw [if_neg (by decide)]
        exact ⟨r, p, S, z3, ho, hM, h1, h2, rfl⟩
      rintro ρ Ω1 ⟨r, p, S, z3, ho, hM, h1, h2, rfl⟩
      walk_at "pl"
      rw [if_neg (by decide)]
      exact k r p Ω1 S ho hM h1 h2
    | root t s b =>
      obtain ⟨h1, h2, h3, h4, h5⟩ := hg
      simp only [Tr.d]
      walk_at "pl"
      refine ⟨M_o1 (Tr.root t s b).d "root" Ω, ?_, ?_⟩
      · walk_at "pl"
        exact ⟨by decide, fun pt h1 p h2 => ⟨p, pt, st_new h1 h2, rfl⟩⟩
      rintro ρ Ω1 ⟨p, pt, hs, rfl⟩
      refine ⟨M_o1 (Tr.root t s b).d "root" Ω, ?_, ?_⟩
      · walk_at "pl"
        rw [if_neg (by decide)]
        exact ⟨p, pt, hs, rfl⟩
      rintro ρ Ω1 ⟨p, pt, hs, rfl⟩
      refine ⟨M_fin (Tr.root t s b) "root" Ω, ?_, ?_⟩
      · simp only [Tr.d]
        walk_at "pl"
        try rw [if_pos rfl]
        obtain ⟨sq0, sq1, sq2⟩ := isq_spec h4
        have hsq := abs_le_mul' sq0 sq1
        have s40 : s.natAbs < 2 ^ 40 := by unfold Few at h2; omega
        refine ⟨s, rfl, h4, nup _ s40 (by decide), _, rfl, _, rfl, mulok_l (by unfold Few at h2; omega) (by unfold Few at h2; omega), ite2 (fun e => ?_) (fun e => ?_)⟩
        · refine ⟨_, rfl, by decide, _, hs.e, lt20 ml0.len, t, 1, b, rfl, h5, _, oset_same, lt20 mlR.len, ?_⟩
          rw [oset_oset]
          exact ⟨.frac 0 (t + isq s) b, p, [p, pt], _, .rootF sq0 e, .frac (k := 0) (hs.put _).e (hs.put _).e2 hs.ne (mlRL (r := pr (t + isq s) b)) (.inr rfl), hs.two, (hs.put _).fr, rfl⟩
        refine ⟨t, 1, b, rfl, h5, _, hs.e, lt20 ml0.len, ?_⟩
        have hlt : isq s * isq s < s := by omega
        have hns := nsq_of sq0 hlt sq2
        have hab : 0 < abI b := by unfold abI; split <;> omega
        have hs0 : 0 ≤ s * abI b * abI b := Int.mul_nonneg (Int.mul_nonneg h4 (Int.le_of_lt hab)) (Int.le_of_lt hab)
        obtain ⟨g0, g1, g2⟩ := isq_spec hs0
        obtain ⟨P, N⟩ := madeT_px (x := t) (y := 1) h5
        obtain ⟨RI, ha⟩ := rt_start (top := t) h5 hns g0 g1 g2
        have P2 := P.scale (k := abI b) (by omega)
        rw [Int.one_mul] at P2
        unfold Few at h1 h2 h3
        have hab2 : abI b ≤ 10 ^ 12 := by unfold abI; split <;> omega
        have hs1 : s * abI b ≤ 10 ^ 12 * 10 ^ 12 := Int.mul_le_mul (by omega) hab2 (Int.le_of_lt ha) (by decide)
        have hs2 : s * abI b * abI b ≤ 10 ^ 12 * 10 ^ 12 * 10 ^ 12 := Int.mul_le_mul hs1 hab2 (Int.le_of_lt ha) (by decide)
        have hf := abs_le_mul' g0 g1
        have ht : (t * abI b).natAbs ≤ 10 ^ 12 * 10 ^ 12 := by rw [Int.natAbs_mul]; exact Nat.mul_le_mul (by omega) (by omega)
        have hbb : (b * abI b).natAbs ≤ 10 ^ 12 * 10 ^ 12 := by rw [Int.natAbs_mul]; exact Nat.mul_le_mul (by omega) (by omega)
        have hbig : (2 : Nat) ^ 200 < 2 ^ 100000 := Nat.pow_lt_pow_right (by decide) (by decide)
        have h200 : (10 : Nat) ^ 50 < 2 ^ 200 := by decide
        generalize isq (s * abI b * abI b) = f' at *
        have hPB : PB 100000 s 3000 (some (madeT t 1 b)) := PB_root hns (W := 10 ^ 50 - 10 ^ 45) ha rfl (f := f') (by omega) (by omega) _ N RI P2 (by omega) (by omega)
        exact ⟨_, p, [p, pt], _, .rootR sq0 hlt sq2 g0 g1 g2, .root (k := 0) (hs.put _).e (hs.put _).e2 hs.ne (mlL (l := tD (madeT t 1 b))) rfl (.root hns N ha rfl RI P2) hPB rfl h4 (nup _ s40 (by decide)), hs.two, (hs.put _).fr, rfl⟩
      rintro ρ Ω1 ⟨r, p, S, z3, ho, hM, h1, h2, rfl⟩
      refine ⟨M_fin (Tr.root t s b) "root" Ω, ?_, ?_⟩
      · walk_at "pl"
        rw [if_neg (by decide)]
        exact ⟨r, p, S, z3, ho, hM, h1, h2, rfl⟩
      rintro ρ Ω1 ⟨r, p, S, z3, ho, hM, h1, h2, rfl⟩
      refine ⟨M_fin (Tr.root t s b) "root" Ω, ?_, ?_⟩
      · walk_at "pl"
        rw [if_neg (by decide)]
        exact ⟨r, p, S, z3, ho, hM, h1, h2, rfl⟩
      rintro ρ Ω1 ⟨r, p, S, z3, ho, hM, h1, h2, rfl⟩
      walk_at "pl"
      rw [if_neg (by decide)]
      exact k r p Ω1 S ho hM h1 h2
    | ruled ps ring steps =>
      simp only [Tr.d]
      walk_at "pl"
      refine ⟨M_o1 (Tr.ruled ps ring steps).d "ruled" Ω, ?_, ?_⟩
      · walk_at "pl"
        exact ⟨by decide, fun pt h1 p h2 => ⟨p, pt, st_new h1 h2, rfl⟩⟩
      rintro ρ Ω1 ⟨p, pt, hs, rfl⟩
      refine ⟨M_o1 (Tr.ruled ps ring steps).d "ruled" Ω, ?_, ?_⟩
      · walk_at "pl"
        rw [if_neg (by decide)]
        exact ⟨p, pt, hs, rfl⟩
      rintro ρ Ω1 ⟨p, pt, hs, rfl⟩
      refine ⟨M_o1 (Tr.ruled ps ring steps).d "ruled" Ω, ?_, ?_⟩
      · walk_at "pl"
        rw [if_neg (by decide)]
        exact ⟨p, pt, hs, rfl⟩
      rintro ρ Ω1 ⟨p, pt, hs, rfl⟩
      refine ⟨M_o1 (Tr.ruled ps ring steps).d "ruled" Ω, ?_, ?_⟩
      · walk_at "pl"
        rw [if_neg (by decide)]
        exact ⟨p, pt, hs, rfl⟩
      rintro ρ Ω1 ⟨p, pt, hs, rfl⟩
      refine ⟨M_o1 (Tr.ruled ps ring steps).d "ruled" Ω, ?_, ?_⟩
      · walk_at "pl"
        rw [if_neg (by decide)]
        exact ⟨p, pt, hs, rfl⟩
      rintro ρ Ω1 ⟨p, pt, hs, rfl⟩
      simp only [Tr.d]
      walk_at "pl"
      rw [if_neg (by decide)]
      exact k (.ruled 0 ps ring steps) p Ω1 [p, pt] .ruled (.ruled (k := 0) hs.e hs.e2 hs.ne ml0 (fun _ => Nat.zero_le _)) hs.two hs.fr
    | four a b c d x =>
      obtain ⟨_, _, _, _, _, hx⟩ := hg
      simp only [Tr.d, dtup]
      walk_at "pl"
      refine ⟨M_o1 (Tr.four a b c d x).d "four" Ω, ?_, ?_⟩
      · walk_at "pl"
        exact ⟨by decide, fun pt h1 p h2 => ⟨p, pt, st_new h1 h2, rfl⟩⟩
      rintro ρ Ω1 ⟨p, pt, hs, rfl⟩
      refine ⟨M_o1 (Tr.four a b c d x).d "four" Ω, ?_, ?_⟩
      · walk_at "pl"
        rw [if_neg (by decide)]
        exact ⟨p, pt, hs, rfl⟩
      rintro ρ Ω1 ⟨p, pt, hs, rfl⟩
      refine ⟨M_o1 (Tr.four a b c d x).d "four" Ω, ?_, ?_⟩
      · walk_at "pl"
        rw [if_neg (by decide)]
        exact ⟨p, pt, hs, rfl⟩
      rintro ρ Ω1 ⟨p, pt, hs, rfl⟩
      refine ⟨M_fin (Tr.four a b c d x) "four" Ω, ?_, ?_⟩
      · simp only [Tr.d, dtup]
        walk_at "pl"
        try rw [if_pos rfl]
        have st1 := hs.put (putD (m00 "four" (Tr.four a b c d x).d pt) (.inr "numbers") (dtup [a, b, c, d]))
        refine ⟨_, hs.e, lt20 ml0.len, hF x kk _ _ _ (by omega) hx fun r q Ω2 S o1 hM g1 g2 => ⟨by decide, _, (g2 p (by rw [oset_same]; simp)).trans oset_same, by show 7 < 1000; decide, ?_⟩⟩
        have fr2 : Fr0 Ω Ω2 := Fr0.tr st1.fr g2
        have pS : p ∉ S := ne_fresh st1.e g1
        have tS : pt ∉ S := ne_fresh st1.e2 g1
        refine ⟨.four a b c d false false r, p, p :: pt :: (S ++ []), none, .four o1, ?_, fun v hv => ?_, fr2.put hs.f0 _, rfl⟩
        · exact .fo (n := dtup [a, b, c, d]) (t0 := 0) (t1 := 0) none oset_same ((oset_ne hs.ne.symm).trans ((g2 pt (fun z => by cases st1.e2.symm.trans z)).trans st1.e2)) mn0 (.inl rfl) (.four (w := false) (k := 0) (o := 0)) (hM.keep fun v hv => oset_ne fun z => pS (z ▸ hv)) (fun _ z => by cases z) ⟨hs.ne, pS, tS, by simp [ownX], by simp [ownX], fun _ _ => by simp [ownX]⟩ own_cons
        · simp only [List.mem_cons, List.append_nil] at hv
          rcases hv with rfl | rfl | hv
          · exact hs.f0
          · exact hs.f1
          · exact Fr0.none st1.fr (g1 v hv)
      rintro ρ Ω1 ⟨r, p, S, z3, ho, hM, h1, h2, rfl⟩
      refine ⟨M_fin (Tr.four a b c d x) "four" Ω, ?_, ?_⟩
      · walk_at "pl"
        rw [if_neg (by decide)]
        exact ⟨r, p, S, z3, ho, hM, h1, h2, rfl⟩
      rintro ρ Ω1 ⟨r, p, S, z3, ho, hM, h1, h2, rfl⟩
      walk_at "pl"
      rw [if_neg (by decide)]
      exact k r p Ω1 S ho hM h1 h2
    | eight a b c d e f' g h x y =>
      obtain ⟨_, _, hx, hy⟩ := hg
      simp only [Tr.d, dtup]
      walk_at "pl"
      refine ⟨M_o1 (Tr.eight a b c d e f' g h x y).d "eight" Ω, ?_, ?_⟩
      · walk_at "pl"
        exact ⟨by decide, fun pt h1 p h2 => ⟨p, pt, st_new h1 h2, rfl⟩⟩
      rintro ρ Ω1 ⟨p, pt, hs, rfl⟩
      refine ⟨M_o1 (Tr.eight a b c d e f' g h x y).d "eight" Ω, ?_, ?_⟩
      · walk_at "pl"
        rw [if_neg (by decide)]
        exact ⟨p, pt, hs, rfl⟩
      rintro ρ Ω1 ⟨p, pt, hs, rfl⟩
      refine ⟨M_o1 (Tr.eight a b c d e f' g h x y).d "eight" Ω, ?_, ?_⟩
      · walk_at "pl"
        rw [if_neg (by decide)]
        exact ⟨p, pt, hs, rfl⟩
      rintro ρ Ω1 ⟨p, pt, hs, rfl⟩
      refine ⟨M_o1 (Tr.eight a b c d e f' g h x y).d "eight" Ω, ?_, ?_⟩
      · walk_at "pl"
        rw [if_neg (by decide)]
        exact ⟨p, pt, hs, rfl⟩
      rintro ρ Ω1 ⟨p, pt, hs, rfl⟩
      refine ⟨M_fin (Tr.eight a b c d e f' g h x y) "eight" Ω, ?_, ?_⟩
      · simp only [Tr.d, dtup]
        walk_at "pl"
        try rw [if_pos rfl]
        have st1 := hs.put (putD (m00 "eight" (Tr.eight a b c d e f' g h x y).d pt) (.inr "numbers") (dtup [a, b, c, d, e, f', g, h]))
        refine ⟨_, hs.e, lt20 ml0.len, hF x kk _ _ _ (by omega) hx fun r q Ω2 S o1 hM g1 g2 => hF y kk _ _ _ (by omega) hy fun r2 q2 Ω3 S2 o2 hM2 g3 g4 => ?_⟩
        have e2 := (g2 p (by rw [oset_same]; simp)).trans oset_same
        have e2t := (g2 pt (fun z => by cases st1.e2.symm.trans z)).trans st1.e2
        have e3 := (g4 p (by rw [e2]; simp)).trans e2
        have e3t := (g4 pt (by rw [e2t]; simp)).trans e2t
        refine ⟨by decide, _, e3, by show 7 < 1000; decide, ?_⟩
        have fr2 : Fr0 Ω Ω2 := Fr0.tr st1.fr g2
        have fr3 : Fr0 Ω Ω3 := Fr0.tr fr2 g4
        have pS2 : p ∉ S2 := ne_fresh e2 g3
        obtain ⟨U, hU, hU2⟩ := two_new (Ω := Ω) (Ω4 := oset Ω3 p (.dic (putD (putD (m00 "eight" (Tr.eight a b c d e f' g h x y).d pt) (.inr "numbers") (dtup [a, b, c, d, e, f', g, h])) (.inr "inners") (.lst [.o q, .o q2])))) oset_same ((oset_ne hs.ne.symm).trans e3t) hs.ne hs.f0 hs.f1 mn0 (.inr rfl) hM hM2 (fun v hv => (oset_ne (fun (z : v = p) => ne_fresh st1.e g1 (z ▸ hv))).trans (g4 v (hM.there v hv))) (fun v hv => oset_ne fun (z : v = p) => pS2 (z ▸ hv))
          (ne_fresh st1.e g1) (ne_fresh st1.e2 g1) pS2 (ne_fresh e2t g3) (fun v hv hv2 => hM.there v hv (g3 v hv2)) (Fr0.fresh st1.fr g1) (Fr0.fresh fr2 g3)
        exact ⟨_, p, U, none, .eight o1 o2, hU, hU2, fr3.put hs.f0 _, rfl⟩
      rintro ρ Ω1 ⟨r, p, S, z3, ho, hM, h1, h2, rfl⟩
      walk_at "pl"
      rw [if_neg (by decide)]
      exact k r p Ω1 S ho hM h1 h2
    | power x n =>
      obtain ⟨n1, n4, hx⟩ := hg
      simp only [Tr.d]
      walk_at "pl"
      refine ⟨M_o1 (Tr.power x n).d "power" Ω, ?_, ?_⟩
      · walk_at "pl"
        exact ⟨by decide, fun pt h1 p h2 => ⟨p, pt, st_new h1 h2, rfl⟩⟩
      rintro ρ Ω1 ⟨p, pt, hs, rfl⟩
      refine ⟨M_o1 (Tr.power x n).d "power" Ω, ?_, ?_⟩
      · walk_at "pl"
        rw [if_neg (by decide)]
        exact ⟨p, pt, hs, rfl⟩
      rintro ρ Ω1 ⟨p, pt, hs, rfl⟩
      refine ⟨M_o1 (Tr.power x n).d "power" Ω, ?_, ?_⟩
      · walk_at "pl"
        rw [if_neg (by decide)]
        exact ⟨p, pt, hs, rfl⟩
      rintro ρ Ω1 ⟨p, pt, hs, rfl⟩
      refine ⟨M_o1 (Tr.power x n).d "power" Ω, ?_, ?_⟩
      · walk_at "pl"
        rw [if_neg (by decide)]
        exact ⟨p, pt, hs, rfl⟩
      rintro ρ Ω1 ⟨p, pt, hs, rfl⟩
      refine ⟨M_o1 (Tr.power x n).d "power" Ω, ?_, ?_⟩
      · walk_at "pl"
        rw [if_neg (by decide)]
        exact ⟨p, pt, hs, rfl⟩
      rintro ρ Ω1 ⟨p, pt, hs, rfl⟩
      simp only [Tr.d]
      walk_at "pl"
      try rw [if_pos rfl]
      refine hF x kk _ _ _ (by omega) hx fun r z Ω2 S o1 hM g1 g2 => ?_
      refine ⟨by omega, by omega, ?_⟩
      have e0 : rngD 0 (n - 1).toNat = rngD ((0 : Nat) : Int) (n - 1).toNat := rfl
      rw [e0]
      refine forL_ind (P_mopen (.tup [.str "power", x.d, .int n]) (.str "power") (n - 1).toNat r Ω) ⟨0, _, z, S, none, none, rfl, by omega, hM, Fr0.fresh hs.fr g1, Fr0.tr hs.fr g2, rfl⟩ ?_ ?_
      · rintro ρ Ω3 ⟨i, l, q, S, z4, z5, e, hi, q1, q2, q3, rfl⟩
        have := rng_nil e
        have : i = (n - 1).toNat := by omega
        subst this
        walk_at "pl"
        exact k _ q _ S (.power o1) q1 q2 q3
      · rintro u us ρ Ω3 De e1 ih _ _ ⟨i, l, q, S2, z4, z5, e, hi, q1, q2, q3, rfl⟩
        obtain ⟨l', rfl, rfl, rfl⟩ := rng_step e
        walk_at "pl"
        refine hF x kk _ _ _ (by omega) hx fun r2 q' Ω4 S3 o2 hM3 g3 g4 => ?_
        rw [Opened.unique o2 o1] at hM3
        refine ⟨by decide, by decide, fun pt2 h1 p2 h2 => ⟨by decide, m01 (.lst [.o q', .o q]) pt2, rfl, by show 6 < 1000; decide, ?_⟩⟩
        have st2 := st_new (m := putD (m01 (.lst [.o q', .o q]) pt2) (.inr "numbers") (dtup [1, 0, 0, 0, 0, 0, 0, 1])) h1 h2
        have fr4 : Fr0 Ω Ω4 := Fr0.tr q3 g4
        have hq4 : MaO Ω4 q (pows r i) S2 := q1.keep fun v hv => g4 v (q1.there v hv)
        have nP : ∀ {T : List Addr} {qq : Addr} {rr : R}, MaO Ω4 qq rr T → p2 ∉ T ∧ pt2 ∉ T := fun hT => ⟨fun z => hT.there _ z st2.f0, fun z => hT.there _ z st2.f1⟩
        have kP : ∀ {T : List Addr} {qq : Addr} {rr : R}, MaO Ω4 qq rr T → ∀ v ∈ T, oset (oset Ω4 pt2 (.lst [.int 0, .int 0])) p2 (.dic (putD (m01 (.lst [.o q', .o q]) pt2) (.inr "numbers") (dtup [1, 0, 0, 0, 0, 0, 0, 1]))) v = Ω4 v := fun hT v hv => st2.fr v (hT.there v hv)
        obtain ⟨U, hU, hU2⟩ := two_new (Ω := Ω) st2.e st2.e2 st2.ne (Fr0.none fr4 st2.f0) (Fr0.none fr4 st2.f1) mn1 (.inr rfl) hM3 hq4 (kP hM3) (kP hq4) (nP hM3).1 (nP hM3).2 (nP hq4).1 (nP hq4).2 (fun v hv hv2 => q1.there v hv2 (g3 v hv)) (Fr0.fresh q3 g3) q2
        exact ih _ _ ⟨i + 1, l', p2, U, _, _, by rw [Int.natCast_add]; rfl, by omega, hU, hU2, Fr0.tr fr4 st2.fr, rfl⟩
theorem c_law_opened (T : Txt K mg C) : ∀ M : Nat, Clb P w K mg base ca (M + 5) "_law_opened" (F_mopen M)
  | 0 => mopen_step T (Nat.le_refl 4) (clb_none T.d_law_opened 4) (fun _ _ _ _ _ h => by omega)
  | M + 1 => mopen_step T (by omega) (c_law_opened T M) (fun x k Ω Q E h g o => ⟨x, k, rfl, by omega, g, o⟩)
theorem c_law_opened5 (T : Txt K mg C) : Clb P w K mg base ca 10 "_law_opened" (F_mopen 5) := c_law_opened T 5
theorem c_law_told27 (T : Txt K mg C) : Clb P w K mg base ca 34 "_law_told" (F_mtold 27) := c_law_told T 27
theorem c_law_took27 (T : Txt K mg C) : Clb P w K mg base ca 33 "_law_took" (F_mtook 27) := c_law_took T 27
theorem mtold_in {Ω : Om} {Q : AQ} {E : Value → Om → Prop} {p pp : Addr} {r r' : R} {S : List Addr} {m m' : Int} {nn : Nat} {ans : Ans} (hM : MaO Ω p r S) (hl : r.lv ≤ 27) (hpp : Ω pp = none) (m0 : 0 ≤ m) (hb : r.tk + m ≤ 2600) (ht : Told nn r m r' m' ans)
    (k : ∀ Ω3, MaO Ω3 p r' S → (∀ b, b ∉ S → Ω b ≠ none → Ω3 b = Ω b) → Q ans.e Ω3) : F_mtold 27 [.o p, .o pp] (oset Ω pp (.lst [.int m])) Q E := by
  have hpU : pp ∉ S := fun z => hM.there pp z hpp
  refine ⟨p, pp, r, S, nn, m, m', r', ans, rfl, hM.keep fun b hb => oset_ne fun (z : b = pp) => hpU (z ▸ hb), hl, oset_same, hpU, m0, hb, ht, fun Ω3 h1 h2 h3 => k Ω3 h1 fun b hb hn => ?_⟩
  have hbp : b ≠ pp := fun z => hn (by rw [z]; exact hpp)
  rw [h3 b hb hbp, oset_ne hbp]
/-- a machine that is ours since Ω0 -/
structure Fm (Ω0 Ω : Om) (p : Addr) (r : R) (S : List Addr) (most : Int) : Prop where
  ma : MaO Ω p r S
  lv : r.lv ≤ 27
  tk : (r.tk : Int) ≤ most
  nw : ∀ b ∈ S, Ω0 b = none
  fr : ∀ b, Ω0 b ≠ none → Ω b = Ω0 b
theorem Fm.next {Ω0 Ω Ω3 : Om} {p : Addr} {r r' : R} {S : List Addr} {most m' : Int} {nn : Nat} {ans : Ans} (h : Fm Ω0 Ω p r S most) (ht : Told nn r (most - r.tk) r' m' ans) (hM : MaO Ω3 p r' S) (hf : ∀ b, b ∉ S → Ω b ≠ none → Ω3 b = Ω b) : Fm Ω0 Ω3 p r' S most := by
  have := ht.sum
  have h1 := h.tk
  refine ⟨hM, Nat.le_trans ht.lv h.lv, by omega, h.nw, fun b hb => ?_⟩
  have e := h.fr b hb
  rw [hf b (fun z => hb (h.nw b z)) (by rw [e]; exact hb), e]
theorem Fm.put {Ω0 Ω : Om} {p a : Addr} {r : R} {S : List Addr} {most : Int} (h : Fm Ω0 Ω p r S most) (h0 : Ω0 a = none) (hS : a ∉ S) (o : AO) : Fm Ω0 (oset Ω a o) p r S most :=
  ⟨h.ma.keep fun b hb => oset_ne fun (z : b = a) => hS (z ▸ hb), h.lv, h.tk, h.nw, fun b hb => (oset_ne fun (z : b = a) => hb (by rw [z]; exact h0)).trans (h.fr b hb)⟩
theorem Fm.none {Ω0 Ω : Om} {p a : Addr} {r : R} {S : List Addr} {most : Int} (h : Fm Ω0 Ω p r S most) (ha : Ω a = Option.none) : Ω0 a = Option.none := by
  cases q : Ω0 a with
  | none => rfl
  | some o => have := h.fr a (by rw [q]; simp); rw [ha, q] at this; cases this
def Hw.lf (h : Hw) (l : List Int) : D := match h with
  | .none => .non
  | h => .tup [.lst (l.map D.int), .str h.s]
def F_lfirst : AF := fun ds Ω Q _ => ∃ (tr : Tr) (many : Nat) (most : Int), ds = [tr.d, .int many, .int most] ∧ tr.good 4 ∧ many ≤ 1000 ∧ 0 ≤ most ∧ most ≤ 2600 ∧ ∀ r, Opened tr r → ∃ l h, Fst most many r l h ∧ ∀ Ω' : Om, (∀ b, Ω b ≠ none → Ω' b = Ω b) → Q (h.lf l) Ω'
def I_lf (Ω0 : Om) (tr : Tr) (many : Nat) (most : Int) (p a : Addr) (l : List Int) (h : Hw) : Nat → En → Om → Prop := fun n ρ Ω => ∃ (r : R) (S : List Addr) (acc l' : List Int) (z : Option D), Fm Ω0 Ω p r S most ∧ a ∉ S ∧ Ω0 a = none ∧ Ω a = some (.lst (acc.map D.int)) ∧ Fst most n r l' h ∧ acc ++ l' = l ∧ acc.length + n = many ∧
  ρ = [some tr.d, some (.int many), some (.int most), some (.o p), some (.o a), z]
theorem c_law_first (T : Txt K mg C) : Clb P w K mg base ca 35 "_law_first" F_lfirst := by
  refine clb T.d_law_first sc__law_first (fun ds Ω Q E h => ?_) (fun f cdv A outer s H E hr => ⟨_, _, (ass_cons (as_set 3 sc__law_first.nd (ae_call (c_law_opened5 T) hr (takes_of rfl rfl rfl rfl) (by omega) (aa_cons (ae_var 0) aa_nil)))
      (ass_cons (as_set 4 sc__law_first.nd (ae_lstO aa_nil))
      (ass_cons (as_while (passes_of rfl) (at_lt (ae_len rfl T.b_len (ae_var 4)) (ae_var 1)) (ass_cons (as_set 5 sc__law_first.nd (ae_call (c_law_told27 T) hr (takes_of rfl rfl rfl rfl) (by omega) (aa_cons (ae_var 3) (aa_cons (ae_lstO (aa_cons (ae_sub (ae_var 2) (ae_call (c_law_took27 T) hr (takes_of rfl rfl rfl rfl) (by omega) (aa_cons (ae_var 3) aa_nil))) aa_nil)) aa_nil))))
      (ass_cons (as_if (at_eqS (ae_ix (ae_var 5) ae_int) ae_str) (ass_one (as_ret ae_non)) ass_nil)
      (ass_cons (as_if (at_neS (ae_ix (ae_var 5) ae_int) ae_str) (ass_one (as_frz 4 (as_ret (ae_tup (aa_cons (ae_var 4) (aa_cons (ae_ix (ae_var 5) ae_int) aa_nil)))))) ass_nil)
      (ass_one (as_expr (ae_app (ae_var 4) (ae_ix (ae_var 5) ae_int))))))))
      (ass_one (as_frz 4 (as_ret (ae_tup (aa_cons (ae_var 4) (aa_cons ae_str aa_nil))))))))), fun ds Ω Qa Ea h => ?_⟩)
  · obtain ⟨_, _, _, rfl, _⟩ := h
    rfl
  · obtain ⟨tr, many, most, rfl, hg, hmany, m0, m1, k⟩ := h
    walk_at "pl"
    refine ⟨tr, 4, rfl, by decide, hg, fun r p Ω1 S1 ho1 hM1 hf1 hs1 => ?_⟩
    obtain ⟨l, h, hF, kk⟩ := k r ho1
    have hlv := Nat.le_trans (opened_lv 4 tr r hg ho1) (by decide : 3 + 6 * 4 ≤ 27)
    have F1 : Fm Ω Ω1 p r S1 most := ⟨hM1, hlv, by rw [ho1.tk0]; exact m0, hf1, hs1⟩
    refine ⟨by decide, fun a ha => ?_⟩
    have ha0 := F1.none ha
    have haS : a ∉ S1 := fun z => hM1.there a z ha
    refine ⟨I_lf Ω tr many most p a l h, ⟨many, r, S1, [], l, none, F1.put ha0 haS _, haS, ha0, oset_same, hF, rfl, by simp, rfl⟩, ?_⟩
    rintro n ρ Ω2 ⟨r, S, acc, l', z, F2, haS, ha0, hoa, hF, hac, hlen, rfl⟩
    walk_at "pl"
    have hseq : (D.o a).seq Ω2 = some (acc.map D.int) := by simp only [D.seq, hoa]
    refine ⟨_, hseq, ?_⟩
    rw [List.length_map]
    have fro : ∀ b, Ω b ≠ none → odel Ω2 a b = Ω b := fun b hb => by
      rw [odel_ne (fun e => hb (by rw [e]; exact ha0)), F2.fr b hb]
    have hsum : ∀ {i r1 m1 ans}, Told i r (most - r.tk) r1 m1 ans → 0 ≤ most - r.tk ∧ r.tk + (most - r.tk) ≤ 2600 := fun _ => ⟨by have := F2.tk; omega, by omega⟩
    cases hF with
    | stop =>
      rw [if_neg (by omega)]
      rw [List.append_nil] at hac
      subst hac
      exact ⟨_, hoa, by decide, kk (odel Ω2 a) fro⟩
    | @part i n _ r1 m1 q l2 _ t0 hF =>
      rw [if_pos (by omega)]
      refine ⟨p, r, S, rfl, F2.ma, F2.lv, _, rfl, by decide, fun pp hpp => mtold_in F2.ma F2.lv hpp (hsum t0).1 (hsum t0).2 t0 fun Ω3 hM3 hf3 => ?_⟩
      have F3 := F2.next t0 hM3 hf3
      have hoa3 : Ω3 a = some (.lst (acc.map D.int)) := (hf3 a haS (by rw [hoa]; simp)).trans hoa
      simp only [Ans.e, Ans.d]
      walk_at "pl"
      rw [if_neg (by decide), if_neg (by decide)]
      exact ⟨⟨a, _, rfl, hoa3⟩, _, hoa3, by rw [List.length_map]; exact small1000' (by omega), n, Nat.lt_succ_self _, r1, S, acc ++ [q], l2, _, F3.put ha0 haS _, haS, ha0, by rw [oset_same, List.map_append]; rfl, hF, by rw [List.append_assoc]; exact hac, by rw [List.length_append, List.length_singleton]; omega, rfl⟩
    | @fin i n _ r1 m1 t0 =>
      rw [if_pos (by omega)]
      refine ⟨p, r, S, rfl, F2.ma, F2.lv, _, rfl, by decide, fun pp hpp => mtold_in F2.ma F2.lv hpp (hsum t0).1 (hsum t0).2 t0 fun Ω3 hM3 hf3 => ?_⟩
      have F3 := F2.next t0 hM3 hf3
      have hoa3 : Ω3 a = some (.lst (acc.map D.int)) := (hf3 a haS (by rw [hoa]; simp)).trans hoa
      rw [List.append_nil] at hac
      subst hac
      simp only [Ans.e, Ans.d]
      walk_at "pl"
      rw [if_neg (by decide), if_pos (by decide)]
      exact ⟨_, hoa3, by decide, kk (odel Ω3 a) fun b hb => by rw [odel_ne (fun e => hb (by rw [e]; exact ha0)), F3.fr b hb]⟩
    | @waits i n _ r1 m1 t0 =>
      rw [if_pos (by omega)]
      refine ⟨p, r, S, rfl, F2.ma, F2.lv, _, rfl, by decide, fun pp hpp => mtold_in F2.ma F2.lv hpp (hsum t0).1 (hsum t0).2 t0 fun Ω3 hM3 hf3 => ?_⟩
      have F3 := F2.next t0 hM3 hf3
      have hoa3 : Ω3 a = some (.lst (acc.map D.int)) := (hf3 a haS (by rw [hoa]; simp)).trans hoa
      rw [List.append_nil] at hac
      subst hac
      simp only [Ans.e, Ans.d]
      walk_at "pl"
      rw [if_neg (by decide), if_pos (by decide)]
      exact ⟨_, hoa3, by decide, kk (odel Ω3 a) fun b hb => by rw [odel_ne (fun e => hb (by rw [e]; exact ha0)), F3.fr b hb]⟩
    | @none i n _ r1 m1 t0 =>
      rw [if_pos (by omega)]
      refine ⟨p, r, S, rfl, F2.ma, F2.lv, _, rfl, by decide, fun pp hpp => mtold_in F2.ma F2.lv hpp (hsum t0).1 (hsum t0).2 t0 fun Ω3 hM3 hf3 => ?_⟩
      have F3 := F2.next t0 hM3 hf3
      simp only [Ans.e, Ans.d]
      walk_at "pl"
      exact kk Ω3 F3.fr
def IsW (s : Str) (b : Bool) : Prop := (b = true ∧ (s = "waits" ∨ s = "none")) ∨ (b = false ∧ (s = "part" ∨ s = "end" ∨ s = "less" ∨ s = "same" ∨ s = "more"))
theorem in_wn {neg : Bool} {s : Str} {b : Bool} {Ω : Om} {Q : AQ} (h : IsW s b) (k : Q (.bl (if neg then !b else b)) Ω) : fInD neg (.str s) (.lst [.str "waits", .str "none"]) Ω Q := by
  refine ⟨_, .str s, [.str "waits", .str "none"], rfl, rfl, rfl, ?_, (by decide +kernel), ?_⟩
  · rcases h with ⟨_, rfl | rfl⟩ | ⟨_, rfl | rfl | rfl | rfl | rfl⟩ <;> decide +kernel
  · have e : (([PyData.str "waits", .str "none"] : List PyData).any fun z => PyData.eqv z (.str s)) = b := by
      rcases h with ⟨rfl, rfl | rfl⟩ | ⟨rfl, rfl | rfl | rfl | rfl | rfl⟩ <;> first | (simp [PyData.eqv]; done) | (simp only [List.any_cons, List.any_nil, PyData.eqv]; decide)
    rw [e]
    exact k
/-- two machines in one store -/
structure Tm (Ω0 : Om) (S1 S2 : List Addr) (Ω : Om) (p : Addr) (r : R) (q : Addr) (s : R) (most : Int) : Prop where
  m1 : MaO Ω p r S1
  m2 : MaO Ω q s S2
  l1 : r.lv ≤ 27
  l2 : s.lv ≤ 27
  tk : (r.tk : Int) + s.tk ≤ most
  dj : ∀ b ∈ S1, b ∉ S2
  fr : ∀ b, b ∉ S1 → b ∉ S2 → Ω0 b ≠ none → Ω b = Ω0 b
  t1 : ∀ b ∈ S1, Ω0 b ≠ none
  t2 : ∀ b ∈ S2, Ω0 b ≠ none
section
variable {Ω0 Ω Ω3 : Om} {S1 S2 : List Addr} {p q : Addr} {r s r' : R} {most m' : Int} {nn : Nat} {ans : Ans}
theorem Tm.old (h : Tm Ω0 S1 S2 Ω p r q s most) {b : Addr} (hb : Ω b = none) : Ω0 b = none ∧ b ∉ S1 ∧ b ∉ S2 := by
  have h1 : b ∉ S1 := fun z => h.m1.there b z hb
  have h2 : b ∉ S2 := fun z => h.m2.there b z hb
  refine ⟨?_, h1, h2⟩
  cases e : Ω0 b with
  | none => rfl
  | some o => have := h.fr b h1 h2 (by rw [e]; simp); rw [hb, e] at this; cases this
theorem Tm.fst (h : Tm Ω0 S1 S2 Ω p r q s most) (ht : Told nn r (most - r.tk - s.tk) r' m' ans) (hM : MaO Ω3 p r' S1) (hf : ∀ b, b ∉ S1 → Ω b ≠ none → Ω3 b = Ω b) : Tm Ω0 S1 S2 Ω3 p r' q s most := by
  have := ht.sum
  have h1 := h.tk
  refine ⟨hM, h.m2.keep fun b hb => hf b (fun z => h.dj b z hb) (h.m2.there b hb), Nat.le_trans ht.lv h.l1, h.l2, by omega, h.dj, fun b k1 k2 k3 => ?_, h.t1, h.t2⟩
  have e := h.fr b k1 k2 k3
  rw [hf b k1 (by rw [e]; exact k3), e]
theorem Tm.snd (h : Tm Ω0 S1 S2 Ω p r q s most) (ht : Told nn s (most - r.tk - s.tk) r' m' ans) (hM : MaO Ω3 q r' S2) (hf : ∀ b, b ∉ S2 → Ω b ≠ none → Ω3 b = Ω b) : Tm Ω0 S1 S2 Ω3 p r q r' most := by
  have := ht.sum
  have h1 := h.tk
  refine ⟨h.m1.keep fun b hb => hf b (fun z => h.dj b hb z) (h.m1.there b hb), hM, h.l1, Nat.le_trans ht.lv h.l2, by omega, h.dj, fun b k1 k2 k3 => ?_, h.t1, h.t2⟩
  have e := h.fr b k1 k2 k3
  rw [hf b k2 (by rw [e]; exact k3), e]
theorem Tm.set (h : Tm Ω0 S1 S2 Ω p r q s most) {a : Addr} {o : AO} (h0 : Ω0 a = none) (h1 : a ∉ S1) (h2 : a ∉ S2) : Tm Ω0 S1 S2 (oset Ω a o) p r q s most := by
  refine ⟨h.m1.keep fun b hb => oset_ne fun (z : b = a) => h1 (z ▸ hb), h.m2.keep fun b hb => oset_ne fun (z : b = a) => h2 (z ▸ hb), h.l1, h.l2, h.tk, h.dj, fun b k1 k2 k3 => ?_, h.t1, h.t2⟩
  rw [oset_ne (fun (z : b = a) => k3 (by rw [z]; exact h0)), h.fr b k1 k2 k3]
end
theorem ans_headE {x : Ans} : ∃ (xs : List D) (t : Str), x.e = .tup xs ∧ xs[0]? = some (.str t) ∧ IsW t (!x.stp) ∧ (x.stp = true → x.e = x.d ∧ (t = "end" ↔ x = .fin)) ∧ (x = .waits → t = "waits") ∧ (x = .none → t = "none") := by
  cases x with
  | part q => exact ⟨_, _, rfl, rfl, .inr ⟨rfl, .inl rfl⟩, fun _ => ⟨rfl, by constructor <;> intro z <;> revert z <;> simp only [reduceCtorEq] <;> decide⟩, (fun z => by cases z), fun z => by cases z⟩
  | fin => exact ⟨_, _, rfl, rfl, .inr ⟨rfl, .inr (.inl rfl)⟩, fun _ => ⟨rfl, by constructor <;> intro z <;> rfl⟩, (fun z => by cases z), fun z => by cases z⟩
  | waits => exact ⟨_, _, rfl, rfl, .inl ⟨rfl, .inl rfl⟩, (fun z => by cases z), fun _ => rfl, fun z => by cases z⟩
  | none => exact ⟨_, _, rfl, rfl, .inl ⟨rfl, .inr rfl⟩, (fun z => by cases z), (fun z => by cases z), fun _ => rfl⟩
def F_lbes : AF := fun ds Ω Q _ => ∃ (p q : Addr) (r s : R) (S1 S2 : List Addr) (most : Int) (d : Nat) (w : Wd), ds = [.lst [.o p, .o q], .int most] ∧ Tm Ω S1 S2 Ω p r q s most ∧ most ≤ 2600 ∧ Bes most d 0 r s w ∧ ∀ Ω' : Om, (∀ b, b ∉ S1 → b ∉ S2 → Ω b ≠ none → Ω' b = Ω b) → Q (.str w.s) Ω'
def I_lbes (Ω0 : Om) (S1 S2 : List Addr) (p q : Addr) (most : Int) (w : Wd) : Nat → En → Om → Prop := fun d ρ Ω => ∃ (n : Nat) (r s : R) (z3 z4 z5 : Option D), Tm Ω0 S1 S2 Ω p r q s most ∧ Bes most d n r s w ∧
  ρ = [some (.lst [.o p, .o q]), some (.int most), some (.int n), z3, z4, z5]
theorem c_law_beside (T : Txt K mg C) : Clb P w K mg base ca 35 "_law_beside" F_lbes := by
  refine clb T.d_law_beside sc__law_beside (fun ds Ω Q E h => ?_) (fun f cdv A outer s H E hr => ⟨_, _, (ass_cons (as_set 2 sc__law_beside.nd ae_int)
      (ass_one (as_while (passes_of rfl) (at_val ae_bl) (ass_cons (as_set 3 sc__law_beside.nd (ae_lstO aa_nil))
      (ass_cons (as_for (passes_of rfl) rfl (ae_var 0) (ag_name (i := 4) sc__law_beside.nd rfl (Or.inl rfl)) (ass_cons (as_expr (ae_app (ae_var 3) (ae_call (c_law_told27 T) hr (takes_of rfl rfl rfl rfl) (by omega) (aa_cons (ae_var 4) (aa_cons (ae_lstO (aa_cons (ae_sub (ae_sub (ae_var 1) (ae_call (c_law_took27 T) hr (takes_of rfl rfl rfl rfl) (by omega) (aa_cons (ae_ix (ae_var 0) ae_int) aa_nil))) (ae_call (c_law_took27 T) hr (takes_of rfl rfl rfl rfl) (by omega) (aa_cons (ae_ix (ae_var 0) ae_int) aa_nil))) aa_nil)) aa_nil)))))
      (ass_one (as_if (at_inD (u65 hr) (ae_ix (ae_ix (ae_var 3) (ae_neg ae_int)) ae_int) (ae_lst (aa_cons ae_str (aa_cons ae_str aa_nil)))) (ass_one (as_ret (ae_ix (ae_ix (ae_var 3) (ae_neg ae_int)) ae_int))) ass_nil))))
      (ass_cons (as_if (at_neD hr.units (ae_ix (ae_var 3) ae_int) (ae_ix (ae_var 3) ae_int)) (ass_cons (as_set 5 sc__law_beside.nd (ae_or (ae_eqS (ae_ix (ae_ix (ae_var 3) ae_int) ae_int) ae_str) (ae_one (ae_and (ae_neS (ae_ix (ae_ix (ae_var 3) ae_int) ae_int) ae_str) (ae_one (ae_gt (ae_ix (ae_ix (ae_var 3) ae_int) ae_int) (ae_ix (ae_ix (ae_var 3) ae_int) ae_int)))))))
      (ass_one (as_ret (ae_ix (ae_lst (aa_cons ae_str (aa_cons ae_str aa_nil))) (ae_intB rfl T.b_int (ae_eqD hr.units (ae_var 5) (ae_eqI (ae_mod (ae_var 2) ae_int) ae_int))))))) ass_nil)
      (ass_cons (as_if (at_eqS (ae_ix (ae_ix (ae_var 3) ae_int) ae_int) ae_str) (ass_one (as_ret ae_str)) ass_nil)
      (ass_one (as_set 2 sc__law_beside.nd (ae_add (ae_var 2) ae_int)))))))))), fun ds Ω Qa Ea h => ?_⟩)
  · obtain ⟨_, _, _, _, _, _, _, _, _, rfl, _⟩ := h
    rfl
  · obtain ⟨p, q, r, s, S1, S2, most, d, w, rfl, t, hmost, hB, k⟩ := h
    walk_at "pl"
    refine ⟨I_lbes Ω S1 S2 p q most w, ⟨d, 0, r, s, none, none, none, t, hB, rfl⟩, ?_⟩
    clear hB t
    clear d r s
    rintro d ρ Ω1 ⟨n, r, s, z3, z4, z5, t, hB, rfl⟩
    walk_at "pl"
    refine ⟨by decide, fun a ha => ?_⟩
    obtain ⟨ha0, ha1, ha2⟩ := t.old ha
    have t2 : Tm Ω S1 S2 (oset Ω1 a (.lst [])) p r q s most := t.set ha0 ha1 ha2
    have hoa : oset Ω1 a (.lst []) a = some (.lst []) := oset_same
    generalize oset Ω1 a (.lst []) = Ω2 at t2 hoa ⊢
    obtain ⟨i, r1, m1, x, hx, hor⟩ := hB.first
    simp only [forL]
    walk_at "pl"
    have hb1 := t2.tk
    refine ⟨⟨a, _, rfl, hoa⟩, p, r, S1, rfl, t2.m1, t2.l1, _, rfl, q, s, S2, rfl, t2.m2, t2.l2, _, rfl, by decide, fun pp hpp => mtold_in t2.m1 t2.l1 hpp (by omega) (by omega) hx fun Ω3 hM3 hf3 => ?_⟩
    have t3 := t2.fst hx hM3 hf3
    have hoa3 : Ω3 a = some (.lst []) := (hf3 a ha1 (by rw [hoa]; simp)).trans hoa
    obtain ⟨xs, w0, ex, hx0, hxw, hxe, hx1, hx2⟩ := ans_headE (x := x)
    refine ⟨_, hoa3, by decide, x.e, rfl, xs, by rw [ex]; rfl, _, hx0, by decide, ?_⟩
    have t4 : Tm Ω S1 S2 (oset Ω3 a (.lst ([] ++ [x.e]))) p r1 q s most := t3.set ha0 ha1 ha2
    have hoa4 : oset Ω3 a (.lst ([] ++ [x.e])) a = some (.lst [x.e]) := oset_same
    generalize oset Ω3 a (.lst ([] ++ [x.e])) = Ω4 at t4 hoa4 ⊢
    have hseq4 : (D.o a).seq Ω4 = some [x.e] := by simp only [D.seq, hoa4]
    refine in_wn hxw ⟨_, rfl, ?_⟩
    have stop1 : (!x.stp) = true → w.s = w0 → (∃ xs, D.seq Ω4 (D.o a) = some xs ∧ ∃ x, xs.getLast? = some x ∧ ∃ xs, D.seq Ω4 x = some xs ∧ ∃ x, xs[0]? = some x ∧ Qa x Ω4) := fun _ e => by
      refine ⟨_, hseq4, x.e, rfl, xs, by rw [ex]; rfl, _, hx0, ?_⟩
      rw [← e]
      exact k Ω4 t4.fr
    rcases hor with ⟨rfl, rfl⟩ | ⟨rfl, rfl⟩ | ⟨hxs, j, s1, m2, y, hy, hor⟩
    · rw [if_pos (by decide)]
      exact stop1 rfl (hx1 rfl).symm
    · rw [if_pos (by decide)]
      exact stop1 rfl (hx2 rfl).symm
    rw [hxs, if_neg (by decide)]
    clear stop1
    have hb2 := t4.tk
    refine ⟨⟨a, _, rfl, hoa4⟩, p, r1, S1, rfl, t4.m1, t4.l1, _, rfl, q, s, S2, rfl, t4.m2, t4.l2, _, rfl, by decide, fun pp hpp => mtold_in t4.m2 t4.l2 hpp (by omega) (by omega) hy fun Ω5 hM5 hf5 => ?_⟩
    have t5 := t4.snd hy hM5 hf5
    have hoa5 : Ω5 a = some (.lst [x.e]) := (hf5 a ha2 (by rw [hoa4]; simp)).trans hoa4
    obtain ⟨ys, w1, ey, hy0, hyw, hye, hy1, hy2⟩ := ans_headE (x := y)
    refine ⟨_, hoa5, by show 1 < _; rw [sizeLine_eq]; decide, y.e, rfl, ys, by rw [ey]; rfl, _, hy0, by decide, ?_⟩
    have t6 : Tm Ω S1 S2 (oset Ω5 a (.lst ([x.e] ++ [y.e]))) p r1 q s1 most := t5.set ha0 ha1 ha2
    have hoa6 : oset Ω5 a (.lst ([x.e] ++ [y.e])) a = some (.lst [x.e, y.e]) := oset_same
    generalize oset Ω5 a (.lst ([x.e] ++ [y.e])) = Ω6 at t6 hoa6 ⊢
    have hseq : (D.o a).seq Ω6 = some [x.e, y.e] := by simp only [D.seq, hoa6]
    refine in_wn hyw ⟨_, rfl, ?_⟩
    have stop2 : w.s = w1 → (∃ xs, D.seq Ω6 (D.o a) = some xs ∧ ∃ x, xs.getLast? = some x ∧ ∃ xs, D.seq Ω6 x = some xs ∧ ∃ x, xs[0]? = some x ∧ Qa x Ω6) := fun e => by
      refine ⟨_, hseq, y.e, rfl, ys, by rw [ey]; rfl, _, hy0, ?_⟩
      rw [← e]
      exact k Ω6 t6.fr
    rcases hor with ⟨rfl, rfl⟩ | ⟨rfl, rfl⟩ | ⟨hys, hor⟩
    · rw [if_pos (by decide)]
      exact stop2 (hy1 rfl).symm
    · rw [if_pos (by decide)]
      exact stop2 (hy2 rfl).symm
    rw [hys, if_neg (by decide)]
    clear stop2
    have exd := (hxe hxs).1
    have eyd := (hye hys).1
    rcases hor with ⟨hne, rfl⟩ | ⟨rfl, rfl, rfl⟩ | ⟨v, d', rfl, rfl, rfl, hB2⟩
    · refine ⟨_, hseq, _, rfl, _, hseq, _, rfl, ?_⟩
      rw [exd, eyd]
      refine ne_ans hxs hys (fun e => absurd e hne) fun _ => ⟨true, rfl, ?_⟩
      rw [if_pos rfl]
      have hmod : (decide ((n : Int).fmod 2 = 0)) = decide (n % 2 = 0) := by
        have : (n : Int).fmod 2 = (n : Int) % 2 := Int.fmod_eq_emod_of_nonneg _ (by decide)
        rw [this]
        by_cases h : n % 2 = 0
        · rw [decide_eq_true h, decide_eq_true (by omega)]
        · rw [decide_eq_false h, decide_eq_false (by omega)]
      have kk := k _ t6.fr
      have fin : ∀ b0 : Bool, gfB x y n = decide (b0 = decide (n % 2 = 0)) → (2 ≤ sizeLine ∧ (2 : Int) ≠ 0 ∧ fEq false (D.bl b0) (D.bl (decide ((n : Int).fmod 2 = 0))) Ω6 fun x Ω1 => ∃ k, x = D.bl k ∧ ∃ x, atI [D.str (Str.ofString "less"), D.str (Str.ofString "more")] (if k = true then 1 else 0) = some x ∧ Qa x Ω1) := fun b0 e => by
        refine ⟨by decide, by decide, ?_⟩
        rw [hmod]
        refine fEq_bl ⟨_, rfl, ?_⟩
        simp only [Bool.false_eq_true, if_false, ← e]
        cases hg : gfB x y n with
        | true =>
          rw [hg] at kk
          exact ⟨_, rfl, kk⟩
        | false =>
          rw [hg] at kk
          exact ⟨_, rfl, kk⟩
      refine ⟨_, hseq, _, rfl, xs, by rw [ex]; rfl, _, hx0, w0, rfl, ?_⟩
      cases x with
      | waits => cases hxs
      | none => cases hxs
      | fin =>
        rw [if_pos ((hxe rfl).2.mpr rfl)]
        exact fin true (by cases y <;> rfl)
      | part u =>
        rw [if_neg (fun z => by have := (hxe rfl).2.mp z; cases this)]
        refine ⟨_, hseq, _, rfl, ys, by rw [ey]; rfl, _, hy0, w1, rfl, ?_⟩
        cases y with
        | waits => cases hys
        | none => cases hys
        | fin =>
          rw [if_neg (by rw [(hye rfl).2.mpr rfl]; decide)]
          exact fin false rfl
        | part v =>
          rw [if_pos (by simp only [Bool.not_eq_true', decide_eq_false_iff_not]; intro z; have := (hye rfl).2.mp z; cases this)]
          refine ⟨_, hseq, _, rfl, _, rfl, _, rfl, _, hseq, _, rfl, _, rfl, _, rfl, _, rfl, _, rfl, ?_⟩
          exact fin _ rfl
    · refine ⟨_, hseq, _, rfl, _, hseq, _, rfl, ?_⟩
      show fEq true (Ans.fin).d (Ans.fin).d Ω6 _
      refine ne_ans rfl rfl (fun _ => ⟨false, rfl, ?_⟩) fun e => absurd rfl e
      rw [if_neg (by decide)]
      refine ⟨_, hseq, _, rfl, _, rfl, _, rfl, _, rfl, ?_⟩
      rw [if_pos rfl]
      exact k _ t6.fr
    · refine ⟨_, hseq, _, rfl, _, hseq, _, rfl, ?_⟩
      show fEq true (Ans.part v).d (Ans.part v).d Ω6 _
      refine ne_ans rfl rfl (fun _ => ⟨false, rfl, ?_⟩) fun e => absurd rfl e
      rw [if_neg (by decide)]
      refine ⟨_, hseq, _, rfl, _, rfl, _, rfl, _, rfl, ?_⟩
      rw [if_neg (by decide)]
      exact ⟨d', Nat.lt_succ_self _, n + 1, r1, s1, _, _, _, t6, hB2, by rw [Int.natCast_add]; rfl⟩
theorem Fm.ask {Ω0 Ω : Om} {p pp : Addr} {r r' : R} {S : List Addr} {most m' : Int} {nn : Nat} {ans : Ans} {Q : AQ} {E : Value → Om → Prop} (h : Fm Ω0 Ω p r S most) (hm : most ≤ 2600) (hpp : Ω pp = Option.none) (ht : Told nn r (most - r.tk) r' m' ans) (k : ∀ Ω3, Fm Ω0 Ω3 p r' S most → Q ans.e Ω3) : F_mtold 27 [.o p, .o pp] (oset Ω pp (.lst [.int (most - r.tk)])) Q E := by
  have htk := h.tk
  exact mtold_in h.ma h.lv hpp (by omega) (by omega) ht fun Ω3 hM3 hf3 => k Ω3 (h.next ht hM3 hf3)
def oD : Option (List (Int × Int)) → D
  | none => .str "none"
  | some [] => .str "waits"
  | some l => .lst (l.map fD)
def F_lpair : AF := fun ds Ω Q _ => ∃ (tr : Tr) (size most : Int), ds = [tr.d, .int size, .int most] ∧ tr.good 4 ∧ 0 ≤ most ∧ most ≤ 2600 ∧ Bi size ∧ ∀ r, Opened tr r → ∃ d o, Nea size most d r (1, 0) (0, 1) false o ∧ ∀ Ω' : Om, (∀ b, Ω b ≠ none → Ω' b = Ω b) → Q (oD o) Ω'
def I_lpair (Ω0 : Om) (tr : Tr) (size most : Int) (p : Addr) (o : Option (List (Int × Int))) : Nat → En → Om → Prop := fun d ρ Ω => ∃ (r : R) (S : List Addr) (x y : Int × Int) (g : Bool) (k : Nat) (z7 z8 z9 z10 : Option D), Fm Ω0 Ω p r S most ∧ Nea size most d r x y g o ∧ (g = true ↔ 0 < k) ∧ (g = false → x = (1, 0)) ∧ (x.1 * y.2 - y.1 * x.2 = 1 ∨ x.1 * y.2 - y.1 * x.2 = -1) ∧
  ρ = [some tr.d, some (.int size), some (.int most), some (.o p), some (fD x), some (fD y), some (.int k), z7, z8, z9, z10]
theorem c_law_pair (T : Txt K mg C) : Clb P w K mg base ca 35 "_law_pair" F_lpair := by
  refine clb T.d_law_pair sc__law_pair (fun ds Ω Q E h => ?_) (fun f cdv A outer s H E hr => ⟨_, _, (ass_cons (as_set 3 sc__law_pair.nd (ae_call (c_law_opened5 T) hr (takes_of rfl rfl rfl rfl) (by omega) (aa_cons (ae_var 0) aa_nil)))
      (ass_cons (as_set 4 sc__law_pair.nd (ae_tup (aa_cons ae_int (aa_cons ae_int aa_nil))))
      (ass_cons (as_set 5 sc__law_pair.nd (ae_tup (aa_cons ae_int (aa_cons ae_int aa_nil))))
      (ass_cons (as_set 6 sc__law_pair.nd ae_int)
      (ass_one (as_while (passes_of rfl) (at_val ae_bl) (ass_cons (as_set 7 sc__law_pair.nd (ae_call (c_law_told27 T) hr (takes_of rfl rfl rfl rfl) (by omega) (aa_cons (ae_var 3) (aa_cons (ae_lstO (aa_cons (ae_sub (ae_var 2) (ae_call (c_law_took27 T) hr (takes_of rfl rfl rfl rfl) (by omega) (aa_cons (ae_var 3) aa_nil))) aa_nil)) aa_nil))))
      (ass_cons (as_if (at_eqS (ae_ix (ae_var 7) ae_int) ae_str) (ass_one (as_ret (ae_lst (aa_cons (ae_var 5) aa_nil)))) ass_nil)
      (ass_cons (as_if (at_neS (ae_ix (ae_var 7) ae_int) ae_str) (ass_one (as_ret (ae_ix (ae_var 7) ae_int))) ass_nil)
      (ass_cons (as_set 8 sc__law_pair.nd (ae_ix (ae_var 7) ae_int))
      (ass_cons (as_set 6 sc__law_pair.nd (ae_add (ae_var 6) ae_int))
      (ass_one (as_if (at_eqI (ae_var 6) ae_int) (ass_one (as_set 5 sc__law_pair.nd (ae_tup (aa_cons (ae_var 8) (aa_cons ae_int aa_nil))))) (ass_one (as_if (at_gt (ae_add (ae_ix (ae_var 4) ae_int) (ae_mul (ae_var 8) (ae_ix (ae_var 5) ae_int))) (ae_var 1)) (ass_cons (as_set 9 sc__law_pair.nd (ae_fdv (div_of hr) (ae_sub (ae_var 1) (ae_ix (ae_var 4) ae_int)) (ae_ix (ae_var 5) ae_int)))
      (ass_cons (as_set 10 sc__law_pair.nd (ae_tup (aa_cons (ae_add (ae_ix (ae_var 4) ae_int) (ae_mul (ae_var 9) (ae_ix (ae_var 5) ae_int))) (aa_cons (ae_add (ae_ix (ae_var 4) ae_int) (ae_mul (ae_var 9) (ae_ix (ae_var 5) ae_int))) aa_nil))))
      (ass_one (as_ret (ae_ix (ae_lst (aa_cons (ae_lst (aa_cons (ae_var 5) (aa_cons (ae_var 10) aa_nil))) (aa_cons (ae_lst (aa_cons (ae_var 10) (aa_cons (ae_var 5) aa_nil))) aa_nil))) (ae_intB rfl T.b_int (ae_lt (ae_mul (ae_ix (ae_var 10) ae_int) (ae_ix (ae_var 5) ae_int)) (ae_mul (ae_ix (ae_var 5) ae_int) (ae_ix (ae_var 10) ae_int))))))))) (ass_one (as_par 4 5 rfl sc__law_pair.nd (ae_var 5) (ae_tup (aa_cons (ae_add (ae_ix (ae_var 4) ae_int) (ae_mul (ae_var 8) (ae_ix (ae_var 5) ae_int))) (aa_cons (ae_add (ae_ix (ae_var 4) ae_int) (ae_mul (ae_var 8) (ae_ix (ae_var 5) ae_int))) aa_nil)))))))))))))))))))), fun ds Ω Qa Ea h => ?_⟩)
  · obtain ⟨_, _, _, rfl, _⟩ := h
    rfl
  · obtain ⟨tr, size, most, rfl, hg, m0, m1, hsz, k⟩ := h
    walk_at "pl"
    refine ⟨tr, 4, rfl, by decide, hg, fun r p Ω1 S1 ho1 hM1 hf1 hs1 => ?_⟩
    obtain ⟨d, o, hN, kk⟩ := k r ho1
    have hlv := Nat.le_trans (opened_lv 4 tr r hg ho1) (by decide : 3 + 6 * 4 ≤ 27)
    refine ⟨by decide, by decide, I_lpair Ω tr size most p o, ⟨d, r, S1, (1, 0), (0, 1), false, 0, none, none, none, none, ⟨hM1, hlv, by rw [ho1.tk0]; exact m0, hf1, hs1⟩, hN, by simp, fun _ => rfl, .inl rfl, rfl⟩, ?_⟩
    clear hN hlv
    clear hM1 hf1 hs1 ho1 k
    clear r
    rintro d ρ Ω2 ⟨r, S, x, y, g, n, z7, z8, z9, z10, F2, hN, hgn, hgx, hdet, rfl⟩
    walk_at "pl"
    refine ⟨p, r, S, rfl, F2.ma, F2.lv, _, rfl, by decide, fun pp hpp => ?_⟩
    have htk := F2.tk
    cases hN with
    | waits t0 =>
      refine F2.ask m1 hpp t0 fun Ω3 F3 => ?_
      simp only [Ans.e, Ans.d, fD]
      walk_at "pl"
      rw [if_neg (by decide), if_pos (by decide)]
      exact kk Ω3 F3.fr
    | none t0 =>
      refine F2.ask m1 hpp t0 fun Ω3 F3 => ?_
      simp only [Ans.e, Ans.d, fD]
      walk_at "pl"
      rw [if_neg (by decide), if_pos (by decide)]
      exact kk Ω3 F3.fr
    | fin t0 =>
      refine F2.ask m1 hpp t0 fun Ω3 F3 => ?_
      simp only [Ans.e, Ans.d, fD]
      walk_at "pl"
      exact ⟨by decide, kk Ω3 F3.fr⟩
    | @first _ _ _ _ _ q _ _ _ t0 hN =>
      refine F2.ask m1 hpp t0 fun Ω3 F3 => ?_
      simp only [Ans.e, Ans.d, fD]
      walk_at "pl"
      have hn0 : n = 0 := by
        rcases Nat.eq_zero_or_pos n with h | h
        · exact h
        · exact absurd (hgn.mpr h) (by decide)
      rw [if_neg (by decide), if_neg (by decide), if_pos (by omega)]
      have ex := hgx rfl
      exact ⟨by decide, _, Nat.lt_succ_self _, _, S, x, (q, 1), true, n + 1, _, _, _, _, F3, hN, by simp, (fun z => by cases z), .inl (by rw [ex]; show (1 : Int) * 1 - q * 0 = 1; omega), by rw [Int.natCast_add]; rfl⟩
    | @next _ _ _ _ _ q _ _ _ t0 b1 b2 b3 hle hN =>
      refine F2.ask m1 hpp t0 fun Ω3 F3 => ?_
      simp only [Ans.e, Ans.d, fD]
      walk_at "pl"
      have hn0 : 0 < n := hgn.mp rfl
      rw [if_neg (by decide), if_neg (by decide), if_neg (by omega)]
      refine ⟨bg_mul b1 b3, ?_⟩
      rw [if_neg (by omega)]
      have hd2 : y.1 * (x.2 + q * y.2) - (x.1 + q * y.1) * y.2 = -(x.1 * y.2 - y.1 * x.2) := by grind
      exact ⟨bg_mul b1 b2, bg_mul b1 b3, by decide, _, Nat.lt_succ_self _, _, S, y, (x.1 + q * y.1, x.2 + q * y.2), true, n + 1, _, _, _, _, F3, hN, by simp, (fun z => by cases z), by show y.1 * (x.2 + q * y.2) - (x.1 + q * y.1) * y.2 = 1 ∨ y.1 * (x.2 + q * y.2) - (x.1 + q * y.1) * y.2 = -1; rw [hd2]; omega, by rw [Int.natCast_add]; rfl⟩
    | @stop _ _ _ _ q _ _ t0 b1 b2 b3 b4 b5 b6 b7 hlt =>
      refine F2.ask m1 hpp t0 fun Ω3 F3 => ?_
      simp only [Ans.e, Ans.d, fD]
      walk_at "pl"
      have hn0 : 0 < n := hgn.mp rfl
      rw [if_neg (by decide), if_neg (by decide), if_neg (by omega)]
      refine ⟨bg_mul b1 b3, ?_⟩
      rw [if_pos hlt]
      obtain ⟨u, hu⟩ : ∃ u, u = (size - x.2).fdiv y.2 := ⟨_, rfl⟩
      rw [← hu] at b5 b6 b7 kk ⊢
      refine ⟨bg_nopy b4 b3, bg_mul b5 b2, bg_mul b5 b3, by decide, by decide, by decide, by decide, bg_mul b6 b3, bg_mul b2 b7, ?_⟩
      have hd2 : (x.1 + u * y.1) * y.2 - y.1 * (x.2 + u * y.2) = x.1 * y.2 - y.1 * x.2 := by grind
      have k3 := kk Ω3 F3.fr
      unfold inOrd at k3
      by_cases h : (x.1 + u * y.1) * y.2 < y.1 * (x.2 + u * y.2)
      · rw [if_pos h]
        rw [if_neg (by simp only; omega)] at k3
        exact ⟨_, rfl, k3⟩
      · rw [if_neg h]
        rw [if_pos (by simp only; omega)] at k3
        exact ⟨_, rfl, k3⟩
def vD : Option (Option (Int × Int)) → D
  | none => .str "none"
  | some none => .str "waits"
  | some (some x) => fD x
def F_lnear : AF := fun ds Ω Q _ => ∃ (tr : Tr) (size most : Int), ds = [tr.d, .int size, .int most] ∧ tr.good 4 ∧ 0 ≤ most ∧ most ≤ 2600 ∧ Bi size ∧ ∀ r, Opened tr r → ∃ d o v, Nea size most d r (1, 0) (0, 1) false o ∧ Nst most r o v ∧ ∀ Ω' : Om, (∀ b, Ω b ≠ none → Ω' b = Ω b) → Q (vD v) Ω'
def mMid (t b : Int) : List (Key × D) := putD ([(Sum.inr (Str.ofString "kind") : Key), .inr (Str.ofString "inners"), .inr (Str.ofString "begun")].zip [.str "four", .lst [], .bl false]) (.inr "rest") (pr t b)
theorem mid_ok {Ω : Om} {p : Addr} {t b : Int} (h : Ω p = some (.dic (mMid t b))) : MaO Ω p (.fixed t b false) [p] := .mid h rfl rfl rfl rfl (by show 4 ≤ 20; decide)
theorem isT_ls : isT "list" "str" = some false := by decide +kernel
theorem c_law_nearest (T : Txt K mg C) : Clb P w K mg base ca 36 "_law_nearest" F_lnear := by
  refine clb T.d_law_nearest sc__law_nearest (fun ds Ω Q E h => ?_) (fun f cdv A outer s H E hr => ⟨_, _, (ass_cons (as_set 3 sc__law_nearest.nd (ae_call (c_law_pair T) hr (takes_of rfl rfl rfl rfl) (by omega) (aa_cons (ae_var 0) (aa_cons (ae_var 1) (aa_cons (ae_var 2) aa_nil)))))
      (ass_cons (as_if (at_val (ae_isi rfl T.b_isinstance rfl T.b_str boot_ty_str (ae_var 3))) (ass_one (as_ret (ae_var 3))) ass_nil)
      (ass_cons (as_par 4 5 rfl sc__law_nearest.nd (ae_ix (ae_var 3) ae_int) (ae_ix (ae_var 3) (ae_neg ae_int)))
      (ass_cons (as_if (at_eqD hr.units (ae_var 4) (ae_var 5)) (ass_one (as_ret (ae_var 4))) ass_nil)
      (ass_cons (as_set 6 sc__law_nearest.nd (ae_disp (ap_cons ae_str (ap_cons (ae_lst aa_nil) (ap_cons ae_bl ap_nil)))))
      (ass_cut (as_dput hr.units (ae_tup (aa_cons (ae_add (ae_mul (ae_ix (ae_var 4) ae_int) (ae_ix (ae_var 5) ae_int)) (ae_mul (ae_ix (ae_var 5) ae_int) (ae_ix (ae_var 4) ae_int))) (aa_cons (ae_mul (ae_mul ae_int (ae_ix (ae_var 4) ae_int)) (ae_ix (ae_var 5) ae_int)) aa_nil))) (ae_var 6) ae_str)
      (ass_cons (as_set 7 sc__law_nearest.nd (ae_call (c_law_beside T) hr (takes_of rfl rfl rfl rfl) (by omega) (aa_cons (ae_lst (aa_cons (ae_call (c_law_opened5 T) hr (takes_of rfl rfl rfl rfl) (by omega) (aa_cons (ae_var 0) aa_nil)) (aa_cons (ae_var 6) aa_nil))) (aa_cons (ae_var 2) aa_nil))))
      (ass_cons (as_if (at_inD (u65 hr) (ae_var 7) (ae_lst (aa_cons ae_str (aa_cons ae_str aa_nil)))) (ass_one (as_ret (ae_var 7))) ass_nil)
      (ass_cons (as_if (AWt.at_ (aw_or (at_eqS (ae_var 7) ae_str) (aw_or1 (AWt.at_ (aw_and (at_eqS (ae_var 7) ae_str) (aw_and1 (at_le (ae_ix (ae_var 4) ae_int) (ae_ix (ae_var 5) ae_int)))))))) (ass_one (as_ret (ae_var 4))) ass_nil)
      (ass_one (as_ret (ae_var 5)))))))))))), fun ds Ω Qa Ea h => ?_⟩)
  · obtain ⟨_, _, _, rfl, _⟩ := h
    rfl
  · obtain ⟨tr, size, most, rfl, hg, m0, m1, hsz, k⟩ := h
    walk_at "pl"
    refine ⟨tr, size, most, rfl, hg, m0, m1, hsz, fun r ho => ?_⟩
    obtain ⟨d, o, v, hN, hS, kk⟩ := k r ho
    refine ⟨d, o, hN, fun Ω1 hf1 => ?_⟩
    cases hS with
    | none =>
      simp only [oD]
      walk_at "pl"
      exact kk Ω1 hf1
    | nil =>
      simp only [oD]
      walk_at "pl"
      exact kk Ω1 hf1
    | @one x =>
      simp only [oD, List.map_cons, List.map_nil]
      walk_at "pl"
      refine ⟨false, isT_ls, ?_⟩
      rw [if_neg (by decide)]
      refine ⟨_, rfl, eq_fD (fun _ => ⟨_, rfl, ?_⟩) fun e => absurd rfl e⟩
      rw [if_pos rfl]
      exact kk Ω1 hf1
    | @eq x =>
      simp only [oD, List.map_cons, List.map_nil]
      walk_at "pl"
      refine ⟨false, isT_ls, ?_⟩
      rw [if_neg (by decide)]
      refine ⟨_, rfl, eq_fD (fun _ => ⟨_, rfl, ?_⟩) fun e => absurd rfl e⟩
      rw [if_pos rfl]
      exact kk Ω1 hf1
    | @two x y d2 w hne b1 b2 b3 b4 b5 hB =>
      simp only [oD, List.map_cons, List.map_nil]
      walk_at "pl"
      refine ⟨false, isT_ls, ?_⟩
      rw [if_neg (by decide)]
      refine ⟨_, rfl, eq_fD (fun e => absurd e hne) fun _ => ⟨_, rfl, ?_⟩⟩
      rw [if_neg (by decide)]
      refine ⟨by decide, fun pm hpm => ?_⟩
      obtain ⟨t0, ht0⟩ : ∃ t0, t0 = x.1 * y.2 + y.1 * x.2 := ⟨_, rfl⟩
      obtain ⟨u0, hu0⟩ : ∃ u0, u0 = 2 * x.2 * y.2 := ⟨_, rfl⟩
      refine ⟨fun ρ Ω2 => Ω2 = oset Ω1 pm (.dic (mMid t0 u0)) ∧ ρ = [some tr.d, some (.int size), some (.int most), some (.lst [fD x, fD y]), some (fD x), some (fD y), some (.o pm), none], ?_, ?_⟩
      · simp only [fD]
        walk_at "pl"
        subst ht0 hu0
        exact ⟨_, rfl, _, rfl, _, rfl, bg_mul b1 b4, _, rfl, _, rfl, _, rfl, bg_mul b3 b2, mulok_l (by decide) (by decide), _, rfl, _, rfl, _, rfl, bg_mul b5 b4, by decide, _, rfl, by show 3 < 1000; decide, rfl, rfl⟩
      rintro ρ Ω2 ⟨rfl, rfl⟩
      walk_at "pl"
      have hp0 : Ω pm = none := by
        cases e : Ω pm with
        | none => rfl
        | some o => have := hf1 pm (by rw [e]; simp); rw [hpm, e] at this; cases this
      refine ⟨tr, 4, rfl, by decide, hg, fun r' p2 Ω3 S ho2 hM2 hf2 hs2 => ?_⟩
      obtain rfl := ho.unique ho2
      have e3 : Ω3 pm = some (.dic (mMid t0 u0)) := (hs2 pm (by rw [oset_same]; simp)).trans oset_same
      have hpS : pm ∉ S := fun z => by have := hf2 pm z; rw [oset_same] at this; cases this
      have hlv := Nat.le_trans (opened_lv 4 tr r hg ho) (by decide : 3 + 6 * 4 ≤ 27)
      rw [← ht0, ← hu0] at hB
      refine ⟨by decide, p2, pm, r, .fixed t0 u0 false, S, [pm], most, d2, w, rfl, ⟨hM2, mid_ok e3, hlv, by show 1 ≤ 27; decide, by rw [ho.tk0]; simp only [R.tk]; omega, fun b hb hb2 => hpS (by rw [List.mem_singleton] at hb2; rw [← hb2]; exact hb), fun _ _ _ _ => rfl, hM2.there, fun b hb => by rw [List.mem_singleton.mp hb, e3]; simp⟩, m1, hB, fun Ω4 hf4 => ?_⟩
      have k4 := kk Ω4 fun b hb => by
        have e1 : b ≠ pm := fun e => hb (by rw [e]; exact hp0)
        have e2 := hf1 b hb
        have e3 : Ω3 b = Ω1 b := by rw [hs2 b (by rw [oset_ne e1, e2]; exact hb), oset_ne e1]
        have e4 : b ∉ S := fun z => hb (by have := hf2 b z; rw [oset_ne e1, e2] at this; exact this)
        rw [hf4 b e4 (by simpa using e1) (by rw [e3, e2]; exact hb), e3, e2]
      refine ⟨by decide, ?_⟩
      cases w with
      | none =>
        refine in_wn (b := true) (.inl ⟨rfl, .inr rfl⟩) ⟨_, rfl, ?_⟩
        rw [if_pos (by decide)]
        exact k4
      | waits =>
        refine in_wn (b := true) (.inl ⟨rfl, .inl rfl⟩) ⟨_, rfl, ?_⟩
        rw [if_pos (by decide)]
        exact k4
      | less =>
        refine in_wn (b := false) (.inr ⟨rfl, .inr (.inr (.inl rfl))⟩) ⟨_, rfl, ?_⟩
        rw [if_neg (by decide)]
        refine ⟨_, rfl, ?_⟩
        rw [if_pos (by decide)]
        exact k4
      | more =>
        refine in_wn (b := false) (.inr ⟨rfl, .inr (.inr (.inr (.inr rfl)))⟩) ⟨_, rfl, ?_⟩
        rw [if_neg (by decide)]
        refine ⟨_, rfl, ?_⟩
        rw [if_neg (by decide)]
        refine ⟨_, rfl, ?_⟩
        rw [if_neg (by decide)]
        exact k4
      | same =>
        refine in_wn (b := false) (.inr ⟨rfl, .inr (.inr (.inr (.inl rfl)))⟩) ⟨_, rfl, ?_⟩
        rw [if_neg (by decide)]
        refine ⟨_, rfl, ?_⟩
        rw [if_neg (by decide)]
        refine ⟨_, rfl, ?_⟩
        rw [if_pos (by decide)]
        refine ⟨_, rfl, _, rfl, _, rfl, _, rfl, _, rfl, _, rfl, ?_⟩
        by_cases h : x.2 ≤ y.2
        · rw [if_pos h]
          rw [show pick .same x y = some (some x) by unfold pick; rw [if_pos h]] at k4
          exact k4
        · rw [if_neg h]
          rw [show pick .same x y = some (some y) by unfold pick; rw [if_neg h]] at k4
          exact k4
def hwD (h : Hw) (a : Addr) : D := match h with
  | .none => .str "none"
  | h => .tup [.o a, .str h.s]
def F_asked : AF := fun ds Ω Q _ => ∃ (t1 t2 : Tr) (many : Nat) (most way : Int), ds = [.int way, t1.d, t2.d, .int many, .int most] ∧ t1.good 5 ∧ t2.good 5 ∧ many ≤ 1000 ∧
  ((way = 0 ∧ ∀ r, Opened t1 r → ∃ l h, Fst most many r l h ∧ ∀ (a : Addr) (Ω' : Om), Ω a = none → (h ≠ .none → Ω' a = some (.lst (l.map D.int))) → (∀ b, Ω b ≠ none → Ω' b = Ω b) → Q (hwD h a) Ω') ∨
   (way = 1 ∧ ∀ r s, Opened t1 r → Opened t2 s → ∃ d w, Bes most d 0 r s w ∧ ∀ Ω' : Om, (∀ b, Ω b ≠ none → Ω' b = Ω b) → Q (.str w.s) Ω') ∨
   (way = 2 ∧ ∀ r, Opened t1 r → ∃ d o v, Nea (1 + many) most d r (1, 0) (0, 1) false o ∧ Nst most r o v ∧ ∀ Ω' : Om, (∀ b, Ω b ≠ none → Ω' b = Ω b) → Q (vD v) Ω'))
theorem c_law_asked (T : Txt K mg C) : Clb P w K mg base ca 40 "_law_asked" F_asked := by
  refine clb T.d_law_asked sc__law_asked (fun ds Ω Q E h => ?_) (fun f cdv A outer s H E hr => ⟨_, _, (ass_one (as_tryOnly rfl rfl ⟨rfl, by decide, .inl T.y_NoValue⟩ (takes_of rfl rfl rfl rfl) (fun W1 pn1 xe1 tk1 hp1 => ASs.cast (ass_cons (as_if (at_eqI (ae_var 0) ae_int) (ass_one (as_ret (ae_call (c_first_parts T) hr tk1 (by omega) (aa_cons (ae_var 1) (aa_cons (ae_var 3) (aa_cons (ae_var 4) aa_nil)))))) ass_nil)
      (ass_cons (as_if (at_eqI (ae_var 0) ae_int) (ass_one (as_ret (ae_call (c_compared T) hr tk1 (by omega) (aa_cons (ae_var 1) (aa_cons (ae_var 2) (aa_cons (ae_var 4) aa_nil)))))) ass_nil)
      (ass_cons (as_set 5 sc__law_asked.nd (ae_call (c_nearest T) hr tk1 (by omega) (aa_cons (ae_var 1) (aa_cons (ae_add ae_int (ae_var 3)) (aa_cons (ae_var 4) aa_nil)))))
      (ass_one (as_ret (ae_ix (ae_lst (aa_cons ae_str (aa_cons (ae_var 5) aa_nil))) (ae_intB rfl T.b_int (ae_notN (ae_var 5))))))))) (by first | (dsimp only [Cx.tr, MthX, Cx.suite]; done) | rfl | (delta tMethD; dsimp only [Cx.tr, MthX, Cx.suite]; done) | (delta tMethD; dsimp only [Cx.tr, MthX, Cx.suite]; rfl)) (by first | (dsimp only [Cx.tr, MthX, Cx.suite]; done) | rfl | (delta tMethD; dsimp only [Cx.tr, MthX, Cx.suite]; done) | (delta tMethD; dsimp only [Cx.tr, MthX, Cx.suite]; rfl))) (fun a1 pn1 => ASs.cast (ass_one (as_ret ae_str)) (by first | (dsimp only [Cx.tr, MthX, Cx.suite]; done) | rfl | (delta tMethD; dsimp only [Cx.tr, MthX, Cx.suite]; done) | (delta tMethD; dsimp only [Cx.tr, MthX, Cx.suite]; rfl)) (by first | (dsimp only [Cx.tr, MthX, Cx.suite]; done) | rfl | (delta tMethD; dsimp only [Cx.tr, MthX, Cx.suite]; done) | (delta tMethD; dsimp only [Cx.tr, MthX, Cx.suite]; rfl))))), fun ds Ω Qa Ea h => ?_⟩)
  · obtain ⟨_, _, _, _, _, rfl, _⟩ := h
    rfl
  · obtain ⟨t1, t2, many, most, way, rfl, g1, g2, hmany, ⟨rfl, k⟩ | ⟨rfl, k⟩ | ⟨rfl, k⟩⟩ := h
    · walk_at "pl"
      refine ⟨t1, many, most, rfl, g1, by omega, fun r ho => ?_⟩
      obtain ⟨l, h, hF, kk⟩ := k r ho
      refine ⟨l, h, hF, fun a Ω1 ha hl hf => ?_⟩
      have k1 := kk a Ω1 ha hl hf
      cases h with
      | none =>
        simp only [Hw.okO]
        refine ⟨true, T.e_NoValue_NoValue, ?_⟩
        rw [if_pos rfl]
        exact k1
      | parts => exact k1
      | fin => exact k1
      | waits => exact k1
    · walk_at "pl"
      rw [if_neg (by decide)]
      refine ⟨t1, t2, most, rfl, g1, g2, fun r s ho hs => ?_⟩
      obtain ⟨d, w, hB, kk⟩ := k r s ho hs
      refine ⟨d, w, hB, fun Ω1 hf => ?_⟩
      have k1 := kk Ω1 hf
      cases w with
      | none =>
        simp only [Wd.ok]
        refine ⟨true, T.e_NoValue_NoValue, ?_⟩
        rw [if_pos rfl]
        exact k1
      | less => exact k1
      | same => exact k1
      | more => exact k1
      | waits => exact k1
    · walk_at "pl"
      rw [if_neg (by decide), if_neg (by decide)]
      refine ⟨t1, 1 + many, most, rfl, g1, fun r ho => ?_⟩
      obtain ⟨d, o, v, hN, hS, kk⟩ := k r ho
      refine ⟨d, o, v, hN, hS, fun Ω1 hf => ?_⟩
      have k1 := kk Ω1 hf
      match v, k1 with
      | none, k1 =>
        simp only [onr]
        refine ⟨true, T.e_NoValue_NoValue, ?_⟩
        rw [if_pos rfl]
        exact k1
      | some none, k1 => exact ⟨by decide, _, rfl, k1⟩
      | some (some x), k1 => exact ⟨by decide, _, rfl, k1⟩
theorem c_law_any5 (T : Txt K mg C) : Clb P w K mg base ca 11 "_law_any" (F_any 5) := c_law_any T 5
mutual
theorem D.pyO_eq {Ω : Om} : ∀ (n : Nat) (d : D), D.fits n d = true → D.pyO Ω d = D.py d
  | _, .non, _ => rfl
  | _, .bl _, _ => rfl
  | _, .int _, _ => rfl
  | _, .str _, _ => rfl
  | 0, .tup _, h => nomatch h
  | n + 1, .tup xs, h => by simp only [D.pyO, D.py, D.pysO_eq n xs (by simpa only [D.fits] using h)]
  | 0, .lst _, h => nomatch h
  | n + 1, .lst xs, h => by simp only [D.pyO, D.py, D.pysO_eq n xs (by simpa only [D.fits] using h)]
  | _, .o _, h => nomatch h
theorem D.pysO_eq {Ω : Om} : ∀ (n : Nat) (ds : List D), D.fitsAll n ds = true → D.pysO Ω ds = D.pys ds
  | _, [], _ => rfl
  | n, x :: xs, h => by
    simp only [D.fitsAll, Bool.and_eq_true] at h
    simp only [D.pysO, D.pys, D.pyO_eq n x h.1, D.pysO_eq n xs h.2] <;> rfl
end
theorem fEqO_refl {neg : Bool} {x d : D} {Ω : Om} {Q : AQ} (h : D.fits 60 d = true) (hx : D.pyO Ω x = D.py d) (k : Q (.bl (!neg)) Ω) : fEqO neg x d Ω Q := by
  obtain ⟨p, e1, e2, e3, e4⟩ := D.fits_py _ _ h
  have s : SeqAt.shaped p = true := by
    unfold SeqAt.shaped
    rw [e3, Bool.true_and]
    exact decide_eq_true (by omega)
  refine ⟨p, p, hx.trans e1, (D.pyO_eq _ _ h).trans e1, s, s, ?_⟩
  cases neg
  · simp only [Bool.false_eq_true, if_false, e2]; exact k
  · simp only [if_true, e2]; exact k
def fwD (h : Hw) (l : List Int) : D := match h with
  | .none => .str "none"
  | h => .tup [.lst (l.map D.int), .str h.s]
def dueD (h : Hw) (l : List Int) (w : Wd) (v : Option (Option (Int × Int))) : D := .lst [fwD h l, .str w.s, vD v]
theorem fits_due {h : Hw} {l : List Int} {w : Wd} {v : Option (Option (Int × Int))} : D.fits 60 (dueD h l w v) = true := by
  have h1 : (PyData.str "parts").canLay0 = true := by decide +kernel
  have h2 : (PyData.str "end").canLay0 = true := by decide +kernel
  have h3 : (PyData.str "waits").canLay0 = true := by decide +kernel
  have h4 : (PyData.str "none").canLay0 = true := by decide +kernel
  have h5 : (PyData.str "less").canLay0 = true := by decide +kernel
  have h6 : (PyData.str "same").canLay0 = true := by decide +kernel
  have h7 : (PyData.str "more").canLay0 = true := by decide +kernel
  have hl : ∀ n, D.fitsAll n (l.map D.int) = true := fun n => fits_map (fun _ => by simp only [D.fits]) l
  have a1 : D.fits 59 (fwD h l) = true := by cases h <;> simp only [fwD, Hw.s, D.fits, D.fitsAll, hl, h1, h2, h3, h4, Bool.and_true]
  have a2 : (PyData.str w.s).canLay0 = true := by cases w <;> simp only [Wd.s, h3, h4, h5, h6, h7]
  have a3 : D.fits 59 (vD v) = true := by
    match v with
    | none => simp only [vD, D.fits, h4]
    | some none => simp only [vD, D.fits, h3]
    | some (some x) => simp only [vD, fD, D.fits, D.fitsAll, Bool.and_true]
  simp only [dueD, D.fits, D.fitsAll, a1, a2, a3, Bool.and_true]
theorem hw_pyO {h : Hw} {l : List Int} {a : Addr} {Ω : Om} (ha : h ≠ .none → Ω a = some (.lst (l.map D.int))) : D.pyO Ω (hwD h a) = D.py (fwD h l) := by
  cases h with
  | none => rfl
  | parts => simp only [hwD, fwD, D.pyO, D.py, D.pysO, D.pys, ha (by simp)] <;> rfl
  | fin => simp only [hwD, fwD, D.pyO, D.py, D.pysO, D.pys, ha (by simp)] <;> rfl
  | waits => simp only [hwD, fwD, D.pyO, D.py, D.pysO, D.pys, ha (by simp)] <;> rfl
theorem found_pyO {h : Hw} {l : List Int} {w : Wd} {v : Option (Option (Int × Int))} {a : Addr} {Ω : Om} (ha : h ≠ .none → Ω a = some (.lst (l.map D.int))) : D.pyO Ω (.lst [hwD h a, .str w.s, vD v]) = D.py (dueD h l w v) := by
  have a3 : D.pyO Ω (vD v) = D.py (vD v) := by
    match v with
    | none => rfl
    | some none => rfl
    | some (some x) => rfl
  simp only [dueD, D.pyO, D.pysO, D.py, D.pys, hw_pyO ha, a3] <;> rfl
theorem isT_st : isT "str" "tuple" = some false := by decide +kernel
theorem isT_ts : isT "tuple" "str" = some false := by decide +kernel
theorem fst_len {most : Int} {n : Nat} {r : R} {l : List Int} {h : Hw} (x : Fst most n r l h) : l.length ≤ n := by
  induction x with
  | part _ _ ih => rw [List.length_cons]; omega
  | _ => exact Nat.zero_le _
def P_27 (d : D) (p0 : Addr) : List D → En → Om → Prop := fun us ρ Ω => ∃ (k l : Nat) (z2 z3 z4 z5 z6 z7 z8 z9 z10 z11 : Option D), us = rngD (k : Int) l ∧ k + l = 3 ∧ Ω p0 = some .row ∧ ρ = [some d, some (.o p0), z2, z3, z4, z5, z6, z7, z8, z9, z10, z11]
def P_27b (d z2 z3 z4 z5 z6 z7 due : D) (p0 : Addr) : List D → En → Om → Prop := fun us ρ Ω => ∃ (k l : Nat) (z9 z10 z11 : Option D), us = rngD (k : Int) l ∧ k + l = 2 ∧ Ω p0 = some .row ∧ ρ = [some d, some (.o p0), some z2, some z3, some z4, some z5, some z6, some z7, some due, z9, z10, z11]
theorem law_ok (T : Txt K mg C) {f : Addr} {fd : FuncData} (F : Fun K "law" "law" s_law f fd) : FnOk P w K mg base (L2.CX P w) (50 + 32 + 1) f fd ["_law_script"] (spA K ca F_law) := by
  refine okA F sc_law law_len (fun cdv A outer s H E hr => ⟨_, _, (ass_cons (as_set 1 sc_law.nd (ae_call (c_law_row T) hr (takes_of rfl rfl rfl rfl) (by omega) (aa_cons (ae_var 0) aa_nil)))
      (ass_cons (as_forR1 (passes_of rfl) rfl rfl T.b_range ae_int (ag_name (i := 2) sc_law.nd rfl (Or.inl rfl)) (ass_cons (as_set 3 sc_law.nd (ae_call (c_law_any5 T) hr (takes_of rfl rfl rfl rfl) (by omega) (aa_cons (ae_var 1) (aa_cons (ae_add ae_int (ae_call (c_law_taken T) hr (takes_of rfl rfl rfl rfl) (by omega) (aa_cons (ae_var 1) (aa_cons ae_int aa_nil)))) aa_nil))))
      (ass_cons (as_set 4 sc_law.nd (ae_var 3))
      (ass_cut (as_if (at_gt (ae_call (c_law_taken T) hr (takes_of rfl rfl rfl rfl) (by omega) (aa_cons (ae_var 1) (aa_cons ae_int aa_nil))) ae_int) (ass_one (as_set 4 sc_law.nd (ae_call (c_law_any5 T) hr (takes_of rfl rfl rfl rfl) (by omega) (aa_cons (ae_var 1) (aa_cons (ae_add ae_int (ae_call (c_law_taken T) hr (takes_of rfl rfl rfl rfl) (by omega) (aa_cons (ae_var 1) (aa_cons ae_int aa_nil)))) aa_nil))))) ass_nil)
      (ass_cons (as_set 5 sc_law.nd (ae_call (c_law_taken T) hr (takes_of rfl rfl rfl rfl) (by omega) (aa_cons (ae_var 1) (aa_cons ae_int aa_nil))))
      (ass_cons (as_set 6 sc_law.nd (ae_ix (ae_lst (aa_cons (ae_call (c_law_taken T) hr (takes_of rfl rfl rfl rfl) (by omega) (aa_cons (ae_var 1) (aa_cons ae_int aa_nil))) (aa_cons (ae_call (c_law_taken T) hr (takes_of rfl rfl rfl rfl) (by omega) (aa_cons (ae_var 1) (aa_cons ae_int aa_nil))) (aa_cons ae_int aa_nil)))) (ae_call (c_law_taken T) hr (takes_of rfl rfl rfl rfl) (by omega) (aa_cons (ae_var 1) (aa_cons ae_int aa_nil)))))
      (ass_cons (as_set 7 sc_law.nd (ae_call (c_law_first T) hr (takes_of rfl rfl rfl rfl) (by omega) (aa_cons (ae_var 3) (aa_cons (ae_var 5) (aa_cons (ae_var 6) aa_nil)))))
      (ass_cut (as_if (at_isN (ae_var 7)) (ass_one (as_set 7 sc_law.nd ae_str)) ass_nil)
      (ass_cut (as_set 8 sc_law.nd (ae_lst (aa_cons (ae_var 7) (aa_cons (ae_call (c_law_beside T) hr (takes_of rfl rfl rfl rfl) (by omega) (aa_cons (ae_lst (aa_cons (ae_call (c_law_opened5 T) hr (takes_of rfl rfl rfl rfl) (by omega) (aa_cons (ae_var 3) aa_nil)) (aa_cons (ae_call (c_law_opened5 T) hr (takes_of rfl rfl rfl rfl) (by omega) (aa_cons (ae_var 4) aa_nil)) aa_nil))) (aa_cons (ae_var 6) aa_nil))) (aa_cons (ae_call (c_law_nearest T) hr (takes_of rfl rfl rfl rfl) (by omega) (aa_cons (ae_var 3) (aa_cons (ae_add ae_int (ae_var 5)) (aa_cons (ae_var 6) aa_nil)))) aa_nil)))))
      (ass_one (as_forR1 (passes_of rfl) rfl rfl T.b_range ae_int (ag_name (i := 9) sc_law.nd rfl (Or.inl rfl)) (ass_cons (as_setLcR (i := 10) rfl sc_law.nd rfl rfl (sw_true rfl rfl rfl (by decide +kernel)) rfl T.b_range ae_int (show BlkOk ["_law_script", "_law_row_here", "_law_turn", "_law_tree", "_law_other", "_law_many", "_law_most", "_law_first_here", "_law_due", "_law_again", "_law_found", "_law_way"] (defScope s_law) _ [("_law_way", 11)] from blkOk_by (by decide +kernel)) (wip_name (by decide)) (fun s1 H1 C1 cl1 fp1 => (ag_name (i := 11) sc_law.nd rfl (Or.inl rfl))) (fun s1 H1 C1 cl1 fp1 => AE.cast (ae_call (c_law_asked T) hr takes0 (by omega) (aa_cons (ae_var 11) (aa_cons (ae_var 3) (aa_cons (ae_var 4) (aa_cons (ae_var 5) (aa_cons (ae_var 6) aa_nil)))))) (by first | (dsimp only [Blk, Cx.blk]; done) | rfl)))
      (ass_cons (as_if (AWt.at_ (aw_or (at_neO hr.units (ae_var 10) (ae_var 8)) (aw_or1 (at_not (at_val (ae_isi2 rfl T.b_isinstance (pe_gT rfl T.b_tuple boot_ty_tuple) (pe_gT rfl T.b_str boot_ty_str) (ae_ix (ae_var 10) ae_int))))))) (ass_one (as_ret ae_bl)) ass_nil)
      (ass_one (as_if (at_val (ae_isi rfl T.b_isinstance rfl T.b_tuple boot_ty_tuple (ae_ix (ae_var 10) ae_int))) (ass_one (as_expr (ae_app (ae_ix (ae_ix (ae_var 10) ae_int) ae_int) ae_int))) ass_nil)))))))))))))))
      (ass_one (as_ret ae_bl)))), fun ds Ω Qa Ea h => ?_⟩)
  · obtain ⟨ns, rfl, _, kk⟩ := h
    walk_at "pl"
    refine ⟨ns, rfl, fun p0 hp0 => ⟨by decide, by decide, ?_⟩⟩
    have e3 : rngD 0 (Int.toNat 3) = rngD ((0 : Nat) : Int) 3 := rfl
    rw [e3]
    generalize D.lst (ns.map D.int) = d1
    refine forL_ind (P_27 d1 p0) ⟨0, 3, none, none, none, none, none, none, none, none, none, none, rfl, rfl, oset_same, rfl⟩ ?_ ?_
    · rintro ρ Ω6 ⟨k, l, z2, z3, z4, z5, z6, z7, z8, z9, z10, z11, hu, hkl, hrow, rfl⟩
      walk_at "pl"
      exact kk _
    rintro x us ρ Ω1 De e1 ih _ ebk ⟨k, l, z2, z3, z4, z5, z6, z7, z8, z9, z10, z11, hu, hkl, hrow, rfl⟩
    obtain ⟨l', rfl, rfl, rfl⟩ := rng_step hu
    walk_at "pl"
    refine ⟨p0, 4, rfl, hrow, by decide, by decide, fun v v0 v1 => ⟨v, rfl, ?_⟩⟩
    obtain ⟨v, rfl⟩ : ∃ j : Nat, v = (j : Int) := ⟨v.toNat, by omega⟩
    refine ⟨p0, 1 + v, by rw [Int.natCast_add]; rfl, hrow, by omega, by omega, by omega, fun tr Ω2 hg hf => ?_⟩
    have g4 : tr.good 4 := good_le hg (by omega)
    have g5 : tr.good 5 := good_up g4
    have row2 : Ω2 p0 = some .row := (hf p0 (by rw [hrow]; simp)).trans hrow
    refine ⟨fun ρ Ω' => ∃ tr2 : Tr, tr2.good 4 ∧ Ω' p0 = some .row ∧ ρ = [some d1, some (.o p0), some (.int k), some tr.d, some tr2.d, z5, z6, z7, z8, z9, z10, z11], ?_, ?_⟩
    · walk_at "pl"
      refine ⟨p0, 4, rfl, row2, by decide, by decide, fun u u0 u1 => ⟨u, rfl, ite2 (fun _ => ?_) (fun _ => ⟨tr, g4, row2, rfl⟩)⟩⟩
      refine ⟨p0, 3, rfl, row2, by decide, by decide, fun u u0 u1 => ⟨u, rfl, ?_⟩⟩
      obtain ⟨u, rfl⟩ : ∃ j : Nat, u = (j : Int) := ⟨u.toNat, by omega⟩
      exact ⟨p0, 1 + u, by rw [Int.natCast_add]; rfl, row2, by omega, by omega, by omega, fun tr2 Ω3 hg2 hf2 => ⟨tr2, good_le hg2 (by omega), (hf2 p0 (by rw [row2]; simp)).trans row2, rfl⟩⟩
    clear hg hf row2 hrow v0 v1
    rintro ρ Ω3 ⟨tr2, h4, hrow, rfl⟩
    have h5 : tr2.good 5 := good_up h4
    walk_at "pl"
    refine ⟨p0, 40, rfl, hrow, by decide, by decide, fun many y0 y1 => ⟨p0, 12, rfl, hrow, by decide, by decide, fun ma a0 a1 => ⟨p0, 60, rfl, hrow, by decide, by decide, fun mb b0 b1 => ⟨by decide, p0, 3, rfl, hrow, by decide, by decide, fun j j0 j1 => ⟨j, rfl, ?_⟩⟩⟩⟩⟩
    obtain ⟨many, rfl⟩ : ∃ j : Nat, many = (j : Int) := ⟨many.toNat, by omega⟩
    obtain ⟨most, hm, em⟩ := atI_int (ns := [ma, mb, 90]) j0 (by simpa using j1)
    simp only [List.map_cons, List.map_nil] at em
    have hm2 : 0 ≤ most ∧ most ≤ 90 := by
      simp only [List.mem_cons, List.not_mem_nil, or_false] at hm
      omega
    obtain ⟨most, rfl⟩ : ∃ j : Nat, most = (j : Int) := ⟨most.toNat, by omega⟩
    clear hm a0 a1 b0 b1
    refine ⟨_, em, tr, many, most, rfl, g4, by omega, by omega, by omega, fun r ho => ?_⟩
    clear em
    have hG := gdc_of (Nat.le_refl 5) g5 ho
    obtain ⟨l, h, hF⟩ := fst_ex (most := most) (by omega) many r hG (by rw [ho.tk0]; omega)
    refine ⟨l, h, hF, fun Ω4 hf4 => ?_⟩
    have row4 := (hf4 p0 (by rw [hrow]; simp)).trans hrow
    clear hf4 hrow
    refine ⟨fun ρ Ω' => Ω' p0 = some .row ∧ ρ = [some d1, some (.o p0), some (.int k), some tr.d, some tr2.d, some (.int many), some (.int most), some (fwD h l), z8, z9, z10, z11], ?_, ?_⟩
    · walk_at "pl"
      cases h with
      | none => exact ⟨row4, rfl⟩
      | parts => exact ⟨row4, rfl⟩
      | fin => exact ⟨row4, rfl⟩
      | waits => exact ⟨row4, rfl⟩
    clear row4
    rintro ρ Ω5 ⟨hrow, rfl⟩
    refine ⟨fun ρ Ω' => ∃ w d v d2 o, (∀ s, Opened tr2 s → Bes most d 0 r s w) ∧ Nea (1 + many) most d2 r (1, 0) (0, 1) false o ∧ Nst most r o v ∧ Ω' p0 = some .row ∧ ρ = [some d1, some (.o p0), some (.int k), some tr.d, some tr2.d, some (.int many), some (.int most), some (fwD h l), some (dueD h l w v), z9, z10, z11], ?_, ?_⟩
    · walk_at "pl"
      refine ⟨tr, 4, rfl, by decide, g4, fun r1 p Ω1 S1 o1 hM1 f1 s1 => ⟨tr2, 4, rfl, by decide, h4, fun s q Ω2 S2 o2 hM2 f2 s2 => ⟨by decide, ?_⟩⟩⟩
      obtain rfl := ho.unique o1
      obtain ⟨d, w, hB⟩ := bes_ex (most := most) (by omega) most r s 0 hG (gdc_of (Nat.le_refl 5) h5 o2) (by rw [ho.tk0, o2.tk0]; omega)
      have l1 := Nat.le_trans (opened_lv 4 tr r g4 ho) (by decide : 3 + 6 * 4 ≤ 27)
      have l2 := Nat.le_trans (opened_lv 4 tr2 s h4 o2) (by decide : 3 + 6 * 4 ≤ 27)
      have row1 := (s1 p0 (by rw [hrow]; simp)).trans hrow
      have row2 := (s2 p0 (by rw [row1]; simp)).trans row1
      have n1 : p0 ∉ S1 := fun z => by rw [f1 p0 z] at hrow; cases hrow
      have n2 : p0 ∉ S2 := fun z => by rw [f2 p0 z] at row1; cases row1
      refine ⟨p, q, r, s, S1, S2, most, d, w, rfl, ⟨hM1.keep fun b hb => s2 b (hM1.there b hb), hM2, l1, l2, by rw [ho.tk0, o2.tk0]; omega, fun b k1 k2 => hM1.there b k1 (f2 b k2), fun _ _ _ _ => rfl, fun b hb => by rw [s2 b (hM1.there b hb)]; exact hM1.there b hb, hM2.there⟩, by omega, hB, fun Ω6 hf6 => ?_⟩
      have row6 := (hf6 p0 n1 n2 (by rw [row2]; simp)).trans row2
      refine ⟨tr, 1 + many, most, rfl, g4, by omega, by omega, bi_of (e := 64) (by omega) (by decide), fun r2 or2 => ?_⟩
      obtain rfl := ho.unique or2
      obtain ⟨β, hGd, hβ⟩ := opened_gd 4 tr r g4 ho
      have h44 : 4 ^ 4 = 256 := rfl
      rw [h44] at hβ
      obtain ⟨d3, o, hN, hO⟩ := nea_ex (most := most) (size := 1 + many) (by omega) (by omega) (by omega) hGd (by omega) ho.tk0
      have ec : ((1 + many : Nat) : Int) = 1 + (many : Int) := by omega
      rw [ec] at hN
      obtain ⟨v, hS⟩ := nst_ex (most := most) (by omega) hG.w ho.tk0 hO
      exact ⟨d3, o, v, hN, hS, fun Ω7 hf7 => ⟨by decide, w, d, fun s' os' => (by rw [← o2.unique os']; exact hB), v, d3, o, hN, hS, (hf7 p0 (by rw [row6]; simp)).trans row6, rfl⟩⟩
    clear hrow
    rintro ρ Ω6 ⟨w, d, v, d2, o, hB, hN, hS, hrow, rfl⟩
    walk_at "pl"
    refine ⟨by decide, by decide, ?_⟩
    have e2 : rngD 0 (Int.toNat 2) = rngD ((0 : Nat) : Int) 2 := rfl
    rw [e2]
    refine forL_ind (P_27b d1 (.int k) tr.d tr2.d (.int many) (.int most) (fwD h l) (dueD h l w v) p0) ⟨0, 2, z9, z10, z11, rfl, rfl, hrow, rfl⟩ ?_ ?_
    · rintro ρ Ω7 ⟨k2, l2, z9, z10, z11, hu, hkl, hrow, rfl⟩
      exact ih _ _ ⟨k + 1, l', _, _, _, _, _, _, _, _, _, _, by rw [Int.natCast_add]; rfl, by omega, hrow, rfl⟩
    clear hrow
    rintro x us ρ Ω7 De2 e12 ih2 _ ebk2 ⟨k2, l2, z9, z10, z11, hu, hkl, hrow, rfl⟩
    obtain ⟨l2', rfl, rfl, rfl⟩ := rng_step hu
    simp only [aNeO, aIsi2]
    walk_at "pl"
    have e3 : rngD 0 (Int.toNat 3) = [.int 0, .int 1, .int 2] := rfl
    try rw [e3]
    simp only [compL, wipeA, aYes]
    walk_at "pl"
    refine ⟨by decide, by decide, tr, tr2, many, most, 0, rfl, g5, h5, by omega, .inl ⟨rfl, fun r' ho' => ?_⟩⟩
    obtain rfl := ho.unique ho'
    refine ⟨l, h, hF, fun a Ω8 ha hal hf8 => ⟨by decide, tr, tr2, many, most, 1, rfl, g5, h5, by omega, .inr (.inl ⟨rfl, fun r' s ho2 hs => ?_⟩)⟩⟩
    obtain rfl := ho.unique ho2
    refine ⟨d, w, hB s hs, fun Ω9 hf9 => ⟨by rw [sizeLine_eq]; decide, tr, tr2, many, most, 2, rfl, g5, h5, by omega, .inr (.inr ⟨rfl, fun r' ho3 => ?_⟩)⟩⟩
    obtain rfl := ho.unique ho3
    refine ⟨d2, o, v, hN, hS, fun Ω10 hf10 => ⟨by rw [sizeLine_eq]; decide, ?_⟩⟩
    have row8 := (hf8 p0 (by rw [hrow]; simp)).trans hrow
    have row9 := (hf9 p0 (by rw [row8]; simp)).trans row8
    have row10 := (hf10 p0 (by rw [row9]; simp)).trans row9
    have hal10 : h ≠ .none → Ω10 a = some (.lst (l.map D.int)) := fun z => by
      have q8 := hal z
      have q9 := (hf9 a (by rw [q8]; simp)).trans q8
      exact (hf10 a (by rw [q9]; simp)).trans q9
    have hap : p0 ≠ a := fun z => by rw [z, ha] at hrow; cases hrow
    refine fEqO_refl fits_due (found_pyO hal10) ⟨false, rfl, ?_⟩
    rw [if_neg (by decide)]
    simp only [aIsi2]
    walk_at "pl"
    have fin : ∀ Ω', Ω' p0 = some .row → De2.nx [some d1, some (D.o p0), some (D.int k), some tr.d, some tr2.d, some (D.int many), some (D.int most), some (fwD h l), some (dueD h l w v), some (D.int k2), some (D.lst [hwD h a, D.str w.s, vD v]), z11] Ω' := fun Ω' hr => ih2 _ _ ⟨k2 + 1, l2', _, _, _, by rw [Int.natCast_add]; rfl, by omega, hr, rfl⟩
    have hlen := fst_len hF
    have lst : ∀ s : Str, h ≠ .none → hwD h a = .tup [.o a, .str s] → _ := fun s hn e => (⟨_, by rw [e]; rfl, true, isT_tt, false, isT_ts, by
      rw [if_neg (by decide)]
      refine ⟨_, by rw [e]; rfl, true, isT_tt, ?_⟩
      rw [if_pos rfl]
      exact ⟨_, by rw [e]; rfl, _, rfl, ⟨a, _, rfl, hal10 hn⟩, a, rfl, _, hal10 hn, by rw [List.length_map]; exact small1000' (by omega), fin _ ((oset_ne hap).trans row10)⟩⟩ : ∃ t, D.ty Ω10 (hwD h a) = some t ∧ ∃ x, isT t "tuple" = some x ∧ ∃ x_1, isT t "str" = some x_1 ∧ if (!(x || x_1)) = true then De2.rt (D.bl false) Ω10 else ∃ t, D.ty Ω10 (hwD h a) = some t ∧ ∃ x, isT t "tuple" = some x ∧ if x = true then ∃ xs, D.seq Ω10 (hwD h a) = some xs ∧ ∃ x, xs[0]? = some x ∧ IsLst x Ω10 ∧ ∃ a_1, x = D.o a_1 ∧ ∃ x, Ω10 a_1 = some (AO.lst x) ∧ x.length < sizeLine ∧ De2.nx [some d1, some (D.o p0), some (D.int k), some tr.d, some tr2.d, some (D.int many), some (D.int most), some (fwD h l), some (dueD h l w v), some (D.int k2), some (D.lst [hwD h a, D.str w.s, vD v]), z11] (oset Ω10 a_1 (AO.lst (x ++ [D.int 7]))) else De2.nx [some d1, some (D.o p0), some (D.int k), some tr.d, some tr2.d, some (D.int many), some (D.int most), some (fwD h l), some (dueD h l w v), some (D.int k2), some (D.lst [hwD h a, D.str w.s, vD v]), z11] Ω10)
    cases h with
    | none =>
      refine ⟨_, rfl, false, isT_st, true, isT_ss, ?_⟩
      rw [if_neg (by decide)]
      refine ⟨_, rfl, false, isT_st, ?_⟩
      rw [if_neg (by decide)]
      exact fin _ row10
    | parts => exact lst _ (by simp) rfl
    | fin => exact lst _ (by simp) rfl
    | waits => exact lst _ (by simp) rfl
end
theorem all_mk {l : PySem.W.OpenLaw} {w : World} {K : PySem.W.Frag} {h : Heap} {mg : Str → Option Value} {fa : Addr} (X : K.In h) (G : h.Ns mainGlobals mg) (hfa : mg "law" = some (.ref fa))
    {C_Purse : Addr}
    {C_Fixed : Addr}
    {C_Leaf : Addr}
    {C_Fraction : Addr}
    {C_Root : Addr}
    {C_Ruled : Addr}
    {C_Four : Addr}
    {C_Eight : Addr}
    {C_BadTree : Addr}
    {C_NoValue : Addr}
    {A_TIMES : Addr}
    {f0 : Addr} {od0 an0 : Option Addr} {sl0 : Array (Option Value)} {oc0 kV0 dc0 pm0 cd0 ct0 : Value}
    {f1 : Addr} {od1 an1 : Option Addr} {sl1 : Array (Option Value)} {oc1 kV1 dc1 pm1 cd1 ct1 : Value}
    {f2 : Addr} {od2 an2 : Option Addr} {sl2 : Array (Option Value)} {oc2 kV2 dc2 pm2 cd2 ct2 : Value}
    {f3 : Addr} {od3 an3 : Option Addr} {sl3 : Array (Option Value)} {oc3 kV3 dc3 pm3 cd3 ct3 : Value}
    {f4 : Addr} {od4 an4 : Option Addr} {sl4 : Array (Option Value)} {oc4 kV4 dc4 pm4 cd4 ct4 : Value}
    {f5 : Addr} {od5 an5 : Option Addr} {sl5 : Array (Option Value)} {oc5 kV5 dc5 pm5 cd5 ct5 : Value}
    {f6 : Addr} {od6 an6 : Option Addr} {sl6 : Array (Option Value)} {oc6 kV6 dc6 pm6 cd6 ct6 : Value}
    {f7 : Addr} {od7 an7 : Option Addr} {sl7 : Array (Option Value)} {oc7 kV7 dc7 pm7 cd7 ct7 : Value}
    {f8 : Addr} {od8 an8 : Option Addr} {sl8 : Array (Option Value)} {oc8 kV8 dc8 pm8 cd8 ct8 : Value}
    {f9 : Addr} {od9 an9 : Option Addr} {sl9 : Array (Option Value)} {oc9 kV9 dc9 pm9 cd9 ct9 : Value}
    {f10 : Addr} {od10 an10 : Option Addr} {sl10 : Array (Option Value)} {oc10 kV10 dc10 pm10 cd10 ct10 : Value}
    {f11 : Addr} {od11 an11 : Option Addr} {sl11 : Array (Option Value)} {oc11 kV11 dc11 pm11 cd11 ct11 : Value}
    {f12 : Addr} {od12 an12 : Option Addr} {sl12 : Array (Option Value)} {oc12 kV12 dc12 pm12 cd12 ct12 : Value}
    {f13 : Addr} {od13 an13 : Option Addr} {sl13 : Array (Option Value)} {oc13 kV13 dc13 pm13 cd13 ct13 : Value}
    {f14 : Addr} {od14 an14 : Option Addr} {sl14 : Array (Option Value)} {oc14 kV14 dc14 pm14 cd14 ct14 : Value}
    {f15 : Addr} {od15 an15 : Option Addr} {sl15 : Array (Option Value)} {oc15 kV15 dc15 pm15 cd15 ct15 : Value}
    {f16 : Addr} {od16 an16 : Option Addr} {sl16 : Array (Option Value)} {oc16 kV16 dc16 pm16 cd16 ct16 : Value}
    {f17 : Addr} {od17 an17 : Option Addr} {sl17 : Array (Option Value)} {oc17 kV17 dc17 pm17 cd17 ct17 : Value}
    {f18 : Addr} {od18 an18 : Option Addr} {sl18 : Array (Option Value)} {oc18 kV18 dc18 pm18 cd18 ct18 : Value}
    {f19 : Addr} {od19 an19 : Option Addr} {sl19 : Array (Option Value)} {oc19 kV19 dc19 pm19 cd19 ct19 : Value}
    {f20 : Addr} {od20 an20 : Option Addr} {sl20 : Array (Option Value)} {oc20 kV20 dc20 pm20 cd20 ct20 : Value}
    {f21 : Addr} {od21 an21 : Option Addr} {sl21 : Array (Option Value)} {oc21 kV21 dc21 pm21 cd21 ct21 : Value}
    {f22 : Addr} {od22 an22 : Option Addr} {sl22 : Array (Option Value)} {oc22 kV22 dc22 pm22 cd22 ct22 : Value}
    {f23 : Addr} {od23 an23 : Option Addr} {sl23 : Array (Option Value)} {oc23 kV23 dc23 pm23 cd23 ct23 : Value}
    {f24 : Addr} {od24 an24 : Option Addr} {sl24 : Array (Option Value)} {oc24 kV24 dc24 pm24 cd24 ct24 : Value}
    {f25 : Addr} {od25 an25 : Option Addr} {sl25 : Array (Option Value)} {oc25 kV25 dc25 pm25 cd25 ct25 : Value}
    {f26 : Addr} {od26 an26 : Option Addr} {sl26 : Array (Option Value)} {oc26 kV26 dc26 pm26 cd26 ct26 : Value}
    {f27 : Addr} {od27 an27 : Option Addr} {sl27 : Array (Option Value)} {oc27 kV27 dc27 pm27 cd27 ct27 : Value}
    {f28 : Addr} {od28 an28 : Option Addr} {sl28 : Array (Option Value)} {oc28 kV28 dc28 pm28 cd28 ct28 : Value}
    {f29 : Addr} {od29 an29 : Option Addr} {sl29 : Array (Option Value)} {oc29 kV29 dc29 pm29 cd29 ct29 : Value}
    {f30 : Addr} {od30 an30 : Option Addr} {sl30 : Array (Option Value)} {oc30 kV30 dc30 pm30 cd30 ct30 : Value}
    {f31 : Addr} {od31 an31 : Option Addr} {sl31 : Array (Option Value)} {oc31 kV31 dc31 pm31 cd31 ct31 : Value}
    {f32 : Addr} {od32 an32 : Option Addr} {sl32 : Array (Option Value)} {oc32 kV32 dc32 pm32 cd32 ct32 : Value}
    {f33 : Addr} {od33 an33 : Option Addr} {sl33 : Array (Option Value)} {oc33 kV33 dc33 pm33 cd33 ct33 : Value}
    {f34 : Addr} {od34 an34 : Option Addr} {sl34 : Array (Option Value)} {oc34 kV34 dc34 pm34 cd34 ct34 : Value}
    {f35 : Addr} {od35 an35 : Option Addr} {sl35 : Array (Option Value)} {oc35 kV35 dc35 pm35 cd35 ct35 : Value}
    {f36 : Addr} {od36 an36 : Option Addr} {sl36 : Array (Option Value)} {oc36 kV36 dc36 pm36 cd36 ct36 : Value}
    {f37 : Addr} {od37 an37 : Option Addr} {sl37 : Array (Option Value)} {oc37 kV37 dc37 pm37 cd37 ct37 : Value}
    {f38 : Addr} {od38 an38 : Option Addr} {sl38 : Array (Option Value)} {oc38 kV38 dc38 pm38 cd38 ct38 : Value}
    {f39 : Addr} {od39 an39 : Option Addr} {sl39 : Array (Option Value)} {oc39 kV39 dc39 pm39 cd39 ct39 : Value}
    {f40 : Addr} {od40 an40 : Option Addr} {sl40 : Array (Option Value)} {oc40 kV40 dc40 pm40 cd40 ct40 : Value}
    {f41 : Addr} {od41 an41 : Option Addr} {sl41 : Array (Option Value)} {oc41 kV41 dc41 pm41 cd41 ct41 : Value}
    {f42 : Addr} {od42 an42 : Option Addr} {sl42 : Array (Option Value)} {oc42 kV42 dc42 pm42 cd42 ct42 : Value}
    {f43 : Addr} {od43 an43 : Option Addr} {sl43 : Array (Option Value)} {oc43 kV43 dc43 pm43 cd43 ct43 : Value}
    {f44 : Addr} {od44 an44 : Option Addr} {sl44 : Array (Option Value)} {oc44 kV44 dc44 pm44 cd44 ct44 : Value}
    {f45 : Addr} {od45 an45 : Option Addr} {sl45 : Array (Option Value)} {oc45 kV45 dc45 pm45 cd45 ct45 : Value}
    {f46 : Addr} {od46 an46 : Option Addr} {sl46 : Array (Option Value)} {oc46 kV46 dc46 pm46 cd46 ct46 : Value}
    {f47 : Addr} {od47 an47 : Option Addr} {sl47 : Array (Option Value)} {oc47 kV47 dc47 pm47 cd47 ct47 : Value}
    {f48 : Addr} {od48 an48 : Option Addr} {sl48 : Array (Option Value)} {oc48 kV48 dc48 pm48 cd48 ct48 : Value}
    {f49 : Addr} {od49 an49 : Option Addr} {sl49 : Array (Option Value)} {oc49 kV49 dc49 pm49 cd49 ct49 : Value}
    {f50 : Addr} {od50 an50 : Option Addr} {sl50 : Array (Option Value)} {oc50 kV50 dc50 pm50 cd50 ct50 : Value}
    {f51 : Addr} {od51 an51 : Option Addr} {sl51 : Array (Option Value)} {oc51 kV51 dc51 pm51 cd51 ct51 : Value}
    {f52 : Addr} {od52 an52 : Option Addr} {sl52 : Array (Option Value)} {oc52 kV52 dc52 pm52 cd52 ct52 : Value}
    {f53 : Addr} {od53 an53 : Option Addr} {sl53 : Array (Option Value)} {oc53 kV53 dc53 pm53 cd53 ct53 : Value}
    {f54 : Addr} {od54 an54 : Option Addr} {sl54 : Array (Option Value)} {oc54 kV54 dc54 pm54 cd54 ct54 : Value}
    {f55 : Addr} {od55 an55 : Option Addr} {sl55 : Array (Option Value)} {oc55 kV55 dc55 pm55 cd55 ct55 : Value}
    {f56 : Addr} {od56 an56 : Option Addr} {sl56 : Array (Option Value)} {oc56 kV56 dc56 pm56 cd56 ct56 : Value}
    {f57 : Addr} {od57 an57 : Option Addr} {sl57 : Array (Option Value)} {oc57 kV57 dc57 pm57 cd57 ct57 : Value}
    {f58 : Addr} {od58 an58 : Option Addr} {sl58 : Array (Option Value)} {oc58 kV58 dc58 pm58 cd58 ct58 : Value}
    {f59 : Addr} {od59 an59 : Option Addr} {sl59 : Array (Option Value)} {oc59 kV59 dc59 pm59 cd59 ct59 : Value}
    {f60 : Addr} {od60 an60 : Option Addr} {sl60 : Array (Option Value)} {oc60 kV60 dc60 pm60 cd60 ct60 : Value}
    {f61 : Addr} {od61 an61 : Option Addr} {sl61 : Array (Option Value)} {oc61 kV61 dc61 pm61 cd61 ct61 : Value}
    {f62 : Addr} {od62 an62 : Option Addr} {sl62 : Array (Option Value)} {oc62 kV62 dc62 pm62 cd62 ct62 : Value}
    {f63 : Addr} {od63 an63 : Option Addr} {sl63 : Array (Option Value)} {oc63 kV63 dc63 pm63 cd63 ct63 : Value}
    {f64 : Addr} {od64 an64 : Option Addr} {sl64 : Array (Option Value)} {oc64 kV64 dc64 pm64 cd64 ct64 : Value}
    {f65 : Addr} {od65 an65 : Option Addr} {sl65 : Array (Option Value)} {oc65 kV65 dc65 pm65 cd65 ct65 : Value}
    {f66 : Addr} {od66 an66 : Option Addr} {sl66 : Array (Option Value)} {oc66 kV66 dc66 pm66 cd66 ct66 : Value}
    {f67 : Addr} {od67 an67 : Option Addr} {sl67 : Array (Option Value)} {oc67 kV67 dc67 pm67 cd67 ct67 : Value}
    {f68 : Addr} {od68 an68 : Option Addr} {sl68 : Array (Option Value)} {oc68 kV68 dc68 pm68 cd68 ct68 : Value}
    {f69 : Addr} {od69 an69 : Option Addr} {sl69 : Array (Option Value)} {oc69 kV69 dc69 pm69 cd69 ct69 : Value}
    {f70 : Addr} {od70 an70 : Option Addr} {sl70 : Array (Option Value)} {oc70 kV70 dc70 pm70 cd70 ct70 : Value}
    {f71 : Addr} {od71 an71 : Option Addr} {sl71 : Array (Option Value)} {oc71 kV71 dc71 pm71 cd71 ct71 : Value}
    {f72 : Addr} {od72 an72 : Option Addr} {sl72 : Array (Option Value)} {oc72 kV72 dc72 pm72 cd72 ct72 : Value}
    {f73 : Addr} {od73 an73 : Option Addr} {sl73 : Array (Option Value)} {oc73 kV73 dc73 pm73 cd73 ct73 : Value}
    {t_DEEPEST : Tok}
    {t_MOST_NUMBER : Tok}
    {t_MOST_PARTS : Tok}
    {t_MOST_POWER : Tok}
    {oT_TIMES : Option Addr} {nT_TIMES : Nat} {sT_TIMES : Array (Option Value)} {t0_TIMES t1_TIMES t2_TIMES t3_TIMES t4_TIMES t5_TIMES t6_TIMES t7_TIMES : Tok}
    (g_Purse : PySem.W.nsIn K mainGlobals "Purse" = some (some (.ref C_Purse)))
    (g_Fixed : PySem.W.nsIn K mainGlobals "Fixed" = some (some (.ref C_Fixed)))
    (g_Leaf : PySem.W.nsIn K mainGlobals "Leaf" = some (some (.ref C_Leaf)))
    (g_Fraction : PySem.W.nsIn K mainGlobals "Fraction" = some (some (.ref C_Fraction)))
    (g_Root : PySem.W.nsIn K mainGlobals "Root" = some (some (.ref C_Root)))
    (g_Ruled : PySem.W.nsIn K mainGlobals "Ruled" = some (some (.ref C_Ruled)))
    (g_Four : PySem.W.nsIn K mainGlobals "Four" = some (some (.ref C_Four)))
    (g_Eight : PySem.W.nsIn K mainGlobals "Eight" = some (some (.ref C_Eight)))
    (g_BadTree : PySem.W.nsIn K mainGlobals "BadTree" = some (some (.ref C_BadTree)))
    (g_NoValue : PySem.W.nsIn K mainGlobals "NoValue" = some (some (.ref C_NoValue)))
    (a0 : PySem.W.nsIn K mainGlobals "root_below" = some (some (.ref f0)))
    (l0 : K.lookup f0 = some ⟨oc0, od0, .func (PySem.W.fnOf "root_below" "root_below" (defArgs s_root_below) (defBody s_root_below) (defScope s_root_below) .none kV0 dc0 pm0 an0 cd0 ct0), sl0⟩)
    (c0 : PySem.W.codeIn K cd0 "root_below" = true)
    (k0 : PySem.W.keepIn K (.ref f0) = true)
    (a1 : PySem.W.nsIn K mainGlobals "root_of" = some (some (.ref f1)))
    (l1 : K.lookup f1 = some ⟨oc1, od1, .func (PySem.W.fnOf "root_of" "root_of" (defArgs s_root_of) (defBody s_root_of) (defScope s_root_of) .none kV1 dc1 pm1 an1 cd1 ct1), sl1⟩)
    (c1 : PySem.W.codeIn K cd1 "root_of" = true)
    (k1 : PySem.W.keepIn K (.ref f1) = true)
    (a2 : PySem.W.nsIn K mainGlobals "below_all" = some (some (.ref f2)))
    (l2 : K.lookup f2 = some ⟨oc2, od2, .func (PySem.W.fnOf "below_all" "below_all" (defArgs s_below_all) (defBody s_below_all) (defScope s_below_all) .none kV2 dc2 pm2 an2 cd2 ct2), sl2⟩)
    (c2 : PySem.W.codeIn K cd2 "below_all" = true)
    (k2 : PySem.W.keepIn K (.ref f2) = true)
    (a3 : PySem.W.nsIn K mainGlobals "must" = some (some (.ref f3)))
    (l3 : K.lookup f3 = some ⟨oc3, od3, .func (PySem.W.fnOf "must" "must" (defArgs s_must) (defBody s_must) (defScope s_must) .none kV3 dc3 pm3 an3 cd3 ct3), sl3⟩)
    (c3 : PySem.W.codeIn K cd3 "must" = true)
    (k3 : PySem.W.keepIn K (.ref f3) = true)
    (a4 : PySem.W.nsIn K mainGlobals "need_numbers" = some (some (.ref f4)))
    (l4 : K.lookup f4 = some ⟨oc4, od4, .func (PySem.W.fnOf "need_numbers" "need_numbers" (defArgs s_need_numbers) (defBody s_need_numbers) (defScope s_need_numbers) .none kV4 dc4 pm4 an4 cd4 ct4), sl4⟩)
    (c4 : PySem.W.codeIn K cd4 "need_numbers" = true)
    (k4 : PySem.W.keepIn K (.ref f4) = true)
    (a5 : PySem.W.nsIn K mainGlobals "need_ruled" = some (some (.ref f5)))
    (l5 : K.lookup f5 = some ⟨oc5, od5, .func (PySem.W.fnOf "need_ruled" "need_ruled" (defArgs s_need_ruled) (defBody s_need_ruled) (defScope s_need_ruled) .none kV5 dc5 pm5 an5 cd5 ct5), sl5⟩)
    (c5 : PySem.W.codeIn K cd5 "need_ruled" = true)
    (k5 : PySem.W.keepIn K (.ref f5) = true)
    (a6 : PySem.W.nsIn K mainGlobals "need_eight" = some (some (.ref f6)))
    (l6 : K.lookup f6 = some ⟨oc6, od6, .func (PySem.W.fnOf "need_eight" "need_eight" (defArgs s_need_eight) (defBody s_need_eight) (defScope s_need_eight) .none kV6 dc6 pm6 an6 cd6 ct6), sl6⟩)
    (c6 : PySem.W.codeIn K cd6 "need_eight" = true)
    (k6 : PySem.W.keepIn K (.ref f6) = true)
    (a7 : PySem.W.nsIn K mainGlobals "need_tree" = some (some (.ref f7)))
    (l7 : K.lookup f7 = some ⟨oc7, od7, .func (PySem.W.fnOf "need_tree" "need_tree" (defArgs s_need_tree) (defBody s_need_tree) (defScope s_need_tree) .none kV7 dc7 pm7 an7 cd7 ct7), sl7⟩)
    (c7 : PySem.W.codeIn K cd7 "need_tree" = true)
    (k7 : PySem.W.keepIn K (.ref f7) = true)
    (a8 : PySem.W.nsIn K mainGlobals "opened" = some (some (.ref f8)))
    (l8 : K.lookup f8 = some ⟨oc8, od8, .func (PySem.W.fnOf "opened" "opened" (defArgs s_opened) (defBody s_opened) (defScope s_opened) .none kV8 dc8 pm8 an8 cd8 ct8), sl8⟩)
    (c8 : PySem.W.codeIn K cd8 "opened" = true)
    (k8 : PySem.W.keepIn K (.ref f8) = true)
    (a9 : PySem.W.nsIn K mainGlobals "reader" = some (some (.ref f9)))
    (l9 : K.lookup f9 = some ⟨oc9, od9, .func (PySem.W.fnOf "reader" "reader" (defArgs s_reader) (defBody s_reader) (defScope s_reader) .none kV9 dc9 pm9 an9 cd9 ct9), sl9⟩)
    (c9 : PySem.W.codeIn K cd9 "reader" = true)
    (k9 : PySem.W.keepIn K (.ref f9) = true)
    (a10 : PySem.W.nsIn K mainGlobals "first_parts" = some (some (.ref f10)))
    (l10 : K.lookup f10 = some ⟨oc10, od10, .func (PySem.W.fnOf "first_parts" "first_parts" (defArgs s_first_parts) (defBody s_first_parts) (defScope s_first_parts) .none kV10 dc10 pm10 an10 cd10 ct10), sl10⟩)
    (c10 : PySem.W.codeIn K cd10 "first_parts" = true)
    (k10 : PySem.W.keepIn K (.ref f10) = true)
    (a11 : PySem.W.nsIn K mainGlobals "greater_first" = some (some (.ref f11)))
    (l11 : K.lookup f11 = some ⟨oc11, od11, .func (PySem.W.fnOf "greater_first" "greater_first" (defArgs s_greater_first) (defBody s_greater_first) (defScope s_greater_first) .none kV11 dc11 pm11 an11 cd11 ct11), sl11⟩)
    (c11 : PySem.W.codeIn K cd11 "greater_first" = true)
    (k11 : PySem.W.keepIn K (.ref f11) = true)
    (a12 : PySem.W.nsIn K mainGlobals "read_beside" = some (some (.ref f12)))
    (l12 : K.lookup f12 = some ⟨oc12, od12, .func (PySem.W.fnOf "read_beside" "read_beside" (defArgs s_read_beside) (defBody s_read_beside) (defScope s_read_beside) .none kV12 dc12 pm12 an12 cd12 ct12), sl12⟩)
    (c12 : PySem.W.codeIn K cd12 "read_beside" = true)
    (k12 : PySem.W.keepIn K (.ref f12) = true)
    (a13 : PySem.W.nsIn K mainGlobals "compared" = some (some (.ref f13)))
    (l13 : K.lookup f13 = some ⟨oc13, od13, .func (PySem.W.fnOf "compared" "compared" (defArgs s_compared) (defBody s_compared) (defScope s_compared) .none kV13 dc13 pm13 an13 cd13 ct13), sl13⟩)
    (c13 : PySem.W.codeIn K cd13 "compared" = true)
    (k13 : PySem.W.keepIn K (.ref f13) = true)
    (a14 : PySem.W.nsIn K mainGlobals "beside" = some (some (.ref f14)))
    (l14 : K.lookup f14 = some ⟨oc14, od14, .func (PySem.W.fnOf "beside" "beside" (defArgs s_beside) (defBody s_beside) (defScope s_beside) .none kV14 dc14 pm14 an14 cd14 ct14), sl14⟩)
    (c14 : PySem.W.codeIn K cd14 "beside" = true)
    (k14 : PySem.W.keepIn K (.ref f14) = true)
    (a15 : PySem.W.nsIn K mainGlobals "in_order" = some (some (.ref f15)))
    (l15 : K.lookup f15 = some ⟨oc15, od15, .func (PySem.W.fnOf "in_order" "in_order" (defArgs s_in_order) (defBody s_in_order) (defScope s_in_order) .none kV15 dc15 pm15 an15 cd15 ct15), sl15⟩)
    (c15 : PySem.W.codeIn K cd15 "in_order" = true)
    (k15 : PySem.W.keepIn K (.ref f15) = true)
    (a16 : PySem.W.nsIn K mainGlobals "nearest" = some (some (.ref f16)))
    (l16 : K.lookup f16 = some ⟨oc16, od16, .func (PySem.W.fnOf "nearest" "nearest" (defArgs s_nearest) (defBody s_nearest) (defScope s_nearest) .none kV16 dc16 pm16 an16 cd16 ct16), sl16⟩)
    (c16 : PySem.W.codeIn K cd16 "nearest" = true)
    (k16 : PySem.W.keepIn K (.ref f16) = true)
    (a17 : PySem.W.nsIn K mainGlobals "_law_row" = some (some (.ref f17)))
    (l17 : K.lookup f17 = some ⟨oc17, od17, .func (PySem.W.fnOf "_law_row" "_law_row" (defArgs s__law_row) (defBody s__law_row) (defScope s__law_row) .none kV17 dc17 pm17 an17 cd17 ct17), sl17⟩)
    (c17 : PySem.W.codeIn K cd17 "_law_row" = true)
    (k17 : PySem.W.keepIn K (.ref f17) = true)
    (a18 : PySem.W.nsIn K mainGlobals "_law_taken" = some (some (.ref f18)))
    (l18 : K.lookup f18 = some ⟨oc18, od18, .func (PySem.W.fnOf "_law_taken" "_law_taken" (defArgs s__law_taken) (defBody s__law_taken) (defScope s__law_taken) .none kV18 dc18 pm18 an18 cd18 ct18), sl18⟩)
    (c18 : PySem.W.codeIn K cd18 "_law_taken" = true)
    (k18 : PySem.W.keepIn K (.ref f18) = true)
    (a19 : PySem.W.nsIn K mainGlobals "_law_signed" = some (some (.ref f19)))
    (l19 : K.lookup f19 = some ⟨oc19, od19, .func (PySem.W.fnOf "_law_signed" "_law_signed" (defArgs s__law_signed) (defBody s__law_signed) (defScope s__law_signed) .none kV19 dc19 pm19 an19 cd19 ct19), sl19⟩)
    (c19 : PySem.W.codeIn K cd19 "_law_signed" = true)
    (k19 : PySem.W.keepIn K (.ref f19) = true)
    (a20 : PySem.W.nsIn K mainGlobals "_law_root" = some (some (.ref f20)))
    (l20 : K.lookup f20 = some ⟨oc20, od20, .func (PySem.W.fnOf "_law_root" "_law_root" (defArgs s__law_root) (defBody s__law_root) (defScope s__law_root) .none kV20 dc20 pm20 an20 cd20 ct20), sl20⟩)
    (c20 : PySem.W.codeIn K cd20 "_law_root" = true)
    (k20 : PySem.W.keepIn K (.ref f20) = true)
    (a21 : PySem.W.nsIn K mainGlobals "_law_common" = some (some (.ref f21)))
    (l21 : K.lookup f21 = some ⟨oc21, od21, .func (PySem.W.fnOf "_law_common" "_law_common" (defArgs s__law_common) (defBody s__law_common) (defScope s__law_common) .none kV21 dc21 pm21 an21 cd21 ct21), sl21⟩)
    (c21 : PySem.W.codeIn K cd21 "_law_common" = true)
    (k21 : PySem.W.keepIn K (.ref f21) = true)
    (a22 : PySem.W.nsIn K mainGlobals "_law_made" = some (some (.ref f22)))
    (l22 : K.lookup f22 = some ⟨oc22, od22, .func (PySem.W.fnOf "_law_made" "_law_made" (defArgs s__law_made) (defBody s__law_made) (defScope s__law_made) .none kV22 dc22 pm22 an22 cd22 ct22), sl22⟩)
    (c22 : PySem.W.codeIn K cd22 "_law_made" = true)
    (k22 : PySem.W.keepIn K (.ref f22) = true)
    (a23 : PySem.W.nsIn K mainGlobals "_law_sum" = some (some (.ref f23)))
    (l23 : K.lookup f23 = some ⟨oc23, od23, .func (PySem.W.fnOf "_law_sum" "_law_sum" (defArgs s__law_sum) (defBody s__law_sum) (defScope s__law_sum) .none kV23 dc23 pm23 an23 cd23 ct23), sl23⟩)
    (c23 : PySem.W.codeIn K cd23 "_law_sum" = true)
    (k23 : PySem.W.keepIn K (.ref f23) = true)
    (a24 : PySem.W.nsIn K mainGlobals "_law_product" = some (some (.ref f24)))
    (l24 : K.lookup f24 = some ⟨oc24, od24, .func (PySem.W.fnOf "_law_product" "_law_product" (defArgs s__law_product) (defBody s__law_product) (defScope s__law_product) .none kV24 dc24 pm24 an24 cd24 ct24), sl24⟩)
    (c24 : PySem.W.codeIn K cd24 "_law_product" = true)
    (k24 : PySem.W.keepIn K (.ref f24) = true)
    (a25 : PySem.W.nsIn K mainGlobals "_law_quotient" = some (some (.ref f25)))
    (l25 : K.lookup f25 = some ⟨oc25, od25, .func (PySem.W.fnOf "_law_quotient" "_law_quotient" (defArgs s__law_quotient) (defBody s__law_quotient) (defScope s__law_quotient) .none kV25 dc25 pm25 an25 cd25 ct25), sl25⟩)
    (c25 : PySem.W.codeIn K cd25 "_law_quotient" = true)
    (k25 : PySem.W.keepIn K (.ref f25) = true)
    (a26 : PySem.W.nsIn K mainGlobals "_law_below" = some (some (.ref f26)))
    (l26 : K.lookup f26 = some ⟨oc26, od26, .func (PySem.W.fnOf "_law_below" "_law_below" (defArgs s__law_below) (defBody s__law_below) (defScope s__law_below) .none kV26 dc26 pm26 an26 cd26 ct26), sl26⟩)
    (c26 : PySem.W.codeIn K cd26 "_law_below" = true)
    (k26 : PySem.W.keepIn K (.ref f26) = true)
    (a27 : PySem.W.nsIn K mainGlobals "_law_ruled" = some (some (.ref f27)))
    (l27 : K.lookup f27 = some ⟨oc27, od27, .func (PySem.W.fnOf "_law_ruled" "_law_ruled" (defArgs s__law_ruled) (defBody s__law_ruled) (defScope s__law_ruled) .none kV27 dc27 pm27 an27 cd27 ct27), sl27⟩)
    (c27 : PySem.W.codeIn K cd27 "_law_ruled" = true)
    (k27 : PySem.W.keepIn K (.ref f27) = true)
    (a28 : PySem.W.nsIn K mainGlobals "_law_corners" = some (some (.ref f28)))
    (l28 : K.lookup f28 = some ⟨oc28, od28, .func (PySem.W.fnOf "_law_corners" "_law_corners" (defArgs s__law_corners) (defBody s__law_corners) (defScope s__law_corners) .none kV28 dc28 pm28 an28 cd28 ct28), sl28⟩)
    (c28 : PySem.W.codeIn K cd28 "_law_corners" = true)
    (k28 : PySem.W.keepIn K (.ref f28) = true)
    (a29 : PySem.W.nsIn K mainGlobals "_law_sure" = some (some (.ref f29)))
    (l29 : K.lookup f29 = some ⟨oc29, od29, .func (PySem.W.fnOf "_law_sure" "_law_sure" (defArgs s__law_sure) (defBody s__law_sure) (defScope s__law_sure) .none kV29 dc29 pm29 an29 cd29 ct29), sl29⟩)
    (c29 : PySem.W.codeIn K cd29 "_law_sure" = true)
    (k29 : PySem.W.keepIn K (.ref f29) = true)
    (a30 : PySem.W.nsIn K mainGlobals "_law_moved" = some (some (.ref f30)))
    (l30 : K.lookup f30 = some ⟨oc30, od30, .func (PySem.W.fnOf "_law_moved" "_law_moved" (defArgs s__law_moved) (defBody s__law_moved) (defScope s__law_moved) .none kV30 dc30 pm30 an30 cd30 ct30), sl30⟩)
    (c30 : PySem.W.codeIn K cd30 "_law_moved" = true)
    (k30 : PySem.W.keepIn K (.ref f30) = true)
    (a31 : PySem.W.nsIn K mainGlobals "_law_ended" = some (some (.ref f31)))
    (l31 : K.lookup f31 = some ⟨oc31, od31, .func (PySem.W.fnOf "_law_ended" "_law_ended" (defArgs s__law_ended) (defBody s__law_ended) (defScope s__law_ended) .none kV31 dc31 pm31 an31 cd31 ct31), sl31⟩)
    (c31 : PySem.W.codeIn K cd31 "_law_ended" = true)
    (k31 : PySem.W.keepIn K (.ref f31) = true)
    (a32 : PySem.W.nsIn K mainGlobals "_law_rest" = some (some (.ref f32)))
    (l32 : K.lookup f32 = some ⟨oc32, od32, .func (PySem.W.fnOf "_law_rest" "_law_rest" (defArgs s__law_rest) (defBody s__law_rest) (defScope s__law_rest) .none kV32 dc32 pm32 an32 cd32 ct32), sl32⟩)
    (c32 : PySem.W.codeIn K cd32 "_law_rest" = true)
    (k32 : PySem.W.keepIn K (.ref f32) = true)
    (a33 : PySem.W.nsIn K mainGlobals "_law_apart" = some (some (.ref f33)))
    (l33 : K.lookup f33 = some ⟨oc33, od33, .func (PySem.W.fnOf "_law_apart" "_law_apart" (defArgs s__law_apart) (defBody s__law_apart) (defScope s__law_apart) .none kV33 dc33 pm33 an33 cd33 ct33), sl33⟩)
    (c33 : PySem.W.codeIn K cd33 "_law_apart" = true)
    (k33 : PySem.W.keepIn K (.ref f33) = true)
    (a34 : PySem.W.nsIn K mainGlobals "_law_numbers" = some (some (.ref f34)))
    (l34 : K.lookup f34 = some ⟨oc34, od34, .func (PySem.W.fnOf "_law_numbers" "_law_numbers" (defArgs s__law_numbers) (defBody s__law_numbers) (defScope s__law_numbers) .none kV34 dc34 pm34 an34 cd34 ct34), sl34⟩)
    (c34 : PySem.W.codeIn K cd34 "_law_numbers" = true)
    (k34 : PySem.W.keepIn K (.ref f34) = true)
    (a35 : PySem.W.nsIn K mainGlobals "_law_any_leaf" = some (some (.ref f35)))
    (l35 : K.lookup f35 = some ⟨oc35, od35, .func (PySem.W.fnOf "_law_any_leaf" "_law_any_leaf" (defArgs s__law_any_leaf) (defBody s__law_any_leaf) (defScope s__law_any_leaf) .none kV35 dc35 pm35 an35 cd35 ct35), sl35⟩)
    (c35 : PySem.W.codeIn K cd35 "_law_any_leaf" = true)
    (k35 : PySem.W.keepIn K (.ref f35) = true)
    (a36 : PySem.W.nsIn K mainGlobals "_law_any" = some (some (.ref f36)))
    (l36 : K.lookup f36 = some ⟨oc36, od36, .func (PySem.W.fnOf "_law_any" "_law_any" (defArgs s__law_any) (defBody s__law_any) (defScope s__law_any) .none kV36 dc36 pm36 an36 cd36 ct36), sl36⟩)
    (c36 : PySem.W.codeIn K cd36 "_law_any" = true)
    (k36 : PySem.W.keepIn K (.ref f36) = true)
    (a37 : PySem.W.nsIn K mainGlobals "_law_opened" = some (some (.ref f37)))
    (l37 : K.lookup f37 = some ⟨oc37, od37, .func (PySem.W.fnOf "_law_opened" "_law_opened" (defArgs s__law_opened) (defBody s__law_opened) (defScope s__law_opened) .none kV37 dc37 pm37 an37 cd37 ct37), sl37⟩)
    (c37 : PySem.W.codeIn K cd37 "_law_opened" = true)
    (k37 : PySem.W.keepIn K (.ref f37) = true)
    (a38 : PySem.W.nsIn K mainGlobals "_law_took" = some (some (.ref f38)))
    (l38 : K.lookup f38 = some ⟨oc38, od38, .func (PySem.W.fnOf "_law_took" "_law_took" (defArgs s__law_took) (defBody s__law_took) (defScope s__law_took) .none kV38 dc38 pm38 an38 cd38 ct38), sl38⟩)
    (c38 : PySem.W.codeIn K cd38 "_law_took" = true)
    (k38 : PySem.W.keepIn K (.ref f38) = true)
    (a39 : PySem.W.nsIn K mainGlobals "_law_leaf_told" = some (some (.ref f39)))
    (l39 : K.lookup f39 = some ⟨oc39, od39, .func (PySem.W.fnOf "_law_leaf_told" "_law_leaf_told" (defArgs s__law_leaf_told) (defBody s__law_leaf_told) (defScope s__law_leaf_told) .none kV39 dc39 pm39 an39 cd39 ct39), sl39⟩)
    (c39 : PySem.W.codeIn K cd39 "_law_leaf_told" = true)
    (k39 : PySem.W.keepIn K (.ref f39) = true)
    (a40 : PySem.W.nsIn K mainGlobals "_law_told" = some (some (.ref f40)))
    (l40 : K.lookup f40 = some ⟨oc40, od40, .func (PySem.W.fnOf "_law_told" "_law_told" (defArgs s__law_told) (defBody s__law_told) (defScope s__law_told) .none kV40 dc40 pm40 an40 cd40 ct40), sl40⟩)
    (c40 : PySem.W.codeIn K cd40 "_law_told" = true)
    (k40 : PySem.W.keepIn K (.ref f40) = true)
    (a41 : PySem.W.nsIn K mainGlobals "_law_first" = some (some (.ref f41)))
    (l41 : K.lookup f41 = some ⟨oc41, od41, .func (PySem.W.fnOf "_law_first" "_law_first" (defArgs s__law_first) (defBody s__law_first) (defScope s__law_first) .none kV41 dc41 pm41 an41 cd41 ct41), sl41⟩)
    (c41 : PySem.W.codeIn K cd41 "_law_first" = true)
    (k41 : PySem.W.keepIn K (.ref f41) = true)
    (a42 : PySem.W.nsIn K mainGlobals "_law_beside" = some (some (.ref f42)))
    (l42 : K.lookup f42 = some ⟨oc42, od42, .func (PySem.W.fnOf "_law_beside" "_law_beside" (defArgs s__law_beside) (defBody s__law_beside) (defScope s__law_beside) .none kV42 dc42 pm42 an42 cd42 ct42), sl42⟩)
    (c42 : PySem.W.codeIn K cd42 "_law_beside" = true)
    (k42 : PySem.W.keepIn K (.ref f42) = true)
    (a43 : PySem.W.nsIn K mainGlobals "_law_pair" = some (some (.ref f43)))
    (l43 : K.lookup f43 = some ⟨oc43, od43, .func (PySem.W.fnOf "_law_pair" "_law_pair" (defArgs s__law_pair) (defBody s__law_pair) (defScope s__law_pair) .none kV43 dc43 pm43 an43 cd43 ct43), sl43⟩)
    (c43 : PySem.W.codeIn K cd43 "_law_pair" = true)
    (k43 : PySem.W.keepIn K (.ref f43) = true)
    (a44 : PySem.W.nsIn K mainGlobals "_law_nearest" = some (some (.ref f44)))
    (l44 : K.lookup f44 = some ⟨oc44, od44, .func (PySem.W.fnOf "_law_nearest" "_law_nearest" (defArgs s__law_nearest) (defBody s__law_nearest) (defScope s__law_nearest) .none kV44 dc44 pm44 an44 cd44 ct44), sl44⟩)
    (c44 : PySem.W.codeIn K cd44 "_law_nearest" = true)
    (k44 : PySem.W.keepIn K (.ref f44) = true)
    (a45 : PySem.W.nsIn K mainGlobals "_law_asked" = some (some (.ref f45)))
    (l45 : K.lookup f45 = some ⟨oc45, od45, .func (PySem.W.fnOf "_law_asked" "_law_asked" (defArgs s__law_asked) (defBody s__law_asked) (defScope s__law_asked) .none kV45 dc45 pm45 an45 cd45 ct45), sl45⟩)
    (c45 : PySem.W.codeIn K cd45 "_law_asked" = true)
    (k45 : PySem.W.keepIn K (.ref f45) = true)
    (a46 : PySem.W.nsIn K mainGlobals "law" = some (some (.ref f46)))
    (l46 : K.lookup f46 = some ⟨oc46, od46, .func (PySem.W.fnOf "law" "law" (defArgs s_law) (defBody s_law) (defScope s_law) .none kV46 dc46 pm46 an46 cd46 ct46), sl46⟩)
    (c46 : PySem.W.codeIn K cd46 "law" = true)
    (k46 : PySem.W.keepIn K (.ref f46) = true)
    (pg_Purse : PySem.W.plainGet K C_Purse Str.empty = true)
    (hd_Purse : PySem.W.hasDictIn K C_Purse = true)
    (po_Purse : PySem.W.plainOver K C_Purse = true)
    (sa_Purse : PySem.W.findIn K (.ref C_Purse) "__setattr__" = some (some (.builtin "object.__setattr__")))
    (mk_Purse : PySem.W.makesIn K C_Purse = true)
    (kc_Purse : PySem.W.keepIn K (.ref C_Purse) = true)
    (pg_Fixed : PySem.W.plainGet K C_Fixed Str.empty = true)
    (hd_Fixed : PySem.W.hasDictIn K C_Fixed = true)
    (po_Fixed : PySem.W.plainOver K C_Fixed = true)
    (sa_Fixed : PySem.W.findIn K (.ref C_Fixed) "__setattr__" = some (some (.builtin "object.__setattr__")))
    (mk_Fixed : PySem.W.makesIn K C_Fixed = true)
    (kc_Fixed : PySem.W.keepIn K (.ref C_Fixed) = true)
    (pg_Fraction : PySem.W.plainGet K C_Fraction Str.empty = true)
    (hd_Fraction : PySem.W.hasDictIn K C_Fraction = true)
    (po_Fraction : PySem.W.plainOver K C_Fraction = true)
    (sa_Fraction : PySem.W.findIn K (.ref C_Fraction) "__setattr__" = some (some (.builtin "object.__setattr__")))
    (mk_Fraction : PySem.W.makesIn K C_Fraction = true)
    (kc_Fraction : PySem.W.keepIn K (.ref C_Fraction) = true)
    (pg_Root : PySem.W.plainGet K C_Root Str.empty = true)
    (hd_Root : PySem.W.hasDictIn K C_Root = true)
    (po_Root : PySem.W.plainOver K C_Root = true)
    (sa_Root : PySem.W.findIn K (.ref C_Root) "__setattr__" = some (some (.builtin "object.__setattr__")))
    (mk_Root : PySem.W.makesIn K C_Root = true)
    (kc_Root : PySem.W.keepIn K (.ref C_Root) = true)
    (pg_Ruled : PySem.W.plainGet K C_Ruled Str.empty = true)
    (hd_Ruled : PySem.W.hasDictIn K C_Ruled = true)
    (po_Ruled : PySem.W.plainOver K C_Ruled = true)
    (sa_Ruled : PySem.W.findIn K (.ref C_Ruled) "__setattr__" = some (some (.builtin "object.__setattr__")))
    (mk_Ruled : PySem.W.makesIn K C_Ruled = true)
    (kc_Ruled : PySem.W.keepIn K (.ref C_Ruled) = true)
    (pg_Four : PySem.W.plainGet K C_Four Str.empty = true)
    (hd_Four : PySem.W.hasDictIn K C_Four = true)
    (po_Four : PySem.W.plainOver K C_Four = true)
    (sa_Four : PySem.W.findIn K (.ref C_Four) "__setattr__" = some (some (.builtin "object.__setattr__")))
    (mk_Four : PySem.W.makesIn K C_Four = true)
    (kc_Four : PySem.W.keepIn K (.ref C_Four) = true)
    (pg_Eight : PySem.W.plainGet K C_Eight Str.empty = true)
    (hd_Eight : PySem.W.hasDictIn K C_Eight = true)
    (po_Eight : PySem.W.plainOver K C_Eight = true)
    (sa_Eight : PySem.W.findIn K (.ref C_Eight) "__setattr__" = some (some (.builtin "object.__setattr__")))
    (mk_Eight : PySem.W.makesIn K C_Eight = true)
    (kc_Eight : PySem.W.keepIn K (.ref C_Eight) = true)
    (a47_Purse : PySem.W.findIn K (.ref C_Purse) "__init__" = some (some (.ref f47)))
    (i47 : PySem.W.isFn K (.ref f47) = true)
    (l47 : K.lookup f47 = some ⟨oc47, od47, .func (PySem.W.fnOf "__init__" "Purse.__init__" (defArgs s_Purse___init__) (defBody s_Purse___init__) (defScope s_Purse___init__) .none kV47 dc47 pm47 an47 cd47 ct47), sl47⟩)
    (c47 : PySem.W.codeIn K cd47 "Purse.__init__" = true)
    (k47 : PySem.W.keepIn K (.ref f47) = true)
    (a48_Fixed : PySem.W.findIn K (.ref C_Fixed) "part" = some (some (.ref f48)))
    (a48_Fraction : PySem.W.findIn K (.ref C_Fraction) "part" = some (some (.ref f48)))
    (a48_Root : PySem.W.findIn K (.ref C_Root) "part" = some (some (.ref f48)))
    (a48_Ruled : PySem.W.findIn K (.ref C_Ruled) "part" = some (some (.ref f48)))
    (a48_Four : PySem.W.findIn K (.ref C_Four) "part" = some (some (.ref f48)))
    (a48_Eight : PySem.W.findIn K (.ref C_Eight) "part" = some (some (.ref f48)))
    (i48 : PySem.W.isFn K (.ref f48) = true)
    (l48 : K.lookup f48 = some ⟨oc48, od48, .func (PySem.W.fnOf "part" "Reader.part" (defArgs s_Reader_part) (defBody s_Reader_part) (defScope s_Reader_part) .none kV48 dc48 pm48 an48 cd48 ct48), sl48⟩)
    (c48 : PySem.W.codeIn K cd48 "Reader.part" = true)
    (k48 : PySem.W.keepIn K (.ref f48) = true)
    (a49_Fixed : PySem.W.findIn K (.ref C_Fixed) "took" = some (some (.ref f49)))
    (i49 : PySem.W.isFn K (.ref f49) = true)
    (l49 : K.lookup f49 = some ⟨oc49, od49, .func (PySem.W.fnOf "took" "Reader.took" (defArgs s_Reader_took) (defBody s_Reader_took) (defScope s_Reader_took) .none kV49 dc49 pm49 an49 cd49 ct49), sl49⟩)
    (c49 : PySem.W.codeIn K cd49 "Reader.took" = true)
    (k49 : PySem.W.keepIn K (.ref f49) = true)
    (a50_Fixed : PySem.W.findIn K (.ref C_Fixed) "__init__" = some (some (.ref f50)))
    (i50 : PySem.W.isFn K (.ref f50) = true)
    (l50 : K.lookup f50 = some ⟨oc50, od50, .func (PySem.W.fnOf "__init__" "Fixed.__init__" (defArgs s_Fixed___init__) (defBody s_Fixed___init__) (defScope s_Fixed___init__) .none kV50 dc50 pm50 an50 cd50 ct50), sl50⟩)
    (c50 : PySem.W.codeIn K cd50 "Fixed.__init__" = true)
    (k50 : PySem.W.keepIn K (.ref f50) = true)
    (a51_Fixed : PySem.W.findIn K (.ref C_Fixed) "told" = some (some (.ref f51)))
    (i51 : PySem.W.isFn K (.ref f51) = true)
    (l51 : K.lookup f51 = some ⟨oc51, od51, .func (PySem.W.fnOf "told" "Fixed.told" (defArgs s_Fixed_told) (defBody s_Fixed_told) (defScope s_Fixed_told) .none kV51 dc51 pm51 an51 cd51 ct51), sl51⟩)
    (c51 : PySem.W.codeIn K cd51 "Fixed.told" = true)
    (k51 : PySem.W.keepIn K (.ref f51) = true)
    (r52 : PySem.W.readsIn K C_Leaf (.type "type") = true)
    (ga52 : PySem.W.specialIn K (.ref C_Leaf) "__getattribute__" = some (some (.builtin "type.__getattribute__")))
    (fc52 : PySem.W.findCls K (.ref C_Leaf) (.type "type") "__init__" = some (.val (.ref f52)))
    (i52 : PySem.W.isFn K (.ref f52) = true)
    (l52 : K.lookup f52 = some ⟨oc52, od52, .func (PySem.W.fnOf "__init__" "Leaf.__init__" (defArgs s_Leaf___init__) (defBody s_Leaf___init__) (defScope s_Leaf___init__) .none kV52 dc52 pm52 an52 cd52 ct52), sl52⟩)
    (c52 : PySem.W.codeIn K cd52 "Leaf.__init__" = true)
    (k52 : PySem.W.keepIn K (.ref f52) = true)
    (a53_Fraction : PySem.W.findIn K (.ref C_Fraction) "told" = some (some (.ref f53)))
    (a53_Root : PySem.W.findIn K (.ref C_Root) "told" = some (some (.ref f53)))
    (a53_Ruled : PySem.W.findIn K (.ref C_Ruled) "told" = some (some (.ref f53)))
    (i53 : PySem.W.isFn K (.ref f53) = true)
    (l53 : K.lookup f53 = some ⟨oc53, od53, .func (PySem.W.fnOf "told" "Leaf.told" (defArgs s_Leaf_told) (defBody s_Leaf_told) (defScope s_Leaf_told) .none kV53 dc53 pm53 an53 cd53 ct53), sl53⟩)
    (c53 : PySem.W.codeIn K cd53 "Leaf.told" = true)
    (k53 : PySem.W.keepIn K (.ref f53) = true)
    (a54_Root : PySem.W.findIn K (.ref C_Root) "at_end" = some (some (.ref f54)))
    (i54 : PySem.W.isFn K (.ref f54) = true)
    (l54 : K.lookup f54 = some ⟨oc54, od54, .func (PySem.W.fnOf "at_end" "Leaf.at_end" (defArgs s_Leaf_at_end) (defBody s_Leaf_at_end) (defScope s_Leaf_at_end) .none kV54 dc54 pm54 an54 cd54 ct54), sl54⟩)
    (c54 : PySem.W.codeIn K cd54 "Leaf.at_end" = true)
    (k54 : PySem.W.keepIn K (.ref f54) = true)
    (a55_Fraction : PySem.W.findIn K (.ref C_Fraction) "took" = some (some (.ref f55)))
    (a55_Root : PySem.W.findIn K (.ref C_Root) "took" = some (some (.ref f55)))
    (a55_Ruled : PySem.W.findIn K (.ref C_Ruled) "took" = some (some (.ref f55)))
    (i55 : PySem.W.isFn K (.ref f55) = true)
    (l55 : K.lookup f55 = some ⟨oc55, od55, .func (PySem.W.fnOf "took" "Leaf.took" (defArgs s_Leaf_took) (defBody s_Leaf_took) (defScope s_Leaf_took) .none kV55 dc55 pm55 an55 cd55 ct55), sl55⟩)
    (c55 : PySem.W.codeIn K cd55 "Leaf.took" = true)
    (k55 : PySem.W.keepIn K (.ref f55) = true)
    (a56_Fraction : PySem.W.findIn K (.ref C_Fraction) "__init__" = some (some (.ref f56)))
    (i56 : PySem.W.isFn K (.ref f56) = true)
    (l56 : K.lookup f56 = some ⟨oc56, od56, .func (PySem.W.fnOf "__init__" "Fraction.__init__" (defArgs s_Fraction___init__) (defBody s_Fraction___init__) (defScope s_Fraction___init__) .none kV56 dc56 pm56 an56 cd56 ct56), sl56⟩)
    (c56 : PySem.W.codeIn K cd56 "Fraction.__init__" = true)
    (k56 : PySem.W.keepIn K (.ref f56) = true)
    (a57_Fraction : PySem.W.findIn K (.ref C_Fraction) "at_end" = some (some (.ref f57)))
    (i57 : PySem.W.isFn K (.ref f57) = true)
    (l57 : K.lookup f57 = some ⟨oc57, od57, .func (PySem.W.fnOf "at_end" "Fraction.at_end" (defArgs s_Fraction_at_end) (defBody s_Fraction_at_end) (defScope s_Fraction_at_end) .none kV57 dc57 pm57 an57 cd57 ct57), sl57⟩)
    (c57 : PySem.W.codeIn K cd57 "Fraction.at_end" = true)
    (k57 : PySem.W.keepIn K (.ref f57) = true)
    (a58_Fraction : PySem.W.findIn K (.ref C_Fraction) "following" = some (some (.ref f58)))
    (i58 : PySem.W.isFn K (.ref f58) = true)
    (l58 : K.lookup f58 = some ⟨oc58, od58, .func (PySem.W.fnOf "following" "Fraction.following" (defArgs s_Fraction_following) (defBody s_Fraction_following) (defScope s_Fraction_following) .none kV58 dc58 pm58 an58 cd58 ct58), sl58⟩)
    (c58 : PySem.W.codeIn K cd58 "Fraction.following" = true)
    (k58 : PySem.W.keepIn K (.ref f58) = true)
    (a59_Root : PySem.W.findIn K (.ref C_Root) "__init__" = some (some (.ref f59)))
    (i59 : PySem.W.isFn K (.ref f59) = true)
    (l59 : K.lookup f59 = some ⟨oc59, od59, .func (PySem.W.fnOf "__init__" "Root.__init__" (defArgs s_Root___init__) (defBody s_Root___init__) (defScope s_Root___init__) .none kV59 dc59 pm59 an59 cd59 ct59), sl59⟩)
    (c59 : PySem.W.codeIn K cd59 "Root.__init__" = true)
    (k59 : PySem.W.keepIn K (.ref f59) = true)
    (a60_Root : PySem.W.findIn K (.ref C_Root) "following" = some (some (.ref f60)))
    (i60 : PySem.W.isFn K (.ref f60) = true)
    (l60 : K.lookup f60 = some ⟨oc60, od60, .func (PySem.W.fnOf "following" "Root.following" (defArgs s_Root_following) (defBody s_Root_following) (defScope s_Root_following) .none kV60 dc60 pm60 an60 cd60 ct60), sl60⟩)
    (c60 : PySem.W.codeIn K cd60 "Root.following" = true)
    (k60 : PySem.W.keepIn K (.ref f60) = true)
    (a61_Ruled : PySem.W.findIn K (.ref C_Ruled) "__init__" = some (some (.ref f61)))
    (i61 : PySem.W.isFn K (.ref f61) = true)
    (l61 : K.lookup f61 = some ⟨oc61, od61, .func (PySem.W.fnOf "__init__" "Ruled.__init__" (defArgs s_Ruled___init__) (defBody s_Ruled___init__) (defScope s_Ruled___init__) .none kV61 dc61 pm61 an61 cd61 ct61), sl61⟩)
    (c61 : PySem.W.codeIn K cd61 "Ruled.__init__" = true)
    (k61 : PySem.W.keepIn K (.ref f61) = true)
    (a62_Ruled : PySem.W.findIn K (.ref C_Ruled) "at_end" = some (some (.ref f62)))
    (i62 : PySem.W.isFn K (.ref f62) = true)
    (l62 : K.lookup f62 = some ⟨oc62, od62, .func (PySem.W.fnOf "at_end" "Ruled.at_end" (defArgs s_Ruled_at_end) (defBody s_Ruled_at_end) (defScope s_Ruled_at_end) .none kV62 dc62 pm62 an62 cd62 ct62), sl62⟩)
    (c62 : PySem.W.codeIn K cd62 "Ruled.at_end" = true)
    (k62 : PySem.W.keepIn K (.ref f62) = true)
    (a63_Ruled : PySem.W.findIn K (.ref C_Ruled) "following" = some (some (.ref f63)))
    (i63 : PySem.W.isFn K (.ref f63) = true)
    (l63 : K.lookup f63 = some ⟨oc63, od63, .func (PySem.W.fnOf "following" "Ruled.following" (defArgs s_Ruled_following) (defBody s_Ruled_following) (defScope s_Ruled_following) .none kV63 dc63 pm63 an63 cd63 ct63), sl63⟩)
    (c63 : PySem.W.codeIn K cd63 "Ruled.following" = true)
    (k63 : PySem.W.keepIn K (.ref f63) = true)
    (a64_Four : PySem.W.findIn K (.ref C_Four) "__init__" = some (some (.ref f64)))
    (i64 : PySem.W.isFn K (.ref f64) = true)
    (l64 : K.lookup f64 = some ⟨oc64, od64, .func (PySem.W.fnOf "__init__" "Four.__init__" (defArgs s_Four___init__) (defBody s_Four___init__) (defScope s_Four___init__) .none kV64 dc64 pm64 an64 cd64 ct64), sl64⟩)
    (c64 : PySem.W.codeIn K cd64 "Four.__init__" = true)
    (k64 : PySem.W.keepIn K (.ref f64) = true)
    (a65_Four : PySem.W.findIn K (.ref C_Four) "took" = some (some (.ref f65)))
    (i65 : PySem.W.isFn K (.ref f65) = true)
    (l65 : K.lookup f65 = some ⟨oc65, od65, .func (PySem.W.fnOf "took" "Four.took" (defArgs s_Four_took) (defBody s_Four_took) (defScope s_Four_took) .none kV65 dc65 pm65 an65 cd65 ct65), sl65⟩)
    (c65 : PySem.W.codeIn K cd65 "Four.took" = true)
    (k65 : PySem.W.keepIn K (.ref f65) = true)
    (a66_Four : PySem.W.findIn K (.ref C_Four) "sure" = some (some (.ref f66)))
    (i66 : PySem.W.isFn K (.ref f66) = true)
    (l66 : K.lookup f66 = some ⟨oc66, od66, .func (PySem.W.fnOf "sure" "Four.sure" (defArgs s_Four_sure) (defBody s_Four_sure) (defScope s_Four_sure) .none kV66 dc66 pm66 an66 cd66 ct66), sl66⟩)
    (c66 : PySem.W.codeIn K cd66 "Four.sure" = true)
    (k66 : PySem.W.keepIn K (.ref f66) = true)
    (a67_Four : PySem.W.findIn K (.ref C_Four) "told" = some (some (.ref f67)))
    (i67 : PySem.W.isFn K (.ref f67) = true)
    (l67 : K.lookup f67 = some ⟨oc67, od67, .func (PySem.W.fnOf "told" "Four.told" (defArgs s_Four_told) (defBody s_Four_told) (defScope s_Four_told) .none kV67 dc67 pm67 an67 cd67 ct67), sl67⟩)
    (c67 : PySem.W.codeIn K cd67 "Four.told" = true)
    (k67 : PySem.W.keepIn K (.ref f67) = true)
    (a68_Eight : PySem.W.findIn K (.ref C_Eight) "__init__" = some (some (.ref f68)))
    (i68 : PySem.W.isFn K (.ref f68) = true)
    (l68 : K.lookup f68 = some ⟨oc68, od68, .func (PySem.W.fnOf "__init__" "Eight.__init__" (defArgs s_Eight___init__) (defBody s_Eight___init__) (defScope s_Eight___init__) .none kV68 dc68 pm68 an68 cd68 ct68), sl68⟩)
    (c68 : PySem.W.codeIn K cd68 "Eight.__init__" = true)
    (k68 : PySem.W.keepIn K (.ref f68) = true)
    (a69_Eight : PySem.W.findIn K (.ref C_Eight) "took" = some (some (.ref f69)))
    (i69 : PySem.W.isFn K (.ref f69) = true)
    (l69 : K.lookup f69 = some ⟨oc69, od69, .func (PySem.W.fnOf "took" "Eight.took" (defArgs s_Eight_took) (defBody s_Eight_took) (defScope s_Eight_took) .none kV69 dc69 pm69 an69 cd69 ct69), sl69⟩)
    (c69 : PySem.W.codeIn K cd69 "Eight.took" = true)
    (k69 : PySem.W.keepIn K (.ref f69) = true)
    (a70_Eight : PySem.W.findIn K (.ref C_Eight) "sure" = some (some (.ref f70)))
    (i70 : PySem.W.isFn K (.ref f70) = true)
    (l70 : K.lookup f70 = some ⟨oc70, od70, .func (PySem.W.fnOf "sure" "Eight.sure" (defArgs s_Eight_sure) (defBody s_Eight_sure) (defScope s_Eight_sure) .none kV70 dc70 pm70 an70 cd70 ct70), sl70⟩)
    (c70 : PySem.W.codeIn K cd70 "Eight.sure" = true)
    (k70 : PySem.W.keepIn K (.ref f70) = true)
    (a71_Eight : PySem.W.findIn K (.ref C_Eight) "told" = some (some (.ref f71)))
    (i71 : PySem.W.isFn K (.ref f71) = true)
    (l71 : K.lookup f71 = some ⟨oc71, od71, .func (PySem.W.fnOf "told" "Eight.told" (defArgs s_Eight_told) (defBody s_Eight_told) (defScope s_Eight_told) .none kV71 dc71 pm71 an71 cd71 ct71), sl71⟩)
    (c71 : PySem.W.codeIn K cd71 "Eight.told" = true)
    (k71 : PySem.W.keepIn K (.ref f71) = true)
    (a72_Eight : PySem.W.findIn K (.ref C_Eight) "take" = some (some (.ref f72)))
    (i72 : PySem.W.isFn K (.ref f72) = true)
    (l72 : K.lookup f72 = some ⟨oc72, od72, .func (PySem.W.fnOf "take" "Eight.take" (defArgs s_Eight_take) (defBody s_Eight_take) (defScope s_Eight_take) .none kV72 dc72 pm72 an72 cd72 ct72), sl72⟩)
    (c72 : PySem.W.codeIn K cd72 "Eight.take" = true)
    (k72 : PySem.W.keepIn K (.ref f72) = true)
    (a73_Eight : PySem.W.findIn K (.ref C_Eight) "left_of" = some (some (.ref f73)))
    (i73 : PySem.W.isFn K (.ref f73) = true)
    (l73 : K.lookup f73 = some ⟨oc73, od73, .func (PySem.W.fnOf "left_of" "Eight.left_of" (defArgs s_Eight_left_of) (defBody s_Eight_left_of) (defScope s_Eight_left_of) .none kV73 dc73 pm73 an73 cd73 ct73), sl73⟩)
    (c73 : PySem.W.codeIn K cd73 "Eight.left_of" = true)
    (k73 : PySem.W.keepIn K (.ref f73) = true)
    (n_Purse_left : PySem.W.findIn K (.ref C_Purse) "left" = some none)
    (n_Fixed_top : PySem.W.findIn K (.ref C_Fixed) "top" = some none)
    (n_Fixed_below : PySem.W.findIn K (.ref C_Fixed) "below" = some none)
    (n_Fixed_begun : PySem.W.findIn K (.ref C_Fixed) "begun" = some none)
    (n_Fraction_many : PySem.W.findIn K (.ref C_Fraction) "many" = some none)
    (n_Fraction_top : PySem.W.findIn K (.ref C_Fraction) "top" = some none)
    (n_Fraction_below : PySem.W.findIn K (.ref C_Fraction) "below" = some none)
    (n_Root_many : PySem.W.findIn K (.ref C_Root) "many" = some none)
    (n_Root_top : PySem.W.findIn K (.ref C_Root) "top" = some none)
    (n_Root_square : PySem.W.findIn K (.ref C_Root) "square" = some none)
    (n_Root_below : PySem.W.findIn K (.ref C_Root) "below" = some none)
    (n_Root_floor : PySem.W.findIn K (.ref C_Root) "floor" = some none)
    (n_Ruled_many : PySem.W.findIn K (.ref C_Ruled) "many" = some none)
    (n_Ruled_first : PySem.W.findIn K (.ref C_Ruled) "first" = some none)
    (n_Ruled_ring : PySem.W.findIn K (.ref C_Ruled) "ring" = some none)
    (n_Ruled_steps : PySem.W.findIn K (.ref C_Ruled) "steps" = some none)
    (n_Four_numbers : PySem.W.findIn K (.ref C_Four) "numbers" = some none)
    (n_Four_inner : PySem.W.findIn K (.ref C_Four) "inner" = some none)
    (n_Four_ready : PySem.W.findIn K (.ref C_Four) "ready" = some none)
    (n_Four_begun : PySem.W.findIn K (.ref C_Four) "begun" = some none)
    (n_Four_fixed : PySem.W.findIn K (.ref C_Four) "fixed" = some none)
    (n_Eight_numbers : PySem.W.findIn K (.ref C_Eight) "numbers" = some none)
    (n_Eight_inners : PySem.W.findIn K (.ref C_Eight) "inners" = some none)
    (n_Eight_many : PySem.W.findIn K (.ref C_Eight) "many" = some none)
    (n_Eight_begun : PySem.W.findIn K (.ref C_Eight) "begun" = some none)
    (n_Eight_rest : PySem.W.findIn K (.ref C_Eight) "rest" = some none)
    (xf_BadTree : PySem.W.excIn K C_BadTree [.type "ValueError", .type "Exception", .type "BaseException", .type "object"] "ValueError.__new__" = true)
    (kp_BadTree : PySem.W.keepIn K (.ref C_BadTree) = true)
    (sb_BadTree : PySem.W.subIn K (.ref C_BadTree) (.type "BaseException") = some true)
    (ty_BadTree : PySem.W.typeIn K (.ref C_BadTree) = some (.type "type"))
    (xf_NoValue : PySem.W.excIn K C_NoValue [.type "ValueError", .type "Exception", .type "BaseException", .type "object"] "ValueError.__new__" = true)
    (kp_NoValue : PySem.W.keepIn K (.ref C_NoValue) = true)
    (sb_NoValue : PySem.W.subIn K (.ref C_NoValue) (.type "BaseException") = some true)
    (ty_NoValue : PySem.W.typeIn K (.ref C_NoValue) = some (.type "type"))
    (hd_NoValue : PySem.W.hasDictIn K C_NoValue = true)
    (su_BadTree_NoValue : PySem.W.subIn K (.ref C_BadTree) (.ref C_NoValue) = some false)
    (su_NoValue_NoValue : PySem.W.subIn K (.ref C_NoValue) (.ref C_NoValue) = some true)
    (g_DEEPEST : PySem.W.nsIn K mainGlobals "DEEPEST" = some (some (.int 5 t_DEEPEST)))
    (g_MOST_NUMBER : PySem.W.nsIn K mainGlobals "MOST_NUMBER" = some (some (.int 1000000000000 t_MOST_NUMBER)))
    (g_MOST_PARTS : PySem.W.nsIn K mainGlobals "MOST_PARTS" = some (some (.int 12 t_MOST_PARTS)))
    (g_MOST_POWER : PySem.W.nsIn K mainGlobals "MOST_POWER" = some (some (.int 4 t_MOST_POWER)))
    (g_TIMES : PySem.W.nsIn K mainGlobals "TIMES" = some (some (.ref A_TIMES)))
    (l_TIMES : K.lookup A_TIMES = some ⟨.type "tuple", oT_TIMES, .seq #[.int 1 t0_TIMES, .int 0 t1_TIMES, .int 0 t2_TIMES, .int 0 t3_TIMES, .int 0 t4_TIMES, .int 0 t5_TIMES, .int 0 t6_TIMES, .int 1 t7_TIMES] nT_TIMES, sT_TIMES⟩)
    (z_divmod : PySem.W.nsIn K mainGlobals "divmod" = some none)
    (z_abs : PySem.W.nsIn K mainGlobals "abs" = some none)
    (z_bool : PySem.W.nsIn K mainGlobals "bool" = some none)
    (z_int : PySem.W.nsIn K mainGlobals "int" = some none)
    (z_isinstance : PySem.W.nsIn K mainGlobals "isinstance" = some none)
    (z_len : PySem.W.nsIn K mainGlobals "len" = some none)
    (z_list : PySem.W.nsIn K mainGlobals "list" = some none)
    (z_max : PySem.W.nsIn K mainGlobals "max" = some none)
    (z_min : PySem.W.nsIn K mainGlobals "min" = some none)
    (z_range : PySem.W.nsIn K mainGlobals "range" = some none)
    (z_reversed : PySem.W.nsIn K mainGlobals "reversed" = some none)
    (z_str : PySem.W.nsIn K mainGlobals "str" = some none)
    (z_sum : PySem.W.nsIn K mainGlobals "sum" = some none)
    (z_tuple : PySem.W.nsIn K mainGlobals "tuple" = some none)
    (z_zip : PySem.W.nsIn K mainGlobals "zip" = some none)
    : ∃ fd : FuncData, (∀ (s : Shared) (v : Value), BindsTo s fd ⟨[v], []⟩ [("_law_script", v)]) ∧ ∀ base : Heap, K.In base → base.Ns mainGlobals mg → Seer l.prog base → FnOk l.prog w K mg base (L2.CX l.prog w) 83 fa fd ["_law_script"] (spA K (caOf K) F_law) := by
  have e := hfa.symm.trans (PySem.W.mg_of X G a46)
  cases e
  have T : Txt K mg { c_Purse := C_Purse, c_Fixed := C_Fixed, c_Fraction := C_Fraction, c_Root := C_Root, c_Ruled := C_Ruled, c_Four := C_Four, c_Eight := C_Eight, c_BadTree := C_BadTree, c_NoValue := C_NoValue, a_TIMES := A_TIMES } := ⟨dfn X G a0 l0 c0 k0 (fun _ _ _ _ _ _ us hl => match us, hl with | [_], _ => rfl),
    dfn X G a1 l1 c1 k1 (fun _ _ _ _ _ _ us hl => match us, hl with | [_, _, _], _ => rfl),
    dfn X G a2 l2 c2 k2 (fun _ _ _ _ _ _ us hl => match us, hl with | [_], _ => rfl),
    dfn X G a3 l3 c3 k3 (fun _ _ _ _ _ _ us hl => match us, hl with | [_], _ => rfl),
    dfn X G a4 l4 c4 k4 (fun _ _ _ _ _ _ us hl => match us, hl with | [_], _ => rfl),
    dfn X G a5 l5 c5 k5 (fun _ _ _ _ _ _ us hl => match us, hl with | [_, _, _], _ => rfl),
    dfn X G a6 l6 c6 k6 (fun _ _ _ _ _ _ us hl => match us, hl with | [_], _ => rfl),
    dfn X G a7 l7 c7 k7 (fun _ _ _ _ _ _ us hl => match us, hl with | [_, _], _ => rfl),
    dfn X G a8 l8 c8 k8 (fun _ _ _ _ _ _ us hl => match us, hl with | [_], _ => rfl),
    dfn X G a9 l9 c9 k9 (fun _ _ _ _ _ _ us hl => match us, hl with | [_], _ => rfl),
    dfn X G a10 l10 c10 k10 (fun _ _ _ _ _ _ us hl => match us, hl with | [_, _, _], _ => rfl),
    dfn X G a11 l11 c11 k11 (fun _ _ _ _ _ _ us hl => match us, hl with | [_, _, _], _ => rfl),
    dfn X G a12 l12 c12 k12 (fun _ _ _ _ _ _ us hl => match us, hl with | [_, _, _], _ => rfl),
    dfn X G a13 l13 c13 k13 (fun _ _ _ _ _ _ us hl => match us, hl with | [_, _, _], _ => rfl),
    dfn X G a14 l14 c14 k14 (fun _ _ _ _ _ _ us hl => match us, hl with | [_, _, _], _ => rfl),
    dfn X G a15 l15 c15 k15 (fun _ _ _ _ _ _ us hl => match us, hl with | [_, _], _ => rfl),
    dfn X G a16 l16 c16 k16 (fun _ _ _ _ _ _ us hl => match us, hl with | [_, _, _], _ => rfl),
    dfn X G a17 l17 c17 k17 (fun _ _ _ _ _ _ us hl => match us, hl with | [_], _ => rfl),
    dfn X G a18 l18 c18 k18 (fun _ _ _ _ _ _ us hl => match us, hl with | [_, _], _ => rfl),
    dfn X G a19 l19 c19 k19 (fun _ _ _ _ _ _ us hl => match us, hl with | [_, _], _ => rfl),
    dfn X G a20 l20 c20 k20 (fun _ _ _ _ _ _ us hl => match us, hl with | [_], _ => rfl),
    dfn X G a21 l21 c21 k21 (fun _ _ _ _ _ _ us hl => match us, hl with | [_, _], _ => rfl),
    dfn X G a22 l22 c22 k22 (fun _ _ _ _ _ _ us hl => match us, hl with | [_, _, _], _ => rfl),
    dfn X G a23 l23 c23 k23 (fun _ _ _ _ _ _ us hl => match us, hl with | [_, _, _], _ => rfl),
    dfn X G a24 l24 c24 k24 (fun _ _ _ _ _ _ us hl => match us, hl with | [_, _, _], _ => rfl),
    dfn X G a25 l25 c25 k25 (fun _ _ _ _ _ _ us hl => match us, hl with | [_, _, _], _ => rfl),
    dfn X G a26 l26 c26 k26 (fun _ _ _ _ _ _ us hl => match us, hl with | [_, _], _ => rfl),
    dfn X G a27 l27 c27 k27 (fun _ _ _ _ _ _ us hl => match us, hl with | [_], _ => rfl),
    dfn X G a28 l28 c28 k28 (fun _ _ _ _ _ _ us hl => match us, hl with | [_], _ => rfl),
    dfn X G a29 l29 c29 k29 (fun _ _ _ _ _ _ us hl => match us, hl with | [_], _ => rfl),
    dfn X G a30 l30 c30 k30 (fun _ _ _ _ _ _ us hl => match us, hl with | [_, _, _], _ => rfl),
    dfn X G a31 l31 c31 k31 (fun _ _ _ _ _ _ us hl => match us, hl with | [_, _], _ => rfl),
    dfn X G a32 l32 c32 k32 (fun _ _ _ _ _ _ us hl => match us, hl with | [_], _ => rfl),
    dfn X G a33 l33 c33 k33 (fun _ _ _ _ _ _ us hl => match us, hl with | [_], _ => rfl),
    dfn X G a34 l34 c34 k34 (fun _ _ _ _ _ _ us hl => match us, hl with | [_, _], _ => rfl),
    dfn X G a35 l35 c35 k35 (fun _ _ _ _ _ _ us hl => match us, hl with | [_], _ => rfl),
    dfn X G a36 l36 c36 k36 (fun _ _ _ _ _ _ us hl => match us, hl with | [_, _], _ => rfl),
    dfn X G a37 l37 c37 k37 (fun _ _ _ _ _ _ us hl => match us, hl with | [_], _ => rfl),
    dfn X G a38 l38 c38 k38 (fun _ _ _ _ _ _ us hl => match us, hl with | [_], _ => rfl),
    dfn X G a39 l39 c39 k39 (fun _ _ _ _ _ _ us hl => match us, hl with | [_, _], _ => rfl),
    dfn X G a40 l40 c40 k40 (fun _ _ _ _ _ _ us hl => match us, hl with | [_, _], _ => rfl),
    dfn X G a41 l41 c41 k41 (fun _ _ _ _ _ _ us hl => match us, hl with | [_, _, _], _ => rfl),
    dfn X G a42 l42 c42 k42 (fun _ _ _ _ _ _ us hl => match us, hl with | [_, _], _ => rfl),
    dfn X G a43 l43 c43 k43 (fun _ _ _ _ _ _ us hl => match us, hl with | [_, _, _], _ => rfl),
    dfn X G a44 l44 c44 k44 (fun _ _ _ _ _ _ us hl => match us, hl with | [_, _, _], _ => rfl),
    dfn X G a45 l45 c45 k45 (fun _ _ _ _ _ _ us hl => match us, hl with | [_, _, _, _, _], _ => rfl),
    dfn X G a46 l46 c46 k46 (fun _ _ _ _ _ _ us hl => match us, hl with | [_], _ => rfl),
    ⟨⟨f47, _, fun_mk (st := s_Purse___init__) l47 c47 k47, (fun_mk (st := s_Purse___init__) l47 c47 k47).binds (ps := ["self", "left"]) (fun _ _ _ _ _ _ us hl => match us, hl with | [_, _], _ => rfl), ⟨mk_Purse, a47_Purse, i47, kc_Purse⟩, ⟨pg_Purse, hd_Purse, po_Purse, sa_Purse⟩, PySem.W.mg_of X G g_Purse⟩⟩,
    ⟨⟨f48, _, fun_mk (st := s_Reader_part) l48 c48 k48, (fun_mk (st := s_Reader_part) l48 c48 k48).binds (ps := ["self", "most"]) (fun _ _ _ _ _ _ us hl => match us, hl with | [_, _], _ => rfl), (fun D hD => by simp only [List.mem_cons, List.not_mem_nil, or_false] at hD; rcases hD with rfl | rfl | rfl | rfl | rfl | rfl <;> first | exact ⟨a48_Fixed, i48, k48⟩ | exact ⟨a48_Fraction, i48, k48⟩ | exact ⟨a48_Root, i48, k48⟩ | exact ⟨a48_Ruled, i48, k48⟩ | exact ⟨a48_Four, i48, k48⟩ | exact ⟨a48_Eight, i48, k48⟩)⟩⟩,
    ⟨⟨f49, _, fun_mk (st := s_Reader_took) l49 c49 k49, (fun_mk (st := s_Reader_took) l49 c49 k49).binds (ps := ["self"]) (fun _ _ _ _ _ _ us hl => match us, hl with | [_], _ => rfl), (fun D hD => by simp only [List.mem_cons, List.not_mem_nil, or_false] at hD; rcases hD with rfl <;> first | exact ⟨a49_Fixed, i49, k49⟩)⟩⟩,
    ⟨⟨f50, _, fun_mk (st := s_Fixed___init__) l50 c50 k50, (fun_mk (st := s_Fixed___init__) l50 c50 k50).binds (ps := ["self", "top", "below", "begun"]) (fun _ _ _ _ _ _ us hl => match us, hl with | [_, _, _, _], _ => rfl), ⟨mk_Fixed, a50_Fixed, i50, kc_Fixed⟩, ⟨pg_Fixed, hd_Fixed, po_Fixed, sa_Fixed⟩, PySem.W.mg_of X G g_Fixed⟩⟩,
    ⟨⟨f51, _, fun_mk (st := s_Fixed_told) l51 c51 k51, (fun_mk (st := s_Fixed_told) l51 c51 k51).binds (ps := ["self", "purse"]) (fun _ _ _ _ _ _ us hl => match us, hl with | [_, _], _ => rfl), (fun D hD => by simp only [List.mem_cons, List.not_mem_nil, or_false] at hD; rcases hD with rfl <;> first | exact ⟨a51_Fixed, i51, k51⟩)⟩⟩,
    ⟨⟨C_Leaf, .type "type", f52, _, fun_mk (st := s_Leaf___init__) l52 c52 k52, (fun_mk (st := s_Leaf___init__) l52 c52 k52).binds (ps := ["self"]) (fun _ _ _ _ _ _ us hl => match us, hl with | [_], _ => rfl), ⟨⟨r52, ga52⟩, fc52, k52⟩, PySem.W.mg_of X G g_Leaf⟩⟩,
    ⟨⟨f53, _, fun_mk (st := s_Leaf_told) l53 c53 k53, (fun_mk (st := s_Leaf_told) l53 c53 k53).binds (ps := ["self", "purse"]) (fun _ _ _ _ _ _ us hl => match us, hl with | [_, _], _ => rfl), (fun D hD => by simp only [List.mem_cons, List.not_mem_nil, or_false] at hD; rcases hD with rfl | rfl | rfl <;> first | exact ⟨a53_Fraction, i53, k53⟩ | exact ⟨a53_Root, i53, k53⟩ | exact ⟨a53_Ruled, i53, k53⟩)⟩⟩,
    ⟨⟨f54, _, fun_mk (st := s_Leaf_at_end) l54 c54 k54, (fun_mk (st := s_Leaf_at_end) l54 c54 k54).binds (ps := ["self"]) (fun _ _ _ _ _ _ us hl => match us, hl with | [_], _ => rfl), (fun D hD => by simp only [List.mem_cons, List.not_mem_nil, or_false] at hD; rcases hD with rfl <;> first | exact ⟨a54_Root, i54, k54⟩)⟩⟩,
    ⟨⟨f55, _, fun_mk (st := s_Leaf_took) l55 c55 k55, (fun_mk (st := s_Leaf_took) l55 c55 k55).binds (ps := ["self"]) (fun _ _ _ _ _ _ us hl => match us, hl with | [_], _ => rfl), (fun D hD => by simp only [List.mem_cons, List.not_mem_nil, or_false] at hD; rcases hD with rfl | rfl | rfl <;> first | exact ⟨a55_Fraction, i55, k55⟩ | exact ⟨a55_Root, i55, k55⟩ | exact ⟨a55_Ruled, i55, k55⟩)⟩⟩,
    ⟨⟨f56, _, fun_mk (st := s_Fraction___init__) l56 c56 k56, (fun_mk (st := s_Fraction___init__) l56 c56 k56).binds (ps := ["self", "top", "below"]) (fun _ _ _ _ _ _ us hl => match us, hl with | [_, _, _], _ => rfl), ⟨mk_Fraction, a56_Fraction, i56, kc_Fraction⟩, ⟨pg_Fraction, hd_Fraction, po_Fraction, sa_Fraction⟩, PySem.W.mg_of X G g_Fraction⟩⟩,
    ⟨⟨f57, _, fun_mk (st := s_Fraction_at_end) l57 c57 k57, (fun_mk (st := s_Fraction_at_end) l57 c57 k57).binds (ps := ["self"]) (fun _ _ _ _ _ _ us hl => match us, hl with | [_], _ => rfl), (fun D hD => by simp only [List.mem_cons, List.not_mem_nil, or_false] at hD; rcases hD with rfl <;> first | exact ⟨a57_Fraction, i57, k57⟩)⟩⟩,
    ⟨⟨f58, _, fun_mk (st := s_Fraction_following) l58 c58 k58, (fun_mk (st := s_Fraction_following) l58 c58 k58).binds (ps := ["self"]) (fun _ _ _ _ _ _ us hl => match us, hl with | [_], _ => rfl), (fun D hD => by simp only [List.mem_cons, List.not_mem_nil, or_false] at hD; rcases hD with rfl <;> first | exact ⟨a58_Fraction, i58, k58⟩)⟩⟩,
    ⟨⟨f59, _, fun_mk (st := s_Root___init__) l59 c59 k59, (fun_mk (st := s_Root___init__) l59 c59 k59).binds (ps := ["self", "top", "square", "below"]) (fun _ _ _ _ _ _ us hl => match us, hl with | [_, _, _, _], _ => rfl), ⟨mk_Root, a59_Root, i59, kc_Root⟩, ⟨pg_Root, hd_Root, po_Root, sa_Root⟩, PySem.W.mg_of X G g_Root⟩⟩,
    ⟨⟨f60, _, fun_mk (st := s_Root_following) l60 c60 k60, (fun_mk (st := s_Root_following) l60 c60 k60).binds (ps := ["self"]) (fun _ _ _ _ _ _ us hl => match us, hl with | [_], _ => rfl), (fun D hD => by simp only [List.mem_cons, List.not_mem_nil, or_false] at hD; rcases hD with rfl <;> first | exact ⟨a60_Root, i60, k60⟩)⟩⟩,
    ⟨⟨f61, _, fun_mk (st := s_Ruled___init__) l61 c61 k61, (fun_mk (st := s_Ruled___init__) l61 c61 k61).binds (ps := ["self", "parts", "ring", "steps"]) (fun _ _ _ _ _ _ us hl => match us, hl with | [_, _, _, _], _ => rfl), ⟨mk_Ruled, a61_Ruled, i61, kc_Ruled⟩, ⟨pg_Ruled, hd_Ruled, po_Ruled, sa_Ruled⟩, PySem.W.mg_of X G g_Ruled⟩⟩,
    ⟨⟨f62, _, fun_mk (st := s_Ruled_at_end) l62 c62 k62, (fun_mk (st := s_Ruled_at_end) l62 c62 k62).binds (ps := ["self"]) (fun _ _ _ _ _ _ us hl => match us, hl with | [_], _ => rfl), (fun D hD => by simp only [List.mem_cons, List.not_mem_nil, or_false] at hD; rcases hD with rfl <;> first | exact ⟨a62_Ruled, i62, k62⟩)⟩⟩,
    ⟨⟨f63, _, fun_mk (st := s_Ruled_following) l63 c63 k63, (fun_mk (st := s_Ruled_following) l63 c63 k63).binds (ps := ["self"]) (fun _ _ _ _ _ _ us hl => match us, hl with | [_], _ => rfl), (fun D hD => by simp only [List.mem_cons, List.not_mem_nil, or_false] at hD; rcases hD with rfl <;> first | exact ⟨a63_Ruled, i63, k63⟩)⟩⟩,
    ⟨⟨f64, _, fun_mk (st := s_Four___init__) l64 c64 k64, (fun_mk (st := s_Four___init__) l64 c64 k64).binds (ps := ["self", "numbers", "inner", "ready", "begun"]) (fun _ _ _ _ _ _ us hl => match us, hl with | [_, _, _, _, _], _ => rfl), ⟨mk_Four, a64_Four, i64, kc_Four⟩, ⟨pg_Four, hd_Four, po_Four, sa_Four⟩, PySem.W.mg_of X G g_Four⟩⟩,
    ⟨⟨f65, _, fun_mk (st := s_Four_took) l65 c65 k65, (fun_mk (st := s_Four_took) l65 c65 k65).binds (ps := ["self"]) (fun _ _ _ _ _ _ us hl => match us, hl with | [_], _ => rfl), (fun D hD => by simp only [List.mem_cons, List.not_mem_nil, or_false] at hD; rcases hD with rfl <;> first | exact ⟨a65_Four, i65, k65⟩)⟩⟩,
    ⟨⟨f66, _, fun_mk (st := s_Four_sure) l66 c66 k66, (fun_mk (st := s_Four_sure) l66 c66 k66).binds (ps := ["self"]) (fun _ _ _ _ _ _ us hl => match us, hl with | [_], _ => rfl), (fun D hD => by simp only [List.mem_cons, List.not_mem_nil, or_false] at hD; rcases hD with rfl <;> first | exact ⟨a66_Four, i66, k66⟩)⟩⟩,
    ⟨⟨f67, _, fun_mk (st := s_Four_told) l67 c67 k67, (fun_mk (st := s_Four_told) l67 c67 k67).binds (ps := ["self", "purse"]) (fun _ _ _ _ _ _ us hl => match us, hl with | [_, _], _ => rfl), (fun D hD => by simp only [List.mem_cons, List.not_mem_nil, or_false] at hD; rcases hD with rfl <;> first | exact ⟨a67_Four, i67, k67⟩)⟩⟩,
    ⟨⟨f68, _, fun_mk (st := s_Eight___init__) l68 c68 k68, (fun_mk (st := s_Eight___init__) l68 c68 k68).binds (ps := ["self", "numbers", "one", "other"]) (fun _ _ _ _ _ _ us hl => match us, hl with | [_, _, _, _], _ => rfl), ⟨mk_Eight, a68_Eight, i68, kc_Eight⟩, ⟨pg_Eight, hd_Eight, po_Eight, sa_Eight⟩, PySem.W.mg_of X G g_Eight⟩⟩,
    ⟨⟨f69, _, fun_mk (st := s_Eight_took) l69 c69 k69, (fun_mk (st := s_Eight_took) l69 c69 k69).binds (ps := ["self"]) (fun _ _ _ _ _ _ us hl => match us, hl with | [_], _ => rfl), (fun D hD => by simp only [List.mem_cons, List.not_mem_nil, or_false] at hD; rcases hD with rfl <;> first | exact ⟨a69_Eight, i69, k69⟩)⟩⟩,
    ⟨⟨f70, _, fun_mk (st := s_Eight_sure) l70 c70 k70, (fun_mk (st := s_Eight_sure) l70 c70 k70).binds (ps := ["self"]) (fun _ _ _ _ _ _ us hl => match us, hl with | [_], _ => rfl), (fun D hD => by simp only [List.mem_cons, List.not_mem_nil, or_false] at hD; rcases hD with rfl <;> first | exact ⟨a70_Eight, i70, k70⟩)⟩⟩,
    ⟨⟨f71, _, fun_mk (st := s_Eight_told) l71 c71 k71, (fun_mk (st := s_Eight_told) l71 c71 k71).binds (ps := ["self", "purse"]) (fun _ _ _ _ _ _ us hl => match us, hl with | [_, _], _ => rfl), (fun D hD => by simp only [List.mem_cons, List.not_mem_nil, or_false] at hD; rcases hD with rfl <;> first | exact ⟨a71_Eight, i71, k71⟩)⟩⟩,
    ⟨⟨f72, _, fun_mk (st := s_Eight_take) l72 c72 k72, (fun_mk (st := s_Eight_take) l72 c72 k72).binds (ps := ["self", "which", "part"]) (fun _ _ _ _ _ _ us hl => match us, hl with | [_, _, _], _ => rfl), (fun D hD => by simp only [List.mem_cons, List.not_mem_nil, or_false] at hD; rcases hD with rfl <;> first | exact ⟨a72_Eight, i72, k72⟩)⟩⟩,
    ⟨⟨f73, _, fun_mk (st := s_Eight_left_of) l73 c73 k73, (fun_mk (st := s_Eight_left_of) l73 c73 k73).binds (ps := ["self", "which"]) (fun _ _ _ _ _ _ us hl => match us, hl with | [_, _], _ => rfl), (fun D hD => by simp only [List.mem_cons, List.not_mem_nil, or_false] at hD; rcases hD with rfl <;> first | exact ⟨a73_Eight, i73, k73⟩)⟩⟩,
    n_Purse_left,
    n_Fixed_top,
    n_Fixed_below,
    n_Fixed_begun,
    n_Fraction_many,
    n_Fraction_top,
    n_Fraction_below,
    n_Root_many,
    n_Root_top,
    n_Root_square,
    n_Root_below,
    n_Root_floor,
    n_Ruled_many,
    n_Ruled_first,
    n_Ruled_ring,
    n_Ruled_steps,
    n_Four_numbers,
    n_Four_inner,
    n_Four_ready,
    n_Four_begun,
    n_Four_fixed,
    n_Eight_numbers,
    n_Eight_inners,
    n_Eight_many,
    n_Eight_begun,
    n_Eight_rest,
    ⟨xf_BadTree, PySem.W.mg_of X G g_BadTree, kp_BadTree, sb_BadTree, ty_BadTree⟩,
    ⟨xf_NoValue, PySem.W.mg_of X G g_NoValue, kp_NoValue, sb_NoValue, ty_NoValue⟩,
    PySem.W.mg_of X G g_NoValue,
    PySem.W.exm_ref sb_NoValue hd_NoValue ty_NoValue su_BadTree_NoValue,
    PySem.W.exm_ref sb_NoValue hd_NoValue ty_NoValue su_NoValue_NoValue,
    ⟨_, PySem.W.mg_of X G g_DEEPEST⟩,
    ⟨_, PySem.W.mg_of X G g_MOST_NUMBER⟩,
    ⟨_, PySem.W.mg_of X G g_MOST_PARTS⟩,
    ⟨_, PySem.W.mg_of X G g_MOST_POWER⟩,
    ⟨PySem.W.mg_of X G g_TIMES, fun H => .inr ⟨_, _, _, l_TIMES, rfl, rfl, (by rw [sizeLine_eq]; show 8 ≤ _; decide), .cons ⟨_, rfl⟩ (.cons ⟨_, rfl⟩ (.cons ⟨_, rfl⟩ (.cons ⟨_, rfl⟩ (.cons ⟨_, rfl⟩ (.cons ⟨_, rfl⟩ (.cons ⟨_, rfl⟩ (.cons ⟨_, rfl⟩ (.nil))))))))⟩⟩,
    PySem.W.mg_none_of X G z_divmod,
    PySem.W.mg_none_of X G z_abs,
    PySem.W.mg_none_of X G z_bool,
    PySem.W.mg_none_of X G z_int,
    PySem.W.mg_none_of X G z_isinstance,
    PySem.W.mg_none_of X G z_len,
    PySem.W.mg_none_of X G z_list,
    PySem.W.mg_none_of X G z_max,
    PySem.W.mg_none_of X G z_min,
    PySem.W.mg_none_of X G z_range,
    PySem.W.mg_none_of X G z_reversed,
    PySem.W.mg_none_of X G z_str,
    PySem.W.mg_none_of X G z_sum,
    PySem.W.mg_none_of X G z_tuple,
    PySem.W.mg_none_of X G z_zip⟩
  exact ⟨PySem.W.fnOf "law" "law" (defArgs s_law) (defBody s_law) (defScope s_law) .none kV46 dc46 pm46 an46 cd46 ct46, fun s v => .of_eq rfl, fun base _ _ hS => have := hS; law_ok T (fun_mk (st := s_law) l46 c46 k46)⟩
end PL
open PySem PySem.W PyProof.Rows
set_option maxRecDepth 100000 in
set_option maxHeartbeats 0 in
theorem PySem.Challenge.cw_chainparts_k27_whole_any_trees_told_of_holds : PySem.Challenge.rw_chainparts_k27_whole_any_trees_told_of.Holds := by
  refine PLH.hdTop ?_
  k_fill
  refine PL.pl_walkS (l := PySem.Challenge.rw_chainparts_k27_whole_any_trees_told_of) (k := 83) PL.caOf rfl (by kernel_rfl) ⟨rfl, by decide, by decide⟩ ?hq ?ht (fun w h Y => PySem.W.kIn_of Y) ?F
  case hq => first | rfl | decide +kernel
  case ht => rfl
  case F =>
    intro w mg fa h KX G hmg0
    have hmg : mg ("law" : PySem.Str) = some (.ref fa) := by
      have e : (HandSHeadRun.topDef (PySem.W.OpenLaw.row PySem.Challenge.rw_chainparts_k27_whole_any_trees_told_of).prog 74).name = ("law" : PySem.Str) := by kernel_rfl
      rw [← e]
      exact hmg0
    refine' PL.all_mk KX G hmg ?g_Purse ?g_Fixed ?g_Leaf ?g_Fraction ?g_Root ?g_Ruled ?g_Four ?g_Eight ?g_BadTree ?g_NoValue ?a0 ?l0 ?c0 ?k0 ?a1 ?l1 ?c1 ?k1 ?a2 ?l2 ?c2 ?k2 ?a3 ?l3 ?c3 ?k3 ?a4 ?l4 ?c4 ?k4 ?a5 ?l5 ?c5 ?k5 ?a6 ?l6 ?c6 ?k6 ?a7 ?l7 ?c7 ?k7 ?a8 ?l8 ?c8 ?k8 ?a9 ?l9 ?c9 ?k9 ?a10 ?l10 ?c10 ?k10 ?a11 ?l11 ?c11 ?k11 ?a12 ?l12 ?c12 ?k12 ?a13 ?l13 ?c13 ?k13 ?a14 ?l14 ?c14 ?k14 ?a15 ?l15 ?c15 ?k15 ?a16 ?l16 ?c16 ?k16 ?a17 ?l17 ?c17 ?k17 ?a18 ?l18 ?c18 ?k18 ?a19 ?l19 ?c19 ?k19 ?a20 ?l20 ?c20 ?k20 ?a21 ?l21 ?c21 ?k21 ?a22 ?l22 ?c22 ?k22 ?a23 ?l23 ?c23 ?k23 ?a24 ?l24 ?c24 ?k24 ?a25 ?l25 ?c25 ?k25 ?a26 ?l26 ?c26 ?k26 ?a27 ?l27 ?c27 ?k27 ?a28 ?l28 ?c28 ?k28 ?a29 ?l29 ?c29 ?k29 ?a30 ?l30 ?c30 ?k30 ?a31 ?l31 ?c31 ?k31 ?a32 ?l32 ?c32 ?k32 ?a33 ?l33 ?c33 ?k33 ?a34 ?l34 ?c34 ?k34 ?a35 ?l35 ?c35 ?k35 ?a36 ?l36 ?c36 ?k36 ?a37 ?l37 ?c37 ?k37 ?a38 ?l38 ?c38 ?k38 ?a39 ?l39 ?c39 ?k39 ?a40 ?l40 ?c40 ?k40 ?a41 ?l41 ?c41 ?k41 ?a42 ?l42 ?c42 ?k42 ?a43 ?l43 ?c43 ?k43 ?a44 ?l44 ?c44 ?k44 ?a45 ?l45 ?c45 ?k45 ?a46 ?l46 ?c46 ?k46 ?pg_Purse ?hd_Purse ?po_Purse ?sa_Purse ?mk_Purse ?kc_Purse ?pg_Fixed ?hd_Fixed ?po_Fixed ?sa_Fixed ?mk_Fixed ?kc_Fixed ?pg_Fraction ?hd_Fraction ?po_Fraction ?sa_Fraction ?mk_Fraction ?kc_Fraction ?pg_Root ?hd_Root ?po_Root ?sa_Root ?mk_Root ?kc_Root ?pg_Ruled ?hd_Ruled ?po_Ruled ?sa_Ruled ?mk_Ruled ?kc_Ruled ?pg_Four ?hd_Four ?po_Four ?sa_Four ?mk_Four ?kc_Four ?pg_Eight ?hd_Eight ?po_Eight ?sa_Eight ?mk_Eight ?kc_Eight ?a47_Purse ?i47 ?l47 ?c47 ?k47 ?a48_Fixed ?a48_Fraction ?a48_Root ?a48_Ruled ?a48_Four ?a48_Eight ?i48 ?l48 ?c48 ?k48 ?a49_Fixed ?i49 ?l49 ?c49 ?k49 ?a50_Fixed ?i50 ?l50 ?c50 ?k50 ?a51_Fixed ?i51 ?l51 ?c51 ?k51 ?r52 ?ga52 ?fc52 ?i52 ?l52 ?c52 ?k52 ?a53_Fraction ?a53_Root ?a53_Ruled ?i53 ?l53 ?c53 ?k53 ?a54_Root ?i54 ?l54 ?c54 ?k54 ?a55_Fraction ?a55_Root ?a55_Ruled ?i55 ?l55 ?c55 ?k55 ?a56_Fraction ?i56 ?l56 ?c56 ?k56 ?a57_Fraction ?i57 ?l57 ?c57 ?k57 ?a58_Fraction ?i58 ?l58 ?c58 ?k58 ?a59_Root ?i59 ?l59 ?c59 ?k59 ?a60_Root ?i60 ?l60 ?c60 ?k60 ?a61_Ruled ?i61 ?l61 ?c61 ?k61 ?a62_Ruled ?i62 ?l62 ?c62 ?k62 ?a63_Ruled ?i63 ?l63 ?c63 ?k63 ?a64_Four ?i64 ?l64 ?c64 ?k64 ?a65_Four ?i65 ?l65 ?c65 ?k65 ?a66_Four ?i66 ?l66 ?c66 ?k66 ?a67_Four ?i67 ?l67 ?c67 ?k67 ?a68_Eight ?i68 ?l68 ?c68 ?k68 ?a69_Eight ?i69 ?l69 ?c69 ?k69 ?a70_Eight ?i70 ?l70 ?c70 ?k70 ?a71_Eight ?i71 ?l71 ?c71 ?k71 ?a72_Eight ?i72 ?l72 ?c72 ?k72 ?a73_Eight ?i73 ?l73 ?c73 ?k73 ?n_Purse_left ?n_Fixed_top ?n_Fixed_below ?n_Fixed_begun ?n_Fraction_many ?n_Fraction_top ?n_Fraction_below ?n_Root_many ?n_Root_top ?n_Root_square ?n_Root_below ?n_Root_floor ?n_Ruled_many ?n_Ruled_first ?n_Ruled_ring ?n_Ruled_steps ?n_Four_numbers ?n_Four_inner ?n_Four_ready ?n_Four_begun ?n_Four_fixed ?n_Eight_numbers ?n_Eight_inners ?n_Eight_many ?n_Eight_begun ?n_Eight_rest ?xf_BadTree ?kp_BadTree ?sb_BadTree ?ty_BadTree ?xf_NoValue ?kp_NoValue ?sb_NoValue ?ty_NoValue ?hd_NoValue ?su_BadTree_NoValue ?su_NoValue_NoValue ?g_DEEPEST ?g_MOST_NUMBER ?g_MOST_PARTS ?g_MOST_POWER ?g_TIMES ?l_TIMES ?z_divmod ?z_abs ?z_bool ?z_int ?z_isinstance ?z_len ?z_list ?z_max ?z_min ?z_range ?z_reversed ?z_str ?z_sum ?z_tuple ?z_zip
    (case g_Purse => k_is)
    (case g_Fixed => k_is)
    (case g_Leaf => k_is)
    (case g_Fraction => k_is)
    (case g_Root => k_is)
    (case g_Ruled => k_is)
    (case g_Four => k_is)
    (case g_Eight => k_is)
    (case g_BadTree => k_is)
    (case g_NoValue => k_is)
    (case a0 => k_is)
    (case l0 => k_is)
    (case c0 => k_is)
    (case k0 => k_is)
    (case a1 => k_is)
    (case l1 => k_is)
    (case c1 => k_is)
    (case k1 => k_is)
    (case a2 => k_is)
    (case l2 => k_is)
    (case c2 => k_is)
    (case k2 => k_is)
    (case a3 => k_is)
    (case l3 => k_is)
    (case c3 => k_is)
    (case k3 => k_is)
    (case a4 => k_is)
    (case l4 => k_is)
    (case c4 => k_is)
    (case k4 => k_is)
    (case a5 => k_is)
    (case l5 => k_is)
    (case c5 => k_is)
    (case k5 => k_is)
    (case a6 => k_is)
    (case l6 => k_is)
    (case c6 => k_is)
    (case k6 => k_is)
    (case a7 => k_is)
    (case l7 => k_is)
    (case c7 => k_is)
    (case k7 => k_is)
    (case a8 => k_is)
    (case l8 => k_is)
    (case c8 => k_is)
    (case k8 => k_is)
    (case a9 => k_is)
    (case l9 => k_is)
    (case c9 => k_is)
    (case k9 => k_is)
    (case a10 => k_is)
    (case l10 => k_is)
    (case c10 => k_is)
    (case k10 => k_is)
    (case a11 => k_is)
    (case l11 => k_is)
    (case c11 => k_is)
    (case k11 => k_is)
    (case a12 => k_is)
    (case l12 => k_is)
    (case c12 => k_is)
    (case k12 => k_is)
    (case a13 => k_is)
    (case l13 => k_is)
    (case c13 => k_is)
    (case k13 => k_is)
    (case a14 => k_is)
    (case l14 => k_is)
    (case c14 => k_is)
    (case k14 => k_is)
    (case a15 => k_is)
    (case l15 => k_is)
    (case c15 => k_is)
    (case k15 => k_is)
    (case a16 => k_is)
    (case l16 => k_is)
    (case c16 => k_is)
    (case k16 => k_is)
    (case a17 => k_is)
    (case l17 => k_is)
    (case c17 => k_is)
    (case k17 => k_is)
    (case a18 => k_is)
    (case l18 => k_is)
    (case c18 => k_is)
    (case k18 => k_is)
    (case a19 => k_is)
    (case l19 => k_is)
    (case c19 => k_is)
    (case k19 => k_is)
    (case a20 => k_is)
    (case l20 => k_is)
    (case c20 => k_is)
    (case k20 => k_is)
    (case a21 => k_is)
    (case l21 => k_is)
    (case c21 => k_is)
    (case k21 => k_is)
    (case a22 => k_is)
    (case l22 => k_is)
    (case c22 => k_is)
    (case k22 => k_is)
    (case a23 => k_is)
    (case l23 => k_is)
    (case c23 => k_is)
    (case k23 => k_is)
    (case a24 => k_is)
    (case l24 => k_is)
    (case c24 => k_is)
    (case k24 => k_is)
    (case a25 => k_is)
    (case l25 => k_is)
    (case c25 => k_is)
    (case k25 => k_is)
    (case a26 => k_is)
    (case l26 => k_is)
    (case c26 => k_is)
    (case k26 => k_is)
    (case a27 => k_is)
    (case l27 => k_is)
    (case c27 => k_is)
    (case k27 => k_is)
    (case a28 => k_is)
    (case l28 => k_is)
    (case c28 => k_is)
    (case k28 => k_is)
    (case a29 => k_is)
    (case l29 => k_is)
    (case c29 => k_is)
    (case k29 => k_is)
    (case a30 => k_is)
    (case l30 => k_is)
    (case c30 => k_is)
    (case k30 => k_is)
    (case a31 => k_is)
    (case l31 => k_is)
    (case c31 => k_is)
    (case k31 => k_is)
    (case a32 => k_is)
    (case l32 => k_is)
    (case c32 => k_is)
    (case k32 => k_is)
    (case a33 => k_is)
    (case l33 => k_is)
    (case c33 => k_is)
    (case k33 => k_is)
    (case a34 => k_is)
    (case l34 => k_is)
    (case c34 => k_is)
    (case k34 => k_is)
    (case a35 => k_is)
    (case l35 => k_is)
    (case c35 => k_is)
    (case k35 => k_is)
    (case a36 => k_is)
    (case l36 => k_is)
    (case c36 => k_is)
    (case k36 => k_is)
    (case a37 => k_is)
    (case l37 => k_is)
    (case c37 => k_is)
    (case k37 => k_is)
    (case a38 => k_is)
    (case l38 => k_is)
    (case c38 => k_is)
    (case k38 => k_is)
    (case a39 => k_is)
    (case l39 => k_is)
    (case c39 => k_is)
    (case k39 => k_is)
    (case a40 => k_is)
    (case l40 => k_is)
    (case c40 => k_is)
    (case k40 => k_is)
    (case a41 => k_is)
    (case l41 => k_is)
    (case c41 => k_is)
    (case k41 => k_is)
    (case a42 => k_is)
    (case l42 => k_is)
    (case c42 => k_is)
    (case k42 => k_is)
    (case a43 => k_is)
    (case l43 => k_is)
    (case c43 => k_is)
    (case k43 => k_is)
    (case a44 => k_is)
    (case l44 => k_is)
    (case c44 => k_is)
    (case k44 => k_is)
    (case a45 => k_is)
    (case l45 => k_is)
    (case c45 => k_is)
    (case k45 => k_is)
    (case a46 => k_is)
    (case l46 => k_is)
    (case c46 => k_is)
    (case k46 => k_is)
    (case pg_Purse => k_is)
    (case hd_Purse => k_is)
    (case po_Purse => k_is)
    (case sa_Purse => k_is)
    (case mk_Purse => k_is)
    (case kc_Purse => k_is)
    (case pg_Fixed => k_is)
    (case hd_Fixed => k_is)
    (case po_Fixed => k_is)
    (case sa_Fixed => k_is)
    (case mk_Fixed => k_is)
    (case kc_Fixed => k_is)
    (case pg_Fraction => k_is)
    (case hd_Fraction => k_is)
    (case po_Fraction => k_is)
    (case sa_Fraction => k_is)
    (case mk_Fraction => k_is)
    (case kc_Fraction => k_is)
    (case pg_Root => k_is)
    (case hd_Root => k_is)
    (case po_Root => k_is)
    (case sa_Root => k_is)
    (case mk_Root => k_is)
    (case kc_Root => k_is)
    (case pg_Ruled => k_is)
    (case hd_Ruled => k_is)
    (case po_Ruled => k_is)
    (case sa_Ruled => k_is)
    (case mk_Ruled => k_is)
    (case kc_Ruled => k_is)
    (case pg_Four => k_is)
    (case hd_Four => k_is)
    (case po_Four => k_is)
    (case sa_Four => k_is)
    (case mk_Four => k_is)
    (case kc_Four => k_is)
    (case pg_Eight => k_is)
    (case hd_Eight => k_is)
    (case po_Eight => k_is)
    (case sa_Eight => k_is)
    (case mk_Eight => k_is)
    (case kc_Eight => k_is)
    (case a47_Purse => k_is)
    (case i47 => k_is)
    (case l47 => k_is)
    (case c47 => k_is)
    (case k47 => k_is)
    (case a48_Fixed => k_is)
    (case a48_Fraction => k_is)
    (case a48_Root => k_is)
    (case a48_Ruled => k_is)
    (case a48_Four => k_is)
    (case a48_Eight => k_is)
    (case i48 => k_is)
    (case l48 => k_is)
    (case c48 => k_is)
    (case k48 => k_is)
    (case a49_Fixed => k_is)
    (case i49 => k_is)
    (case l49 => k_is)
    (case c49 => k_is)
    (case k49 => k_is)
    (case a50_Fixed => k_is)
    (case i50 => k_is)
    (case l50 => k_is)
    (case c50 => k_is)
    (case k50 => k_is)
    (case a51_Fixed => k_is)
    (case i51 => k_is)
    (case l51 => k_is)
    (case c51 => k_is)
    (case k51 => k_is)
    (case r52 => k_is)
    (case ga52 => k_is)
    (case fc52 => k_is)
    (case i52 => k_is)
    (case l52 => k_is)
    (case c52 => k_is)
    (case k52 => k_is)
    (case a53_Fraction => k_is)
    (case a53_Root => k_is)
    (case a53_Ruled => k_is)
    (case i53 => k_is)
    (case l53 => k_is)
    (case c53 => k_is)
    (case k53 => k_is)
    (case a54_Root => k_is)
    (case i54 => k_is)
    (case l54 => k_is)
    (case c54 => k_is)
    (case k54 => k_is)
    (case a55_Fraction => k_is)
    (case a55_Root => k_is)
    (case a55_Ruled => k_is)
    (case i55 => k_is)
    (case l55 => k_is)
    (case c55 => k_is)
    (case k55 => k_is)
    (case a56_Fraction => k_is)
    (case i56 => k_is)
    (case l56 => k_is)
    (case c56 => k_is)
    (case k56 => k_is)
    (case a57_Fraction => k_is)
    (case i57 => k_is)
    (case l57 => k_is)
    (case c57 => k_is)
    (case k57 => k_is)
    (case a58_Fraction => k_is)
    (case i58 => k_is)
    (case l58 => k_is)
    (case c58 => k_is)
    (case k58 => k_is)
    (case a59_Root => k_is)
    (case i59 => k_is)
    (case l59 => k_is)
    (case c59 => k_is)
    (case k59 => k_is)
    (case a60_Root => k_is)
    (case i60 => k_is)
    (case l60 => k_is)
    (case c60 => k_is)
    (case k60 => k_is)
    (case a61_Ruled => k_is)
    (case i61 => k_is)
    (case l61 => k_is)
    (case c61 => k_is)
    (case k61 => k_is)
    (case a62_Ruled => k_is)
    (case i62 => k_is)
    (case l62 => k_is)
    (case c62 => k_is)
    (case k62 => k_is)
    (case a63_Ruled => k_is)
    (case i63 => k_is)
    (case l63 => k_is)
    (case c63 => k_is)
    (case k63 => k_is)
    (case a64_Four => k_is)
    (case i64 => k_is)
    (case l64 => k_is)
    (case c64 => k_is)
    (case k64 => k_is)
    (case a65_Four => k_is)
    (case i65 => k_is)
    (case l65 => k_is)
    (case c65 => k_is)
    (case k65 => k_is)
    (case a66_Four => k_is)
    (case i66 => k_is)
    (case l66 => k_is)
    (case c66 => k_is)
    (case k66 => k_is)
    (case a67_Four => k_is)
    (case i67 => k_is)
    (case l67 => k_is)
    (case c67 => k_is)
    (case k67 => k_is)
    (case a68_Eight => k_is)
    (case i68 => k_is)
    (case l68 => k_is)
    (case c68 => k_is)
    (case k68 => k_is)
    (case a69_Eight => k_is)
    (case i69 => k_is)
    (case l69 => k_is)
    (case c69 => k_is)
    (case k69 => k_is)
    (case a70_Eight => k_is)
    (case i70 => k_is)
    (case l70 => k_is)
    (case c70 => k_is)
    (case k70 => k_is)
    (case a71_Eight => k_is)
    (case i71 => k_is)
    (case l71 => k_is)
    (case c71 => k_is)
    (case k71 => k_is)
    (case a72_Eight => k_is)
    (case i72 => k_is)
    (case l72 => k_is)
    (case c72 => k_is)
    (case k72 => k_is)
    (case a73_Eight => k_is)
    (case i73 => k_is)
    (case l73 => k_is)
    (case c73 => k_is)
    (case k73 => k_is)
    (case n_Purse_left => k_is)
    (case n_Fixed_top => k_is)
    (case n_Fixed_below => k_is)
    (case n_Fixed_begun => k_is)
    (case n_Fraction_many => k_is)
    (case n_Fraction_top => k_is)
    (case n_Fraction_below => k_is)
    (case n_Root_many => k_is)
    (case n_Root_top => k_is)
    (case n_Root_square => k_is)
    (case n_Root_below => k_is)
    (case n_Root_floor => k_is)
    (case n_Ruled_many => k_is)
    (case n_Ruled_first => k_is)
    (case n_Ruled_ring => k_is)
    (case n_Ruled_steps => k_is)
    (case n_Four_numbers => k_is)
    (case n_Four_inner => k_is)
    (case n_Four_ready => k_is)
    (case n_Four_begun => k_is)
    (case n_Four_fixed => k_is)
    (case n_Eight_numbers => k_is)
    (case n_Eight_inners => k_is)
    (case n_Eight_many => k_is)
    (case n_Eight_begun => k_is)
    (case n_Eight_rest => k_is)
    (case xf_BadTree => k_exc)
    (case kp_BadTree => k_is)
    (case sb_BadTree => k_is)
    (case ty_BadTree => k_is)
    (case xf_NoValue => k_exc)
    (case kp_NoValue => k_is)
    (case sb_NoValue => k_is)
    (case ty_NoValue => k_is)
    (case hd_NoValue => k_is)
    (case su_BadTree_NoValue => k_is)
    (case su_NoValue_NoValue => k_is)
    (case g_DEEPEST => k_is)
    (case g_MOST_NUMBER => k_is)
    (case g_MOST_PARTS => k_is)
    (case g_MOST_POWER => k_is)
    (case g_TIMES => k_is)
    (case l_TIMES => k_is)
    (case z_divmod => k_is)
    (case z_abs => k_is)
    (case z_bool => k_is)
    (case z_int => k_is)
    (case z_isinstance => k_is)
    (case z_len => k_is)
    (case z_list => k_is)
    (case z_max => k_is)
    (case z_min => k_is)
    (case z_range => k_is)
    (case z_reversed => k_is)
    (case z_str => k_is)
    (case z_sum => k_is)
    (case z_tuple => k_is)
    (case z_zip => k_is)
