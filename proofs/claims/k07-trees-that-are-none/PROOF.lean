import PyProof.Rows.All
import Wide.All
import OpenK.AllK
import Wide.FinOn
import HandS.ForExc
import HandS.Comp
import HandS.Iter
import HandS.Dict
import HandS.Wide
import HandS.WideBits
import HandS.IsInst
import HandS.TupAny
import HandS.Flow
import HandS.Zip
import HandS.Evl
import HandS.NoneIn
import PyProof.Rows.SeqMore
import HandS.ClsMeth
import HandS.ExcOwn
import HandS.ExcBuiltin
import HandS.TryOnly
import HandS.ExcIs
import HandS.Walk
import KE.GoesZip
import KE.GoesMore
import HandS.Deep
import HandS.TupMul
import PySem.Challenge.RW_chainparts_k07_trees_that_are_none
set_option Elab.async false
set_option linter.all false
set_option maxRecDepth 100000
set_option maxHeartbeats 4000000
namespace PL
open PySem L2
/-- data; o a: an object of the abstract store -/
inductive D where
  | non | bl (b : Bool) | int (i : Int) | str (s : Str) | tup (xs : List D) | lst (xs : List D) | o (a : Addr)
mutual
inductive DV (K : PySem.W.Frag) (G : Hp) : V → D → Prop
  | non : DV K G .non .non
  | bl (b : Bool) : DV K G (.bl b) (.bl b)
  | int (i : Int) : DV K G (.int i) (.int i)
  | str (x : Str) : DV K G (.str x) (.str x)
  | o (a : Addr) : DV K G (.ref a) (.o a)
  | lst {a : Addr} {xs : List V} {ds : List D} : SqL K G a xs → DVs K G xs ds → DV K G (.ref a) (.lst ds)
  | tup {a : Addr} {xs : List V} {ds : List D} : SqT K G a xs → DVs K G xs ds → DV K G (.ref a) (.tup ds)
inductive DVs (K : PySem.W.Frag) (G : Hp) : List V → List D → Prop
  | nil : DVs K G [] []
  | cons {v : V} {vs : List V} {d : D} {ds : List D} : DV K G v d → DVs K G vs ds → DVs K G (v :: vs) (d :: ds)
end
theorem same_rd {H H' : Hp} (e : Same H H') {a : Addr} {u : HO} (h : Rd H a u) : Rd H' a u := by
  rcases h with h | ⟨o, h⟩
  · exact .inl (e _ _ h)
  · exact .inr ⟨o, e _ _ h⟩
theorem same_seqT {K : PySem.W.Frag} {H H' : Hp} {a : Addr} {xs : List V} (e : Same H H') (h : SqT K H a xs) : SqT K H' a xs := by
  rcases h with h | h
  · exact .inl (same_rd e h)
  · exact .inr h
mutual
theorem DV.mono {K : PySem.W.Frag} {G G' : Hp} (e : Same G G') : ∀ {v : V} {d : D}, DV K G v d → DV K G' v d
  | _, _, .non => .non
  | _, _, .bl b => .bl b
  | _, _, .int i => .int i
  | _, _, .str x => .str x
  | _, _, .o a => .o a
  | _, _, .lst h r => .lst (e.seq h) (DVs.mono e r)
  | _, _, .tup h r => .tup (same_seqT e h) (DVs.mono e r)
theorem DVs.mono {K : PySem.W.Frag} {G G' : Hp} (e : Same G G') : ∀ {v : List V} {d : List D}, DVs K G v d → DVs K G' v d
  | _, _, .nil => .nil
  | _, _, .cons h r => .cons (DV.mono e h) (DVs.mono e r)
end
section
variable {K : PySem.W.Frag} {G : Hp}
theorem DVs.length : ∀ {vs : List V} {ds : List D}, DVs K G vs ds → vs.length = ds.length
  | _, _, .nil => rfl
  | _, _, .cons _ r => by rw [List.length_cons, List.length_cons, DVs.length r]
theorem DVs.get : ∀ {vs : List V} {ds : List D} {i : Nat} {d : D}, DVs K G vs ds → ds[i]? = some d → ∃ v, vs[i]? = some v ∧ DV K G v d
  | _, _, _, _, .nil, e => by simp at e
  | _, _, 0, _, .cons h _, e => by simp at e; subst e; exact ⟨_, rfl, h⟩
  | _, _, i + 1, d, .cons _ r, e => by
    obtain ⟨v, h1, h2⟩ := DVs.get (i := i) (d := d) r (by simpa using e)
    exact ⟨v, by simpa using h1, h2⟩
theorem DVs.getV : ∀ {vs : List V} {ds : List D} {i : Nat} {v : V}, DVs K G vs ds → vs[i]? = some v → ∃ d, ds[i]? = some d ∧ DV K G v d
  | _, _, _, _, .nil, e => by simp at e
  | _, _, 0, _, .cons h _, e => by simp at e; subst e; exact ⟨_, rfl, h⟩
  | _, _, i + 1, v, .cons _ r, e => by
    obtain ⟨d, h1, h2⟩ := DVs.getV (i := i) (v := v) r (by simpa using e)
    exact ⟨d, by simpa using h1, h2⟩
theorem DVs.set {v : V} {d : D} (h : DV K G v d) : ∀ {vs : List V} {ds : List D} (i : Nat), DVs K G vs ds → DVs K G (vs.set i v) (ds.set i d)
  | _, _, _, .nil => .nil
  | _, _, 0, .cons _ r => .cons h r
  | _, _, i + 1, .cons q r => .cons q (DVs.set h i r)
theorem DVs.append : ∀ {xs ys : List V} {us ws : List D}, DVs K G xs us → DVs K G ys ws → DVs K G (xs ++ ys) (us ++ ws)
  | _, _, _, _, .nil, s => s
  | _, _, _, _, .cons r t, s => .cons r (DVs.append t s)
theorem DVs.take : ∀ {xs : List V} {us : List D} (n : Nat), DVs K G xs us → DVs K G (xs.take n) (us.take n)
  | _, _, 0, _ => .nil
  | _, _, _ + 1, .nil => .nil
  | _, _, n + 1, .cons r t => .cons r (DVs.take n t)
theorem DVs.drop : ∀ {xs : List V} {us : List D} (n : Nat), DVs K G xs us → DVs K G (xs.drop n) (us.drop n)
  | _, _, 0, r => r
  | _, _, _ + 1, .nil => .nil
  | _, _, n + 1, .cons _ t => DVs.drop n t
theorem DVs.ints {vs : List V} : ∀ {ns : List Int}, DVs K G vs (ns.map D.int) → vs = ns.map V.int := by
  induction vs with
  | nil => intro ns h; cases ns with
    | nil => rfl
    | cons n r => cases h
  | cons v vs ih => intro ns h; cases ns with
    | nil => cases h
    | cons n r =>
      cases h with
      | cons h1 h2 =>
        cases h1
        rw [ih h2, List.map_cons]
theorem DVs.of_ints : ∀ ns : List Int, DVs K G (ns.map V.int) (ns.map D.int)
  | [] => .nil
  | n :: r => .cons (.int n) (DVs.of_ints r)
end
/-- (left: nothing depends on it) -/
structure CA where
  none : Unit := ()
def iv (xs : List Int) : List V := xs.map V.int
/-- an object that never changes -/
def Imm : HO → Prop
  | .tup _ => True
  | .frz _ _ => True
  | _ => False
inductive AO where
  | row
  | lst (xs : List D)
  | dic (kvs : List (Key × D))
  | obj (c : Addr) (fs : List (Str × D))
abbrev Om := Addr → Option AO
abbrev En := List (Option D)
def oset (Ω : Om) (a : Addr) (o : AO) : Om := fun b => if b = a then some o else Ω b
def odel (Ω : Om) (a : Addr) : Om := fun b => if b = a then none else Ω b
theorem oset_same {Ω : Om} {a : Addr} {o : AO} : oset Ω a o a = some o := if_pos rfl
theorem oset_ne {Ω : Om} {a b : Addr} {o : AO} (h : b ≠ a) : oset Ω a o b = Ω b := if_neg h
theorem oset_oset {Ω : Om} {a : Addr} {o u : AO} : oset (oset Ω a o) a u = oset Ω a u := by
  funext b; unfold oset
  by_cases h : b = a
  · rw [if_pos h, if_pos h]
  · rw [if_neg h, if_neg h, if_neg h]
def KVs (K : PySem.W.Frag) (G : Hp) : List (Key × V) → List (Key × D) → Prop := Paired fun (p : Key × V) (q : Key × D) => p.1 = q.1 ∧ DV K G p.2 q.2
def FVs (K : PySem.W.Frag) (G : Hp) : List (Str × V) → List (Str × D) → Prop := Paired fun (p : Str × V) (q : Str × D) => p.1 = q.1 ∧ DV K G p.2 q.2
def AAt (K : PySem.W.Frag) (ca : CA) (G : Hp) (own : Addr → Option Addr) (H : Hp) (a : Addr) : AO → Prop
  | .row => own a = some a ∧ ∃ (p : Addr) (ns : List Int) (i c m : Int), H a = some (.lst [.ref p, .int i, .int c, .int m]) ∧ SqL K G p (iv ns) ∧ 0 ≤ i ∧ i ≤ ns.length ∧ 0 ≤ c
  | .lst xs => own a = some a ∧ ∃ vs, H a = some (.lst vs) ∧ DVs K G vs xs
  | .dic kvs => own a = some a ∧ ∃ kvs', H a = some (.dK kvs') ∧ KVs K G kvs' kvs
  | .obj c fs => own a = some a ∧ Cls K c ∧ (fs.map (·.1)).Nodup ∧ (∀ x ∈ fs, NoAttr K c x.1) ∧ ∃ dx fs', H a = some (.ins c dx fs') ∧ FVs K G fs' fs
structure Rel (K : PySem.W.Frag) (ca : CA) (G : Hp) (own : Addr → Option Addr) (H : Hp) (Ω : Om) : Prop where
  sub : Same G H
  imm : ∀ b o, G b = some o → own b = none
  objs : ∀ a o, Ω a = some o → AAt K ca G own H a o
section
variable {K : PySem.W.Frag} {ca : CA} {G G' H H' : Hp} {own own' : Addr → Option Addr} {Ω : Om} {a p : Addr} {o : AO}
theorem KVs.mono {l : List (Key × V)} {m : List (Key × D)} (e : Same G G') (h : KVs K G l m) : KVs K G' l m := Paired.mapP h fun _ _ x => ⟨x.1, x.2.mono e⟩
theorem FVs.mono {l : List (Str × V)} {m : List (Str × D)} (e : Same G G') (h : FVs K G l m) : FVs K G' l m := Paired.mapP h fun _ _ x => ⟨x.1, x.2.mono e⟩
theorem AAt.keep (x : AAt K ca G own H a o) (e : Same G G') (h : ∀ b u, H b = some u → own b = some a → H' b = some u ∧ own' b = some a) (t : ∀ b u, H b = some u → Imm u → H' b = some u) : AAt K ca G' own' H' a o := by
  cases o with
  | row =>
    obtain ⟨w, p, ns, i, c, m, hp, hs, r⟩ := x
    exact ⟨(h _ _ hp w).2, p, ns, i, c, m, (h _ _ hp w).1, e.seq hs, r⟩
  | lst xs =>
    obtain ⟨w, vs, hp, r⟩ := x
    exact ⟨(h _ _ hp w).2, vs, (h _ _ hp w).1, r.mono e⟩
  | dic kvs =>
    obtain ⟨w, vs, hp, r⟩ := x
    exact ⟨(h _ _ hp w).2, vs, (h _ _ hp w).1, r.mono e⟩
  | obj c fs =>
    obtain ⟨w, cl, nd, na, dx, vs, hp, r⟩ := x
    exact ⟨(h _ _ hp w).2, cl, nd, na, dx, vs, (h _ _ hp w).1, r.mono e⟩
/-- an object of the store is there, and may change -/
theorem AAt.there (x : AAt K ca G own H a o) : own a = some a ∧ ∃ u, H a = some u ∧ ¬ Imm u := by
  cases o with
  | row => obtain ⟨w, p, ns, i, c, m, hp, _⟩ := x; exact ⟨w, _, hp, fun z => z⟩
  | lst xs => obtain ⟨w, vs, hp, _⟩ := x; exact ⟨w, _, hp, fun z => z⟩
  | dic xs => obtain ⟨w, vs, hp, _⟩ := x; exact ⟨w, _, hp, fun z => z⟩
  | obj c fs => obtain ⟨w, _, _, _, dx, vs, hp, _⟩ := x; exact ⟨w, _, hp, fun z => z⟩
def uown (own : Addr → Option Addr) (p : Addr) (x : Option Addr) : Addr → Option Addr := fun b => if b = p then x else own b
/-- a new object that never changes again -/
theorem Rel.data {u : HO} (r : Rel K ca G own H Ω) (h : H p = none) : Rel K ca (upd G p u) (uown own p none) (upd H p u) Ω ∧ Same G (upd G p u) := by
  have hg : G p = none := r.sub.free h
  have hs : Same G (upd G p u) := fun b v e => by rw [upd_ne (ne_of_none e hg)]; exact e
  refine ⟨⟨fun b v e => ?_, fun b v e => ?_, fun b v e => ?_⟩, hs⟩
  · by_cases hb : b = p
    · subst hb; rw [upd_same] at e ⊢; exact e
    · rw [upd_ne hb] at e ⊢; exact r.sub _ _ e
  · unfold uown
    by_cases hb : b = p
    · rw [if_pos hb]
    · rw [upd_ne hb] at e; rw [if_neg hb]; exact r.imm _ _ e
  · refine (r.objs b v e).keep hs (fun c w hc ho => ?_) fun c w hc _ => by rw [upd_ne (ne_of_none hc h)]; exact hc
    refine ⟨by rw [upd_ne (ne_of_none hc h)]; exact hc, ?_⟩
    unfold uown
    rw [if_neg (ne_of_none hc h)]
    exact ho
/-- a new list that may change -/
theorem Rel.newLst {vs : List V} {xs : List D} (r : Rel K ca G own H Ω) (h : H p = none) (d : DVs K G vs xs) : Rel K ca G (uown own p (some p)) (upd H p (.lst vs)) (oset Ω p (.lst xs)) := by
  have hg : G p = none := r.sub.free h
  refine ⟨fun b v e => ?_, fun b v e => ?_, fun b v e => ?_⟩
  · rw [upd_ne (ne_of_none e hg)]; exact r.sub _ _ e
  · unfold uown; rw [if_neg (ne_of_none e hg)]; exact r.imm _ _ e
  · by_cases hb : b = p
    · subst hb
      rw [oset_same] at e
      cases e
      exact ⟨if_pos rfl, vs, upd_same, d⟩
    · rw [oset_ne hb] at e
      refine (r.objs b v e).keep (Same.refl G) (fun c w hc ho => ⟨by rw [upd_ne (ne_of_none hc h)]; exact hc, ?_⟩) fun c w hc _ => by rw [upd_ne (ne_of_none hc h)]; exact hc
      unfold uown
      rw [if_neg (ne_of_none hc h)]
      exact ho
/-- no object but a's own is changed -/
theorem Rel.turn {o' : AO} (r : Rel K ca G own H Ω) (h : ∀ b u, H b = some u → own b ≠ some a → H' b = some u) (t : ∀ b u, H b = some u → Imm u → H' b = some u) (x : AAt K ca G own H' a o') : Rel K ca G own H' (oset Ω a o') := by
  refine ⟨fun b v e => h b v (r.sub _ _ e) (by rw [r.imm _ _ e]; exact fun z => by cases z), r.imm, fun b v e => ?_⟩
  by_cases hb : b = a
  · subst hb; rw [oset_same] at e; cases e; exact x
  · rw [oset_ne hb] at e
    exact (r.objs b v e).keep (Same.refl G) (fun c w hc ho => ⟨h c w hc (by rw [ho]; exact fun z => hb (Option.some.inj z)), ho⟩) t
theorem Rel.setLst {vs : List V} {xs ys : List D} (r : Rel K ca G own H Ω) (e : Ω a = some (.lst xs)) (d : DVs K G vs ys) : Rel K ca G own (upd H a (.lst vs)) (oset Ω a (.lst ys)) := by
  obtain ⟨w, u, hu, nu⟩ := (r.objs a _ e).there
  refine r.turn (fun b v hb ho => ?_) (fun b v hb hi => ?_) ⟨w, vs, upd_same, d⟩
  · rw [upd_ne (fun z => ho (by rw [z]; exact w))]; exact hb
  · rw [upd_ne (fun z => by rw [z, hu] at hb; cases hb; exact nu hi)]; exact hb
theorem Rel.fresh (r : Rel K ca G own H Ω) (h : H p = none) : Ω p = none := by
  cases q : Ω p with
  | none => rfl
  | some o =>
    obtain ⟨_, u, hu, _⟩ := (r.objs p o q).there
    rw [h] at hu; cases hu
end
/-- a step: data stays; what is nobody's stays nobody's, as it is -/
structure Stp (G : Hp) (own : Addr → Option Addr) (H : Hp) (G' : Hp) (own' : Addr → Option Addr) (H' : Hp) : Prop where
  same : Same G G'
  fr : ∀ b u, H b = some u → own b = none → G b = none → H' b = some u ∧ own' b = none ∧ G' b = none
theorem Stp.refl {G H : Hp} {own : Addr → Option Addr} : Stp G own H G own H := ⟨Same.refl _, fun _ _ h n g => ⟨h, n, g⟩⟩
theorem Stp.trans {G G1 G2 H H1 H2 : Hp} {own own1 own2 : Addr → Option Addr} (a : Stp G own H G1 own1 H1) (b : Stp G1 own1 H1 G2 own2 H2) : Stp G own H G2 own2 H2 :=
  ⟨a.same.trans b.same, fun c u h n g => b.fr c u (a.fr c u h n g).1 (a.fr c u h n g).2.1 (a.fr c u h n g).2.2⟩
theorem stp_new {G H : Hp} {own : Addr → Option Addr} {p : Addr} {u : HO} {x : Option Addr} (h : H p = none) : Stp G own H G (uown own p x) (upd H p u) :=
  ⟨Same.refl _, fun b v hb n g => ⟨by rw [upd_ne (ne_of_none hb h)]; exact hb, by unfold uown; rw [if_neg (ne_of_none hb h)]; exact n, g⟩⟩
theorem stp_data {G H : Hp} {own : Addr → Option Addr} {p : Addr} {u w : HO} (e : Same G (upd G p w)) (h : H p = none) : Stp G own H (upd G p w) (uown own p none) (upd H p u) :=
  ⟨e, fun b v hb n g => ⟨by rw [upd_ne (ne_of_none hb h)]; exact hb, by unfold uown; rw [if_neg (ne_of_none hb h)]; exact n, by rw [upd_ne (ne_of_none hb h)]; exact g⟩⟩
theorem stp_own {G H : Hp} {own : Addr → Option Addr} {p a : Addr} {u : HO} (w : own p = some a) : Stp G own H G own (upd H p u) :=
  ⟨Same.refl _, fun b v hb n g => ⟨by rw [upd_ne (fun z => by rw [z, w] at n; cases n)]; exact hb, n, g⟩⟩
/-- a private object is laid; it changes -/
theorem Rel.priv {K : PySem.W.Frag} {ca : CA} {G H : Hp} {own : Addr → Option Addr} {Ω : Om} {p : Addr} {u : HO} (r : Rel K ca G own H Ω) (h : H p = none) : Rel K ca G (uown own p none) (upd H p u) Ω := by
  have hg : G p = none := r.sub.free h
  refine ⟨fun b v e => ?_, fun b v e => ?_, fun b v e => ?_⟩
  · rw [upd_ne (ne_of_none e hg)]; exact r.sub _ _ e
  · unfold uown; rw [if_neg (ne_of_none e hg)]; exact r.imm _ _ e
  · refine (r.objs b v e).keep (Same.refl G) (fun c w hc ho => ?_) fun c w hc _ => by rw [upd_ne (ne_of_none hc h)]; exact hc
    refine ⟨by rw [upd_ne (ne_of_none hc h)]; exact hc, ?_⟩
    unfold uown
    rw [if_neg (ne_of_none hc h)]
    exact ho
theorem Rel.privSet {K : PySem.W.Frag} {ca : CA} {G H : Hp} {own : Addr → Option Addr} {Ω : Om} {p : Addr} {u v : HO} (r : Rel K ca G own H Ω) (h : H p = some v) (hi : ¬ Imm v) (hg : G p = none) (ho : own p = none) : Rel K ca G own (upd H p u) Ω := by
  refine ⟨fun b w e => ?_, r.imm, fun b w e => ?_⟩
  · rw [upd_ne (ne_of_none e hg)]; exact r.sub _ _ e
  · refine (r.objs b w e).keep (Same.refl G) (fun c x hc hw => ⟨?_, hw⟩) fun c x hc hx => ?_
    · rw [upd_ne (fun z => by rw [z, ho] at hw; cases hw)]; exact hc
    · rw [upd_ne (fun z => by rw [z, h] at hc; cases hc; exact hi hx)]; exact hc
/-- a private object becomes data -/
theorem Rel.privData {K : PySem.W.Frag} {ca : CA} {G H : Hp} {own : Addr → Option Addr} {Ω : Om} {p : Addr} {v : HO} (r : Rel K ca G own H Ω) (h : H p = some v) (hg : G p = none) (ho : own p = none) : Rel K ca (upd G p v) own H Ω ∧ Same G (upd G p v) := by
  have hs : Same G (upd G p v) := fun b w e => by rw [upd_ne (ne_of_none e hg)]; exact e
  refine ⟨⟨fun b w e => ?_, fun b w e => ?_, fun b w e => (r.objs b w e).keep hs (fun c x hc hw => ⟨hc, hw⟩) fun c x hc _ => hc⟩, hs⟩
  · by_cases hb : b = p
    · subst hb; rw [upd_same] at e; cases e; exact h
    · rw [upd_ne hb] at e; exact r.sub _ _ e
  · by_cases hb : b = p
    · subst hb; exact ho
    · rw [upd_ne hb] at e; exact r.imm _ _ e
/-- the slots -/
structure SR (K : PySem.W.Frag) (G : Hp) (σ : St) (ρ : En) : Prop where
  len : σ.length = ρ.length
  get : ∀ (i : Nat) d, ρ[i]? = some (some d) → ∃ v, σ[i]? = some (some v) ∧ DV K G v d
section
variable {K : PySem.W.Frag} {G G' : Hp} {σ : St} {ρ : En}
theorem SR.mono (e : Same G G') (s : SR K G σ ρ) : SR K G' σ ρ := ⟨s.len, fun i d h => let ⟨v, a, b⟩ := s.get i d h; ⟨v, a, b.mono e⟩⟩
theorem SR.set {v : V} {d : D} (s : SR K G σ ρ) (i : Nat) (h : DV K G v d) : SR K G (σ.set i (some v)) (ρ.set i (some d)) := by
  refine ⟨by rw [List.length_set, List.length_set, s.len], fun j e hj => ?_⟩
  by_cases hi : j = i
  · subst hi
    have hl : j < ρ.length := by
      have := (List.getElem?_eq_some_iff.mp hj).1
      rwa [List.length_set] at this
    rw [List.getElem?_set_self hl] at hj
    cases hj
    exact ⟨v, List.getElem?_set_self (by rw [s.len]; exact hl), h⟩
  · rw [List.getElem?_set_ne (Ne.symm hi)] at hj ⊢
    exact s.get j e hj
theorem SR.drop (s : SR K G σ ρ) (i : Nat) (x : Option V) : SR K G (σ.set i x) (ρ.set i none) := by
  refine ⟨by rw [List.length_set, List.length_set, s.len], fun j e hj => ?_⟩
  by_cases hi : j = i
  · subst hi
    have hl : j < ρ.length := by
      have := (List.getElem?_eq_some_iff.mp hj).1
      rwa [List.length_set] at this
    rw [List.getElem?_set_self hl] at hj
    cases hj
  · rw [List.getElem?_set_ne (Ne.symm hi)] at hj ⊢
    exact s.get j e hj
end
end PL
namespace PL
open PySem L2
abbrev AW := Value → En → Om → Prop
abbrev AQ := D → Om → Prop
abbrev ATE := AW → En → Om → AQ → Prop
abbrev ATT := AW → En → Om → (Bool → Om → Prop) → Prop
abbrev ATA := AW → En → Om → (List D → Om → Prop) → Prop
structure AEnds where
  nx : En → Om → Prop
  rt : D → Om → Prop
  bk : En → Om → Prop := fun _ _ => False
  ct : En → Om → Prop := fun _ _ => False
abbrev ATS := AW → AEnds → En → Om → Prop
section
variable (K : PySem.W.Frag) (ca : CA) (W : WX)
def KX (G : Hp) (own : Addr → Option Addr) (H : Hp) (σ : St) (ρ : En) (Wa : AW) : Prop := ∀ cls H' G' own' Ω', Stp G own H G' own' H' → Rel K ca G' own' H' Ω' → Wa cls ρ Ω' → W cls none σ H'
def SimE (te : TE) (ta : ATE) : Prop := ∀ (σ : St) (H : Hp) (G : Hp) (own : Addr → Option Addr) (ρ : En) (Ω : Om) (Wa : AW) (Qa : AQ) (Qc : VK), Rel K ca G own H Ω → SR K G σ ρ → ta Wa ρ Ω Qa →
  (∀ v H' G' own' d Ω', Stp G own H G' own' H' → Rel K ca G' own' H' Ω' → DV K G' v d → Qa d Ω' → Qc v H') → KX K ca W G own H σ ρ Wa → te σ H Qc
def SimT (te : TT) (ta : ATT) : Prop := ∀ (σ : St) (H : Hp) (G : Hp) (own : Addr → Option Addr) (ρ : En) (Ω : Om) (Wa : AW) (Qa : Bool → Om → Prop) (Qc : Bool → Hp → Prop), Rel K ca G own H Ω → SR K G σ ρ → ta Wa ρ Ω Qa →
  (∀ b H' G' own' Ω', Stp G own H G' own' H' → Rel K ca G' own' H' Ω' → Qa b Ω' → Qc b H') → KX K ca W G own H σ ρ Wa → te σ H Qc
def SimA (te : TA) (ta : ATA) : Prop := ∀ (σ : St) (H : Hp) (G : Hp) (own : Addr → Option Addr) (ρ : En) (Ω : Om) (Wa : AW) (Qa : List D → Om → Prop) (Qc : List V → Hp → Prop), Rel K ca G own H Ω → SR K G σ ρ → ta Wa ρ Ω Qa →
  (∀ v H' G' own' d Ω', Stp G own H G' own' H' → Rel K ca G' own' H' Ω' → DVs K G' v d → Qa d Ω' → Qc v H') → KX K ca W G own H σ ρ Wa → te σ H Qc
/-- the ends of a statement -/
structure KE (G : Hp) (own : Addr → Option Addr) (H : Hp) (Da : AEnds) (Dc : Ends) (Wa : AW) : Prop where
  nx : ∀ σ' H' G' own' ρ' Ω', Stp G own H G' own' H' → Rel K ca G' own' H' Ω' → SR K G' σ' ρ' → Da.nx ρ' Ω' → Dc.nx σ' H'
  rt : ∀ v H' G' own' d Ω', Stp G own H G' own' H' → Rel K ca G' own' H' Ω' → DV K G' v d → Da.rt d Ω' → Dc.rt v H'
  bk : ∀ σ' H' G' own' ρ' Ω', Stp G own H G' own' H' → Rel K ca G' own' H' Ω' → SR K G' σ' ρ' → Da.bk ρ' Ω' → Dc.bk σ' H'
  ct : ∀ σ' H' G' own' ρ' Ω', Stp G own H G' own' H' → Rel K ca G' own' H' Ω' → SR K G' σ' ρ' → Da.ct ρ' Ω' → Dc.ct σ' H'
  ex : ∀ cls σ' H' G' own' ρ' Ω', Stp G own H G' own' H' → Rel K ca G' own' H' Ω' → SR K G' σ' ρ' → Wa cls ρ' Ω' → W cls none σ' H'
def SimS (ts : TS) (ta : ATS) : Prop := ∀ (σ : St) (H : Hp) (G : Hp) (own : Addr → Option Addr) (ρ : En) (Ω : Om) (Wa : AW) (Da : AEnds) (Dc : Ends), Rel K ca G own H Ω → SR K G σ ρ → ta Wa Da ρ Ω → KE K ca W G own H Da Dc Wa → ts Dc σ H
end
structure AE (X : Cx) (ca : CA) (W : WX) (e : Expr) (te : TE) (ta : ATE) : Prop where
  pe : PE X e te
  sim : SimE X.K ca W te ta
structure AT (X : Cx) (ca : CA) (W : WX) (e : Expr) (te : TT) (ta : ATT) : Prop where
  pe : PT X e te
  sim : SimT X.K ca W te ta
structure AWt (X : Cx) (ca : CA) (W : WX) (e : Expr) (te : TT) (ta : ATT) : Prop where
  pe : PW X e te
  sim : SimT X.K ca W te ta
structure AA (X : Cx) (ca : CA) (W : WX) (e : List Expr) (te : TA) (ta : ATA) : Prop where
  pe : PA X e te
  sim : SimA X.K ca W te ta
structure AS (X : Cx) (ca : CA) (W : WX) (s : Stmt) (ts : TS) (ta : ATS) : Prop where
  pe : PS X s ts
  sim : SimS X.K ca W ts ta
structure ASs (X : Cx) (ca : CA) (W : WX) (s : List Stmt) (ts : TS) (ta : ATS) : Prop where
  pe : PSs X s ts
  sim : SimS X.K ca W ts ta
theorem KX.mono {K : PySem.W.Frag} {ca : CA} {W : WX} {G G' H H' : Hp} {own own' : Addr → Option Addr} {σ : St} {ρ : En} {Wa : AW} (k : KX K ca W G own H σ ρ Wa) (e : Stp G own H G' own' H') : KX K ca W G' own' H' σ ρ Wa := fun cls H' G2 own' Ω' e2 r w => k cls H' G2 own' Ω' (e.trans e2) r w
theorem KE.mono {K : PySem.W.Frag} {ca : CA} {W : WX} {G G' H H' : Hp} {own own' : Addr → Option Addr} {Da : AEnds} {Dc : Ends} {Wa : AW} (k : KE K ca W G own H Da Dc Wa) (e : Stp G own H G' own' H') : KE K ca W G' own' H' Da Dc Wa :=
  ⟨fun _ _ _ _ _ _ e2 => k.nx _ _ _ _ _ _ (e.trans e2), fun _ _ _ _ _ _ e2 => k.rt _ _ _ _ _ _ (e.trans e2), fun _ _ _ _ _ _ e2 => k.bk _ _ _ _ _ _ (e.trans e2), fun _ _ _ _ _ _ e2 => k.ct _ _ _ _ _ _ (e.trans e2), fun _ _ _ _ _ _ _ e2 => k.ex _ _ _ _ _ _ _ (e.trans e2)⟩
theorem KE.kx {K : PySem.W.Frag} {ca : CA} {W : WX} {G H : Hp} {own : Addr → Option Addr} {Da : AEnds} {Dc : Ends} {Wa : AW} (k : KE K ca W G own H Da Dc Wa) {σ : St} {ρ : En} (s : SR K G σ ρ) : KX K ca W G own H σ ρ Wa :=
  fun cls H' G' own' Ω' e r w => k.ex _ _ _ _ _ _ _ e r (s.mono e.same) w
section
variable {X : Cx} {ca : CA} {W : WX} {a b e : Expr} {ta tb te : TE} {ra rb re : ATE} {pos : Pos}
def aVar (i : Nat) : ATE := fun _ ρ Ω Q => ∃ d, ρ[i]? = some (some d) ∧ Q d Ω
def aC (d : D) : ATE := fun _ _ Ω Q => Q d Ω
theorem ae_var (i : Nat) {x : Str} (hN : X.N[i]? = some x := by rfl) (hv : Vis X.env.scope x := by first | exact Or.inl rfl | exact Or.inr (Or.inl rfl) | exact Or.inr (Or.inr rfl)) (hd : (x == ("__debug__" : Str)) = false := by decide)
    (hcd : (x == ("__classdict__" : Str)) = false := by decide) : AE X ca W (.Name x pos) (tVar i) (aVar i) := by
  refine ⟨pe_var hN hv hd hcd, fun σ H G own ρ Ω Wa Qa Qc r s h k _ => ?_⟩
  obtain ⟨d, hd, q⟩ := h
  obtain ⟨v, hv, dv⟩ := s.get i d hd
  exact ⟨v, hv, k _ _ _ _ _ _ Stp.refl r dv q⟩
/-- a list object of ours, taken as data from here on -/
def aTake (i : Nat) : ATE := fun _ ρ Ω Q => ∃ a xs, ρ[i]? = some (some (.o a)) ∧ Ω a = some (.lst xs) ∧ Q (.lst xs) (odel Ω a)
theorem sim_c {K : PySem.W.Frag} {v : V} {d : D} (h : ∀ G, DV K G v d) : SimE K ca W (tC v) (aC d) := fun σ H G own ρ Ω Wa Qa Qc r s h' k _ => k _ _ _ _ _ _ Stp.refl r (h G) h'
theorem ae_int {i j} : AE X ca W (.Constant (.int i) j pos) (tC (.int i)) (aC (.int i)) := ⟨pe_int, sim_c fun _ => .int i⟩
theorem ae_bl {i j} : AE X ca W (.Constant (.bool i) j pos) (tC (.bl i)) (aC (.bl i)) := ⟨pe_bl, sim_c fun _ => .bl i⟩
theorem ae_non {j} : AE X ca W (.Constant .none j pos) (tC .non) (aC .non) := ⟨pe_non, sim_c fun _ => .non⟩
theorem ae_str {i j} : AE X ca W (.Constant (.str i) j pos) (tC (.str i)) (aC (.str i)) := ⟨pe_str, sim_c fun _ => .str i⟩
theorem ae_globI {x : Str} {i : Int} {t : Tok} (hg : Gl X x) (hm : X.mg x = some (.int i t)) (hd : (x == ("__debug__" : Str)) = false := by decide) : AE X ca W (.Name x pos) (tC (.int i)) (aC (.int i)) := ⟨pe_glob hg hm ⟨_, rfl⟩ hd, sim_c fun _ => .int i⟩
def aOp (f : D → D → Om → AQ → Prop) (ra rb : ATE) : ATE := fun Wa ρ Ω Q => ra Wa ρ Ω fun x Ω1 => rb Wa ρ Ω1 fun y Ω2 => f x y Ω2 Q
/-- an operator's reading by values -/
def SimR (K : PySem.W.Frag) (ca : CA) (r : R2) (f : D → D → Om → AQ → Prop) : Prop := ∀ (H G : Hp) own Ω x y v w (Qa : AQ) (Qc : VK), Rel K ca G own H Ω → DV K G v x → DV K G w y → f x y Ω Qa →
  (∀ v H' G' own' d Ω', Stp G own H G' own' H' → Rel K ca G' own' H' Ω' → DV K G' v d → Qa d Ω' → Qc v H') → r v w H Qc
theorem sim_op {K : PySem.W.Frag} {r : R2} {f : D → D → Om → AQ → Prop} (h : SimR K ca r f) (sa : SimE K ca W ta ra) (sb : SimE K ca W tb rb) : SimE K ca W (tOp r ta tb) (aOp f ra rb) := fun σ H G own ρ Ω Wa Qa Qc r s h' k kx =>
  sa σ H G own ρ Ω Wa _ _ r s h' (fun v H1 G1 own1 d Ω1 e1 r1 dv1 q1 => sb σ H1 G1 own1 ρ Ω1 Wa _ _ r1 (s.mono e1.same) q1 (fun w H2 G2 own2 d2 Ω2 e2 r2 dv2 q2 =>
    h H2 G2 own2 Ω2 d d2 v w Qa Qc r2 (dv1.mono e2.same) dv2 q2 fun v3 H3 G3 own3 d3 Ω3 e3 => k v3 H3 G3 own3 d3 Ω3 ((e1.trans e2).trans e3)) (kx.mono e1)) kx
def fI (C : Int → Int → Prop) (g : Int → Int → Int) : D → D → Om → AQ → Prop := fun x y Ω Q => ∃ i j, x = .int i ∧ y = .int j ∧ C i j ∧ Q (.int (g i j)) Ω
def fB (g : Int → Int → Bool) : D → D → Om → AQ → Prop := fun x y Ω Q => ∃ i j, x = .int i ∧ y = .int j ∧ Q (.bl (g i j)) Ω
theorem simr_I {K : PySem.W.Frag} {C : Int → Int → Prop} {g : Int → Int → Int} : SimR K ca (rI C fun i j => .int (g i j)) (fI C g) := by
  intro H G own Ω x y v w Qa Qc r dx dy h k
  obtain ⟨i, j, rfl, rfl, c, q⟩ := h
  cases dx
  cases dy
  exact ⟨i, j, rfl, rfl, c, k _ _ _ _ _ _ Stp.refl r (.int _) q⟩
theorem simr_I0 {K : PySem.W.Frag} {g : Int → Int → Int} : SimR K ca (rI0 fun i j => .int (g i j)) (fI (fun _ _ => True) g) := by
  intro H G own Ω x y v w Qa Qc r dx dy h k
  obtain ⟨i, j, rfl, rfl, _, q⟩ := h
  cases dx
  cases dy
  exact ⟨i, j, rfl, rfl, k _ _ _ _ _ _ Stp.refl r (.int _) q⟩
theorem simr_B {K : PySem.W.Frag} {g : Int → Int → Bool} : SimR K ca (rI0 fun i j => .bl (g i j)) (fB g) := by
  intro H G own Ω x y v w Qa Qc r dx dy h k
  obtain ⟨i, j, rfl, rfl, q⟩ := h
  cases dx
  cases dy
  exact ⟨i, j, rfl, rfl, k _ _ _ _ _ _ Stp.refl r (.bl _) q⟩
def TT2 : Int → Int → Prop := fun _ _ => True
def aAdd := aOp (fI TT2 fun i j => i + j)
def aSub := aOp (fI TT2 fun i j => i - j)
def aMul := aOp (fI IntMulOk fun i j => i * j)
def NoPy (_ j : Int) : Prop := j ≠ 0
/-- nobody looks on, and there is room: where a wide division may go by a module of its own -/
class Seer (P : Program) (base : Heap) : Prop where
  no : base.NoSeer
  tree : P.given.tree = none
structure Div (X : Cx) : Prop where
  no : X.base.NoSeer
  tree : X.prog.given.tree = none
  top : ∃ env l, X.stack = env :: l ∧ env.scope.isGenerator = false ∧ env.scope.isCoroutine = false ∧ env.builtins = builtinsNs ∧ env.globals = mainGlobals
  dp : X.A.depth + 100 < recursionLimit
def aFdv := aOp (fI NoPy fun i j => i.fdiv j)
def aMod := aOp (fI (fun _ j => j ≠ 0) fun i j => i.fmod j)
def aPow := aOp (fI CPow fun i j => i ^ j.toNat)
theorem ae_add (ha : AE X ca W a ta ra) (hb : AE X ca W b tb rb) : AE X ca W (.BinOp a .Add b pos) (tOp (rI0 fun i j => .int (i + j)) ta tb) (aAdd ra rb) := ⟨pe_op op_add ha.pe hb.pe, sim_op simr_I0 ha.sim hb.sim⟩
theorem ae_sub (ha : AE X ca W a ta ra) (hb : AE X ca W b tb rb) : AE X ca W (.BinOp a .Sub b pos) (tOp (rI0 fun i j => .int (i - j)) ta tb) (aSub ra rb) := ⟨pe_op op_sub ha.pe hb.pe, sim_op simr_I0 ha.sim hb.sim⟩
theorem op_mulM : OpR X (binaryOp .Mult) (rI IntMulOk fun i j => .int (i * j)) := opI fun _ _ _ _ _ _ _ hc q => PyProof.Rows.mul_int q hc
theorem op_fdvP (d : Div X) : OpR X (binaryOp .FloorDiv) (rI NoPy fun i j => .int (i.fdiv j)) := by
  intro pins s σ H x y v u Q I rx ry hh
  obtain ⟨i, j, rfl, rfl, hc, q⟩ := hh
  obtain ⟨t1, rfl⟩ := rx
  obtain ⟨t2, rfl⟩ := ry
  obtain ⟨env, l, e, g1, g2, g3, g4⟩ := d.top
  refine PyProof.Rows.floordiv_int hc ⟨.int (i.fdiv j), H, I.tok _, ⟨_, rfl⟩, q⟩ (.inr (PySem.PylongRoom.of I.nolimit d.dp (PySem.SeerAt.of (env := env) (l := l) (d.no.keeps I.bk) d.tree (by rw [I.ok.frames, e]) g1 g2 g3 g4)))
theorem ae_mul (ha : AE X ca W a ta ra) (hb : AE X ca W b tb rb) : AE X ca W (.BinOp a .Mult b pos) (tOp (rI IntMulOk fun i j => .int (i * j)) ta tb) (aMul ra rb) := ⟨pe_op op_mulM ha.pe hb.pe, sim_op simr_I ha.sim hb.sim⟩
theorem ae_fdv (d : Div X) (ha : AE X ca W a ta ra) (hb : AE X ca W b tb rb) : AE X ca W (.BinOp a .FloorDiv b pos) (tOp (rI NoPy fun i j => .int (i.fdiv j)) ta tb) (aFdv ra rb) := ⟨pe_op (op_fdvP d) ha.pe hb.pe, sim_op simr_I ha.sim hb.sim⟩
theorem ae_mod (ha : AE X ca W a ta ra) (hb : AE X ca W b tb rb) : AE X ca W (.BinOp a .Mod b pos) (tOp (rI (fun _ j => j ≠ 0) fun i j => .int (i.fmod j)) ta tb) (aMod ra rb) := ⟨pe_op op_modN ha.pe hb.pe, sim_op simr_I ha.sim hb.sim⟩
def aShl1 := aOp (fun x y Ω Q => ∃ k : Nat, x = .int 1 ∧ y = .int k ∧ k ≤ 134217727 ∧ Q (.int (2 ^ k)) Ω)
theorem ae_shl1 (ha : AE X ca W a ta ra) (hb : AE X ca W b tb rb) : AE X ca W (.BinOp a .LShift b pos) (tOp (fun x y H Q => ∃ k : Nat, x = .int 1 ∧ y = .int (k : Int) ∧ k ≤ 134217727 ∧ Q (.int (2 ^ k)) H) ta tb) (aShl1 ra rb) := ⟨pe_op op_oneShl ha.pe hb.pe, sim_op (by
  intro H G own Ω x y v w Qa Qc r dx dy h k
  obtain ⟨n, rfl, rfl, c, q⟩ := h
  cases dx
  cases dy
  exact ⟨n, rfl, rfl, c, k _ _ _ _ _ _ Stp.refl r (.int _) q⟩) ha.sim hb.sim⟩
def aLt := aOp (fB fun i j => decide (i < j))
def aLe := aOp (fB fun i j => decide (i ≤ j))
def aGt := aOp (fB fun i j => decide (j < i))
def aGe := aOp (fB fun i j => decide (j ≤ i))
theorem ae_lt (ha : AE X ca W a ta ra) (hb : AE X ca W b tb rb) : AE X ca W (.Compare a [.Lt] [b] pos) (tOp (rI0 fun i j => .bl (decide (i < j))) ta tb) (aLt ra rb) := ⟨pe_cmpR op_lt ha.pe hb.pe (nomark _), sim_op simr_B ha.sim hb.sim⟩
theorem ae_le (ha : AE X ca W a ta ra) (hb : AE X ca W b tb rb) : AE X ca W (.Compare a [.LtE] [b] pos) (tOp (rI0 fun i j => .bl (decide (i ≤ j))) ta tb) (aLe ra rb) := ⟨pe_cmpR op_le ha.pe hb.pe (nomark _), sim_op simr_B ha.sim hb.sim⟩
theorem ae_gt (ha : AE X ca W a ta ra) (hb : AE X ca W b tb rb) : AE X ca W (.Compare a [.Gt] [b] pos) (tOp (rI0 fun i j => .bl (decide (j < i))) ta tb) (aGt ra rb) := ⟨pe_cmpR op_gt ha.pe hb.pe (nomark _), sim_op simr_B ha.sim hb.sim⟩
theorem ae_ge (ha : AE X ca W a ta ra) (hb : AE X ca W b tb rb) : AE X ca W (.Compare a [.GtE] [b] pos) (tOp (rI0 fun i j => .bl (decide (j ≤ i))) ta tb) (aGe ra rb) := ⟨pe_cmpR op_ge ha.pe hb.pe (nomark _), sim_op simr_B ha.sim hb.sim⟩
mutual
def D.py : D → Option PyData
  | .non => some .none
  | .bl b => some (.bool b)
  | .int i => some (.int i)
  | .str x => some (.str x)
  | .tup xs => (D.pys xs).map .tuple
  | .lst xs => (D.pys xs).map .list
  | .o _ => none
def D.pys : List D → Option (List PyData)
  | [] => some []
  | x :: xs => match D.py x, D.pys xs with
    | some p, some ps => some (p :: ps)
    | _, _ => none
end
mutual
theorem DV.dp {K : PySem.W.Frag} {G H : Hp} (e : Same G H) : ∀ {d : D} {v : V} {p : PyData}, DV K G v d → D.py d = some p → Dp K H v p
  | .non, _, _, h, q => by cases h; simp only [D.py, Option.some.injEq] at q; subst q; exact .non
  | .bl _, _, _, h, q => by cases h; simp only [D.py, Option.some.injEq] at q; subst q; exact .bl _
  | .int _, _, _, h, q => by cases h; simp only [D.py, Option.some.injEq] at q; subst q; exact .int _
  | .str _, _, _, h, q => by cases h; simp only [D.py, Option.some.injEq] at q; subst q; exact .str _
  | .o _, _, _, h, q => by simp [D.py] at q
  | .tup xs, _, _, h, q => by
    cases h with
    | tup a b =>
      simp only [D.py, Option.map_eq_some_iff] at q
      obtain ⟨ps, e1, rfl⟩ := q
      exact .tup (same_seqT e a) (DVs.dp e b e1)
  | .lst xs, _, _, h, q => by
    cases h with
    | lst a b =>
      simp only [D.py, Option.map_eq_some_iff] at q
      obtain ⟨ps, e1, rfl⟩ := q
      exact .lst (e.seq a) (DVs.dp e b e1)
theorem DVs.dp {K : PySem.W.Frag} {G H : Hp} (e : Same G H) : ∀ {d : List D} {v : List V} {p : List PyData}, DVs K G v d → D.pys d = some p → DpAll K H v p
  | [], _, _, h, q => by cases h; simp only [D.pys, Option.some.injEq] at q; subst q; exact .nil
  | x :: xs, _, _, h, q => by
    cases h with
    | cons h1 h2 =>
      simp only [D.pys] at q
      cases e1 : D.py x with
      | none => rw [e1] at q; cases q
      | some p =>
        cases e2 : D.pys xs with
        | none => rw [e1, e2] at q; cases q
        | some ps =>
          rw [e1, e2] at q
          simp only [Option.some.injEq] at q
          subst q
          exact .cons (DV.dp e h1 e1) (DVs.dp e h2 e2)
end
def fEq (neg : Bool) : D → D → Om → AQ → Prop := fun x y Ω Q => ∃ p q, x.py = some p ∧ y.py = some q ∧ SeqAt.shaped p = true ∧ SeqAt.shaped q = true ∧ Q (.bl (if neg then !PyData.eqv p q else PyData.eqv p q)) Ω
theorem simr_eqD {K : PySem.W.Frag} : SimR K ca (rEqD K) (fEq false) := by
  intro H G own Ω x y v w Qa Qc r dx dy h k
  obtain ⟨p, q, e1, e2, s1, s2, h⟩ := h
  exact ⟨p, q, dx.dp r.sub e1, dy.dp r.sub e2, s1, s2, k _ _ _ _ _ _ Stp.refl r (.bl _) h⟩
theorem simr_neD {K : PySem.W.Frag} : SimR K ca (rNeD K) (fEq true) := by
  intro H G own Ω x y v w Qa Qc r dx dy h k
  obtain ⟨p, q, e1, e2, s1, s2, h⟩ := h
  exact ⟨p, q, dx.dp r.sub e1, dy.dp r.sub e2, s1, s2, k _ _ _ _ _ _ Stp.refl r (.bl _) h⟩
def aEqD := aOp (fEq false)
def aNeD := aOp (fEq true)
theorem ae_eqD (hu : X.A.units + 64 < cLine) (ha : AE X ca W a ta ra) (hb : AE X ca W b tb rb) : AE X ca W (.Compare a [.Eq] [b] pos) (tOp (rEqD X.K) ta tb) (aEqD ra rb) := ⟨pe_cmpR (op_eqD hu) ha.pe hb.pe (nomark _), sim_op simr_eqD ha.sim hb.sim⟩
/-- == and != of two ints -/
def aEqI := aOp (fB fun i j => decide (i = j))
def aNeI := aOp (fB fun i j => !decide (i = j))
theorem simr_eqI {K : PySem.W.Frag} : SimR K ca rEq (fB fun i j => decide (i = j)) := by
  intro H G own Ω x y v w Qa Qc r dx dy h k
  obtain ⟨i, j, rfl, rfl, q⟩ := h
  cases dx
  cases dy
  have e : decide (V.int i = V.int j) = decide (i = j) := by simp
  exact ⟨rfl, k _ _ _ _ (.bl (decide (i = j))) _ Stp.refl r (e ▸ .bl _) q⟩
theorem simr_neI {K : PySem.W.Frag} : SimR K ca rNe (fB fun i j => !decide (i = j)) := by
  intro H G own Ω x y v w Qa Qc r dx dy h k
  obtain ⟨i, j, rfl, rfl, q⟩ := h
  cases dx
  cases dy
  have e : decide (V.int i = V.int j) = decide (i = j) := by simp
  exact ⟨rfl, k _ _ _ _ (.bl (!decide (i = j))) _ Stp.refl r (e ▸ .bl _) q⟩
theorem ae_eqI (ha : AE X ca W a ta ra) (hb : AE X ca W b tb rb) : AE X ca W (.Compare a [.Eq] [b] pos) (tOp rEq ta tb) (aEqI ra rb) := ⟨pe_cmpR op_eq ha.pe hb.pe (nomark _), sim_op simr_eqI ha.sim hb.sim⟩
theorem ae_neI (ha : AE X ca W a ta ra) (hb : AE X ca W b tb rb) : AE X ca W (.Compare a [.NotEq] [b] pos) (tOp rNe ta tb) (aNeI ra rb) := ⟨pe_cmpR op_ne ha.pe hb.pe (nomark _), sim_op simr_neI ha.sim hb.sim⟩
/-- == of two texts -/
def aEqS := aOp (fun x y Ω Q => ∃ i j, x = .str i ∧ y = .str j ∧ Q (.bl (decide (i = j))) Ω)
def aNeS := aOp (fun x y Ω Q => ∃ i j, x = .str i ∧ y = .str j ∧ Q (.bl (!decide (i = j))) Ω)
theorem ae_eqS (ha : AE X ca W a ta ra) (hb : AE X ca W b tb rb) : AE X ca W (.Compare a [.Eq] [b] pos) (tOp rEq ta tb) (aEqS ra rb) := ⟨pe_cmpR op_eq ha.pe hb.pe (nomark _), sim_op (by
  intro H G own Ω x y v w Qa Qc r dx dy h k
  obtain ⟨i, j, rfl, rfl, q⟩ := h
  cases dx
  cases dy
  have e : decide (V.str i = V.str j) = decide (i = j) := by simp
  exact ⟨rfl, k _ _ _ _ (.bl (decide (i = j))) _ Stp.refl r (e ▸ .bl _) q⟩) ha.sim hb.sim⟩
theorem ae_neS (ha : AE X ca W a ta ra) (hb : AE X ca W b tb rb) : AE X ca W (.Compare a [.NotEq] [b] pos) (tOp rNe ta tb) (aNeS ra rb) := ⟨pe_cmpR op_ne ha.pe hb.pe (nomark _), sim_op (by
  intro H G own Ω x y v w Qa Qc r dx dy h k
  obtain ⟨i, j, rfl, rfl, q⟩ := h
  cases dx
  cases dy
  have e : decide (V.str i = V.str j) = decide (i = j) := by simp
  exact ⟨rfl, k _ _ _ _ (.bl (!decide (i = j))) _ Stp.refl r (e ▸ .bl _) q⟩) ha.sim hb.sim⟩
/-- is None, is not None -/
def D.isNon : D → Bool
  | .non => true
  | _ => false
theorem DV.isNon {K : PySem.W.Frag} {G : Hp} {v : V} {d : D} (h : DV K G v d) : decide (v = .non) = d.isNon := by cases h <;> simp [D.isNon]
def aIsN (ra : ATE) : ATE := fun Wa ρ Ω Q => ra Wa ρ Ω fun x Ω1 => Q (.bl x.isNon) Ω1
def aNotN (ra : ATE) : ATE := fun Wa ρ Ω Q => ra Wa ρ Ω fun x Ω1 => Q (.bl (!x.isNon)) Ω1
def aB (ra : ATE) : ATT := fun Wa ρ Ω Q => ra Wa ρ Ω fun x Ω1 => ∃ c, x = .bl c ∧ Q c Ω1
theorem at_val (ha : AE X ca W e te re) (he : ∀ whole, isTrue e X.env whole = (do let v ← whole; standAt e.pos; holding [v] (truthy v)) := by intro _; rfl) : AT X ca W e (tB te) (aB re) := ⟨pt_val ha.pe he, fun σ H G own ρ Ω Wa Qa Qc r s h k kx => ha.sim σ H G own ρ Ω Wa _ _ r s h (fun v H1 G1 own1 d Ω1 e1 r1 dv1 q1 => by
  obtain ⟨c, rfl, q⟩ := q1
  cases dv1
  exact ⟨c, rfl, k _ _ _ _ _ e1 r1 q⟩) kx⟩
/-- a comparison as a test, by its rule -/
theorem at_cmp {op : CmpOp} {r : R2} {f : D → D → Om → AQ → Prop} (ho : OpR X (compareOp op) r) (hf : SimR X.K ca r f) (ha : AE X ca W a ta ra) (hb : AE X ca W b tb rb) (hm : behindInMarks op b = false) : AT X ca W (.Compare a [op] [b] pos) (tTest (tOp r ta tb)) (aB (aOp f ra rb)) :=
  ⟨pt_cmpR ho ha.pe hb.pe hm, fun σ H G own ρ Ω Wa Qa Qc r s h k kx => sim_op hf ha.sim hb.sim σ H G own ρ Ω Wa _ _ r s h (fun v H1 G1 own1 d Ω1 e1 r1 dv1 q1 => by
  obtain ⟨c, rfl, q⟩ := q1
  cases dv1
  exact ⟨c, rfl, k _ _ _ _ _ e1 r1 q⟩) kx⟩
theorem at_lt (ha : AE X ca W a ta ra) (hb : AE X ca W b tb rb) : AT X ca W (.Compare a [.Lt] [b] pos) (tTest (tOp (rI0 fun i j => .bl (decide (i < j))) ta tb)) (aB (aLt ra rb)) := at_cmp op_lt simr_B ha hb (nomark _)
theorem at_le (ha : AE X ca W a ta ra) (hb : AE X ca W b tb rb) : AT X ca W (.Compare a [.LtE] [b] pos) (tTest (tOp (rI0 fun i j => .bl (decide (i ≤ j))) ta tb)) (aB (aLe ra rb)) := at_cmp op_le simr_B ha hb (nomark _)
theorem at_gt (ha : AE X ca W a ta ra) (hb : AE X ca W b tb rb) : AT X ca W (.Compare a [.Gt] [b] pos) (tTest (tOp (rI0 fun i j => .bl (decide (j < i))) ta tb)) (aB (aGt ra rb)) := at_cmp op_gt simr_B ha hb (nomark _)
theorem at_ge (ha : AE X ca W a ta ra) (hb : AE X ca W b tb rb) : AT X ca W (.Compare a [.GtE] [b] pos) (tTest (tOp (rI0 fun i j => .bl (decide (j ≤ i))) ta tb)) (aB (aGe ra rb)) := at_cmp op_ge simr_B ha hb (nomark _)
theorem at_eqI (ha : AE X ca W a ta ra) (hb : AE X ca W b tb rb) : AT X ca W (.Compare a [.Eq] [b] pos) (tTest (tOp rEq ta tb)) (aB (aEqI ra rb)) := at_cmp op_eq simr_eqI ha hb (nomark _)
theorem at_neI (ha : AE X ca W a ta ra) (hb : AE X ca W b tb rb) : AT X ca W (.Compare a [.NotEq] [b] pos) (tTest (tOp rNe ta tb)) (aB (aNeI ra rb)) := at_cmp op_ne simr_neI ha hb (nomark _)
theorem at_eqD (hu : X.A.units + 64 < cLine) (ha : AE X ca W a ta ra) (hb : AE X ca W b tb rb) : AT X ca W (.Compare a [.Eq] [b] pos) (tTest (tOp (rEqD X.K) ta tb)) (aB (aEqD ra rb)) := at_cmp (op_eqD hu) simr_eqD ha hb (nomark _)
theorem at_neD (hu : X.A.units + 64 < cLine) (ha : AE X ca W a ta ra) (hb : AE X ca W b tb rb) : AT X ca W (.Compare a [.NotEq] [b] pos) (tTest (tOp (rNeD X.K) ta tb)) (aB (aNeD ra rb)) := at_cmp (op_neD hu) simr_neD ha hb (nomark _)
theorem at_isN {j pos'} (ha : AE X ca W a ta ra) : AT X ca W (.Compare a [.Is] [.Constant .none j pos'] pos) (tB (tIsN ta)) (aB (aIsN ra)) := ⟨pt_cmp (pc_isN ha.pe) (nomark _), fun σ H G own ρ Ω Wa Qa Qc r s h k kx => ha.sim σ H G own ρ Ω Wa _ _ r s h (fun v H1 G1 own1 d Ω1 e1 r1 dv1 q1 => by
  obtain ⟨c, e, q⟩ := q1
  cases e
  exact ⟨d.isNon, by rw [dv1.isNon], k _ _ _ _ _ e1 r1 q⟩) kx⟩
theorem at_notN {j pos'} (ha : AE X ca W a ta ra) : AT X ca W (.Compare a [.IsNot] [.Constant .none j pos'] pos) (tB (tNotN ta)) (aB (aNotN ra)) := ⟨pt_cmp (pc_notN ha.pe) (nomark _), fun σ H G own ρ Ω Wa Qa Qc r s h k kx => ha.sim σ H G own ρ Ω Wa _ _ r s h (fun v H1 G1 own1 d Ω1 e1 r1 dv1 q1 => by
  obtain ⟨c, e, q⟩ := q1
  cases e
  exact ⟨!d.isNon, by rw [dv1.isNon], k _ _ _ _ _ e1 r1 q⟩) kx⟩
variable {tt tu : TT} {rt ru : ATT} {rest : List Expr}
def aAnd (t u : ATT) : ATT := fun Wa ρ Ω Q => t Wa ρ Ω fun c Ω1 => if c = true then u Wa ρ Ω1 Q else Q false Ω1
def aOr (t u : ATT) : ATT := fun Wa ρ Ω Q => t Wa ρ Ω fun c Ω1 => if c = true then Q true Ω1 else u Wa ρ Ω1 Q
def aNot (t : ATT) : ATT := fun Wa ρ Ω Q => t Wa ρ Ω fun c Ω1 => Q (!c) Ω1
theorem sim_and {K : PySem.W.Frag} (h1 : SimT K ca W tt rt) (h2 : SimT K ca W tu ru) : SimT K ca W (tAnd tt tu) (aAnd rt ru) := fun σ H G own ρ Ω Wa Qa Qc r s h k kx => h1 σ H G own ρ Ω Wa _ _ r s h (fun c H1 G1 own1 Ω1 e1 r1 q1 => by
  cases c with
  | true => exact h2 σ H1 G1 own1 ρ Ω1 Wa _ _ r1 (s.mono e1.same) q1 (fun c H2 G2 own2 Ω2 e2 => k c H2 G2 own2 Ω2 (e1.trans e2)) (kx.mono e1)
  | false => exact k _ _ _ _ _ e1 r1 q1) kx
theorem sim_or {K : PySem.W.Frag} (h1 : SimT K ca W tt rt) (h2 : SimT K ca W tu ru) : SimT K ca W (tOr tt tu) (aOr rt ru) := fun σ H G own ρ Ω Wa Qa Qc r s h k kx => h1 σ H G own ρ Ω Wa _ _ r s h (fun c H1 G1 own1 Ω1 e1 r1 q1 => by
  cases c with
  | false => exact h2 σ H1 G1 own1 ρ Ω1 Wa _ _ r1 (s.mono e1.same) q1 (fun c H2 G2 own2 Ω2 e2 => k c H2 G2 own2 Ω2 (e1.trans e2)) (kx.mono e1)
  | true => exact k _ _ _ _ _ e1 r1 q1) kx
theorem aw_and1 (ha : AT X ca W a tt rt) : AWt X ca W (.BoolOp .And [a] pos) tt rt := ⟨pw_and1 ha.pe, ha.sim⟩
theorem aw_or1 (ha : AT X ca W a tt rt) : AWt X ca W (.BoolOp .Or [a] pos) tt rt := ⟨pw_or1 ha.pe, ha.sim⟩
theorem aw_and (ha : AT X ca W a tt rt) (hb : AWt X ca W (.BoolOp .And (b :: rest) pos) tu ru) : AWt X ca W (.BoolOp .And (a :: b :: rest) pos) (tAnd tt tu) (aAnd rt ru) := ⟨pw_and ha.pe hb.pe, sim_and ha.sim hb.sim⟩
theorem aw_or (ha : AT X ca W a tt rt) (hb : AWt X ca W (.BoolOp .Or (b :: rest) pos) tu ru) : AWt X ca W (.BoolOp .Or (a :: b :: rest) pos) (tOr tt tu) (aOr rt ru) := ⟨pw_or ha.pe hb.pe, sim_or ha.sim hb.sim⟩
theorem AWt.at_ (h : AWt X ca W a tt rt) : AT X ca W a tt rt := ⟨h.pe.pt, h.sim⟩
theorem at_not (ha : AT X ca W a tt rt) : AT X ca W (.UnaryOp .Not a pos) (tNot tt) (aNot rt) := ⟨pt_not ha.pe, fun σ H G own ρ Ω Wa Qa Qc r s h k kx => ha.sim σ H G own ρ Ω Wa _ _ r s h (fun c H1 G1 own1 Ω1 e1 r1 q1 => k _ _ _ _ _ e1 r1 q1) kx⟩
/-- .. as values -/
def aAndV (ra rb : ATE) : ATE := fun Wa ρ Ω Q => ra Wa ρ Ω fun x Ω1 => ∃ c, x = .bl c ∧ if c = true then rb Wa ρ Ω1 Q else Q (.bl false) Ω1
def aOrV (ra rb : ATE) : ATE := fun Wa ρ Ω Q => ra Wa ρ Ω fun x Ω1 => ∃ c, x = .bl c ∧ if c = true then Q (.bl true) Ω1 else rb Wa ρ Ω1 Q
def aNotV (ra : ATE) : ATE := fun Wa ρ Ω Q => ra Wa ρ Ω fun x Ω1 => ∃ c, x = .bl c ∧ Q (.bl (!c)) Ω1
theorem ae_one {op} (ha : AE X ca W a ta ra) : AE X ca W (.BoolOp op [a] pos) ta ra := ⟨pe_one ha.pe, ha.sim⟩
theorem ae_and (ha : AE X ca W a ta ra) (hb : AE X ca W (.BoolOp .And (b :: rest) pos) tb rb) : AE X ca W (.BoolOp .And (a :: b :: rest) pos) (tAndV ta tb) (aAndV ra rb) := ⟨pe_and ha.pe hb.pe, fun σ H G own ρ Ω Wa Qa Qc r s h k kx => ha.sim σ H G own ρ Ω Wa _ _ r s h (fun v H1 G1 own1 d Ω1 e1 r1 dv1 q1 => by
  obtain ⟨c, rfl, q⟩ := q1
  cases dv1
  refine ⟨c, rfl, ?_⟩
  cases c with
  | true => exact hb.sim σ H1 G1 own1 ρ Ω1 Wa _ _ r1 (s.mono e1.same) q (fun v H2 G2 own2 d Ω2 e2 => k v H2 G2 own2 d Ω2 (e1.trans e2)) (kx.mono e1)
  | false => exact k _ _ _ _ _ _ e1 r1 (.bl _) q) kx⟩
theorem ae_or (ha : AE X ca W a ta ra) (hb : AE X ca W (.BoolOp .Or (b :: rest) pos) tb rb) : AE X ca W (.BoolOp .Or (a :: b :: rest) pos) (tOrV ta tb) (aOrV ra rb) := ⟨pe_or ha.pe hb.pe, fun σ H G own ρ Ω Wa Qa Qc r s h k kx => ha.sim σ H G own ρ Ω Wa _ _ r s h (fun v H1 G1 own1 d Ω1 e1 r1 dv1 q1 => by
  obtain ⟨c, rfl, q⟩ := q1
  cases dv1
  refine ⟨c, rfl, ?_⟩
  cases c with
  | false => exact hb.sim σ H1 G1 own1 ρ Ω1 Wa _ _ r1 (s.mono e1.same) q (fun v H2 G2 own2 d Ω2 e2 => k v H2 G2 own2 d Ω2 (e1.trans e2)) (kx.mono e1)
  | true => exact k _ _ _ _ _ _ e1 r1 (.bl _) q) kx⟩
theorem ae_notV (ha : AE X ca W a ta ra) : AE X ca W (.UnaryOp .Not a pos) (tNotV ta) (aNotV ra) := ⟨pe_not ha.pe, fun σ H G own ρ Ω Wa Qa Qc r s h k kx => ha.sim σ H G own ρ Ω Wa _ _ r s h (fun v H1 G1 own1 d Ω1 e1 r1 dv1 q1 => by
  obtain ⟨c, rfl, q⟩ := q1
  cases dv1
  exact ⟨c, rfl, k _ _ _ _ _ _ e1 r1 (.bl _) q⟩) kx⟩
def aIf (t : ATT) (ra rb : ATE) : ATE := fun Wa ρ Ω Q => t Wa ρ Ω fun c Ω1 => if c = true then ra Wa ρ Ω1 Q else rb Wa ρ Ω1 Q
variable {es : List Expr} {tr : TA} {rr : ATA}
def aNil : ATA := fun _ _ Ω Q => Q [] Ω
def aCons (ra : ATE) (rr : ATA) : ATA := fun Wa ρ Ω Q => ra Wa ρ Ω fun x Ω1 => rr Wa ρ Ω1 fun xs Ω2 => Q (x :: xs) Ω2
theorem aa_nil : AA X ca W [] tNil aNil := ⟨pa_nil, fun σ H G own ρ Ω Wa Qa Qc r s h k kx => k _ _ _ _ _ _ Stp.refl r .nil h⟩
theorem aa_cons (ha : AE X ca W e te re) (hr : AA X ca W es tr rr) (hs : starEach (e :: es) X.env = (false, eval e X.env) :: starEach es X.env := by rfl) : AA X ca W (e :: es) (tCons te tr) (aCons re rr) := ⟨pa_cons ha.pe hr.pe hs, fun σ H G own ρ Ω Wa Qa Qc r s h k kx =>
  ha.sim σ H G own ρ Ω Wa _ _ r s h (fun v H1 G1 own1 d Ω1 e1 r1 dv1 q1 => hr.sim σ H1 G1 own1 ρ Ω1 Wa _ _ r1 (s.mono e1.same) q1 (fun vs H2 G2 own2 ds Ω2 e2 r2 dv2 q2 => k _ _ _ _ _ _ (e1.trans e2) r2 (.cons (dv1.mono e2.same) dv2) q2) (kx.mono e1)) kx⟩
def aTup (rr : ATA) : ATE := fun Wa ρ Ω Q => rr Wa ρ Ω fun xs Ω1 => xs.length ≤ sizeLine ∧ Q (.tup xs) Ω1
def aLst (rr : ATA) : ATE := fun Wa ρ Ω Q => rr Wa ρ Ω fun xs Ω1 => xs.length ≤ sizeLine ∧ Q (.lst xs) Ω1
def aLstO (rr : ATA) : ATE := fun Wa ρ Ω Q => rr Wa ρ Ω fun xs Ω1 => xs.length ≤ sizeLine ∧ ∀ p, Ω1 p = none → Q (.o p) (oset Ω1 p (.lst xs))
theorem ae_tup {x1} (h : AA X ca W es tr rr) : AE X ca W (.Tuple es x1 pos) (tTup tr) (aTup rr) := ⟨pe_tup h.pe, fun σ H G own ρ Ω Wa Qa Qc r s h' k kx => h.sim σ H G own ρ Ω Wa _ _ r s h' (fun v H1 G1 own1 d Ω1 e1 r1 dv1 q1 => by
  refine ⟨by rw [dv1.length]; exact q1.1, fun p hp => ?_⟩
  obtain ⟨r2, e2⟩ := r1.data (u := .tup v) hp
  exact k _ _ _ _ _ _ (e1.trans (stp_data e2 hp)) r2 (.tup (SqT.of upd_same) (dv1.mono e2)) q1.2) kx⟩
theorem ae_lst (h : AA X ca W es tr rr) : AE X ca W (.List es pos) (tLst tr) (aLst rr) := ⟨pe_lst h.pe, fun σ H G own ρ Ω Wa Qa Qc r s h' k kx => h.sim σ H G own ρ Ω Wa _ _ r s h' (fun v H1 G1 own1 d Ω1 e1 r1 dv1 q1 => by
  refine ⟨by rw [dv1.length]; exact q1.1, fun p hp => ?_⟩
  obtain ⟨r2, e2⟩ := r1.data (u := .lst v) hp
  exact k _ _ _ _ _ _ (e1.trans (stp_data e2 hp)) r2 (.lst (SqL.of upd_same) (dv1.mono e2)) q1.2) kx⟩
theorem ae_lstO (h : AA X ca W es tr rr) : AE X ca W (.List es pos) (tLst tr) (aLstO rr) := ⟨pe_lst h.pe, fun σ H G own ρ Ω Wa Qa Qc r s h' k kx => h.sim σ H G own ρ Ω Wa _ _ r s h' (fun v H1 G1 own1 d Ω1 e1 r1 dv1 q1 => by
  refine ⟨by rw [dv1.length]; exact q1.1, fun p hp => ?_⟩
  exact k _ _ _ _ _ _ (e1.trans (stp_new hp)) (r1.newLst hp dv1) (.o p) (q1.2 p (r1.fresh hp))) kx⟩
end
end PL
namespace PL
open PySem L2
section
variable {X : Cx} {ca : CA} {W : WX} {a b e : Expr} {es : List Expr} {ta tb te : TE} {ra rb re : ATE} {tr : TA} {rr : ATA} {pos : Pos}
/-- the items of data, or of a list of ours -/
def D.seq (Ω : Om) : D → Option (List D)
  | .lst xs => some xs
  | .tup xs => some xs
  | .o a => match Ω a with
    | some (.lst xs) => some xs
    | _ => none
  | _ => none
def fIx : D → D → Om → AQ → Prop := fun x y Ω Q => ∃ xs i d, x.seq Ω = some xs ∧ y = .int i ∧ atI xs i = some d ∧ Q d Ω
theorem atI_dv {K : PySem.W.Frag} {G : Hp} {vs : List V} {ds : List D} {i : Int} {d : D} (h : DVs K G vs ds) (e : atI ds i = some d) : ∃ v, atI vs i = some v ∧ DV K G v d := by
  unfold atI at e ⊢
  rw [h.length]
  cases q : ixN ds.length i with
  | none => rw [q] at e; cases e
  | some j => rw [q] at e; exact h.get (i := j) e
theorem Rel.lstAt {K : PySem.W.Frag} {G H : Hp} {own : Addr → Option Addr} {Ω : Om} {p : Addr} {xs : List D} (r : Rel K ca G own H Ω) (e : Ω p = some (.lst xs)) : ∃ vs, H p = some (.lst vs) ∧ DVs K G vs xs := (r.objs p _ e).2
/-- a sequence is read -/
theorem seq_of {K : PySem.W.Frag} {G H : Hp} {own : Addr → Option Addr} {Ω : Om} {v : V} {x : D} {xs : List D} (r : Rel K ca G own H Ω) (dv : DV K G v x) (h : x.seq Ω = some xs) : ∃ p vs, v = .ref p ∧ DVs K G vs xs ∧ (SqL K H p vs ∨ SqT K H p vs) := by
  cases dv with
  | lst a b => simp only [D.seq, Option.some.injEq] at h; subst h; exact ⟨_, _, rfl, b, .inl (r.sub.seq a)⟩
  | tup a b => simp only [D.seq, Option.some.injEq] at h; subst h; exact ⟨_, _, rfl, b, .inr (same_seqT r.sub a)⟩
  | o a =>
    cases q : Ω a with
    | none => simp only [D.seq, q] at h; cases h
    | some u =>
      cases u with
      | lst ys =>
        simp only [D.seq, q, Option.some.injEq] at h; subst h
        obtain ⟨vs, hv, dv⟩ := r.lstAt q
        exact ⟨_, vs, rfl, dv, .inl (SqL.of hv)⟩
      | row => simp only [D.seq, q] at h; cases h
      | dic _ => simp only [D.seq, q] at h; cases h
      | obj _ _ => simp only [D.seq, q] at h; cases h
  | _ => simp [D.seq] at h
def rIx2 (K : PySem.W.Frag) : R2 := fun x y H Q => rIxL K x y H Q ∨ rIxT K x y H Q
theorem ix_two : IxR X (rIx2 X.K) := ix_list.or ix_tup
theorem simr_ix {K : PySem.W.Frag} : SimR K ca (rIx2 K) fIx := by
  intro H G own Ω x y v w Qa Qc r dx dy h k
  obtain ⟨xs, i, d, hs, rfl, ha, q⟩ := h
  cases dy
  obtain ⟨p, vs, rfl, ds, hv⟩ := seq_of r dx hs
  obtain ⟨u, hu, du⟩ := atI_dv ds ha
  rcases hv with hv | hv
  · exact .inl ⟨p, vs, i, u, rfl, rfl, hv, hu, k _ _ _ _ _ _ Stp.refl r du q⟩
  · exact .inr ⟨p, vs, i, u, rfl, rfl, hv, hu, k _ _ _ _ _ _ Stp.refl r du q⟩
def aIx := aOp fIx
theorem ae_ix (ha : AE X ca W a ta ra) (hb : AE X ca W b tb rb) (hs : PlainIx b := by exact fun _ _ => rfl) : AE X ca W (.Subscript a b pos) (tOp (rIx2 X.K) ta tb) (aIx ra rb) := ⟨pe_ix ix_two ha.pe hb.pe hs, sim_op simr_ix ha.sim hb.sim⟩
abbrev ATO := AW → En → Om → (Option Int → Om → Prop) → Prop
structure AO' (X : Cx) (ca : CA) (W : WX) (e : Option Expr) (te : TO) (ta : ATO) : Prop where
  pe : PO X e te
  sim : ∀ (σ : St) (H : Hp) (G : Hp) (own : Addr → Option Addr) (ρ : En) (Ω : Om) (Wa : AW) (Qa : Option Int → Om → Prop) (Qc : Option Int → Hp → Prop), Rel X.K ca G own H Ω → SR X.K G σ ρ → ta Wa ρ Ω Qa →
    (∀ i H' G' own' Ω', Stp G own H G' own' H' → Rel X.K ca G' own' H' Ω' → Qa i Ω' → Qc i H') → KX X.K ca W G own H σ ρ Wa → te σ H Qc
def aNoPart : ATO := fun _ _ Ω Q => Q none Ω
def aPart (ra : ATE) : ATO := fun Wa ρ Ω Q => ra Wa ρ Ω fun x Ω1 => ∃ i, x = .int i ∧ Q (some i) Ω1
theorem ao_none : AO' X ca W none tNoPart aNoPart := ⟨po_none, fun σ H G own ρ Ω Wa Qa Qc r s h k _ => k _ _ _ _ _ Stp.refl r h⟩
theorem ao_some (ha : AE X ca W e te re) : AO' X ca W (some e) (tPart te) (aPart re) := ⟨po_some ha.pe, fun σ H G own ρ Ω Wa Qa Qc r s h k kx => ha.sim σ H G own ρ Ω Wa _ _ r s h (fun v H1 G1 own1 d Ω1 e1 r1 dv1 q1 => by
  obtain ⟨i, rfl, q⟩ := q1
  cases dv1
  exact ⟨i, rfl, k _ _ _ _ _ e1 r1 q⟩) kx⟩
def cutD (xs : List D) (lo hi : Option Int) : List D := (xs.drop (HT.sIx xs.length 0 lo)).take (HT.sIx xs.length xs.length hi - HT.sIx xs.length 0 lo)
theorem DVs.cut {K : PySem.W.Frag} {G : Hp} {vs : List V} {ds : List D} (h : DVs K G vs ds) (lo hi : Option Int) : DVs K G (cutV vs lo hi) (cutD ds lo hi) := by
  unfold cutV cutD
  rw [h.length]
  exact (h.drop _).take _
/-- a part of a list, as data; of a tuple -/
def aSl (ra : ATE) (rl rh : ATO) : ATE := fun Wa ρ Ω Q => ra Wa ρ Ω fun x Ω1 => rl Wa ρ Ω1 fun lo Ω2 => rh Wa ρ Ω2 fun hi Ω3 => (∃ xs, (x = .lst xs ∨ ∃ a, x = .o a ∧ Ω3 a = some (.lst xs)) ∧ Q (.lst (cutD xs lo hi)) Ω3) ∨ ∃ xs, x = .tup xs ∧ Q (.tup (cutD xs lo hi)) Ω3
def rSl2 (K : PySem.W.Frag) : V → Option Int → Option Int → Hp → VK → Prop := fun x lo hi H Q => rSlL K x lo hi H Q ∨ rSlA K x lo hi H Q
theorem sl_two : SlR X (rSl2 X.K) := sl_list.or sl_tupA
theorem cut_all {α : Type} {xs : List α} {lo hi : Option Int} (h : HT.sIx xs.length 0 lo = 0 ∧ HT.sIx xs.length xs.length hi = xs.length) : (xs.drop (HT.sIx xs.length 0 lo)).take (HT.sIx xs.length xs.length hi - HT.sIx xs.length 0 lo) = xs := by
  rw [h.1, h.2, List.drop_zero, Nat.sub_zero, List.take_length]
theorem ae_sl {lo hi : Option Expr} {p2 : Pos} {tl th : TO} {rl rh : ATO} (ha : AE X ca W e te re) (hl : AO' X ca W lo tl rl) (hh : AO' X ca W hi th rh) : AE X ca W (.Subscript e (.Slice lo hi none p2) pos) (tSl (rSl2 X.K) te tl th) (aSl re rl rh) :=
  ⟨pe_slice sl_two ha.pe hl.pe hh.pe, fun σ H G own ρ Ω Wa Qa Qc r s h k kx => ha.sim σ H G own ρ Ω Wa _ _ r s h (fun v H1 G1 own1 d Ω1 e1 r1 dv1 q1 =>
    hl.sim σ H1 G1 own1 ρ Ω1 Wa _ _ r1 (s.mono e1.same) q1 (fun i H2 G2 own2 Ω2 e2 r2 q2 => hh.sim σ H2 G2 own2 ρ Ω2 Wa _ _ r2 (s.mono (e1.trans e2).same) q2 (fun j H3 G3 own3 Ω3 e3 r3 q3 => by
      have e23 := e2.trans e3
      have e123 := e1.trans e23
      rcases q3 with ⟨xs, hx, q⟩ | ⟨xs, rfl, q⟩
      · obtain ⟨p, vs, rfl, ds, hv⟩ : ∃ p vs, v = .ref p ∧ DVs X.K G3 vs xs ∧ SqL X.K H3 p vs := by
          rcases hx with rfl | ⟨a, rfl, ha⟩
          · cases dv1 with
            | lst a b => exact ⟨_, _, rfl, b.mono e23.same, r3.sub.seq (e23.same.seq a)⟩
          · cases dv1
            obtain ⟨vs, hv, dv⟩ := r3.lstAt ha
            exact ⟨_, vs, rfl, dv, SqL.of hv⟩
        refine .inl ⟨p, vs, rfl, hv, fun q' hq => ?_⟩
        obtain ⟨r4, e4⟩ := r3.data (u := .lst (cutV vs i j)) hq
        exact k _ _ _ _ _ _ (e123.trans (stp_data e4 hq)) r4 (.lst (SqL.of upd_same) ((ds.cut i j).mono e4)) q
      · cases dv1 with
        | tup a b =>
          rename_i p vs
          refine .inr ⟨p, vs, rfl, same_seqT r3.sub (same_seqT e23.same a), fun hw => ?_, fun hw q' hq => ?_⟩
          · have hl := b.length
            rw [hl] at hw
            have e : cutD xs i j = xs := cut_all hw
            rw [e] at q
            exact k _ _ _ _ _ _ e123 r3 (.tup (same_seqT e23.same a) (b.mono e23.same)) q
          · obtain ⟨r4, e4⟩ := r3.data (u := .tup (cutV vs i j)) hq
            exact k _ _ _ _ _ _ (e123.trans (stp_data e4 hq)) r4 (.tup (SqT.of upd_same) (((b.mono e23.same).cut i j).mono e4)) q) ((kx.mono e1).mono e2)) (kx.mono e1)) kx⟩
def SimC (K : PySem.W.Frag) (ca : CA) (r : List V → Hp → VK → Prop) (f : List D → Om → AQ → Prop) : Prop := ∀ (H G : Hp) own Ω xs vs (Qa : AQ) (Qc : VK), Rel K ca G own H Ω → DVs K G vs xs → f xs Ω Qa →
  (∀ v H' G' own' d Ω', Stp G own H G' own' H' → Rel K ca G' own' H' Ω' → DV K G' v d → Qa d Ω' → Qc v H') → r vs H Qc
def aCall (f : List D → Om → AQ → Prop) (rr : ATA) : ATE := fun Wa ρ Ω Q => rr Wa ρ Ω fun xs Ω1 => f xs Ω1 Q
theorem sim_call {K : PySem.W.Frag} {r : List V → Hp → VK → Prop} {f : List D → Om → AQ → Prop} (h : SimC K ca r f) (sa : SimA K ca W tr rr) : SimE K ca W (tCB r tr) (aCall f rr) := fun σ H G own ρ Ω Wa Qa Qc r s h' k kx =>
  sa σ H G own ρ Ω Wa _ _ r s h' (fun v H1 G1 own1 d Ω1 e1 r1 dv1 q1 => h H1 G1 own1 Ω1 d v Qa Qc r1 dv1 q1 fun v3 H3 G3 own3 d3 Ω3 e3 => k v3 H3 G3 own3 d3 Ω3 (e1.trans e3)) kx
theorem ae_callB {id : String} {x : Str} {r : List V → Hp → VK → Prop} {f : List D → Om → AQ → Prop} {p : Pos} (hc : CallR X (.builtin id) r) (hf : SimC X.K ca r f) (hg : Gl X x) (hm : X.mg x = none) (hv : bootBuiltins x = some (.builtin id)) (ha : AA X ca W (e :: es) tr rr) (hn : x ≠ "__name__" := by decide) (hdb : (x == ("__debug__" : Str)) = false := by decide)
    (he : starEach (e :: es) X.env = (false, eval e X.env) :: starEach es X.env := by rfl) (hpl : (backTo pos (starEach es X.env)).any (·.1) = false := by rfl) : AE X ca W (.Call (.Name x p) (e :: es) [] pos) (tCB r tr) (aCall f rr) := ⟨pe_callB hc hg hm hv ha.pe hn hdb he hpl, sim_call hf ha.sim⟩
theorem ae_callTy {T : String} {x : Str} {r : List V → Hp → VK → Prop} {f : List D → Om → AQ → Prop} {p : Pos} (hc : CallR X (.type T) r) (hf : SimC X.K ca r f) (hg : Gl X x) (hm : X.mg x = none) (hv : bootBuiltins x = some (.type T)) (ha : AA X ca W (e :: es) tr rr) (hn : x ≠ "__name__" := by decide) (hdb : (x == ("__debug__" : Str)) = false := by decide)
    (he : starEach (e :: es) X.env = (false, eval e X.env) :: starEach es X.env := by rfl) (hpl : (backTo pos (starEach es X.env)).any (·.1) = false := by rfl) : AE X ca W (.Call (.Name x p) (e :: es) [] pos) (tCB r tr) (aCall f rr) := ⟨pe_callTy hc hg hm hv ha.pe hn hdb he hpl, sim_call hf ha.sim⟩
theorem dv1 {K : PySem.W.Frag} {G : Hp} {vs : List V} {x : D} (h : DVs K G vs [x]) : ∃ v, vs = [v] ∧ DV K G v x := by
  cases h with
  | cons a b => cases b; exact ⟨_, rfl, a⟩
theorem dv2 {K : PySem.W.Frag} {G : Hp} {vs : List V} {x y : D} (h : DVs K G vs [x, y]) : ∃ v w, vs = [v, w] ∧ DV K G v x ∧ DV K G w y := by
  cases h with
  | cons a b =>
    obtain ⟨w, rfl, c⟩ := dv1 b
    exact ⟨_, w, rfl, a, c⟩
/-- abs(i) -/
def fAbs : List D → Om → AQ → Prop := fun xs Ω Q => ∃ i : Int, xs = [.int i] ∧ Q (.int (if i < 0 then -i else i)) Ω
theorem simc_abs {K : PySem.W.Frag} : SimC K ca (fun xs H Q => ∃ i, xs = [.int i] ∧ Q (.int (if i < 0 then -i else i)) H) fAbs := by
  intro H G own Ω xs vs Qa Qc r d h k
  obtain ⟨i, rfl, q⟩ := h
  obtain ⟨v, rfl, dv⟩ := dv1 d
  cases dv
  exact ⟨i, rfl, k _ _ _ _ _ _ Stp.refl r (.int _) q⟩
theorem boot_abs' : bootBuiltins "abs" = some (.builtin "abs") := by decide +kernel
theorem ae_abs {p : Pos} (hg : Gl X "abs") (hm : X.mg "abs" = none) (ha : AE X ca W e te re) (hs : starEach [e] X.env = (false, eval e X.env) :: starEach [] X.env := by rfl) : AE X ca W (.Call (.Name "abs" p) [e] [] pos) (tCB (fun xs H Q => ∃ i, xs = [.int i] ∧ Q (.int (if i < 0 then -i else i)) H) (tCons te tNil)) (aCall fAbs (aCons re aNil)) :=
  ae_callB call_abs simc_abs hg hm boot_abs' (aa_cons ha aa_nil hs) (by decide) (by decide) hs
/-- int(flag) -/
def fIntB : List D → Om → AQ → Prop := fun xs Ω Q => ∃ k : Bool, xs = [.bl k] ∧ Q (.int (if k then 1 else 0)) Ω
def rInt1 : List V → Hp → VK → Prop := fun xs H Q => (∃ i, xs = [.int i] ∧ Q (.int i) H) ∨ ∃ k, xs = [.bl k] ∧ Q (.int (if k then 1 else 0)) H
theorem boot_int' : bootBuiltins "int" = some (.type "int") := by decide +kernel
theorem ae_intB {p : Pos} (hg : Gl X "int") (hm : X.mg "int" = none) (ha : AE X ca W e te re) (hs : starEach [e] X.env = (false, eval e X.env) :: starEach [] X.env := by rfl) : AE X ca W (.Call (.Name "int" p) [e] [] pos) (tCB rInt1 (tCons te tNil)) (aCall fIntB (aCons re aNil)) :=
  ae_callTy call_int1 (by
    intro H G own Ω xs vs Qa Qc r d h k
    obtain ⟨i, rfl, q⟩ := h
    obtain ⟨v, rfl, dv⟩ := dv1 d
    cases dv
    exact .inr ⟨i, rfl, k _ _ _ _ _ _ Stp.refl r (.int _) q⟩) hg hm boot_int' (aa_cons ha aa_nil hs) (by decide) (by decide) hs
/-- len of data, or of a list of ours -/
def fLen : List D → Om → AQ → Prop := fun xs Ω Q => ∃ x ys, xs = [x] ∧ x.seq Ω = some ys ∧ Q (.int (ys.length : Int)) Ω
theorem boot_len' : bootBuiltins "len" = some (.builtin "len") := by decide +kernel
theorem ae_len {p : Pos} (hg : Gl X "len") (hm : X.mg "len" = none) (ha : AE X ca W e te re) (hs : starEach [e] X.env = (false, eval e X.env) :: starEach [] X.env := by rfl) : AE X ca W (.Call (.Name "len" p) [e] [] pos) (tCB (Evl.rLenS X.K) (tCons te tNil)) (aCall fLen (aCons re aNil)) :=
  ae_callB call_len_seq (by
    intro H G own Ω xs vs Qa Qc r d h k
    obtain ⟨x, ys, rfl, hs, q⟩ := h
    obtain ⟨v, rfl, dv⟩ := dv1 d
    obtain ⟨p, vs, rfl, ds, hv⟩ := seq_of r dv hs
    refine ⟨p, vs, rfl, hv, k _ _ _ _ (.int (ys.length : Int)) _ Stp.refl r ?_ q⟩
    rw [ds.length]
    exact .int _) hg hm boot_len' (aa_cons ha aa_nil hs) (by decide) (by decide) hs
/-- list(x): data; a list of ours -/
def fListD : List D → Om → AQ → Prop := fun xs Ω Q => ∃ x ys, xs = [x] ∧ x.seq Ω = some ys ∧ Q (.lst ys) Ω
def fListO : List D → Om → AQ → Prop := fun xs Ω Q => ∃ x ys, xs = [x] ∧ x.seq Ω = some ys ∧ ∀ p, Ω p = none → Q (.o p) (oset Ω p (.lst ys))
/-- tuple(x) -/
def fTuple : List D → Om → AQ → Prop := fun xs Ω Q => ∃ x ys, xs = [x] ∧ x.seq Ω = some ys ∧ Q (.tup ys) Ω
def rTupleS (K : PySem.W.Frag) : List V → Hp → VK → Prop := fun xs H Q => ∃ p ys, xs = [.ref p] ∧ ((SqL K H p ys ∧ ∀ l, H l = none → Q (.ref l) (upd H l (.tup ys))) ∨ (SqT K H p ys ∧ Q (.ref p) H))
theorem boot_tuple' : bootBuiltins "tuple" = some (.type "tuple") := by decide +kernel
theorem ae_tuple {p : Pos} (hg : Gl X "tuple") (hm : X.mg "tuple" = none) (ha : AE X ca W e te re) (hs : starEach [e] X.env = (false, eval e X.env) :: starEach [] X.env := by rfl) : AE X ca W (.Call (.Name "tuple" p) [e] [] pos) (tCB (rTupleS X.K) (tCons te tNil)) (aCall fTuple (aCons re aNil)) :=
  ae_callTy call_tuple_of (by
    intro H G own Ω xs vs Qa Qc r d h k
    obtain ⟨x, ys, rfl, hs, q⟩ := h
    obtain ⟨v, rfl, dv⟩ := dv1 d
    by_cases ht : ∃ zs, x = .tup zs
    · obtain ⟨zs, rfl⟩ := ht
      simp only [D.seq, Option.some.injEq] at hs
      subst hs
      cases dv with
      | tup a b => exact ⟨_, _, rfl, .inr ⟨same_seqT r.sub a, k _ _ _ _ _ _ Stp.refl r (.tup a b) q⟩⟩
    · obtain ⟨p, vs, rfl, ds, hv⟩ : ∃ p vs, v = .ref p ∧ DVs X.K G vs ys ∧ SqL X.K H p vs := by
        cases dv with
        | lst a b => simp only [D.seq, Option.some.injEq] at hs; subst hs; exact ⟨_, _, rfl, b, r.sub.seq a⟩
        | tup a b => exact (ht ⟨_, rfl⟩).elim
        | o a =>
          cases qq : Ω a with
          | none => simp only [D.seq, qq] at hs; cases hs
          | some u =>
            cases u with
            | lst zs =>
              simp only [D.seq, qq, Option.some.injEq] at hs; subst hs
              obtain ⟨vs, hv, dv⟩ := r.lstAt qq
              exact ⟨_, vs, rfl, dv, SqL.of hv⟩
            | row => simp only [D.seq, qq] at hs; cases hs
            | dic _ => simp only [D.seq, qq] at hs; cases hs
            | obj _ _ => simp only [D.seq, qq] at hs; cases hs
        | _ => simp [D.seq] at hs
      refine ⟨p, vs, rfl, .inl ⟨hv, fun l hl => ?_⟩⟩
      obtain ⟨r4, e4⟩ := r.data (u := .tup vs) hl
      exact k _ _ _ _ _ _ (stp_data e4 hl) r4 (.tup (SqT.of upd_same) (ds.mono e4)) q) hg hm boot_tuple' (aa_cons ha aa_nil hs) (by decide) (by decide) hs
/-- x.bit_length() -/
def aBits (ra : ATE) : ATE := fun Wa ρ Ω Q => ra Wa ρ Ω fun x Ω1 => ∃ i, x = .int i ∧ Q (.int (Builtin.Int.intBits i : Nat)) Ω1
theorem ae_bits {apos : Pos} (ha : AE X ca W e te re) (hbase : attributeBase e "bit_length" X.env (eval e X.env) = eval e X.env := by rfl) (hline : (apos.endLine == pos.line) = true := by rfl) : AE X ca W (.Call (.Attribute e "bit_length" apos) [] [] pos) (tBits te) (aBits re) :=
  ⟨pe_bits ha.pe hbase hline, fun σ H G own ρ Ω Wa Qa Qc r s h k kx => ha.sim σ H G own ρ Ω Wa _ _ r s h (fun v H1 G1 own1 d Ω1 e1 r1 dv1 q1 => by
  obtain ⟨i, rfl, q⟩ := q1
  cases dv1
  exact ⟨i, rfl, k _ _ _ _ _ _ e1 r1 (.int _) q⟩) kx⟩
/-- the class of data, of a list of ours -/
def D.ty (Ω : Om) : D → Option String
  | .non => some "NoneType"
  | .bl _ => some "bool"
  | .int _ => some "int"
  | .str _ => some "str"
  | .tup _ => some "tuple"
  | .lst _ => some "list"
  | .o a => match Ω a with
    | some (.lst _) => some "list"
    | _ => none
def isT (t T : String) : Option Bool := L2.kitB t T
def aIsi (T : String) (ra : ATE) : ATE := fun Wa ρ Ω Q => ra Wa ρ Ω fun x Ω1 => ∃ t b, x.ty Ω1 = some t ∧ isT t T = some b ∧ Q (.bl b) Ω1
theorem boot_isi : bootBuiltins "isinstance" = some (.builtin "isinstance") := by decide +kernel
abbrev AF := List D → Om → AQ → (Value → Om → Prop) → Prop
def spA (K : PySem.W.Frag) (ca : CA) (F : AF) : Sp := fun vs H Q E => ∃ (G : Hp) (own : Addr → Option Addr) (Ω : Om) (ds : List D) (Qa : AQ) (Ea : Value → Om → Prop), Rel K ca G own H Ω ∧ DVs K G vs ds ∧ F ds Ω Qa Ea ∧
  (∀ v H' G' own' d Ω', Stp G own H G' own' H' → Rel K ca G' own' H' Ω' → DV K G' v d → Qa d Ω' → Q v H') ∧ (∀ cls H' G' own' Ω', Stp G own H G' own' H' → Rel K ca G' own' H' Ω' → Ea cls Ω' → E cls none H')
def aFn (F : AF) (rr : ATA) : ATE := fun Wa ρ Ω Q => rr Wa ρ Ω fun ds Ω1 => F ds Ω1 Q fun cls Ω' => Wa cls ρ Ω'
theorem sim_fn {K : PySem.W.Frag} {F : AF} (sa : SimA K ca W tr rr) : SimE K ca W (tCallS (spA K ca F) (WE W) tr) (aFn F rr) := fun σ H G own ρ Ω Wa Qa Qc r s h' k kx =>
  sa σ H G own ρ Ω Wa _ _ r s h' (fun v H1 G1 own1 d Ω1 e1 r1 dv1 q1 => ⟨G1, own1, Ω1, d, Qa, fun cls Ω' => Wa cls ρ Ω', r1, dv1, q1, fun v2 H2 G2 own2 d2 Ω2 e2 => k v2 H2 G2 own2 d2 Ω2 (e1.trans e2), fun cls H2 G2 own2 Ω2 e2 => kx cls H2 G2 own2 Ω2 (e1.trans e2)⟩) kx
theorem ae_fn {k : Nat} {f : Addr} {fd : FuncData} {ps : List Str} {x : Str} {p : Pos} {F : AF} (G : FnOk X.prog X.w X.K X.mg X.base (L2.CX X.prog X.w) k f fd ps (spA X.K ca F)) (hr : Room k X.A) (hm : X.mg x = some (.ref f)) (hk : PySem.W.keepIn X.K (.ref f) = true) (hb : Binds X.K fd ps []) (tk : Takes X W)
    (ha : AA X ca W (e :: es) tr rr) (hg : Gl X x := by rfl) (hdb : (x == ("__debug__" : Str)) = false := by decide) (he : starEach (e :: es) X.env = (false, eval e X.env) :: starEach es X.env := by rfl) (hpl : (backTo pos (starEach es X.env)).any (·.1) = false := by rfl) :
    AE X ca W (.Call (.Name x p) (e :: es) [] pos) (tCallS (spA X.K ca F) (WE W) tr) (aFn F rr) := ⟨pe_callS G hr hg hm hk hb (fun σ => passAt tk σ) ha.pe hdb he hpl, sim_fn ha.sim⟩
variable {st : Stmt} {rest : List Stmt} {ts tu : TS} {rs ru : ATS}
def aNext : ATS := fun _ Da ρ Ω => Da.nx ρ Ω
def aSeq (t u : ATS) : ATS := fun Wa Da ρ Ω => t Wa { Da with nx := u Wa Da } ρ Ω
theorem ass_nil : ASs X ca W [] tNext aNext := ⟨pss_nil, fun σ H G own ρ Ω Wa Da Dc r s h k => k.nx _ _ _ _ _ _ Stp.refl r s h⟩
theorem ass_cons (h1 : AS X ca W st ts rs) (h2 : ASs X ca W rest tu ru) : ASs X ca W (st :: rest) (tSeq ts tu) (aSeq rs ru) := ⟨pss_cons h1.pe h2.pe, fun σ H G own ρ Ω Wa Da Dc r s h k =>
  h1.sim σ H G own ρ Ω Wa { Da with nx := ru Wa Da } { Dc with nx := tu Dc } r s h ⟨fun σ' H' G' own' ρ' Ω' e r' s' q => h2.sim σ' H' G' own' ρ' Ω' Wa Da Dc r' s' q (k.mono e), k.rt, k.bk, k.ct, k.ex⟩⟩
theorem ass_one (h1 : AS X ca W st ts rs) : ASs X ca W [st] ts rs := ⟨pss_one h1.pe, h1.sim⟩
def aDrop (re : ATE) : ATS := fun Wa Da ρ Ω => re Wa ρ Ω fun _ Ω1 => Da.nx ρ Ω1
theorem as_expr (ha : AE X ca W e te re) (hs : swapsWith e none pos.line X.env = pure false := by rfl) : AS X ca W (.Expr e pos) (tDrop te) (aDrop re) := ⟨ps_expr ha.pe hs, fun σ H G own ρ Ω Wa Da Dc r s h k => ha.sim σ H G own ρ Ω Wa _ _ r s h (fun v H1 G1 own1 d Ω1 e1 r1 dv1 q1 => k.nx _ _ _ _ _ _ e1 r1 (s.mono e1.same) q1) (k.kx s)⟩
def aRet (re : ATE) : ATS := fun Wa Da ρ Ω => re Wa ρ Ω Da.rt
theorem as_ret (ha : AE X ca W e te re) : AS X ca W (.Return (some e) pos) (tRet te) (aRet re) := ⟨ps_ret ha.pe, fun σ H G own ρ Ω Wa Da Dc r s h k => ha.sim σ H G own ρ Ω Wa _ _ r s h (fun v H1 G1 own1 d Ω1 e1 r1 dv1 q1 => k.rt _ _ _ _ _ _ e1 r1 dv1 q1) (k.kx s)⟩
def aRetN : ATS := fun _ Da _ Ω => Da.rt .non Ω
def aIfS (c : ATT) (t u : ATS) : ATS := fun Wa Da ρ Ω => c Wa ρ Ω fun b Ω1 => if b = true then t Wa Da ρ Ω1 else u Wa Da ρ Ω1
theorem as_if {c : Expr} {l m : List Stmt} {tc : TT} {rc : ATT} (hc : AT X ca W c tc rc) (h1 : ASs X ca W l ts rs) (h2 : ASs X ca W m tu ru) : AS X ca W (.If c l m pos) (tIfS tc ts tu) (aIfS rc rs ru) := ⟨ps_if hc.pe h1.pe h2.pe, fun σ H G own ρ Ω Wa Da Dc r s h k =>
  hc.sim σ H G own ρ Ω Wa _ _ r s h (fun b H1 G1 own1 Ω1 e1 r1 q1 => by
    cases b with
    | true => exact h1.sim σ H1 G1 own1 ρ Ω1 Wa Da Dc r1 (s.mono e1.same) q1 (k.mono e1)
    | false => exact h2.sim σ H1 G1 own1 ρ Ω1 Wa Da Dc r1 (s.mono e1.same) q1 (k.mono e1)) (k.kx s)⟩
/-- targets -/
abbrev AG := D → En → Om → (En → Om → Prop) → Prop
def SimG (K : PySem.W.Frag) (ca : CA) (g : TG) (ag : AG) : Prop := ∀ (σ : St) (H G : Hp) own ρ Ω v d (Qa : En → Om → Prop) (Qc : St → Hp → Prop), Rel K ca G own H Ω → SR K G σ ρ → DV K G v d → ag d ρ Ω Qa →
  (∀ σ' H' G' own' ρ' Ω', Stp G own H G' own' H' → Rel K ca G' own' H' Ω' → SR K G' σ' ρ' → Qa ρ' Ω' → Qc σ' H') → g v σ H Qc
structure AGt (X : Cx) (ca : CA) (e : Expr) (g : TG) (ag : AG) : Prop where
  pe : PG X e g
  sim : SimG X.K ca g ag
def agName (i : Nat) : AG := fun d ρ Ω Q => Q (ρ.set i (some d)) Ω
theorem simg_name {K : PySem.W.Frag} {i : Nat} : SimG K ca (gName i) (agName i) := fun σ H G own ρ Ω v d Qa Qc r s dv h k => k _ _ _ _ _ _ Stp.refl r (s.set i dv) h
theorem ag_name {i : Nat} {x : Str} (hN : X.N.Nodup) (hi : X.N[i]? = some x) (hx : Loc X.env.scope x) (hf : X.fn x = true ∨ X.env.scope.names.lookup x = some .local := by first | exact .inl rfl | exact .inr rfl | assumption) : AGt X ca (.Name x pos) (gName i) (agName i) := ⟨pg_name hN hi hx hf, simg_name⟩
/-- several names -/
def setAll (ρ : En) : List Nat → List D → En
  | i :: is, d :: ds => setAll (ρ.set i (some d)) is ds
  | _, _ => ρ
def gNames : List Nat → TGs
  | [] => gNil
  | i :: is => gCons (gName i) (gNames is)
structure AGs (X : Cx) (es : List Expr) (is : List Nat) : Prop where
  pe : PGs X es (gNames is)
theorem ags_nil : AGs X [] [] := ⟨pgs_nil⟩
theorem ags_cons {i : Nat} {is : List Nat} {x : Str} {p : Pos} (hN : X.N.Nodup) (hi : X.N[i]? = some x) (hx : Loc X.env.scope x) (hr : AGs X es is) (hf : X.fn x = true ∨ X.env.scope.names.lookup x = some .local := by first | exact .inl rfl | exact .inr rfl | assumption)
    (hs : (assignEach (.Name x p :: es) X.env).map (·.2) = assign (.Name x p) X.env :: (assignEach es X.env).map (·.2) := by rfl) : AGs X (.Name x p :: es) (i :: is) := ⟨pgs_cons (pg_name hN hi hx hf) hr.pe hs⟩
def agTup (n : Nat) (is : List Nat) : AG := fun d ρ Ω Q => ∃ xs, d = .tup xs ∧ xs.length = n ∧ is.length = n ∧ Q (setAll ρ is xs) Ω
theorem gnames_run : ∀ {is : List Nat} {K : PySem.W.Frag} {G : Hp} {vs : List V} {xs : List D} {σ : St} {ρ : En} {H : Hp} {Qc : St → Hp → Prop}, is.length = xs.length → SR K G σ ρ → DVs K G vs xs → (∀ σ', SR K G σ' (setAll ρ is xs) → Qc σ' H) → gNames is vs σ H Qc
  | [], K, G, vs, xs, σ, ρ, H, Qc, hl, s, dv, k => by
    cases xs with
    | nil => cases dv; exact ⟨rfl, k _ s⟩
    | cons a b => simp at hl
  | i :: is, K, G, vs, xs, σ, ρ, H, Qc, hl, s, dv, k => by
    cases xs with
    | nil => simp at hl
    | cons a b =>
      cases dv with
      | cons h1 h2 =>
        refine ⟨_, _, rfl, ?_⟩
        exact gnames_run (by simpa using hl) (s.set i h1) h2 k
theorem ag_tup {k n : Nat} {is : List Nat} (hc : X.calm = true) (h : AGs X es is) (hn : (assignEach es X.env).length = n := by rfl) (hst : (assignEach es X.env).findIdx? (·.1) = none := by rfl) : AGt X ca (.Tuple es k pos) (gTup X.K n (gNames is)) (agTup n is) := ⟨pg_tup hc h.pe hn hst, fun σ H G own ρ Ω v d Qa Qc r s dv h k => by
  obtain ⟨xs, rfl, hl, hi, q⟩ := h
  cases dv with
  | tup a b =>
    exact ⟨_, _, rfl, same_seqT r.sub a, by rw [b.length]; exact hl, gnames_run (by rw [hi, hl]) s b fun σ' s' => k _ _ _ _ _ _ Stp.refl r s' q⟩⟩
def aAsg (re : ATE) (g : AG) : ATS := fun Wa Da ρ Ω => re Wa ρ Ω fun d Ω1 => g d ρ Ω1 Da.nx
theorem sim_asg {K : PySem.W.Frag} {g : TG} {ag : AG} (ha : SimE K ca W te re) (hg : SimG K ca g ag) : SimS K ca W (tAsg te g) (aAsg re ag) := fun σ H G own ρ Ω Wa Da Dc r s h k =>
  ha σ H G own ρ Ω Wa _ _ r s h (fun v H1 G1 own1 d Ω1 e1 r1 dv1 q1 => hg σ H1 G1 own1 ρ Ω1 v d _ _ r1 (s.mono e1.same) dv1 q1 fun σ' H' G' own' ρ' Ω' e2 => k.nx _ _ _ _ _ _ (e1.trans e2)) (k.kx s)
theorem as_asg {tg : Expr} {g : TG} {ag : AG} (ha : AE X ca W e te re) (hg : AGt X ca tg g ag) (hs : swapsWithSole [tg] e pos.line X.env = pure false := by rfl) (hw : swappedStores [tg] e X.env = pure none := by rfl)
    (h1 : (assignEach [tg] X.env).map (·.2) = [assign tg X.env] := by rfl) : AS X ca W (.Assign [tg] e pos) (tAsg te g) (aAsg re ag) := ⟨ps_asg ha.pe hg.pe hs hw h1, sim_asg ha.sim hg.sim⟩
def aSet (i : Nat) (re : ATE) : ATS := aAsg re (agName i)
theorem as_set (i : Nat) {x : Str} {pos' : Pos} (hN : X.N.Nodup) (ha : AE X ca W e te re) (hi : X.N[i]? = some x := by rfl) (hx : Loc X.env.scope x := by first | exact Or.inl rfl | exact Or.inr rfl) (hs : swapsWith e (some (.Name x pos')) pos.line X.env = pure false := by rfl) (hf : X.fn x = true ∨ X.env.scope.names.lookup x = some .local := by first | exact .inl rfl | exact .inr rfl | assumption) :
    AS X ca W (.Assign [.Name x pos'] e pos) (tAsg te (gName i)) (aSet i re) := ⟨ps_set hN hi hx ha.pe hs hf, sim_asg ha.sim simg_name⟩
def aPar (i j : Nat) (ra rb : ATE) : ATS := fun Wa Da ρ Ω => ra Wa ρ Ω fun v Ω1 => rb Wa ρ Ω1 fun w Ω2 => Da.nx ((ρ.set i (some v)).set j (some w)) Ω2
theorem as_par (i j : Nat) {x y : Str} {px py pt : Pos} {kt k2 pt2} (hc : X.calm = true) (hN : X.N.Nodup) (ha : AE X ca W a ta ra) (hb : AE X ca W b tb rb) (hi : X.N[i]? = some x := by rfl) (hj : X.N[j]? = some y := by rfl) (hij : i ≠ j := by decide)
    (hx : X.env.scope.names.lookup x = some .local := by rfl) (hy : X.env.scope.names.lookup y = some .local := by rfl)
    (hw : swappedStores [.Tuple [.Name x px, .Name y py] kt pt] (.Tuple [a, b] k2 pt2) X.env = pure (some [x, y]) := by rfl)
    (hs : swapsWithSole [.Tuple [.Name x px, .Name y py] kt pt] (.Tuple [a, b] k2 pt2) pos.line X.env = pure false := by rfl)
    (s1 : starEach [a, b] X.env = (false, eval a X.env) :: starEach [b] X.env := by rfl) (s2 : starEach [b] X.env = (false, eval b X.env) :: starEach [] X.env := by rfl) :
    AS X ca W (.Assign [.Tuple [.Name x px, .Name y py] kt pt] (.Tuple [a, b] k2 pt2) pos) (tPar i j (tCons ta (tCons tb tNil))) (aPar i j ra rb) := ⟨ps_par hc hN hi hj hij hx hy (pa_cons ha.pe (pa_cons hb.pe pa_nil s2) s1) hw hs, fun σ H G own ρ Ω Wa Da Dc r s h k =>
  ha.sim σ H G own ρ Ω Wa _ _ r s h (fun v1 H1 G1 own1 d1 Ω1 e1 r1 dv1 q1 => hb.sim σ H1 G1 own1 ρ Ω1 Wa _ _ r1 (s.mono e1.same) q1 (fun v2 H2 G2 own2 d2 Ω2 e2 r2 dv2 q2 =>
    ⟨v1, v2, rfl, k.nx _ _ _ _ _ _ (e1.trans e2) r2 (((s.mono (e1.trans e2).same).set i (dv1.mono e2.same)).set j dv2) q2⟩) ((k.kx s).mono e1)) (k.kx s)⟩
/-- x.append(e), x[i] = e: a list of ours -/
def IsLst (x : D) (Ω : Om) : Prop := ∃ a xs, x = .o a ∧ Ω a = some (.lst xs)
def aApp (ra re : ATE) : ATE := fun Wa ρ Ω Q => ra Wa ρ Ω fun x Ω1 => IsLst x Ω1 ∧ re Wa ρ Ω1 fun y Ω2 => ∃ a xs, x = .o a ∧ Ω2 a = some (.lst xs) ∧ xs.length < sizeLine ∧ Q .non (oset Ω2 a (.lst (xs ++ [y])))
theorem ae_app {apos : Pos} (ho : AE X ca W a ta ra) (ha : AE X ca W e te re) (hbase : attributeBase a "append" X.env (eval a X.env) = eval a X.env := by rfl)
    (hfew : ((backTo pos (starEach [e] X.env)).all (fun x => !x.1) && (backToKw pos (keywordEach [] X.env)).all (fun x => x.1.isSome)
      && decide (([e] : List Expr).length + ([] : List Keyword).length + (if ([] : List Keyword).isEmpty then 0 else 1) < 30)) = true := by rfl)
    (hline : (apos.endLine == pos.line) = true := by rfl) (hs : starEach [e] X.env = (false, eval e X.env) :: starEach [] X.env := by rfl) :
    AE X ca W (.Call (.Attribute a "append" apos) [e] [] pos) (tBM X.K "list" rAppend ta (tCons te tNil)) (aApp ra re) :=
  ⟨pe_bm PySem.F.plainAttrs_list PySem.F.slot_list_append PySem.F.type_list_append mt_append ho.pe (pa_cons ha.pe pa_nil hs) hbase hfew hline hs rfl, fun σ H G own ρ Ω Wa Qa Qc r s h k kx => ho.sim σ H G own ρ Ω Wa _ _ r s h (fun v H1 G1 own1 d Ω1 e1 r1 dv1 q1 => by
    obtain ⟨⟨l, xs, rfl, hl⟩, q⟩ := q1
    cases dv1
    obtain ⟨vs, hv, dvs⟩ := r1.lstAt hl
    refine ⟨.inl ⟨rfl, _, SqL.of hv⟩, ?_⟩
    refine ha.sim σ H1 G1 own1 ρ Ω1 Wa _ _ r1 (s.mono e1.same) q (fun w H2 G2 own2 y Ω2 e2 r2 dv2 q2 => ?_) (kx.mono e1)
    obtain ⟨l', ys, e, hl2, hz, q3⟩ := q2
    cases e
    obtain ⟨vs2, hv2, dvs2⟩ := r2.lstAt hl2
    have hd : DVs X.K G2 (vs2 ++ [w]) (ys ++ [y]) := dvs2.append (.cons dv2 .nil)
    exact ⟨l, vs2, w, rfl, rfl, hv2, by rw [dvs2.length]; exact hz, k _ _ _ _ _ _ ((e1.trans e2).trans (stp_own (r2.objs _ _ hl2).1)) (r2.setLst hl2 hd) .non q3⟩) kx⟩
def aSetIx (rv ro ri : ATE) : ATS := fun Wa Da ρ Ω => rv Wa ρ Ω fun y Ω1 => ro Wa ρ Ω1 fun x Ω2 => ri Wa ρ Ω2 fun i Ω3 => ∃ a xs k j, x = .o a ∧ Ω3 a = some (.lst xs) ∧ i = .int k ∧ ixN xs.length k = some j ∧ Da.nx ρ (oset Ω3 a (.lst (xs.set j y)))
theorem as_setIx {o i v : Expr} {to ti tv : TE} {ro ri rv : ATE} {spos : Pos} (hv : AE X ca W v tv rv) (ho : AE X ca W o to ro) (hi : AE X ca W i ti ri)
    (ha : ∀ v, assign (.Subscript o i spos) X.env v = (do
      let ov ← holding [v] (eval o X.env)
      let iv ← holding [v, ov] (eval i X.env)
      standAt spos
      holding [v, ov, iv] (setItem ov iv v)
      release [v, ov, iv] []) := by intro _; rfl) (hs : swapsWithSole [.Subscript o i spos] v pos.line X.env = pure false := by rfl) (hw : swappedStores [.Subscript o i spos] v X.env = pure none := by rfl)
    (h1 : (assignEach [.Subscript o i spos] X.env).map (·.2) = [assign (.Subscript o i spos) X.env] := by rfl) :
    AS X ca W (.Assign [.Subscript o i spos] v pos) (tAsg tv (gSub to ti rSetL)) (aSetIx rv ro ri) := ⟨ps_asg hv.pe (pg_sub ho.pe hi.pe set_list ha) hs hw h1, fun σ H G own ρ Ω Wa Da Dc r s h k =>
  hv.sim σ H G own ρ Ω Wa _ _ r s h (fun v1 H1 G1 own1 d1 Ω1 e1 r1 dv1 q1 => ho.sim σ H1 G1 own1 ρ Ω1 Wa _ _ r1 (s.mono e1.same) q1 (fun v2 H2 G2 own2 d2 Ω2 e2 r2 dv2 q2 =>
    hi.sim σ H2 G2 own2 ρ Ω2 Wa _ _ r2 (s.mono (e1.trans e2).same) q2 (fun v3 H3 G3 own3 d3 Ω3 e3 r3 dv3 q3 => by
      obtain ⟨l, xs, z, j, rfl, hl, rfl, hj, q⟩ := q3
      cases dv2
      cases dv3
      obtain ⟨vs, hvs, dvs⟩ := r3.lstAt hl
      exact ⟨l, vs, z, j, rfl, rfl, hvs, by rw [dvs.length]; exact hj, k.nx _ _ _ _ _ _ (((e1.trans e2).trans e3).trans (stp_own (r3.objs _ _ hl).1)) (r3.setLst hl (dvs.set (dv1.mono (e2.trans e3).same) j)) (s.mono ((e1.trans e2).trans e3).same) q⟩) (((k.kx s).mono e1).mono e2)) ((k.kx s).mono e1)) (k.kx s)⟩
/-- while -/
def aWhile (c : ATT) (b : ATS) : ATS := fun Wa Da ρ Ω => ∃ Wn : Nat → En → Om → Prop, (∃ m, Wn m ρ Ω) ∧ ∀ m ρ Ω, Wn m ρ Ω → c Wa ρ Ω fun k Ω1 =>
  if k = true then b Wa { Da with nx := fun ρ' Ω' => ∃ m', m' < m ∧ Wn m' ρ' Ω', ct := fun ρ' Ω' => ∃ m', m' < m ∧ Wn m' ρ' Ω', bk := Da.nx } ρ Ω1 else Da.nx ρ Ω1
theorem as_while {c : Expr} {l : List Stmt} {tc : TT} {rc : ATT} (hp : PassesOwn (model X.prog X.w) X.A X.env X.xe) (hc : AT X ca W c tc rc) (hb : ASs X ca W l ts rs) : AS X ca W (.While c l [] pos) (tWhile tc ts) (aWhile rc rs) := ⟨ps_while hp hc.pe hb.pe, fun σ H G own ρ Ω Wa Da Dc r s h k => by
  obtain ⟨Wn, ⟨m0, w0⟩, turn⟩ := h
  refine ⟨fun m σ' H' => ∃ G' own' ρ' Ω', Stp G own H G' own' H' ∧ Rel X.K ca G' own' H' Ω' ∧ SR X.K G' σ' ρ' ∧ Wn m ρ' Ω', ⟨m0, G, own, ρ, Ω, Stp.refl, r, s, w0⟩, ?_⟩
  rintro m σ1 H1 ⟨G1, own1, ρ1, Ω1, e1, r1, s1, w1⟩
  refine hc.sim σ1 H1 G1 own1 ρ1 Ω1 Wa _ _ r1 s1 (turn m ρ1 Ω1 w1) (fun b H2 G2 own2 Ω2 e2 r2 q2 => ?_) ((k.mono e1).kx s1)
  cases b with
  | true =>
    rw [if_pos rfl] at q2 ⊢
    refine ⟨_, fun _ _ n => n, hb.sim σ1 H2 G2 own2 ρ1 Ω2 Wa _ _ r2 (s1.mono e2.same) q2 ⟨?_, fun _ _ _ _ _ _ e3 => k.rt _ _ _ _ _ _ ((e1.trans e2).trans e3), fun _ _ _ _ _ _ e3 => k.nx _ _ _ _ _ _ ((e1.trans e2).trans e3), ?_, fun _ _ _ _ _ _ _ e3 => k.ex _ _ _ _ _ _ _ ((e1.trans e2).trans e3)⟩⟩
    · rintro σ3 H3 G3 own3 ρ3 Ω3 e3 r3 s3 ⟨m', hm, w3⟩
      exact ⟨m', hm, G3, own3, ρ3, Ω3, (e1.trans e2).trans e3, r3, s3, w3⟩
    · rintro σ3 H3 G3 own3 ρ3 Ω3 e3 r3 s3 ⟨m', hm, w3⟩
      exact ⟨m', hm, G3, own3, ρ3, Ω3, (e1.trans e2).trans e3, r3, s3, w3⟩
  | false =>
    rw [if_neg Bool.false_ne_true] at q2 ⊢
    exact k.nx _ _ _ _ _ _ (e1.trans e2) r2 (s1.mono e2.same) q2⟩
/-- for over items that stand -/
def forL (g : AG) (b : ATS) : List D → ATS
  | [], _, Da, ρ, Ω => Da.nx ρ Ω
  | x :: xs, Wa, Da, ρ, Ω => g x ρ Ω fun ρ1 Ω1 => b Wa { Da with nx := forL g b xs Wa Da, ct := forL g b xs Wa Da, bk := Da.nx } ρ1 Ω1
def aFor (ra : ATE) (g : AG) (b : ATS) : ATS := fun Wa Da ρ Ω => ra Wa ρ Ω fun d Ω1 => ∃ xs, d = .lst xs ∧ forL g b xs Wa Da ρ Ω1
def aForT (ra : ATE) (g : AG) (b : ATS) : ATS := fun Wa Da ρ Ω => ra Wa ρ Ω fun d Ω1 => ∃ xs, d = .tup xs ∧ forL g b xs Wa Da ρ Ω1
/-- the invariant of a walk through data -/
def ForI (K : PySem.W.Frag) (ca : CA) (g : AG) (b : ATS) (xs : List D) (Wa : AW) (Da : AEnds) (G : Hp) (own : Addr → Option Addr) (H : Hp) (i : Nat) (σ' : St) (H' : Hp) : Prop :=
  ∃ G' own' ρ' Ω', Stp G own H G' own' H' ∧ Rel K ca G' own' H' Ω' ∧ SR K G' σ' ρ' ∧ forL g b (xs.drop i) Wa Da ρ' Ω'
theorem forI_turn {K : PySem.W.Frag} {G H H' : Hp} {own : Addr → Option Addr} {g : TG} {ag : AG} {xs : List D} {Wa : AW} {Da : AEnds} {Dc : Ends} {i : Nat} {x : D} {v : V} {σ' : St} (hg : SimG K ca g ag) (hb : SimS K ca W ts rs) (k : KE K ca W G own H Da Dc Wa) (hx : xs[i]? = some x) (dv : DV K G v x)
    (p : ForI K ca ag rs xs Wa Da G own H i σ' H') : g v σ' H' fun σ2 H2 => ts { Dc with nx := ForI K ca ag rs xs Wa Da G own H (i + 1), ct := ForI K ca ag rs xs Wa Da G own H (i + 1), bk := Dc.nx } σ2 H2 := by
  obtain ⟨G1, own1, ρ1, Ω1, e1, r1, s1, q⟩ := p
  have hlt : i < xs.length := (List.getElem?_eq_some_iff.mp hx).1
  have hd : xs.drop i = x :: xs.drop (i + 1) := by
    rw [List.drop_eq_getElem_cons hlt]
    rw [(List.getElem?_eq_some_iff.mp hx).2]
  rw [hd] at q
  refine hg σ' H' G1 own1 ρ1 Ω1 v x _ _ r1 s1 (dv.mono e1.same) q fun σ2 H2 G2 own2 ρ2 Ω2 e2 r2 s2 q2 => ?_
  have e12 := e1.trans e2
  exact hb σ2 H2 G2 own2 ρ2 Ω2 Wa _ _ r2 s2 q2 ⟨fun σ3 H3 G3 own3 ρ3 Ω3 e3 r3 s3 q3 => ⟨G3, own3, ρ3, Ω3, e12.trans e3, r3, s3, q3⟩, fun _ _ _ _ _ _ e3 => k.rt _ _ _ _ _ _ (e12.trans e3), fun _ _ _ _ _ _ e3 => k.nx _ _ _ _ _ _ (e12.trans e3),
    fun σ3 H3 G3 own3 ρ3 Ω3 e3 r3 s3 q3 => ⟨G3, own3, ρ3, Ω3, e12.trans e3, r3, s3, q3⟩, fun _ _ _ _ _ _ _ e3 => k.ex _ _ _ _ _ _ _ (e12.trans e3)⟩
theorem forI_end {K : PySem.W.Frag} {G H H' : Hp} {own : Addr → Option Addr} {ag : AG} {xs : List D} {Wa : AW} {Da : AEnds} {Dc : Ends} {σ' : St} {n : Nat} (hn : n = xs.length) (k : KE K ca W G own H Da Dc Wa)
    (p : ForI K ca ag rs xs Wa Da G own H n σ' H') : Dc.nx σ' H' := by
  obtain ⟨G1, own1, ρ1, Ω1, e1, r1, s1, q⟩ := p
  rw [hn, List.drop_length] at q
  exact k.nx _ _ _ _ _ _ e1 r1 s1 q
theorem as_for {iter tg : Expr} {l : List Stmt} {g : TG} {ag : AG} (hp : PassesOwn (model X.prog X.w) X.A X.env X.xe) (hc : X.calm = true) (ha : AE X ca W iter te re) (hg : AGt X ca tg g ag) (hb : ASs X ca W l ts rs) (hs : ∀ x, foldedSetIterable iter X.env x = pure x := by intro _; rfl) :
    AS X ca W (.For tg iter l [] pos) (tFor (iList X.K te) g ts) (aFor re ag rs) := ⟨ps_for hp hc (pi_list ha.pe) hg.pe hb.pe hs, fun σ H G own ρ Ω Wa Da Dc r s h k => by
  refine ha.sim σ H G own ρ Ω Wa _ _ r s h (fun v H1 G1 own1 d Ω1 e1 r1 dv1 q1 => ?_) (k.kx s)
  obtain ⟨xs, rfl, q⟩ := q1
  cases dv1 with
  | lst hq ds =>
    rename_i a vs
    have k1 := k.mono e1
    refine ⟨a, rfl, ⟨vs, r1.sub.seq hq⟩, for_list (K := X.K) (a := a) (xs := vs) (ForI X.K ca ag rs xs Wa Da G1 own1 H1) ⟨G1, own1, ρ, Ω1, Stp.refl, r1, s.mono e1.same, q⟩ (fun i σ' H' _ p => ?_) (fun i x σ' H' hx p => ?_) (fun σ' H' p => forI_end ds.length k1 p)⟩
    · obtain ⟨G2, own2, ρ2, Ω2, e2, r2, _⟩ := p
      exact r2.sub.seq (e2.same.seq hq)
    · obtain ⟨d, hd, dv⟩ := ds.getV hx
      exact forI_turn hg.sim hb.sim k1 hd dv p⟩
theorem as_forT {iter tg : Expr} {l : List Stmt} {g : TG} {ag : AG} (hp : PassesOwn (model X.prog X.w) X.A X.env X.xe) (hc : X.calm = true) (ha : AE X ca W iter te re) (hg : AGt X ca tg g ag) (hb : ASs X ca W l ts rs) (hs : ∀ x, foldedSetIterable iter X.env x = pure x := by intro _; rfl) :
    AS X ca W (.For tg iter l [] pos) (tFor (iTup X.K te) g ts) (aForT re ag rs) := ⟨ps_for hp hc (pi_tup ha.pe) hg.pe hb.pe hs, fun σ H G own ρ Ω Wa Da Dc r s h k => by
  refine ha.sim σ H G own ρ Ω Wa _ _ r s h (fun v H1 G1 own1 d Ω1 e1 r1 dv1 q1 => ?_) (k.kx s)
  obtain ⟨xs, rfl, q⟩ := q1
  cases dv1 with
  | tup hq ds =>
    rename_i a vs
    have k1 := k.mono e1
    refine ⟨a, rfl, ⟨vs, same_seqT r1.sub hq⟩, for_tup (K := X.K) (a := a) (xs := vs) (ForI X.K ca ag rs xs Wa Da G1 own1 H1) ⟨G1, own1, ρ, Ω1, Stp.refl, r1, s.mono e1.same, q⟩ (fun i σ' H' _ p => ?_) (fun i x σ' H' hx p => ?_) (fun σ' H' p => forI_end ds.length k1 p)⟩
    · obtain ⟨G2, own2, ρ2, Ω2, e2, r2, _⟩ := p
      exact same_seqT r2.sub (same_seqT e2.same hq)
    · obtain ⟨d, hd, dv⟩ := ds.getV hx
      exact forI_turn hg.sim hb.sim k1 hd dv p⟩
/-- the numbers from lo on, n of them -/
def rngD (lo : Int) (n : Nat) : List D := (List.range n).map fun i => .int (lo + (i : Nat))
def aForR1 (ra : ATE) (g : AG) (b : ATS) : ATS := fun Wa Da ρ Ω => ra Wa ρ Ω fun d Ω1 => ∃ j : Int, d = .int j ∧ -(2 ^ 62) ≤ j ∧ j < 2 ^ 62 ∧ forL g b (rngD 0 j.toNat) Wa Da ρ Ω1
theorem rngD_get {lo : Int} {n i : Nat} (h : i < n) : (rngD lo n)[i]? = some (.int (lo + (i : Nat))) := by
  unfold rngD
  rw [List.getElem?_map, List.getElem?_range h]
  rfl
theorem rngD_length {lo : Int} {n : Nat} : (rngD lo n).length = n := by unfold rngD; rw [List.length_map, List.length_range]
theorem as_forR1 {tg : Expr} {l : List Stmt} {g : TG} {ag : AG} {p p2 : Pos} (hp : PassesOwn (model X.prog X.w) X.A X.env X.xe) (hc : X.calm = true) (hgl : Gl X "range") (hm : X.mg "range" = none) (ha : AE X ca W a ta ra) (hg : AGt X ca tg g ag) (hb : ASs X ca W l ts rs)
    (hs1 : starEach [a] X.env = (false, eval a X.env) :: starEach [] X.env := by rfl) (hs2 : starEach [a] X.env = [(false, eval a X.env)] := by rfl) (hs : ∀ x, foldedSetIterable (.Call (.Name "range" p) [a] [] p2) X.env x = pure x := by intro _; rfl) :
    AS X ca W (.For tg (.Call (.Name "range" p) [a] [] p2) l [] pos) (tFor (iRng1 (tCons ta tNil)) g ts) (aForR1 ra ag rs) := ⟨ps_for hp hc (pi_range1 hgl hm (pa_cons ha.pe pa_nil hs1) hs2) hg.pe hb.pe hs, fun σ H G own ρ Ω Wa Da Dc r s h k => by
  refine ha.sim σ H G own ρ Ω Wa _ _ r s h (fun v H1 G1 own1 d Ω1 e1 r1 dv1 q1 => ?_) (k.kx s)
  obtain ⟨j, rfl, h1, h2, q⟩ := q1
  cases dv1
  have k1 := k.mono e1
  refine ⟨j, rfl, h1, h2, for_range (lo := 0) (n := j.toNat) (ForI X.K ca ag rs (rngD 0 j.toNat) Wa Da G1 own1 H1) ⟨G1, own1, ρ, Ω1, Stp.refl, r1, s.mono e1.same, q⟩ (fun i σ' H' hi p => ?_) (fun σ' H' p => forI_end rngD_length.symm k1 p)⟩
  exact forI_turn hg.sim hb.sim k1 (rngD_get hi) (.int _) p⟩
def aForR2 (ra rb : ATE) (g : AG) (b : ATS) : ATS := fun Wa Da ρ Ω => ra Wa ρ Ω fun d Ω1 => rb Wa ρ Ω1 fun d2 Ω2 => ∃ i j : Int, d = .int i ∧ d2 = .int j ∧ (-(2 ^ 62) ≤ i ∧ i < 2 ^ 62 ∧ -(2 ^ 62) ≤ j ∧ j < 2 ^ 62) ∧ forL g b (rngD i (j - i).toNat) Wa Da ρ Ω2
end
def astart (N : List Str) (ds : List D) : En := ds.map some ++ List.replicate (N.length - ds.length) none
theorem sr_start {K : PySem.W.Frag} {G : Hp} {N : List Str} {vs : List V} {ds : List D} (h : DVs K G vs ds) : SR K G (L2.start N vs) (astart N ds) := by
  refine ⟨by unfold L2.start astart; rw [List.length_append, List.length_append, List.length_map, List.length_map, List.length_replicate, List.length_replicate, h.length], fun i d hd => ?_⟩
  unfold astart at hd
  by_cases hi : i < (ds.map some).length
  · rw [List.getElem?_append_left hi, List.getElem?_map] at hd
    rw [List.length_map] at hi
    cases e : ds[i]? with
    | none => rw [e] at hd; cases hd
    | some x =>
      rw [e] at hd
      cases hd
      obtain ⟨v, hv, dv⟩ := h.get e
      refine ⟨v, ?_, dv⟩
      unfold L2.start
      rw [List.getElem?_append_left (by rw [List.length_map, h.length]; exact hi), List.getElem?_map, hv]
      rfl
  · rw [List.getElem?_append_right (by omega), List.getElem?_replicate] at hd
    split at hd <;> cases hd
section
variable {P : Program} {w : World} {K : PySem.W.Frag} {mg : Str → Option Value} {base : Heap} {ca : CA}
abbrev WD (E : XK) : WX := fun cls d _ H => E cls d H
theorem okA {x qual : Str} {st : Stmt} {f : Addr} {fd : FuncData} {N ps : List Str} {k : Nat} {Fa : AF} (F : Fun K x qual st f fd) (S : FnScope N ps (defScope st)) (len : ∀ ds Ω Q E, Fa ds Ω Q E → ds.length = ps.length)
    (h : ∀ (cdv : Value) (A : Around) (outer : List Env) (s : Shared) (H : Hp) (E : XK), Room k (A.deeper (PyProof.Rows.envOfC qual (defScope st) s.heap.objs.size f cdv)) →
      ∃ ts ta, ASs (cxOf (L2.CX P w) P w K mg base N qual (defScope st) f cdv A outer s H E) ca (WD E) (defBody st) ts ta ∧
        ∀ ds Ω Qa Ea, Fa ds Ω Qa Ea → ta (fun cls _ Ω' => Ea cls Ω') { nx := fun _ Ω' => Qa .non Ω', rt := Qa } (astart N ds) Ω) : FnOk P w K mg base (L2.CX P w) (k + 1) f fd ps (spA K ca Fa) := by
  refine F.okX S (fun vs H Q E hsp => ?_) (fun cdv A outer s H vs Q E hr hsp => ?_)
  · obtain ⟨G, own, Ω, ds, Qa, Ea, r, dv, hF, _⟩ := hsp
    rw [dv.length]
    exact len _ _ _ _ hF
  · obtain ⟨ts, ta, hA, hq⟩ := h cdv A outer s H E hr
    obtain ⟨G, own, Ω, ds, Qa, Ea, r, dv, hF, k1, k2⟩ := hsp
    exact ⟨ts, hA.pe, hA.sim _ _ G own (astart N ds) Ω (fun cls _ Ω' => Ea cls Ω') _ _ r (sr_start dv) (hq ds Ω Qa Ea hF)
      ⟨fun σ' H' G' own' ρ' Ω' e r' s' q => k1 _ _ _ _ .non _ e r' .non q, fun v H' G' own' d Ω' e r' dv' q => k1 _ _ _ _ _ _ e r' dv' q, fun _ _ _ _ _ _ _ _ _ q => q.elim, fun _ _ _ _ _ _ _ _ _ q => q.elim, fun cls σ' H' G' own' ρ' Ω' e r' s' q => k2 _ _ _ _ _ e r' q⟩⟩
end
end PL
namespace PL
open PySem L2
section
variable {X : Cx} {ca : CA} {W : WX} {a b e : Expr} {es : List Expr} {ta tb te : TE} {ra rb re : ATE} {tr : TA} {rr : ATA} {pos : Pos}
def CPowB (i j : Int) : Prop := 0 ≤ j ∧ (Builtin.Int.intBits i : Int) * j ≤ 2 ^ 27
def aPowB := aOp (fI CPowB fun i j => i ^ j.toNat)
theorem op_powB : OpR X (binaryOp .Pow) (rI CPowB fun i j => .int (i ^ j.toNat)) := opI fun _ _ _ _ _ _ _ hc q => PyProof.Rows.pow_int hc.1 hc.2 q
theorem ae_powB (ha : AE X ca W a ta ra) (hb : AE X ca W b tb rb) : AE X ca W (.BinOp a .Pow b pos) (tOp (rI CPowB fun i j => .int (i ^ j.toNat)) ta tb) (aPowB ra rb) := ⟨pe_op op_powB ha.pe hb.pe, sim_op simr_I ha.sim hb.sim⟩
theorem ae_neg (ha : AE X ca W a ta ra) : AE X ca W (.UnaryOp .USub a pos) (tUn (rU fun i => .int (-i)) ta) (fun Wa ρ Ω Q => ra Wa ρ Ω fun x Ω1 => ∃ i : Int, x = .int i ∧ Q (.int (-i)) Ω1) := ⟨pe_un un_neg ha.pe, fun σ H G own ρ Ω Wa Qa Qc r s h k kx => ha.sim σ H G own ρ Ω Wa _ _ r s h (fun v H1 G1 own1 d Ω1 e1 r1 dv1 q1 => by
  obtain ⟨i, rfl, q⟩ := q1
  cases dv1
  exact ⟨i, rfl, k _ _ _ _ _ _ e1 r1 (.int _) q⟩) kx⟩
def rowD (ns : List Int) (i c m : Int) : List D := [.lst (ns.map D.int), .int i, .int c, .int m]
theorem Rel.toRow {K : PySem.W.Frag} {G H : Hp} {own : Addr → Option Addr} {Ω : Om} {p : Addr} {ns : List Int} {i c m : Int} (r : Rel K ca G own H Ω) (e : Ω p = some (.lst (rowD ns i c m))) (h0 : 0 ≤ i) (h1 : i ≤ ns.length) (h2 : 0 ≤ c) : Rel K ca G own H (oset Ω p .row) := by
  obtain ⟨w, vs, hv, dv⟩ := r.objs p _ e
  unfold rowD at dv
  cases dv with
  | cons d1 dv =>
    cases dv with
    | cons d2 dv =>
      cases dv with
      | cons d3 dv =>
        cases dv with
        | cons d4 dv =>
          cases dv
          cases d2
          cases d3
          cases d4
          cases d1 with
          | lst q ds =>
            rw [ds.ints] at q
            exact r.turn (fun b u hb _ => hb) (fun b u hb _ => hb) ⟨w, _, ns, i, c, m, hv, q, h0, h1, h2⟩
theorem Rel.ofRow {K : PySem.W.Frag} {G H : Hp} {own : Addr → Option Addr} {Ω : Om} {p : Addr} (r : Rel K ca G own H Ω) (e : Ω p = some .row) : ∃ ns i c m, 0 ≤ i ∧ i ≤ (ns.length : Int) ∧ 0 ≤ c ∧ Rel K ca G own H (oset Ω p (.lst (rowD ns i c m))) := by
  obtain ⟨w, q, ns, i, c, m, hv, hs, h0, h1, h2⟩ := r.objs p _ e
  refine ⟨ns, i, c, m, h0, h1, h2, r.turn (fun b u hb _ => hb) (fun b u hb _ => hb) ⟨w, _, hv, ?_⟩⟩
  exact .cons (.lst hs (DVs.of_ints ns)) (.cons (.int i) (.cons (.int c) (.cons (.int m) .nil)))
def aAsRow (re : ATE) : ATE := fun Wa ρ Ω Q => re Wa ρ Ω fun x Ω1 => ∃ a ns i c m, x = .o a ∧ Ω1 a = some (.lst (rowD ns i c m)) ∧ 0 ≤ i ∧ i ≤ ns.length ∧ 0 ≤ c ∧ Q (.o a) (oset Ω1 a .row)
theorem ae_asRow (ha : AE X ca W e te re) : AE X ca W e te (aAsRow re) := ⟨ha.pe, fun σ H G own ρ Ω Wa Qa Qc r s h k kx => ha.sim σ H G own ρ Ω Wa _ _ r s h (fun v H1 G1 own1 d Ω1 e1 r1 dv1 q1 => by
  obtain ⟨p, ns, i, c, m, rfl, ho, h0, h1, h2, q⟩ := q1
  cases dv1
  exact k _ _ _ _ _ _ e1 (r1.toRow ho h0 h1 h2) (.o p) q) kx⟩
def wipeA (ρ : En) : List Nat → En
  | [] => ρ
  | v :: vs => (wipeA ρ vs).set v none
theorem SR.wipe {K : PySem.W.Frag} {G : Hp} {σ : St} {ρ : En} (s : SR K G σ ρ) : ∀ vs : List Nat, SR K G (wipe σ vs) (wipeA ρ vs)
  | [] => s
  | v :: vs => by
    have h := s.wipe vs
    unfold L2.wipe wipeA
    exact h.drop v none
/-- what the block makes of each item, one after the other; acc: what is made so far -/
def compL (g : AG) (c : ATT) (re : ATE) (vs : List Nat) : List D → List D → AW → En → Om → AQ → Prop
  | [], acc, _, _, Ω, Q => Q (.lst acc) Ω
  | x :: xs, acc, Wa, ρ, Ω, Q => g x (wipeA ρ vs) Ω fun ρ1 Ω1 => c Wa ρ1 Ω1 fun k Ω2 => if k = true then re Wa ρ1 Ω2 fun y Ω3 => acc.length < sizeLine ∧ compL g c re vs xs (acc ++ [y]) Wa ρ Ω3 Q else compL g c re vs xs acc Wa ρ Ω2 Q
abbrev W0 : WX := fun _ _ _ _ => False
abbrev Wa0 : AW := fun _ _ _ => False
/-- the block's step, from the state around -/
def CompI (K : PySem.W.Frag) (ca : CA) (ag : AG) (rc : ATT) (re : ATE) (vs : List Nat) (xs : List D) (ρ : En) (G : Hp) (own : Addr → Option Addr) (H : Hp) (D0 : Addr) (Q : AQ) (i : Nat) (H' : Hp) : Prop :=
  ∃ (G' : Hp) (own' : Addr → Option Addr) (Ω' : Om) (us : List V) (acc : List D), Stp G own H G' own' H' ∧ Rel K ca G' own' H' Ω' ∧ H' D0 = some (.lst us) ∧ own' D0 = none ∧ G' D0 = none ∧ DVs K G' us acc ∧ compL ag rc re vs (xs.drop i) acc Wa0 ρ Ω' Q
def Wip (g : TG) (vs : List Nat) : Prop := ∀ σ v H Q, g v (wipe σ vs) H Q → g v (wipe σ vs) H fun σ2 H2 => wipe σ2 vs = wipe σ vs ∧ Q σ2 H2
theorem wipe_set {y : Option V} : ∀ {vs : List Nat} {σ : St} {i : Nat}, wipe (σ.set i y) vs = if i ∈ vs then wipe σ vs else (wipe σ vs).set i y
  | [], σ, i => by simp [L2.wipe]
  | v :: vs, σ, i => by
    show (wipe (σ.set i y) vs).set v none = if i ∈ v :: vs then (wipe σ vs).set v none else ((wipe σ vs).set v none).set i y
    rw [wipe_set]
    by_cases h : i ∈ vs
    · rw [if_pos h, if_pos (List.mem_cons_of_mem _ h)]
    · rw [if_neg h]
      by_cases hv : i = v
      · subst hv
        rw [if_pos List.mem_cons_self, List.set_set]
      · rw [if_neg (by simp [hv, h]), List.set_comm _ _ hv]
theorem wipe_wipe : ∀ {vs ws : List Nat} {σ : St}, (∀ v ∈ vs, v ∈ ws) → wipe (wipe σ vs) ws = wipe σ ws
  | [], ws, σ, _ => rfl
  | v :: vs, ws, σ, h => by
    show wipe ((wipe σ vs).set v none) ws = wipe σ ws
    rw [wipe_set, if_pos (h v List.mem_cons_self)]
    exact wipe_wipe fun w hw => h w (List.mem_cons_of_mem _ hw)
theorem wip_name {i : Nat} {vs : List Nat} (h : i ∈ vs) : Wip (gName i) vs := fun σ v H Q q => ⟨by rw [wipe_set, if_pos h, wipe_wipe fun _ hv => hv], q⟩
theorem wip_names {vs : List Nat} {σ0 : St} : ∀ {is : List Nat}, (∀ i ∈ is, i ∈ vs) → ∀ σ xs H Q, wipe σ vs = σ0 → gNames is xs σ H Q → gNames is xs σ H fun σ2 H2 => wipe σ2 vs = σ0 ∧ Q σ2 H2
  | [], _, σ, xs, H, Q, e, h => ⟨h.1, e, h.2⟩
  | i :: is, hi, σ, xs, H, Q, e, h => by
    obtain ⟨v, r, ex, q⟩ := h
    refine ⟨v, r, ex, ?_⟩
    exact wip_names (is := is) (fun j hj => hi j (List.mem_cons_of_mem _ hj)) (σ.set i (some v)) r H Q (by rw [wipe_set, if_pos (hi i List.mem_cons_self)]; exact e) q
theorem wip_tup {K : PySem.W.Frag} {n : Nat} {is vs : List Nat} (h : ∀ i ∈ is, i ∈ vs) : Wip (gTup K n (gNames is)) vs := fun σ v H Q q => by
  obtain ⟨a, xs, e, hs, hl, q⟩ := q
  exact ⟨a, xs, e, hs, hl, wip_names h _ _ _ _ (wipe_wipe fun _ hv => hv) q⟩
theorem compI_turn {K : PySem.W.Frag} {ca : CA} {g : TG} {ag : AG} {tt : TT} {rc : ATT} {te : TE} {re : ATE} {vs : List Nat} {xs : List D} {ρ : En} {G H H' : Hp} {own : Addr → Option Addr} {σ : St} {D0 : Addr} {Q : AQ} {i : Nat} {x : D} {v : V}
    (hg : SimG K ca g ag) (hw : Wip g vs) (hc : SimT K ca W0 tt rc) (he : SimE K ca W0 te re) (s : SR K G σ ρ) (h0 : H D0 = none) (hx : xs[i]? = some x) (dv : DV K G v x) (p : CompI K ca ag rc re vs xs ρ G own H D0 Q i H') :
    g v (wipe σ vs) H' fun σ2 H2 => wipe σ2 vs = wipe σ vs ∧ tt σ2 H2 fun b H3 =>
      if b = true then te σ2 H3 fun y H4 => ∃ acc, H4 D0 = some (.lst acc) ∧ acc.length < sizeLine ∧ CompI K ca ag rc re vs xs ρ G own H D0 Q (i + 1) (upd H4 D0 (.lst (acc ++ [y]))) else CompI K ca ag rc re vs xs ρ G own H D0 Q (i + 1) H3 := by
  obtain ⟨G1, own1, Ω1, us, acc, e1, r1, h1, w1, g1, d1, q⟩ := p
  have hlt : i < xs.length := (List.getElem?_eq_some_iff.mp hx).1
  have hd : xs.drop i = x :: xs.drop (i + 1) := by
    rw [List.drop_eq_getElem_cons hlt]
    rw [(List.getElem?_eq_some_iff.mp hx).2]
  rw [hd] at q
  refine hw σ v H' _ (hg (wipe σ vs) H' G1 own1 (wipeA ρ vs) Ω1 v x _ _ r1 ((s.mono e1.same).wipe vs) (dv.mono e1.same) q fun σ2 H2 G2 own2 ρ2 Ω2 e2 r2 s2 q2 => ?_)
  have f2 := e2.fr D0 _ h1 w1 g1
  refine hc σ2 H2 G2 own2 ρ2 Ω2 Wa0 _ _ r2 s2 q2 (fun b H3 G3 own3 Ω3 e3 r3 q3 => ?_) fun _ _ _ _ _ _ _ z => z
  have f3 := e3.fr D0 _ f2.1 f2.2.1 f2.2.2
  cases b with
  | false =>
    rw [if_neg Bool.false_ne_true] at q3 ⊢
    exact ⟨G3, own3, Ω3, us, acc, (e1.trans e2).trans e3, r3, f3.1, f3.2.1, f3.2.2, d1.mono (e2.trans e3).same, q3⟩
  | true =>
    rw [if_pos rfl] at q3 ⊢
    refine he σ2 H3 G3 own3 ρ2 Ω3 Wa0 _ _ r3 (s2.mono e3.same) q3 (fun y H4 G4 own4 d Ω4 e4 r4 dv4 q4 => ?_) fun _ _ _ _ _ _ _ z => z
    have f4 := e4.fr D0 _ f3.1 f3.2.1 f3.2.2
    have ee := e2.trans (e3.trans e4)
    refine ⟨us, f4.1, by rw [d1.length]; exact q4.1, G4, own4, Ω4, us ++ [y], acc ++ [d], ?_, r4.privSet f4.1 (fun z => z) f4.2.2 f4.2.1, upd_same, f4.2.1, f4.2.2, (d1.mono ee.same).append (.cons dv4 .nil), q4.2⟩
    have e5 := e1.trans ee
    refine ⟨e5.same, fun b w hb n g => ?_⟩
    obtain ⟨z1, z2, z3⟩ := e5.fr b w hb n g
    exact ⟨by rw [upd_ne (ne_of_none hb h0)]; exact z1, z2, z3⟩
theorem compI_end {K : PySem.W.Frag} {ca : CA} {ag : AG} {rc : ATT} {re : ATE} {vs : List Nat} {xs : List D} {ρ : En} {G H H' : Hp} {own : Addr → Option Addr} {D0 : Addr} {Qa : AQ} {Qc : VK} {n : Nat} (hn : n = xs.length) (h0 : H D0 = none)
    (k : ∀ v H' G' own' d Ω', Stp G own H G' own' H' → Rel K ca G' own' H' Ω' → DV K G' v d → Qa d Ω' → Qc v H') (p : CompI K ca ag rc re vs xs ρ G own H D0 Qa n H') : Qc (.ref D0) H' := by
  obtain ⟨G1, own1, Ω1, us, acc, e1, r1, h1, w1, g1, d1, q⟩ := p
  rw [hn, List.drop_length] at q
  obtain ⟨r2, e2⟩ := r1.privData h1 g1 w1
  refine k _ _ _ _ _ _ ⟨e1.same.trans e2, fun b w hb n g => ?_⟩ r2 (.lst (SqL.of upd_same) (d1.mono e2)) q
  obtain ⟨z1, z2, z3⟩ := e1.fr b w hb n g
  exact ⟨z1, z2, by rw [upd_ne (ne_of_none hb h0)]; exact z3⟩
theorem compI_start {K : PySem.W.Frag} {ca : CA} {ag : AG} {rc : ATT} {re : ATE} {vs : List Nat} {xs : List D} {ρ : En} {G H : Hp} {own : Addr → Option Addr} {Ω : Om} {D0 : Addr} {Qa : AQ} (r : Rel K ca G own H Ω) (h0 : H D0 = none) (q : compL ag rc re vs xs [] Wa0 ρ Ω Qa) :
    CompI K ca ag rc re vs xs ρ G own H D0 Qa 0 (upd H D0 (.lst [])) :=
  ⟨G, uown own D0 none, Ω, [], [], stp_new h0, r.priv h0, upd_same, if_pos rfl, r.sub.free h0, .nil, q⟩
def aYes : ATT := fun _ _ Ω Q => Q true Ω
theorem sim_yes {K : PySem.W.Frag} {ca : CA} {W : WX} : SimT K ca W tYes aYes := fun σ H G own ρ Ω Wa Qa Qc r s h k _ => k _ _ _ _ _ Stp.refl r h
/-- [elt for tg in xs if ..], xs data -/
def aLc (ri : ATE) (g : AG) (c : ATT) (re : ATE) (vs : List Nat) : ATE := fun Wa ρ Ω Q => ri Wa ρ Ω fun d Ω1 => ∃ xs, d = .lst xs ∧ compL g c re vs xs [] Wa0 ρ Ω1 Q
theorem sim_lc {ti : TE} {ri : ATE} {g : TG} {ag : AG} {tt : TT} {rc : ATT} {K : PySem.W.Frag} {vs : List Nat} (hi : SimE K ca W ti ri) (hg : SimG K ca g ag) (hw : Wip g vs) (hc : SimT K ca W0 tt rc) (he : SimE K ca W0 te re) : SimE K ca W (tLc (iList K ti) g tt te vs) (aLc ri ag rc re vs) := fun σ H G own ρ Ω Wa Qa Qc r s h k kx =>
  hi σ H G own ρ Ω Wa _ _ r s h (fun v H1 G1 own1 d Ω1 e1 r1 dv1 q1 => by
    obtain ⟨xs, rfl, q⟩ := q1
    cases dv1 with
    | lst hq ds =>
      rename_i a us
      refine ⟨a, rfl, ⟨us, r1.sub.seq hq⟩, fun D0 h0 => lc_list (K := K) (a := a) (xs := us) (CompI K ca ag rc re vs xs ρ G1 own1 H1 D0 Qa) (compI_start r1 h0 q) (fun i H' _ p => ?_) (fun i x H' hx p => ?_) (fun H' p => compI_end ds.length h0 (fun v H' G' own' d Ω' e => k v H' G' own' d Ω' (e1.trans e)) p)⟩
      · obtain ⟨G2, own2, Ω2, _, _, e2, r2, _⟩ := p
        exact r2.sub.seq (e2.same.seq hq)
      · obtain ⟨d, hd, dv⟩ := ds.getV hx
        exact compI_turn hg hw hc he (s.mono e1.same) h0 hd dv p) kx
/-- over range(n) -/
def aLcR (ri : ATE) (g : AG) (c : ATT) (re : ATE) (vs : List Nat) : ATE := fun Wa ρ Ω Q => ri Wa ρ Ω fun d Ω1 => ∃ j : Int, d = .int j ∧ -(2 ^ 62) ≤ j ∧ j < 2 ^ 62 ∧ compL g c re vs (rngD 0 j.toNat) [] Wa0 ρ Ω1 Q
theorem sim_lcR {ti : TE} {ri : ATE} {g : TG} {ag : AG} {tt : TT} {rc : ATT} {K : PySem.W.Frag} {vs : List Nat} (hi : SimE K ca W ti ri) (hg : SimG K ca g ag) (hw : Wip g vs) (hc : SimT K ca W0 tt rc) (he : SimE K ca W0 te re) : SimE K ca W (tLc (iRng1 (tCons ti tNil)) g tt te vs) (aLcR ri ag rc re vs) := fun σ H G own ρ Ω Wa Qa Qc r s h k kx =>
  hi σ H G own ρ Ω Wa _ _ r s h (fun v H1 G1 own1 d Ω1 e1 r1 dv1 q1 => by
    obtain ⟨j, rfl, h1, h2, q⟩ := q1
    cases dv1
    exact ⟨j, rfl, h1, h2, fun D0 h0 => lc_range (lo := 0) (n := j.toNat) (CompI K ca ag rc re vs (rngD 0 j.toNat) ρ G1 own1 H1 D0 Qa) (compI_start r1 h0 q) (fun i H' hi' p => compI_turn hg hw hc he (s.mono e1.same) h0 (rngD_get hi') (.int _) p)
      (fun H' p => compI_end rngD_length.symm h0 (fun v H' G' own' d Ω' e => k v H' G' own' d Ω' (e1.trans e)) p)⟩) kx
variable {elt iter tg : Expr} {ifs : List Expr} {scope : Scope} {ownn : List (Str × Nat)} {ti : TE} {ri : ATE} {g : TG} {ag : AG} {tt : TT} {rc : ATT}
abbrev Blk (X : Cx) (scope : Scope) (s : Shared) (H : Hp) (C : Addr) (cl : List (Str × Addr)) (fp : List Addr) : Cx := X.blk s H scope (compEnvC scope cl C X.env) fp
theorem ae_lc (hc : X.calm = true) (hN : X.N.Nodup) (hi : AE X ca W iter ti ri) (ok : BlkOk X.N X.env.scope scope ownn) (hw : Wip g (ownn.map (·.2)))
    (hg : ∀ s H C cl fp, AGt (Blk X scope s H C cl fp) ca tg g ag) (he : ∀ s H C cl fp, AE (Blk X scope s H C cl fp) ca W0 elt te re) (hs : ∀ x, foldedSetIterable iter X.env x = pure x := by intro _; rfl) :
    AE X ca W (.ListComp elt [⟨tg, iter, [], 0⟩] scope pos) (tLc (iList X.K ti) g tYes te (ownn.map (·.2))) (aLc ri ag aYes re (ownn.map (·.2))) :=
  ⟨pe_lc hc hN (pi_list hi.pe) ok (fun s H C cl fp => (hg s H C cl fp).pe) (fun s H C cl fp => pts_nil) (fun s H C cl fp => (he s H C cl fp).pe) hs,
    sim_lc hi.sim (hg X.s_0 (fun _ => none) 0 [] []).sim hw sim_yes (he X.s_0 (fun _ => none) 0 [] []).sim⟩
end
structure Dfn (K : PySem.W.Frag) (mg : Str → Option Value) (x qual : Str) (st : Stmt) (ps : List Str) : Prop where
  ex : ∃ f fd, Fun K x qual st f fd ∧ mg x = some (.ref f) ∧ Binds K fd ps []
abbrev Rm (k : Nat) (A : Around) : Prop := Room (k + 32) A
structure Clb (P : Program) (w : World) (K : PySem.W.Frag) (mg : Str → Option Value) (base : Heap) (ca : CA) (k : Nat) (x : Str) (F : AF) : Prop where
  ex : ∃ f fd ps, FnOk P w K mg base (L2.CX P w) (k + 32) f fd ps (spA K ca F) ∧ mg x = some (.ref f) ∧ PySem.W.keepIn K (.ref f) = true ∧ Binds K fd ps []
section
variable {P : Program} {w : World} {K : PySem.W.Frag} {mg : Str → Option Value} {base : Heap} {ca : CA}
theorem clb {x qual : Str} {st : Stmt} {N ps : List Str} {k : Nat} {Fa : AF} (d : Dfn K mg x qual st ps) (S : FnScope N ps (defScope st)) (len : ∀ ds Ω Q E, Fa ds Ω Q E → ds.length = ps.length)
    (h : ∀ (f : Addr) (cdv : Value) (A : Around) (outer : List Env) (s : Shared) (H : Hp) (E : XK), Rm k (A.deeper (PyProof.Rows.envOfC qual (defScope st) s.heap.objs.size f cdv)) →
      ∃ ts ta, ASs (cxOf (L2.CX P w) P w K mg base N qual (defScope st) f cdv A outer s H E) ca (WD E) (defBody st) ts ta ∧
        ∀ ds Ω Qa Ea, Fa ds Ω Qa Ea → ta (fun cls _ Ω' => Ea cls Ω') { nx := fun _ Ω' => Qa .non Ω', rt := Qa } (astart N ds) Ω) : Clb P w K mg base ca (k + 1) x Fa := by
  obtain ⟨f, fd, F, m, b⟩ := d.ex
  exact ⟨f, fd, ps, (okA F S len (h f)).mono (by omega), m, F.kp, b⟩
theorem Clb.imp {k : Nat} {x : Str} {F F' : AF} (c : Clb P w K mg base ca k x F) (h : ∀ vs H Q E, spA K ca F' vs H Q E → spA K ca F vs H Q E) : Clb P w K mg base ca k x F' := by
  obtain ⟨f, fd, ps, G, r⟩ := c.ex
  exact ⟨f, fd, ps, G.imp h, r⟩
theorem Clb.mono {j k : Nat} {x : Str} {F : AF} (c : Clb P w K mg base ca j x F) (h : j ≤ k) : Clb P w K mg base ca k x F := by
  obtain ⟨f, fd, ps, G, r⟩ := c.ex
  exact ⟨f, fd, ps, G.mono (Nat.add_le_add_right h 32), r⟩
/-- a stronger wish -/
theorem spA_imp {F F' : AF} (h : ∀ ds Ω Q E, F' ds Ω Q E → F ds Ω Q E) : ∀ vs H Q E, spA K ca F' vs H Q E → spA K ca F vs H Q E := fun vs H Q E ⟨G, own, Ω, ds, Qa, Ea, r, dv, f, k1, k2⟩ => ⟨G, own, Ω, ds, Qa, Ea, r, dv, h _ _ _ _ f, k1, k2⟩
end
theorem ae_call {X : Cx} {ca : CA} {W : WX} {e : Expr} {es : List Expr} {tr : TA} {rr : ATA} {pos p : Pos} {k j : Nat} {x : Str} {F : AF} (c : Clb X.prog X.w X.K X.mg X.base ca k x F) (hr : Rm j X.A) (tk : Takes X W) (hk : k ≤ j) (ha : AA X ca W (e :: es) tr rr)
    (hg : Gl X x := by rfl) (hdb : (x == ("__debug__" : Str)) = false := by decide) (he : starEach (e :: es) X.env = (false, eval e X.env) :: starEach es X.env := by rfl) (hpl : (backTo pos (starEach es X.env)).any (·.1) = false := by rfl) :
    AE X ca W (.Call (.Name x p) (e :: es) [] pos) (tCallS (spA X.K ca F) (WE W) tr) (aFn F rr) := by
  obtain ⟨f, fd, ps, G, m, kp, b⟩ := c.ex
  exact ae_fn G (Room.mono hr (Nat.add_le_add_right hk 32)) m kp b tk ha hg hdb he hpl
/-- a word between a statement and the rest -/
def aCut (t u : ATS) : ATS := fun Wa Da ρ Ω => ∃ Mid : En → Om → Prop, t Wa { Da with nx := Mid } ρ Ω ∧ ∀ ρ' Ω', Mid ρ' Ω' → u Wa Da ρ' Ω'
theorem ass_cut {X : Cx} {ca : CA} {W : WX} {st : Stmt} {rest : List Stmt} {ts tu : TS} {rs ru : ATS} (h1 : AS X ca W st ts rs) (h2 : ASs X ca W rest tu ru) : ASs X ca W (st :: rest) (Evl.tCut ts tu) (aCut rs ru) := ⟨Evl.pss_cut h1.pe h2.pe, fun σ H G own ρ Ω Wa Da Dc r s h k => by
  obtain ⟨Mid, m1, m2⟩ := h
  refine ⟨fun σ' H' => ∃ G' own' ρ' Ω', Stp G own H G' own' H' ∧ Rel X.K ca G' own' H' Ω' ∧ SR X.K G' σ' ρ' ∧ Mid ρ' Ω', ?_, ?_⟩
  · exact h1.sim σ H G own ρ Ω Wa _ _ r s m1 ⟨fun σ' H' G' own' ρ' Ω' e r' s' q => ⟨G', own', ρ', Ω', e, r', s', q⟩, k.rt, k.bk, k.ct, k.ex⟩
  · rintro σ' H' ⟨G', own', ρ', Ω', e, r', s', q⟩
    exact h2.sim σ' H' G' own' ρ' Ω' Wa Da Dc r' s' (m2 ρ' Ω' q) (k.mono e)⟩
theorem dfn {K : PySem.W.Frag} {h : Heap} {mg : Str → Option Value} {x : Str} {st : Stmt} {ps : List Str} {f : Addr} {oc : Value} {od an : Option Addr} {osl : Array (Option Value)} {kV doc pm cdv ct : Value} (X : K.In h) (G : h.Ns mainGlobals mg)
    (a : PySem.W.nsIn K mainGlobals x = some (some (.ref f))) (l : K.lookup f = some ⟨oc, od, .func (PySem.W.fnOf x x (defArgs st) (defBody st) (defScope st) .none kV doc pm an cdv ct), osl⟩) (c : PySem.W.codeIn K cdv x = true) (k : PySem.W.keepIn K (.ref f) = true)
    (hb : ∀ (kV doc pm : Value) (an : Option Addr) (cdv ct : Value) (us : List Value), us.length = ps.length → bindArgs (PySem.W.fnOf x x (defArgs st) (defBody st) (defScope st) .none kV doc pm an cdv ct) ⟨us, []⟩ = pure (ps.zip us)) : Dfn K mg x x st ps :=
  ⟨f, _, fun_mk (st := st) l c k, PySem.W.mg_of X G a, (fun_mk (st := st) l c k).binds hb⟩
def F_law : AF := fun ds Ω Q _ => ∃ ns : List Int, ds = [.lst (ns.map D.int)] ∧ ns.length ≤ 63 ∧ ∀ Ω', Q (.bl true) Ω'
theorem law_len : ∀ ds Ω Q E, F_law ds Ω Q E → ds.length = (["_law_script"] : List Str).length := by
  rintro ds Ω Q E ⟨ns, rfl, _⟩
  rfl
theorem only_rel {K : PySem.W.Frag} {ca : CA} {H : Hp} : Rel K ca H (fun _ => none) H (fun _ => none) := ⟨Same.refl _, fun _ _ _ => rfl, fun _ _ e => by cases e⟩
theorem atI_eq {α : Type} {xs : List α} (n : Nat) : atI xs (n : Int) = xs[n]? := by
  cases h : xs[n]? with
  | some v => exact atI_nat h
  | none =>
    have hl : xs.length ≤ n := List.getElem?_eq_none_iff.mp h
    unfold atI ixN
    rw [if_pos (by omega), if_neg (by omega)]
    rfl
theorem at_0 {α : Type} {xs : List α} : atI xs 0 = xs[0]? := atI_eq 0
theorem at_1 {α : Type} {xs : List α} : atI xs 1 = xs[1]? := atI_eq 1
theorem at_2 {α : Type} {xs : List α} : atI xs 2 = xs[2]? := atI_eq 2
theorem at_3 {α : Type} {xs : List α} : atI xs 3 = xs[3]? := atI_eq 3
theorem at_l {α : Type} {xs : List α} : atI xs (-1) = xs.getLast? := by
  rcases List.eq_nil_or_concat xs with rfl | ⟨ys, y, rfl⟩
  · rfl
  · rw [List.concat_eq_append, atI_last, List.getLast?_concat]
theorem ix_eq {n : Nat} (k : Nat) (h : k < n) : ixN n (k : Int) = some k := by
  unfold ixN
  rw [if_pos (by omega), if_pos (by omega)]
  simp
theorem ix_40 : ixN 4 0 = some 0 := by decide
theorem ix_41 : ixN 4 1 = some 1 := by decide
theorem ix_42 : ixN 4 2 = some 2 := by decide
theorem ix_43 : ixN 4 3 = some 3 := by decide
theorem atI_int {ns : List Int} {i : Int} (h0 : 0 ≤ i) (h : i < ns.length) : ∃ v, v ∈ ns ∧ atI (ns.map D.int) i = some (.int v) := by
  obtain ⟨n, rfl⟩ := Int.eq_ofNat_of_zero_le h0
  have hl : n < ns.length := by omega
  refine ⟨ns[n], List.getElem_mem hl, ?_⟩
  rw [atI_eq, List.getElem?_map, List.getElem?_eq_getElem hl]
  rfl
theorem seq_lst {Ω : Om} {xs : List D} : (D.lst xs).seq Ω = some xs := rfl
theorem seq_tup {Ω : Om} {xs : List D} : (D.tup xs).seq Ω = some xs := rfl
theorem seq_o {Ω : Om} {a : Addr} {xs : List D} (h : Ω a = some (.lst xs)) : (D.o a).seq Ω = some xs := by simp only [D.seq, h]
theorem ty_int {Ω : Om} {i : Int} : (D.int i).ty Ω = some "int" := rfl
theorem ty_bl {Ω : Om} {i : Bool} : (D.bl i).ty Ω = some "bool" := rfl
theorem ty_str {Ω : Om} {i : Str} : (D.str i).ty Ω = some "str" := rfl
theorem ty_tup {Ω : Om} {i : List D} : (D.tup i).ty Ω = some "tuple" := rfl
theorem ty_lst {Ω : Om} {i : List D} : (D.lst i).ty Ω = some "list" := rfl
theorem ty_non {Ω : Om} : D.non.ty Ω = some "NoneType" := rfl
theorem isT_ii : isT "int" "int" = some true := by decide +kernel
theorem isT_ib : isT "int" "bool" = some false := by decide +kernel
theorem isT_bi : isT "bool" "int" = some true := by decide +kernel
theorem isT_bb : isT "bool" "bool" = some true := by decide +kernel
theorem isT_tt : isT "tuple" "tuple" = some true := by decide +kernel
theorem isT_ss : isT "str" "str" = some true := by decide +kernel
theorem isT_ll : isT "list" "list" = some true := by decide +kernel
theorem nopy {i j : Int} (h : j ≠ 0) (_ : j.natAbs < 2 ^ 8000) : NoPy i j := h
theorem mulok {i j : Int} {a b : Nat} (hi : i.natAbs < 2 ^ a) (hj : j.natAbs < 2 ^ b) (h : a + b ≤ 900000) : IntMulOk i j :=
  (wide_mul (a := a + 1) (b := b + 1) (Nat.lt_of_lt_of_le hi (Nat.pow_le_pow_right (by decide) (by omega))) (Nat.lt_of_lt_of_le hj (Nat.pow_le_pow_right (by decide) (by omega))) (by omega) (by omega) (by omega)).ok
theorem mulok_r {i j : Int} (h1 : -(2 ^ 64) < j) (h2 : j < 2 ^ 64) : IntMulOk i j := .of_right (intBits_le_64 h1 h2)
theorem mulok_l {i j : Int} (h1 : -(2 ^ 64) < i) (h2 : i < 2 ^ 64) : IntMulOk i j := .of_left (intBits_le_64 h1 h2)
theorem bits_le {n : Int} {b : Nat} (h : n.natAbs < 2 ^ b) : Builtin.Int.intBits n ≤ b := by
  unfold Builtin.Int.intBits
  split
  · omega
  · rename_i h0
    have : n.natAbs.log2 < b := (Nat.log2_lt (by simpa using h0)).mpr h
    omega
theorem lt_bits {n : Int} : n.natAbs < 2 ^ Builtin.Int.intBits n := by
  unfold Builtin.Int.intBits
  split
  · rename_i h0
    have : n = 0 := by simpa using h0
    subst this
    decide
  · exact Nat.lt_log2_self
end PL
namespace PL
open PySem L2
section
variable {X : Cx} {ca : CA} {W : WX} {a b c e : Expr} {es : List Expr} {ta tb tc te : TE} {ra rb rc re : ATE} {tr : TA} {rr : ATA} {pos : Pos} {st : Stmt} {ts : TS} {rs : ATS}
def rCatL (K : PySem.W.Frag) : R2 := fun x y H Q => ∃ l b xs zs, x = .ref l ∧ y = .ref b ∧ SqL K H l xs ∧ SqL K H b zs ∧ xs.length + zs.length ≤ sizeLine ∧ ∀ p, H p = none → Q (.ref p) (upd H p (.lst (xs ++ zs)))
theorem op_catL : OpR X (binaryOp .Add) (rCatL X.K) := by
  intro pins s σ H x y v u Q I rx ry h
  obtain ⟨l, b, xs, zs, rfl, rfl, hH, hB, hz, q⟩ := h
  cases rx
  cases ry
  obtain ⟨its, r, p1, _⟩ := I.list hH
  obtain ⟨its2, r2, p2, _⟩ := I.list hB
  obtain ⟨⟨cls, dd, data, sl⟩, n, ho, hc, _, hd⟩ := p1
  obtain ⟨⟨cls2, dd2, data2, sl2⟩, n2, ho2, hc2, _, hd2⟩ := p2
  simp only at hc hd hc2 hd2
  subst hc hd hc2 hd2
  have hl := r.length
  have hl2 := r2.length
  have ea : its.toArray ++ its2.toArray = (its ++ its2).toArray := by simp
  refine PySem.concat_meets ⟨_, ho, rfl⟩ ⟨_, ho2, rfl⟩ noFill_list_add seq_list_add PySem.F.slot_list_add PySem.F.entry_list_add (PySem.F.args_list_add_2 _ _) (PyProof.Rows.list_addW l b its.toArray its2.toArray n n2 dd dd2 sl sl2 (by rw [List.size_toArray, List.size_toArray]; omega)) ⟨ho, ho2, ?_⟩
  rw [ea]
  exact ⟨.ref _, _, I.lnew (t' := s.toks) (r.append r2) (by rw [List.length_append]; omega), rfl, q _ I.fresh⟩
/-- the items of a list: data, or ours -/
def D.lseq (Ω : Om) : D → Option (List D)
  | .lst xs => some xs
  | .o a => match Ω a with
    | some (.lst xs) => some xs
    | _ => none
  | _ => none
theorem lseq_lst {Ω : Om} {xs : List D} : (D.lst xs).lseq Ω = some xs := rfl
theorem lseq_o {Ω : Om} {a : Addr} {xs : List D} (h : Ω a = some (.lst xs)) : (D.o a).lseq Ω = some xs := by simp only [D.lseq, h]
theorem lseq_of {K : PySem.W.Frag} {G H : Hp} {own : Addr → Option Addr} {Ω : Om} {v : V} {x : D} {xs : List D} (r : Rel K ca G own H Ω) (dv : DV K G v x) (h : x.lseq Ω = some xs) : ∃ p vs, v = .ref p ∧ DVs K G vs xs ∧ SqL K H p vs := by
  cases dv with
  | lst a b => simp only [D.lseq, Option.some.injEq] at h; subst h; exact ⟨_, _, rfl, b, r.sub.seq a⟩
  | o a =>
    cases q : Ω a with
    | none => simp only [D.lseq, q] at h; cases h
    | some u =>
      cases u with
      | lst ys =>
        simp only [D.lseq, q, Option.some.injEq] at h; subst h
        obtain ⟨vs, hv, dv⟩ := r.lstAt q
        exact ⟨_, vs, rfl, dv, SqL.of hv⟩
      | row => simp only [D.lseq, q] at h; cases h
      | dic _ => simp only [D.lseq, q] at h; cases h
      | obj _ _ => simp only [D.lseq, q] at h; cases h
  | _ => simp [D.lseq] at h
def fCatL : D → D → Om → AQ → Prop := fun x y Ω Q => ∃ xs ys, x.lseq Ω = some xs ∧ y.lseq Ω = some ys ∧ xs.length + ys.length ≤ sizeLine ∧ Q (.lst (xs ++ ys)) Ω
def fCatO : D → D → Om → AQ → Prop := fun x y Ω Q => ∃ xs ys, x.lseq Ω = some xs ∧ y.lseq Ω = some ys ∧ xs.length + ys.length ≤ sizeLine ∧ ∀ p, Ω p = none → Q (.o p) (oset Ω p (.lst (xs ++ ys)))
def fCatT : D → D → Om → AQ → Prop := fun x y Ω Q => ∃ xs ys, x = .tup xs ∧ y = .tup ys ∧ xs.length + ys.length ≤ sizeLine ∧ Q (.tup (xs ++ ys)) Ω
theorem simr_catL {K : PySem.W.Frag} : SimR K ca (rCatL K) fCatL := by
  intro H G own Ω x y v w Qa Qc r dx dy h k
  obtain ⟨xs, ys, hx, hy, hz, q⟩ := h
  obtain ⟨p1, vs, rfl, d1, s1⟩ := lseq_of r dx hx
  obtain ⟨p2, us, rfl, d2, s2⟩ := lseq_of r dy hy
  refine ⟨p1, p2, vs, us, rfl, rfl, s1, s2, by rw [d1.length, d2.length]; exact hz, fun p hp => ?_⟩
  obtain ⟨r4, e4⟩ := r.data (u := .lst (vs ++ us)) hp
  exact k _ _ _ _ _ _ (stp_data e4 hp) r4 (.lst (SqL.of upd_same) ((d1.append d2).mono e4)) q
theorem simr_catO {K : PySem.W.Frag} : SimR K ca (rCatL K) fCatO := by
  intro H G own Ω x y v w Qa Qc r dx dy h k
  obtain ⟨xs, ys, hx, hy, hz, q⟩ := h
  obtain ⟨p1, vs, rfl, d1, s1⟩ := lseq_of r dx hx
  obtain ⟨p2, us, rfl, d2, s2⟩ := lseq_of r dy hy
  exact ⟨p1, p2, vs, us, rfl, rfl, s1, s2, by rw [d1.length, d2.length]; exact hz, fun p hp => k _ _ _ _ _ _ (stp_new hp) (r.newLst hp (d1.append d2)) (.o p) (q p (r.fresh hp))⟩
theorem DVs.nil_iff {K : PySem.W.Frag} {G : Hp} {vs : List V} {ds : List D} (h : DVs K G vs ds) : vs = [] ↔ ds = [] := by
  cases h with
  | nil => simp
  | cons _ _ => simp
theorem simr_catT {K : PySem.W.Frag} : SimR K ca (rCatA K) fCatT := by
  intro H G own Ω x y v w Qa Qc r dx dy h k
  obtain ⟨xs, ys, rfl, rfl, hz, q⟩ := h
  cases dx with
  | tup a1 b1 =>
    cases dy with
    | tup a2 b2 =>
      refine ⟨_, _, _, _, rfl, rfl, same_seqT r.sub a1, same_seqT r.sub a2, by rw [b1.length, b2.length]; exact hz, fun e => ?_, fun _ e => ?_, fun _ _ p hp => ?_⟩
      · have e' := b1.nil_iff.mp e
        subst e'
        exact k _ _ _ _ _ _ Stp.refl r (.tup a2 b2) q
      · have e' := b2.nil_iff.mp e
        subst e'
        rw [List.append_nil] at q
        exact k _ _ _ _ _ _ Stp.refl r (.tup a1 b1) q
      · obtain ⟨r4, e4⟩ := r.data (u := .tup _) hp
        exact k _ _ _ _ _ _ (stp_data e4 hp) r4 (.tup (SqT.of upd_same) ((b1.append b2).mono e4)) q
def aCatL := aOp fCatL
def aCatO := aOp fCatO
def aCatT := aOp fCatT
theorem ae_catL (ha : AE X ca W a ta ra) (hb : AE X ca W b tb rb) : AE X ca W (.BinOp a .Add b pos) (tOp (rCatL X.K) ta tb) (aCatL ra rb) := ⟨pe_op op_catL ha.pe hb.pe, sim_op simr_catL ha.sim hb.sim⟩
theorem ae_catO (ha : AE X ca W a ta ra) (hb : AE X ca W b tb rb) : AE X ca W (.BinOp a .Add b pos) (tOp (rCatL X.K) ta tb) (aCatO ra rb) := ⟨pe_op op_catL ha.pe hb.pe, sim_op simr_catO ha.sim hb.sim⟩
theorem ae_catT (ha : AE X ca W a ta ra) (hb : AE X ca W b tb rb) : AE X ca W (.BinOp a .Add b pos) (tOp (rCatA X.K) ta tb) (aCatT ra rb) := ⟨pe_op op_catA ha.pe hb.pe, sim_op simr_catT ha.sim hb.sim⟩
def aFrz (i : Nat) (rs : ATS) : ATS := fun Wa Da ρ Ω => ∃ a xs, ρ[i]? = some (some (.o a)) ∧ Ω a = some (.lst xs) ∧ rs Wa Da (ρ.set i (some (.lst xs))) (odel Ω a)
def aForRev (re : ATE) (g : AG) (b : ATS) : ATS := fun Wa Da ρ Ω => re Wa ρ Ω fun d Ω1 => ∃ xs, d = .lst xs ∧ forL g b xs.reverse Wa Da ρ Ω1
def aChain (f f' : D → D → Om → AQ → Prop) (ra rb rc : ATE) : ATE := fun Wa ρ Ω Q => ra Wa ρ Ω fun x Ω1 => rb Wa ρ Ω1 fun y Ω2 => f x y Ω2 fun z Ω3 => ∃ k, z = .bl k ∧ (if k = true then rc Wa ρ Ω3 fun w Ω4 => f' y w Ω4 Q else Q (.bl false) Ω3)
theorem sim_chain {K : PySem.W.Frag} {r r' : R2} {f f' : D → D → Om → AQ → Prop} (hf : SimR K ca r f) (hf' : SimR K ca r' f') (sa : SimE K ca W ta ra) (sb : SimE K ca W tb rb) (sc : SimE K ca W tc rc) : SimE K ca W (tChain r r' ta tb tc) (aChain f f' ra rb rc) := fun σ H G own ρ Ω Wa Qa Qc r s h' k kx =>
  sa σ H G own ρ Ω Wa _ _ r s h' (fun v H1 G1 own1 d Ω1 e1 r1 dv1 q1 => sb σ H1 G1 own1 ρ Ω1 Wa _ _ r1 (s.mono e1.same) q1 (fun w H2 G2 own2 d2 Ω2 e2 r2 dv2 q2 =>
    hf H2 G2 own2 Ω2 d d2 v w _ _ r2 (dv1.mono e2.same) dv2 q2 fun z H3 G3 own3 d3 Ω3 e3 r3 dv3 q3 => by
      obtain ⟨b, rfl, q⟩ := q3
      cases dv3
      refine ⟨b, rfl, ?_⟩
      cases b with
      | true => exact sc σ H3 G3 own3 ρ Ω3 Wa _ _ r3 (s.mono ((e1.trans e2).trans e3).same) q (fun u H4 G4 own4 d4 Ω4 e4 r4 dv4 q4 => hf' H4 G4 own4 Ω4 d2 d4 w u Qa Qc r4 (dv2.mono (e3.trans e4).same) dv4 q4 fun v5 H5 G5 own5 d5 Ω5 e5 => k v5 H5 G5 own5 d5 Ω5 ((((e1.trans e2).trans e3).trans e4).trans e5)) (((kx.mono e1).mono e2).mono e3)
      | false => exact k _ _ _ _ _ _ ((e1.trans e2).trans e3) r3 (.bl _) q) (kx.mono e1)) kx
def fLt := fB fun i j => decide (i < j)
def fLe := fB fun i j => decide (i ≤ j)
theorem ae_leLe (ha : AE X ca W a ta ra) (hb : AE X ca W b tb rb) (hc : AE X ca W c tc rc) (hm : lastMarks [.LtE, .LtE] [b, c] = false := by with_unfolding_all rfl) : AE X ca W (.Compare a [.LtE, .LtE] [b, c] pos) (tChain (rI0 fun i j => .bl (decide (i ≤ j))) (rI0 fun i j => .bl (decide (i ≤ j))) ta tb tc) (aChain fLe fLe ra rb rc) := ⟨pe_chain op_le op_le ha.pe hb.pe hc.pe hm, sim_chain simr_B simr_B ha.sim hb.sim hc.sim⟩
variable {elt iter tg : Expr} {scope : Scope} {ownn : List (Str × Nat)} {ti : TE} {ri : ATE} {g : TG} {ag : AG} {tt : TT} {rt : ATT}
theorem as_setLcR {i : Nat} {y : Str} {py spos p p2 : Pos} (hc : X.calm = true) (hN : X.N.Nodup) (hy : X.N[i]? = some y) (hyl : X.env.scope.names.lookup y = some .local)
    (hsw : swapsWith (.ListComp elt [⟨tg, .Call (.Name "range" p) [a] [] p2, [], 0⟩] scope pos) (some (.Name y py)) spos.line X.env = pure true) (hgl : Gl X "range") (hm : X.mg "range" = none) (hi : AE X ca W a ti ri) (ok : BlkOk X.N X.env.scope scope ownn) (hw : Wip g (ownn.map (·.2)))
    (hg : ∀ s H C cl fp, AGt (Blk X scope s H C cl fp) ca tg g ag) (he : ∀ s H C cl fp, AE (Blk X scope s H C cl fp) ca W0 elt te re)
    (hs1 : starEach [a] X.env = (false, eval a X.env) :: starEach [] X.env := by rfl) (hs2 : starEach [a] X.env = [(false, eval a X.env)] := by rfl) (hs : ∀ x, foldedSetIterable (.Call (.Name "range" p) [a] [] p2) X.env x = pure x := by intro _; rfl) :
    AS X ca W (.Assign [.Name y py] (.ListComp elt [⟨tg, .Call (.Name "range" p) [a] [] p2, [], 0⟩] scope pos) spos) (tAsg (tLc (iRng1 (tCons ti tNil)) g tYes te (ownn.map (·.2))) (gName i)) (aSet i (aLcR ri ag aYes re (ownn.map (·.2)))) :=
  ⟨ps_setLc hc hN hy hyl hsw (pi_range1 hgl hm (pa_cons hi.pe pa_nil hs1) hs2) ok (fun s H C cl fp => (hg s H C cl fp).pe) (fun s H C cl fp => pts_nil) (fun s H C cl fp => (he s H C cl fp).pe) hs,
    sim_asg (sim_lcR hi.sim (hg X.s_0 (fun _ => none) 0 [] []).sim hw sim_yes (he X.s_0 (fun _ => none) 0 [] []).sim) simg_name⟩
theorem boot_min' : bootBuiltins "min" = some (.builtin "min") := by decide +kernel
def fMin : List D → Om → AQ → Prop := fun xs Ω Q => ∃ ns : List Int, xs = [.lst (ns.map D.int)] ∧ 0 < ns.length ∧ ∀ m, m ∈ ns → (∀ y, y ∈ ns → m ≤ y) → Q (.int m) Ω
theorem ae_min {p : Pos} (hg : Gl X "min") (hm : X.mg "min" = none) (hc : X.calm = true) (ha : AE X ca W e te re) (hs : starEach [e] X.env = (false, eval e X.env) :: starEach [] X.env := by rfl) : AE X ca W (.Call (.Name "min" p) [e] [] pos) (tCB (rMin X.K) (tCons te tNil)) (aCall fMin (aCons re aNil)) :=
  ae_callB (cr_min hc) (by
    intro H G own Ω xs vs Qa Qc r d h k
    obtain ⟨ns, rfl, hn, q⟩ := h
    obtain ⟨v, rfl, dv⟩ := dv1 d
    cases dv with
    | lst a b =>
      rw [b.ints] at a
      exact ⟨_, ns, rfl, r.sub.seq a, hn, fun m h1 h2 => k _ _ _ _ _ _ Stp.refl r (.int m) (q m h1 h2)⟩) hg hm boot_min' (aa_cons ha aa_nil hs) (by decide) (by decide) hs
end
end PL
namespace PL
open PySem L2
theorem small1000' {n : Nat} (h : n ≤ 100000) : n < sizeLine := Nat.lt_of_le_of_lt h (show 100000 < sizeLine by rw [sizeLine_eq]; decide)
end PL
namespace PL
open PySem L2
mutual
def D.fits : Nat → D → Bool
  | _, .non => true
  | _, .bl _ => true
  | _, .int _ => true
  | _, .str x => (PyData.str x).canLay0
  | 0, .tup _ => false
  | n + 1, .tup xs => D.fitsAll n xs
  | 0, .lst _ => false
  | n + 1, .lst xs => D.fitsAll n xs
  | _, .o _ => false
def D.fitsAll : Nat → List D → Bool
  | _, [] => true
  | n, x :: xs => D.fits n x && D.fitsAll n xs
end
mutual
theorem D.fits_py : ∀ (n : Nat) (d : D), D.fits n d = true → ∃ p, D.py d = some p ∧ PyData.eqv p p = true ∧ p.canLay0 = true ∧ p.depth ≤ n
  | _, .non, _ => ⟨_, rfl, by simp [PyData.eqv], rfl, by simp [PyData.depth]⟩
  | _, .bl _, _ => ⟨_, rfl, by simp [PyData.eqv], rfl, by simp [PyData.depth]⟩
  | _, .int _, _ => ⟨_, rfl, by simp [PyData.eqv], rfl, by simp [PyData.depth]⟩
  | _, .str _, h => ⟨_, rfl, by simp [PyData.eqv], by simpa only [D.fits] using h, by simp [PyData.depth]⟩
  | 0, .tup _, h => nomatch h
  | n + 1, .tup xs, h => by
    obtain ⟨ps, e1, e2, e3, e4⟩ := D.fitsAll_py n xs (by simpa only [D.fits] using h)
    exact ⟨.tuple ps, by simp only [D.py, e1, Option.map_some], by simp only [PyData.eqv, e2], by simp only [PyData.canLay0, e3], by simp only [PyData.depth]; omega⟩
  | 0, .lst _, h => nomatch h
  | n + 1, .lst xs, h => by
    obtain ⟨ps, e1, e2, e3, e4⟩ := D.fitsAll_py n xs (by simpa only [D.fits] using h)
    exact ⟨.list ps, by simp only [D.py, e1, Option.map_some], by simp only [PyData.eqv, e2], by simp only [PyData.canLay0, e3], by simp only [PyData.depth]; omega⟩
  | _, .o _, h => nomatch h
theorem D.fitsAll_py : ∀ (n : Nat) (ds : List D), D.fitsAll n ds = true → ∃ ps, D.pys ds = some ps ∧ PyData.eqvAll ps ps = true ∧ PyData.canLayAll0 ps = true ∧ PyData.depthAll ps ≤ n
  | _, [], _ => ⟨[], rfl, by simp [PyData.eqvAll], rfl, by simp [PyData.depthAll]⟩
  | n, x :: xs, h => by
    simp only [D.fitsAll, Bool.and_eq_true] at h
    obtain ⟨p, e1, e2, e3, e4⟩ := D.fits_py n x h.1
    obtain ⟨ps, f1, f2, f3, f4⟩ := D.fitsAll_py n xs h.2
    exact ⟨p :: ps, by simp only [D.pys, e1, f1], by simp only [PyData.eqvAll, e2, f2, Bool.and_self], by simp only [PyData.canLayAll0, e3, f3, Bool.and_self], by simp only [PyData.depthAll]; omega⟩
end
theorem fEq_refl {neg : Bool} {d : D} {Ω : Om} {Q : AQ} (h : D.fits 60 d = true) (k : Q (.bl (!neg)) Ω) : fEq neg d d Ω Q := by
  obtain ⟨p, e1, e2, e3, e4⟩ := D.fits_py _ _ h
  have s : SeqAt.shaped p = true := by
    unfold SeqAt.shaped
    rw [e3, Bool.true_and]
    exact decide_eq_true (by omega)
  refine ⟨p, p, e1, e1, s, s, ?_⟩
  cases neg
  · simp only [Bool.false_eq_true, if_false, e2]; exact k
  · simp only [if_true, e2]; exact k
theorem fits_map {α : Type} {f : α → D} {n : Nat} (h : ∀ x, D.fits n (f x) = true) : ∀ xs : List α, D.fitsAll n (xs.map f) = true
  | [] => rfl
  | x :: xs => by rw [List.map_cons, D.fitsAll, h x, fits_map h xs]; rfl
/-- a loop over a list, by induction over what is left -/
theorem forL_ind {g : AG} {b : ATS} {Wa : AW} {Da : AEnds} {xs : List D} {ρ : En} {Ω : Om} (P : List D → En → Om → Prop) (h : P xs ρ Ω) (hn : ∀ ρ Ω, P [] ρ Ω → Da.nx ρ Ω)
    (hc : ∀ x us ρ Ω (De : AEnds), De.rt = Da.rt → (∀ ρ' Ω', P us ρ' Ω' → De.nx ρ' Ω') → (∀ ρ' Ω', P us ρ' Ω' → De.ct ρ' Ω') → De.bk = Da.nx → P (x :: us) ρ Ω → g x ρ Ω fun ρ1 Ω1 => b Wa De ρ1 Ω1) : forL g b xs Wa Da ρ Ω := by
  induction xs generalizing ρ Ω with
  | nil => exact hn _ _ h
  | cons x us ih => exact hc x us ρ Ω _ rfl (fun ρ' Ω' p => ih p) (fun ρ' Ω' p => ih p) rfl h
theorem AE.cast {X : Cx} {ca : CA} {W : WX} {e : Expr} {te te' : TE} {re : ATE} (h : AE X ca W e te' re) (h1 : te' = te) : AE X ca W e te re := h1 ▸ h
end PL
namespace PL
theorem fmod_neg' {t b : Int} (h : b < 0) : b < t.fmod b ∧ t.fmod b ≤ 0 := by
  have e := Int.mul_fdiv_add_fmod t b
  have e' := Int.mul_fdiv_add_fmod (-t) (-b)
  have e1 : (-t).fdiv (-b) = t.fdiv b := by simp
  rw [e1, Int.neg_mul] at e'
  have h2 : (-t).fmod (-b) < -b := Int.fmod_lt_of_pos _ (by omega)
  have h3 : 0 ≤ (-t).fmod (-b) := Int.fmod_nonneg_of_pos _ (by omega)
  omega
theorem fdiv_le {t b : Int} : (t.fdiv b).natAbs ≤ t.natAbs := by
  by_cases hb : b = 0
  · subst hb; simp
  · rcases Int.lt_or_gt_of_ne hb with h | h
    · have h1 := Int.mul_fdiv_add_fmod t b
      have h2 : b < t.fmod b := (fmod_neg' h).1
      have h3 : t.fmod b ≤ 0 := (fmod_neg' h).2
      generalize t.fdiv b = q at h1 ⊢
      generalize t.fmod b = r at h1 h2 h3
      rcases Int.le_total 0 q with hq | hq
      · have : b * q ≤ (-1) * q := Int.mul_le_mul_of_nonneg_right (by omega) hq
        omega
      · have : (-q) ≤ (-b) * (-q) := by
          have := Int.mul_le_mul_of_nonneg_right (show (1 : Int) ≤ -b by omega) (show 0 ≤ -q by omega)
          omega
        rw [Int.neg_mul_neg] at this
        by_cases hq0 : q = 0
        · omega
        · have h4 : b * q + b < t := by omega
          have h5 : b * (q + 1) < t := by rw [Int.mul_add, Int.mul_one]; exact h4
          have h6 : (-b) * (-(q + 1)) ≥ -(q + 1) := by
            have := Int.mul_le_mul_of_nonneg_right (show (1 : Int) ≤ -b by omega) (show 0 ≤ -(q + 1) by omega)
            omega
          rw [Int.neg_mul_neg] at h6
          omega
    · have h1 := Int.mul_fdiv_add_fmod t b
      have h2 : t.fmod b < b := Int.fmod_lt_of_pos _ h
      have h3 : 0 ≤ t.fmod b := Int.fmod_nonneg_of_pos _ h
      generalize t.fdiv b = q at h1 ⊢
      generalize t.fmod b = r at h1 h2 h3
      rcases Int.le_total 0 q with hq | hq
      · have : 1 * q ≤ b * q := Int.mul_le_mul_of_nonneg_right (by omega) hq
        omega
      · by_cases hq0 : q = 0
        · omega
        · have h5 : t < b * (q + 1) := by rw [Int.mul_add, Int.mul_one]; omega
          have h6 : b * (-(q + 1)) ≥ -(q + 1) := by
            have := Int.mul_le_mul_of_nonneg_right (show (1 : Int) ≤ b by omega) (show 0 ≤ -(q + 1) by omega)
            omega
          rw [Int.mul_neg] at h6
          omega
theorem fmod_lt {t b : Int} (hb : b ≠ 0) : (t.fmod b).natAbs < b.natAbs := by
  rcases Int.lt_or_gt_of_ne hb with h | h
  · have h2 : b < t.fmod b := (fmod_neg' h).1
    have h3 : t.fmod b ≤ 0 := (fmod_neg' h).2
    omega
  · have h2 : t.fmod b < b := Int.fmod_lt_of_pos _ h
    have h3 : 0 ≤ t.fmod b := Int.fmod_nonneg_of_pos _ h
    omega
theorem sub_fdiv {t b : Int} : t - t.fdiv b * b = t.fmod b := by
  have h1 := Int.mul_fdiv_add_fmod t b
  rw [Int.mul_comm] at h1
  omega
/-- parts as a chain has them, behind the first -/
def Tail (ps : List Int) : Prop := (∀ p ∈ ps, 1 ≤ p) ∧ (ps ≠ [] → ∀ p, ps.getLast? = some p → 2 ≤ p)
theorem tail_cons {p : Int} {ps : List Int} (h : Tail (p :: ps)) : Tail ps ∧ 1 ≤ p ∧ (ps = [] → 2 ≤ p) := by
  refine ⟨⟨fun q hq => h.1 q (List.mem_cons_of_mem _ hq), fun hne q hq => h.2 (by simp) q ?_⟩, h.1 p List.mem_cons_self, fun e => h.2 (by simp) p (by subst e; rfl)⟩
  rw [List.getLast?_cons_of_ne_nil hne]
  exact hq
end PL
namespace PL
open PySem L2 PySem.Spec PyProof.Rows
section
variable {K : PySem.W.Frag} {G : Hp}
theorem lookup_at {f : Str} {v : V} : ∀ {fs : List (Str × V)} {i : Nat}, (fs.map (·.1)).Nodup → fs[i]? = some (f, v) → fs.lookup f = some v
  | [], _, _, h => by simp at h
  | (g, x) :: r, 0, _, h => by
    simp at h
    obtain ⟨rfl, rfl⟩ := h
    simp [List.lookup]
  | (g, x) :: r, i + 1, nd, h => by
    rw [List.map_cons, List.nodup_cons] at nd
    have h' : r[i]? = some (f, v) := by simpa using h
    have hm : f ∈ r.map (·.1) := List.mem_map.mpr ⟨(f, v), List.mem_of_getElem? h', rfl⟩
    have ne : (f == g) = false := by
      cases q : f == g with
      | false => rfl
      | true => exact absurd (by rw [← eq_of_beq q]; exact hm) nd.1
    rw [List.lookup_cons, ne]
    exact lookup_at nd.2 h'
theorem lookup_out {f : Str} : ∀ {fs : List (Str × V)}, f ∉ fs.map (·.1) → fs.lookup f = none
  | [], _ => rfl
  | (g, x) :: r, h => by
    rw [List.map_cons, List.mem_cons, not_or] at h
    have ne : (f == g) = false := by
      cases q : f == g with
      | false => rfl
      | true => exact absurd (eq_of_beq q) h.1
    rw [List.lookup_cons, ne]
    exact lookup_out h.2
theorem putF_at {f : Str} {v y : V} : ∀ {fs : List (Str × V)} {i : Nat}, (fs.map (·.1)).Nodup → fs[i]? = some (f, v) → putF f y fs = fs.set i (f, y)
  | [], _, _, h => by simp at h
  | (g, x) :: r, 0, _, h => by
    simp at h
    obtain ⟨rfl, rfl⟩ := h
    simp [putF]
  | (g, x) :: r, i + 1, nd, h => by
    rw [List.map_cons, List.nodup_cons] at nd
    have h' : r[i]? = some (f, v) := by simpa using h
    have hm : f ∈ r.map (·.1) := List.mem_map.mpr ⟨(f, v), List.mem_of_getElem? h', rfl⟩
    have ne : g ≠ f := fun q => nd.1 (by rw [q]; exact hm)
    rw [putF, if_neg ne, List.set_cons_succ, putF_at nd.2 h']
theorem putF_out {f : Str} {y : V} : ∀ {fs : List (Str × V)}, f ∉ fs.map (·.1) → putF f y fs = fs ++ [(f, y)]
  | [], _ => rfl
  | (g, x) :: r, h => by
    rw [List.map_cons, List.mem_cons, not_or] at h
    rw [putF, if_neg (Ne.symm h.1), putF_out h.2]
    rfl
theorem FVs.names {l : List (Str × V)} {m : List (Str × D)} (h : FVs K G l m) : l.map (·.1) = m.map (·.1) := by
  induction h with
  | nil => rfl
  | cons h1 _ ih => rw [List.map_cons, List.map_cons, h1.1, ih]
theorem FVs.length {l : List (Str × V)} {m : List (Str × D)} (h : FVs K G l m) : l.length = m.length := by
  have := congrArg List.length h.names
  rwa [List.length_map, List.length_map] at this
theorem FVs.get {l : List (Str × V)} {m : List (Str × D)} (h : FVs K G l m) : ∀ {i : Nat} {f : Str} {d : D}, m[i]? = some (f, d) → ∃ v, l[i]? = some (f, v) ∧ DV K G v d := by
  induction h with
  | nil => intro i f d e; simp at e
  | @cons p q _ _ h1 _ ih =>
    intro i f d e
    cases i with
    | zero =>
      simp at e
      obtain ⟨p1, p2⟩ := p
      subst e
      exact ⟨p2, by simp [show p1 = f from h1.1], h1.2⟩
    | succ i =>
      obtain ⟨v, e1, e2⟩ := ih (i := i) (by simpa using e)
      exact ⟨v, by simpa using e1, e2⟩
theorem FVs.set {l : List (Str × V)} {m : List (Str × D)} {f : Str} {v : V} {d : D} (dv : DV K G v d) (h : FVs K G l m) : ∀ i, FVs K G (l.set i (f, v)) (m.set i (f, d)) := by
  induction h with
  | nil => intro i; exact .nil
  | cons h1 h2 ih =>
    intro i
    cases i with
    | zero => exact .cons ⟨rfl, dv⟩ h2
    | succ i => exact .cons h1 (ih i)
theorem FVs.snoc {l : List (Str × V)} {m : List (Str × D)} {f : Str} {v : V} {d : D} (dv : DV K G v d) (h : FVs K G l m) : FVs K G (l ++ [(f, v)]) (m ++ [(f, d)]) := by
  induction h with
  | nil => exact .cons ⟨rfl, dv⟩ .nil
  | cons h1 _ ih => exact .cons h1 ih
end
section
variable {K : PySem.W.Frag} {ca : CA} {G G' H H' : Hp} {own own' : Addr → Option Addr} {Ω : Om} {a p : Addr}
theorem Rel.objAt {c : Addr} {fs : List (Str × D)} (r : Rel K ca G own H Ω) (e : Ω a = some (.obj c fs)) : Cls K c ∧ (fs.map (·.1)).Nodup ∧ (∀ x ∈ fs, NoAttr K c x.1) ∧ ∃ dx fs', H a = some (.ins c dx fs') ∧ FVs K G fs' fs := (r.objs a _ e).2
theorem Rel.setObj {c dx : Addr} {fs fs2 : List (Str × D)} {fs' : List (Str × V)} (r : Rel K ca G own H Ω) (e : Ω a = some (.obj c fs)) (cl : Cls K c) (nd : (fs2.map (·.1)).Nodup) (na : ∀ x ∈ fs2, NoAttr K c x.1) (d : FVs K G fs' fs2) :
    Rel K ca G own (upd H a (.ins c dx fs')) (oset Ω a (.obj c fs2)) := by
  obtain ⟨w, u, hu, nu⟩ := (r.objs a _ e).there
  refine r.turn (fun b v hb ho => ?_) (fun b v hb hi => ?_) ⟨w, cl, nd, na, dx, fs', upd_same, d⟩
  · rw [upd_ne (fun z => ho (by rw [z]; exact w))]; exact hb
  · rw [upd_ne (fun z => by rw [z, hu] at hb; cases hb; exact nu hi)]; exact hb
theorem Rel.own_ne {o : AO} (r : Rel K ca G own H Ω) (e : Ω a = some o) : own a = some a := (r.objs a _ e).there.1
theorem stp_obj {u : HO} (w : own a = some a) : Stp G own H G own (upd H a u) := ⟨Same.refl G, fun b v hb n g => ⟨by rw [upd_ne (fun z => by rw [z, w] at n; cases n)]; exact hb, n, g⟩⟩
theorem Rel.newObj {c dx : Addr} (r : Rel K ca G own H Ω) (cl : Cls K c) (hp : H p = none) (hd : H dx = none) (ne : dx ≠ p) :
    Rel K ca G (uown (uown own dx none) p (some p)) (upd (upd H dx (.own p)) p (.ins c dx [])) (oset Ω p (.obj c [])) ∧ Stp G own H G (uown (uown own dx none) p (some p)) (upd (upd H dx (.own p)) p (.ins c dx [])) := by
  have hk : ∀ b v, H b = some v → upd (upd H dx (.own p)) p (.ins c dx []) b = some v := fun b v e => by
    rw [upd_ne (ne_of_none e hp), upd_ne (ne_of_none e hd)]; exact e
  have ho : ∀ b v, H b = some v → uown (uown own dx none) p (some p) b = own b := fun b v e => by
    unfold uown
    rw [if_neg (ne_of_none e hp), if_neg (ne_of_none e hd)]
  refine ⟨⟨fun b v e => hk b v (r.sub _ _ e), fun b v e => ?_, fun b v e => ?_⟩, Same.refl G, fun b v hb n g => ⟨hk b v hb, by rw [ho b v hb]; exact n, g⟩⟩
  · rw [ho b v (r.sub _ _ e)]; exact r.imm _ _ e
  · by_cases hb : b = p
    · subst hb
      rw [oset_same] at e
      cases e
      exact ⟨if_pos rfl, cl, List.nodup_nil, fun x hx => by simp at hx, dx, [], upd_same, .nil⟩
    · rw [oset_ne hb] at e
      exact (r.objs b v e).keep (Same.refl G) (fun c w hc o => ⟨hk c w hc, by rw [ho c w hc]; exact o⟩) fun c w hc _ => hk c w hc
end
section
variable {X : Cx} {ca : CA} {W : WX} {a b e o : Expr} {es : List Expr} {ta tb te to : TE} {ra rb re ro : ATE} {tr : TA} {rr : ATA} {pos apos p : Pos}
def aFld (i : Nat) (f : Str) (re : ATE) : ATE := fun Wa ρ Ω Q => re Wa ρ Ω fun x Ω1 => ∃ a c fs d, x = .o a ∧ Ω1 a = some (.obj c fs) ∧ fs[i]? = some (f, d) ∧ Q d Ω1
theorem ae_fld (i : Nat) {f : Str} (ha : AE X ca W e te re) (hb : attributeBase e f X.env (eval e X.env) = eval e X.env := by rfl) : AE X ca W (.Attribute e f pos) (tFld X.K te f) (aFld i f re) :=
  ⟨pe_fld ha.pe hb, fun σ H G own ρ Ω Wa Qa Qc r s h k kx => ha.sim σ H G own ρ Ω Wa _ _ r s h (fun v H1 G1 own1 d Ω1 e1 r1 dv1 q1 => by
    obtain ⟨a, c, fs, d', rfl, ho, hi, q⟩ := q1
    cases dv1
    obtain ⟨cl, nd, na, dx, fs', hp, fv⟩ := r1.objAt ho
    obtain ⟨v, hv, dv⟩ := fv.get hi
    exact ⟨a, c, dx, fs', v, rfl, hp, cl, na (f, d') (List.mem_of_getElem? hi), lookup_at (by rw [fv.names]; exact nd) hv, k _ _ _ _ _ _ e1 r1 dv q⟩) kx⟩
/-- o.f as a target -/
def gFld (K : PySem.W.Frag) (to : TE) (f : Str) : TG := fun v σ H Q => to σ H fun x H1 => ∃ a C dx fs, x = .ref a ∧ H1 a = some (.ins C dx fs) ∧ Cls K C ∧ NoAttr K C f ∧ fs.length < 1000 ∧ Q σ (upd H1 a (.ins C dx (putF f v fs)))
theorem pg_fld {f : Str} (ho : PE X o to) : PG X (.Attribute o f pos) (gFld X.K to f) := by
  refine ⟨fun pins s σ H v u Q I r h => ?_⟩
  rw [assign_Attribute]
  refine wpAny_bind (wpAny_holding (thn (ho.run pins s σ H _ I h) fun ov s1 ⟨x, H1, I1, r1, a, C, dx, fs, ex, ea, c, n, l, q⟩ => ?_))
  subst ex
  obtain rfl : ov = Value.ref a := r1
  refine wpAny_bind (wpAny_standAt (wpAny_bind (wpAny_holding (setattr_ok I1 ea c n l r fun s3 I3 => ?_))))
  exact wpAny_release ⟨σ, _, I3, q⟩
abbrev Wf : AW := fun _ _ _ => False
/-- o.f = v where f is the i-th attribute -/
def agFld (i : Nat) (f : Str) (ro : ATE) : AG := fun d ρ Ω Q => ro Wf ρ Ω fun x Ω1 => ∃ a c fs d0, x = .o a ∧ Ω1 a = some (.obj c fs) ∧ fs[i]? = some (f, d0) ∧ fs.length < 1000 ∧ Q ρ (oset Ω1 a (.obj c (fs.set i (f, d))))
/-- .. a new one -/
def agNew (K : PySem.W.Frag) (f : Str) (ro : ATE) : AG := fun d ρ Ω Q => ro Wf ρ Ω fun x Ω1 => ∃ a c fs, x = .o a ∧ Ω1 a = some (.obj c fs) ∧ f ∉ fs.map (·.1) ∧ NoAttr K c f ∧ fs.length < 1000 ∧ Q ρ (oset Ω1 a (.obj c (fs ++ [(f, d)])))
abbrev W0' : WX := fun _ _ _ _ => False
theorem simg_fld {K : PySem.W.Frag} {i : Nat} {f : Str} (so : SimE K ca W0' to ro) : SimG K ca (gFld K to f) (agFld i f ro) := fun σ H G own ρ Ω v d Qa Qc r s dv h k =>
  so σ H G own ρ Ω Wf _ _ r s h (fun v1 H1 G1 own1 d1 Ω1 e1 r1 dv1 q1 => by
    obtain ⟨a, c, fs, d', rfl, ho, hi, hl, q⟩ := q1
    cases dv1
    obtain ⟨cl, nd, na, dx, fs', hp, fv⟩ := r1.objAt ho
    obtain ⟨v', hv, dv'⟩ := fv.get hi
    refine ⟨a, c, dx, fs', rfl, hp, cl, na (f, d') (List.mem_of_getElem? hi), by rw [fv.length]; exact hl, ?_⟩
    rw [putF_at (by rw [fv.names]; exact nd) hv]
    have hn : (fs.set i (f, d)).map (·.1) = fs.map (·.1) := by
      rw [List.map_set]
      have hi' : (fs.map (·.1))[i]? = some f := by rw [List.getElem?_map, hi]; rfl
      obtain ⟨h1, h2⟩ := List.getElem?_eq_some_iff.mp hi'
      conv => lhs; rw [← h2]
      exact List.set_getElem_self h1
    refine k _ _ _ _ _ _ (e1.trans (stp_obj (r1.own_ne ho))) (r1.setObj ho cl (by rw [hn]; exact nd) (fun x hx => ?_) (fv.set (dv.mono e1.same) i)) (s.mono e1.same) q
    have : x.1 ∈ fs.map (·.1) := by rw [← hn]; exact List.mem_map_of_mem hx
    obtain ⟨y, hy, ey⟩ := List.mem_map.mp this
    rw [← ey]
    exact na y hy) (fun _ _ _ _ _ _ _ z => z.elim)
theorem simg_new {K : PySem.W.Frag} {f : Str} (so : SimE K ca W0' to ro) : SimG K ca (gFld K to f) (agNew K f ro) := fun σ H G own ρ Ω v d Qa Qc r s dv h k =>
  so σ H G own ρ Ω Wf _ _ r s h (fun v1 H1 G1 own1 d1 Ω1 e1 r1 dv1 q1 => by
    obtain ⟨a, c, fs, rfl, ho, hi, nf, hl, q⟩ := q1
    cases dv1
    obtain ⟨cl, nd, na, dx, fs', hp, fv⟩ := r1.objAt ho
    refine ⟨a, c, dx, fs', rfl, hp, cl, nf, by rw [fv.length]; exact hl, ?_⟩
    rw [putF_out (by rw [fv.names]; exact hi)]
    refine k _ _ _ _ _ _ (e1.trans (stp_obj (r1.own_ne ho))) (r1.setObj ho cl ?_ (fun x hx => ?_) (fv.snoc (dv.mono e1.same))) (s.mono e1.same) q
    · rw [List.map_append, List.nodup_append]
      exact ⟨nd, by simp, fun x hx y hy e => hi (by simp at hy; rw [← hy, ← e]; exact hx)⟩
    · rcases List.mem_append.mp hx with hx | hx
      · exact na x hx
      · rw [List.mem_singleton.mp hx]; exact nf) (fun _ _ _ _ _ _ _ z => z.elim)
theorem ag_fld (i : Nat) {f : Str} (ho : AE X ca W0' o to ro) : AGt X ca (.Attribute o f pos) (gFld X.K to f) (agFld i f ro) := ⟨pg_fld ho.pe, simg_fld ho.sim⟩
theorem ag_new {f : Str} (ho : AE X ca W0' o to ro) : AGt X ca (.Attribute o f pos) (gFld X.K to f) (agNew X.K f ro) := ⟨pg_fld ho.pe, simg_new ho.sim⟩
/-- several targets -/
abbrev AGL := List D → En → Om → (En → Om → Prop) → Prop
def glNil : AGL := fun ds ρ Ω Q => ds = [] ∧ Q ρ Ω
def glCons (g : AG) (l : AGL) : AGL := fun ds ρ Ω Q => ∃ d r, ds = d :: r ∧ g d ρ Ω fun ρ1 Ω1 => l r ρ1 Ω1 Q
def SimGs (K : PySem.W.Frag) (ca : CA) (g : TGs) (ag : AGL) : Prop := ∀ (σ : L2.St) (H G : Hp) own ρ Ω v d (Qa : En → Om → Prop) (Qc : L2.St → Hp → Prop), Rel K ca G own H Ω → SR K G σ ρ → DVs K G v d → ag d ρ Ω Qa →
  (∀ σ' H' G' own' ρ' Ω', Stp G own H G' own' H' → Rel K ca G' own' H' Ω' → SR K G' σ' ρ' → Qa ρ' Ω' → Qc σ' H') → g v σ H Qc
structure AGls (X : Cx) (ca : CA) (es : List Expr) (g : TGs) (ag : AGL) : Prop where
  pe : PGs X es g
  sim : SimGs X.K ca g ag
theorem agl_nil : AGls X ca [] gNil glNil := ⟨pgs_nil, fun σ H G own ρ Ω v d Qa Qc r s dv h k => by
  obtain ⟨rfl, q⟩ := h
  cases dv
  exact ⟨rfl, k _ _ _ _ _ _ Stp.refl r s q⟩⟩
theorem agl_cons {g : TG} {ag : AG} {gs : TGs} {l : AGL} (h1 : AGt X ca e g ag) (h2 : AGls X ca es gs l) (hs : (assignEach (e :: es) X.env).map (·.2) = assign e X.env :: (assignEach es X.env).map (·.2) := by rfl) : AGls X ca (e :: es) (gCons g gs) (glCons ag l) :=
  ⟨pgs_cons h1.pe h2.pe hs, fun σ H G own ρ Ω v d Qa Qc r s dv h k => by
    obtain ⟨x, xs, rfl, q⟩ := h
    cases dv with
    | cons d1 d2 => exact ⟨_, _, rfl, h1.sim σ H G own ρ Ω _ _ _ _ r s d1 q fun σ1 H1 G1 own1 ρ1 Ω1 e1 r1 s1 q1 => h2.sim σ1 H1 G1 own1 ρ1 Ω1 _ _ _ _ r1 s1 (d2.mono e1.same) q1 fun σ2 H2 G2 own2 ρ2 Ω2 e2 => k σ2 H2 G2 own2 ρ2 Ω2 (e1.trans e2)⟩⟩
def agTupG (n : Nat) (l : AGL) : AG := fun d ρ Ω Q => ∃ xs, d = .tup xs ∧ xs.length = n ∧ l xs ρ Ω Q
theorem ag_tupG {k : Nat} {gs : TGs} {l : AGL} {n : Nat} (hc : X.calm = true) (h : AGls X ca es gs l) (hn : (assignEach es X.env).length = n := by rfl) (hst : (assignEach es X.env).findIdx? (·.1) = none := by rfl) : AGt X ca (.Tuple es k pos) (gTup X.K n gs) (agTupG n l) :=
  ⟨pg_tup hc h.pe hn hst, fun σ H G own ρ Ω v d Qa Qc r s dv h' k => by
    obtain ⟨xs, rfl, hl, q⟩ := h'
    cases dv with
    | tup hq ds => exact ⟨_, _, rfl, same_seqT r.sub hq, by rw [ds.length]; exact hl, h.sim σ H G own ρ Ω _ _ _ _ r s ds q k⟩⟩
/-- a method of the class at C, by its promise -/
structure Mth (P : Program) (w : World) (K : PySem.W.Frag) (mg : Str → Option Value) (base : Heap) (ca : CA) (k : Nat) (C : Addr) (m : Str) (F : AF) : Prop where
  ex : ∃ f fd ps, Meth K C m f ∧ FnOk P w K mg base (L2.CX P w) (k + 32) f fd ps (spA K ca F) ∧ Binds K fd ps []
theorem Mth.mono {P : Program} {w : World} {K : PySem.W.Frag} {mg : Str → Option Value} {base : Heap} {ca : CA} {j k : Nat} {C : Addr} {m : Str} {F : AF} (c : Mth P w K mg base ca j C m F) (h : j ≤ k) : Mth P w K mg base ca k C m F := by
  obtain ⟨f, fd, ps, M, G, b⟩ := c.ex
  exact ⟨f, fd, ps, M, G.mono (Nat.add_le_add_right h 32), b⟩
abbrev MthX (X : Cx) (ca : CA) (k : Nat) := Mth X.prog X.w X.K X.mg X.base ca k
/-- o.m(..), the class known when o is -/
def tMethD (X : Cx) (ca : CA) (k : Nat) (m : Str) (E : L2.St → XK) (ta : TE) (t : TA) : TE := fun σ H Q => ta σ H fun x H1 => ∃ a C dx fs F, x = .ref a ∧ H1 a = some (.ins C dx fs) ∧ fs.lookup m = none ∧ Cls X.K C ∧ MthX X ca k C m F ∧
  t σ H1 fun vs H2 => spA X.K ca F (x :: vs) H2 Q (E σ)
theorem pe_methD {k j : Nat} {m : Str} {E : L2.St → XK} {pl : Sem Bool} (he : PE X o ta) (hr : Rm j X.A) (hk : k ≤ j) (hx : ∀ σ, PassesAt (L2.CX X.prog X.w) X σ (E σ)) (ha : PA X (e :: es) tr)
    (hst : starEach (e :: es) X.env = (false, eval e X.env) :: starEach es X.env := by rfl) (hpl : (backTo pos (starEach es X.env)).any (·.1) = false := by rfl)
    (ht : eval (.Call (.Attribute o m apos) (e :: es) [] pos) X.env = (do
      let ov ← eval o X.env
      standAt apos.atName
      let (f, first) ← holding [ov] (getMethod ov m pl)
      callWith pos f first (backTo pos (starEach (e :: es) X.env)) (backToKw pos (keywordEach [] X.env))) := by rfl) :
    PE X (.Call (.Attribute o m apos) (e :: es) [] pos) (tMethD X ca k m E ta tr) := by
  refine ⟨fun pins s σ H Q I h => ?_⟩
  refine PySem.W.methodCall_KW (pl := pl) (thn (he.run pins s σ H _ I h) fun u s1 ⟨x, H1, I1, rx, a, C, dx, fs, F, ex, ea, l, c, M, q⟩ => ?_) ht
  subst ex
  obtain rfl : u = Value.ref a := rx
  obtain ⟨f, fd, ps, hm, Fk, hb⟩ := M.ex
  refine getmeth_ok I1 ea c hm l ?_
  refine PySem.W.callWith_K (first := [.ref a]) (h₀ := X.base) I.ok.mod.kin hm.kp (thn (ha.run pos pins s1 σ H1 _ I1 q) fun us s2 ⟨vs, H2, I2, r, q2⟩ => ⟨I2.kIn, ?_⟩) hst hpl
  exact run_fnS (us := .ref a :: us) (vs := .ref a :: vs) Fk (Room.mono hr (Nat.add_le_add_right hk 32)) hb (hx σ) I2 (.cons rfl r) q2
theorem pe_methD0 {k j : Nat} {m : Str} {E : L2.St → XK} {pl : Sem Bool} (he : PE X o ta) (hr : Rm j X.A) (hk : k ≤ j) (hx : ∀ σ, PassesAt (L2.CX X.prog X.w) X σ (E σ))
    (ht : eval (.Call (.Attribute o m apos) [] [] pos) X.env = (do
      let ov ← eval o X.env
      standAt apos.atName
      let (f, first) ← holding [ov] (getMethod ov m pl)
      callWith pos f first (backTo pos (starEach [] X.env)) (backToKw pos (keywordEach [] X.env))) := by rfl) :
    PE X (.Call (.Attribute o m apos) [] [] pos) (tMethD X ca k m E ta tNil) := by
  refine ⟨fun pins s σ H Q I h => ?_⟩
  refine PySem.W.methodCall_KW (pl := pl) (thn (he.run pins s σ H _ I h) fun u s1 ⟨x, H1, I1, rx, a, C, dx, fs, F, ex, ea, l, c, M, q⟩ => ?_) ht
  subst ex
  obtain rfl : u = Value.ref a := rx
  obtain ⟨f, fd, ps, hm, Fk, hb⟩ := M.ex
  refine getmeth_ok I1 ea c hm l ?_
  exact PySem.W.callWith_K0 (first := [.ref a]) I1.kIn hm.kp (run_fnS (us := [.ref a]) (vs := [.ref a]) Fk (Room.mono hr (Nat.add_le_add_right hk 32)) hb (hx σ) I1 (.cons rfl .nil) q)
/-- o.m(..) by the abstract store -/
def aMeth (M : Addr → Str → AF → Prop) (m : Str) (re : ATE) (rr : ATA) : ATE := fun Wa ρ Ω Q => re Wa ρ Ω fun x Ω1 => ∃ a c fs F, x = .o a ∧ Ω1 a = some (.obj c fs) ∧ m ∉ fs.map (·.1) ∧ M c m F ∧ rr Wa ρ Ω1 fun ds Ω2 => F (x :: ds) Ω2 Q fun cls Ω' => Wa cls ρ Ω'
theorem sim_meth {k : Nat} {m : Str} (se : SimE X.K ca W te re) (sa : SimA X.K ca W tr rr) : SimE X.K ca W (tMethD X ca k m (WE W) te tr) (aMeth (MthX X ca k) m re rr) := fun σ H G own ρ Ω Wa Qa Qc r s h' k' kx =>
  se σ H G own ρ Ω Wa _ _ r s h' (fun v H1 G1 own1 d Ω1 e1 r1 dv1 q1 => by
    obtain ⟨a, c, fs, F, rfl, ho, hm, M, q⟩ := q1
    cases dv1
    obtain ⟨cl, nd, na, dx, fs', hp, fv⟩ := r1.objAt ho
    refine ⟨a, c, dx, fs', F, rfl, hp, lookup_out (by rw [fv.names]; exact hm), cl, M, ?_⟩
    exact sa σ H1 G1 own1 ρ Ω1 Wa _ _ r1 (s.mono e1.same) q (fun vs H2 G2 own2 ds Ω2 e2 r2 dv2 q2 => ⟨G2, own2, Ω2, _, Qa, fun cls Ω' => Wa cls ρ Ω', r2, .cons (.o a) dv2, q2, fun v3 H3 G3 own3 d3 Ω3 e3 => k' v3 H3 G3 own3 d3 Ω3 ((e1.trans e2).trans e3), fun cls H3 G3 own3 Ω3 e3 => kx cls H3 G3 own3 Ω3 ((e1.trans e2).trans e3)⟩) (kx.mono e1)) kx
theorem ae_meth {k j : Nat} {m : Str} {pl : Sem Bool} (hr : Rm j X.A) (tk : Takes X W) (hk : k ≤ j) (ho : AE X ca W o te re) (ha : AA X ca W (e :: es) tr rr)
    (hst : starEach (e :: es) X.env = (false, eval e X.env) :: starEach es X.env := by rfl) (hpl : (backTo pos (starEach es X.env)).any (·.1) = false := by rfl)
    (ht : eval (.Call (.Attribute o m apos) (e :: es) [] pos) X.env = (do
      let ov ← eval o X.env
      standAt apos.atName
      let (f, first) ← holding [ov] (getMethod ov m pl)
      callWith pos f first (backTo pos (starEach (e :: es) X.env)) (backToKw pos (keywordEach [] X.env))) := by rfl) :
    AE X ca W (.Call (.Attribute o m apos) (e :: es) [] pos) (tMethD X ca k m (WE W) te tr) (aMeth (MthX X ca k) m re rr) := ⟨pe_methD ho.pe hr hk (fun σ => passAt tk σ) ha.pe hst hpl ht, sim_meth ho.sim ha.sim⟩
theorem ae_meth0 {k j : Nat} {m : Str} {pl : Sem Bool} (hr : Rm j X.A) (tk : Takes X W) (hk : k ≤ j) (ho : AE X ca W o te re)
    (ht : eval (.Call (.Attribute o m apos) [] [] pos) X.env = (do
      let ov ← eval o X.env
      standAt apos.atName
      let (f, first) ← holding [ov] (getMethod ov m pl)
      callWith pos f first (backTo pos (starEach [] X.env)) (backToKw pos (keywordEach [] X.env))) := by rfl) :
    AE X ca W (.Call (.Attribute o m apos) [] [] pos) (tMethD X ca k m (WE W) te tNil) (aMeth (MthX X ca k) m re aNil) := ⟨pe_methD0 ho.pe hr hk (fun σ => passAt tk σ) ht, sim_meth ho.sim aa_nil.sim⟩
structure CFn (K : PySem.W.Frag) (C : Addr) (mc : Value) (m : Str) (f : Addr) : Prop where
  rd : ClX.CRead K C mc
  at_ : PySem.W.findCls K (.ref C) mc m = some (.val (.ref f))
  kp : PySem.W.keepIn K (.ref f) = true
theorem pe_ccall {k j : Nat} {C f : Addr} {mc : Value} {x m : Str} {fd : FuncData} {ps : List Str} {sp : Sp} {E : L2.St → XK} {pl : Sem Bool} {p1 : Pos} (c : CFn X.K C mc m f) (F : FnOk X.prog X.w X.K X.mg X.base (L2.CX X.prog X.w) (k + 32) f fd ps sp) (hr : Rm j X.A) (hk : k ≤ j) (hb : Binds X.K fd ps []) (hx : ∀ σ, PassesAt (L2.CX X.prog X.w) X σ (E σ))
    (hg : Gl X x) (hm : X.mg x = some (.ref C)) (ha : PA X (e :: es) tr) (hdb : (x == ("__debug__" : Str)) = false := by decide)
    (hst : starEach (e :: es) X.env = (false, eval e X.env) :: starEach es X.env := by rfl) (hpl : (backTo pos (starEach es X.env)).any (·.1) = false := by rfl)
    (ht : eval (.Call (.Attribute (.Name x p1) m apos) (e :: es) [] pos) X.env = (do
      let ov ← eval (.Name x p1) X.env
      standAt apos.atName
      let (f, first) ← holding [ov] (getMethod ov m pl)
      callWith pos f first (backTo pos (starEach (e :: es) X.env)) (backToKw pos (keywordEach [] X.env))) := by rfl) :
    PE X (.Call (.Attribute (.Name x p1) m apos) (e :: es) [] pos) (tCallS sp E tr) := by
  refine ⟨fun pins s σ H Q I h => ?_⟩
  refine PySem.W.methodCall_KW (pl := pl) (ld_glob I hg hm ?_ hdb) ht
  refine PySem.W.method_cls I.kIn c.rd.ga (PySem.W.cls_value I.kIn c.rd.rd c.at_ rfl ?_)
  refine PySem.W.callWith_K (first := []) (h₀ := X.base) I.ok.mod.kin c.kp (thn (ha.run pos pins _ σ H _ (I.tok _) h) fun us s2 ⟨vs, H2, I2, r, q2⟩ => ⟨I2.kIn, ?_⟩) hst hpl
  exact run_fnS F (Room.mono hr (Nat.add_le_add_right hk 32)) hb (hx σ) I2 r q2
structure Cfn (P : Program) (w : World) (K : PySem.W.Frag) (mg : Str → Option Value) (base : Heap) (ca : CA) (k : Nat) (x m : Str) (F : AF) : Prop where
  ex : ∃ C mc f fd ps, CFn K C mc m f ∧ mg x = some (.ref C) ∧ FnOk P w K mg base (L2.CX P w) (k + 32) f fd ps (spA K ca F) ∧ Binds K fd ps []
theorem ae_ccall {k j : Nat} {x m : Str} {F : AF} {pl : Sem Bool} {p1 : Pos} (c : Cfn X.prog X.w X.K X.mg X.base ca k x m F) (hr : Rm j X.A) (tk : Takes X W) (hk : k ≤ j) (ha : AA X ca W (e :: es) tr rr) (hg : Gl X x := by rfl) (hdb : (x == ("__debug__" : Str)) = false := by decide)
    (hst : starEach (e :: es) X.env = (false, eval e X.env) :: starEach es X.env := by rfl) (hpl : (backTo pos (starEach es X.env)).any (·.1) = false := by rfl)
    (ht : eval (.Call (.Attribute (.Name x p1) m apos) (e :: es) [] pos) X.env = (do
      let ov ← eval (.Name x p1) X.env
      standAt apos.atName
      let (f, first) ← holding [ov] (getMethod ov m pl)
      callWith pos f first (backTo pos (starEach (e :: es) X.env)) (backToKw pos (keywordEach [] X.env))) := by rfl) :
    AE X ca W (.Call (.Attribute (.Name x p1) m apos) (e :: es) [] pos) (tCallS (spA X.K ca F) (WE W) tr) (aFn F rr) := by
  obtain ⟨C, mc, f, fd, ps, M, hm, Fk, hb⟩ := c.ex
  exact ⟨pe_ccall M Fk hr hk hb (fun σ => passAt tk σ) hg hm ha.pe hdb hst hpl ht, sim_fn ha.sim⟩
theorem run_makeS {k : Nat} {f C : Addr} {fd : FuncData} {ps : List Str} {sp : Sp} {E : L2.St → XK} {pins : List (Addr × Obj)} {σ : L2.St} {H : Hp} {s : Shared} {Q : VK} {us : List Value} {vs : List V} (M : Mk X.K C f) (F : FnOk X.prog X.w X.K X.mg X.base (L2.CX X.prog X.w) k f fd ps sp) (hr : Room (k + 1) X.A) (hb : Binds X.K fd ps [])
    (hx : ∀ σ, PassesAt (L2.CX X.prog X.w) X σ (E σ)) (I : Inv X pins σ H s) (r : Vals vs us)
    (h : ∀ x dx, H x = none → H dx = none → dx ≠ x → sp (.ref x :: vs) (upd (upd H dx (.own x)) x (.ins C dx [])) (fun v H2 => v = .non ∧ Q (.ref x) H2) (E σ)) :
    wpAny (model X.prog X.w) X.A (call (.ref C) us) (EP X pins σ Q) X.xe s := by
  have hq := h (s.heap.objs.size + 1) s.heap.objs.size (I.hok.fresh (Nat.le_succ _)) (I.hok.fresh (Nat.le_refl _)) (Nat.ne_of_lt (Nat.lt_succ_self _))
  have I2 := Inv.made (C := C) I
  have r2 : Vals (V.ref (s.heap.objs.size + 1) :: vs) (Value.ref (s.heap.objs.size + 1) :: us) := .cons rfl r
  have hl : (Value.ref (s.heap.objs.size + 1) :: us).length = ps.length := by
    have e := r2.length
    rw [F.len _ _ _ _ hq] at e
    exact e.symm
  have b := hb { s with heap := (s.heap.push PySem.W.emptyDict).push (PySem.W.instObj C s.heap.objs.size) } (Value.ref (s.heap.objs.size + 1) :: us) I2.kIn (by rw [List.append_nil]; exact hl)
  rw [List.append_nil] at b
  refine wpAny_call (make_map (f := f) I.kIn M.makes M.init (beq_iff_eq.mp M.fn) (codeAny_mono (F.run _ X.stack _ _ ⟨Value.ref (s.heap.objs.size + 1) :: us, []⟩ (Value.ref (s.heap.objs.size + 1) :: us) _ _ (E σ) (hr.make C us [])
    (I2.env0.make C us []) b r2 hq) fun r s' hq' => ?_))
  cases r with
  | error e => exact hx σ pins _ _ e s' I2 hq'
  | ok fl =>
    cases fl with
    | ret u =>
      obtain ⟨v, H', I3, rv, ev, q3⟩ := I2.after hq'
      subst ev
      exact ⟨rv, ⟨V.ref (s.heap.objs.size + 1), H', I3, rfl, q3⟩⟩
    | next => exact False.elim hq'
    | brk => exact False.elim hq'
    | cont => exact False.elim hq'
def tMakeS (C : Addr) (sp : Sp) (E : L2.St → XK) (t : TA) : TE := fun σ H Q => t σ H fun vs H1 => ∀ x dx, H1 x = none → H1 dx = none → dx ≠ x →
  sp (.ref x :: vs) (upd (upd H1 dx (.own x)) x (.ins C dx [])) (fun v H2 => v = .non ∧ Q (.ref x) H2) (E σ)
theorem pe_makeS {k : Nat} {f C : Addr} {x : Str} {fd : FuncData} {ps : List Str} {sp : Sp} {E : L2.St → XK} (M : Mk X.K C f) (F : FnOk X.prog X.w X.K X.mg X.base (L2.CX X.prog X.w) k f fd ps sp) (hr : Room (k + 1) X.A) (hg : Gl X x) (hm : X.mg x = some (.ref C)) (hb : Binds X.K fd ps []) (hx : ∀ σ, PassesAt (L2.CX X.prog X.w) X σ (E σ))
    (ha : PA X (e :: es) tr) (hdb : (x == ("__debug__" : Str)) = false := by decide) (he : starEach (e :: es) X.env = (false, eval e X.env) :: starEach es X.env := by rfl) (hpl : (backTo pos (starEach es X.env)).any (·.1) = false := by rfl) :
    PE X (.Call (.Name x p) (e :: es) [] pos) (tMakeS C sp E tr) := by
  refine ⟨fun pins s σ H Q I h => ?_⟩
  refine wpAny_Call_Name_kw (ld_glob I hg hm ?_ hdb)
  refine PySem.W.callWith_K (h₀ := X.base) I.ok.mod.kin M.kp (thn (ha.run pos pins s σ H _ I h) fun us s1 ⟨vs, H1, I1, r, q⟩ => ⟨I1.kIn, ?_⟩) he hpl
  exact run_makeS M F hr hb hx I1 r q
structure Mkc (P : Program) (w : World) (K : PySem.W.Frag) (mg : Str → Option Value) (base : Heap) (ca : CA) (k : Nat) (x : Str) (C : Addr) (F : AF) : Prop where
  ex : ∃ f fd ps, Mk K C f ∧ Cls K C ∧ mg x = some (.ref C) ∧ FnOk P w K mg base (L2.CX P w) (k + 32) f fd ps (spA K ca F) ∧ Binds K fd ps []
def aMake (C : Addr) (F : AF) (rr : ATA) : ATE := fun Wa ρ Ω Q => rr Wa ρ Ω fun ds Ω1 => ∀ p, Ω1 p = none → F (.o p :: ds) (oset Ω1 p (.obj C [])) (fun d Ω2 => d = .non ∧ Q (.o p) Ω2) fun cls Ω' => Wa cls ρ Ω'
theorem ae_make {k j : Nat} {x : Str} {C : Addr} {F : AF} (c : Mkc X.prog X.w X.K X.mg X.base ca k x C F) (hr : Rm j X.A) (tk : Takes X W) (hk : k + 1 ≤ j) (ha : AA X ca W (e :: es) tr rr)
    (hg : Gl X x := by rfl) (hdb : (x == ("__debug__" : Str)) = false := by decide) (he : starEach (e :: es) X.env = (false, eval e X.env) :: starEach es X.env := by rfl) (hpl : (backTo pos (starEach es X.env)).any (·.1) = false := by rfl) :
    AE X ca W (.Call (.Name x p) (e :: es) [] pos) (tMakeS C (spA X.K ca F) (WE W) tr) (aMake C F rr) := by
  obtain ⟨f, fd, ps, M, cl, hm, Fk, hb⟩ := c.ex
  refine ⟨pe_makeS M Fk (Room.mono hr (by omega)) hg hm hb (fun σ => passAt tk σ) ha.pe hdb he hpl, fun σ H G own ρ Ω Wa Qa Qc r s h' k' kx => ?_⟩
  refine ha.sim σ H G own ρ Ω Wa _ _ r s h' (fun vs H1 G1 own1 ds Ω1 e1 r1 dv1 q1 => fun x dx hx hd ne => ?_) kx
  obtain ⟨r2, e2⟩ := r1.newObj cl hx hd ne
  refine ⟨_, _, _, _, _, _, r2, .cons (.o x) dv1, q1 x (r1.fresh hx), ?_, ?_⟩
  · rintro v3 H3 G3 own3 d3 Ω3 e3 r3 dv3 ⟨rfl, q3⟩
    cases dv3
    exact ⟨rfl, k' _ _ _ _ _ _ ((e1.trans e2).trans e3) r3 (.o x) q3⟩
  · intro cls H3 G3 own3 Ω3 e3
    exact kx cls H3 G3 own3 Ω3 ((e1.trans e2).trans e3)
structure Xcl (K : PySem.W.Frag) (mg : Str → Option Value) (x : Str) (C : Addr) : Prop where
  xf : PySem.W.excIn K C [.type "ValueError", .type "Exception", .type "BaseException", .type "object"] "ValueError.__new__" = true
  gc : mg x = some (.ref C)
  kp : PySem.W.keepIn K (.ref C) = true
  sb : PySem.W.subIn K (.ref C) (.type "BaseException") = some true
  ty : PySem.W.typeIn K (.ref C) = some (.type "type")
def aRaise (C : Addr) : ATS := fun Wa _ ρ Ω => Wa (.ref C) ρ Ω
theorem as_raise {x m : Str} {C : Addr} {j : Nat} {p2 : Pos} (hc : X.calm = true) (tk : Takes X W) (c : Xcl X.K X.mg x C) (hg : Gl X x := by rfl) (hdb : (x == ("__debug__" : Str)) = false := by decide) :
    AS X ca W (.Raise (some (.Call (.Name x p) [.Constant (.str m) j p2] [] apos)) none pos) (fun _ σ H => W (.ref C) none σ H) (aRaise C) :=
  ⟨ps_raise hc tk (pmk_own PySem.F.excBase_ValueError c.xf c.gc c.kp (raises_own c.sb c.ty) hg hdb), fun σ H G own ρ Ω Wa Da Dc r s h k => k.ex _ _ _ _ _ _ _ Stp.refl r s h⟩
end
end PL
namespace PL
open PySem L2
/-- a method's def, and the classes that have it -/
structure Mdf (K : PySem.W.Frag) (Cs : List Addr) (m qual : Str) (st : Stmt) (ps : List Str) : Prop where
  ex : ∃ f fd, Fun K m qual st f fd ∧ Binds K fd ps [] ∧ ∀ C ∈ Cs, Meth K C m f
/-- a class and its __init__ -/
structure Mki (K : PySem.W.Frag) (mg : Str → Option Value) (x : Str) (C : Addr) (qual : Str) (st : Stmt) (ps : List Str) : Prop where
  ex : ∃ f fd, Fun K "__init__" qual st f fd ∧ Binds K fd ps [] ∧ Mk K C f ∧ Cls K C ∧ mg x = some (.ref C)
/-- C.m as a def -/
structure Cdf (K : PySem.W.Frag) (mg : Str → Option Value) (x m qual : Str) (st : Stmt) (ps : List Str) : Prop where
  ex : ∃ C mc f fd, Fun K m qual st f fd ∧ Binds K fd ps [] ∧ CFn K C mc m f ∧ mg x = some (.ref C)
section
variable {P : Program} {w : World} {K : PySem.W.Frag} {mg : Str → Option Value} {base : Heap} {ca : CA} {x m qual : Str} {st : Stmt} {N ps : List Str} {k : Nat} {Fa : AF} {C : Addr} {Cs : List Addr}
abbrev Body (P : Program) (w : World) (K : PySem.W.Frag) (mg : Str → Option Value) (base : Heap) (ca : CA) (qual : Str) (st : Stmt) (N : List Str) (k : Nat) (Fa : AF) : Prop :=
  ∀ (f : Addr) (cdv : Value) (A : Around) (outer : List Env) (s : Shared) (H : Hp) (E : XK), Rm k (A.deeper (PyProof.Rows.envOfC qual (defScope st) s.heap.objs.size f cdv)) →
      ∃ ts ta, ASs (cxOf (L2.CX P w) P w K mg base N qual (defScope st) f cdv A outer s H E) ca (WD E) (defBody st) ts ta ∧
        ∀ ds Ω Qa Ea, Fa ds Ω Qa Ea → ta (fun cls _ Ω' => Ea cls Ω') { nx := fun _ Ω' => Qa .non Ω', rt := Qa } (astart N ds) Ω
theorem mth (d : Mdf K Cs m qual st ps) (S : FnScope N ps (defScope st)) (len : ∀ ds Ω Q E, Fa ds Ω Q E → ds.length = ps.length) (h : Body P w K mg base ca qual st N k Fa) : ∀ C ∈ Cs, Mth P w K mg base ca (k + 1) C m Fa := fun C hC => by
  obtain ⟨f, fd, F, b, M⟩ := d.ex
  exact ⟨f, fd, ps, M C hC, (okA F S len (h f)).mono (by omega), b⟩
theorem mth_none (d : Mdf K Cs m qual st ps) (h : ∀ ds Ω Q E, ¬ Fa ds Ω Q E) : ∀ C ∈ Cs, Mth P w K mg base ca k C m Fa := fun C hC => by
  obtain ⟨f, fd, F, b, M⟩ := d.ex
  exact ⟨f, fd, ps, M C hC, ⟨fun vs H Q E ⟨_, _, _, _, _, _, _, _, z, _⟩ => (h _ _ _ _ z).elim, fun _ _ _ _ _ _ _ _ _ _ _ _ _ ⟨_, _, _, _, _, _, _, _, z, _⟩ => (h _ _ _ _ z).elim⟩, b⟩
theorem mkc (d : Mki K mg x C qual st ps) (S : FnScope N ps (defScope st)) (len : ∀ ds Ω Q E, Fa ds Ω Q E → ds.length = ps.length) (h : Body P w K mg base ca qual st N k Fa) : Mkc P w K mg base ca (k + 1) x C Fa := by
  obtain ⟨f, fd, F, b, M, cl, g⟩ := d.ex
  exact ⟨f, fd, ps, M, cl, g, (okA F S len (h f)).mono (by omega), b⟩
theorem cfn (d : Cdf K mg x m qual st ps) (S : FnScope N ps (defScope st)) (len : ∀ ds Ω Q E, Fa ds Ω Q E → ds.length = ps.length) (h : Body P w K mg base ca qual st N k Fa) : Cfn P w K mg base ca (k + 1) x m Fa := by
  obtain ⟨C, mc, f, fd, F, b, M, g⟩ := d.ex
  exact ⟨C, mc, f, fd, ps, M, g, (okA F S len (h f)).mono (by omega), b⟩
end
section
variable {X : Cx} {ca : CA} {W : WX} {a b e : Expr} {es : List Expr} {ta tb te : TE} {ra rb re : ATE} {tr : TA} {rr : ATA} {pos p : Pos}
theorem ae_globE {x : Str} {i : Int} (hg : Gl X x) (hm : ∃ t, X.mg x = some (.int i t)) (hd : (x == ("__debug__" : Str)) = false := by decide) : AE X ca W (.Name x pos) (tC (.int i)) (aC (.int i)) := by
  obtain ⟨t, hm⟩ := hm
  exact ae_globI hg hm hd
/-- a tuple of ints at the text's top -/
structure TupK (K : PySem.W.Frag) (mg : Str → Option Value) (x : Str) (a : Addr) (ns : List Int) : Prop where
  mg_ : mg x = some (.ref a)
  at_ : ∀ H, SqT K H a (iv ns)
theorem ae_globT {x : Str} {a : Addr} {ns : List Int} (hg : Gl X x) (h : TupK X.K X.mg x a ns) (hd : (x == ("__debug__" : Str)) = false := by decide) : AE X ca W (.Name x pos) (tC (.ref a)) (aC (.tup (ns.map D.int))) :=
  ⟨pe_glob hg h.mg_ rfl hd, sim_c fun G => .tup (h.at_ G) (DVs.of_ints ns)⟩
/-- an int among ints -/
def fInI (neg : Bool) : D → D → Om → AQ → Prop := fun x y Ω Q => ∃ (i : Int) (ns : List Int), x = .int i ∧ y.seq Ω = some (ns.map D.int) ∧ Q (.bl (if neg then !decide (i ∈ ns) else decide (i ∈ ns))) Ω
theorem inV_ints {i : Int} : ∀ ns : List Int, inV (.int i) (ns.map V.int) = decide (i ∈ ns)
  | [] => rfl
  | n :: r => by
    have ih := inV_ints (i := i) r
    unfold inV at ih ⊢
    rw [List.map_cons, List.any_cons, ih]
    show ((n == i) || decide (i ∈ r)) = decide (i ∈ n :: r)
    rw [Bool.eq_iff_iff]
    simp only [Bool.or_eq_true, beq_iff_eq, decide_eq_true_eq, List.mem_cons]
    constructor
    · rintro (h | h)
      · exact .inl h.symm
      · exact .inr h
    · rintro (h | h)
      · exact .inl h.symm
      · exact .inr h
theorem all_flat : ∀ ns : List Int, (ns.map V.int).all flatV = true
  | [] => rfl
  | n :: r => by rw [List.map_cons, List.all_cons, all_flat r]; rfl
theorem simr_inI {K : PySem.W.Frag} {neg : Bool} : SimR K ca (rIn K neg) (fInI neg) := by
  intro H G own Ω x y v w Qa Qc r dx dy h k
  obtain ⟨i, ns, rfl, hs, q⟩ := h
  cases dx
  obtain ⟨p, vs, rfl, ds, hv⟩ := seq_of r dy hs
  rw [ds.ints] at hv
  exact ⟨p, _, rfl, hv, rfl, all_flat ns, by rw [inV_ints]; exact k _ _ _ _ _ _ Stp.refl r (.bl _) q⟩
theorem at_inI (ha : AE X ca W a ta ra) (hb : AE X ca W b tb rb) (hm : behindInMarks .In b = false := by rfl) : AT X ca W (.Compare a [.In] [b] pos) (tTest (tOp (rIn X.K false) ta tb)) (aB (aOp (fInI false) ra rb)) := at_cmp op_in_seq simr_inI ha hb hm
/-- what the proof never comes to -/
def aNever : ATS := fun _ _ _ _ => False
end
end PL
namespace PL
open PySem L2
structure CT where
  c_Purse : Addr := 0
  c_Fixed : Addr := 0
  c_Fraction : Addr := 0
  c_Root : Addr := 0
  c_Ruled : Addr := 0
  c_Four : Addr := 0
  c_Eight : Addr := 0
  c_NoValue : Addr := 0
  c_BadTree : Addr := 0
  c_TooLong : Addr := 0
  c_PartError : Addr := 0
  a_TIMES : Addr := 0
inductive R where
  | fixed (t b : Int) (g : Bool)
  | frac (k : Nat) (t b : Int)
  | root (k : Nat) (t s b f : Int)
  | ruled (k : Nat) (ps ring steps : List Int)
  | four (a b c d : Int) (rdy bg : Bool) (x : R)
  | fourX (x : R) (t b : Int) (g : Bool)
  | eight (a b c d e f g h : Int) (m0 m1 : Nat) (bg : Bool) (x y : R)
  | eightX (x y : R) (t b : Int) (g : Bool)
  | eightF (w : Bool) (dead fr : R)
inductive Kd where
  | fixed | leaf | four | eight
def R.kd : R → Kd
  | .fixed .. => .fixed
  | .frac .. => .leaf
  | .root .. => .leaf
  | .ruled .. => .leaf
  | .four .. => .four
  | .fourX .. => .four
  | .eight .. => .eight
  | .eightX .. => .eight
  | .eightF .. => .eight
/-- how deep its calls go -/
def R.lv : R → Nat
  | .fixed .. => 1
  | .frac .. => 3
  | .root .. => 3
  | .ruled .. => 3
  | .four _ _ _ _ _ _ x => max x.lv 3 + 1
  | .fourX x _ _ _ => max x.lv 3 + 1
  | .eight _ _ _ _ _ _ _ _ _ _ _ x y => max (max x.lv y.lv) 3 + 2
  | .eightX x y _ _ _ => max (max x.lv y.lv) 3 + 2
  | .eightF _ dead fr => max (max dead.lv fr.lv) 3 + 1
def dtup (ns : List Int) : D := .tup (ns.map D.int)
abbrev oPurse (C : CT) (m : Int) : AO := .obj C.c_Purse [("left", .int m)]
abbrev oFixed (C : CT) (t b : Int) (g : Bool) : AO := .obj C.c_Fixed [("top", .int t), ("below", .int b), ("begun", .bl g)]
abbrev oFrac (C : CT) (k t b : Int) : AO := .obj C.c_Fraction [("many", .int k), ("top", .int t), ("below", .int b)]
abbrev oRoot (C : CT) (k t s b f : Int) : AO := .obj C.c_Root [("many", .int k), ("top", .int t), ("square", .int s), ("below", .int b), ("floor", .int f)]
abbrev oRuled (C : CT) (k : Int) (ps ring steps : List Int) : AO := .obj C.c_Ruled [("many", .int k), ("first", .tup (ps.map D.int)), ("ring", .tup (ring.map D.int)), ("steps", .tup (steps.map D.int))]
abbrev oFour (C : CT) (ns : List D) (z : Addr) (rdy bg : Bool) (f : D) : AO := .obj C.c_Four [("numbers", .tup ns), ("inner", .o z), ("ready", .bl rdy), ("begun", .bl bg), ("fixed", f)]
abbrev oEight (C : CT) (ns : List D) (z1 z2 k : Addr) (bg : Bool) (f : D) : AO := .obj C.c_Eight [("numbers", .tup ns), ("inners", .lst [.o z1, .o z2]), ("many", .o k), ("begun", .bl bg), ("rest", f)]
/-- the object at p holds r; S: its own objects -/
inductive RdO (C : CT) (Ω : Om) : Addr → R → List Addr → Prop
  | fixed {p : Addr} {t b : Int} {g : Bool} : Ω p = some (oFixed C t b g) → RdO C Ω p (.fixed t b g) [p]
  | frac {p : Addr} {k : Nat} {t b : Int} : Ω p = some (oFrac C k t b) → RdO C Ω p (.frac k t b) [p]
  | root {p : Addr} {k : Nat} {t s b f : Int} : Ω p = some (oRoot C k t s b f) → RdO C Ω p (.root k t s b f) [p]
  | ruled {p : Addr} {k : Nat} {ps ring steps : List Int} : Ω p = some (oRuled C k ps ring steps) → RdO C Ω p (.ruled k ps ring steps) [p]
  | four {p z : Addr} {a b c d : Int} {rdy bg : Bool} {x : R} {S : List Addr} : Ω p = some (oFour C [.int a, .int b, .int c, .int d] z rdy bg .non) → RdO C Ω z x S → p ∉ S → RdO C Ω p (.four a b c d rdy bg x) (p :: S)
  | fourX {p z f : Addr} {ns : List D} {t b : Int} {g rdy bg : Bool} {x : R} {S : List Addr} : Ω p = some (oFour C ns z rdy bg (.o f)) → Ω f = some (oFixed C t b g) → RdO C Ω z x S → p ∉ S → f ∉ S → p ≠ f → RdO C Ω p (.fourX x t b g) (p :: f :: S)
  | eight {p z1 z2 k : Addr} {a b c d e f g h : Int} {m0 m1 : Nat} {bg : Bool} {x y : R} {S1 S2 : List Addr} : Ω p = some (oEight C [.int a, .int b, .int c, .int d, .int e, .int f, .int g, .int h] z1 z2 k bg .non) → Ω k = some (.lst [.int m0, .int m1]) →
      RdO C Ω z1 x S1 → RdO C Ω z2 y S2 → p ≠ k → p ∉ S1 → p ∉ S2 → k ∉ S1 → k ∉ S2 → (∀ b ∈ S1, b ∉ S2) → RdO C Ω p (.eight a b c d e f g h m0 m1 bg x y) (p :: k :: (S1 ++ S2))
  | eightX {p z1 z2 k q : Addr} {ns : List D} {t b : Int} {g bg : Bool} {x y : R} {S1 S2 : List Addr} : Ω p = some (oEight C ns z1 z2 k bg (.o q)) → Ω q = some (oFixed C t b g) →
      RdO C Ω z1 x S1 → RdO C Ω z2 y S2 → p ≠ q → p ∉ S1 → p ∉ S2 → q ∉ S1 → q ∉ S2 → (∀ b ∈ S1, b ∉ S2) → RdO C Ω p (.eightX x y t b g) (p :: q :: (S1 ++ S2))
  | eightF {p z1 z2 k q c : Addr} {ns : List D} {fs : List (Str × D)} {bg w : Bool} {dead fr : R} {S1 S2 : List Addr} : Ω p = some (oEight C ns z1 z2 k bg (.o q)) → Ω q = some (.obj c fs) → fs[1]? = some (("inner" : Str), D.o (if w then z1 else z2)) →
      RdO C Ω (if w then z2 else z1) dead S1 → RdO C Ω q fr S2 → fr.kd = .four → p ∉ S1 → p ∉ S2 → (∀ b ∈ S1, b ∉ S2) → RdO C Ω p (.eightF w dead fr) (p :: (S1 ++ S2))
section
variable {C : CT} {Ω Ω' : Om} {p : Addr} {r : R} {S : List Addr}
theorem RdO.keep (x : RdO C Ω p r S) (h : ∀ b ∈ S, Ω' b = Ω b) : RdO C Ω' p r S := by
  induction x with
  | fixed e => exact .fixed ((h _ (by simp)).trans e)
  | frac e => exact .frac ((h _ (by simp)).trans e)
  | root e => exact .root ((h _ (by simp)).trans e)
  | ruled e => exact .ruled ((h _ (by simp)).trans e)
  | four e x n ih => exact .four ((h _ (by simp)).trans e) (ih fun b hb => h b (by simp [hb])) n
  | fourX e e2 x n1 n2 n3 ih => exact .fourX ((h _ (by simp)).trans e) ((h _ (by simp)).trans e2) (ih fun b hb => h b (by simp [hb])) n1 n2 n3
  | eight e e2 x y n1 n2 n3 n4 n5 n6 ih1 ih2 => exact .eight ((h _ (by simp)).trans e) ((h _ (by simp)).trans e2) (ih1 fun b hb => h b (by simp [hb])) (ih2 fun b hb => h b (by simp [hb])) n1 n2 n3 n4 n5 n6
  | eightX e e2 x y n1 n2 n3 n4 n5 n6 ih1 ih2 => exact .eightX ((h _ (by simp)).trans e) ((h _ (by simp)).trans e2) (ih1 fun b hb => h b (by simp [hb])) (ih2 fun b hb => h b (by simp [hb])) n1 n2 n3 n4 n5 n6
  | eightF e e2 l x y kd n1 n2 n3 ih1 ih2 =>
    have hm : ∀ {q r S}, RdO C Ω q r S → q ∈ S := fun z => by cases z <;> simp
    exact .eightF ((h _ (by simp)).trans e) ((h _ (by simp [hm y])).trans e2) l (ih1 fun b hb => h b (by simp [hb])) (ih2 fun b hb => h b (by simp [hb])) kd n1 n2 n3
theorem RdO.there (x : RdO C Ω p r S) : ∀ b ∈ S, Ω b ≠ none := by
  induction x with
  | fixed e => intro b hb; simp at hb; subst hb; rw [e]; simp
  | frac e => intro b hb; simp at hb; subst hb; rw [e]; simp
  | root e => intro b hb; simp at hb; subst hb; rw [e]; simp
  | ruled e => intro b hb; simp at hb; subst hb; rw [e]; simp
  | four e x n ih => intro b hb; simp at hb; rcases hb with rfl | hb; rw [e]; simp; exact ih b hb
  | fourX e e2 x n1 n2 n3 ih => intro b hb; simp at hb; rcases hb with rfl | rfl | hb; rw [e]; simp; rw [e2]; simp; exact ih b hb
  | eight e e2 x y n1 n2 n3 n4 n5 n6 ih1 ih2 => intro b hb; simp at hb; rcases hb with rfl | rfl | hb | hb; rw [e]; simp; rw [e2]; simp; exact ih1 b hb; exact ih2 b hb
  | eightX e e2 x y n1 n2 n3 n4 n5 n6 ih1 ih2 => intro b hb; simp at hb; rcases hb with rfl | rfl | hb | hb; rw [e]; simp; rw [e2]; simp; exact ih1 b hb; exact ih2 b hb
  | eightF e e2 l x y kd n1 n2 n3 ih1 ih2 => intro b hb; simp at hb; rcases hb with rfl | hb | hb; rw [e]; simp; exact ih1 b hb; exact ih2 b hb
end
inductive Ans where
  | part (n : Int) | fin | waits | none
def Ans.d : Ans → D
  | .part n => .tup [.str "part", .int n]
  | .fin => .tup [.str "end"]
  | .waits => .tup [.str "waits"]
  | .none => .non
/-- how a call ends -/
def Ans.ok (C : CT) (a : Ans) (Q : AQ) (E : Value → Om → Prop) (Ω : Om) : Prop := match a with
  | .none => E (.ref C.c_NoValue) Ω
  | a => Q a.d Ω
/-- small enough for all that is reckoned -/
def Sm (x : Int) : Prop := x.natAbs < 2 ^ 290000
def ruV (k : Nat) (ps ring steps : List Int) : Int := if k < ps.length then ps.getD k 0 else ring.getD ((k - ps.length) % ring.length) 0 + ((k - ps.length) / ring.length : Nat) * steps.getD ((k - ps.length) % ring.length) 0
def belowRest (least : Int) (c0 : Int × Int) : List (Int × Int) → Option Int
  | [] => some least
  | (t, b) :: r => if 0 < (t - (least + 1) * b) * b ∨ ((t - (least + 1) * b) * b = 0 ∧ t * c0.2 = c0.1 * b) then none else belowRest least c0 r
/-- the mirror of below_all -/
def belowAll (cs : List (Int × Int)) : Option Int := match cs with
  | [] => none
  | c0 :: r => if cs.any (fun c => decide (c.2 * c0.2 ≤ 0)) then none else
    let least := (r.map fun c => c.1.fdiv c.2).foldl min (c0.1.fdiv c0.2)
    belowRest least c0 cs
def sure4 (rdy : Bool) (a b c d : Int) : Option Int := if rdy then belowAll [(a, c), (a + b, c + d)] else none
def sure8 (m0 m1 : Nat) (a b c d e f g h : Int) : Option Int := if 0 < m0 ∧ 0 < m1 then belowAll [(a, e), (a + b, e + f), (a + c, e + g), (a + b + c + d, e + f + g + h)] else none
def Sm8 (a b c d e f g h : Int) : Prop := Sm a ∧ Sm b ∧ Sm c ∧ Sm d ∧ Sm e ∧ Sm f ∧ Sm g ∧ Sm h
/-- r with purse m answers ans, and is r' with purse m' behind it; n: parts taken by the outermost loop -/
inductive Told : Nat → R → Int → R → Int → Ans → Prop
  | fxEnd {t m} : Told 0 (.fixed t 0 true) m (.fixed t 0 true) m .fin
  | fxNo {t m} : Told 0 (.fixed t 0 false) m (.fixed t 0 false) m .none
  | fxPart {t b g m} : b ≠ 0 → Sm t → Sm b → Told 0 (.fixed t b g) m (.fixed b (t - t.fdiv b * b) true) m (.part (t.fdiv b))
  | frEnd {k t m} : Told 0 (.frac k t 0) m (.frac k t 0) m .fin
  | frWait {k t b} : b ≠ 0 → Told 0 (.frac k t b) 0 (.frac k t b) 0 .waits
  | frPart {k t b m} : b ≠ 0 → m ≠ 0 → Sm t → Sm b → Told 0 (.frac k t b) m (.frac (k + 1) b (t - t.fdiv b * b)) (m - 1) (.part (t.fdiv b))
  | rtWait {k t s b f} : Told 0 (.root k t s b f) 0 (.root k t s b f) 0 .waits
  | rtPart {k t s b f m q t'} : m ≠ 0 → b ≠ 0 → Sm t → Sm s → Sm b → Sm f → q = (t + f + (if b < 0 then 1 else 0)).fdiv b → t' = q * b - t → Sm t' → Told 0 (.root k t s b f) m (.root (k + 1) t' s ((s - t' * t').fdiv b) f) (m - 1) (.part q)
  | ruEnd {k ps steps m} : ps.length ≤ k → Told 0 (.ruled k ps [] steps) m (.ruled k ps [] steps) m .fin
  | ruWait {k ps ring steps} : (ring = [] → k < ps.length) → Told 0 (.ruled k ps ring steps) 0 (.ruled k ps ring steps) 0 .waits
  | ruPart {k ps ring steps m} : (ring = [] → k < ps.length) → m ≠ 0 → steps.length = ring.length → k < 2 ^ 60 → ps.length < 2 ^ 60 → ring.length < 2 ^ 60 → (∀ n ∈ ring ++ steps, Sm n) → Told 0 (.ruled k ps ring steps) m (.ruled (k + 1) ps ring steps) (m - 1) (.part (ruV k ps ring steps))
  | foTell {a b c d rdy bg x m q} : Sm a → Sm b → Sm c → Sm d → sure4 rdy a b c d = some q → Told 0 (.four a b c d rdy bg x) m (.four c d (a - q * c) (b - q * d) rdy true x) m (.part q)
  | foWait {a b c d rdy bg x m i x' m'} : Sm a → Sm b → Sm c → Sm d → sure4 rdy a b c d = none → Told i x m x' m' .waits → Told 0 (.four a b c d rdy bg x) m (.four a b c d rdy bg x') m' .waits
  | foNo {a b c d rdy bg x m i x' m'} : Sm a → Sm b → Sm c → Sm d → sure4 rdy a b c d = none → Told i x m x' m' .none → Told 0 (.four a b c d rdy bg x) m (.four a b c d rdy bg x') m' .none
  | foEnd {a b c d rdy bg x m i x' m1 t' b' g' m' ans} : Sm a → Sm b → Sm c → Sm d → sure4 rdy a b c d = none → Told i x m x' m1 .fin → Told 0 (.fixed a c bg) m1 (.fixed t' b' g') m' ans → Told 0 (.four a b c d rdy bg x) m (.fourX x' t' b' g') m' ans
  | foIn {a b c d rdy bg x m i x' m1 q n r' m' ans} : Sm a → Sm b → Sm c → Sm d → sure4 rdy a b c d = none → Told i x m x' m1 (.part q) → Sm q → Told n (.four (a * q + b) a (c * q + d) c true bg x') m1 r' m' ans → Told (n + 1) (.four a b c d rdy bg x) m r' m' ans
  | fxX {x t b g m t' b' g' m' ans} : Told 0 (.fixed t b g) m (.fixed t' b' g') m' ans → Told 0 (.fourX x t b g) m (.fourX x t' b' g') m' ans
  | etTell {a b c d e f g h m0 m1 bg x y m q} : Sm8 a b c d e f g h → sure8 m0 m1 a b c d e f g h = some q → Told 0 (.eight a b c d e f g h m0 m1 bg x y) m (.eight e f g h (a - q * e) (b - q * f) (c - q * g) (d - q * h) m0 m1 true x y) m (.part q)
  | etWait {a b c d e f g h m0 m1 bg x y m w i z m'} : Sm8 a b c d e f g h → sure8 m0 m1 a b c d e f g h = none → w = decide (m1 < m0) → Told i (cond w y x) m z m' .waits → Told 0 (.eight a b c d e f g h m0 m1 bg x y) m (.eight a b c d e f g h m0 m1 bg (cond w x z) (cond w z y)) m' .waits
  | etNo {a b c d e f g h m0 m1 bg x y m w i z m'} : Sm8 a b c d e f g h → sure8 m0 m1 a b c d e f g h = none → w = decide (m1 < m0) → Told i (cond w y x) m z m' .none → Told 0 (.eight a b c d e f g h m0 m1 bg x y) m (.eight a b c d e f g h m0 m1 bg (cond w x z) (cond w z y)) m' .none
  | etFour {a b c d e f g h m0 m1 bg x y m w i z m2 n fr m' ans} : Sm8 a b c d e f g h → sure8 m0 m1 a b c d e f g h = none → w = decide (m1 < m0) → Told i (cond w y x) m z m2 .fin → a * cond w g f ≠ cond w c b * e →
      Told n (.four a (cond w c b) e (cond w g f) (decide (0 < cond w m0 m1)) bg (cond w x y)) m2 fr m' ans → Told 0 (.eight a b c d e f g h m0 m1 bg x y) m (.eightF w z fr) m' ans
  | etFix {a b c d e f g h m0 m1 bg x y m w i z m2 t0 b0 t' b' g' m' ans} : Sm8 a b c d e f g h → sure8 m0 m1 a b c d e f g h = none → w = decide (m1 < m0) → Told i (cond w y x) m z m2 .fin → a * cond w g f = cond w c b * e →
      (t0, b0) = (if a = 0 ∧ e = 0 then (cond w c b, cond w g f) else (a, e)) → Told 0 (.fixed t0 b0 bg) m2 (.fixed t' b' g') m' ans → Told 0 (.eight a b c d e f g h m0 m1 bg x y) m (.eightX (cond w x z) (cond w z y) t' b' g') m' ans
  | etIn0 {a b c d e f g h m0 m1 bg x y m i z m2 q n r' m' ans} : Sm8 a b c d e f g h → sure8 m0 m1 a b c d e f g h = none → ¬ m1 < m0 → Told i x m z m2 (.part q) → Sm q → Told n (.eight (a * q + c) (b * q + d) a b (e * q + g) (f * q + h) e f (m0 + 1) m1 bg z y) m2 r' m' ans → Told (n + 1) (.eight a b c d e f g h m0 m1 bg x y) m r' m' ans
  | etIn1 {a b c d e f g h m0 m1 bg x y m i z m2 q n r' m' ans} : Sm8 a b c d e f g h → sure8 m0 m1 a b c d e f g h = none → m1 < m0 → Told i y m z m2 (.part q) → Sm q → Told n (.eight (a * q + b) a (c * q + d) c (e * q + f) e (g * q + h) g m0 (m1 + 1) bg x z) m2 r' m' ans → Told (n + 1) (.eight a b c d e f g h m0 m1 bg x y) m r' m' ans
  | exX {x y t b g m t' b' g' m' ans} : Told 0 (.fixed t b g) m (.fixed t' b' g') m' ans → Told 0 (.eightX x y t b g) m (.eightX x y t' b' g') m' ans
  | exF {w dead fr m n fr' m' ans} : fr.kd = .four → Told n fr m fr' m' ans → Told 0 (.eightF w dead fr) m (.eightF w dead fr') m' ans
theorem Told.kd {n : Nat} {r r' : R} {m m' : Int} {ans : Ans} (h : Told n r m r' m' ans) : r'.kd = r.kd := by
  induction h <;> first | rfl | (simp only [R.kd]; done) | assumption
theorem Told.lv {n : Nat} {r r' : R} {m m' : Int} {ans : Ans} (h : Told n r m r' m' ans) : r'.lv ≤ r.lv := by
  induction h with
  | @etWait a b c d e f g h m0 m1 bg x y m w i z m' _ _ _ _ ih =>
    cases w <;> simp only [cond, R.lv] at * <;> omega
  | @etNo a b c d e f g h m0 m1 bg x y m w i z m' _ _ _ _ ih =>
    cases w <;> simp only [cond, R.lv] at * <;> omega
  | @etFour a b c d e f g h m0 m1 bg x y m w i z m2 n fr m' ans _ _ _ _ _ _ ih1 ih2 =>
    cases w <;> simp only [cond, R.lv] at * <;> omega
  | @etFix a b c d e f g h m0 m1 bg x y m w i z m2 t0 b0 t' b' g' m' ans _ _ _ _ _ _ _ ih1 ih2 =>
    cases w <;> simp only [cond, R.lv] at * <;> omega
  | _ => simp only [R.lv] at * <;> omega
theorem foldl_min_mem : ∀ (l : List Int) (a : Int), l.foldl min a ∈ a :: l ∧ ∀ y ∈ a :: l, l.foldl min a ≤ y
  | [], a => by simp
  | b :: l, a => by
    rw [List.foldl_cons]
    obtain ⟨h1, h2⟩ := foldl_min_mem l (min a b)
    have h3 := h2 (min a b) (by simp)
    refine ⟨?_, fun y hy => ?_⟩
    · rcases List.mem_cons.mp h1 with h | h
      · rw [h]
        rcases Int.le_total a b with g | g
        · rw [Int.min_eq_left g]; simp
        · rw [Int.min_eq_right g]; simp
      · simp [h]
    · rcases List.mem_cons.mp hy with rfl | hy
      · omega
      · rcases List.mem_cons.mp hy with rfl | hy
        · omega
        · exact h2 y (by simp [hy])
theorem min_spec : ∀ (l : List Int) (a m : Int), m ∈ a :: l → (∀ y ∈ a :: l, m ≤ y) → l.foldl min a = m := fun l a m h hm => by
  obtain ⟨h1, h2⟩ := foldl_min_mem l a
  have := hm _ h1
  have := h2 _ h
  omega
theorem belowRest_spec {l : Int} {c0 : Int × Int} {q : Int} : ∀ {cs : List (Int × Int)}, belowRest l c0 cs = some q ↔ q = l ∧ ∀ c ∈ cs, ¬ (0 < (c.1 - (l + 1) * c.2) * c.2 ∨ ((c.1 - (l + 1) * c.2) * c.2 = 0 ∧ c.1 * c0.2 = c0.1 * c.2))
  | [] => by simp [belowRest, eq_comm]
  | (t, b) :: r => by
    unfold belowRest
    split
    · rename_i h
      constructor
      · intro z; cases z
      · intro z; exact absurd h (z.2 (t, b) (by simp))
    · rename_i h
      rw [belowRest_spec (cs := r)]
      constructor
      · rintro ⟨e, z⟩
        exact ⟨e, fun c hc => by
          rcases List.mem_cons.mp hc with rfl | hc
          · exact h
          · exact z c hc⟩
      · rintro ⟨e, z⟩
        exact ⟨e, fun c hc => z c (List.mem_cons_of_mem _ hc)⟩
theorem belowAll_spec {c0 : Int × Int} {r : List (Int × Int)} {q : Int} : belowAll (c0 :: r) = some q ↔ (∀ c ∈ c0 :: r, 0 < c.2 * c0.2) ∧ (∃ c ∈ c0 :: r, q = c.1.fdiv c.2) ∧ (∀ c ∈ c0 :: r, q ≤ c.1.fdiv c.2) ∧
    ∀ c ∈ c0 :: r, ¬ (0 < (c.1 - (q + 1) * c.2) * c.2 ∨ ((c.1 - (q + 1) * c.2) * c.2 = 0 ∧ c.1 * c0.2 = c0.1 * c.2)) := by
  unfold belowAll
  simp only
  obtain ⟨h1, h2⟩ := foldl_min_mem (r.map fun c => c.1.fdiv c.2) (c0.1.fdiv c0.2)
  split
  · rename_i h
    obtain ⟨c, hc, e⟩ := List.any_eq_true.mp h
    have := of_decide_eq_true e
    constructor
    · intro z; cases z
    · intro z; have := z.1 c hc; omega
  · rename_i h
    rw [belowRest_spec]
    have hp : ∀ c ∈ c0 :: r, 0 < c.2 * c0.2 := fun c hc => by
      rcases Int.lt_or_le 0 (c.2 * c0.2) with z | z
      · exact z
      · exact absurd (List.any_eq_true.mpr ⟨c, hc, by simpa using z⟩) h
    rw [← List.map_cons (f := fun c : Int × Int => c.1.fdiv c.2)] at h1 h2
    constructor
    · rintro ⟨rfl, z⟩
      refine ⟨hp, ?_, fun c hc => h2 _ (List.mem_map.mpr ⟨c, hc, rfl⟩), z⟩
      obtain ⟨c, hc, e⟩ := List.mem_map.mp h1
      exact ⟨c, hc, e.symm⟩
    · rintro ⟨_, ⟨c, hc, e⟩, z2, z3⟩
      have e2 : q = (r.map fun c => c.1.fdiv c.2).foldl min (c0.1.fdiv c0.2) := by
        refine (min_spec _ _ _ ?_ fun y hy => ?_).symm
        · rw [← List.map_cons (f := fun c : Int × Int => c.1.fdiv c.2)]
          exact List.mem_map.mpr ⟨c, hc, e.symm⟩
        · rw [← List.map_cons (f := fun c : Int × Int => c.1.fdiv c.2)] at hy
          obtain ⟨c, hc, rfl⟩ := List.mem_map.mp hy
          exact z2 c hc
      exact ⟨e2, by rw [← e2]; exact z3⟩
theorem fEq_nil {neg : Bool} {xs : List Int} {Ω : Om} {Q : AQ} (k : Q (.bl (if neg then !decide (xs = []) else decide (xs = []))) Ω) : fEq neg (.tup (xs.map D.int)) (.tup []) Ω Q := by
  obtain ⟨p, e1, e2, e3, e4⟩ := D.fits_py 1 (.tup (xs.map D.int)) (by simp only [D.fits]; exact fits_map (fun _ => by simp only [D.fits]) xs)
  have s : SeqAt.shaped p = true := by
    unfold SeqAt.shaped
    rw [e3, Bool.true_and]
    exact decide_eq_true (by omega)
  refine ⟨p, .tuple [], e1, rfl, s, rfl, ?_⟩
  have e : PyData.eqv p (.tuple []) = decide (xs = []) := by
    simp only [D.py, Option.map_eq_some_iff] at e1
    obtain ⟨ps, h, rfl⟩ := e1
    cases xs with
    | nil => simp only [List.map_nil, D.pys, Option.some.injEq] at h; subst h; simp [PyData.eqv, PyData.eqvAll]
    | cons x r =>
      simp only [List.map_cons, D.pys, D.py] at h
      cases q : D.pys (r.map D.int) with
      | none => rw [q] at h; cases h
      | some qs => rw [q] at h; simp only [Option.some.injEq] at h; subst h; simp [PyData.eqv, PyData.eqvAll]
  rw [e]
  exact k
theorem getD_at {xs : List Int} {i : Nat} (h : i < xs.length) {n : Int} (e : n = i) : atI (xs.map D.int) n = some (.int (xs.getD i 0)) := by
  subst e
  rw [atI_eq, List.getElem?_map, List.getElem?_eq_getElem h, List.getD_eq_getElem?_getD, List.getElem?_eq_getElem h]
  rfl
theorem getD_mem {xs : List Int} {i : Nat} (h : i < xs.length) : xs.getD i 0 ∈ xs := by
  rw [List.getD_eq_getElem?_getD, List.getElem?_eq_getElem h]
  exact List.getElem_mem h
inductive Tr where
  | frac (t b : Int)
  | root (t s b : Int)
  | ruled (ps ring steps : List Int)
  | four (a b c d : Int) (x : Tr)
  | eight (a b c d e f g h : Int) (x y : Tr)
  | power (x : Tr) (n : Int)
def Tr.d : Tr → D
  | .frac t b => .tup [.str "fraction", .int t, .int b]
  | .root t s b => .tup [.str "root", .int t, .int s, .int b]
  | .ruled ps ring steps => .tup [.str "ruled", dtup ps, dtup ring, dtup steps]
  | .four a b c d x => .tup [.str "four", dtup [a, b, c, d], x.d]
  | .eight a b c d e f g h x y => .tup [.str "eight", dtup [a, b, c, d, e, f, g, h], x.d, y.d]
  | .power x n => .tup [.str "power", x.d, .int n]
def Few (x : Int) : Prop := x.natAbs ≤ 10 ^ 12
/-- a tree as need_tree wants it, no deeper -/
def Tr.good : Nat → Tr → Prop
  | 0, _ => False
  | _ + 1, .frac t b => Few t ∧ Few b ∧ b ≠ 0
  | _ + 1, .root t s b => Few t ∧ Few s ∧ Few b ∧ 0 ≤ s ∧ b ≠ 0
  | _ + 1, .ruled ps ring steps => 1 ≤ ps.length ∧ ps.length ≤ 12 ∧ ring.length ≤ 12 ∧ ring.length = steps.length ∧ (∀ n ∈ ps ++ ring ++ steps, Few n) ∧ (∀ n ∈ ps.drop 1 ++ ring, 1 ≤ n) ∧ (∀ n ∈ steps, 0 ≤ n) ∧ (ring = [] → 1 < ps.length → ∀ n, ps.getLast? = some n → 2 ≤ n)
  | k + 1, .four a b c d x => Few a ∧ Few b ∧ Few c ∧ Few d ∧ a * d ≠ b * c ∧ Tr.good k x
  | k + 1, .eight a b c d e f g h x y => (∀ n ∈ [a, b, c, d, e, f, g, h], Few n) ∧ (b * e ≠ a * f ∨ c * e ≠ a * g ∨ c * f ≠ b * g ∨ d * e ≠ a * h ∨ d * f ≠ b * h ∨ d * g ≠ c * h) ∧ Tr.good k x ∧ Tr.good k y
  | k + 1, .power x n => 1 ≤ n ∧ n ≤ 4 ∧ Tr.good k x
def pows (x : R) : Nat → R
  | 0 => x
  | n + 1 => .eight 1 0 0 0 0 0 0 1 0 0 false x (pows x n)
def abI (b : Int) : Int := if b < 0 then -b else b
/-- how a tree's reader begins -/
inductive Opened : Tr → R → Prop
  | frac {t b} : Opened (.frac t b) (.frac 0 t b)
  | rootF {t s b f} : 0 ≤ f → f * f = s → Opened (.root t s b) (.frac 0 (t + f) b)
  | rootR {t s b f f'} : 0 ≤ f → f * f < s → s < (f + 1) * (f + 1) → 0 ≤ f' → f' * f' ≤ s * abI b * abI b → s * abI b * abI b < (f' + 1) * (f' + 1) → Opened (.root t s b) (.root 0 (t * abI b) (s * abI b * abI b) (b * abI b) f')
  | ruled {ps ring steps} : Opened (.ruled ps ring steps) (.ruled 0 ps ring steps)
  | four {a b c d x r} : Opened x r → Opened (.four a b c d x) (.four a b c d false false r)
  | eight {a b c d e f g h x y r q} : Opened x r → Opened y q → Opened (.eight a b c d e f g h x y) (.eight a b c d e f g h 0 0 false r q)
  | power {x n r} : Opened x r → Opened (.power x n) (pows r (n - 1).toNat)
/-- where a reader stands in its class -/
def CT.cls (C : CT) : Kd → List Addr
  | .fixed => [C.c_Fixed]
  | .leaf => [C.c_Fraction, C.c_Root, C.c_Ruled]
  | .four => [C.c_Four]
  | .eight => [C.c_Eight]
theorem RdO.obj {C : CT} {Ω : Om} {p : Addr} {r : R} {S : List Addr} (x : RdO C Ω p r S) : ∃ c fs, Ω p = some (.obj c fs) ∧ (∀ m, m = ("told" : Str) ∨ m = ("part" : Str) ∨ m = ("took" : Str) → m ∉ fs.map (·.1)) ∧ c ∈ C.cls r.kd := by
  cases x with
  | fixed e => exact ⟨_, _, e, fun m hm z => by simp only [List.map_cons, List.map_nil, List.mem_cons, List.not_mem_nil, or_false] at z; rcases hm with rfl | rfl | rfl <;> revert z <;> decide, by simp [CT.cls, R.kd]⟩
  | frac e => exact ⟨_, _, e, fun m hm z => by simp only [List.map_cons, List.map_nil, List.mem_cons, List.not_mem_nil, or_false] at z; rcases hm with rfl | rfl | rfl <;> revert z <;> decide, by simp [CT.cls, R.kd]⟩
  | root e => exact ⟨_, _, e, fun m hm z => by simp only [List.map_cons, List.map_nil, List.mem_cons, List.not_mem_nil, or_false] at z; rcases hm with rfl | rfl | rfl <;> revert z <;> decide, by simp [CT.cls, R.kd]⟩
  | ruled e => exact ⟨_, _, e, fun m hm z => by simp only [List.map_cons, List.map_nil, List.mem_cons, List.not_mem_nil, or_false] at z; rcases hm with rfl | rfl | rfl <;> revert z <;> decide, by simp [CT.cls, R.kd]⟩
  | four e => exact ⟨_, _, e, fun m hm z => by simp only [List.map_cons, List.map_nil, List.mem_cons, List.not_mem_nil, or_false] at z; rcases hm with rfl | rfl | rfl <;> revert z <;> decide, by simp [CT.cls, R.kd]⟩
  | fourX e => exact ⟨_, _, e, fun m hm z => by simp only [List.map_cons, List.map_nil, List.mem_cons, List.not_mem_nil, or_false] at z; rcases hm with rfl | rfl | rfl <;> revert z <;> decide, by simp [CT.cls, R.kd]⟩
  | eight e => exact ⟨_, _, e, fun m hm z => by simp only [List.map_cons, List.map_nil, List.mem_cons, List.not_mem_nil, or_false] at z; rcases hm with rfl | rfl | rfl <;> revert z <;> decide, by simp [CT.cls, R.kd]⟩
  | eightX e => exact ⟨_, _, e, fun m hm z => by simp only [List.map_cons, List.map_nil, List.mem_cons, List.not_mem_nil, or_false] at z; rcases hm with rfl | rfl | rfl <;> revert z <;> decide, by simp [CT.cls, R.kd]⟩
  | eightF e => exact ⟨_, _, e, fun m hm z => by simp only [List.map_cons, List.map_nil, List.mem_cons, List.not_mem_nil, or_false] at z; rcases hm with rfl | rfl | rfl <;> revert z <;> decide, by simp [CT.cls, R.kd]⟩
/-- parts taken of leaves -/
def R.tk : R → Nat
  | .fixed .. => 0
  | .frac k _ _ => k
  | .root k _ _ _ _ => k
  | .ruled k _ _ _ => k
  | .four _ _ _ _ _ _ x => x.tk
  | .fourX x _ _ _ => x.tk
  | .eight _ _ _ _ _ _ _ _ _ _ _ x y => x.tk + y.tk
  | .eightX x y _ _ _ => x.tk + y.tk
  | .eightF _ dead fr => dead.tk + fr.tk
theorem R.lv_leaf {r : R} (h : r.kd = .leaf) : r.lv = 3 := by cases r <;> first | rfl | cases h
theorem R.lv_fixed {r : R} (h : r.kd = .fixed) : r.lv = 1 := by cases r <;> first | rfl | cases h
theorem R.lv_four {r : R} (h : r.kd = .four) : 4 ≤ r.lv := by cases r <;> first | (simp only [R.lv]; omega) | cases h
theorem R.lv_eight {r : R} (h : r.kd = .eight) : 4 ≤ r.lv := by cases r <;> first | (simp only [R.lv]; omega) | cases h
theorem Mth.imp {P : Program} {w : World} {K : PySem.W.Frag} {mg : Str → Option Value} {base : Heap} {ca : CA} {k : Nat} {C : Addr} {m : Str} {F F' : AF} (c : Mth P w K mg base ca k C m F) (h : ∀ ds Ω Q E, F' ds Ω Q E → F ds Ω Q E) : Mth P w K mg base ca k C m F' := by
  obtain ⟨f, fd, ps, M, G, b⟩ := c.ex
  exact ⟨f, fd, ps, M, G.imp (spA_imp h), b⟩
theorem cut_from {xs : List D} (k : Nat) : cutD xs (some (k : Int)) none = xs.drop k := by
  unfold cutD
  rw [HT.sIx_nat, HT.sIx_none]
  by_cases h : k ≤ xs.length
  · rw [Nat.min_eq_left h, List.take_of_length_le (by rw [List.length_drop]; omega)]
  · rw [Nat.min_eq_right (by omega), List.drop_length, List.drop_eq_nil_of_le (by omega)]
    simp
theorem cut_1 {xs : List D} : cutD xs (some 1) none = xs.drop 1 := cut_from 1
theorem cut_4 {xs : List D} : cutD xs (some 4) none = xs.drop 4 := cut_from 4
theorem at_of {X : Cx} {ca : CA} {W : WX} {op : CmpOp} {a b : Expr} {ta tb : TE} {ra rb : ATE} {pos : Pos} {r : R2} {f : D → D → Om → AQ → Prop} (ho : OpR X (compareOp op) r) (ha : AE X ca W a ta ra) (hb : AE X ca W b tb rb) (hm : behindInMarks op b = false) (he : AE X ca W (.Compare a [op] [b] pos) (tOp r ta tb) (aOp f ra rb)) :
    AT X ca W (.Compare a [op] [b] pos) (tTest (tOp r ta tb)) (aB (aOp f ra rb)) :=
  ⟨pt_cmpR ho ha.pe hb.pe hm, fun σ H G own ρ Ω Wa Qa Qc r s h k kx => he.sim σ H G own ρ Ω Wa _ _ r s h (fun v H1 G1 own1 d Ω1 e1 r1 dv1 q1 => by
    obtain ⟨c, rfl, q⟩ := q1
    cases dv1
    exact ⟨c, rfl, k _ _ _ _ _ e1 r1 q⟩) kx⟩
theorem at_eqS {X : Cx} {ca : CA} {W : WX} {a b : Expr} {ta tb : TE} {ra rb : ATE} {pos : Pos} (ha : AE X ca W a ta ra) (hb : AE X ca W b tb rb) : AT X ca W (.Compare a [.Eq] [b] pos) (tTest (tOp rEq ta tb)) (aB (aEqS ra rb)) := at_of op_eq ha hb (nomark _) (ae_eqS ha hb)
theorem at_neS {X : Cx} {ca : CA} {W : WX} {a b : Expr} {ta tb : TE} {ra rb : ATE} {pos : Pos} (ha : AE X ca W a ta ra) (hb : AE X ca W b tb rb) : AT X ca W (.Compare a [.NotEq] [b] pos) (tTest (tOp rNe ta tb)) (aB (aNeS ra rb)) := at_of op_ne ha hb (nomark _) (ae_neS ha hb)
theorem rngD_succ {n : Int} {k : Nat} : rngD n (k + 1) = .int n :: rngD (n + 1) k := by
  unfold rngD
  rw [List.range_succ_eq_map, List.map_cons, List.map_map]
  congr 1
  · simp
  · refine List.map_congr_left fun i _ => ?_
    simp only [Function.comp]
    congr 1
    omega
end PL
namespace PL
open PySem PySem.Spec PyProof.Rows L2
theorem div_of {P : Program} {w : World} {K : PySem.W.Frag} {mg : Str → Option Value} {base : Heap} {N : List Str} {qual : Str} {scope : Scope} {f : Addr} {cdv : Value} {A : Around} {outer : List Env} {s : Shared} {H : Hp} {E : XK} {k : Nat} [sr : Seer P base]
    (hr : Rm k (A.deeper (PyProof.Rows.envOfC qual scope s.heap.objs.size f cdv))) (hg : scope.isGenerator = false := by rfl) (hc : scope.isCoroutine = false := by rfl) : Div (cxOf (L2.CX P w) P w K mg base N qual scope f cdv A outer s H E) :=
  ⟨sr.no, sr.tree, ⟨_, _, rfl, hg, hc, rfl, rfl⟩, by have := hr.dp; show (A.deeper (PyProof.Rows.envOfC qual scope s.heap.objs.size f cdv)).depth + 100 < recursionLimit; omega⟩
instance seer_cx {CX : CXT} {P : Program} {w : World} {K : PySem.W.Frag} {mg : Str → Option Value} {base : Heap} {N : List Str} {qual : Str} {scope : Scope} {f : Addr} {cdv : Value} {A : Around} {outer : List Env} {s : Shared} {H : Hp} {E : XK} [sr : Seer P base] : Seer (cxOf CX P w K mg base N qual scope f cdv A outer s H E).prog (cxOf CX P w K mg base N qual scope f cdv A outer s H E).base := sr
instance seer_blk {X : Cx} {scope : Scope} {s : Shared} {H : Hp} {C : Addr} {cl : List (Str × Addr)} {fp : List Addr} [sr : Seer X.prog X.base] : Seer (Blk X scope s H C cl fp).prog (Blk X scope s H C cl fp).base := sr
theorem div_blk {X : Cx} {scope : Scope} {s : Shared} {H : Hp} {C : Addr} {cl : List (Str × Addr)} {fp : List Addr} (d : Div X) : Div (Blk X scope s H C cl fp) := ⟨d.no, d.tree, d.top, d.dp⟩
section
variable {P : Program} {w : World} {K : PySem.W.Frag} {mg mb : Str → Option Value} {CX : CXT} {k : Nat} {fa a : Addr} {fd : FuncData} {x : Str} {sp : Sp} {s : Shared} {vs : List Value} {ns : List Int}
/-- what is hidden holds no namespace, no module and no record of the text's own -/
theorem hid_ns {H : Hp} (hl : ∀ b u, H b = some u → ∃ o, s.heap.get? b = some o ∧ ∃ us n, o.data = .seq us n) {b : Addr} {m : Str → Option Value} (h : s.heap.Ns b m) : (hidT s.heap H).Ns b m := by
  obtain ⟨o, es, ep, e, d, r⟩ := h
  refine ⟨o, es, ep, hidT_get e ?_, d, r⟩
  cases q : H b with
  | none => rfl
  | some u =>
    obtain ⟨o', e', us, n, d'⟩ := hl b u q
    rw [e] at e'
    cases e'
    rw [d] at d'
    cases d'
theorem hid_seer {H : Hp} (hl : ∀ b u, H b = some u → ∃ o, s.heap.get? b = some o ∧ o.cls = .type "list" ∧ ∃ us n, o.data = .seq us n) (h : s.heap.NoSeer) : (hidT s.heap H).NoSeer := by
  have hl' : ∀ b u, H b = some u → ∃ o, s.heap.get? b = some o ∧ ∃ us n, o.data = .seq us n := fun b u q => by
    obtain ⟨o, e, _, r⟩ := hl b u q
    exact ⟨o, e, r⟩
  obtain ⟨⟨mc, c1, c2⟩, ⟨mm, m1, m2⟩, ⟨mb, b1, b2⟩, ⟨mg, bm, ob, g1, g2, g3, g4, g5⟩⟩ := h
  refine ⟨⟨mc, hid_ns hl' c1, c2⟩, ⟨mm, hid_ns hl' m1, m2⟩, ⟨mb, hid_ns hl' b1, b2⟩, ⟨mg, bm, ob, hid_ns hl' g1, g2, hidT_get g3 ?_, g4, g5⟩⟩
  cases q : H bm with
  | none => rfl
  | some u =>
    obtain ⟨o', e', c', _⟩ := hl bm u q
    rw [g3] at e'
    cases e'
    rw [g4] at c'
    exact absurd c' (by simp)
/-- the heap in which the script alone may be followed -/
def scriptH (K : PySem.W.Frag) (a : Addr) (u : HO) : Hp := fun b => if b = a ∧ K.lookup a = none then some u else none
theorem scriptH_at {K : PySem.W.Frag} {a b : Addr} {u v : HO} (h : scriptH K a u b = some v) : b = a ∧ K.lookup a = none ∧ v = u := by
  unfold scriptH at h
  split at h
  · rename_i z
    cases h
    exact ⟨z.1, z.2, rfl⟩
  · cases h
theorem seer_call (KX : K.In s.heap) (hns : s.heap.Ns mainGlobals mg) (hb : s.heap.Ns builtinsNs mb) (hbb : ∀ y : Str, y ≠ "__name__" → mb y = bootBuiltins y) (hlim : s.heap.NoLimit) (hse : s.heap.NoSeer) (hg : s.gens = #[])
    (ha : s.heap.get? a = some { cls := .type "list", data := .seq vs.toArray }) (hi : IntsAre vs ns) (hl : ns.length ≤ sizeLine) (hr : Room k callerA)
    (F : ∀ base : Heap, K.In base → base.Ns mainGlobals mg → base.NoSeer → FnOk P w K mg base CX k fa fd [x] sp) (hbind : ∀ (s : Shared) (u : Value), BindsTo s fd ⟨[u], []⟩ [(x, u)])
    (hsp : ∀ H : Hp, Only H → SqL K H a (ns.map V.int) → sp [.ref a] H (fun v _ => v = .bl true) fun _ _ _ => False) (hCX : ∀ H e s', CX [] H s (fun _ _ _ => False) e s' → False) :
    codeAny (model P w) callerA (.call (.ref fa) ⟨[.ref a], []⟩) (fun r s' => r = .ok (.ret (.bool true)) ∧ PySem.OldK s.heap s'.heap ∧ s'.os = s.os ∧ AllBare s'.gens) s := by
  let so : Obj := { cls := .type "list", data := .seq vs.toArray }
  let U : HO := .frz so (.lst (ns.map V.int))
  let H := scriptH K a U
  have rv := vals_ints hi
  have at_ : ∀ {b u}, H b = some u → b = a ∧ K.lookup a = none ∧ u = U := fun q => scriptH_at q
  have hlist : ∀ b u, H b = some u → ∃ o, s.heap.get? b = some o ∧ o.cls = .type "list" ∧ ∃ us n, o.data = .seq us n := fun b u q => by
    obtain ⟨rfl, _, _⟩ := at_ q
    exact ⟨_, ha, rfl, _, _, rfl⟩
  have hlist' : ∀ b u, H b = some u → ∃ o, s.heap.get? b = some o ∧ ∃ us n, o.data = .seq us n := fun b u q => by
    obtain ⟨rfl, _, _⟩ := at_ q
    exact ⟨_, ha, _, _, rfl⟩
  have only : Only H := fun b => by
    cases q : H b with
    | none => exact .inl rfl
    | some u =>
      obtain ⟨_, _, rfl⟩ := at_ q
      exact .inr ⟨so, _, rfl⟩
  have seq : SqL K H a (ns.map V.int) := by
    cases q : K.lookup a with
    | none => exact .inl (.inr ⟨so, if_pos ⟨rfl, q⟩⟩)
    | some o =>
      have e := KX a o q
      rw [ha] at e
      cases e
      exact .inr ⟨_, vs.toArray, _, q, rfl, rfl, rfl, by rw [List.size_toArray, hi.length]; exact hl, by simpa using rv⟩
  have ok : HOk P w H s.heap := fun b u q => by
    obtain ⟨rfl, _, rfl⟩ := at_ q
    exact ⟨ha, by rw [List.length_map]; exact hl, vs, _, rv, ha⟩
  have kin : K.In (hidT s.heap H) := fun b o e => hidT_get (KX b o e) (by
    cases q : H b with
    | none => rfl
    | some u =>
      obtain ⟨rfl, z, _⟩ := at_ q
      rw [z] at e
      cases e)
  have lim : (hidT s.heap H).NoLimit := by
    obtain ⟨mc, h1, h2⟩ := hlim
    exact ⟨mc, hid_ns hlist' h1, h2⟩
  have e0 : Env0 P w K mg (hidT s.heap H) callerA [] s H := { frames := rfl, mod := ⟨kin, hid_ns hlist' hns, ⟨mb, hid_ns hlist' hb, hbb⟩, lim⟩, bs := fun b o e => of_hidT e, bsz := Nat.le_of_eq (hidT_size _ _), funs := trivial, frf := fun b z => absurd z (by simp [frs]), hok := ok, bare := .of_eq hg }
  have run := (F (hidT s.heap H) kin (hid_ns hlist' hns) (hid_seer hlist hse)).run callerA [] s H ⟨[.ref a], []⟩ [.ref a] [.ref a] (fun v _ => v = .bl true) (fun _ _ _ => False) hr e0 (hbind s _) (.cons rfl .nil) (hsp H only seq)
  refine codeAny_mono run fun r s' q => ?_
  match r, q with
  | .error e, q => exact (hCX H e s' q).elim
  | .ok .next, q => exact q.elim
  | .ok .brk, q => exact q.elim
  | .ok .cont, q => exact q.elim
  | .ok (.ret u), q =>
    obtain ⟨v, H', os, bare, un, ok', rr, rfl⟩ := q
    obtain rfl : u = Value.bool true := rr
    refine ⟨rfl, PySem.OldK.of_keep fun b o e => ?_, os, bare⟩
    cases q : H b with
    | none => exact un.keep b o e q (by simp [frs]) (by simp)
    | some u =>
      obtain ⟨rfl, _, rfl⟩ := at_ q
      obtain ⟨z1, _⟩ := ok _ _ q
      obtain ⟨z2, _⟩ := ok' _ _ (un.frzs _ so _ q)
      rw [e] at z1
      cases z1
      exact z2
end
theorem pl_walkS {l : PySem.W.OpenLaw} {k : Nat} {q : Program} {loose : List Str} {XP : (Str → Option Value) → Heap → Prop} {YP : World → Heap → Prop} {d : DefRec} {K : Params → PySem.W.Frag} (ca : PySem.W.Frag → CA)
    (hn : l.most = some 63) (hdf : d.params.defaults = []) (hr : Room k callerA) (hq : importsNone q = true) (ht : l.prog.given.tree = none) (hY : ∀ (w : World) (h : Heap), YP w h → (K w.params).In h)
    (F : ∀ (w : World) (mg : Str → Option Value) (fa : Addr) (h : Heap), (K w.params).In h → h.Ns mainGlobals mg → mg d.name = some (.ref fa) →
      ∃ fd : FuncData, (∀ (s : Shared) (u : Value), BindsTo s fd ⟨[u], []⟩ [("_law_script", u)]) ∧
        ∀ base : Heap, (K w.params).In base → base.Ns mainGlobals mg → Seer l.prog base → FnOk l.prog w (K w.params) mg base (L2.CX l.prog w) k fa fd ["_law_script"] (spA (K w.params) (ca (K w.params)) F_law)) :
    PySem.W.WalkO q loose XP YP l.row.toRowW d [] (fun f vs => PySem.call f vs) := by
  refine Att.attach_call hn hdf fun w s₀ s1 mg mb fa o pm cd doc a vs ns G Y ho hd hcd hmg hobj hints hlen hg => ?_
  have KX := hY w _ Y
  obtain ⟨fd, hb, hF⟩ := F w mg fa _ KX G.T.g hmg
  refine seer_call KX G.T.g G.T.b G.T.builtins G.T.nolimit (G.T.seer hq) hg hobj hints (Nat.le_trans hlen (show 63 ≤ sizeLine by rw [sizeLine_eq]; decide)) hr (fun base h1 h2 h3 => hF base h1 h2 ⟨h3, ht⟩) hb (fun H hO hS => ?_) fun H e s' z => ?_
  · refine ⟨H, fun _ => none, fun _ => none, [.lst (ns.map D.int)], fun d _ => d = .bl true, fun _ _ => False, only_rel, .cons (.lst hS (DVs.of_ints ns)) .nil, ⟨ns, rfl, hlen, fun _ => rfl⟩, ?_, fun _ _ _ _ _ _ _ z => z⟩
    rintro v H' G' own' d Ω' e r dv rfl
    cases dv
    rfl
  · obtain ⟨_, _, _, _, _, _, _, _, _, _, _, _, z⟩ := z
    exact z
end PL
namespace PL
/-- a seminorm of (top, below) -/
def Ls (k1 k0 : Nat) (t b : Int) : Nat := k1 * t.natAbs + k0 * b.natAbs
theorem Ls_add {k1 k0 : Nat} {t b t' b' : Int} : Ls k1 k0 (t + t') (b + b') ≤ Ls k1 k0 t b + Ls k1 k0 t' b' := by
  unfold Ls
  have h1 := Nat.mul_le_mul_left k1 (Int.natAbs_add_le t t')
  have h2 := Nat.mul_le_mul_left k0 (Int.natAbs_add_le b b')
  rw [Nat.mul_add] at h1 h2
  omega
theorem Ls_mul {k1 k0 : Nat} {t b q : Int} : Ls k1 k0 (t * q) (b * q) = q.natAbs * Ls k1 k0 t b := by
  unfold Ls
  rw [Int.natAbs_mul, Int.natAbs_mul]
  generalize t.natAbs = x
  generalize b.natAbs = y
  generalize q.natAbs = z
  grind
/-- what was told, in short: ahead of the first part (1, 4) -/
def gs (bg : Bool) (k1 k0 : Nat) (q : Int) : Nat × Nat := if bg = true then (k1 * q.toNat + k0, k1) else if 1 ≤ q then (q.toNat + 4, 1) else (q.natAbs + 2, 1)
theorem abs_split {t b r q : Int} (hq : 1 ≤ q) (h : t = q * b + r) (hr : 0 ≤ r * b) (hb : b ≠ 0) : t.natAbs = q.toNat * b.natAbs + r.natAbs := by
  rcases Int.lt_or_gt_of_ne hb with z | z
  · have hr0 : r ≤ 0 := by
      rcases Int.lt_or_le 0 r with g | g
      · have := Int.mul_neg_of_pos_of_neg g z
        omega
      · exact g
    have h1 : q * b ≤ 0 := Int.mul_nonpos_of_nonneg_of_nonpos (by omega) (by omega)
    have h2 : (q * b).natAbs = q.toNat * b.natAbs := by rw [Int.natAbs_mul]; congr 1; omega
    omega
  · have hr0 : 0 ≤ r := by
      rcases Int.lt_or_le r 0 with g | g
      · have := Int.mul_neg_of_neg_of_pos g z
        omega
      · exact g
    have h1 : 0 ≤ q * b := Int.mul_nonneg (by omega) (by omega)
    have h2 : (q * b).natAbs = q.toNat * b.natAbs := by rw [Int.natAbs_mul]; congr 1; omega
    omega
/-- a corner behind a part -/
structure Rem (t b q : Int) : Prop where
  b0 : b ≠ 0
  lo : 0 ≤ (t - q * b) * b
  hi : (t - q * b) * b ≤ b * b
theorem Rem.le {t b q : Int} (h : Rem t b q) : (t - q * b).natAbs ≤ b.natAbs := by
  obtain ⟨b0, lo, hi⟩ := h
  generalize t - q * b = r at lo hi ⊢
  rcases Int.lt_or_gt_of_ne b0 with z | z
  · have h1 : r ≤ 0 := by
      rcases Int.lt_or_le 0 r with g | g
      · have := Int.mul_neg_of_pos_of_neg g z
        omega
      · exact g
    have h2 : b ≤ r := by
      rcases Int.lt_or_le r b with g | g
      · have := Int.mul_lt_mul_of_neg_right g z
        omega
      · exact g
    omega
  · have h1 : 0 ≤ r := by
      rcases Int.lt_or_le r 0 with g | g
      · have := Int.mul_neg_of_neg_of_pos g z
        omega
      · exact g
    have h2 : r ≤ b := by
      rcases Int.lt_or_le b r with g | g
      · have := Int.mul_lt_mul_of_pos_right g z
        omega
      · exact g
    omega
theorem gs_first {t b q : Int} (h : Rem t b q) : Ls (gs false 1 4 q).1 (gs false 1 4 q).2 b (t - q * b) ≤ Ls 1 4 t b := by
  have hle := h.le
  obtain ⟨b0, lo, hi⟩ := h
  unfold gs Ls
  simp only [Bool.false_eq_true, if_false]
  by_cases hq : 1 ≤ q
  · rw [if_pos hq]
    have := abs_split hq (t := t) (b := b) (r := t - q * b) (by omega) lo b0
    simp only [Nat.add_mul]
    omega
  · rw [if_neg hq]
    simp only [Nat.add_mul]
    have h1 : (q * b).natAbs = q.natAbs * b.natAbs := Int.natAbs_mul ..
    have h2 : t.natAbs + (t - q * b).natAbs ≥ (q * b).natAbs := by omega
    rw [h1] at h2
    omega
theorem gs_next {k1 k0 : Nat} {t b q : Int} (hq : 1 ≤ q) (h : Rem t b q) : Ls (gs true k1 k0 q).1 (gs true k1 k0 q).2 b (t - q * b) = Ls k1 k0 t b := by
  have := abs_split hq (t := t) (b := b) (r := t - q * b) (by omega) h.lo h.b0
  unfold gs Ls
  simp only [if_true]
  rw [this]
  generalize q.toNat = x
  generalize b.natAbs = y
  generalize (t - q * b).natAbs = z
  grind
/-- begun: tops and belows on one side -/
structure Bgn (s t b : Int) : Prop where
  lo : 0 ≤ s * b
  hi : s * b ≤ s * t
  ps : 0 < s * t
def Sg (s : Int) : Prop := s = 1 ∨ s = -1
theorem Bgn.muladd {s t b t' b' q : Int} (hq : 0 ≤ q) (h : Bgn s t b) (h' : Bgn s t' b') : Bgn s (t * q + t') (b * q + b') := by
  obtain ⟨h1, h2, h3⟩ := h
  obtain ⟨g1, g2, g3⟩ := h'
  have e1 : s * (t * q + t') = s * t * q + s * t' := by grind
  have e2 : s * (b * q + b') = s * b * q + s * b' := by grind
  have e3 := Int.mul_nonneg h1 hq
  have e4 := Int.mul_le_mul_of_nonneg_right h2 hq
  refine ⟨?_, ?_, ?_⟩
  · rw [e2]; omega
  · rw [e1, e2]; omega
  · rw [e1]; omega
/-- the side behind a part -/
theorem Rem.bgn {t b q : Int} (h : Rem t b q) {s : Int} (hs : Sg s) (hb : 0 < s * b) : Bgn s b (t - q * b) := by
  obtain ⟨b0, lo, hi⟩ := h
  generalize t - q * b = r at lo hi ⊢
  rcases hs with rfl | rfl
  · simp only [Int.one_mul] at *
    refine ⟨?_, ?_, ?_⟩ <;> simp only [Int.one_mul]
    · rcases Int.lt_or_le r 0 with g | g
      · have := Int.mul_neg_of_neg_of_pos g hb
        omega
      · exact g
    · rcases Int.lt_or_le b r with g | g
      · have := Int.mul_lt_mul_of_pos_right g hb
        omega
      · exact g
    · exact hb
  · have hb' : b < 0 := by omega
    refine ⟨?_, ?_, ?_⟩
    · rcases Int.lt_or_le 0 r with g | g
      · have := Int.mul_neg_of_pos_of_neg g hb'
        omega
      · omega
    · rcases Int.lt_or_le r b with g | g
      · have := Int.mul_lt_mul_of_neg_right g hb'
        omega
      · omega
    · omega
theorem Bgn.floor {s t b : Int} (hs : Sg s) (h : Bgn s t b) (b0 : b ≠ 0) : 1 ≤ t.fdiv b := by
  obtain ⟨h1, h2, h3⟩ := h
  have e1 := Int.mul_fdiv_add_fmod t b
  have e2 := fmod_lt (t := t) b0
  generalize t.fdiv b = d at e1 ⊢
  rcases Int.lt_or_le 0 d with z | z
  · exact z
  · exfalso
    rcases hs with rfl | rfl
    · have hb : 0 < b := by omega
      have e3 : t.fmod b < b := Int.fmod_lt_of_pos _ hb
      have e4 := Int.mul_nonpos_of_nonneg_of_nonpos (a := b) (b := d) (by omega) (by omega)
      omega
    · have hb : b < 0 := by omega
      have e3 := (fmod_neg' (t := t) hb).1
      have e4 := Int.mul_nonneg_of_nonpos_of_nonpos (a := b) (b := d) (by omega) (by omega)
      omega
/-- a root behind its first part: the next part is 1 or more -/
def RtB (t b f : Int) : Prop := (0 < b ∧ b ≤ t + f) ∨ (b < 0 ∧ t + f + 1 ≤ b)
structure RtI (t s b f : Int) : Prop where
  f0 : 0 ≤ f
  lo : f * f < s
  hi : s < (f + 1) * (f + 1)
  b0 : b ≠ 0
  dv : ∃ e, b * e = s - t * t
/-- a leaf, its parts short of P bits, for KM parts -/
def LfI (P KM : Nat) : R → Prop
  | .frac k t b => t.natAbs + 2 ≤ 2 ^ P ∧ b.natAbs + 2 ≤ 2 ^ P ∧ (k = 0 → b ≠ 0) ∧ (0 < k → ∃ s, Sg s ∧ Bgn s t b)
  | .root k t s b f => RtI t s b f ∧ (0 < k → RtB t b f) ∧ Sm s ∧ ∃ W, b.natAbs + (KM - k) * (2 * f.toNat + 2) ≤ W ∧ t.natAbs ≤ W ∧ 2 * W + 2 * f.toNat + 4 ≤ 2 ^ P
  | .ruled _ ps ring steps => 1 ≤ ps.length ∧ ps.length < 2 ^ 60 ∧ ring.length < 2 ^ 60 ∧ steps.length = ring.length ∧ (∀ n ∈ ps.drop 1 ++ ring, 1 ≤ n) ∧ (∀ n ∈ steps, 0 ≤ n) ∧ (∀ n ∈ ps ++ ring, n.natAbs + 2 ≤ 2 ^ P) ∧ ∀ n ∈ ring, ∀ m ∈ steps, n.natAbs + KM * m.natAbs + 2 ≤ 2 ^ P
  | _ => False
theorem LfI.kd {P KM : Nat} {r : R} (h : LfI P KM r) : r.kd = .leaf := by cases r <;> first | rfl | exact h.elim
structure Bgn4 (s a b c d : Int) : Prop where
  sg : Sg s
  i : Bgn s a c
  o : Bgn s (a + b) (c + d)
structure Bgn8 (s a b c d e f g h : Int) : Prop where
  sg : Sg s
  ii : Bgn s a e
  io : Bgn s (a + b) (e + f)
  oi : Bgn s (a + c) (e + g)
  oo : Bgn s (a + b + c + d) (e + f + g + h)
/-- r within bounds: whether it has told parts, what it told in short, how many bits it adds to P for each part of a leaf -/
inductive Gd (P KM : Nat) : R → Bool → Nat → Nat → Nat → Prop
  | fixed {t b bg k1 k0 β} : 2 * Ls k1 k0 t b + 8 ≤ 2 ^ β → 1 ≤ k1 → 1 ≤ k0 → k1 + k0 ≤ 2 ^ β → (bg = false → k1 = 1 ∧ k0 = 4) → (bg = true → ∃ s, Sg s ∧ Bgn s t b) → Gd P KM (.fixed t b bg) bg k1 k0 β
  | leaf {r bg k1 k0} : LfI P KM r → bg = decide (0 < r.tk) → 1 ≤ k1 → 1 ≤ k0 → k1 + k0 ≤ 2 ^ (P * r.tk + 3) → (bg = false → k1 = 1 ∧ k0 = 4) → Gd P KM r bg k1 k0 3
  | four {a b c d rdy bg x k1 k0 x1 x0 N ν β} : Gd P KM x rdy x1 x0 β → N < 2 ^ ν → 1 ≤ N → a * d ≠ b * c → 1 ≤ k1 → 1 ≤ k0 → (bg = false → k1 = 1 ∧ k0 = 4) → (rdy = false → bg = false ∧ Ls k1 k0 a c ≤ N ∧ Ls k1 k0 b d ≤ N) → (rdy = true → Ls k1 k0 a c ≤ N * x1 ∧ Ls k1 k0 (a + b) (c + d) ≤ N * (x1 + x0)) →
      (bg = true → k1 ≤ N * x1 ∧ k0 ≤ N * x1 + 1 ∧ ∃ s, Bgn4 s a b c d) → Gd P KM (.four a b c d rdy bg x) bg k1 k0 (β + ν + 3)
  | fourX {x t b bg k1 k0 β} : 2 * Ls k1 k0 t b + 8 ≤ 2 ^ (P * x.tk + β) → 3 ≤ β → 1 ≤ k1 → 1 ≤ k0 → k1 + k0 ≤ 2 ^ (P * x.tk + β) → (bg = false → k1 = 1 ∧ k0 = 4) → (bg = true → ∃ s, Sg s ∧ Bgn s t b) → Gd P KM (.fourX x t b bg) bg k1 k0 β
  | eight {a b c d e f g h m0 m1 bg x y k1 k0 x1 x0 y1 y0 N ν β γ} : Gd P KM x (decide (0 < m0)) x1 x0 β → Gd P KM y (decide (0 < m1)) y1 y0 γ → N < 2 ^ ν → 1 ≤ N → m1 ≤ m0 → m0 ≤ m1 + 1 → 1 ≤ k1 → 1 ≤ k0 → (bg = false → k1 = 1 ∧ k0 = 4) → (m1 = 0 → bg = false) →
      (m0 = 0 → Ls k1 k0 a e ≤ N ∧ Ls k1 k0 b f ≤ N ∧ Ls k1 k0 c g ≤ N ∧ Ls k1 k0 d h ≤ N) →
      (0 < m0 → m1 = 0 → Ls k1 k0 a e ≤ N * x1 ∧ Ls k1 k0 b f ≤ N * x1 ∧ Ls k1 k0 (a + c) (e + g) ≤ N * (x1 + x0) ∧ Ls k1 k0 (b + d) (f + h) ≤ N * (x1 + x0)) →
      (0 < m1 → Ls k1 k0 a e ≤ N * x1 * y1 ∧ Ls k1 k0 (a + b) (e + f) ≤ N * x1 * (y1 + y0) ∧ Ls k1 k0 (a + c) (e + g) ≤ N * (x1 + x0) * y1 ∧ Ls k1 k0 (a + b + c + d) (e + f + g + h) ≤ N * (x1 + x0) * (y1 + y0)) →
      (bg = true → k1 ≤ N * x1 * y1 ∧ k0 ≤ N * x1 * y1 + 1 ∧ ∃ s, Bgn8 s a b c d e f g h) → Gd P KM (.eight a b c d e f g h m0 m1 bg x y) bg k1 k0 (β + γ + ν + 3)
  | eightX {x y t b bg k1 k0 β} : 2 * Ls k1 k0 t b + 8 ≤ 2 ^ (P * (x.tk + y.tk) + β) → 3 ≤ β → 1 ≤ k1 → 1 ≤ k0 → k1 + k0 ≤ 2 ^ (P * (x.tk + y.tk) + β) → (bg = false → k1 = 1 ∧ k0 = 4) → (bg = true → ∃ s, Sg s ∧ Bgn s t b) → Gd P KM (.eightX x y t b bg) bg k1 k0 β
  | eightF {w dead fr bg k1 k0 β} : fr.kd = .four → 3 ≤ β → Gd P KM fr bg k1 k0 (P * dead.tk + β) → Gd P KM (.eightF w dead fr) bg k1 k0 β
theorem gs_pos {bg : Bool} {k1 k0 : Nat} {q : Int} (h1 : 1 ≤ k1) (h0 : 1 ≤ k0) (hq : bg = true → 1 ≤ q) : 1 ≤ (gs bg k1 k0 q).1 ∧ 1 ≤ (gs bg k1 k0 q).2 := by
  unfold gs
  cases bg with
  | true =>
    have h := hq rfl
    simp only [if_true]
    have := Nat.le_mul_of_pos_right k1 (show 0 < q.toNat by omega)
    omega
  | false =>
    simp only [Bool.false_eq_true, if_false]
    split <;> simp only <;> omega
/-- what a part leaves of a corner, in short -/
theorem gs_rem {bg : Bool} {k1 k0 : Nat} {t b q : Int} (hb : bg = false → k1 = 1 ∧ k0 = 4) (hq : bg = true → 1 ≤ q) (h : Rem t b q) : Ls (gs bg k1 k0 q).1 (gs bg k1 k0 q).2 b (t - q * b) ≤ Ls k1 k0 t b := by
  cases bg with
  | true => exact Nat.le_of_eq (gs_next (hq rfl) h)
  | false =>
    obtain ⟨rfl, rfl⟩ := hb rfl
    exact gs_first h
theorem gs_k {bg : Bool} {k1 k0 n : Nat} {t b q : Int} (h1 : 1 ≤ k1) (h0 : 1 ≤ k0) (hq : bg = true → 1 ≤ q) (h : Ls (gs bg k1 k0 q).1 (gs bg k1 k0 q).2 b (t - q * b) ≤ n) (b0 : b ≠ 0) (hk : bg = true → k1 ≤ n) : (gs bg k1 k0 q).1 ≤ n ∧ (gs bg k1 k0 q).2 ≤ n + 1 := by
  obtain ⟨g1, g2⟩ := gs_pos h1 h0 hq
  unfold Ls at h
  have := Nat.le_mul_of_pos_right (gs bg k1 k0 q).1 (show 0 < b.natAbs by omega)
  refine ⟨by omega, ?_⟩
  cases bg with
  | true => unfold gs; simp only [if_true]; have := hk rfl; omega
  | false => unfold gs; simp only [Bool.false_eq_true, if_false]; split <;> simp only <;> omega
theorem sg_of {b : Int} (h : b ≠ 0) : ∃ s, Sg s ∧ 0 < s * b := by
  rcases Int.lt_or_gt_of_ne h with z | z
  · exact ⟨-1, .inr rfl, by omega⟩
  · exact ⟨1, .inl rfl, by omega⟩
theorem Ls_lin {k1 k0 : Nat} {t b t' b' p : Int} {n m : Nat} (hp : 0 ≤ p) (h : Ls k1 k0 t b ≤ n) (h' : Ls k1 k0 t' b' ≤ m) : Ls k1 k0 (t * p + t') (b * p + b') ≤ p.toNat * n + m := by
  have h1 := Ls_add (k1 := k1) (k0 := k0) (t := t * p) (b := b * p) (t' := t') (b' := b')
  rw [Ls_mul] at h1
  have h2 := Nat.mul_le_mul_left p.natAbs h
  have : p.natAbs = p.toNat := by omega
  rw [this] at h1 h2
  omega
theorem Ls_lin' {k1 k0 : Nat} {t b t' b' p : Int} {n m : Nat} (h : Ls k1 k0 t b ≤ n) (h' : Ls k1 k0 t' b' ≤ m) : Ls k1 k0 (t * p + t') (b * p + b') ≤ p.natAbs * n + m := by
  have h1 := Ls_add (k1 := k1) (k0 := k0) (t := t * p) (b := b * p) (t' := t') (b' := b')
  rw [Ls_mul] at h1
  have h2 := Nat.mul_le_mul_left p.natAbs h
  omega
/-- the two corners in one chain's direction, behind a part of it -/
theorem two_in {k1 k0 M x1 x0 : Nat} {t b t' b' p : Int} (hp : 1 ≤ p) (h : Ls k1 k0 t b ≤ M * x1) (h' : Ls k1 k0 (t + t') (b + b') ≤ M * (x1 + x0)) :
    Ls k1 k0 (t * p + t') (b * p + b') ≤ M * (x1 * p.toNat + x0) ∧ Ls k1 k0 (t * p + t' + t) (b * p + b' + b) ≤ M * (x1 * p.toNat + x0 + x1) := by
  have e1 : t * p + t' = t * (p - 1) + (t + t') := by grind
  have e2 : b * p + b' = b * (p - 1) + (b + b') := by grind
  have e3 : t * p + t' + t = t * p + (t + t') := by grind
  have e4 : b * p + b' + b = b * p + (b + b') := by grind
  obtain ⟨n, rfl⟩ : ∃ n : Nat, p = (n : Int) + 1 := ⟨(p - 1).toNat, by omega⟩
  have q1 := Ls_lin (p := (n : Int) + 1 - 1) (by omega) h h'
  have q2 := Ls_lin (p := (n : Int) + 1) (by omega) h h'
  have t1 : ((n : Int) + 1 - 1).toNat = n := by omega
  have t2 : ((n : Int) + 1).toNat = n + 1 := by omega
  rw [t1] at q1
  rw [t2] at q2
  rw [e3, e4, e1, e2, t2]
  refine ⟨Nat.le_trans q1 (Nat.le_of_eq ?_), Nat.le_trans q2 (Nat.le_of_eq ?_)⟩ <;> grind
/-- .. the first part -/
theorem two_first {k1 k0 M : Nat} {t b t' b' p : Int} (h : Ls k1 k0 t b ≤ M) (h' : Ls k1 k0 t' b' ≤ M) : Ls k1 k0 (t * p + t') (b * p + b') ≤ M * (gs false 1 4 p).1 ∧ Ls k1 k0 (t * p + t' + t) (b * p + b' + b) ≤ M * ((gs false 1 4 p).1 + (gs false 1 4 p).2) := by
  have q1 := Ls_lin' (p := p) h h'
  have q2 := Ls_add (k1 := k1) (k0 := k0) (t := t * p + t') (b := b * p + b') (t' := t) (b' := b)
  have g1 : p.natAbs + 1 ≤ (gs false 1 4 p).1 := by unfold gs; simp only [Bool.false_eq_true, if_false]; split <;> simp only <;> omega
  have g2 : (gs false 1 4 p).2 = 1 := by unfold gs; simp only [Bool.false_eq_true, if_false]; split <;> rfl
  rw [g2]
  have g3 := Nat.mul_le_mul_left M g1
  have g4 : M * (p.natAbs + 1) = p.natAbs * M + M := by grind
  have g5 : M * ((gs false 1 4 p).1 + 1) = M * (gs false 1 4 p).1 + M := by grind
  omega
theorem gs_up {x1 x0 : Nat} {p : Int} (hp : 1 ≤ p) : (gs true x1 x0 p).1 = x1 * p.toNat + x0 ∧ (gs true x1 x0 p).2 = x1 ∧ x1 ≤ x1 * p.toNat + x0 := by
  refine ⟨by unfold gs; simp, by unfold gs; simp, ?_⟩
  have := Nat.le_mul_of_pos_right x1 (show 0 < p.toNat by omega)
  omega
/-- a four with the bounds of its inner reader in sight -/
structure G4 (a b c d : Int) (rdy bg : Bool) (k1 k0 x1 x0 N : Nat) : Prop where
  det : a * d ≠ b * c
  p1 : 1 ≤ k1
  p0 : 1 ≤ k0
  n1 : 1 ≤ N
  fst : bg = false → k1 = 1 ∧ k0 = 4
  off : rdy = false → bg = false ∧ Ls k1 k0 a c ≤ N ∧ Ls k1 k0 b d ≤ N
  on : rdy = true → Ls k1 k0 a c ≤ N * x1 ∧ Ls k1 k0 (a + b) (c + d) ≤ N * (x1 + x0)
  bgn : bg = true → k1 ≤ N * x1 ∧ k0 ≤ N * x1 + 1 ∧ ∃ s, Bgn4 s a b c d
theorem G4.take {a b c d p : Int} {rdy bg : Bool} {k1 k0 x1 x0 N : Nat} (g : G4 a b c d rdy bg k1 k0 x1 x0 N) (hp : rdy = true → 1 ≤ p) (hx : rdy = false → x1 = 1 ∧ x0 = 4) : G4 (a * p + b) a (c * p + d) c true bg k1 k0 (gs rdy x1 x0 p).1 (gs rdy x1 x0 p).2 N := by
  obtain ⟨det, p1, p0, n1, fst, off, on, bgn⟩ := g
  have hdet : (a * p + b) * c ≠ a * (c * p + d) := by
    have : (a * p + b) * c - a * (c * p + d) = -(a * d - b * c) := by grind
    omega
  cases rdy with
  | false =>
    obtain ⟨hb, o1, o2⟩ := off rfl
    obtain ⟨e1, e2⟩ := hx rfl
    subst e1 e2
    obtain ⟨q1, q2⟩ := two_first (p := p) o1 o2
    exact ⟨hdet, p1, p0, n1, fst, fun z => (by cases z), fun _ => ⟨q1, q2⟩, fun z => by rw [hb] at z; cases z⟩
  | true =>
    obtain ⟨o1, o2⟩ := on rfl
    have hp1 := hp rfl
    obtain ⟨u1, u2, u3⟩ := gs_up (x1 := x1) (x0 := x0) hp1
    rw [u1, u2]
    obtain ⟨q1, q2⟩ := two_in hp1 o1 o2
    refine ⟨hdet, p1, p0, n1, fst, fun z => (by cases z), fun _ => ⟨q1, q2⟩, fun z => ?_⟩
    obtain ⟨b1, b2, s, b3⟩ := bgn z
    have := Nat.mul_le_mul_left N u3
    refine ⟨by omega, by omega, s, b3.sg, ?_, ?_⟩
    · have e1 : a * p + b = a * (p - 1) + (a + b) := by grind
      have e2 : c * p + d = c * (p - 1) + (c + d) := by grind
      rw [e1, e2]
      exact Bgn.muladd (by omega) b3.i b3.o
    · have e3 : a * p + b + a = a * p + (a + b) := by grind
      have e4 : c * p + d + c = c * p + (c + d) := by grind
      rw [e3, e4]
      exact Bgn.muladd (by omega) b3.i b3.o
end PL
namespace PL
section
variable {P KM : Nat}
/-- a plain fraction's next part -/
structure Fx (t b : Int) (bg : Bool) (k1 k0 E : Nat) : Prop where
  sz : 2 * Ls k1 k0 t b + 8 ≤ E
  p1 : 1 ≤ k1
  p0 : 1 ≤ k0
  ks : k1 + k0 ≤ E
  fst : bg = false → k1 = 1 ∧ k0 = 4
  bgn : bg = true → ∃ s, Sg s ∧ Bgn s t b
theorem Fx.rem {t b : Int} (b0 : b ≠ 0) : Rem t b (t.fdiv b) := by
  refine ⟨b0, ?_, ?_⟩ <;> rw [sub_fdiv]
  · rcases Int.lt_or_gt_of_ne b0 with z | z
    · exact Int.mul_nonneg_of_nonpos_of_nonpos (fmod_neg' z).2 (by omega)
    · exact Int.mul_nonneg (Int.fmod_nonneg_of_pos _ z) (by omega)
  · rcases Int.lt_or_gt_of_ne b0 with z | z
    · exact Int.mul_le_mul_of_nonpos_right (by have := (fmod_neg' (t := t) z).1; omega) (by omega)
    · exact Int.mul_le_mul_of_nonneg_right (by have := Int.fmod_lt_of_pos t z; omega) (by omega)
theorem Fx.next {t b : Int} {bg : Bool} {k1 k0 E : Nat} (h : Fx t b bg k1 k0 E) (b0 : b ≠ 0) : (bg = true → 1 ≤ t.fdiv b) ∧ Fx b (t - t.fdiv b * b) true (gs bg k1 k0 (t.fdiv b)).1 (gs bg k1 k0 (t.fdiv b)).2 E := by
  obtain ⟨sz, p1, p0, ks, fst, bgn⟩ := h
  have rm := Fx.rem (t := t) b0
  have hq : bg = true → 1 ≤ t.fdiv b := fun z => by
    obtain ⟨s, hs, hb⟩ := bgn z
    exact hb.floor hs b0
  have l1 := gs_rem fst hq rm
  have hk : bg = true → k1 ≤ Ls k1 k0 t b := fun z => by
    obtain ⟨s, hs, hb⟩ := bgn z
    have h3 := hb.ps
    have : t ≠ 0 := fun e => by rw [e, Int.mul_zero] at h3; omega
    unfold Ls
    have := Nat.le_mul_of_pos_right k1 (show 0 < t.natAbs by omega)
    omega
  obtain ⟨q1, q2⟩ := gs_k p1 p0 hq l1 b0 hk
  obtain ⟨q3, q4⟩ := gs_pos p1 p0 hq
  refine ⟨hq, by omega, q3, q4, by omega, (fun z => by cases z), fun _ => ?_⟩
  obtain ⟨s, hs, hp⟩ := sg_of b0
  exact ⟨s, hs, rm.bgn hs hp⟩
/-- one asking, and what holds behind a part -/
inductive On (P KM : Nat) (S : R → Nat → Nat → Nat → Prop) : R → Bool → Nat → Nat → Nat → Nat → Prop
  | part {n r r' bg k1 k0 β q} {m m' : Nat} : Told n r m r' m' (.part q) → (bg = true → 1 ≤ q) → Gd P KM r' true (gs bg k1 k0 q).1 (gs bg k1 k0 q).2 β → S r' (gs bg k1 k0 q).1 (gs bg k1 k0 q).2 m' → r'.tk + m' = r.tk + m → On P KM S r bg k1 k0 β m
  | waits {n r r' bg k1 k0 β} {m : Nat} : Told n r m r' 0 .waits → Gd P KM r' bg k1 k0 β → r'.tk = r.tk + m → On P KM S r bg k1 k0 β m
  | fin {n r r' bg k1 k0 β} {m m' : Nat} : bg = true → Told n r m r' m' .fin → Gd P KM r' bg k1 k0 β → r'.tk + m' = r.tk + m → On P KM S r bg k1 k0 β m
  | none {n r r' bg k1 k0 β} {m m' : Nat} : bg = false → Told n r m r' m' .none → Gd P KM r' bg k1 k0 β → r'.tk + m' = r.tk + m → On P KM S r bg k1 k0 β m
theorem On.imp {S S' : R → Nat → Nat → Nat → Prop} {r : R} {bg : Bool} {k1 k0 β m : Nat} (o : On P KM S r bg k1 k0 β m) (h : ∀ r' a b m', S r' a b m' → S' r' a b m') : On P KM S' r bg k1 k0 β m := by
  cases o with
  | part h1 h2 h3 h4 h5 => exact .part h1 h2 h3 (h _ _ _ _ h4) h5
  | waits h1 h2 h3 => exact .waits h1 h2 h3
  | fin h0 h1 h2 h3 => exact .fin h0 h1 h2 h3
  | none h0 h1 h2 h3 => exact .none h0 h1 h2 h3
end
end PL
namespace PL
open PySem PySem.Spec PyProof.Rows L2
section
variable {X : Cx} {ca : CA} {W : WX} {pos pos' np : Pos} {x n : Str} {cv : Value} {body suite : List Stmt} {b0 : Stmt} {tb : WX → TS} {rb : ATS} {tsu : TS} {rsu : ATS}
/-- a wish of an exception that nothing is asked of -/
theorem any_takes (hs : X.stack = X.env :: X.outer) (hf : X.env.frame = some X.env.locals) (W : WX) : ∃ xe, Takes (X.tr [] xe) W ∧ PassesOwn (model X.prog X.w) X.A X.env xe := by
  refine ⟨fun e s => wpAny (model X.prog X.w) X.A (noteFrame e X.env) (fun _ s2 => wpAny (model X.prog X.w) X.A (setFlight e none) (fun _ _ => True) (fun _ _ => True) s2) (fun _ _ => True) s, fun u s' xx => ?_, PassesOwn.looking⟩
  obtain ⟨a, B, sI, pins', σ', H', cls, d, rfl, J', nb, up, sky, na, os, ag, w⟩ := xx
  have hfr : X.A.frames = some (X.env :: X.outer) := by rw [J'.ok.frames.symm.symm]; exact congrArg some hs
  have sky' : Sky B (X.env :: X.outer) a (Zc cls d) X.env.locals s'.heap := by rw [← hs]; exact sky
  show wpAny (model X.prog X.w) X.A (noteFrame (.ref a) X.env) (fun _ s2 => wpAny (model X.prog X.w) X.A (setFlight (.ref a) none) (fun _ _ => True) (fun _ _ => True) s2) (fun _ _ => True) s'
  refine Sky.land Zc.steady hfr hf sky' fun h3 fl3 up3 => ?_
  exact True.intro
def aTry (c : Value → Option Bool) (b h : ATS) : ATS := fun Wa Da ρ Ω => b (fun cls ρ' Ω' => ∃ k, c cls = some k ∧ if k = true then h Wa Da ρ' Ω' else Wa cls ρ' Ω') Da ρ Ω
end
end PL
namespace PL
open PySem L2
section
variable {X : Cx} {ca : CA} {W : WX} {a b e : Expr} {ta tb te : TE} {ra rb re : ATE} {pos p p2 : Pos} {ts : TS} {rs : ATS}
def pairD (xs ys : List D) : List D := List.zipWith (fun x y => .tup [x, y]) xs ys
def aForZip (ra rb : ATE) (g : AG) (b : ATS) : ATS := fun Wa Da ρ Ω => ra Wa ρ Ω fun d Ω1 => rb Wa ρ Ω1 fun d2 Ω2 => ∃ xs ys, d = .lst xs ∧ d2 = .lst ys ∧ xs.length = ys.length ∧ forL g b (pairD xs ys) Wa Da ρ Ω2
/-- [elt for (..) in zip(xs, ys)] -/
def aLcZip (ra rb : ATE) (g : AG) (re : ATE) (vs : List Nat) : ATE := fun Wa ρ Ω Q => ra Wa ρ Ω fun d Ω1 => rb Wa ρ Ω1 fun d2 Ω2 => ∃ xs ys, d = .lst xs ∧ d2 = .lst ys ∧ xs.length = ys.length ∧ compL g aYes re vs (pairD xs ys) [] Wa0 ρ Ω2 Q
end
end PL
namespace PL
open PySem L2
theorem ASs.cast {X : Cx} {ca : CA} {W : WX} {l : List Stmt} {ts ts' : TS} {rs rs' : ATS} (h : ASs X ca W l ts' rs') (h1 : ts' = ts) (h2 : rs' = rs) : ASs X ca W l ts rs := h2 ▸ h1 ▸ h
instance seer_tr {X : Cx} {pn : List (Addr × Obj)} {xe : Value → Shared → Prop} [sr : Seer X.prog X.base] : Seer (X.tr pn xe).prog (X.tr pn xe).base := sr
end PL
namespace PL
open PySem L2
def forO (a : Addr) (ns : List Int) (g : AG) (b : ATS) : List Int → ATS
  | [], _, Da, ρ, Ω => Ω a = some (.lst (ns.map D.int)) ∧ Da.nx ρ Ω
  | x :: xs, Wa, Da, ρ, Ω => Ω a = some (.lst (ns.map D.int)) ∧ g (.int x) ρ Ω fun ρ1 Ω1 => b Wa { Da with nx := forO a ns g b xs Wa Da, ct := forO a ns g b xs Wa Da, bk := Da.nx } ρ1 Ω1
def aForO (ra : ATE) (g : AG) (b : ATS) : ATS := fun Wa Da ρ Ω => ra Wa ρ Ω fun d Ω1 => ∃ a ns, d = .o a ∧ forO a ns g b ns Wa Da ρ Ω1
end PL
namespace PL
open PySem PySem.Spec PyProof.Rows L2
section
variable {X : Cx} {ca : CA} {W : WX} {a b e : Expr} {ta tb te : TE} {ra rb re : ATE} {pos p p2 : Pos} {ts : TS} {rs : ATS}
/-- for x, y in zip(a tuple, a list) -/
def aForZipM (ra rb : ATE) (g : AG) (b : ATS) : ATS := fun Wa Da ρ Ω => ra Wa ρ Ω fun d Ω1 => rb Wa ρ Ω1 fun d2 Ω2 => ∃ xs ys, d = .tup xs ∧ d2 = .lst ys ∧ xs.length = ys.length ∧ forL g b (pairD xs ys) Wa Da ρ Ω2
end
section
variable {X : Cx} {ca : CA} {W : WX} {a b : Expr} {ta tb : TE} {ra rb : ATE} {pos : Pos}
def fInD (neg : Bool) : D → D → Om → AQ → Prop := fun x y Ω Q => ∃ (ys : List D) (p : PyData) (ps : List PyData), y = .lst ys ∧ x.py = some p ∧ D.pys ys = some ps ∧ SeqAt.shaped p = true ∧ SeqAt.shaped (.list ps) = true ∧ Q (.bl (if neg then !(ps.any fun z => PyData.eqv z p) else ps.any fun z => PyData.eqv z p)) Ω
def aInD := aOp (fInD false)
def aNotInD := aOp (fInD true)
end
end PL
namespace PySem.W
open PySem
theorem kit_ref {K : Frag} {R C : Addr} {b : Bool} (h : subIn K (.ref R) (.ref C) = some b) (hs : subIn K (.ref R) (.ref R) = some true) (hd : hasDictIn K C = true) (ty : typeIn K (.ref C) = some (.type "type")) : kitOne K (.ref R) (.ref C) = some b := by
  obtain ⟨cd, hc, _⟩ := any_some hd
  unfold kitOne
  by_cases e : (Value.ref R == Value.ref C) = true
  · rw [if_pos e]
    have e' : R = C := Value.ref.inj (beq_iff_eq.mp e)
    subst e'
    rw [hs] at h
    exact h
  · rw [if_neg e]
    have e2 : ((clsIn K C).isSome && typeIn K (.ref C) == some (.type "type")) = true := by rw [hc, ty] <;> rfl
    show (if ((clsIn K C).isSome && typeIn K (.ref C) == some (.type "type")) = true then subIn K (.ref R) (.ref C) else none) = some b
    rw [if_pos e2]
    exact h
theorem kit_typ {K : Frag} {R : Addr} {T : String} {b : Bool} (h : subIn K (.ref R) (.type T) = some b) (hm : kitMeta T = true) : kitOne K (.ref R) (.type T) = some b := by
  unfold kitOne
  have e : ¬ (Value.ref R == Value.type T) = true := by intro z; have := beq_iff_eq.mp z; cases this
  rw [if_neg e]
  show (if kitMeta T = true then subIn K (.ref R) (.type T) else none) = some b
  rw [if_pos hm]
  exact h
end PySem.W
namespace PL
open PySem PySem.Spec PyProof.Rows L2
theorem boot_ty_ValueError : bootBuiltins "ValueError" = some (.type "ValueError") := by decide +kernel
theorem meta_ValueError : PySem.W.kitMeta "ValueError" = true := by decide +kernel
theorem pe_gR {X : Cx} {x : Str} {i : Addr} {pos : Pos} (hg : Gl X x) (hm : X.mg x = some (.ref i)) (hd : (x == ("__debug__" : Str)) = false := by decide) : PE X (.Name x pos) (tC (.ref i)) := pe_glob hg hm rfl hd
theorem pe_gT {X : Cx} {x : Str} {Tn : String} {pos : Pos} (hg : Gl X x) (hm : X.mg x = none) (hv : bootBuiltins x = some (.type Tn)) (hn : x ≠ "__name__" := by decide) (hd : (x == ("__debug__" : Str)) = false := by decide) : PE X (.Name x pos) (tC (.ty Tn)) := pe_bltn hg hm hv rfl hn hd
section
variable {X : Cx} {ca : CA} {W : WX} {pos pos' np p p2 : Pos} {a : Addr} {oe : Obj} {cls : Value} {pn : List (Addr × Obj)} {e e1 e2 : Expr} {te : TE} {re : ATE}
def rE1 (K : PySem.W.Frag) (cls : Value) (a : Addr) : List V → Hp → VK → Prop := fun xs H Q => ∃ D, cls = .ref D ∧ ExcC K D ∧ rIsE K D a xs H Q
theorem call_E1 (hz : Zc cls none oe) (hf : ∃ vs, oe.data = .fields vs) : CallR (X.suite a ((a, oe) :: pn)) (.builtin "isinstance") (rE1 X.K cls a) := by
  intro pins s σ H xs us Q I r h
  obtain ⟨D, rfl, C, h⟩ := h
  exact call_isE C hz hf pins s σ H xs us Q I r h
/-- .. a tuple of classes that was just laid -/
def rET (K : PySem.W.Frag) (cls : Value) (a : Addr) : List V → Hp → VK → Prop := fun xs H Q => ∃ D tp cs us b, cls = .ref D ∧ ExcC K D ∧ xs = [.ref a, .ref tp] ∧ H tp = some (.tup cs) ∧ Paired ClsV cs us ∧ PySem.W.kitAny K (.ref D) us = some b ∧ Q (.bl b) H
theorem call_ET (hz : Zc cls none oe) (hf : ∃ vs, oe.data = .fields vs) : CallR (X.suite a ((a, oe) :: pn)) (.builtin "isinstance") (rET X.K cls a) := by
  intro pins s σ H xs us Q I r h
  obtain ⟨D, tp, cs, ws, b, rfl, C, rfl, hT, k, e, q⟩ := h
  obtain ⟨u1, u2, rfl, r1, r2⟩ := vals2 r
  cases (show u1 = Value.ref a from r1)
  cases (show u2 = Value.ref tp from r2)
  obtain ⟨_, its, rv, o, h1, h2, n, h3⟩ := (show ObjOk X.prog X.w H s.heap tp (.tup cs) from I.hok tp _ hT)
  have e3 := ClsV.all k rv
  subst e3
  obtain ⟨oc, od, dt, sl⟩ := o
  simp only at h2 h3
  subst h2 h3
  obtain ⟨hget, _⟩ := I.pin (a, oe) (List.mem_append.mpr (.inl List.mem_cons_self))
  obtain ⟨vs, hv⟩ := hf
  have J : PySem.W.InstAt s.heap a oe D none := by
    obtain ⟨oc, od, oda, osl⟩ := oe
    obtain ⟨h1, h2⟩ := hz
    dsimp only at h1 h2 hv
    subst h1 h2 hv
    exact ⟨hget, rfl, rfl, trivial⟩
  exact PySem.W.kia_tup (PySem.W.handS_kitx_exc C.hg C.hk C.hs C.hd C.ha C.hn C.ht C.hm) I.kIn J h1 e (fun z => nomatch z) fun tk => ⟨.bl b, H, I.tok tk, rfl, q⟩
def aIsE (K : PySem.W.Frag) (cls : Value) (a : Addr) (cv : Value) (re : ATE) : ATE := fun Wa ρ Ω Q => re Wa ρ Ω fun x Ω1 => x = .o a ∧ ∃ D b, cls = .ref D ∧ ExcC K D ∧ PySem.W.kitOne K (.ref D) cv = some b ∧ Q (.bl b) Ω1
def aIsET (K : PySem.W.Frag) (cls : Value) (a : Addr) (cvs : List Value) (re : ATE) : ATE := fun Wa ρ Ω Q => re Wa ρ Ω fun x Ω1 => x = .o a ∧ ∃ D b, cls = .ref D ∧ ExcC K D ∧ PySem.W.kitAny K (.ref D) cvs = some b ∧ Q (.bl b) Ω1
theorem ae_isE {vc : V} {cv : Value} (hz : Zc cls none oe) (hf : ∃ vs, oe.data = .fields vs) (hg : Gl (X.suite a ((a, oe) :: pn)) "isinstance") (hm : X.mg "isinstance" = none) (ha : AE (X.suite a ((a, oe) :: pn)) ca W e te re) (hc : PE (X.suite a ((a, oe) :: pn)) e2 (tC vc)) (kc : ClsV vc cv)
    (hs : starEach [e, e2] (X.suite a ((a, oe) :: pn)).env = (false, eval e (X.suite a ((a, oe) :: pn)).env) :: starEach [e2] (X.suite a ((a, oe) :: pn)).env := by rfl) (hpl : (backTo pos (starEach [e2] (X.suite a ((a, oe) :: pn)).env)).any (·.1) = false := by rfl) (hs2 : starEach [e2] (X.suite a ((a, oe) :: pn)).env = (false, eval e2 (X.suite a ((a, oe) :: pn)).env) :: starEach [] (X.suite a ((a, oe) :: pn)).env := by rfl) :
    AE (X.suite a ((a, oe) :: pn)) ca W (.Call (.Name "isinstance" p) [e, e2] [] pos) (tCB (rE1 X.K cls a) (tCons te (tCons (tC vc) tNil))) (aIsE X.K cls a cv re) :=
  ⟨pe_callB (call_E1 hz hf) hg hm boot_isi (pa_cons ha.pe (pa_cons hc pa_nil hs2) hs) (by decide) (by decide) hs hpl, fun σ H G own ρ Ω Wa Qa Qc r s h k kx => ha.sim σ H G own ρ Ω Wa _ _ r s h (fun v H1 G1 own1 d Ω1 e1 r1 dv1 q1 => by
    obtain ⟨rfl, D, b, rfl, C, hb, q⟩ := q1
    cases dv1
    exact ⟨D, rfl, C, vc, cv, b, rfl, fun u hu => kc.eq hu, hb, k _ _ _ _ _ _ e1 r1 (.bl b) q⟩) kx⟩
theorem ae_isET {v1 v2 : V} {c1 c2 : Value} {x1 : Nat} {tp : Pos} (hz : Zc cls none oe) (hf : ∃ vs, oe.data = .fields vs) (hg : Gl (X.suite a ((a, oe) :: pn)) "isinstance") (hm : X.mg "isinstance" = none) (ha : AE (X.suite a ((a, oe) :: pn)) ca W e te re) (hc1 : PE (X.suite a ((a, oe) :: pn)) e1 (tC v1)) (kc1 : ClsV v1 c1) (hc2 : PE (X.suite a ((a, oe) :: pn)) e2 (tC v2)) (kc2 : ClsV v2 c2)
    (hs1 : starEach [e1, e2] (X.suite a ((a, oe) :: pn)).env = (false, eval e1 (X.suite a ((a, oe) :: pn)).env) :: starEach [e2] (X.suite a ((a, oe) :: pn)).env := by rfl) (hs2 : starEach [e2] (X.suite a ((a, oe) :: pn)).env = (false, eval e2 (X.suite a ((a, oe) :: pn)).env) :: starEach [] (X.suite a ((a, oe) :: pn)).env := by rfl)
    (hs : starEach [e, .Tuple [e1, e2] x1 tp] (X.suite a ((a, oe) :: pn)).env = (false, eval e (X.suite a ((a, oe) :: pn)).env) :: starEach [.Tuple [e1, e2] x1 tp] (X.suite a ((a, oe) :: pn)).env := by rfl) (hpl : (backTo pos (starEach [.Tuple [e1, e2] x1 tp] (X.suite a ((a, oe) :: pn)).env)).any (·.1) = false := by rfl) (hs3 : starEach [.Tuple [e1, e2] x1 tp] (X.suite a ((a, oe) :: pn)).env = (false, eval (.Tuple [e1, e2] x1 tp) (X.suite a ((a, oe) :: pn)).env) :: starEach [] (X.suite a ((a, oe) :: pn)).env := by rfl) :
    AE (X.suite a ((a, oe) :: pn)) ca W (.Call (.Name "isinstance" p) [e, .Tuple [e1, e2] x1 tp] [] pos) (tCB (rET X.K cls a) (tCons te (tCons (tTup (tCons (tC v1) (tCons (tC v2) tNil))) tNil))) (aIsET X.K cls a [c1, c2] re) :=
  ⟨pe_callB (call_ET hz hf) hg hm boot_isi (pa_cons ha.pe (pa_cons (pe_tup (pa_cons hc1 (pa_cons hc2 pa_nil hs2) hs1)) pa_nil hs3) hs) (by decide) (by decide) hs hpl, fun σ H G own ρ Ω Wa Qa Qc r s h k kx => ha.sim σ H G own ρ Ω Wa _ _ r s h (fun v H1 G1 own1 d Ω1 e1 r1 dv1 q1 => by
    obtain ⟨rfl, D, b, rfl, C, hb, q⟩ := q1
    cases dv1
    refine ⟨by rw [sizeLine_eq]; show 2 ≤ _; decide, fun p hp => ?_⟩
    obtain ⟨r2, e2'⟩ := r1.data (u := .tup [v1, v2]) hp
    exact ⟨D, p, [v1, v2], [c1, c2], b, rfl, C, rfl, upd_same, .cons kc1 (.cons kc2 .nil), hb, k _ _ _ _ _ _ (e1.trans (stp_data e2' hp)) r2 (.bl b) q⟩) kx⟩
end
section
variable {X : Cx} {ca : CA} {W : WX} {pos pos' np : Pos} {x n : Str} {cv : Value} {i : Nat} {body suite : List Stmt} {b0 : Stmt} {tb : WX → TS} {rb : ATS} {tsu : Addr → Value → TS} {rsu : Addr → Value → ATS}
def aTryAs (c : Value → Option Bool) (i : Nat) (b : ATS) (h : Addr → Value → ATS) : ATS := fun Wa Da ρ Ω => b (fun cls ρ' Ω' => ∃ k, c cls = some k ∧ if k = true then (∀ a, Ω' a = none → h a cls Wa ⟨fun ρ Ω => Da.nx (ρ.set i none) Ω, Da.rt, fun ρ Ω => Da.bk (ρ.set i none) Ω, fun ρ Ω => Da.ct (ρ.set i none) Ω⟩ (ρ'.set i (some (.o a))) Ω') else Wa cls ρ' Ω') Da ρ Ω
theorem as_tryAs (hs : X.stack = X.env :: X.outer) (hf : X.env.frame = some X.env.locals) (hN : X.N.Nodup) (hi : X.N[i]? = some n) (hln : X.env.kindOf n = some .local) (hc : Names X x cv) (tk : Takes X W)
    (hb : ∀ (W' : WX) (pn : List (Addr × Obj)) (xe : Value → Shared → Prop), Takes (X.tr pn xe) W' → PassesOwn (model X.prog X.w) X.A X.env xe → ASs (X.tr pn xe) ca W' body (tb W') rb)
    (hsu : ∀ (a : Addr) (oe : Obj) (cls : Value) (pn : List (Addr × Obj)), Zc cls none oe → (∃ vs, oe.data = .fields vs) → ASs (X.suite a ((a, oe) :: pn)) ca W (b0 :: suite) (tsu a cls) (rsu a cls)) :
    AS X ca W (.Try body [.ExceptHandler (some (.Name x np)) (some n) (b0 :: suite) pos'] [] [] pos) (fun D σ H => tb (wAs X.K cv i (fun a cls d D σ H => d = none ∧ tsu a cls D σ H) W D) D σ H) (aTryAs (fun cls => PySem.W.exmOne X.K cls cv) i rb rsu) := by
  refine ⟨ps_try_as hs hf hN hi hln hc tk (fun W' pn xe h1 h2 => (hb W' pn xe h1 h2).pe) (fun a oe cls d pn hz hd => ⟨fun pins s σ H D I h => ?_⟩), fun σ H G own ρ Ω Wa Da Dc r s h k => ?_⟩
  · obtain ⟨rfl, h⟩ := h
    exact (hsu a oe cls pn hz hd).pe.run pins s σ H D I h
  obtain ⟨xe, h1, h2⟩ := any_takes (W := wAs X.K cv i (fun a cls d D σ H => d = none ∧ tsu a cls D σ H) W Dc) hs hf
  refine (hb _ [] xe h1 h2).sim σ H G own ρ Ω _ Da Dc r s h ⟨k.nx, k.rt, k.bk, k.ct, fun cls σ' H' G' own' ρ' Ω' e r' s' q => ?_⟩
  obtain ⟨b, hb', q⟩ := q
  refine ⟨b, hb', fun e1 a ha => ?_, fun e1 => ?_⟩
  · subst e1
    refine ⟨rfl, ?_⟩
    exact (hsu a ⟨cls, none, .fields #[], #[]⟩ cls [] ⟨rfl, rfl⟩ ⟨_, rfl⟩).sim (σ'.set i (some (.ref a))) H' G' own' (ρ'.set i (some (.o a))) Ω' Wa _ _ r' (s'.set i (.o a)) (q a (r'.fresh ha))
      ⟨fun σ2 H2 G2 own2 ρ2 Ω2 e2 r2 s2 q2 => k.nx _ _ _ _ _ _ (e.trans e2) r2 (s2.drop i none) q2, fun _ _ _ _ _ _ e2 => k.rt _ _ _ _ _ _ (e.trans e2),
        fun σ2 H2 G2 own2 ρ2 Ω2 e2 r2 s2 q2 => k.bk _ _ _ _ _ _ (e.trans e2) r2 (s2.drop i none) q2, fun σ2 H2 G2 own2 ρ2 Ω2 e2 r2 s2 q2 => k.ct _ _ _ _ _ _ (e.trans e2) r2 (s2.drop i none) q2,
        fun _ _ _ _ _ _ _ e2 => k.ex _ _ _ _ _ _ _ (e.trans e2)⟩
  · subst e1
    exact k.ex _ _ _ _ _ _ _ e r' s' q
end
section
variable {X : Cx} {ca : CA} {es : List Expr} {pos : Pos}
def agTupL (n : Nat) (is : List Nat) : AG := fun d ρ Ω Q => ∃ xs, d = .lst xs ∧ xs.length = n ∧ is.length = n ∧ Q (setAll ρ is xs) Ω
end
end PL
namespace PL
open PySem L2
def valD : List (Key × D) → Key → Option D
  | [], _ => none
  | p :: r, k => if p.1 = k then some p.2 else valD r k
def putD : List (Key × D) → Key → D → List (Key × D)
  | [], k, v => [(k, v)]
  | p :: r, k, v => if p.1 = k then (p.1, v) :: r.map (fun kv => if kv.1 = k then (kv.1, v) else kv) else p :: putD r k v
section
variable {K : PySem.W.Frag} {G : Hp}
theorem KVs.len {l : List (Key × V)} {m : List (Key × D)} (h : KVs K G l m) : l.length = m.length := Paired.length h
theorem KVs.val {l : List (Key × V)} {m : List (Key × D)} (h : KVs K G l m) {k : Key} {d : D} (e : valD m k = some d) : ∃ v, valV l k = some v ∧ DV K G v d := by
  unfold KVs at h
  induction h with
  | nil => cases e
  | @cons p q l m h t ih =>
    simp only [valD] at e
    by_cases c : q.1 = k
    · rw [if_pos c] at e
      cases e
      exact ⟨p.2, valV_pos (h.1.trans c), h.2⟩
    · rw [if_neg c] at e
      obtain ⟨v, h1, h2⟩ := ih e
      exact ⟨v, by rw [valV_neg (fun z => c (h.1.symm.trans z))]; exact h1, h2⟩
end
section
variable {X : Cx} {ca : CA} {W : WX} {o i e v : Expr} {pos pos' : Pos} {td ty tv : TE} {rd ry rv : ATE}
/-- d[k] -/
def aDGet (rd ry : ATE) : ATE := fun Wa ρ Ω Q => rd Wa ρ Ω fun x Ω1 => ry Wa ρ Ω1 fun y Ω2 => ∃ a m k d, x = .o a ∧ Ω2 a = some (.dic m) ∧ y = .str k ∧ valD m (.inr k) = some d ∧ Q d Ω2
/-- d[k] = v -/
def aDPut (rd ry rv : ATE) : ATS := fun Wa Da ρ Ω => rv Wa ρ Ω fun z Ω1 => rd Wa ρ Ω1 fun x Ω2 => ry Wa ρ Ω2 fun y Ω3 => ∃ a m k, x = .o a ∧ Ω3 a = some (.dic m) ∧ y = .str k ∧ m.length < 1000 ∧ Da.nx ρ (oset Ω3 a (.dic (putD m (.inr k) z)))
def aDisp (ks : List Str) (rr : ATA) : ATE := fun Wa ρ Ω Q => rr Wa ρ Ω fun ds Ω1 => ∀ p, Ω1 p = none → Q (.o p) (oset Ω1 p (.dic ((ks.map Sum.inr).zip ds)))
end
end PL
namespace PL
open PySem PySem.Spec PyProof.Rows L2
theorem tuple_mul1 (l : Addr) (items : Array Value) (n : Nat) (dd : Option Addr) (sl : Array (Option Value)) (u : Tok) :
    Meets (Builtin.«tuple.__mul__» ⟨[.ref l, .int 1 u], []⟩) (fun _ R s => s.heap.get? l = some { cls := .type "tuple", dict := dd, data := .seq items n, slots := sl } ∧ R (.ok (.ret (Value.ref l))) s) :=
  .of_wp fun prog w A R s h => by
    obtain ⟨hp, g, d, tk, os⟩ := s
    obtain ⟨hl, h⟩ := h
    have f1 := AutoSeq1.idx_int
    have c1 : (items.isEmpty || (1 : Int) == 1) = true := by simp
    wp_walk using wpAny_loadPart' hl
    repeat (first
      | (refine wpAny_ite_false (decide_eq_false (by decide)) ?_; wp_walk using wpAny_loadPart' hl)
      | (refine wpAny_ite_true (decide_eq_true c1) ?_; wp_walk using wpAny_loadPart' hl))
    exact ⟨_, rfl, h⟩
def rRepTA (K : PySem.W.Frag) : R2 := fun x y H Q => ∃ l k xs, x = .ref l ∧ y = .int k ∧ SqT K H l xs ∧ xs ≠ [] ∧ 1 ≤ k ∧ k ≤ 1000 ∧ xs.length ≤ 1000 ∧ (k = 1 → Q (.ref l) H) ∧ (2 ≤ k → ∀ p, H p = none → Q (.ref p) (upd H p (.tup (List.replicate k.toNat xs).flatten)))
section
variable {X : Cx} {ca : CA} {W : WX} {a b : Expr} {pos : Pos} {ta tb : TE} {ra rb : ATE}
theorem op_repTA : OpR X (binaryOp .Mult) (rRepTA X.K) := by
  intro pins s σ H x y v u Q I rx ry h
  obtain ⟨l, k, xs, e1, e2, hT, hne, h1, h2, hz, q1, q2⟩ := h
  by_cases hk : k = 1
  · subst e1 e2 hk
    cases rx
    obtain ⟨t, rfl⟩ := ry
    obtain ⟨its, r, ⟨⟨cls, dd, data, sl⟩, ho, hc, n, hd⟩, hs⟩ := I.tuple hT
    simp only at hc hd
    subst hc hd
    refine wpAny_binaryOp_repeat_ref (T := "tuple") (U := "int") (by decide) ⟨_, ho, rfl⟩ (fun s' => typeIs_int s' 1 t) noFill_tuple_mul F.fills_int_mul F.slot_int_rmul repeat_tuple F.slot_int_index.lookup
      (call_meets F.slot_int_rmul (typeIs_int s 1 t) F.entry_int_rmul (F.args_int_rmul_2 _ _) (int_rmul_tuple 1 t l its.toArray n dd sl)
        ⟨ho, rfl, ⟨_, ho, rfl⟩, call_meets F.slot_tuple_mul ⟨_, ho, rfl⟩ F.entry_tuple_mul (F.args_tuple_mul_2 _ _) (tuple_mul1 l its.toArray n dd sl t) ⟨ho, ?_⟩⟩)
    exact ⟨.ref l, H, I, rfl, q1 rfl⟩
  · exact op_repT pins s σ H x y v u Q I rx ry ⟨l, k, xs, e1, e2, hT, hne, by omega, h2, hz, q2 (by omega)⟩
theorem DVs.rep {K : PySem.W.Frag} {G : Hp} {vs : List V} {ds : List D} (h : DVs K G vs ds) : ∀ n : Nat, DVs K G (List.replicate n vs).flatten (List.replicate n ds).flatten
  | 0 => .nil
  | n + 1 => by
    rw [List.replicate_succ, List.replicate_succ, List.flatten_cons, List.flatten_cons]
    exact h.append (DVs.rep h n)
def fRepT : D → D → Om → AQ → Prop := fun x y Ω Q => ∃ k xs, x = .tup xs ∧ y = .int k ∧ xs ≠ [] ∧ 1 ≤ k ∧ k ≤ 1000 ∧ xs.length ≤ 1000 ∧ Q (.tup (List.replicate k.toNat xs).flatten) Ω
def fRepO : D → D → Om → AQ → Prop := fun x y Ω Q => ∃ l k xs, x = .o l ∧ y = .int k ∧ Ω l = some (.lst xs) ∧ -(2 ^ 63) ≤ k ∧ k < 2 ^ 63 ∧ xs.length * k.toNat ≤ sizeLine ∧ ∀ p, Ω p = none → Q (.o p) (oset Ω p (.lst (List.replicate k.toNat xs).flatten))
theorem simr_repT {K : PySem.W.Frag} : SimR K ca (rRepTA K) fRepT := by
  intro H G own Ω x y v w Qa Qc r dx dy h k
  obtain ⟨n, xs, rfl, rfl, hne, h1, h2, hz, q⟩ := h
  cases dy
  cases dx with
  | @tup a vs _ s1 d1 =>
    refine ⟨a, n, vs, rfl, rfl, same_seqT r.sub s1, fun e => hne (d1.nil_iff.mp e), h1, h2, by rw [d1.length]; exact hz, fun e => ?_, fun _ p hp => ?_⟩
    · subst e
      have e2 : (List.replicate (1 : Int).toNat xs).flatten = xs := by simp
      rw [e2] at q
      exact k _ _ _ _ _ _ Stp.refl r (.tup s1 d1) q
    · obtain ⟨r4, e4⟩ := r.data (u := .tup _) hp
      exact k _ _ _ _ _ _ (stp_data e4 hp) r4 (.tup (SqT.of upd_same) ((d1.rep n.toNat).mono e4)) q
theorem simr_repO {K : PySem.W.Frag} : SimR K ca rRep fRepO := by
  intro H G own Ω x y v w Qa Qc r dx dy h k
  obtain ⟨l, n, xs, rfl, rfl, hl, h1, h2, hz, q⟩ := h
  cases dy
  cases dx
  obtain ⟨vs, hv, dvs⟩ := r.lstAt hl
  exact ⟨l, n, vs, rfl, rfl, hv, h1, h2, by rw [dvs.length]; exact hz, fun p hp => k _ _ _ _ _ _ (stp_new hp) (r.newLst hp (dvs.rep n.toNat)) (.o p) (q p (r.fresh hp))⟩
def aRepT := aOp fRepT
def aRepO := aOp fRepO
theorem ae_repT (ha : AE X ca W a ta ra) (hb : AE X ca W b tb rb) : AE X ca W (.BinOp a .Mult b pos) (tOp (rRepTA X.K) ta tb) (aRepT ra rb) := ⟨pe_op op_repTA ha.pe hb.pe, sim_op simr_repT ha.sim hb.sim⟩
theorem ae_repO (ha : AE X ca W a ta ra) (hb : AE X ca W b tb rb) : AE X ca W (.BinOp a .Mult b pos) (tOp rRep ta tb) (aRepO ra rb) := ⟨pe_op op_rep ha.pe hb.pe, sim_op simr_repO ha.sim hb.sim⟩
theorem rep_one {α : Type} (x : α) : ∀ n : Nat, (List.replicate n [x]).flatten = List.replicate n x
  | 0 => rfl
  | n + 1 => by rw [List.replicate_succ, List.flatten_cons, rep_one x n, List.replicate_succ]; rfl
theorem rep_ints (i : Int) (n : Nat) : (List.replicate n [D.int i]).flatten = (List.replicate n i).map D.int := by rw [rep_one, List.map_replicate]
end
end PL
namespace PL
/-- with more to take, the same is told -/
theorem Told.mono {k : Int} (hk : 0 ≤ k) {n : Nat} {r r1 : R} {m m1 : Int} {a1 : Ans} (h : Told n r m r1 m1 a1) : 0 ≤ m → 0 ≤ m1 ∧ (a1 ≠ .waits → Told n r (m + k) r1 (m1 + k) a1) := by
  have sh : ∀ m : Int, m - 1 + k = m + k - 1 := fun m => by omega
  induction h with
  | fxEnd => exact fun h => ⟨h, fun _ => .fxEnd⟩
  | fxNo => exact fun h => ⟨h, fun _ => .fxNo⟩
  | fxPart h1 h2 h3 => exact fun h => ⟨h, fun _ => .fxPart h1 h2 h3⟩
  | frEnd => exact fun h => ⟨h, fun _ => .frEnd⟩
  | frWait => exact fun h => ⟨h, fun z => absurd rfl z⟩
  | frPart h1 h2 h3 h4 => exact fun h => ⟨by omega, fun _ => by rw [sh]; exact .frPart h1 (by omega) h3 h4⟩
  | rtWait => exact fun h => ⟨h, fun z => absurd rfl z⟩
  | rtPart h1 h2 h3 h4 h5 h6 h7 h8 h9 => exact fun h => ⟨by omega, fun _ => by rw [sh]; exact .rtPart (by omega) h2 h3 h4 h5 h6 h7 h8 h9⟩
  | ruEnd h1 => exact fun h => ⟨h, fun _ => .ruEnd h1⟩
  | ruWait => exact fun h => ⟨h, fun z => absurd rfl z⟩
  | ruPart h1 h2 h3 h4 h5 h6 h7 => exact fun h => ⟨by omega, fun _ => by rw [sh]; exact .ruPart h1 (by omega) h3 h4 h5 h6 h7⟩
  | foTell h1 h2 h3 h4 h5 => exact fun h => ⟨h, fun _ => .foTell h1 h2 h3 h4 h5⟩
  | foWait h1 h2 h3 h4 h5 _ ih => exact fun h => ⟨(ih h).1, fun z => absurd rfl z⟩
  | foNo h1 h2 h3 h4 h5 _ ih => exact fun h => ⟨(ih h).1, fun _ => .foNo h1 h2 h3 h4 h5 ((ih h).2 (by simp))⟩
  | foEnd h1 h2 h3 h4 h5 _ _ ih1 ih2 => exact fun h => ⟨(ih2 (ih1 h).1).1, fun z => .foEnd h1 h2 h3 h4 h5 ((ih1 h).2 (by simp)) ((ih2 (ih1 h).1).2 z)⟩
  | foIn h1 h2 h3 h4 h5 _ h6 _ ih1 ih2 => exact fun h => ⟨(ih2 (ih1 h).1).1, fun z => .foIn h1 h2 h3 h4 h5 ((ih1 h).2 (by simp)) h6 ((ih2 (ih1 h).1).2 z)⟩
  | fxX _ ih => exact fun h => ⟨(ih h).1, fun z => .fxX ((ih h).2 z)⟩
  | exX _ ih => exact fun h => ⟨(ih h).1, fun z => .exX ((ih h).2 z)⟩
  | exF hf _ ih => exact fun h => ⟨(ih h).1, fun z => .exF hf ((ih h).2 z)⟩
  | etTell h1 h2 => exact fun h => ⟨h, fun _ => .etTell h1 h2⟩
  | etWait h1 h2 h3 _ ih => exact fun h => ⟨(ih h).1, fun z => absurd rfl z⟩
  | etNo h1 h2 h3 _ ih => exact fun h => ⟨(ih h).1, fun _ => .etNo h1 h2 h3 ((ih h).2 (by simp))⟩
  | etFour h1 h2 h3 _ h4 _ ih1 ih2 => exact fun h => ⟨(ih2 (ih1 h).1).1, fun z => .etFour h1 h2 h3 ((ih1 h).2 (by simp)) h4 ((ih2 (ih1 h).1).2 z)⟩
  | etFix h1 h2 h3 _ h4 h5 _ ih1 ih2 => exact fun h => ⟨(ih2 (ih1 h).1).1, fun z => .etFix h1 h2 h3 ((ih1 h).2 (by simp)) h4 h5 ((ih2 (ih1 h).1).2 z)⟩
  | etIn0 h1 h2 h3 _ h4 _ ih1 ih2 => exact fun h => ⟨(ih2 (ih1 h).1).1, fun z => .etIn0 h1 h2 h3 ((ih1 h).2 (by simp)) h4 ((ih2 (ih1 h).1).2 z)⟩
  | etIn1 h1 h2 h3 _ h4 _ ih1 ih2 => exact fun h => ⟨(ih2 (ih1 h).1).1, fun z => .etIn1 h1 h2 h3 ((ih1 h).2 (by simp)) h4 ((ih2 (ih1 h).1).2 z)⟩
end PL
namespace PL
open PySem L2
inductive Wd where
  | less | same | more | waits | none
def Wd.s : Wd → Str
  | .less => "less"
  | .same => "same"
  | .more => "more"
  | .waits => "waits"
  | .none => "none"
def Ans.stp : Ans → Bool
  | .part _ => true
  | .fin => true
  | _ => false
/-- whether the first of two unlike steps belongs to the greater number -/
def gfB (a b : Ans) (n : Nat) : Bool :=
  decide ((match a, b with
    | .fin, _ => true
    | _, .fin => false
    | .part x, .part y => decide (y < x)
    | _, _ => false) = decide (n % 2 = 0))
inductive Bes (most : Int) : Nat → Nat → R → R → Wd → Prop
  | w1 {i n r s r1 m1} : Told i r (most - r.tk - s.tk) r1 m1 .waits → Bes most 0 n r s .waits
  | n1 {i n r s r1 m1} : Told i r (most - r.tk - s.tk) r1 m1 .none → Bes most 0 n r s .none
  | w2 {i j n r s r1 s1 m1 m2 a} : a.stp = true → Told i r (most - r.tk - s.tk) r1 m1 a → Told j s (most - r1.tk - s.tk) s1 m2 .waits → Bes most 0 n r s .waits
  | n2 {i j n r s r1 s1 m1 m2 a} : a.stp = true → Told i r (most - r.tk - s.tk) r1 m1 a → Told j s (most - r1.tk - s.tk) s1 m2 .none → Bes most 0 n r s .none
  | diff {i j n r s r1 s1 m1 m2 a b} : a.stp = true → b.stp = true → Told i r (most - r.tk - s.tk) r1 m1 a → Told j s (most - r1.tk - s.tk) s1 m2 b → a ≠ b → Bes most 0 n r s (if gfB a b n = true then .more else .less)
  | same {i j n r s r1 s1 m1 m2} : Told i r (most - r.tk - s.tk) r1 m1 .fin → Told j s (most - r1.tk - s.tk) s1 m2 .fin → Bes most 0 n r s .same
  | next {i j d n r s r1 s1 m1 m2 q w} : Told i r (most - r.tk - s.tk) r1 m1 (.part q) → Told j s (most - r1.tk - s.tk) s1 m2 (.part q) → Bes most d (n + 1) r1 s1 w → Bes most (d + 1) n r s w
def inOrd (x y : Int × Int) : List (Int × Int) := if x.1 * y.2 < y.1 * x.2 then [x, y] else [y, x]
def Bi (x : Int) : Prop := x.natAbs < 2 ^ 290400
def Wd.ok (C : CT) (w : Wd) (Q : AQ) (E : Value → Om → Prop) (Ω : Om) : Prop := match w with
  | .none => E (.ref C.c_NoValue) Ω
  | w => Q (.str w.s) Ω
/-- two readers in one store -/
structure Two (C : CT) (Ω0 : Om) (S1 S2 : List Addr) (Ω : Om) (p : Addr) (r : R) (A : List Addr) (q : Addr) (s : R) (B : List Addr) : Prop where
  r1 : RdO C Ω p r A
  r2 : RdO C Ω q s B
  dj : ∀ b ∈ A, b ∉ B
  n1 : ∀ b ∈ A, b ∈ S1 ∨ b ∈ S2 ∨ Ω0 b = none
  n2 : ∀ b ∈ B, b ∈ S1 ∨ b ∈ S2 ∨ Ω0 b = none
  fr : ∀ b, b ∉ S1 → b ∉ S2 → Ω0 b ≠ none → Ω b = Ω0 b
section
variable {C : CT} {Ω0 Ω Ω' : Om} {S1 S2 A B A' : List Addr} {p q : Addr} {r s r' : R}
theorem Two.start (h1 : RdO C Ω0 p r S1) (h2 : RdO C Ω0 q s S2) (hd : ∀ b ∈ S1, b ∉ S2) : Two C Ω0 S1 S2 Ω0 p r S1 q s S2 := ⟨h1, h2, hd, fun _ h => .inl h, fun _ h => .inr (.inl h), fun _ _ _ _ => rfl⟩
theorem Two.old (t : Two C Ω0 S1 S2 Ω p r A q s B) {b : Addr} (h : Ω b = none) : b ∈ S1 ∨ b ∈ S2 ∨ Ω0 b = none := by
  by_cases h1 : b ∈ S1
  · exact .inl h1
  by_cases h2 : b ∈ S2
  · exact .inr (.inl h2)
  refine .inr (.inr ?_)
  cases e : Ω0 b with
  | none => rfl
  | some o => have := t.fr b h1 h2 (by rw [e]; simp); rw [h, e] at this; cases this
theorem Two.swap (t : Two C Ω0 S1 S2 Ω p r A q s B) : Two C Ω0 S1 S2 Ω q s B p r A := ⟨t.r2, t.r1, fun b h1 h2 => t.dj b h2 h1, t.n2, t.n1, t.fr⟩
theorem Two.fst (t : Two C Ω0 S1 S2 Ω p r A q s B) (h : RdO C Ω' p r' A') (k1 : ∀ b, b ∉ A → Ω b ≠ none → Ω' b = Ω b) (k2 : ∀ b ∈ A', b ∈ A ∨ Ω b = none) : Two C Ω0 S1 S2 Ω' p r' A' q s B := by
  refine ⟨h, t.r2.keep fun b hb => k1 b (fun z => t.dj b z hb) (t.r2.there b hb), fun b h1 h2 => ?_, fun b hb => ?_, t.n2, fun b h1 h2 h3 => ?_⟩
  · rcases k2 b h1 with z | z
    · exact t.dj b z h2
    · exact t.r2.there b h2 z
  · rcases k2 b hb with z | z
    · exact t.n1 b z
    · exact t.old z
  · have e := t.fr b h1 h2 h3
    rw [k1 b (fun z => ?_) (by rw [e]; exact h3), e]
    rcases t.n1 b z with w | w | w
    · exact h1 w
    · exact h2 w
    · exact h3 w
theorem Two.snd (t : Two C Ω0 S1 S2 Ω p r A q s B) {s' : R} {B' : List Addr} (h : RdO C Ω' q s' B') (k1 : ∀ b, b ∉ B → Ω b ≠ none → Ω' b = Ω b) (k2 : ∀ b ∈ B', b ∈ B ∨ Ω b = none) : Two C Ω0 S1 S2 Ω' p r A q s' B' := (t.swap.fst h k1 k2).swap
theorem Two.set (t : Two C Ω0 S1 S2 Ω p r A q s B) {a : Addr} {o : AO} (h1 : a ∉ A) (h2 : a ∉ B) (h3 : a ∈ S1 ∨ a ∈ S2 ∨ Ω0 a = none) : Two C Ω0 S1 S2 (oset Ω a o) p r A q s B := by
  refine ⟨t.r1.keep fun b hb => oset_ne fun e => h1 (by rw [← e]; exact hb), t.r2.keep fun b hb => oset_ne fun e => h2 (by rw [← e]; exact hb), t.dj, t.n1, t.n2, fun b k1 k2 k3 => ?_⟩
  rw [oset_ne (fun e => ?_)]
  · exact t.fr b k1 k2 k3
  · subst e
    rcases h3 with w | w | w
    · exact k1 w
    · exact k2 w
    · exact k3 w
end
/-- the first parts, and how it stopped -/
inductive Hw where
  | parts | fin | waits | none
def Hw.s : Hw → Str
  | .parts => "parts"
  | .fin => "end"
  | .waits => "waits"
  | .none => "none"
theorem Bes.first {most : Int} {d n : Nat} {r s : R} {w : Wd} (h : Bes most d n r s w) : ∃ i r1 m1 a, Told i r (most - r.tk - s.tk) r1 m1 a ∧ ((a = .waits ∧ w = .waits) ∨ (a = .none ∧ w = .none) ∨ (a.stp = true ∧ ∃ j s1 m2 b, Told j s (most - r1.tk - s.tk) s1 m2 b ∧ ((b = .waits ∧ w = .waits) ∨ (b = .none ∧ w = .none) ∨
    (b.stp = true ∧ ((a ≠ b ∧ w = if gfB a b n = true then .more else .less) ∨ (a = .fin ∧ b = .fin ∧ w = .same) ∨ ∃ q d', a = .part q ∧ b = .part q ∧ d = d' + 1 ∧ Bes most d' (n + 1) r1 s1 w))))) := by
  cases h with
  | w1 h => exact ⟨_, _, _, _, h, .inl ⟨rfl, rfl⟩⟩
  | n1 h => exact ⟨_, _, _, _, h, .inr (.inl ⟨rfl, rfl⟩)⟩
  | w2 ha h1 h2 => exact ⟨_, _, _, _, h1, .inr (.inr ⟨ha, _, _, _, _, h2, .inl ⟨rfl, rfl⟩⟩)⟩
  | n2 ha h1 h2 => exact ⟨_, _, _, _, h1, .inr (.inr ⟨ha, _, _, _, _, h2, .inr (.inl ⟨rfl, rfl⟩)⟩)⟩
  | diff ha hb h1 h2 hne => exact ⟨_, _, _, _, h1, .inr (.inr ⟨ha, _, _, _, _, h2, .inr (.inr ⟨hb, .inl ⟨hne, rfl⟩⟩)⟩)⟩
  | same h1 h2 => exact ⟨_, _, _, _, h1, .inr (.inr ⟨rfl, _, _, _, _, h2, .inr (.inr ⟨rfl, .inr (.inl ⟨rfl, rfl, rfl⟩)⟩)⟩)⟩
  | next h1 h2 h => exact ⟨_, _, _, _, h1, .inr (.inr ⟨rfl, _, _, _, _, h2, .inr (.inr ⟨rfl, .inr (.inr ⟨_, _, rfl, rfl, rfl, h⟩)⟩)⟩)⟩
end PL
namespace PL
open PySem L2
local macro_rules | `(tactic| walk_at "pl") => `(tactic| try simp only [aSeq, aSet, aAsg, agName, agTup, setAll, aVar, aC, aOp, aAdd, aSub, aMul, aFdv, aMod, aPow, aPowB, aShl1, aLt, aLe, aGt, aGe, aEqI, aNeI, aEqD, aNeD, aEqS, aNeS, fI, fB, aIfS, aNext, aRet, aRetN, aDrop, aB, aAnd, aOr, aNot,
  aAndV, aOrV, aNotV, aIf, aCons, aNil, aTup, aLst, aLstO, aCall, fAbs, fIntB, fLen, fListD, fListO, fTuple, aFn, aIx, fIx, aBits, aIsi, aIsN, aNotN, TT2, aSetIx, aApp, aFor, aForT, aForR1, aForR2, aLc, aLcR, aCatL, fCatL, aCatO, fCatO, aCatT, fCatT, aForRev, aForO, aForZipM, aInD, aNotInD, aForZip, aLcZip, aTry, aTryAs, aIsE, aIsET, agTupL, aDGet, aDPut, aDisp, aChain, fLe, fLt, lseq_lst, lseq_o, aFrz, aTake, aFld, agFld, agNew, aMeth, aMake, agTupG, glNil, glCons, aRaise, fInI, aNever, Prod.mk.injEq, AO.obj.injEq, and_assoc, aSl, aPart, aNoPart, reduceCtorEq, false_and, and_false, exists_false, or_false, false_or, exists_const, aPar, astart, seq_lst, seq_tup, seq_o, ty_int, ty_bl, isT_ii, isT_ib, isT_bi, isT_bb, isT_tt, isT_ss, isT_ll, ty_tup, ty_str, ty_lst, ty_non, at_0, at_1, at_2, at_3, at_l, ix_40, ix_41, ix_42, ix_43, aAsRow, oset_same, oset_oset, AO.lst.injEq, List.cons.injEq,
  List.map_cons, List.map_nil, List.length_cons, List.length_nil, List.replicate, Nat.sub_self, Nat.zero_add, Nat.reduceSub, Nat.reduceAdd, List.cons_append, List.nil_append, List.append_nil, List.set_cons_zero, List.set_cons_succ, List.getElem?_cons_zero, List.getElem?_cons_succ,
  Option.some.injEq, D.int.injEq, D.bl.injEq, D.str.injEq, D.o.injEq, D.lst.injEq, D.tup.injEq, exists_and_left, exists_eq_left', exists_eq_left, true_and, and_true, decide_eq_true_eq, Bool.true_eq_false, Bool.false_eq_true, if_true, if_false, Int.toNat_natCast])
local macro_rules | `(tactic| walk_at "nm") => `(tactic| (intro z; simp only [List.map_cons, List.map_nil, List.mem_cons, List.not_mem_nil, or_false] at z; try (revert z; decide)))
theorem sq_nn (x : Int) : 0 ≤ x * x := by
  rcases Int.le_total 0 x with h | h
  · exact Int.mul_nonneg h h
  · exact Int.mul_nonneg_of_nonpos_of_nonpos h h
def topS (i : Nat) : Stmt := PySem.Challenge.pw_chainparts_k07_trees_that_are_none.main.body.getD i (.Pass ⟨0, 0, 0, 0⟩)
abbrev s_root_below : Stmt := topS 6
theorem sc_root_below : FnScope ["number", "found"] ["number"] (defScope s_root_below) := ⟨rfl, rfl, rfl, by decide +kernel, rfl, by decide +kernel, by decide +kernel⟩
abbrev s_Purse___init__ : Stmt := inClass (topS 8) 0
theorem sc_Purse___init__ : FnScope ["self", "left"] ["self", "left"] (defScope s_Purse___init__) := ⟨rfl, rfl, rfl, by decide +kernel, rfl, by decide +kernel, by decide +kernel⟩
abbrev s_Reader_part : Stmt := inClass (topS 9) 0
theorem sc_Reader_part : FnScope ["self", "most"] ["self", "most"] (defScope s_Reader_part) := ⟨rfl, rfl, rfl, by decide +kernel, rfl, by decide +kernel, by decide +kernel⟩
abbrev s_Reader_took : Stmt := inClass (topS 9) 2
theorem sc_Reader_took : FnScope ["self"] ["self"] (defScope s_Reader_took) := ⟨rfl, rfl, rfl, by decide +kernel, rfl, by decide +kernel, by decide +kernel⟩
abbrev s_Fixed___init__ : Stmt := inClass (topS 10) 0
theorem sc_Fixed___init__ : FnScope ["self", "top", "below", "begun"] ["self", "top", "below", "begun"] (defScope s_Fixed___init__) := ⟨rfl, rfl, rfl, by decide +kernel, rfl, by decide +kernel, by decide +kernel⟩
abbrev s_Fixed_told : Stmt := inClass (topS 10) 1
theorem sc_Fixed_told : FnScope ["self", "purse", "found"] ["self", "purse"] (defScope s_Fixed_told) := ⟨rfl, rfl, rfl, by decide +kernel, rfl, by decide +kernel, by decide +kernel⟩
abbrev s_Leaf___init__ : Stmt := inClass (topS 11) 0
theorem sc_Leaf___init__ : FnScope ["self"] ["self"] (defScope s_Leaf___init__) := ⟨rfl, rfl, rfl, by decide +kernel, rfl, by decide +kernel, by decide +kernel⟩
abbrev s_Leaf_told : Stmt := inClass (topS 11) 1
theorem sc_Leaf_told : FnScope ["self", "purse"] ["self", "purse"] (defScope s_Leaf_told) := ⟨rfl, rfl, rfl, by decide +kernel, rfl, by decide +kernel, by decide +kernel⟩
abbrev s_Leaf_at_end : Stmt := inClass (topS 11) 2
theorem sc_Leaf_at_end : FnScope ["self"] ["self"] (defScope s_Leaf_at_end) := ⟨rfl, rfl, rfl, by decide +kernel, rfl, by decide +kernel, by decide +kernel⟩
abbrev s_Leaf_took : Stmt := inClass (topS 11) 4
theorem sc_Leaf_took : FnScope ["self"] ["self"] (defScope s_Leaf_took) := ⟨rfl, rfl, rfl, by decide +kernel, rfl, by decide +kernel, by decide +kernel⟩
abbrev s_Fraction___init__ : Stmt := inClass (topS 12) 0
theorem sc_Fraction___init__ : FnScope ["self", "top", "below"] ["self", "top", "below"] (defScope s_Fraction___init__) := ⟨rfl, rfl, rfl, by decide +kernel, rfl, by decide +kernel, by decide +kernel⟩
abbrev s_Fraction_at_end : Stmt := inClass (topS 12) 1
theorem sc_Fraction_at_end : FnScope ["self"] ["self"] (defScope s_Fraction_at_end) := ⟨rfl, rfl, rfl, by decide +kernel, rfl, by decide +kernel, by decide +kernel⟩
abbrev s_Fraction_following : Stmt := inClass (topS 12) 2
theorem sc_Fraction_following : FnScope ["self", "found"] ["self"] (defScope s_Fraction_following) := ⟨rfl, rfl, rfl, by decide +kernel, rfl, by decide +kernel, by decide +kernel⟩
abbrev s_Root___init__ : Stmt := inClass (topS 13) 0
theorem sc_Root___init__ : FnScope ["self", "top", "square", "below"] ["self", "top", "square", "below"] (defScope s_Root___init__) := ⟨rfl, rfl, rfl, by decide +kernel, rfl, by decide +kernel, by decide +kernel⟩
abbrev s_Root_following : Stmt := inClass (topS 13) 1
theorem sc_Root_following : FnScope ["self", "found"] ["self"] (defScope s_Root_following) := ⟨rfl, rfl, rfl, by decide +kernel, rfl, by decide +kernel, by decide +kernel⟩
abbrev s_Ruled___init__ : Stmt := inClass (topS 14) 0
theorem sc_Ruled___init__ : FnScope ["self", "parts", "ring", "steps"] ["self", "parts", "ring", "steps"] (defScope s_Ruled___init__) := ⟨rfl, rfl, rfl, by decide +kernel, rfl, by decide +kernel, by decide +kernel⟩
abbrev s_Ruled_at_end : Stmt := inClass (topS 14) 1
theorem sc_Ruled_at_end : FnScope ["self"] ["self"] (defScope s_Ruled_at_end) := ⟨rfl, rfl, rfl, by decide +kernel, rfl, by decide +kernel, by decide +kernel⟩
abbrev s_Ruled_following : Stmt := inClass (topS 14) 2
theorem sc_Ruled_following : FnScope ["self", "at", "turn"] ["self"] (defScope s_Ruled_following) := ⟨rfl, rfl, rfl, by decide +kernel, rfl, by decide +kernel, by decide +kernel⟩
abbrev s_root_of : Stmt := topS 15
theorem sc_root_of : FnScope ["top", "square", "below", "floor", "size"] ["top", "square", "below"] (defScope s_root_of) := ⟨rfl, rfl, rfl, by decide +kernel, rfl, by decide +kernel, by decide +kernel⟩
abbrev s_below_all : Stmt := topS 17
theorem sc_below_all : FnScope ["corners", "top", "below", "least", "rest"] ["corners"] (defScope s_below_all) := ⟨rfl, rfl, rfl, by decide +kernel, rfl, by decide +kernel, by decide +kernel⟩
abbrev s_Four___init__ : Stmt := inClass (topS 18) 0
theorem sc_Four___init__ : FnScope ["self", "numbers", "inner", "ready", "begun"] ["self", "numbers", "inner", "ready", "begun"] (defScope s_Four___init__) := ⟨rfl, rfl, rfl, by decide +kernel, rfl, by decide +kernel, by decide +kernel⟩
abbrev s_Four_took : Stmt := inClass (topS 18) 1
theorem sc_Four_took : FnScope ["self"] ["self"] (defScope s_Four_took) := ⟨rfl, rfl, rfl, by decide +kernel, rfl, by decide +kernel, by decide +kernel⟩
abbrev s_Four_sure : Stmt := inClass (topS 18) 2
theorem sc_Four_sure : FnScope ["self", "a", "b", "c", "d"] ["self"] (defScope s_Four_sure) := ⟨rfl, rfl, rfl, by decide +kernel, rfl, by decide +kernel, by decide +kernel⟩
abbrev s_Four_told : Stmt := inClass (topS 18) 3
theorem sc_Four_told : FnScope ["self", "purse", "a", "b", "c", "d", "found", "got"] ["self", "purse"] (defScope s_Four_told) := ⟨rfl, rfl, rfl, by decide +kernel, rfl, by decide +kernel, by decide +kernel⟩
abbrev s_Eight___init__ : Stmt := inClass (topS 19) 0
theorem sc_Eight___init__ : FnScope ["self", "numbers", "one", "other"] ["self", "numbers", "one", "other"] (defScope s_Eight___init__) := ⟨rfl, rfl, rfl, by decide +kernel, rfl, by decide +kernel, by decide +kernel⟩
abbrev s_Eight_took : Stmt := inClass (topS 19) 1
theorem sc_Eight_took : FnScope ["self"] ["self"] (defScope s_Eight_took) := ⟨rfl, rfl, rfl, by decide +kernel, rfl, by decide +kernel, by decide +kernel⟩
abbrev s_Eight_sure : Stmt := inClass (topS 19) 2
theorem sc_Eight_sure : FnScope ["self", "a", "b", "c", "d", "e", "f", "g", "h"] ["self"] (defScope s_Eight_sure) := ⟨rfl, rfl, rfl, by decide +kernel, rfl, by decide +kernel, by decide +kernel⟩
abbrev s_Eight_told : Stmt := inClass (topS 19) 3
theorem sc_Eight_told : FnScope ["self", "purse", "found", "rows", "which", "got", "k"] ["self", "purse"] (defScope s_Eight_told) := ⟨rfl, rfl, rfl, by decide +kernel, rfl, by decide +kernel, by decide +kernel⟩
abbrev s_Eight_take : Stmt := inClass (topS 19) 4
theorem sc_Eight_take : FnScope ["self", "which", "part", "a", "b", "c", "d", "e", "f", "g", "h"] ["self", "which", "part"] (defScope s_Eight_take) := ⟨rfl, rfl, rfl, by decide +kernel, rfl, by decide +kernel, by decide +kernel⟩
abbrev s_Eight_left_of : Stmt := inClass (topS 19) 5
theorem sc_Eight_left_of : FnScope ["self", "which", "a", "b", "c", "d", "e", "f", "g", "h", "four"] ["self", "which"] (defScope s_Eight_left_of) := ⟨rfl, rfl, rfl, by decide +kernel, rfl, by decide +kernel, by decide +kernel⟩
abbrev s_must : Stmt := topS 25
theorem sc_must : FnScope ["good"] ["good"] (defScope s_must) := ⟨rfl, rfl, rfl, by decide +kernel, rfl, by decide +kernel, by decide +kernel⟩
abbrev s_need_numbers : Stmt := topS 26
theorem sc_need_numbers : FnScope ["numbers", "number"] ["numbers"] (defScope s_need_numbers) := ⟨rfl, rfl, rfl, by decide +kernel, rfl, by decide +kernel, by decide +kernel⟩
abbrev s_need_ruled : Stmt := topS 27
theorem sc_need_ruled : FnScope ["parts", "ring", "steps", "part", "step"] ["parts", "ring", "steps"] (defScope s_need_ruled) := ⟨rfl, rfl, rfl, by decide +kernel, rfl, by decide +kernel, by decide +kernel⟩
abbrev s_need_eight : Stmt := topS 28
theorem sc_need_eight : FnScope ["numbers", "apart", "i", "j"] ["numbers"] (defScope s_need_eight) := ⟨rfl, rfl, rfl, by decide +kernel, rfl, by decide +kernel, by decide +kernel⟩
abbrev s_need_tree : Stmt := topS 29
theorem sc_need_tree : FnScope ["tree", "deep", "kind"] ["tree", "deep"] (defScope s_need_tree) := ⟨rfl, rfl, rfl, by decide +kernel, rfl, by decide +kernel, by decide +kernel⟩
abbrev s_opened : Stmt := topS 32
theorem sc_opened : FnScope ["tree", "kind", "made", "k"] ["tree"] (defScope s_opened) := ⟨rfl, rfl, rfl, by decide +kernel, rfl, by decide +kernel, by decide +kernel⟩
abbrev s_reader : Stmt := topS 33
theorem sc_reader : FnScope ["tree"] ["tree"] (defScope s_reader) := ⟨rfl, rfl, rfl, by decide +kernel, rfl, by decide +kernel, by decide +kernel⟩
abbrev s_first_parts : Stmt := topS 34
theorem sc_first_parts : FnScope ["tree", "many", "most", "made", "found", "got"] ["tree", "many", "most"] (defScope s_first_parts) := ⟨rfl, rfl, rfl, by decide +kernel, rfl, by decide +kernel, by decide +kernel⟩
abbrev s_greater_first : Stmt := topS 36
theorem sc_greater_first : FnScope ["one", "other", "at", "above"] ["one", "other", "at"] (defScope s_greater_first) := ⟨rfl, rfl, rfl, by decide +kernel, rfl, by decide +kernel, by decide +kernel⟩
abbrev s_read_beside : Stmt := topS 37
theorem sc_read_beside : FnScope ["one", "other", "most", "at", "steps", "made", "step"] ["one", "other", "most"] (defScope s_read_beside) := ⟨rfl, rfl, rfl, by decide +kernel, rfl, by decide +kernel, by decide +kernel⟩
abbrev s_compared : Stmt := topS 38
theorem sc_compared : FnScope ["one", "other", "most", "first"] ["one", "other", "most"] (defScope s_compared) := ⟨rfl, rfl, rfl, by decide +kernel, rfl, by decide +kernel, by decide +kernel⟩
abbrev s_beside : Stmt := topS 40
theorem sc_beside : FnScope ["tree", "size", "most", "made", "ahead", "last", "begun", "got", "part", "times"] ["tree", "size", "most"] (defScope s_beside) := ⟨rfl, rfl, rfl, by decide +kernel, rfl, by decide +kernel, by decide +kernel⟩
abbrev s_in_order : Stmt := topS 41
theorem sc_in_order : FnScope ["one", "other"] ["one", "other"] (defScope s_in_order) := ⟨rfl, rfl, rfl, by decide +kernel, rfl, by decide +kernel, by decide +kernel⟩
abbrev s_nearest : Stmt := topS 42
theorem sc_nearest : FnScope ["tree", "size", "most", "found", "low", "high", "middle", "told"] ["tree", "size", "most"] (defScope s_nearest) := ⟨rfl, rfl, rfl, by decide +kernel, rfl, by decide +kernel, by decide +kernel⟩
abbrev s__law_row : Stmt := topS 44
theorem sc__law_row : FnScope ["_law_script", "_law_mixed", "_law_cell"] ["_law_script"] (defScope s__law_row) := ⟨rfl, rfl, rfl, by decide +kernel, rfl, by decide +kernel, by decide +kernel⟩
abbrev s__law_taken : Stmt := topS 45
theorem sc__law_taken : FnScope ["_law_row_here", "_law_many", "_law_found", "_law_cell"] ["_law_row_here", "_law_many"] (defScope s__law_taken) := ⟨rfl, rfl, rfl, by decide +kernel, rfl, by decide +kernel, by decide +kernel⟩
abbrev s__law_signed : Stmt := topS 46
theorem sc__law_signed : FnScope ["_law_row_here", "_law_most"] ["_law_row_here", "_law_most"] (defScope s__law_signed) := ⟨rfl, rfl, rfl, by decide +kernel, rfl, by decide +kernel, by decide +kernel⟩
abbrev s__law_bad : Stmt := topS 47
theorem sc__law_bad : FnScope ["_law_row_here", "_law_big", "_law_some", "_law_one", "_law_ring", "_law_steps", "_law_deep", "_law_k", "_law_numbers", "_law_found", "_law_bad_here"] ["_law_row_here"] (defScope s__law_bad) := ⟨rfl, rfl, rfl, by decide +kernel, rfl, by decide +kernel, by decide +kernel⟩
abbrev s__law_around : Stmt := topS 48
theorem sc__law_around : FnScope ["_law_row_here", "_law_tree", "_law_many", "_law_good", "_law_k", "_law_way"] ["_law_row_here", "_law_tree", "_law_many"] (defScope s__law_around) := ⟨rfl, rfl, rfl, by decide +kernel, rfl, by decide +kernel, by decide +kernel⟩
abbrev s__law_refused : Stmt := topS 49
theorem sc__law_refused : FnScope ["_law_way", "_law_tree", "_law_good", "e"] ["_law_way", "_law_tree"] (defScope s__law_refused) := ⟨rfl, rfl, rfl, by decide +kernel, rfl, by decide +kernel, by decide +kernel⟩
abbrev s_law : Stmt := topS 50
theorem sc_law : FnScope ["_law_script", "_law_row_here", "_law_bad_here", "_law_way", "_law_top", "_law_good", "_law_one"] ["_law_script"] (defScope s_law) := ⟨rfl, rfl, rfl, by decide +kernel, rfl, by decide +kernel, by decide +kernel⟩
structure Txt (K : PySem.W.Frag) (mg : Str → Option Value) (C : CT) : Prop where
  d_root_below : Dfn K mg "root_below" "root_below" s_root_below ["number"]
  d_root_of : Dfn K mg "root_of" "root_of" s_root_of ["top", "square", "below"]
  d_below_all : Dfn K mg "below_all" "below_all" s_below_all ["corners"]
  d_must : Dfn K mg "must" "must" s_must ["good"]
  d_need_numbers : Dfn K mg "need_numbers" "need_numbers" s_need_numbers ["numbers"]
  d_need_ruled : Dfn K mg "need_ruled" "need_ruled" s_need_ruled ["parts", "ring", "steps"]
  d_need_eight : Dfn K mg "need_eight" "need_eight" s_need_eight ["numbers"]
  d_need_tree : Dfn K mg "need_tree" "need_tree" s_need_tree ["tree", "deep"]
  d_opened : Dfn K mg "opened" "opened" s_opened ["tree"]
  d_reader : Dfn K mg "reader" "reader" s_reader ["tree"]
  d_first_parts : Dfn K mg "first_parts" "first_parts" s_first_parts ["tree", "many", "most"]
  d_greater_first : Dfn K mg "greater_first" "greater_first" s_greater_first ["one", "other", "at"]
  d_read_beside : Dfn K mg "read_beside" "read_beside" s_read_beside ["one", "other", "most"]
  d_compared : Dfn K mg "compared" "compared" s_compared ["one", "other", "most"]
  d_beside : Dfn K mg "beside" "beside" s_beside ["tree", "size", "most"]
  d_in_order : Dfn K mg "in_order" "in_order" s_in_order ["one", "other"]
  d_nearest : Dfn K mg "nearest" "nearest" s_nearest ["tree", "size", "most"]
  d_law_row : Dfn K mg "_law_row" "_law_row" s__law_row ["_law_script"]
  d_law_taken : Dfn K mg "_law_taken" "_law_taken" s__law_taken ["_law_row_here", "_law_many"]
  d_law_signed : Dfn K mg "_law_signed" "_law_signed" s__law_signed ["_law_row_here", "_law_most"]
  d_law_bad : Dfn K mg "_law_bad" "_law_bad" s__law_bad ["_law_row_here"]
  d_law_around : Dfn K mg "_law_around" "_law_around" s__law_around ["_law_row_here", "_law_tree", "_law_many"]
  d_law_refused : Dfn K mg "_law_refused" "_law_refused" s__law_refused ["_law_way", "_law_tree"]
  d_law : Dfn K mg "law" "law" s_law ["_law_script"]
  k_Purse : Mki K mg "Purse" C.c_Purse "Purse.__init__" s_Purse___init__ ["self", "left"]
  m_Reader_part : Mdf K [C.c_Fixed, C.c_Fraction, C.c_Root, C.c_Ruled, C.c_Four, C.c_Eight] "part" "Reader.part" s_Reader_part ["self", "most"]
  m_Reader_took : Mdf K [C.c_Fixed] "took" "Reader.took" s_Reader_took ["self"]
  k_Fixed : Mki K mg "Fixed" C.c_Fixed "Fixed.__init__" s_Fixed___init__ ["self", "top", "below", "begun"]
  m_Fixed_told : Mdf K [C.c_Fixed] "told" "Fixed.told" s_Fixed_told ["self", "purse"]
  i_Leaf : Cdf K mg "Leaf" "__init__" "Leaf.__init__" s_Leaf___init__ ["self"]
  m_Leaf_told : Mdf K [C.c_Fraction, C.c_Root, C.c_Ruled] "told" "Leaf.told" s_Leaf_told ["self", "purse"]
  m_Leaf_at_end : Mdf K [C.c_Root] "at_end" "Leaf.at_end" s_Leaf_at_end ["self"]
  m_Leaf_took : Mdf K [C.c_Fraction, C.c_Root, C.c_Ruled] "took" "Leaf.took" s_Leaf_took ["self"]
  k_Fraction : Mki K mg "Fraction" C.c_Fraction "Fraction.__init__" s_Fraction___init__ ["self", "top", "below"]
  m_Fraction_at_end : Mdf K [C.c_Fraction] "at_end" "Fraction.at_end" s_Fraction_at_end ["self"]
  m_Fraction_following : Mdf K [C.c_Fraction] "following" "Fraction.following" s_Fraction_following ["self"]
  k_Root : Mki K mg "Root" C.c_Root "Root.__init__" s_Root___init__ ["self", "top", "square", "below"]
  m_Root_following : Mdf K [C.c_Root] "following" "Root.following" s_Root_following ["self"]
  k_Ruled : Mki K mg "Ruled" C.c_Ruled "Ruled.__init__" s_Ruled___init__ ["self", "parts", "ring", "steps"]
  m_Ruled_at_end : Mdf K [C.c_Ruled] "at_end" "Ruled.at_end" s_Ruled_at_end ["self"]
  m_Ruled_following : Mdf K [C.c_Ruled] "following" "Ruled.following" s_Ruled_following ["self"]
  k_Four : Mki K mg "Four" C.c_Four "Four.__init__" s_Four___init__ ["self", "numbers", "inner", "ready", "begun"]
  m_Four_took : Mdf K [C.c_Four] "took" "Four.took" s_Four_took ["self"]
  m_Four_sure : Mdf K [C.c_Four] "sure" "Four.sure" s_Four_sure ["self"]
  m_Four_told : Mdf K [C.c_Four] "told" "Four.told" s_Four_told ["self", "purse"]
  k_Eight : Mki K mg "Eight" C.c_Eight "Eight.__init__" s_Eight___init__ ["self", "numbers", "one", "other"]
  m_Eight_took : Mdf K [C.c_Eight] "took" "Eight.took" s_Eight_took ["self"]
  m_Eight_sure : Mdf K [C.c_Eight] "sure" "Eight.sure" s_Eight_sure ["self"]
  m_Eight_told : Mdf K [C.c_Eight] "told" "Eight.told" s_Eight_told ["self", "purse"]
  m_Eight_take : Mdf K [C.c_Eight] "take" "Eight.take" s_Eight_take ["self", "which", "part"]
  m_Eight_left_of : Mdf K [C.c_Eight] "left_of" "Eight.left_of" s_Eight_left_of ["self", "which"]
  n_Purse_left : NoAttr K C.c_Purse "left"
  n_Fixed_top : NoAttr K C.c_Fixed "top"
  n_Fixed_below : NoAttr K C.c_Fixed "below"
  n_Fixed_begun : NoAttr K C.c_Fixed "begun"
  n_Fraction_many : NoAttr K C.c_Fraction "many"
  n_Fraction_top : NoAttr K C.c_Fraction "top"
  n_Fraction_below : NoAttr K C.c_Fraction "below"
  n_Root_many : NoAttr K C.c_Root "many"
  n_Root_top : NoAttr K C.c_Root "top"
  n_Root_square : NoAttr K C.c_Root "square"
  n_Root_below : NoAttr K C.c_Root "below"
  n_Root_floor : NoAttr K C.c_Root "floor"
  n_Ruled_many : NoAttr K C.c_Ruled "many"
  n_Ruled_first : NoAttr K C.c_Ruled "first"
  n_Ruled_ring : NoAttr K C.c_Ruled "ring"
  n_Ruled_steps : NoAttr K C.c_Ruled "steps"
  n_Four_numbers : NoAttr K C.c_Four "numbers"
  n_Four_inner : NoAttr K C.c_Four "inner"
  n_Four_ready : NoAttr K C.c_Four "ready"
  n_Four_begun : NoAttr K C.c_Four "begun"
  n_Four_fixed : NoAttr K C.c_Four "fixed"
  n_Eight_numbers : NoAttr K C.c_Eight "numbers"
  n_Eight_inners : NoAttr K C.c_Eight "inners"
  n_Eight_many : NoAttr K C.c_Eight "many"
  n_Eight_begun : NoAttr K C.c_Eight "begun"
  n_Eight_rest : NoAttr K C.c_Eight "rest"
  x_BadTree : Xcl K mg "BadTree" C.c_BadTree
  x_NoValue : Xcl K mg "NoValue" C.c_NoValue
  y_PartError : mg "PartError" = some (.ref C.c_PartError)
  e_BadTree_PartError : PySem.W.exmOne K (.ref C.c_BadTree) (.ref C.c_PartError) = some true
  e_NoValue_PartError : PySem.W.exmOne K (.ref C.c_NoValue) (.ref C.c_PartError) = some true
  y_BadTree : mg "BadTree" = some (.ref C.c_BadTree)
  i_BadTree_BadTree : PySem.W.kitOne K (.ref C.c_BadTree) (.ref C.c_BadTree) = some true
  i_NoValue_BadTree : PySem.W.kitOne K (.ref C.c_NoValue) (.ref C.c_BadTree) = some false
  y_NoValue : mg "NoValue" = some (.ref C.c_NoValue)
  i_BadTree_NoValue : PySem.W.kitOne K (.ref C.c_BadTree) (.ref C.c_NoValue) = some false
  i_NoValue_NoValue : PySem.W.kitOne K (.ref C.c_NoValue) (.ref C.c_NoValue) = some true
  y_TooLong : mg "TooLong" = some (.ref C.c_TooLong)
  i_BadTree_TooLong : PySem.W.kitOne K (.ref C.c_BadTree) (.ref C.c_TooLong) = some false
  i_NoValue_TooLong : PySem.W.kitOne K (.ref C.c_NoValue) (.ref C.c_TooLong) = some false
  b_ValueError : mg "ValueError" = none
  i_BadTree_ValueError : PySem.W.kitOne K (.ref C.c_BadTree) (.type "ValueError") = some true
  i_NoValue_ValueError : PySem.W.kitOne K (.ref C.c_NoValue) (.type "ValueError") = some true
  z_BadTree : ExcC K C.c_BadTree
  z_NoValue : ExcC K C.c_NoValue
  g_DEEPEST : ∃ t, mg "DEEPEST" = some (.int 5 t)
  g_MOST_NUMBER : ∃ t, mg "MOST_NUMBER" = some (.int 1000000000000 t)
  g_MOST_PARTS : ∃ t, mg "MOST_PARTS" = some (.int 12 t)
  g_MOST_POWER : ∃ t, mg "MOST_POWER" = some (.int 4 t)
  t_TIMES : TupK K mg "TIMES" C.a_TIMES [1, 0, 0, 0, 0, 0, 0, 1]
  b_divmod : mg "divmod" = none
  b_abs : mg "abs" = none
  b_bool : mg "bool" = none
  b_int : mg "int" = none
  b_isinstance : mg "isinstance" = none
  b_len : mg "len" = none
  b_list : mg "list" = none
  b_max : mg "max" = none
  b_min : mg "min" = none
  b_range : mg "range" = none
  b_reversed : mg "reversed" = none
  b_str : mg "str" = none
  b_sum : mg "sum" = none
  b_tuple : mg "tuple" = none
  b_zip : mg "zip" = none
def caOf (_ : PySem.W.Frag) : CA := {}
theorem newton1 {n f q g : Int} (hf : 0 < f) (hq : n < (q + 1) * f) (hg : f + q + 1 ≤ 2 * (g + 1)) (hg0 : 0 ≤ f + q + 1) : n < (g + 1) * (g + 1) := by
  have h1 := sq_nn (f - (q + 1))
  have h2 : (f + q + 1) * (f + q + 1) ≤ (2 * (g + 1)) * (2 * (g + 1)) := Int.mul_le_mul hg hg hg0 (by omega)
  grind
theorem newton2 {n f q g : Int} (hf : 0 < f) (h : n < f * f) (hq : q * f ≤ n) (hg : 2 * g ≤ f + q) : g < f := by
  have : q < f := by
    rcases Int.lt_or_le q f with h' | h'
    · exact h'
    · have := Int.mul_le_mul_of_nonneg_right h' (Int.le_of_lt hf)
      omega
  omega
theorem root_start {n : Int} (h0 : 0 ≤ n) : n < ((2 : Int) ^ ((Builtin.Int.intBits n + 1) / 2) + 1) * (2 ^ ((Builtin.Int.intBits n + 1) / 2) + 1) := by
  have h1 := lt_bits (n := n)
  have h2 : Builtin.Int.intBits n ≤ (Builtin.Int.intBits n + 1) / 2 + (Builtin.Int.intBits n + 1) / 2 := by omega
  have h3 : 2 ^ Builtin.Int.intBits n ≤ 2 ^ ((Builtin.Int.intBits n + 1) / 2) * 2 ^ ((Builtin.Int.intBits n + 1) / 2) := by
    rw [← Nat.pow_add]
    exact Nat.pow_le_pow_right (by decide) h2
  generalize hb : (2 : Nat) ^ ((Builtin.Int.intBits n + 1) / 2) = x at h3
  have e : ((2 : Int) ^ ((Builtin.Int.intBits n + 1) / 2)) = (x : Int) := by rw [← hb]; simp
  rw [e]
  have h4 : n.natAbs < x * x := Nat.lt_of_lt_of_le h1 h3
  have h5 : n < ((x * x : Nat) : Int) := by omega
  rw [Int.natCast_mul] at h5
  have h6 : (x : Int) * x ≤ (x + 1) * (x + 1) := Int.mul_le_mul (by omega) (by omega) (by omega) (by omega)
  omega
section
variable {P : Program} {w : World} {K : PySem.W.Frag} {mg : Str → Option Value} {base : Heap} {ca : CA} {C : CT} [Seer P base]
def F_root : AF := fun ds Ω Q _ => ∃ n : Int, ds = [.int n] ∧ 0 ≤ n ∧ n < 2 ^ 300 ∧ ∀ r, 0 ≤ r → r * r ≤ n → n < (r + 1) * (r + 1) → Q (.int r) Ω
theorem c_root_below (T : Txt K mg C) : Clb P w K mg base ca 1 "root_below" F_root := by
  refine clb T.d_root_below sc_root_below (fun ds Ω Q E h => ?_) (fun f cdv A outer s H E hr => ⟨_, _, (ass_cons (as_if (at_eqI (ae_var 0) ae_int) (ass_one (as_ret ae_int)) ass_nil)
      (ass_cons (as_set 1 sc_root_below.nd (ae_shl1 ae_int (ae_fdv (div_of hr) (ae_add (ae_bits (ae_var 0)) ae_int) ae_int)))
      (ass_cons (as_while (passes_of rfl) (at_gt (ae_mul (ae_var 1) (ae_var 1)) (ae_var 0)) (ass_one (as_set 1 sc_root_below.nd (ae_fdv (div_of hr) (ae_add (ae_var 1) (ae_fdv (div_of hr) (ae_var 0) (ae_var 1))) ae_int))))
      (ass_one (as_ret (ae_var 1)))))), fun ds Ω Qa Ea h => ?_⟩)
  · obtain ⟨n, rfl, _⟩ := h
    rfl
  · obtain ⟨n, rfl, h0, h1, k⟩ := h
    walk_at "pl"
    refine ite2 (fun e => k 0 (by omega) (by omega) (by omega)) (fun e => ⟨nopy (by decide) (by decide), (Builtin.Int.intBits n + 1) / 2, ?_, ?_, ?_⟩)
    · rw [Int.fdiv_eq_ediv_of_nonneg _ (by decide)]
      omega
    · have := bits_le (n := n) (b := 300) (by omega)
      omega
    · refine ⟨fun m ρ Ω' => ∃ g : Int, ρ = [some (.int n), some (.int g)] ∧ Ω' = Ω ∧ 0 < g ∧ g < 2 ^ 400 ∧ n < (g + 1) * (g + 1) ∧ m = g.toNat, ⟨_, _, rfl, rfl, Int.pow_pos (by decide), ?_, ?_, rfl⟩, ?_⟩
      · have h2 := bits_le (n := n) (b := 300) (by omega)
        exact Int.ofNat_lt.mpr (Nat.pow_lt_pow_right (by decide) (by omega) : 2 ^ ((Builtin.Int.intBits n + 1) / 2) < 2 ^ 400)
      · exact root_start h0
      · rintro m ρ Ω' ⟨g, rfl, rfl, g0, g1, g2, rfl⟩
        walk_at "pl"
        refine ⟨mulok (a := 400) (b := 400) (by omega) (by omega) (by decide), ?_⟩
        have q1 : n.fdiv g = n / g := Int.fdiv_eq_ediv_of_nonneg _ (by omega)
        have q2 : n / g * g ≤ n := Int.ediv_mul_le _ (by omega)
        have q3 : n < (n / g + 1) * g := Int.lt_ediv_add_one_mul_self _ g0
        have q4 : 0 ≤ n / g := Int.ediv_nonneg h0 (by omega)
        refine ite2 (fun e => ⟨nopy (by omega) (by omega), nopy (by decide) (by decide), ?_⟩) (fun e => k g (by omega) (by omega) g2)
        rw [q1]
        have q5 : (g + n / g).fdiv 2 = (g + n / g) / 2 := Int.fdiv_eq_ediv_of_nonneg _ (by decide)
        rw [q5]
        have q6 : (g + n / g) / 2 < g := newton2 g0 (by omega) q2 (by omega)
        have q7 : 2 ≤ g + n / g := by
          by_cases z : 1 ≤ n / g
          · omega
          · have z' : n / g = 0 := by omega
            rw [z'] at q3
            have : 1 < g := by omega
            omega
        exact ⟨((g + n / g) / 2).toNat, by omega, by omega, by omega, newton1 g0 q3 (by omega) (by omega), rfl⟩
def F_purse (C : CT) : AF := fun ds Ω Q _ => ∃ (p : Addr) (m : Int), ds = [.o p, .int m] ∧ Ω p = some (.obj C.c_Purse []) ∧ Q .non (oset Ω p (oPurse C m))
theorem mk_Purse (T : Txt K mg C) : Mkc P w K mg base ca 1 "Purse" C.c_Purse (F_purse C) := by
  refine mkc T.k_Purse sc_Purse___init__ (fun ds Ω Q E h => ?_) (fun f cdv A outer s H E hr => ⟨_, _, (ass_one (as_asg (ae_var 1) (ag_new (ae_var 0)))), fun ds Ω Qa Ea h => ?_⟩)
  · obtain ⟨_, _, rfl, _⟩ := h
    rfl
  · obtain ⟨p, m, rfl, ho, k⟩ := h
    walk_at "pl"
    exact ⟨_, _, ho, by walk_at "nm", T.n_Purse_left, by decide, k⟩
def F_fixed (C : CT) : AF := fun ds Ω Q _ => ∃ (p : Addr) (t b : Int) (g : Bool), ds = [.o p, .int t, .int b, .bl g] ∧ Ω p = some (.obj C.c_Fixed []) ∧ Q .non (oset Ω p (oFixed C t b g))
theorem mk_Fixed (T : Txt K mg C) : Mkc P w K mg base ca 1 "Fixed" C.c_Fixed (F_fixed C) := by
  refine mkc T.k_Fixed sc_Fixed___init__ (fun ds Ω Q E h => ?_) (fun f cdv A outer s H E hr => ⟨_, _, (ass_cons (as_asg (ae_var 1) (ag_new (ae_var 0)))
      (ass_cons (as_asg (ae_var 2) (ag_new (ae_var 0)))
      (ass_one (as_asg (ae_var 3) (ag_new (ae_var 0)))))), fun ds Ω Qa Ea h => ?_⟩)
  · obtain ⟨_, _, _, _, rfl, _⟩ := h
    rfl
  · obtain ⟨p, t, b, g, rfl, ho, k⟩ := h
    walk_at "pl"
    refine ⟨_, _, ho, by walk_at "nm", T.n_Fixed_top, by decide, ?_⟩
    walk_at "pl"
    refine ⟨by walk_at "nm", T.n_Fixed_below, by decide, ?_⟩
    walk_at "pl"
    exact ⟨by walk_at "nm", T.n_Fixed_begun, by decide, k⟩
def F_leafInit (K : PySem.W.Frag) : AF := fun ds Ω Q _ => ∃ (p c : Addr), ds = [.o p] ∧ Ω p = some (.obj c []) ∧ NoAttr K c "many" ∧ Q .non (oset Ω p (.obj c [("many", .int 0)]))
theorem cf_Leaf (T : Txt K mg C) : Cfn P w K mg base ca 1 "Leaf" "__init__" (F_leafInit K) := by
  refine cfn T.i_Leaf sc_Leaf___init__ (fun ds Ω Q E h => ?_) (fun f cdv A outer s H E hr => ⟨_, _, (ass_one (as_asg ae_int (ag_new (ae_var 0)))), fun ds Ω Qa Ea h => ?_⟩)
  · obtain ⟨_, _, rfl, _⟩ := h
    rfl
  · obtain ⟨p, c, rfl, ho, na, k⟩ := h
    walk_at "pl"
    exact ⟨_, _, ho, by walk_at "nm", na, by decide, k⟩
def F_frac (C : CT) : AF := fun ds Ω Q _ => ∃ (p : Addr) (t b : Int), ds = [.o p, .int t, .int b] ∧ Ω p = some (.obj C.c_Fraction []) ∧ Q .non (oset Ω p (oFrac C 0 t b))
theorem mk_Fraction (T : Txt K mg C) : Mkc P w K mg base ca 2 "Fraction" C.c_Fraction (F_frac C) := by
  refine mkc T.k_Fraction sc_Fraction___init__ (fun ds Ω Q E h => ?_) (fun f cdv A outer s H E hr => ⟨_, _, (ass_cons (as_expr (ae_ccall (cf_Leaf T) hr (takes_of rfl rfl rfl rfl) (by omega) (aa_cons (ae_var 0) aa_nil)))
      (ass_cons (as_asg (ae_var 1) (ag_new (ae_var 0)))
      (ass_one (as_asg (ae_var 2) (ag_new (ae_var 0)))))), fun ds Ω Qa Ea h => ?_⟩)
  · obtain ⟨_, _, _, rfl, _⟩ := h
    rfl
  · obtain ⟨p, t, b, rfl, ho, k⟩ := h
    walk_at "pl"
    refine ⟨p, _, rfl, ho, T.n_Fraction_many, ?_⟩
    walk_at "pl"
    refine ⟨by walk_at "nm", T.n_Fraction_top, by decide, ?_⟩
    walk_at "pl"
    exact ⟨by walk_at "nm", T.n_Fraction_below, by decide, k⟩
def F_rootI (C : CT) : AF := fun ds Ω Q _ => ∃ (p : Addr) (t s b : Int), ds = [.o p, .int t, .int s, .int b] ∧ Ω p = some (.obj C.c_Root []) ∧ 0 ≤ s ∧ s < 2 ^ 300 ∧ ∀ f, 0 ≤ f → f * f ≤ s → s < (f + 1) * (f + 1) → Q .non (oset Ω p (oRoot C 0 t s b f))
theorem mk_Root (T : Txt K mg C) : Mkc P w K mg base ca 2 "Root" C.c_Root (F_rootI C) := by
  refine mkc T.k_Root sc_Root___init__ (fun ds Ω Q E h => ?_) (fun f cdv A outer s H E hr => ⟨_, _, (ass_cons (as_expr (ae_ccall (cf_Leaf T) hr (takes_of rfl rfl rfl rfl) (by omega) (aa_cons (ae_var 0) aa_nil)))
      (ass_cons (as_asg (ae_var 1) (ag_new (ae_var 0)))
      (ass_cons (as_asg (ae_var 2) (ag_new (ae_var 0)))
      (ass_cons (as_asg (ae_var 3) (ag_new (ae_var 0)))
      (ass_one (as_asg (ae_call (c_root_below T) hr (takes_of rfl rfl rfl rfl) (by omega) (aa_cons (ae_var 2) aa_nil)) (ag_new (ae_var 0)))))))), fun ds Ω Qa Ea h => ?_⟩)
  · obtain ⟨_, _, _, _, rfl, _⟩ := h
    rfl
  · obtain ⟨p, t, s, b, rfl, ho, s0, s1, k⟩ := h
    walk_at "pl"
    refine ⟨p, _, rfl, ho, T.n_Root_many, ?_⟩
    walk_at "pl"
    refine ⟨by walk_at "nm", T.n_Root_top, by decide, ?_⟩
    walk_at "pl"
    refine ⟨by walk_at "nm", T.n_Root_square, by decide, ?_⟩
    walk_at "pl"
    refine ⟨by walk_at "nm", T.n_Root_below, by decide, ?_⟩
    refine ⟨s, rfl, s0, s1, fun f f0 f1 f2 => ?_⟩
    walk_at "pl"
    exact ⟨by walk_at "nm", T.n_Root_floor, by decide, k f f0 f1 f2⟩
def F_ruledI (C : CT) : AF := fun ds Ω Q _ => ∃ (p : Addr) (ps ring steps : List Int), ds = [.o p, dtup ps, dtup ring, dtup steps] ∧ Ω p = some (.obj C.c_Ruled []) ∧ Q .non (oset Ω p (oRuled C 0 ps ring steps))
theorem mk_Ruled (T : Txt K mg C) : Mkc P w K mg base ca 2 "Ruled" C.c_Ruled (F_ruledI C) := by
  refine mkc T.k_Ruled sc_Ruled___init__ (fun ds Ω Q E h => ?_) (fun f cdv A outer s H E hr => ⟨_, _, (ass_cons (as_expr (ae_ccall (cf_Leaf T) hr (takes_of rfl rfl rfl rfl) (by omega) (aa_cons (ae_var 0) aa_nil)))
      (ass_cons (as_asg (ae_var 1) (ag_new (ae_var 0)))
      (ass_cons (as_asg (ae_var 2) (ag_new (ae_var 0)))
      (ass_one (as_asg (ae_var 3) (ag_new (ae_var 0))))))), fun ds Ω Qa Ea h => ?_⟩)
  · obtain ⟨_, _, _, _, rfl, _⟩ := h
    rfl
  · obtain ⟨p, ps, ring, steps, rfl, ho, k⟩ := h
    walk_at "pl"
    refine ⟨p, _, rfl, ho, T.n_Ruled_many, ?_⟩
    walk_at "pl"
    refine ⟨by walk_at "nm", T.n_Ruled_first, by decide, ?_⟩
    walk_at "pl"
    refine ⟨by walk_at "nm", T.n_Ruled_ring, by decide, ?_⟩
    walk_at "pl"
    exact ⟨by walk_at "nm", T.n_Ruled_steps, by decide, k⟩
def F_fracEnd (C : CT) : AF := fun ds Ω Q _ => ∃ (p : Addr) (k t b : Int), ds = [.o p] ∧ Ω p = some (oFrac C k t b) ∧ Q (.bl (decide (b = 0))) Ω
theorem m_fracEnd (T : Txt K mg C) : ∀ D ∈ [C.c_Fraction], Mth P w K mg base ca 1 D "at_end" (F_fracEnd C) := by
  refine mth T.m_Fraction_at_end sc_Fraction_at_end (fun ds Ω Q E h => ?_) (fun f cdv A outer s H E hr => ⟨_, _, (ass_one (as_ret (ae_eqI (ae_fld 2 (ae_var 0)) ae_int))), fun ds Ω Qa Ea h => ?_⟩)
  · obtain ⟨_, _, _, _, rfl, _⟩ := h
    rfl
  · obtain ⟨p, k, t, b, rfl, ho, q⟩ := h
    walk_at "pl"
    simp only [ho]
    walk_at "pl"
    exact q
def F_noEnd : AF := fun ds Ω Q _ => ∃ p : Addr, ds = [.o p] ∧ Q (.bl false) Ω
theorem m_rootEnd (T : Txt K mg C) : ∀ D ∈ [C.c_Root], Mth P w K mg base ca 1 D "at_end" F_noEnd := by
  refine mth T.m_Leaf_at_end sc_Leaf_at_end (fun ds Ω Q E h => ?_) (fun f cdv A outer s H E hr => ⟨_, _, (ass_one (as_ret ae_bl)), fun ds Ω Qa Ea h => ?_⟩)
  · obtain ⟨_, rfl, _⟩ := h
    rfl
  · obtain ⟨p, rfl, q⟩ := h
    walk_at "pl"
    exact q
def F_fracNext (C : CT) : AF := fun ds Ω Q _ => ∃ (p : Addr) (k t b : Int), ds = [.o p] ∧ Ω p = some (oFrac C k t b) ∧ b ≠ 0 ∧ Sm t ∧ Sm b ∧ Q (.int (t.fdiv b)) (oset Ω p (oFrac C k b (t - t.fdiv b * b)))
theorem sm_nopy {i j : Int} (h : j ≠ 0) (_ : Sm j) : NoPy i j := h
theorem sm_mul {i j : Int} (h : Sm i) (hj : Sm j) : IntMulOk i j := mulok h hj (by decide)
theorem sm_fdiv {i j : Int} (h : Sm i) : Sm (i.fdiv j) := Nat.lt_of_le_of_lt fdiv_le h
theorem m_fracNext (T : Txt K mg C) : ∀ D ∈ [C.c_Fraction], Mth P w K mg base ca 1 D "following" (F_fracNext C) := by
  refine mth T.m_Fraction_following sc_Fraction_following (fun ds Ω Q E h => ?_) (fun f cdv A outer s H E hr => ⟨_, _, (ass_cons (as_set 1 sc_Fraction_following.nd (ae_fdv (div_of hr) (ae_fld 1 (ae_var 0)) (ae_fld 2 (ae_var 0))))
      (ass_cons (as_asg (ae_tup (aa_cons (ae_fld 2 (ae_var 0)) (aa_cons (ae_sub (ae_fld 1 (ae_var 0)) (ae_mul (ae_var 1) (ae_fld 2 (ae_var 0)))) aa_nil))) (ag_tupG (n := 2) rfl (agl_cons (ag_fld 1 (ae_var 0)) (agl_cons (ag_fld 2 (ae_var 0)) agl_nil))))
      (ass_one (as_ret (ae_var 1))))), fun ds Ω Qa Ea h => ?_⟩)
  · obtain ⟨_, _, _, _, rfl, _⟩ := h
    rfl
  · obtain ⟨p, k, t, b, rfl, ho, b0, ht, hb, q⟩ := h
    walk_at "pl"
    simp only [ho]
    walk_at "pl"
    exact ⟨sm_nopy b0 hb, sm_mul (sm_fdiv ht) hb, by decide, by decide, by decide, q⟩
def F_rootNext (C : CT) : AF := fun ds Ω Q _ => ∃ (p : Addr) (k t s b f q t' : Int), ds = [.o p] ∧ Ω p = some (oRoot C k t s b f) ∧ b ≠ 0 ∧ Sm t ∧ Sm s ∧ Sm b ∧ Sm f ∧ q = (t + f + (if b < 0 then 1 else 0)).fdiv b ∧ t' = q * b - t ∧ Sm t' ∧ Q (.int q) (oset Ω p (oRoot C k t' s ((s - t' * t').fdiv b) f))
theorem m_rootNext (T : Txt K mg C) : ∀ D ∈ [C.c_Root], Mth P w K mg base ca 1 D "following" (F_rootNext C) := by
  refine mth T.m_Root_following sc_Root_following (fun ds Ω Q E h => ?_) (fun f cdv A outer s H E hr => ⟨_, _, (ass_cons (as_set 1 sc_Root_following.nd (ae_fdv (div_of hr) (ae_add (ae_add (ae_fld 1 (ae_var 0)) (ae_fld 4 (ae_var 0))) (ae_intB rfl T.b_int (ae_lt (ae_fld 3 (ae_var 0)) ae_int))) (ae_fld 3 (ae_var 0))))
      (ass_cons (as_asg (ae_sub (ae_mul (ae_var 1) (ae_fld 3 (ae_var 0))) (ae_fld 1 (ae_var 0))) (ag_fld 1 (ae_var 0)))
      (ass_cons (as_asg (ae_fdv (div_of hr) (ae_sub (ae_fld 2 (ae_var 0)) (ae_mul (ae_fld 1 (ae_var 0)) (ae_fld 1 (ae_var 0)))) (ae_fld 3 (ae_var 0))) (ag_fld 3 (ae_var 0)))
      (ass_one (as_ret (ae_var 1)))))), fun ds Ω Qa Ea h => ?_⟩)
  · obtain ⟨_, _, _, _, _, _, _, _, rfl, _⟩ := h
    rfl
  · obtain ⟨p, k, t, s, b, f, q, t', rfl, ho, b0, ht, hs, hb, hf, eq, et, ht', kk⟩ := h
    walk_at "pl"
    simp only [ho]
    walk_at "pl"
    rw [← eq, ← et]
    have hq : q.natAbs < 2 ^ 290002 := by
      have h1 : q.natAbs ≤ (t + f + (if b < 0 then 1 else 0)).natAbs := by rw [eq]; exact fdiv_le
      have h2 : t.natAbs < 2 ^ 290000 := ht
      have h3 : f.natAbs < 2 ^ 290000 := hf
      have h4 : (2 : Nat) ^ 290002 = 2 ^ 290000 * 4 := by rw [show 290002 = 290000 + 2 from rfl, Nat.pow_add]
      generalize (2 : Nat) ^ 290002 = X at h4 ⊢
      generalize (2 : Nat) ^ 290000 = Y at h2 h3 h4
      split at h1 <;> omega
    exact ⟨sm_nopy b0 hb, mulok hq hb (by decide), by decide, sm_mul ht' ht', sm_nopy b0 hb, by decide, kk⟩
def F_ruEnd (C : CT) : AF := fun ds Ω Q _ => ∃ (p : Addr) (k : Int) (ps ring steps : List Int), ds = [.o p] ∧ Ω p = some (oRuled C k ps ring steps) ∧ Q (.bl (decide (ring = [] ∧ ps.length ≤ k))) Ω
theorem m_ruEnd (T : Txt K mg C) : ∀ D ∈ [C.c_Ruled], Mth P w K mg base ca 1 D "at_end" (F_ruEnd C) := by
  refine mth T.m_Ruled_at_end sc_Ruled_at_end (fun ds Ω Q E h => ?_) (fun f cdv A outer s H E hr => ⟨_, _, (ass_one (as_ret (ae_and (ae_eqD hr.units (ae_fld 2 (ae_var 0)) (ae_tup aa_nil)) (ae_one (ae_ge (ae_fld 0 (ae_var 0)) (ae_len rfl T.b_len (ae_fld 1 (ae_var 0)))))))), fun ds Ω Qa Ea h => ?_⟩)
  · obtain ⟨_, _, _, _, _, rfl, _⟩ := h
    rfl
  · obtain ⟨p, k, ps, ring, steps, rfl, ho, kk⟩ := h
    walk_at "pl"
    simp only [ho]
    walk_at "pl"
    refine ⟨Nat.zero_le _, fEq_nil ⟨_, rfl, ?_⟩⟩
    simp only [Bool.false_eq_true, if_false]
    by_cases hr : ring = []
    · rw [decide_eq_true hr, if_pos rfl]
      simp only [ho]
      walk_at "pl"
      rw [List.length_map]
      have e : (decide (ring = [] ∧ (ps.length : Int) ≤ k)) = decide ((ps.length : Int) ≤ k) := by simp only [hr, true_and]
      rw [e] at kk
      exact kk
    · rw [decide_eq_false hr, if_neg (by decide)]
      have e : (decide (ring = [] ∧ (ps.length : Int) ≤ k)) = false := by simp only [hr, false_and]; rfl
      rw [e] at kk
      exact kk
def F_ruNext (C : CT) : AF := fun ds Ω Q _ => ∃ (p : Addr) (k : Nat) (ps ring steps : List Int), ds = [.o p] ∧ Ω p = some (oRuled C ((k : Int) + 1) ps ring steps) ∧ (ring = [] → k < ps.length) ∧ steps.length = ring.length ∧ k < 2 ^ 60 ∧ ps.length < 2 ^ 60 ∧ ring.length < 2 ^ 60 ∧ (∀ n ∈ ring ++ steps, Sm n) ∧ Q (.int (ruV k ps ring steps)) Ω
theorem m_ruNext (T : Txt K mg C) : ∀ D ∈ [C.c_Ruled], Mth P w K mg base ca 1 D "following" (F_ruNext C) := by
  refine mth T.m_Ruled_following sc_Ruled_following (fun ds Ω Q E h => ?_) (fun f cdv A outer s H E hr => ⟨_, _, (ass_cons (as_set 1 sc_Ruled_following.nd (ae_sub (ae_fld 0 (ae_var 0)) ae_int))
      (ass_cons (as_if (at_lt (ae_var 1) (ae_len rfl T.b_len (ae_fld 1 (ae_var 0)))) (ass_one (as_ret (ae_ix (ae_fld 1 (ae_var 0)) (ae_var 1)))) ass_nil)
      (ass_cons (as_set 1 sc_Ruled_following.nd (ae_sub (ae_var 1) (ae_len rfl T.b_len (ae_fld 1 (ae_var 0)))))
      (ass_cons (as_set 2 sc_Ruled_following.nd (ae_fdv (div_of hr) (ae_var 1) (ae_len rfl T.b_len (ae_fld 2 (ae_var 0)))))
      (ass_one (as_ret (ae_add (ae_ix (ae_fld 2 (ae_var 0)) (ae_mod (ae_var 1) (ae_len rfl T.b_len (ae_fld 2 (ae_var 0))))) (ae_mul (ae_var 2) (ae_ix (ae_fld 3 (ae_var 0)) (ae_mod (ae_var 1) (ae_len rfl T.b_len (ae_fld 2 (ae_var 0))))))))))))), fun ds Ω Qa Ea h => ?_⟩)
  · obtain ⟨_, _, _, _, _, rfl, _⟩ := h
    rfl
  · obtain ⟨p, k, ps, ring, steps, rfl, ho, h1, h2, h3, h4, h5, h6, kk⟩ := h
    walk_at "pl"
    simp only [ho]
    walk_at "pl"
    simp only [List.length_map]
    unfold ruV at kk
    have e0 : (k : Int) + 1 - 1 = k := by omega
    rw [e0]
    refine ite2 (fun e => ?_) (fun e => ?_)
    · have e' : k < ps.length := by omega
      rw [if_pos e'] at kk
      exact ⟨_, getD_at e' rfl, kk⟩
    · have e' : ¬ k < ps.length := by omega
      rw [if_neg e'] at kk
      have hr : 0 < ring.length := List.length_pos_iff.mpr fun z => e' (h1 z)
      have e1 : (k : Int) - ps.length = ((k - ps.length : Nat) : Int) := by omega
      have hm : (k - ps.length) % ring.length < ring.length := Nat.mod_lt _ hr
      have f1 : ((k - ps.length : Nat) : Int).fmod (ring.length : Int) = (((k - ps.length) % ring.length : Nat) : Int) := by rw [Int.fmod_eq_emod_of_nonneg _ (by omega)]; rfl
      have f2 : ((k - ps.length : Nat) : Int).fdiv (ring.length : Int) = (((k - ps.length) / ring.length : Nat) : Int) := by rw [Int.fdiv_eq_ediv_of_nonneg _ (by omega)]; rfl
      rw [e1, f1, f2]
      have hs : Sm (steps.getD ((k - ps.length) % ring.length) 0) := h6 _ (List.mem_append_right _ (getD_mem (by rw [h2]; exact hm)))
      have hd : (k - ps.length) / ring.length ≤ k - ps.length := Nat.div_le_self _ _
      generalize (k - ps.length) / ring.length = qq at hd kk ⊢
      exact ⟨nopy (by omega) (Nat.lt_of_lt_of_le (m := 2 ^ 60) (by omega) (Nat.pow_le_pow_right (by decide) (by decide))), by omega, _, getD_at hm rfl, by omega, _, getD_at (by rw [h2]; exact hm) rfl, _, rfl, mulok_l (by omega) (by omega), _, rfl, kk⟩
/-- all but S and pu stand -/
def Fr (S : List Addr) (pu : Addr) (Ω Ω' : Om) : Prop := ∀ b, b ∉ S → b ≠ pu → Ω b ≠ none → Ω' b = Ω b
/-- a four keeps its inner reader -/
def Inn (kd : Kd) (p : Addr) (Ω Ω' : Om) : Prop := kd = .four → ∃ c fs c' fs', Ω p = some (.obj c fs) ∧ Ω' p = some (.obj c' fs') ∧ fs'[1]? = fs[1]?
def F_told (C : CT) (kd : Kd) (L : Nat) : AF := fun ds Ω Q E => ∃ (p pu : Addr) (r : R) (S : List Addr) (n : Nat) (m : Int) (r' : R) (m' : Int) (ans : Ans), ds = [.o p, .o pu] ∧ r.kd = kd ∧ r.lv ≤ L ∧ RdO C Ω p r S ∧ Ω pu = some (oPurse C m) ∧ pu ∉ S ∧ Told n r m r' m' ans ∧
  ∀ (Ω' : Om) (S' : List Addr), RdO C Ω' p r' S' → Ω' pu = some (oPurse C m') → Fr S pu Ω Ω' → (∀ b ∈ S', b ∈ S ∨ Ω b = none) → Inn kd p Ω Ω' → ans.ok C Q E Ω'
theorem told_len {C : CT} {kd : Kd} {L : Nat} : ∀ ds Ω Q E, F_told C kd L ds Ω Q E → ds.length = (["self", "purse"] : List Str).length := by
  rintro ds Ω Q E ⟨_, _, _, _, _, _, _, _, _, rfl, _⟩
  rfl
theorem fr_set {S : List Addr} {pu p : Addr} {Ω : Om} {o : AO} (h : p ∈ S) : Fr S pu Ω (oset Ω p o) := fun b hb _ _ => oset_ne fun e => hb (e ▸ h)
theorem fr_refl {S : List Addr} {pu : Addr} {Ω : Om} : Fr S pu Ω Ω := fun _ _ _ _ => rfl
theorem m_fixedTold (T : Txt K mg C) : ∀ D ∈ [C.c_Fixed], Mth P w K mg base ca 1 D "told" (F_told C .fixed 1) := by
  refine mth T.m_Fixed_told sc_Fixed_told told_len (fun f cdv A outer s H E hr => ⟨_, _, (ass_cons (as_if (at_eqI (ae_fld 1 (ae_var 0)) ae_int) (ass_cons (as_if (at_not (at_val (ae_fld 2 (ae_var 0)))) (ass_one (as_raise rfl (takes_of rfl rfl rfl rfl) T.x_NoValue)) ass_nil)
      (ass_one (as_ret (ae_tup (aa_cons ae_str aa_nil))))) ass_nil)
      (ass_cons (as_set 2 sc_Fixed_told.nd (ae_fdv (div_of hr) (ae_fld 0 (ae_var 0)) (ae_fld 1 (ae_var 0))))
      (ass_cons (as_asg ae_bl (ag_fld 2 (ae_var 0)))
      (ass_cons (as_asg (ae_tup (aa_cons (ae_fld 1 (ae_var 0)) (aa_cons (ae_sub (ae_fld 0 (ae_var 0)) (ae_mul (ae_var 2) (ae_fld 1 (ae_var 0)))) aa_nil))) (ag_tupG (n := 2) rfl (agl_cons (ag_fld 0 (ae_var 0)) (agl_cons (ag_fld 1 (ae_var 0)) agl_nil))))
      (ass_one (as_ret (ae_tup (aa_cons ae_str (aa_cons (ae_var 2) aa_nil))))))))), fun ds Ω Qa Ea h => ?_⟩)
  obtain ⟨p, pu, r, S, n, m, r', m', ans, rfl, hk, hl, hR, hp, hn, ht, k⟩ := h
  cases hR with
  | fixed ho =>
    rename_i t b g
    walk_at "pl"
    simp only [ho]
    walk_at "pl"
    cases ht with
    | fxEnd => exact ⟨by decide, k _ _ (.fixed ho) hp fr_refl (fun b hb => .inl hb) nofun⟩
    | fxNo => exact k _ _ (.fixed ho) hp fr_refl (fun b hb => .inl hb) nofun
    | fxPart b0 h1 h2 =>
      rw [if_neg b0]
      have hne : pu ≠ p := fun e => hn (by simp [e])
      exact ⟨sm_nopy b0 h2, by decide, sm_mul (sm_fdiv h1) h2, by decide, by decide, by decide, by decide, k _ _ (.fixed oset_same) ((oset_ne hne).trans hp) (fr_set (by simp)) (fun b hb => .inl hb) nofun⟩
  | _ => cases hk
theorem fr_two {S : List Addr} {pu p : Addr} {Ω : Om} {o u : AO} (h : p ∈ S) : Fr S pu Ω (oset (oset Ω pu u) p o) := fun b hb hp _ => by rw [oset_ne (fun e => hb (by rw [e]; exact h)), oset_ne hp]
theorem m_leafTold (T : Txt K mg C) : ∀ D ∈ [C.c_Fraction, C.c_Root, C.c_Ruled], Mth P w K mg base ca 2 D "told" (F_told C .leaf 3) := by
  refine mth T.m_Leaf_told sc_Leaf_told told_len (fun f cdv A outer s H E hr => ⟨_, _, (ass_cons (as_if (at_val (ae_meth0 (k := 1) hr (takes_of rfl rfl rfl rfl) (by omega) (ae_var 0))) (ass_one (as_ret (ae_tup (aa_cons ae_str aa_nil)))) ass_nil)
      (ass_cons (as_if (at_eqI (ae_fld 0 (ae_var 1)) ae_int) (ass_one (as_ret (ae_tup (aa_cons ae_str aa_nil)))) ass_nil)
      (ass_cons (as_asg (ae_sub (ae_fld 0 (ae_var 1)) ae_int) (ag_fld 0 (ae_var 1)))
      (ass_cons (as_asg (ae_add (ae_fld 0 (ae_var 0)) ae_int) (ag_fld 0 (ae_var 0)))
      (ass_one (as_ret (ae_tup (aa_cons ae_str (aa_cons (ae_meth0 (k := 1) hr (takes_of rfl rfl rfl rfl) (by omega) (ae_var 0)) aa_nil))))))))), fun ds Ω Qa Ea h => ?_⟩)
  obtain ⟨p, pu, r, S, n, m, r', m', ans, rfl, hk, hl, hR, hp, hn, ht, k⟩ := h
  cases hR with
  | frac ho =>
    rename_i kk t b
    have hne : pu ≠ p := fun e => hn (by simp [e])
    have hne' : p ≠ pu := Ne.symm hne
    walk_at "pl"
    refine ⟨_, _, ho, by walk_at "nm", F_fracEnd C, m_fracEnd T _ (by simp), p, kk, t, b, rfl, ho, _, rfl, ?_⟩
    cases ht with
    | frEnd => exact ⟨by decide, k _ _ (.frac ho) hp fr_refl (fun b hb => .inl hb) nofun⟩
    | frWait b0 =>
      rw [if_neg (by simp [b0])]
      simp only [hp]
      walk_at "pl"
      exact ⟨by decide, k _ _ (.frac ho) hp fr_refl (fun b hb => .inl hb) nofun⟩
    | frPart b0 m0 h1 h2 =>
      rw [if_neg (by simp [b0])]
      simp only [hp]
      walk_at "pl"
      rw [if_neg m0]
      refine ⟨by decide, ?_⟩
      simp only [oset_ne hne', ho]
      walk_at "pl"
      refine ⟨by decide, by decide, F_fracNext C, m_fracNext T _ (by simp), p, kk + 1, t, b, rfl, oset_same, b0, h1, h2, by decide, ?_⟩
      rw [oset_oset]
      exact k _ _ (.frac oset_same) ((oset_ne hne).trans oset_same) (fr_two (by simp)) (fun b hb => .inl hb) nofun
  | root ho =>
    rename_i kk t s' b f'
    have hne : pu ≠ p := fun e => hn (by simp [e])
    have hne' : p ≠ pu := Ne.symm hne
    walk_at "pl"
    refine ⟨_, _, ho, by walk_at "nm", F_noEnd, m_rootEnd T _ (by simp), p, rfl, _, rfl, ?_⟩
    rw [if_neg (by decide)]
    simp only [hp]
    walk_at "pl"
    cases ht with
    | rtWait => exact ⟨by decide, k _ _ (.root ho) hp fr_refl (fun b hb => .inl hb) nofun⟩
    | rtPart m0 b0 h1 h2 h3 h4 h5 h6 h7 =>
      rename_i q t'
      rw [if_neg m0]
      refine ⟨by decide, ?_⟩
      simp only [oset_ne hne', ho]
      walk_at "pl"
      refine ⟨by decide, by decide, F_rootNext C, m_rootNext T _ (by simp), p, kk + 1, t, s', b, f', q, t', rfl, oset_same, b0, h1, h2, h3, h4, h5, h6, h7, by decide, ?_⟩
      rw [oset_oset]
      exact k _ _ (.root oset_same) ((oset_ne hne).trans oset_same) (fr_two (by simp)) (fun b hb => .inl hb) nofun
  | ruled ho =>
    rename_i kk ps ring steps
    have hne : pu ≠ p := fun e => hn (by simp [e])
    have hne' : p ≠ pu := Ne.symm hne
    walk_at "pl"
    refine ⟨_, _, ho, by walk_at "nm", F_ruEnd C, m_ruEnd T _ (by simp), p, kk, ps, ring, steps, rfl, ho, _, rfl, ?_⟩
    cases ht with
    | ruEnd h1 =>
      rw [if_pos (by simp; omega)]
      exact ⟨by decide, k _ _ (.ruled ho) hp fr_refl (fun b hb => .inl hb) nofun⟩
    | ruWait h1 =>
      rw [if_neg (by simp; intro z; have := h1 z; omega)]
      simp only [hp]
      walk_at "pl"
      exact ⟨by decide, k _ _ (.ruled ho) hp fr_refl (fun b hb => .inl hb) nofun⟩
    | ruPart h1 m0 h2 h3 h4 h5 h6 =>
      rw [if_neg (by simp; intro z; have := h1 z; omega)]
      simp only [hp]
      walk_at "pl"
      rw [if_neg m0]
      refine ⟨by decide, ?_⟩
      simp only [oset_ne hne', ho]
      walk_at "pl"
      refine ⟨by decide, by decide, F_ruNext C, m_ruNext T _ (by simp), p, kk, ps, ring, steps, rfl, oset_same, h1, h2, h3, h4, h5, h6, by decide, ?_⟩
      exact k _ _ (.ruled oset_same) ((oset_ne hne).trans oset_same) (fr_two (by simp)) (fun b hb => .inl hb) nofun
  | _ => cases hk
structure Tolds (P : Program) (w : World) (K : PySem.W.Frag) (mg : Str → Option Value) (base : Heap) (ca : CA) (C : CT) (L : Nat) : Prop where
  all : ∀ kd, ∀ D ∈ C.cls kd, Mth P w K mg base ca L D "told" (F_told C kd L)
theorem F_told_leaf {C : CT} {L M : Nat} (hL : 3 ≤ L) : ∀ ds Ω Q E, F_told C .leaf M ds Ω Q E → F_told C .leaf L ds Ω Q E := by
  rintro ds Ω Q E ⟨p, pu, r, S, n, m, r', m', ans, e, hk, hl, z⟩
  exact ⟨p, pu, r, S, n, m, r', m', ans, e, hk, by rw [R.lv_leaf hk]; omega, z⟩
theorem F_told_fixed {C : CT} {L M : Nat} (hL : 1 ≤ L) : ∀ ds Ω Q E, F_told C .fixed M ds Ω Q E → F_told C .fixed L ds Ω Q E := by
  rintro ds Ω Q E ⟨p, pu, r, S, n, m, r', m', ans, e, hk, hl, z⟩
  exact ⟨p, pu, r, S, n, m, r', m', ans, e, hk, by rw [R.lv_fixed hk]; omega, z⟩
theorem tolds3 (T : Txt K mg C) : Tolds P w K mg base ca C 3 := by
  refine ⟨fun kd D hD => ?_⟩
  cases kd with
  | fixed => exact ((m_fixedTold T D hD).imp (F_told_fixed (by decide))).mono (by decide)
  | leaf => exact ((m_leafTold T D hD).imp (F_told_leaf (by decide))).mono (by decide)
  | four => exact mth_none T.m_Four_told (fun ds Ω Q E ⟨p, pu, r, S, n, m, r', m', ans, e, hk, hl, z⟩ => by have := R.lv_four hk; omega) D hD
  | eight => exact mth_none T.m_Eight_told (fun ds Ω Q E ⟨p, pu, r, S, n, m, r', m', ans, e, hk, hl, z⟩ => by have := R.lv_eight hk; omega) D hD
def F_part (C : CT) (L : Nat) : AF := fun ds Ω Q E => ∃ (p : Addr) (r : R) (S : List Addr) (n : Nat) (m : Int) (r' : R) (m' : Int) (ans : Ans), ds = [.o p, .int m] ∧ r.lv ≤ L ∧ RdO C Ω p r S ∧ Told n r m r' m' ans ∧
  ∀ (Ω' : Om) (S' : List Addr), RdO C Ω' p r' S' → (∀ b, b ∉ S → Ω b ≠ none → Ω' b = Ω b) → (∀ b ∈ S', b ∈ S ∨ Ω b = none) → ans.ok C Q E Ω'
theorem m_part (T : Txt K mg C) {L : Nat} (tl : Tolds P w K mg base ca C L) : ∀ D ∈ [C.c_Fixed, C.c_Fraction, C.c_Root, C.c_Ruled, C.c_Four, C.c_Eight], Mth P w K mg base ca (L + 2 + 1) D "part" (F_part C L) := by
  refine mth T.m_Reader_part sc_Reader_part (fun ds Ω Q E h => ?_) (fun f cdv A outer s H E hr => ⟨_, _, (ass_one (as_ret (ae_meth (k := L) hr (takes_of rfl rfl rfl rfl) (by omega) (ae_var 0) (aa_cons (ae_make (mk_Purse T) hr (takes_of rfl rfl rfl rfl) (by omega) (aa_cons (ae_var 1) aa_nil)) aa_nil)))), fun ds Ω Qa Ea h => ?_⟩)
  · obtain ⟨_, _, _, _, _, _, _, _, rfl, _⟩ := h
    rfl
  · obtain ⟨p, r, S, n, m, r', m', ans, rfl, hl, hR, ht, k⟩ := h
    obtain ⟨c, fs, ho, hm, hc⟩ := hR.obj
    walk_at "pl"
    refine ⟨c, fs, ho, hm _ (.inl rfl), F_told C r.kd L, tl.all r.kd c hc, fun pu hpu => ⟨pu, m, rfl, oset_same, rfl, ?_⟩⟩
    have hS : ∀ b ∈ S, b ≠ pu := fun b hb e => hR.there b hb (by rw [e]; exact hpu)
    rw [oset_oset]
    refine ⟨p, pu, r, S, n, m, r', m', ans, rfl, rfl, hl, hR.keep fun b hb => oset_ne (hS b hb), oset_same, fun z => hS pu z rfl, ht, fun Ω' S' hR' hp' fr fs' _ => ?_⟩
    have fr' : ∀ b, b ∉ S → Ω b ≠ none → Ω' b = Ω b := fun b hb hn => by
      have hne : b ≠ pu := fun e => hn (by rw [e]; exact hpu)
      rw [fr b hb hne (by rw [oset_ne hne]; exact hn), oset_ne hne]
    have q := k Ω' S' hR' fr' fun b hb => (fs' b hb).imp id fun z => by
      by_cases e : b = pu
      · rw [e]; exact hpu
      · rwa [oset_ne e] at z
    cases ans <;> exact q
def F_took (C : CT) (r : R → Prop) : AF := fun ds Ω Q _ => ∃ (p : Addr) (x : R) (S : List Addr), ds = [.o p] ∧ RdO C Ω p x S ∧ r x ∧ Q (.int x.tk) Ω
theorem m_leafTook (T : Txt K mg C) : ∀ D ∈ [C.c_Fraction, C.c_Root, C.c_Ruled], Mth P w K mg base ca 1 D "took" (F_took C fun r => r.kd = .leaf) := by
  refine mth T.m_Leaf_took sc_Leaf_took (fun ds Ω Q E h => ?_) (fun f cdv A outer s H E hr => ⟨_, _, (ass_one (as_ret (ae_fld 0 (ae_var 0)))), fun ds Ω Qa Ea h => ?_⟩)
  · obtain ⟨_, _, _, rfl, _⟩ := h
    rfl
  · obtain ⟨p, x, S, rfl, hR, hk, k⟩ := h
    cases hR with
    | frac ho =>
      walk_at "pl"
      simp only [ho]
      walk_at "pl"
      exact k
    | root ho =>
      walk_at "pl"
      simp only [ho]
      walk_at "pl"
      exact k
    | ruled ho =>
      walk_at "pl"
      simp only [ho]
      walk_at "pl"
      exact k
    | _ => cases hk
def F_must (C : CT) : AF := fun ds Ω Q E => ∃ b : Bool, ds = [.bl b] ∧ (if b = true then Q .non Ω else E (.ref C.c_BadTree) Ω)
theorem c_must (T : Txt K mg C) : Clb P w K mg base ca 1 "must" (F_must C) := by
  refine clb T.d_must sc_must (fun ds Ω Q E h => ?_) (fun f cdv A outer s H E hr => ⟨_, _, (ass_one (as_if (at_not (at_val (ae_var 0))) (ass_one (as_raise rfl (takes_of rfl rfl rfl rfl) T.x_BadTree)) ass_nil)), fun ds Ω Qa Ea h => ?_⟩)
  · obtain ⟨_, rfl, _⟩ := h
    rfl
  · obtain ⟨b, rfl, k⟩ := h
    walk_at "pl"
    cases b <;> exact k
def optD : Option Int → D
  | none => .non
  | some q => .int q
def cD (c : Int × Int) : D := .tup [.int c.1, .int c.2]
theorem seq_cD {Ω : Om} {c : Int × Int} : (cD c).seq Ω = some [.int c.1, .int c.2] := rfl
def Bg (x : Int) : Prop := x.natAbs < 2 ^ 290400
theorem compL_map {α : Type} {g : AG} {c : ATT} {re : ATE} {vs : List Nat} {Wa : AW} {ρ : En} {Q : AQ} (em f : α → D) (I : Om → Prop) : ∀ (xs : List α) (acc : List D) (Ω : Om), I Ω → acc.length + xs.length ≤ 100000 →
    (∀ x ∈ xs, ∀ (Ω' : Om) (R : AQ) (Z : Om → Prop), I Ω' → (∀ Ω'', I Ω'' → R (f x) Ω'') → g (em x) (wipeA ρ vs) Ω' fun ρ1 Ω1 => c Wa ρ1 Ω1 fun k Ω2 => if k = true then re Wa ρ1 Ω2 R else Z Ω2) →
    (∀ Ω', I Ω' → Q (.lst (acc ++ xs.map f)) Ω') → compL g c re vs (xs.map em) acc Wa ρ Ω Q
  | [], acc, Ω, i, _, _, k => by
    have := k Ω i
    rw [List.map_nil, List.append_nil] at this
    exact this
  | x :: xs, acc, Ω, i, hl, h, k => h x List.mem_cons_self Ω _ _ i fun Ω' i' => ⟨by rw [List.length_cons] at hl; exact small1000' (by omega), by
    refine compL_map em f I xs (acc ++ [f x]) Ω' i' (by rw [List.length_append, List.length_singleton]; rw [List.length_cons] at hl; omega) (fun y hy => h y (List.mem_cons_of_mem _ hy)) fun Ω'' i'' => ?_
    rw [List.append_assoc]
    exact k Ω'' i''⟩
def F_below : AF := fun ds Ω Q _ => ∃ (c0 : Int × Int) (cs : List (Int × Int)), ds = [.lst ((c0 :: cs).map cD)] ∧ cs.length ≤ 3 ∧ (∀ c ∈ c0 :: cs, Bg c.1 ∧ Bg c.2) ∧ Q (optD (belowAll (c0 :: cs))) Ω
def P_b1 (c0 : Int × Int) (cs : List (Int × Int)) (Ω : Om) : List D → En → Om → Prop := fun us ρ Ω' => ∃ (ds dn : List (Int × Int)) (z1 z2 : Option D), us = ds.map cD ∧ dn ++ ds = c0 :: cs ∧ (∀ c ∈ dn, 0 < c.2 * c0.2) ∧ Ω' = Ω ∧ ρ = [some (.lst ((c0 :: cs).map cD)), z1, z2, none, none]
def P_b2 (c0 : Int × Int) (cs : List (Int × Int)) (l : Int) (Ω : Om) : List D → En → Om → Prop := fun us ρ Ω' => ∃ (ds dn : List (Int × Int)) (z1 z2 z3 : Option D), us = ds.map cD ∧ dn ++ ds = c0 :: cs ∧ belowRest l c0 (c0 :: cs) = belowRest l c0 ds ∧ Ω' = Ω ∧ ρ = [some (.lst ((c0 :: cs).map cD)), z1, z2, some (.int l), z3]
theorem bg_mul {i j : Int} (h : Bg i) (hj : Bg j) : IntMulOk i j := mulok h hj (by decide)
theorem bg_nopy {i j : Int} (h : j ≠ 0) (_ : Bg j) : NoPy i j := h
theorem bg_rest {t b l : Int} (ht : Bg t) (hb : Bg b) (hl : l.natAbs ≤ 2 ^ 290400) : IntMulOk (l + 1) b ∧ IntMulOk (t - (l + 1) * b) b := by
  unfold Bg at ht hb
  have e1 : (2 : Nat) ^ 290402 = 2 ^ 290400 * 4 := by rw [show 290402 = 290400 + 2 from rfl, Nat.pow_add]
  have e2 : (2 : Nat) ^ 580803 = 2 ^ 290402 * 2 ^ 290401 := by rw [← Nat.pow_add]
  have e3 : (2 : Nat) ^ 290401 = 2 ^ 290400 * 2 := by rw [Nat.pow_succ]
  have h1 : (l + 1).natAbs < 2 ^ 290402 := by
    generalize (2 : Nat) ^ 290402 = X at e1 ⊢
    generalize (2 : Nat) ^ 290400 = Y at *
    omega
  have h2 : (t - (l + 1) * b).natAbs < 2 ^ 580804 := by
    have h3 : ((l + 1) * b).natAbs ≤ 2 ^ 290402 * 2 ^ 290400 := by
      rw [Int.natAbs_mul]
      exact Nat.mul_le_mul (Nat.le_of_lt h1) (Nat.le_of_lt hb)
    have h4 : (2 : Nat) ^ 580804 = 2 ^ 290402 * 2 ^ 290400 * 4 := by rw [← Nat.pow_add, show (4 : Nat) = 2 ^ 2 from rfl, ← Nat.pow_add]
    have h5 : (2 : Nat) ^ 290400 ≤ 2 ^ 290402 * 2 ^ 290400 := Nat.le_mul_of_pos_left _ (Nat.pow_pos (by decide))
    have h6 := Int.natAbs_sub_le t ((l + 1) * b)
    rw [h4]
    generalize (2 : Nat) ^ 290402 * 2 ^ 290400 = X at h3 h5 ⊢
    generalize (2 : Nat) ^ 290400 = Y at *
    omega
  exact ⟨mulok h1 hb (by decide), mulok h2 hb (by decide)⟩
theorem c_below_all (T : Txt K mg C) : Clb P w K mg base ca 1 "below_all" F_below := by
  refine clb T.d_below_all sc_below_all (fun ds Ω Q E h => ?_) (fun f cdv A outer s H E hr => ⟨_, _, (ass_cons (as_for (passes_of rfl) rfl (ae_var 0) (ag_tup (n := 2) rfl (ags_cons (i := 1) sc_below_all.nd rfl (Or.inl rfl) (ags_cons (i := 2) sc_below_all.nd rfl (Or.inl rfl) ags_nil))) (ass_one (as_if (at_le (ae_mul (ae_var 2) (ae_ix (ae_ix (ae_var 0) ae_int) ae_int)) ae_int) (ass_one (as_ret ae_non)) ass_nil)))
      (ass_cons (as_set 3 sc_below_all.nd (ae_min rfl T.b_min rfl (ae_lc rfl sc_below_all.nd (ae_var 0) (show BlkOk ["corners", "top", "below", "least", "rest"] (defScope s_below_all) _ [("top", 1), ("below", 2)] from blkOk_by (by decide +kernel)) (wip_tup (by decide)) (fun s1 H1 C1 cl1 fp1 => (ag_tup (n := 2) rfl (ags_cons (i := 1) sc_below_all.nd rfl (Or.inl rfl) (ags_cons (i := 2) sc_below_all.nd rfl (Or.inl rfl) ags_nil)))) (fun s1 H1 C1 cl1 fp1 => AE.cast (ae_fdv (div_blk (div_of hr)) (ae_var 1) (ae_var 2)) (by first | (dsimp only [Blk, Cx.blk]; done) | rfl)))))
      (ass_cons (as_for (passes_of rfl) rfl (ae_var 0) (ag_tup (n := 2) rfl (ags_cons (i := 1) sc_below_all.nd rfl (Or.inl rfl) (ags_cons (i := 2) sc_below_all.nd rfl (Or.inl rfl) ags_nil))) (ass_cons (as_set 4 sc_below_all.nd (ae_mul (ae_sub (ae_var 1) (ae_mul (ae_add (ae_var 3) ae_int) (ae_var 2))) (ae_var 2)))
      (ass_one (as_if (AWt.at_ (aw_or (at_gt (ae_var 4) ae_int) (aw_or1 (AWt.at_ (aw_and (at_eqI (ae_var 4) ae_int) (aw_and1 (at_eqI (ae_mul (ae_var 1) (ae_ix (ae_ix (ae_var 0) ae_int) ae_int)) (ae_mul (ae_ix (ae_ix (ae_var 0) ae_int) ae_int) (ae_var 2))))))))) (ass_one (as_ret ae_non)) ass_nil))))
      (ass_one (as_ret (ae_var 3)))))), fun ds Ω Qa Ea h => ?_⟩)
  · obtain ⟨_, _, rfl, _⟩ := h
    rfl
  · obtain ⟨c0, cs, rfl, hl, hb, k⟩ := h
    walk_at "pl"
    refine forL_ind (P_b1 c0 cs Ω) ⟨c0 :: cs, [], none, none, rfl, rfl, by simp, rfl, rfl⟩ ?_ ?_
    · rintro ρ Ω' ⟨ds, dn, z1, z2, e, e2, h0, rfl, rfl⟩
      have hds : ds = [] := by cases ds with
        | nil => rfl
        | cons _ _ => cases e
      subst hds
      rw [List.append_nil] at e2
      subst e2
      have hany : (c0 :: cs).any (fun c => decide (c.2 * c0.2 ≤ 0)) = false := by
        rw [List.any_eq_false]
        intro c hc
        have := h0 c hc
        simp only [decide_eq_true_eq]
        omega
      have hbel : belowAll (c0 :: cs) = belowRest ((cs.map fun c => c.1.fdiv c.2).foldl min (c0.1.fdiv c0.2)) c0 (c0 :: cs) := by
        unfold belowAll
        simp only [hany]
        rfl
      have hne : ∀ c ∈ c0 :: cs, c.2 ≠ 0 := fun c hc z => by
        have := h0 c hc
        rw [z, Int.zero_mul] at this
        omega
      walk_at "pl"
      refine compL_map cD (fun c => .int (c.1.fdiv c.2)) (fun Ω'' => Ω'' = Ω') (c0 :: cs) [] Ω' rfl (by simp only [List.length_cons, List.length_nil]; omega) (fun c hc Ω1 R Z hΩ hk => ?_) (fun Ω1 hΩ => ?_)
      · subst hΩ
        simp only [wipeA, aYes, cD]
        walk_at "pl"
        exact ⟨bg_nopy (hne c hc) (hb c hc).2, hk _ rfl⟩
      · subst hΩ
        refine ⟨(c0 :: cs).map fun c => c.1.fdiv c.2, by rw [List.nil_append, List.map_map]; rfl, by simp, fun m hm hm2 => ?_⟩
        rw [List.map_cons] at hm hm2
        rw [min_spec (cs.map fun c : Int × Int => c.1.fdiv c.2) (c0.1.fdiv c0.2) m hm hm2] at hbel
        have hmb : m.natAbs ≤ 2 ^ 290400 := by
          rw [← List.map_cons (f := fun c : Int × Int => c.1.fdiv c.2)] at hm
          obtain ⟨c, hc, rfl⟩ := List.mem_map.mp hm
          exact Nat.le_of_lt (Nat.lt_of_le_of_lt fdiv_le (hb c hc).1)
        refine forL_ind (P_b2 c0 cs m Ω1) ⟨c0 :: cs, [], z1, z2, none, rfl, rfl, rfl, rfl, rfl⟩ ?_ ?_
        · rintro ρ Ω' ⟨ds, dn, z1, z2, z3, e, e2, h1, rfl, rfl⟩
          have hds : ds = [] := by cases ds with
            | nil => rfl
            | cons _ _ => cases e
          subst hds
          walk_at "pl"
          rw [hbel, h1] at k
          exact k
        · rintro x us ρ Ω' De ert ih _ _ ⟨ds, dn, z1, z2, z3, e, e2, h1, rfl, rfl⟩
          cases ds with
          | nil => cases e
          | cons c ds =>
            have hc : c ∈ c0 :: cs := by rw [← e2]; simp
            rw [List.map_cons, List.cons.injEq] at e
            obtain ⟨rfl, rfl⟩ := e
            simp only [cD]
            walk_at "pl"
            obtain ⟨q1, q2⟩ := bg_rest (hb c hc).1 (hb c hc).2 hmb
            simp only [seq_cD]
            walk_at "pl"
            refine ⟨q1, q2, ?_⟩
            have q3 := bg_mul (hb c hc).1 (hb c0 List.mem_cons_self).2
            have q4 := bg_mul (hb c0 List.mem_cons_self).1 (hb c hc).2
            by_cases g1 : 0 < (c.1 - (m + 1) * c.2) * c.2
            · rw [if_pos g1, ert]
              have : belowRest m c0 ((c.1, c.2) :: ds) = none := by unfold belowRest; rw [if_pos (.inl g1)]
              rw [hbel, h1, this] at k
              exact k
            · rw [if_neg g1]
              have hno : ¬ ((c.1 - (m + 1) * c.2) * c.2 = 0 ∧ c.1 * c0.2 = c0.1 * c.2) → De.nx [some (.lst ((c0 :: cs).map cD)), some (.int c.1), some (.int c.2), some (.int m), some (.int ((c.1 - (m + 1) * c.2) * c.2))] Ω' := fun hn => by
                have : belowRest m c0 ((c.1, c.2) :: ds) = belowRest m c0 ds := by
                  conv => lhs; unfold belowRest
                  rw [if_neg]
                  rintro (z | z)
                  · exact g1 z
                  · exact hn z
                exact ih _ _ ⟨ds, dn ++ [c], _, _, _, rfl, by rw [List.append_assoc]; exact e2, h1.trans this, rfl, rfl⟩
              refine ite2 (fun g2 => ?_) (fun g2 => ?_)
              · refine ⟨q3, q4, ite2 (fun g3 => ?_) (fun g3 => hno fun z => g3 z.2)⟩
                rw [ert]
                have : belowRest m c0 ((c.1, c.2) :: ds) = none := by unfold belowRest; rw [if_pos (.inr ⟨g2, g3⟩)]
                rw [hbel, h1, this] at k
                exact k
              · exact hno fun z => g2 z.1
    · rintro x us ρ Ω' De ert ih _ _ ⟨ds, dn, z1, z2, e, e2, h0, rfl, rfl⟩
      cases ds with
      | nil => cases e
      | cons c ds =>
        have hc : c ∈ c0 :: cs := by rw [← e2]; simp
        rw [List.map_cons, List.cons.injEq] at e
        obtain ⟨rfl, rfl⟩ := e
        simp only [cD]
        walk_at "pl"
        simp only [seq_cD]
        walk_at "pl"
        refine ⟨bg_mul (hb c hc).2 (hb c0 List.mem_cons_self).2, ite2 (fun g => ?_) (fun g => ?_)⟩
        · rw [ert]
          have : belowAll (c0 :: cs) = none := by
            unfold belowAll
            have : (c0 :: cs).any (fun c => decide (c.2 * c0.2 ≤ 0)) = true := List.any_eq_true.mpr ⟨c, hc, by simpa using g⟩
            simp only [this, if_true]
          rw [this] at k
          exact k
        · exact ih _ _ ⟨ds, dn ++ [c], _, _, rfl, by rw [List.append_assoc]; exact e2, fun c' h' => by
            rcases List.mem_append.mp h' with h' | h'
            · exact h0 c' h'
            · rw [List.mem_singleton.mp h']; omega, rfl, rfl⟩
def F_fourI (C : CT) : AF := fun ds Ω Q _ => ∃ (p z : Addr) (ns : List D) (rdy bg : Bool), ds = [.o p, .tup ns, .o z, .bl rdy, .bl bg] ∧ Ω p = some (.obj C.c_Four []) ∧ Q .non (oset Ω p (oFour C ns z rdy bg .non))
theorem mk_Four (T : Txt K mg C) : Mkc P w K mg base ca 1 "Four" C.c_Four (F_fourI C) := by
  refine mkc T.k_Four sc_Four___init__ (fun ds Ω Q E h => ?_) (fun f cdv A outer s H E hr => ⟨_, _, (ass_cons (as_asg (ae_var 1) (ag_new (ae_var 0)))
      (ass_cons (as_asg (ae_var 2) (ag_new (ae_var 0)))
      (ass_cons (as_asg (ae_var 3) (ag_new (ae_var 0)))
      (ass_cons (as_asg (ae_var 4) (ag_new (ae_var 0)))
      (ass_one (as_asg ae_non (ag_new (ae_var 0)))))))), fun ds Ω Qa Ea h => ?_⟩)
  · obtain ⟨_, _, _, _, _, rfl, _⟩ := h
    rfl
  · obtain ⟨p, z, ns, rdy, bg, rfl, ho, k⟩ := h
    walk_at "pl"
    refine ⟨_, _, ho, by walk_at "nm", T.n_Four_numbers, by decide, ?_⟩
    walk_at "pl"
    refine ⟨by walk_at "nm", T.n_Four_inner, by decide, ?_⟩
    walk_at "pl"
    refine ⟨by walk_at "nm", T.n_Four_ready, by decide, ?_⟩
    walk_at "pl"
    refine ⟨by walk_at "nm", T.n_Four_begun, by decide, ?_⟩
    walk_at "pl"
    exact ⟨by walk_at "nm", T.n_Four_fixed, by decide, k⟩
def F_eightI (C : CT) : AF := fun ds Ω Q _ => ∃ (p z1 z2 : Addr) (ns : List D), ds = [.o p, .tup ns, .o z1, .o z2] ∧ Ω p = some (.obj C.c_Eight []) ∧ ∀ k, k ≠ p → Ω k = none → Q .non (oset (oset Ω k (.lst [.int 0, .int 0])) p (oEight C ns z1 z2 k false .non))
theorem mk_Eight (T : Txt K mg C) : Mkc P w K mg base ca 1 "Eight" C.c_Eight (F_eightI C) := by
  refine mkc T.k_Eight sc_Eight___init__ (fun ds Ω Q E h => ?_) (fun f cdv A outer s H E hr => ⟨_, _, (ass_cons (as_asg (ae_var 1) (ag_new (ae_var 0)))
      (ass_cons (as_asg (ae_lst (aa_cons (ae_var 2) (aa_cons (ae_var 3) aa_nil))) (ag_new (ae_var 0)))
      (ass_cons (as_asg (ae_lstO (aa_cons ae_int (aa_cons ae_int aa_nil))) (ag_new (ae_var 0)))
      (ass_cons (as_asg ae_bl (ag_new (ae_var 0)))
      (ass_one (as_asg ae_non (ag_new (ae_var 0)))))))), fun ds Ω Qa Ea h => ?_⟩)
  · obtain ⟨_, _, _, _, rfl, _⟩ := h
    rfl
  · obtain ⟨p, z1, z2, ns, rfl, ho, k⟩ := h
    walk_at "pl"
    refine ⟨_, _, ho, by walk_at "nm", T.n_Eight_numbers, by decide, ?_⟩
    walk_at "pl"
    refine ⟨by decide, by walk_at "nm", T.n_Eight_inners, by decide, by decide, fun kk hk => ?_⟩
    have hne : kk ≠ p := fun e => by rw [e, oset_same] at hk; cases hk
    have hne' : p ≠ kk := Ne.symm hne
    rw [oset_ne hne'] 
    walk_at "pl"
    refine ⟨by walk_at "nm", T.n_Eight_many, by decide, ?_⟩
    walk_at "pl"
    refine ⟨by walk_at "nm", T.n_Eight_begun, by decide, ?_⟩
    walk_at "pl"
    refine ⟨by walk_at "nm", T.n_Eight_rest, by decide, ?_⟩
    have := k kk hne (by rw [oset_ne hne] at hk; exact hk)
    have e : oset (oset (oset Ω p (.obj C.c_Eight [("numbers", .tup ns), ("inners", .lst [.o z1, .o z2])])) kk (.lst [.int 0, .int 0])) p (oEight C ns z1 z2 kk false .non) = oset (oset Ω kk (.lst [.int 0, .int 0])) p (oEight C ns z1 z2 kk false .non) := by
      funext b
      unfold oset
      by_cases h1 : b = p
      · rw [if_pos h1, if_pos h1]
      · rw [if_neg h1, if_neg h1]
        by_cases h2 : b = kk
        · rw [if_pos h2]; simp only [h1, if_false]
        · rw [if_neg h2]; simp only [h1, if_false]
    rw [← e] at this
    exact this
theorem sm_bg {a : Int} (h : Sm a) : Bg a := Nat.lt_trans h (Nat.pow_lt_pow_right (by decide) (by decide))
theorem sm_bg2 {a b : Int} (h : Sm a) (h2 : Sm b) : Bg (a + b) := by
  unfold Sm at h h2
  unfold Bg
  have e1 : (2 : Nat) ^ 290400 = 2 ^ 290000 * 2 ^ 400 := by rw [← Nat.pow_add]
  have e2 : (2 : Nat) ^ 400 ≥ 4 := by decide
  have := Nat.mul_le_mul_left (2 ^ 290000) e2
  have h3 := Int.natAbs_add_le a b
  rw [e1]
  omega
theorem sm_bg4 {a b c d : Int} (h : Sm a) (h2 : Sm b) (h3 : Sm c) (h4 : Sm d) : Bg (a + b + c + d) := by
  unfold Sm at h h2 h3 h4
  unfold Bg
  have e1 : (2 : Nat) ^ 290400 = 2 ^ 290000 * 2 ^ 400 := by rw [← Nat.pow_add]
  have e2 : (2 : Nat) ^ 400 ≥ 4 := by decide
  have := Nat.mul_le_mul_left (2 ^ 290000) e2
  have h5 := Int.natAbs_add_le a b
  have h6 := Int.natAbs_add_le (a + b) c
  have h7 := Int.natAbs_add_le (a + b + c) d
  rw [e1]
  omega
def F_sure4 (C : CT) : AF := fun ds Ω Q _ => ∃ (p z : Addr) (a b c d : Int) (rdy bg : Bool) (f : D), ds = [.o p] ∧ Ω p = some (oFour C [.int a, .int b, .int c, .int d] z rdy bg f) ∧ Sm a ∧ Sm b ∧ Sm c ∧ Sm d ∧ Q (optD (sure4 rdy a b c d)) Ω
theorem m_sure4 (T : Txt K mg C) : ∀ D ∈ [C.c_Four], Mth P w K mg base ca 2 D "sure" (F_sure4 C) := by
  refine mth T.m_Four_sure sc_Four_sure (fun ds Ω Q E h => ?_) (fun f cdv A outer s H E hr => ⟨_, _, (ass_cons (as_asg (ae_fld 0 (ae_var 0)) (ag_tup (n := 4) rfl (ags_cons (i := 1) sc_Four_sure.nd rfl (Or.inl rfl) (ags_cons (i := 2) sc_Four_sure.nd rfl (Or.inl rfl) (ags_cons (i := 3) sc_Four_sure.nd rfl (Or.inl rfl) (ags_cons (i := 4) sc_Four_sure.nd rfl (Or.inl rfl) ags_nil))))))
      (ass_cons (as_if (at_not (at_val (ae_fld 2 (ae_var 0)))) (ass_one (as_ret ae_non)) ass_nil)
      (ass_one (as_ret (ae_call (c_below_all T) hr (takes_of rfl rfl rfl rfl) (by omega) (aa_cons (ae_lst (aa_cons (ae_tup (aa_cons (ae_var 1) (aa_cons (ae_var 3) aa_nil))) (aa_cons (ae_tup (aa_cons (ae_add (ae_var 1) (ae_var 2)) (aa_cons (ae_add (ae_var 3) (ae_var 4)) aa_nil))) aa_nil))) aa_nil)))))), fun ds Ω Qa Ea h => ?_⟩)
  · obtain ⟨_, _, _, _, _, _, _, _, _, rfl, _⟩ := h
    rfl
  · obtain ⟨p, z, a, b, c, d, rdy, bg, f, rfl, ho, ha, hb, hc, hd, k⟩ := h
    walk_at "pl"
    repeat (simp only [ho]; walk_at "pl")
    unfold sure4 at k
    cases rdy with
    | false => exact k
    | true =>
      exact ⟨by decide, by decide, by decide, (a, c), [(a + b, c + d)], rfl, by simp, by
        intro x hx
        simp only [List.mem_cons, List.not_mem_nil, or_false] at hx
        rcases hx with rfl | rfl
        · exact ⟨sm_bg ha, sm_bg hc⟩
        · exact ⟨sm_bg2 ha hb, sm_bg2 hc hd⟩, k⟩
def F_sure8 (C : CT) : AF := fun ds Ω Q _ => ∃ (p z1 z2 kk : Addr) (a b c d e f g h : Int) (m0 m1 : Nat) (bg : Bool) (q : D), ds = [.o p] ∧ Ω p = some (oEight C [.int a, .int b, .int c, .int d, .int e, .int f, .int g, .int h] z1 z2 kk bg q) ∧ Ω kk = some (.lst [.int m0, .int m1]) ∧
  Sm a ∧ Sm b ∧ Sm c ∧ Sm d ∧ Sm e ∧ Sm f ∧ Sm g ∧ Sm h ∧ Q (optD (sure8 m0 m1 a b c d e f g h)) Ω
theorem m_sure8 (T : Txt K mg C) : ∀ D ∈ [C.c_Eight], Mth P w K mg base ca 2 D "sure" (F_sure8 C) := by
  refine mth T.m_Eight_sure sc_Eight_sure (fun ds Ω Q E h => ?_) (fun f cdv A outer s H E hr => ⟨_, _, (ass_cons (as_asg (ae_fld 0 (ae_var 0)) (ag_tup (n := 8) rfl (ags_cons (i := 1) sc_Eight_sure.nd rfl (Or.inl rfl) (ags_cons (i := 2) sc_Eight_sure.nd rfl (Or.inl rfl) (ags_cons (i := 3) sc_Eight_sure.nd rfl (Or.inl rfl) (ags_cons (i := 4) sc_Eight_sure.nd rfl (Or.inl rfl) (ags_cons (i := 5) sc_Eight_sure.nd rfl (Or.inl rfl) (ags_cons (i := 6) sc_Eight_sure.nd rfl (Or.inl rfl) (ags_cons (i := 7) sc_Eight_sure.nd rfl (Or.inl rfl) (ags_cons (i := 8) sc_Eight_sure.nd rfl (Or.inl rfl) ags_nil))))))))))
      (ass_cons (as_if (at_inI ae_int (ae_fld 2 (ae_var 0))) (ass_one (as_ret ae_non)) ass_nil)
      (ass_one (as_ret (ae_call (c_below_all T) hr (takes_of rfl rfl rfl rfl) (by omega) (aa_cons (ae_lst (aa_cons (ae_tup (aa_cons (ae_var 1) (aa_cons (ae_var 5) aa_nil))) (aa_cons (ae_tup (aa_cons (ae_add (ae_var 1) (ae_var 2)) (aa_cons (ae_add (ae_var 5) (ae_var 6)) aa_nil))) (aa_cons (ae_tup (aa_cons (ae_add (ae_var 1) (ae_var 3)) (aa_cons (ae_add (ae_var 5) (ae_var 7)) aa_nil))) (aa_cons (ae_tup (aa_cons (ae_add (ae_add (ae_add (ae_var 1) (ae_var 2)) (ae_var 3)) (ae_var 4)) (aa_cons (ae_add (ae_add (ae_add (ae_var 5) (ae_var 6)) (ae_var 7)) (ae_var 8)) aa_nil))) aa_nil))))) aa_nil)))))), fun ds Ω Qa Ea h => ?_⟩)
  · obtain ⟨_, _, _, _, _, _, _, _, _, _, _, _, _, _, _, _, rfl, _⟩ := h
    rfl
  · obtain ⟨p, z1, z2, kk, a, b, c, d, e, f', g, h', m0, m1, bg, q, rfl, ho, hk, ha, hb, hc, hd, he, hf, hg, hh, k⟩ := h
    walk_at "pl"
    rw [ho]
    walk_at "pl"
    rw [ho]
    walk_at "pl"
    simp only [seq_o hk]
    refine ⟨[(m0 : Int), m1], rfl, ?_⟩
    unfold sure8 at k
    by_cases hm : 0 < m0 ∧ 0 < m1
    · rw [if_pos hm] at k
      rw [if_neg (by simp; omega)]
      walk_at "pl"
      exact ⟨by decide, by decide, by decide, by decide, by decide, (a, e), [(a + b, e + f'), (a + c, e + g), (a + b + c + d, e + f' + g + h')], rfl, by simp, by
        intro x hx
        simp only [List.mem_cons, List.not_mem_nil, or_false] at hx
        rcases hx with rfl | rfl | rfl | rfl
        · exact ⟨sm_bg ha, sm_bg he⟩
        · exact ⟨sm_bg2 ha hb, sm_bg2 he hf⟩
        · exact ⟨sm_bg2 ha hc, sm_bg2 he hg⟩
        · exact ⟨sm_bg4 ha hb hc hd, sm_bg4 he hf hg hh⟩, k⟩
    · rw [if_neg hm] at k
      rw [if_pos (by simp; omega)]
      exact k
structure Mv (S0 : List Addr) (pu : Addr) (Ω0 : Om) (S : List Addr) (Ω : Om) : Prop where
  fr : Fr S0 pu Ω0 Ω
  fs : ∀ b ∈ S, b ∈ S0 ∨ Ω0 b = none
theorem Mv.refl {S : List Addr} {pu : Addr} {Ω : Om} : Mv S pu Ω S Ω := ⟨fun _ _ _ _ => rfl, fun b hb => .inl hb⟩
theorem Mv.trans {S0 S1 S2 : List Addr} {pu : Addr} {Ω0 Ω1 Ω2 : Om} (h1 : Mv S0 pu Ω0 S1 Ω1) (h2 : Mv S1 pu Ω1 S2 Ω2) (hp : Ω1 pu ≠ none) : Mv S0 pu Ω0 S2 Ω2 := by
  refine ⟨fun b hb hbp hn => ?_, fun b hb => ?_⟩
  · have e1 := h1.fr b hb hbp hn
    have hb1 : b ∉ S1 := fun z => (h1.fs b z).elim hb hn
    rw [h2.fr b hb1 hbp (by rw [e1]; exact hn), e1]
  · rcases h2.fs b hb with h | h
    · exact h1.fs b h
    · by_cases hb0 : b ∈ S0
      · exact .inl hb0
      · refine .inr ?_
        cases hq : Ω0 b with
        | none => rfl
        | some u =>
          have hbp : b ≠ pu := fun e => hp (by rw [← e]; exact h)
          have := h1.fr b hb0 hbp (by rw [hq]; simp)
          rw [h, hq] at this
          cases this
theorem Mv.of {S0 S : List Addr} {pu : Addr} {Ω0 Ω : Om} (T : List Addr) (h : Mv S pu Ω0 S0 Ω) (hd : ∀ b ∈ T, b ∉ S ∨ True) : Mv (T ++ S) pu Ω0 (T ++ S0) Ω := by
  refine ⟨fun b hb hbp hn => h.fr b (fun z => hb (List.mem_append_right _ z)) hbp hn, fun b hb => ?_⟩
  rcases List.mem_append.mp hb with h' | h'
  · exact .inl (List.mem_append_left _ h')
  · exact (h.fs b h').imp (List.mem_append_right _) id
theorem Mv.cons {S0 S : List Addr} {pu : Addr} {Ω0 Ω : Om} (p : Addr) (h : Mv S pu Ω0 S0 Ω) : Mv (p :: S) pu Ω0 (p :: S0) Ω := h.of [p] (fun _ _ => .inr True.intro)
theorem Mv.keep {S0 S : List Addr} {pu p : Addr} {Ω0 Ω : Om} (h : Mv S0 pu Ω0 S Ω) (h1 : p ∉ S0) (h2 : p ≠ pu) (h3 : Ω0 p ≠ none) : Ω p = Ω0 p ∧ p ∉ S := ⟨h.fr p h1 h2 h3, fun z => (h.fs p z).elim h1 h3⟩
theorem Mv.nopu {S0 S : List Addr} {pu : Addr} {Ω0 Ω : Om} (h : Mv S0 pu Ω0 S Ω) (h1 : pu ∉ S0) (h3 : Ω0 pu ≠ none) : pu ∉ S := fun z => (h.fs pu z).elim h1 h3
theorem Mv.set {S : List Addr} {pu p : Addr} {Ω : Om} {o : AO} (h : p ∈ S) : Mv S pu Ω S (oset Ω p o) := ⟨fun b hb _ _ => oset_ne fun e => hb (e ▸ h), fun b hb => .inl hb⟩
theorem Mv.sub {S0 S S' : List Addr} {pu : Addr} {Ω0 Ω : Om} (h : Mv S0 pu Ω0 S Ω) (hs : ∀ b ∈ S', b ∈ S) : Mv S0 pu Ω0 S' Ω := ⟨h.fr, fun b hb => h.fs b (hs b hb)⟩
def Inn2 (p : Addr) (Ω Ω' : Om) : Prop := ∃ c fs c' fs', Ω p = some (.obj c fs) ∧ Ω' p = some (.obj c' fs') ∧ fs'[1]? = fs[1]?
theorem Inn2.trans {p : Addr} {Ω Ω1 Ω2 : Om} (h : Inn2 p Ω Ω1) (h2 : Inn2 p Ω1 Ω2) : Inn2 p Ω Ω2 := by
  obtain ⟨c, fs, c', fs', e1, e2, e3⟩ := h
  obtain ⟨d, gs, d', gs', g1, g2, g3⟩ := h2
  rw [e2] at g1
  cases g1
  exact ⟨c, fs, d', gs', e1, g2, g3.trans e3⟩
def I_four (C : CT) (L : Nat) (p pu : Addr) (r' : R) (m' : Int) (ans : Ans) (S0 : List Addr) (Ω0 : Om) : Nat → En → Om → Prop := fun n ρ Ω => ∃ (r : R) (S : List Addr) (m : Int) (k : Nat) (z1 z2 z3 z4 z5 z6 : Option D), r.kd = .four ∧ r.lv ≤ L + 1 ∧ RdO C Ω p r S ∧ Ω pu = some (oPurse C m) ∧ pu ∉ S ∧ Told k r m r' m' ans ∧ Mv S0 pu Ω0 S Ω ∧ Inn2 p Ω0 Ω ∧
  n = (match r with | .four .. => k + 1 | _ => 0) ∧ ρ = [some (.o p), some (.o pu), z1, z2, z3, z4, z5, z6]
theorem inn_set {p : Addr} {Ω Ω1 : Om} {c : Addr} {fs fs' : List (Str × D)} (h : Ω p = some (.obj c fs)) (h2 : Ω1 p = some (.obj c fs')) (h1 : fs'[1]? = fs[1]?) : Inn2 p Ω Ω1 := ⟨_, _, _, _, h, h2, h1⟩
theorem inn_same {p : Addr} {Ω Ω1 Ω2 : Om} (h : Inn2 p Ω Ω1) (h2 : Ω2 p = Ω1 p) : Inn2 p Ω Ω2 := by
  obtain ⟨c, fs, c', fs', e1, e2, e3⟩ := h
  exact ⟨c, fs, c', fs', e1, h2.trans e2, e3⟩
theorem sure_bg {c0 : Int × Int} {r : List (Int × Int)} {q : Int} (h : belowAll (c0 :: r) = some q) (hb : ∀ c ∈ c0 :: r, Bg c.1) : Bg q := by
  obtain ⟨c, hc, rfl⟩ := (belowAll_spec.mp h).2.1
  exact Nat.lt_of_le_of_lt fdiv_le (hb c hc)
theorem sure4_bg {rdy : Bool} {a b c d q : Int} (h : sure4 rdy a b c d = some q) (ha : Sm a) (hb : Sm b) : Bg q := by
  unfold sure4 at h
  split at h
  · exact sure_bg h fun c hc => by
      simp only [List.mem_cons, List.not_mem_nil, or_false] at hc
      rcases hc with rfl | rfl
      · exact sm_bg ha
      · exact sm_bg2 ha hb
  · cases h
theorem sure8_bg {m0 m1 : Nat} {a b c d e f g i q : Int} (h : sure8 m0 m1 a b c d e f g i = some q) (ha : Sm a) (hb : Sm b) (hc : Sm c) (hd : Sm d) : Bg q := by
  unfold sure8 at h
  split at h
  · exact sure_bg h fun x hx => by
      simp only [List.mem_cons, List.not_mem_nil, or_false] at hx
      rcases hx with rfl | rfl | rfl | rfl
      · exact sm_bg ha
      · exact sm_bg2 ha hb
      · exact sm_bg2 ha hc
      · exact sm_bg4 ha hb hc hd
  · cases h
theorem told_in {L : Nat} (tl : Tolds P w K mg base ca C L) {z pu : Addr} {x x' : R} {S1 : List Addr} {Ω1 : Om} {m m1 : Int} {j : Nat} {ans1 : Ans} (hlx : x.lv ≤ L) (hz : RdO C Ω1 z x S1) (hp : Ω1 pu = some (oPurse C m)) (hn1 : pu ∉ S1) (Q : AQ) (E : Value → Om → Prop) (ht : Told j x m x' m1 ans1)
    (k : ∀ (Ω2 : Om) (S2 : List Addr), RdO C Ω2 z x' S2 → Ω2 pu = some (oPurse C m1) → Mv S1 pu Ω1 S2 Ω2 → Inn x.kd z Ω1 Ω2 → ans1.ok C Q E Ω2) : ∃ c fs, Ω1 z = some (.obj c fs) ∧ ("told" : Str) ∉ fs.map (·.1) ∧ ∃ F, Mth P w K mg base ca L c "told" F ∧ F [.o z, .o pu] Ω1 Q E := by
  obtain ⟨c, fs, ho, hm, hc⟩ := hz.obj
  exact ⟨c, fs, ho, hm _ (.inl rfl), F_told C x.kd L, tl.all x.kd c hc, z, pu, x, S1, j, m, x', m1, ans1, rfl, rfl, hlx, hz, hp, hn1, ht, fun Ω2 S2 h1 h2 h3 h4 h5 => k Ω2 S2 h1 h2 ⟨h3, h4⟩ h5⟩
theorem m_fourTold (T : Txt K mg C) {L : Nat} (hL : 3 ≤ L) (tl : Tolds P w K mg base ca C L) : ∀ D ∈ [C.c_Four], Mth P w K mg base ca (L + 1) D "told" (F_told C .four (L + 1)) := by
  refine mth T.m_Four_told sc_Four_told told_len (fun f cdv A outer s H E hr => ⟨_, _, (ass_cons (as_while (passes_of rfl) (at_isN (ae_fld 4 (ae_var 0))) (ass_cons (as_asg (ae_fld 0 (ae_var 0)) (ag_tup (n := 4) rfl (ags_cons (i := 2) sc_Four_told.nd rfl (Or.inl rfl) (ags_cons (i := 3) sc_Four_told.nd rfl (Or.inl rfl) (ags_cons (i := 4) sc_Four_told.nd rfl (Or.inl rfl) (ags_cons (i := 5) sc_Four_told.nd rfl (Or.inl rfl) ags_nil))))))
      (ass_cons (as_set 6 sc_Four_told.nd (ae_meth0 (k := L) hr (takes_of rfl rfl rfl rfl) (by omega) (ae_var 0)))
      (ass_cons (as_if (at_notN (ae_var 6)) (ass_cons (as_asg (ae_tup (aa_cons (ae_var 4) (aa_cons (ae_var 5) (aa_cons (ae_sub (ae_var 2) (ae_mul (ae_var 6) (ae_var 4))) (aa_cons (ae_sub (ae_var 3) (ae_mul (ae_var 6) (ae_var 5))) aa_nil))))) (ag_fld 0 (ae_var 0)))
      (ass_cons (as_asg ae_bl (ag_fld 3 (ae_var 0)))
      (ass_one (as_ret (ae_tup (aa_cons ae_str (aa_cons (ae_var 6) aa_nil))))))) ass_nil)
      (ass_cons (as_set 7 sc_Four_told.nd (ae_meth (k := L) hr (takes_of rfl rfl rfl rfl) (by omega) (ae_fld 1 (ae_var 0)) (aa_cons (ae_var 1) aa_nil)))
      (ass_cons (as_if (at_eqS (ae_ix (ae_var 7) ae_int) ae_str) (ass_one (as_ret (ae_var 7))) ass_nil)
      (ass_one (as_if (at_eqS (ae_ix (ae_var 7) ae_int) ae_str) (ass_one (as_asg (ae_make (mk_Fixed T) hr (takes_of rfl rfl rfl rfl) (by omega) (aa_cons (ae_var 2) (aa_cons (ae_var 4) (aa_cons (ae_fld 3 (ae_var 0)) aa_nil)))) (ag_fld 4 (ae_var 0)))) (ass_cons (as_asg (ae_tup (aa_cons (ae_add (ae_mul (ae_var 2) (ae_ix (ae_var 7) ae_int)) (ae_var 3)) (aa_cons (ae_var 2) (aa_cons (ae_add (ae_mul (ae_var 4) (ae_ix (ae_var 7) ae_int)) (ae_var 5)) (aa_cons (ae_var 4) aa_nil))))) (ag_fld 0 (ae_var 0)))
      (ass_one (as_asg ae_bl (ag_fld 2 (ae_var 0)))))))))))))
      (ass_one (as_ret (ae_meth (k := L) hr (takes_of rfl rfl rfl rfl) (by omega) (ae_fld 4 (ae_var 0)) (aa_cons (ae_var 1) aa_nil))))), fun ds Ω Qa Ea h => ?_⟩)
  obtain ⟨p, pu, r, S, n, m, r', m', ans, rfl, hk, hl, hR, hp, hn, ht, k⟩ := h
  walk_at "pl"
  refine ⟨I_four C L p pu r' m' ans S Ω, ⟨_, r, S, m, n, none, none, none, none, none, none, hk, hl, hR, hp, hn, ht, .refl, ?_, rfl, rfl⟩, ?_⟩
  · cases hR with
    | four e _ _ => exact ⟨_, _, _, _, e, e, rfl⟩
    | fourX e _ _ _ _ _ => exact ⟨_, _, _, _, e, e, rfl⟩
    | _ => cases hk
  rintro n ρ Ω1 ⟨r, S1, m, i, z1, z2, z3, z4, z5, z6, hk, hl, hR, hp, hn, ht, mv, inn, rfl, rfl⟩
  have fin : ∀ {S2 : List Addr} {Ω2 : Om}, RdO C Ω2 p r' S2 → Ω2 pu = some (oPurse C m') → Mv S pu Ω S2 Ω2 → Inn2 p Ω Ω2 → ans.ok C Qa Ea Ω2 := fun hR2 hp2 mv2 inn2 => k _ _ hR2 hp2 mv2.fr mv2.fs fun _ => inn2
  clear k
  cases hR with
  | four ho hz hnp =>
    rename_i z a b c d rdy bg x S1
    have hne : pu ≠ p := fun e => hn (by simp [e])
    have hn1 : pu ∉ S1 := fun e => hn (by simp [e])
    have hlx : x.lv ≤ L := by simp only [R.lv] at hl; omega
    walk_at "pl"
    rw [ho]
    walk_at "pl"
    simp only [D.isNon]
    walk_at "pl"
    rw [ho]
    walk_at "pl"
    refine ⟨by walk_at "nm", F_sure4 C, (m_sure4 T _ (by simp)).mono (by omega), p, z, a, b, c, d, rdy, bg, .non, rfl, ho, ?_⟩
    have hnn : Ω1 p ≠ none := by rw [ho]; simp
    have hpn : Ω1 pu ≠ none := by rw [hp]; simp
    cases ht with
    | foTell h1 h2 h3 h4 hs =>
      refine ⟨h1, h2, h3, h4, ?_⟩
      rw [hs]
      simp only [optD]
      walk_at "pl"
      have hq := sure4_bg hs h1 h2
      rw [if_pos (by decide)]
      refine ⟨bg_mul hq (sm_bg h3), bg_mul hq (sm_bg h4), by decide, ?_⟩
      rw [ho]
      walk_at "pl"
      refine ⟨by decide, by decide, by decide, fin (.four (S := S1) oset_same (hz.keep fun b hb => oset_ne fun e => hnp (e ▸ hb)) hnp) ((oset_ne hne).trans hp) (mv.trans (Mv.set (by simp)) hpn) (inn.trans (inn_set ho oset_same rfl))⟩
    | foWait h1 h2 h3 h4 hs hx =>
      refine ⟨h1, h2, h3, h4, ?_⟩
      rw [hs]
      simp only [optD]
      walk_at "pl"
      rw [ho]
      walk_at "pl"
      refine told_in tl hlx hz hp hn1 _ _ hx fun Ω2 S2 hR2 hp2 mv2 inn2 => ?_
      simp only [Ans.ok, Ans.d]
      walk_at "pl"
      obtain ⟨e1, e2⟩ := mv2.keep hnp (Ne.symm hne) hnn
      exact fin (.four (e1.trans ho) hR2 e2) hp2 (mv.trans (mv2.cons p) hpn) (inn_same inn e1)
    | foNo h1 h2 h3 h4 hs hx =>
      refine ⟨h1, h2, h3, h4, ?_⟩
      rw [hs]
      simp only [optD]
      walk_at "pl"
      rw [ho]
      walk_at "pl"
      refine told_in tl hlx hz hp hn1 _ _ hx fun Ω2 S2 hR2 hp2 mv2 inn2 => ?_
      obtain ⟨e1, e2⟩ := mv2.keep hnp (Ne.symm hne) hnn
      exact fin (.four (e1.trans ho) hR2 e2) hp2 (mv.trans (mv2.cons p) hpn) (inn_same inn e1)
    | foEnd h1 h2 h3 h4 hs hx hf =>
      refine ⟨h1, h2, h3, h4, ?_⟩
      rw [hs]
      simp only [optD]
      walk_at "pl"
      rw [ho]
      walk_at "pl"
      refine told_in tl hlx hz hp hn1 _ _ hx fun Ω2 S2 hR2 hp2 mv2 inn2 => ?_
      simp only [Ans.ok, Ans.d]
      walk_at "pl"
      obtain ⟨e1, e2⟩ := mv2.keep hnp (Ne.symm hne) hnn
      rw [if_neg (by decide), e1, ho]
      walk_at "pl"
      intro q hq
      have hqp : q ≠ p := fun e => by rw [e, e1, ho] at hq; cases hq
      have hqu : q ≠ pu := fun e => by rw [e, hp2] at hq; cases hq
      have hqS : q ∉ S2 := fun z => hR2.there q z hq
      refine ⟨q, a, c, bg, rfl, oset_same, rfl, ?_⟩
      rw [oset_oset, oset_ne (Ne.symm hqp), e1, ho]
      walk_at "pl"
      refine ⟨by decide, 0, by omega, _, p :: q :: S2, _, 0, _, _, _, _, _, _, rfl, ?_, .fourX (ns := [.int a, .int b, .int c, .int d]) (z := z) (rdy := rdy) (bg := bg) oset_same ?_ (hR2.keep fun b hb => ?_) e2 hqS (Ne.symm hqp), ?_, ?_, .fxX hf, mv.trans ((mv2.cons p).trans ?_ (by rw [hp2]; simp)) hpn, ?_, rfl, rfl⟩
      · have := hx.lv
        simp only [R.lv]
        omega
      · rw [oset_ne hqp, oset_same]
      · rw [oset_ne (fun e : b = p => e2 (by rw [← e]; exact hb)), oset_ne (fun e : b = q => hqS (by rw [← e]; exact hb))]
      · rw [oset_ne hne, oset_ne (Ne.symm hqu)]
        exact hp2
      · have := mv2.nopu hn1 hpn
        simp only [List.mem_cons, not_or]
        exact ⟨hne, Ne.symm hqu, this⟩
      · have hne' := hqp
        refine ⟨fun b hb hbp hn => ?_, fun b hb => ?_⟩
        · rw [oset_ne (fun e => hb (by simp [e])), oset_ne (fun e => hn (by rw [e]; exact hq))]
        · simp only [List.mem_cons] at hb ⊢
          rcases hb with rfl | rfl | hb
          · exact .inl (.inl rfl)
          · exact .inr hq
          · exact .inl (.inr hb)
      · exact (inn_same inn e1).trans (inn_set (e1.trans ho) oset_same rfl)
    | foIn h1 h2 h3 h4 hs hx hq ht2 =>
      refine ⟨h1, h2, h3, h4, ?_⟩
      rw [hs]
      simp only [optD]
      walk_at "pl"
      rw [ho]
      walk_at "pl"
      refine told_in tl hlx hz hp hn1 _ _ hx fun Ω2 S2 hR2 hp2 mv2 inn2 => ?_
      simp only [Ans.ok, Ans.d]
      walk_at "pl"
      obtain ⟨e1, e2⟩ := mv2.keep hnp (Ne.symm hne) hnn
      rw [if_neg (by decide), if_neg (by decide)]
      refine ⟨sm_mul h1 hq, sm_mul h3 hq, by decide, ?_⟩
      rw [e1, ho]
      walk_at "pl"
      refine ⟨by decide, by decide, _, Nat.lt_succ_self _, _, p :: S2, _, _, _, _, _, _, _, _, rfl, ?_, .four oset_same (hR2.keep fun b hb => oset_ne fun e => e2 (e ▸ hb)) e2, (oset_ne hne).trans hp2, ?_, ht2, mv.trans ((mv2.cons p).trans (Mv.set (by simp)) (by rw [hp2]; simp)) hpn, (inn_same inn e1).trans (inn_set (e1.trans ho) oset_same rfl), rfl, rfl⟩
      · have := hx.lv
        simp only [R.lv]
        omega
      · have := mv2.nopu hn1 hpn
        simp only [List.mem_cons, not_or]
        exact ⟨hne, this⟩
  | fourX ho hf hz hnp hnf hpf =>
    rename_i z f ns t b g rdy bg x S1
    walk_at "pl"
    rw [ho]
    walk_at "pl"
    simp only [D.isNon]
    walk_at "pl"
    refine ⟨_, _, hf, by walk_at "nm", F_told C .fixed L, tl.all .fixed _ (by simp [CT.cls]), f, pu, .fixed t b g, [f], 0, m, ?_⟩
    cases ht with
    | fxX hx =>
      rename_i t' b' g'
      refine ⟨.fixed t' b' g', m', ans, rfl, rfl, by simp only [R.lv]; omega, .fixed hf, hp, fun e => hn (by simp at e; simp [e]), hx, fun Ω2 S2 hR2 hp2 fr2 fs2 _ => ?_⟩
      cases hR2 with
      | fixed hf2 =>
        have hne : pu ≠ p := fun e => hn (by simp [e])
        have e1 : Ω2 p = Ω1 p := fr2 p (by simp [hpf]) (Ne.symm hne) (by rw [ho]; simp)
        refine fin (.fourX (e1.trans ho) hf2 (hz.keep fun b hb => ?_) hnp hnf hpf) hp2 (mv.trans (Mv.cons p ?_) (by rw [hp]; simp)) (inn_same inn e1)
        · exact fr2 b (fun z => hnf (by simp at z; rw [← z]; exact hb)) (fun z => hn (by rw [← z]; simp [hb])) (hz.there b hb)
        · exact ⟨fun b hb hbp hn => fr2 b (fun z => hb (by simp at z; simp [z])) hbp hn, fun b hb => .inl hb⟩
  | _ => cases hk
def bI (w : Bool) : Int := cond w 1 0
def F_take (C : CT) : AF := fun ds Ω Q _ => ∃ (p z1 z2 kk : Addr) (a b c d e f g h q : Int) (m0 m1 : Nat) (bg w : Bool) (fx : D), ds = [.o p, .int (bI w), .int q] ∧ Ω p = some (oEight C [.int a, .int b, .int c, .int d, .int e, .int f, .int g, .int h] z1 z2 kk bg fx) ∧ Ω kk = some (.lst [.int m0, .int m1]) ∧ kk ≠ p ∧
  Sm8 a b c d e f g h ∧ Sm q ∧ Q .non (oset (oset Ω p (oEight C (cond w [.int (a * q + b), .int a, .int (c * q + d), .int c, .int (e * q + f), .int e, .int (g * q + h), .int g] [.int (a * q + c), .int (b * q + d), .int a, .int b, .int (e * q + g), .int (f * q + h), .int e, .int f]) z1 z2 kk bg fx)) kk
    (.lst (cond w [.int m0, .int (m1 + 1 : Nat)] [.int (m0 + 1 : Nat), .int m1])))
theorem m_take (T : Txt K mg C) : ∀ D ∈ [C.c_Eight], Mth P w K mg base ca 1 D "take" (F_take C) := by
  refine mth T.m_Eight_take sc_Eight_take (fun ds Ω Q E h => ?_) (fun f cdv A outer s H E hr => ⟨_, _, (ass_cons (as_asg (ae_fld 0 (ae_var 0)) (ag_tup (n := 8) rfl (ags_cons (i := 3) sc_Eight_take.nd rfl (Or.inl rfl) (ags_cons (i := 4) sc_Eight_take.nd rfl (Or.inl rfl) (ags_cons (i := 5) sc_Eight_take.nd rfl (Or.inl rfl) (ags_cons (i := 6) sc_Eight_take.nd rfl (Or.inl rfl) (ags_cons (i := 7) sc_Eight_take.nd rfl (Or.inl rfl) (ags_cons (i := 8) sc_Eight_take.nd rfl (Or.inl rfl) (ags_cons (i := 9) sc_Eight_take.nd rfl (Or.inl rfl) (ags_cons (i := 10) sc_Eight_take.nd rfl (Or.inl rfl) ags_nil))))))))))
      (ass_cons (as_if (at_eqI (ae_var 1) ae_int) (ass_one (as_asg (ae_tup (aa_cons (ae_add (ae_mul (ae_var 3) (ae_var 2)) (ae_var 5)) (aa_cons (ae_add (ae_mul (ae_var 4) (ae_var 2)) (ae_var 6)) (aa_cons (ae_var 3) (aa_cons (ae_var 4) (aa_cons (ae_add (ae_mul (ae_var 7) (ae_var 2)) (ae_var 9)) (aa_cons (ae_add (ae_mul (ae_var 8) (ae_var 2)) (ae_var 10)) (aa_cons (ae_var 7) (aa_cons (ae_var 8) aa_nil))))))))) (ag_fld 0 (ae_var 0)))) (ass_one (as_asg (ae_tup (aa_cons (ae_add (ae_mul (ae_var 3) (ae_var 2)) (ae_var 4)) (aa_cons (ae_var 3) (aa_cons (ae_add (ae_mul (ae_var 5) (ae_var 2)) (ae_var 6)) (aa_cons (ae_var 5) (aa_cons (ae_add (ae_mul (ae_var 7) (ae_var 2)) (ae_var 8)) (aa_cons (ae_var 7) (aa_cons (ae_add (ae_mul (ae_var 9) (ae_var 2)) (ae_var 10)) (aa_cons (ae_var 9) aa_nil))))))))) (ag_fld 0 (ae_var 0)))))
      (ass_one (as_setIx (ae_add (ae_ix (ae_fld 2 (ae_var 0)) (ae_var 1)) ae_int) (ae_fld 2 (ae_var 0)) (ae_var 1))))), fun ds Ω Qa Ea h => ?_⟩)
  · obtain ⟨_, _, _, _, _, _, _, _, _, _, _, _, _, _, _, _, _, _, rfl, _⟩ := h
    rfl
  · obtain ⟨p, z1, z2, kk, a, b, c, d, e, f', g, h', q, m0, m1, bg, w, fx, rfl, ho, hk, hne, ⟨ha, hb, hc, hd, he, hf, hg, hh⟩, hq, k⟩ := h
    have hpk : p ≠ kk := Ne.symm hne
    cases w with
    | true =>
      simp only [bI, cond] at k ⊢
      walk_at "pl"
      rw [ho]
      walk_at "pl"
      rw [if_neg (by decide)]
      refine ⟨sm_mul ha hq, sm_mul hc hq, sm_mul he hq, sm_mul hg hq, by decide, ?_⟩
      rw [ho]
      walk_at "pl"
      simp only [D.seq, oset_ne hne, hk]
      walk_at "pl"
      exact ⟨by decide, 1, by decide, k⟩
    | false =>
      simp only [bI, cond] at k ⊢
      walk_at "pl"
      rw [ho]
      walk_at "pl"
      refine ⟨sm_mul ha hq, sm_mul hb hq, sm_mul he hq, sm_mul hf hq, by decide, ?_⟩
      rw [ho]
      walk_at "pl"
      simp only [D.seq, oset_ne hne, hk]
      walk_at "pl"
      exact ⟨by decide, 0, by decide, k⟩
def F_left (C : CT) : AF := fun ds Ω Q _ => ∃ (p z1 z2 kk : Addr) (a b c d e f g h : Int) (m0 m1 : Nat) (bg w : Bool) (fx : D), ds = [.o p, .int (bI w)] ∧ Ω p = some (oEight C [.int a, .int b, .int c, .int d, .int e, .int f, .int g, .int h] z1 z2 kk bg fx) ∧ Ω kk = some (.lst [.int m0, .int m1]) ∧
  Sm8 a b c d e f g h ∧ ∀ q, Ω q = none → Q (.o q) (oset Ω q (if a * cond w g f ≠ cond w c b * e then oFour C [.int a, .int (cond w c b), .int e, .int (cond w g f)] (cond w z1 z2) (decide (0 < cond w m0 m1)) bg .non else
    oFixed C (if a = 0 ∧ e = 0 then cond w c b else a) (if a = 0 ∧ e = 0 then cond w g f else e) bg))
def M_left (C : CT) (p : Addr) (a b c d e f g h : Int) (w : Bool) (Ω : Om) : En → Om → Prop := fun ρ Ω' => Ω' = Ω ∧ ∃ z3 z4 z5 z6 z7 z8 z9 z10, ρ = [some (.o p), some (.int (bI w)), z3, z4, z5, z6, z7, z8, z9, z10, some (.tup [.int a, .int (cond w c b), .int e, .int (cond w g f)])]
theorem m_left (T : Txt K mg C) : ∀ D ∈ [C.c_Eight], Mth P w K mg base ca 3 D "left_of" (F_left C) := by
  refine mth T.m_Eight_left_of sc_Eight_left_of (fun ds Ω Q E h => ?_) (fun f cdv A outer s H E hr => ⟨_, _, (ass_cons (as_asg (ae_fld 0 (ae_var 0)) (ag_tup (n := 8) rfl (ags_cons (i := 2) sc_Eight_left_of.nd rfl (Or.inl rfl) (ags_cons (i := 3) sc_Eight_left_of.nd rfl (Or.inl rfl) (ags_cons (i := 4) sc_Eight_left_of.nd rfl (Or.inl rfl) (ags_cons (i := 5) sc_Eight_left_of.nd rfl (Or.inl rfl) (ags_cons (i := 6) sc_Eight_left_of.nd rfl (Or.inl rfl) (ags_cons (i := 7) sc_Eight_left_of.nd rfl (Or.inl rfl) (ags_cons (i := 8) sc_Eight_left_of.nd rfl (Or.inl rfl) (ags_cons (i := 9) sc_Eight_left_of.nd rfl (Or.inl rfl) ags_nil))))))))))
      (ass_cons (as_set 10 sc_Eight_left_of.nd (ae_tup (aa_cons (ae_var 2) (aa_cons (ae_var 3) (aa_cons (ae_var 6) (aa_cons (ae_var 7) aa_nil))))))
      (ass_cut (as_if (at_eqI (ae_var 1) ae_int) (ass_one (as_set 10 sc_Eight_left_of.nd (ae_tup (aa_cons (ae_var 2) (aa_cons (ae_var 4) (aa_cons (ae_var 6) (aa_cons (ae_var 8) aa_nil))))))) ass_nil)
      (ass_cons (as_if (at_neI (ae_mul (ae_ix (ae_var 10) ae_int) (ae_ix (ae_var 10) ae_int)) (ae_mul (ae_ix (ae_var 10) ae_int) (ae_ix (ae_var 10) ae_int))) (ass_one (as_ret (ae_make (mk_Four T) hr (takes_of rfl rfl rfl rfl) (by omega) (aa_cons (ae_var 10) (aa_cons (ae_ix (ae_fld 1 (ae_var 0)) (ae_sub ae_int (ae_var 1))) (aa_cons (ae_gt (ae_ix (ae_fld 2 (ae_var 0)) (ae_sub ae_int (ae_var 1))) ae_int) (aa_cons (ae_fld 3 (ae_var 0)) aa_nil))))))) ass_nil)
      (ass_cons (as_if (AWt.at_ (aw_and (at_eqI (ae_ix (ae_var 10) ae_int) ae_int) (aw_and1 (at_eqI (ae_ix (ae_var 10) ae_int) ae_int)))) (ass_one (as_ret (ae_make (mk_Fixed T) hr (takes_of rfl rfl rfl rfl) (by omega) (aa_cons (ae_ix (ae_var 10) ae_int) (aa_cons (ae_ix (ae_var 10) ae_int) (aa_cons (ae_fld 3 (ae_var 0)) aa_nil)))))) ass_nil)
      (ass_one (as_ret (ae_make (mk_Fixed T) hr (takes_of rfl rfl rfl rfl) (by omega) (aa_cons (ae_ix (ae_var 10) ae_int) (aa_cons (ae_ix (ae_var 10) ae_int) (aa_cons (ae_fld 3 (ae_var 0)) aa_nil))))))))))), fun ds Ω Qa Ea h => ?_⟩)
  · obtain ⟨_, _, _, _, _, _, _, _, _, _, _, _, _, _, _, _, _, rfl, _⟩ := h
    rfl
  · obtain ⟨p, z1, z2, kk, a, b, c, d, e, f', g, h', m0, m1, bg, w, fx, rfl, ho, hk, ⟨ha, hb, hc, hd, he, hf, hg, hh⟩, k⟩ := h
    walk_at "pl"
    rw [ho]
    walk_at "pl"
    refine ⟨by decide, M_left C p a b c d e f' g h' w Ω, ?_, ?_⟩
    · cases w with
      | true =>
        simp only [bI, cond]
        walk_at "pl"
        exact ⟨by decide, rfl, _, _, _, _, _, _, _, _, rfl⟩
      | false =>
        simp only [bI, cond]
        walk_at "pl"
        rw [if_neg (by decide)]
        exact ⟨rfl, _, _, _, _, _, _, _, _, rfl⟩
    · rintro ρ Ω1 ⟨rfl, z3, z4, z5, z6, z7, z8, z9, z10, rfl⟩
      have hp2 : Sm (cond w c b) := by cases w; exact hb; exact hc
      have hp4 : Sm (cond w g f') := by cases w; exact hf; exact hg
      walk_at "pl"
      refine ⟨sm_mul ha hp4, sm_mul hp2 he, ?_⟩
      by_cases hq : a * cond w g f' = cond w c b * e
      · rw [if_neg (by simpa using hq)]
        have k' : ∀ q, Ω1 q = none → Qa (.o q) (oset Ω1 q (oFixed C (if a = 0 ∧ e = 0 then cond w c b else a) (if a = 0 ∧ e = 0 then cond w g f' else e) bg)) := fun q hq' => by
          have := k q hq'
          rw [if_neg (fun z => z hq)] at this
          exact this
        clear k
        rw [ho]
        walk_at "pl"
        refine ite2 (fun e1 => ite2 (fun e2 => fun q hq => ?_) (fun e2 => fun q hq => ?_)) (fun e1 => fun q hq => ?_)
        · rw [if_pos ⟨e1, e2⟩, if_pos ⟨e1, e2⟩] at k'
          exact ⟨q, _, _, bg, rfl, oset_same, rfl, by rw [oset_oset]; exact k' q hq⟩
        · rw [if_neg (fun z => e2 z.2), if_neg (fun z => e2 z.2)] at k'
          exact ⟨q, _, _, bg, rfl, oset_same, rfl, by rw [oset_oset]; exact k' q hq⟩
        · rw [if_neg (fun z => e1 z.1), if_neg (fun z => e1 z.1)] at k'
          exact ⟨q, _, _, bg, rfl, oset_same, rfl, by rw [oset_oset]; exact k' q hq⟩
      · rw [if_pos (by simpa using hq)]
        have k' : ∀ q, Ω1 q = none → Qa (.o q) (oset Ω1 q (oFour C [.int a, .int (cond w c b), .int e, .int (cond w g f')] (cond w z1 z2) (decide (0 < cond w m0 m1)) bg .non)) := fun q hq' => by
          have := k q hq'
          rw [if_pos hq] at this
          exact this
        clear k
        rw [ho]
        walk_at "pl"
        simp only [seq_o hk]
        have e1 : atI [D.o z1, D.o z2] (1 - bI w) = some (.o (cond w z1 z2)) := by cases w <;> rfl
        have e2 : atI [D.int (m0 : Int), D.int (m1 : Int)] (1 - bI w) = some (.int ((cond w m0 m1 : Nat) : Int)) := by cases w <;> rfl
        rw [e1]
        walk_at "pl"
        refine ⟨_, e2, _, rfl, fun q hq => ⟨q, _, _, _, bg, rfl, oset_same, rfl, ?_⟩⟩
        rw [oset_oset]
        have e3 : decide (0 < ((cond w m0 m1 : Nat) : Int)) = decide (0 < cond w m0 m1) := by simp
        rw [e3]
        exact k' q hq
def I_eight (C : CT) (L : Nat) (p pu : Addr) (r' : R) (m' : Int) (ans : Ans) (S0 : List Addr) (Ω0 : Om) : Nat → En → Om → Prop := fun n ρ Ω => ∃ (r : R) (S : List Addr) (m : Int) (k : Nat) (z1 z2 z3 z4 z5 : Option D), r.kd = .eight ∧ r.lv ≤ L + 1 ∧ RdO C Ω p r S ∧ Ω pu = some (oPurse C m) ∧ pu ∉ S ∧ Told k r m r' m' ans ∧ Mv S0 pu Ω0 S Ω ∧
  n = (match r with | .eight .. => k + 1 | _ => 0) ∧ ρ = [some (.o p), some (.o pu), z1, z2, z3, z4, z5]
theorem rows_eq {a b c d e f g h q : Int} {Ω : Om} {ρ : En} {Wa : AW} {Q : AQ} (re : ATE) (vs : List Nat)
    (hs : ∀ k : Nat, k < 4 → ∀ (Ω' : Om) (R : AQ), Ω' = Ω → R (.int (([a, b, c, d].getD k 0) - q * ([e, f, g, h].getD k 0))) Ω' → re Wa ((wipeA ρ vs).set 6 (some (.int k))) Ω' R)
    (k : Q (.lst [.int (a - q * e), .int (b - q * f), .int (c - q * g), .int (d - q * h)]) Ω) : compL (agName 6) aYes re vs (rngD 0 4) [] Wa ρ Ω Q := by
  have e4 : rngD 0 4 = [0, 1, 2, 3].map fun k : Nat => D.int (k : Int) := rfl
  rw [e4]
  refine compL_map _ (fun k => .int (([a, b, c, d].getD k 0) - q * ([e, f, g, h].getD k 0))) (fun Ω' => Ω' = Ω) _ _ _ rfl (by decide) (fun x hx Ω' R Z hΩ hk => ?_) (fun Ω' hΩ => ?_)
  · subst hΩ
    simp only [aYes, agName, if_true]
    refine hs x ?_ _ _ rfl (hk _ rfl)
    simp only [List.mem_cons, List.not_mem_nil, or_false] at hx
    omega
  · subst hΩ
    exact k
theorem which_eq {m0 m1 : Nat} {w : Bool} (h : w = decide (m1 < m0)) : (if (m1 : Int) < m0 then (1 : Int) else 0) = bI w := by
  subst h
  by_cases h : m1 < m0
  · rw [decide_eq_true h, if_pos (by omega)]; rfl
  · rw [decide_eq_false h, if_neg (by omega)]; rfl
theorem inn_eq {w : Bool} {y1 y2 : Addr} : atI [D.o y1, D.o y2] (bI w) = some (.o (cond w y2 y1)) := by cases w <;> rfl
theorem eight_step {Ω1 Ω2 : Om} {p kk pu y1 y2 : Addr} {x y z : R} {S1 S2 S3 : List Addr} (w : Bool) (hp : Ω1 p ≠ none) (hk : Ω1 kk ≠ none) (hpu : Ω1 pu ≠ none) (hx : RdO C Ω1 y1 x S1) (hy : RdO C Ω1 y2 y S2) (n2 : p ∉ S1) (n3 : p ∉ S2) (n4 : kk ∉ S1) (n5 : kk ∉ S2) (n6 : ∀ b ∈ S1, b ∉ S2)
    (hn : pu ∉ p :: kk :: (S1 ++ S2)) (hR : RdO C Ω2 (cond w y2 y1) z S3) (mv : Mv (cond w S2 S1) pu Ω1 S3 Ω2) : ∃ T1 T2, RdO C Ω2 y1 (cond w x z) T1 ∧ RdO C Ω2 y2 (cond w z y) T2 ∧ Ω2 p = Ω1 p ∧ Ω2 kk = Ω1 kk ∧ p ∉ T1 ∧ p ∉ T2 ∧ kk ∉ T1 ∧ kk ∉ T2 ∧ (∀ b ∈ T1, b ∉ T2) ∧ pu ∉ T1 ∧ pu ∉ T2 ∧ Mv (S1 ++ S2) pu Ω1 (T1 ++ T2) Ω2 := by
  have q0 : pu ≠ p := fun e => hn (by simp [e])
  have q1 : pu ≠ kk := fun e => hn (by simp [e])
  have q2 : pu ∉ S1 := fun e => hn (by simp [e])
  have q3 : pu ∉ S2 := fun e => hn (by simp [e])
  cases w with
  | true =>
    simp only [cond] at *
    have k1 : ∀ b ∈ S1, Ω2 b = Ω1 b ∧ b ∉ S3 := fun b hb => mv.keep (n6 b hb) (fun e => q2 (e ▸ hb)) (hx.there b hb)
    obtain ⟨g1, g2⟩ := mv.keep n3 (Ne.symm q0) hp
    obtain ⟨g3, g4⟩ := mv.keep n5 (Ne.symm q1) hk
    exact ⟨S1, S3, hx.keep fun b hb => (k1 b hb).1, hR, g1, g3, n2, g2, n4, g4, fun b hb => (k1 b hb).2, q2, mv.nopu q3 hpu, mv.of S1 fun _ _ => .inr True.intro⟩
  | false =>
    simp only [cond] at *
    have k1 : ∀ b ∈ S2, Ω2 b = Ω1 b ∧ b ∉ S3 := fun b hb => mv.keep (fun z => n6 b z hb) (fun e => q3 (e ▸ hb)) (hy.there b hb)
    obtain ⟨g1, g2⟩ := mv.keep n2 (Ne.symm q0) hp
    obtain ⟨g3, g4⟩ := mv.keep n4 (Ne.symm q1) hk
    refine ⟨S3, S2, hR, hy.keep fun b hb => (k1 b hb).1, g1, g3, g2, n3, g4, n5, fun b hb hb2 => (k1 b hb2).2 hb, mv.nopu q2 hpu, q3, ?_⟩
    refine ⟨fun b hb hbp hn => mv.fr b (fun z => hb (List.mem_append_left _ z)) hbp hn, fun b hb => ?_⟩
    rcases List.mem_append.mp hb with h' | h'
    · exact (mv.fs b h').imp (List.mem_append_left _) id
    · exact .inl (List.mem_append_right _ h')
theorem m_eightTold (T : Txt K mg C) {L : Nat} (hL : 3 ≤ L) (tl : Tolds P w K mg base ca C L) : ∀ D ∈ [C.c_Eight], Mth P w K mg base ca (L + 1) D "told" (F_told C .eight (L + 1)) := by
  refine mth T.m_Eight_told sc_Eight_told told_len (fun f cdv A outer s H E hr => ⟨_, _, (ass_cons (as_while (passes_of rfl) (at_isN (ae_fld 4 (ae_var 0))) (ass_cons (as_set 2 sc_Eight_told.nd (ae_meth0 (k := L) hr (takes_of rfl rfl rfl rfl) (by omega) (ae_var 0)))
      (ass_cons (as_if (at_notN (ae_var 2)) (ass_cons (as_asg ae_bl (ag_fld 3 (ae_var 0)))
      (ass_cons (as_setLcR (i := 3) rfl sc_Eight_told.nd rfl rfl (sw_true rfl rfl rfl (by decide +kernel)) rfl T.b_range ae_int (show BlkOk ["self", "purse", "found", "rows", "which", "got", "k"] (defScope s_Eight_told) _ [("k", 6)] from blkOk_by (by decide +kernel)) (wip_name (by decide)) (fun s1 H1 C1 cl1 fp1 => (ag_name (i := 6) sc_Eight_told.nd rfl (Or.inl rfl))) (fun s1 H1 C1 cl1 fp1 => AE.cast (ae_sub (ae_ix (ae_fld 0 (ae_var 0)) (ae_var 6)) (ae_mul (ae_var 2) (ae_ix (ae_fld 0 (ae_var 0)) (ae_add (ae_var 6) ae_int)))) (by first | (dsimp only [Blk, Cx.blk]; done) | rfl)))
      (ass_cons (as_asg (ae_catT (ae_sl (ae_fld 0 (ae_var 0)) (ao_some ae_int) ao_none) (ae_tuple rfl T.b_tuple (ae_var 3))) (ag_fld 0 (ae_var 0)))
      (ass_one (as_ret (ae_tup (aa_cons ae_str (aa_cons (ae_var 2) aa_nil)))))))) ass_nil)
      (ass_cons (as_set 4 sc_Eight_told.nd (ae_intB rfl T.b_int (ae_lt (ae_ix (ae_fld 2 (ae_var 0)) ae_int) (ae_ix (ae_fld 2 (ae_var 0)) ae_int))))
      (ass_cons (as_set 5 sc_Eight_told.nd (ae_meth (k := L) hr (takes_of rfl rfl rfl rfl) (by omega) (ae_ix (ae_fld 1 (ae_var 0)) (ae_var 4)) (aa_cons (ae_var 1) aa_nil)))
      (ass_cons (as_if (at_eqS (ae_ix (ae_var 5) ae_int) ae_str) (ass_one (as_ret (ae_var 5))) ass_nil)
      (ass_one (as_if (at_eqS (ae_ix (ae_var 5) ae_int) ae_str) (ass_one (as_asg (ae_meth (k := L) hr (takes_of rfl rfl rfl rfl) (by omega) (ae_var 0) (aa_cons (ae_var 4) aa_nil)) (ag_fld 4 (ae_var 0)))) (ass_one (as_expr (ae_meth (k := L) hr (takes_of rfl rfl rfl rfl) (by omega) (ae_var 0) (aa_cons (ae_var 4) (aa_cons (ae_ix (ae_var 5) ae_int) aa_nil)))))))))))))
      (ass_one (as_ret (ae_meth (k := L) hr (takes_of rfl rfl rfl rfl) (by omega) (ae_fld 4 (ae_var 0)) (aa_cons (ae_var 1) aa_nil))))), fun ds Ω Qa Ea h => ?_⟩)
  obtain ⟨p, pu, r, S, n, m, r', m', ans, rfl, hk, hl, hR, hp, hn, ht, k⟩ := h
  walk_at "pl"
  refine ⟨I_eight C L p pu r' m' ans S Ω, ⟨_, r, S, m, n, none, none, none, none, none, hk, hl, hR, hp, hn, ht, .refl, rfl, rfl⟩, ?_⟩
  rintro n ρ Ω1 ⟨r, S1, m, i, z1, z2, z3, z4, z5, hk, hl, hR, hp, hn, ht, mv, rfl, rfl⟩
  have fin : ∀ {S2 : List Addr} {Ω2 : Om}, RdO C Ω2 p r' S2 → Ω2 pu = some (oPurse C m') → Mv S pu Ω S2 Ω2 → ans.ok C Qa Ea Ω2 := fun hR2 hp2 mv2 => k _ _ hR2 hp2 mv2.fr mv2.fs nofun
  clear k
  have hpn : Ω1 pu ≠ none := by rw [hp]; simp
  cases hR with
  | eight ho hkk hx hy n1 n2 n3 n4 n5 n6 =>
    rename_i y1 y2 kk a b c d e f' g h' m0 m1 bg x y S1 S2
    have hne : pu ≠ p := fun e => hn (by simp [e])
    walk_at "pl"
    rw [ho]
    walk_at "pl"
    simp only [D.isNon]
    walk_at "pl"
    refine ⟨by walk_at "nm", F_sure8 C, (m_sure8 T _ (by simp)).mono (by omega), p, y1, y2, kk, a, b, c, d, e, f', g, h', m0, m1, bg, .non, rfl, ho, hkk, ?_⟩
    have hnn : Ω1 p ≠ none := by rw [ho]; simp
    have hkn : Ω1 kk ≠ none := by rw [hkk]; simp
    have lvs : ∀ w : Bool, (cond w y x).lv ≤ L := fun w => by cases w <;> simp only [R.lv, cond] at hl ⊢ <;> omega
    have rds : ∀ w : Bool, RdO C Ω1 (cond w y2 y1) (cond w y x) (cond w S2 S1) := fun w => by cases w; exact hx; exact hy
    have nps : ∀ w : Bool, pu ∉ cond w S2 S1 := fun w e => hn (by cases w <;> simp only [cond] at e <;> simp [e])
    cases ht with
    | etTell h1 hs =>
      rename_i q
      obtain ⟨ha, hb, hc, hd, he, hf, hg, hh⟩ := h1
      refine ⟨ha, hb, hc, hd, he, hf, hg, hh, ?_⟩
      rw [hs]
      simp only [optD]
      walk_at "pl"
      have hq := sure8_bg hs ha hb hc hd
      rw [if_pos (by decide)]
      rw [ho]
      walk_at "pl"
      refine ⟨by decide, by decide, by decide, rows_eq (a := a) (b := b) (c := c) (d := d) (e := e) (f := f') (g := g) (h := h') (q := q) _ _ (fun k hk4 Ω2 R hΩ hk => ?_) ?_⟩
      · subst hΩ
        simp only [wipeA]
        walk_at "pl"
        have hbq : Bg q := hq
        rcases (by omega : k = 0 ∨ k = 1 ∨ k = 2 ∨ k = 3) with rfl | rfl | rfl | rfl
        · exact ⟨_, rfl, _, rfl, _, rfl, bg_mul hq (sm_bg he), _, rfl, hk⟩
        · exact ⟨_, rfl, _, rfl, _, rfl, bg_mul hq (sm_bg hf), _, rfl, hk⟩
        · exact ⟨_, rfl, _, rfl, _, rfl, bg_mul hq (sm_bg hg), _, rfl, hk⟩
        · exact ⟨_, rfl, _, rfl, _, rfl, bg_mul hq (sm_bg hh), _, rfl, hk⟩
      · rw [oset_same]
        walk_at "pl"
        rw [cut_4]
        refine ⟨by simp; decide, by decide, by decide, ?_⟩
        have hne' : ∀ b ∈ S1, b ≠ p := fun b hb e => n2 (e ▸ hb)
        have hne2 : ∀ b ∈ S2, b ≠ p := fun b hb e => n3 (e ▸ hb)
        exact fin (.eight oset_same ((oset_ne (Ne.symm n1)).trans hkk) (hx.keep fun b hb => oset_ne (hne' b hb)) (hy.keep fun b hb => oset_ne (hne2 b hb)) n1 n2 n3 n4 n5 n6) ((oset_ne hne).trans hp) (mv.trans (Mv.set (by simp)) hpn)
    | @etWait _ _ _ _ _ _ _ _ _ _ _ _ _ _ w j z _ h1 hs hw hx2 =>
      obtain ⟨ha, hb, hc, hd, he, hf, hg, hh⟩ := h1
      refine ⟨ha, hb, hc, hd, he, hf, hg, hh, ?_⟩
      rw [hs]
      simp only [optD]
      walk_at "pl"
      rw [ho]
      walk_at "pl"
      simp only [seq_o hkk]
      walk_at "pl"
      rw [if_neg (by decide), which_eq hw, inn_eq]
      refine ⟨_, rfl, _, rfl, told_in tl (lvs w) (rds w) hp (nps w) _ _ hx2 fun Ω2 S3 hR2 hp2 mv2 inn2 => ?_⟩
      obtain ⟨T1, T2, k1, k2, k3, k4, k5, k6, k7, k8, k9, k10, k11, k12⟩ := eight_step w hnn hkn hpn hx hy n2 n3 n4 n5 n6 hn hR2 mv2
      simp only [Ans.ok, Ans.d]
      walk_at "pl"
      exact fin (.eight (k3.trans ho) (k4.trans hkk) k1 k2 n1 k5 k6 k7 k8 k9) hp2 (mv.trans ((k12.cons kk).cons p) hpn)
    | @etNo _ _ _ _ _ _ _ _ _ _ _ _ _ _ w j z _ h1 hs hw hx2 =>
      obtain ⟨ha, hb, hc, hd, he, hf, hg, hh⟩ := h1
      refine ⟨ha, hb, hc, hd, he, hf, hg, hh, ?_⟩
      rw [hs]
      simp only [optD]
      walk_at "pl"
      rw [ho]
      walk_at "pl"
      simp only [seq_o hkk]
      walk_at "pl"
      rw [if_neg (by decide), which_eq hw, inn_eq]
      refine ⟨_, rfl, _, rfl, told_in tl (lvs w) (rds w) hp (nps w) _ _ hx2 fun Ω2 S3 hR2 hp2 mv2 inn2 => ?_⟩
      obtain ⟨T1, T2, k1, k2, k3, k4, k5, k6, k7, k8, k9, k10, k11, k12⟩ := eight_step w hnn hkn hpn hx hy n2 n3 n4 n5 n6 hn hR2 mv2
      exact fin (.eight (k3.trans ho) (k4.trans hkk) k1 k2 n1 k5 k6 k7 k8 k9) hp2 (mv.trans ((k12.cons kk).cons p) hpn)
    | @etFour _ _ _ _ _ _ _ _ _ _ _ _ _ _ w j z m2 jj fr _ _ h1 hs hw hx2 hdet ht2 =>
      have h1' := h1
      obtain ⟨ha, hb, hc, hd, he, hf, hg, hh⟩ := h1
      refine ⟨ha, hb, hc, hd, he, hf, hg, hh, ?_⟩
      rw [hs]
      simp only [optD]
      walk_at "pl"
      rw [ho]
      walk_at "pl"
      simp only [seq_o hkk]
      walk_at "pl"
      rw [if_neg (by decide), which_eq hw, inn_eq]
      refine ⟨_, rfl, _, rfl, told_in tl (lvs w) (rds w) hp (nps w) _ _ hx2 fun Ω2 S3 hR2 hp2 mv2 inn2 => ?_⟩
      obtain ⟨T1, T2, k1, k2, k3, k4, k5, k6, k7, k8, k9, k10, k11, k12⟩ := eight_step w hnn hkn hpn hx hy n2 n3 n4 n5 n6 hn hR2 mv2
      simp only [Ans.ok, Ans.d]
      walk_at "pl"
      rw [if_neg (by decide)]
      have ho2 := k3.trans ho
      have hk2 := k4.trans hkk
      rw [ho2]
      walk_at "pl"
      refine ⟨by walk_at "nm", F_left C, (m_left T _ (by simp)).mono (by omega), p, y1, y2, kk, a, b, c, d, e, f', g, h', m0, m1, bg, w, .non, rfl, ho2, hk2, h1', fun q hq => ?_⟩
      have hqp : q ≠ p := fun e => by rw [e, ho2] at hq; cases hq
      have hqu : q ≠ pu := fun e => by rw [e, hp2] at hq; cases hq
      have hq1 : q ∉ T1 := fun z => k1.there q z hq
      have hq2 : q ∉ T2 := fun z => k2.there q z hq
      rw [if_pos hdet]
      dsimp only
      rw [oset_ne (Ne.symm hqp), ho2]
      walk_at "pl"
      have hzl := hx2.lv
      have kp : ∀ b ∈ T1 ++ T2, ∀ u v, oset (oset Ω2 q u) p v b = Ω2 b := fun b hb u v => by
        have h1 : b ≠ p := fun e => by rcases List.mem_append.mp hb with z | z; exact k5 (e ▸ z); exact k6 (e ▸ z)
        have h2 : b ≠ q := fun e => by rcases List.mem_append.mp hb with z | z; exact hq1 (e ▸ z); exact hq2 (e ▸ z)
        rw [oset_ne h1, oset_ne h2]
      have mvn : ∀ (S' : List Addr) u v, (∀ b ∈ S', b = p ∨ b = q ∨ b ∈ T1 ++ T2) → Mv S pu Ω S' (oset (oset Ω2 q u) p v) := fun S' u v hS => by
        refine mv.trans (((k12.cons kk).cons p).trans ⟨fun b hb hbp hn => ?_, fun b hb => ?_⟩ (by rw [hp2]; simp)) hpn
        · rw [oset_ne (fun e => hb (by simp [e])), oset_ne (fun e => hn (by rw [e]; exact hq))]
        · rcases hS b hb with rfl | rfl | h
          · exact .inl (by simp)
          · exact .inr hq
          · exact .inl (by simp only [List.mem_cons]; exact .inr (.inr h))
      have hzl2 := lvs w
      refine ⟨by decide, 0, by omega, .eightF w z (.four a (cond w c b) e (cond w g f') (decide (0 < cond w m0 m1)) bg (cond w x y)), ?_⟩
      have hlw : (R.eightF w z (.four a (cond w c b) e (cond w g f') (decide (0 < cond w m0 m1)) bg (cond w x y))).lv ≤ L + 1 := by
        simp only [R.lv] at hl ⊢
        cases w <;> simp only [cond] at hzl hzl2 ⊢ <;> omega
      cases w with
      | true =>
        simp only [cond] at *
        refine ⟨p :: (T2 ++ (q :: T1)), m2, 0, _, _, _, _, _, rfl, hlw, .eightF (w := true) (ns := [.int a, .int b, .int c, .int d, .int e, .int f', .int g, .int h']) (z1 := y1) (z2 := y2) (k := kk) (bg := bg) (q := q) oset_same ((oset_ne hqp).trans oset_same) rfl (k2.keep fun b hb => kp b (List.mem_append_right _ hb) _ _) (.four ((oset_ne hqp).trans oset_same) (k1.keep fun b hb => kp b (List.mem_append_left _ hb) _ _) hq1) rfl k6 (by simp [Ne.symm hqp, k5]) (fun b hb => ?_), ?_, ?_, .exF rfl ht2, mvn _ _ _ (fun b hb => ?_), by first | rfl | trivial, by first | rfl | trivial⟩
        · simp only [List.mem_cons, not_or]
          exact ⟨fun e => hq2 (e ▸ hb), fun z => k9 b z hb⟩
        · rw [oset_ne hne, oset_ne (Ne.symm hqu)]; exact hp2
        · simp only [List.mem_cons, List.mem_append, not_or]
          exact ⟨hne, k11, Ne.symm hqu, k10⟩
        · simp only [List.mem_cons, List.mem_append] at hb ⊢
          rcases hb with h | h | h | h
          · exact .inl h
          · exact .inr (.inr (.inr h))
          · exact .inr (.inl h)
          · exact .inr (.inr (.inl h))
      | false =>
        simp only [cond] at *
        refine ⟨p :: (T1 ++ (q :: T2)), m2, 0, _, _, _, _, _, rfl, hlw, .eightF (w := false) (ns := [.int a, .int b, .int c, .int d, .int e, .int f', .int g, .int h']) (z1 := y1) (z2 := y2) (k := kk) (bg := bg) (q := q) oset_same ((oset_ne hqp).trans oset_same) rfl (k1.keep fun b hb => kp b (List.mem_append_left _ hb) _ _) (.four ((oset_ne hqp).trans oset_same) (k2.keep fun b hb => kp b (List.mem_append_right _ hb) _ _) hq2) rfl k5 (by simp [Ne.symm hqp, k6]) (fun b hb => ?_), ?_, ?_, .exF rfl ht2, mvn _ _ _ (fun b hb => ?_), by first | rfl | trivial, by first | rfl | trivial⟩
        · simp only [List.mem_cons, not_or]
          exact ⟨fun e => hq1 (e ▸ hb), fun z => k9 b hb z⟩
        · rw [oset_ne hne, oset_ne (Ne.symm hqu)]; exact hp2
        · simp only [List.mem_cons, List.mem_append, not_or]
          exact ⟨hne, k10, Ne.symm hqu, k11⟩
        · simp only [List.mem_cons, List.mem_append] at hb ⊢
          rcases hb with h | h | h | h
          · exact .inl h
          · exact .inr (.inr (.inl h))
          · exact .inr (.inl h)
          · exact .inr (.inr (.inr h))
    | @etFix _ _ _ _ _ _ _ _ _ _ _ _ _ _ w j z m2 t0 b0 t' b' g' _ _ h1 hs hw hx2 hdet htb ht2 =>
      have h1' := h1
      obtain ⟨ha, hb, hc, hd, he, hf, hg, hh⟩ := h1
      refine ⟨ha, hb, hc, hd, he, hf, hg, hh, ?_⟩
      rw [hs]
      simp only [optD]
      walk_at "pl"
      rw [ho]
      walk_at "pl"
      simp only [seq_o hkk]
      walk_at "pl"
      rw [if_neg (by decide), which_eq hw, inn_eq]
      refine ⟨_, rfl, _, rfl, told_in tl (lvs w) (rds w) hp (nps w) _ _ hx2 fun Ω2 S3 hR2 hp2 mv2 inn2 => ?_⟩
      obtain ⟨T1, T2, k1, k2, k3, k4, k5, k6, k7, k8, k9, k10, k11, k12⟩ := eight_step w hnn hkn hpn hx hy n2 n3 n4 n5 n6 hn hR2 mv2
      simp only [Ans.ok, Ans.d]
      walk_at "pl"
      rw [if_neg (by decide)]
      have ho2 := k3.trans ho
      have hk2 := k4.trans hkk
      rw [ho2]
      walk_at "pl"
      refine ⟨by walk_at "nm", F_left C, (m_left T _ (by simp)).mono (by omega), p, y1, y2, kk, a, b, c, d, e, f', g, h', m0, m1, bg, w, .non, rfl, ho2, hk2, h1', fun q hq => ?_⟩
      have hqp : q ≠ p := fun e => by rw [e, ho2] at hq; cases hq
      have hqu : q ≠ pu := fun e => by rw [e, hp2] at hq; cases hq
      have hq1 : q ∉ T1 := fun z => k1.there q z hq
      have hq2 : q ∉ T2 := fun z => k2.there q z hq
      rw [if_neg (fun z => z hdet)]
      dsimp only
      rw [oset_ne (Ne.symm hqp), ho2]
      walk_at "pl"
      have hzl := hx2.lv
      have kp : ∀ b ∈ T1 ++ T2, ∀ u v, oset (oset Ω2 q u) p v b = Ω2 b := fun b hb u v => by
        have h1 : b ≠ p := fun e => by rcases List.mem_append.mp hb with z | z; exact k5 (e ▸ z); exact k6 (e ▸ z)
        have h2 : b ≠ q := fun e => by rcases List.mem_append.mp hb with z | z; exact hq1 (e ▸ z); exact hq2 (e ▸ z)
        rw [oset_ne h1, oset_ne h2]
      have mvn : ∀ (S' : List Addr) u v, (∀ b ∈ S', b = p ∨ b = q ∨ b ∈ T1 ++ T2) → Mv S pu Ω S' (oset (oset Ω2 q u) p v) := fun S' u v hS => by
        refine mv.trans (((k12.cons kk).cons p).trans ⟨fun b hb hbp hn => ?_, fun b hb => ?_⟩ (by rw [hp2]; simp)) hpn
        · rw [oset_ne (fun e => hb (by simp [e])), oset_ne (fun e => hn (by rw [e]; exact hq))]
        · rcases hS b hb with rfl | rfl | h
          · exact .inl (by simp)
          · exact .inr hq
          · exact .inl (by simp only [List.mem_cons]; exact .inr (.inr h))
      have htb1 : (if a = 0 ∧ e = 0 then cond w c b else a) = t0 := by
        have := congrArg Prod.fst htb
        split at this <;> simp_all
      have htb2 : (if a = 0 ∧ e = 0 then cond w g f' else e) = b0 := by
        have := congrArg Prod.snd htb
        split at this <;> simp_all
      rw [htb1, htb2]
      refine ⟨by decide, 0, by omega, .eightX (cond w x z) (cond w z y) t0 b0 bg, p :: q :: (T1 ++ T2), m2, 0, _, _, _, _, _, rfl, ?_, .eightX (ns := [.int a, .int b, .int c, .int d, .int e, .int f', .int g, .int h']) (k := kk) (bg := bg) oset_same ((oset_ne hqp).trans oset_same) (k1.keep fun b hb => kp b (List.mem_append_left _ hb) _ _) (k2.keep fun b hb => kp b (List.mem_append_right _ hb) _ _) (Ne.symm hqp) k5 k6 hq1 hq2 k9, ?_, ?_, .exX ht2, mvn _ _ _ (fun b hb => ?_), rfl, rfl⟩
      · have hzl2 := lvs w
        simp only [R.lv] at hl ⊢
        cases w <;> simp only [cond] at hzl hzl2 ⊢ <;> omega
      · rw [oset_ne hne, oset_ne (Ne.symm hqu)]; exact hp2
      · simp only [List.mem_cons, List.mem_append, not_or]
        exact ⟨hne, Ne.symm hqu, k10, k11⟩
      · simp only [List.mem_cons] at hb
        rcases hb with h | h | h
        · exact .inl h
        · exact .inr (.inl h)
        · exact .inr (.inr h)
    | @etIn0 _ _ _ _ _ _ _ _ _ _ _ _ _ _ j z m2 q jj _ _ _ h1 hs hw hx2 hq ht2 =>
      have h1' := h1
      obtain ⟨ha, hb, hc, hd, he, hf, hg, hh⟩ := h1
      refine ⟨ha, hb, hc, hd, he, hf, hg, hh, ?_⟩
      rw [hs]
      simp only [optD]
      walk_at "pl"
      rw [ho]
      walk_at "pl"
      simp only [seq_o hkk]
      walk_at "pl"
      have hw' : false = decide (m1 < m0) := (decide_eq_false hw).symm
      rw [if_neg (by decide), which_eq hw', inn_eq]
      refine ⟨_, rfl, _, rfl, told_in tl (lvs false) (rds false) hp (nps false) _ _ hx2 fun Ω2 S3 hR2 hp2 mv2 inn2 => ?_⟩
      obtain ⟨T1, T2, k1, k2, k3, k4, k5, k6, k7, k8, k9, k10, k11, k12⟩ := eight_step false hnn hkn hpn hx hy n2 n3 n4 n5 n6 hn hR2 mv2
      simp only [Ans.ok, Ans.d]
      walk_at "pl"
      rw [if_neg (by decide), if_neg (by decide)]
      have ho2 := k3.trans ho
      have hk2 := k4.trans hkk
      rw [ho2]
      walk_at "pl"
      refine ⟨by walk_at "nm", F_take C, (m_take T _ (by simp)).mono (by omega), p, y1, y2, kk, a, b, c, d, e, f', g, h', q, m0, m1, bg, false, .non, rfl, ho2, hk2, Ne.symm n1, h1', hq, ?_⟩
      have hkp : pu ≠ kk := fun e => hn (by simp [e])
      have kp : ∀ b ∈ T1 ++ T2, ∀ u v, oset (oset Ω2 p u) kk v b = Ω2 b := fun b hb u v => by
        have h1 : b ≠ p := fun e => by rcases List.mem_append.mp hb with z | z; exact k5 (e ▸ z); exact k6 (e ▸ z)
        have h2 : b ≠ kk := fun e => by rcases List.mem_append.mp hb with z | z; exact k7 (e ▸ z); exact k8 (e ▸ z)
        rw [oset_ne h2, oset_ne h1]
      have hzl := hx2.lv
      refine ⟨_, Nat.lt_succ_self _, _, p :: kk :: (T1 ++ T2), m2, _, _, _, _, _, _, rfl, ?_, .eight ((oset_ne n1).trans oset_same) oset_same (k1.keep fun b hb => kp b (List.mem_append_left _ hb) _ _) (k2.keep fun b hb => kp b (List.mem_append_right _ hb) _ _) n1 k5 k6 k7 k8 k9, ?_, ?_, ht2, mv.trans (((k12.cons kk).cons p).trans ((Mv.set (by simp)).trans (Mv.set (by simp)) (by rw [oset_ne hne, hp2]; simp)) (by rw [hp2]; simp)) hpn, rfl, rfl⟩
      · simp only [R.lv, cond] at hl ⊢
        omega
      · rw [oset_ne hkp, oset_ne hne]; exact hp2
      · simp only [List.mem_cons, List.mem_append, not_or]
        exact ⟨hne, hkp, k10, k11⟩
    | @etIn1 _ _ _ _ _ _ _ _ _ _ _ _ _ _ j z m2 q jj _ _ _ h1 hs hw hx2 hq ht2 =>
      have h1' := h1
      obtain ⟨ha, hb, hc, hd, he, hf, hg, hh⟩ := h1
      refine ⟨ha, hb, hc, hd, he, hf, hg, hh, ?_⟩
      rw [hs]
      simp only [optD]
      walk_at "pl"
      rw [ho]
      walk_at "pl"
      simp only [seq_o hkk]
      walk_at "pl"
      have hw' : true = decide (m1 < m0) := (decide_eq_true hw).symm
      rw [if_neg (by decide), which_eq hw', inn_eq]
      refine ⟨_, rfl, _, rfl, told_in tl (lvs true) (rds true) hp (nps true) _ _ hx2 fun Ω2 S3 hR2 hp2 mv2 inn2 => ?_⟩
      obtain ⟨T1, T2, k1, k2, k3, k4, k5, k6, k7, k8, k9, k10, k11, k12⟩ := eight_step true hnn hkn hpn hx hy n2 n3 n4 n5 n6 hn hR2 mv2
      simp only [Ans.ok, Ans.d]
      walk_at "pl"
      rw [if_neg (by decide), if_neg (by decide)]
      have ho2 := k3.trans ho
      have hk2 := k4.trans hkk
      rw [ho2]
      walk_at "pl"
      refine ⟨by walk_at "nm", F_take C, (m_take T _ (by simp)).mono (by omega), p, y1, y2, kk, a, b, c, d, e, f', g, h', q, m0, m1, bg, true, .non, rfl, ho2, hk2, Ne.symm n1, h1', hq, ?_⟩
      have hkp : pu ≠ kk := fun e => hn (by simp [e])
      have kp : ∀ b ∈ T1 ++ T2, ∀ u v, oset (oset Ω2 p u) kk v b = Ω2 b := fun b hb u v => by
        have h1 : b ≠ p := fun e => by rcases List.mem_append.mp hb with z | z; exact k5 (e ▸ z); exact k6 (e ▸ z)
        have h2 : b ≠ kk := fun e => by rcases List.mem_append.mp hb with z | z; exact k7 (e ▸ z); exact k8 (e ▸ z)
        rw [oset_ne h2, oset_ne h1]
      have hzl := hx2.lv
      refine ⟨_, Nat.lt_succ_self _, _, p :: kk :: (T1 ++ T2), m2, _, _, _, _, _, _, rfl, ?_, .eight ((oset_ne n1).trans oset_same) oset_same (k1.keep fun b hb => kp b (List.mem_append_left _ hb) _ _) (k2.keep fun b hb => kp b (List.mem_append_right _ hb) _ _) n1 k5 k6 k7 k8 k9, ?_, ?_, ht2, mv.trans (((k12.cons kk).cons p).trans ((Mv.set (by simp)).trans (Mv.set (by simp)) (by rw [oset_ne hne, hp2]; simp)) (by rw [hp2]; simp)) hpn, rfl, rfl⟩
      · simp only [R.lv, cond] at hl ⊢
        omega
      · rw [oset_ne hkp, oset_ne hne]; exact hp2
      · simp only [List.mem_cons, List.mem_append, not_or]
        exact ⟨hne, hkp, k10, k11⟩
  | eightX ho hq hx hy n1 n2 n3 n4 n5 n6 =>
    rename_i y1 y2 kk q ns t b g bg x y S1 S2
    walk_at "pl"
    rw [ho]
    walk_at "pl"
    simp only [D.isNon]
    walk_at "pl"
    refine ⟨_, _, hq, by walk_at "nm", F_told C .fixed L, tl.all .fixed _ (by simp [CT.cls]), q, pu, .fixed t b g, [q], 0, m, ?_⟩
    have hnS : ∀ b ∈ S1 ++ S2, b ≠ q ∧ b ≠ pu := fun b hb => ⟨fun e => by
      rw [e] at hb
      rcases List.mem_append.mp hb with z | z
      · exact n4 z
      · exact n5 z, fun e => hn (by rw [← e]; simp only [List.mem_cons]; exact .inr (.inr hb))⟩
    cases ht with
    | @exX _ _ _ _ _ _ t' b' g' _ _ ht =>
      refine ⟨.fixed t' b' g', m', ans, rfl, rfl, by simp only [R.lv]; omega, .fixed hq, hp, fun e => hn (by simp at e; simp [e]), ht, fun Ω2 S3 hR2 hp2 fr2 fs2 _ => ?_⟩
      cases hR2 with
      | fixed hf2 =>
        have hne : pu ≠ p := fun e => hn (by simp [e])
        have e1 : Ω2 p = Ω1 p := fr2 p (by simp [n1]) (Ne.symm hne) (by rw [ho]; simp)
        have kp : ∀ b ∈ S1 ++ S2, Ω1 b ≠ none → Ω2 b = Ω1 b := fun b hb hbn => fr2 b (by simp [(hnS b hb).1]) (hnS b hb).2 hbn
        refine fin (.eightX (e1.trans ho) hf2 (hx.keep fun b hb => kp b (List.mem_append_left _ hb) (hx.there b hb)) (hy.keep fun b hb => kp b (List.mem_append_right _ hb) (hy.there b hb)) n1 n2 n3 n4 n5 n6) hp2 (mv.trans ⟨fun b hb hbp hn => fr2 b (fun z => hb (by simp at z; simp [z])) hbp hn, fun b hb => .inl hb⟩ hpn)
  | eightF ho hq hl2 hx hy hkd n1 n2 n3 =>
    rename_i y1 y2 kk q c ns fs bg w dead fr S1 S2
    walk_at "pl"
    rw [ho]
    walk_at "pl"
    simp only [D.isNon]
    walk_at "pl"
    have hnp2 : pu ∉ S2 := fun e => hn (by simp [e])
    have hne : pu ≠ p := fun e => hn (by simp [e])
    cases ht with
    | exF _ ht =>
      rename_i fr'
      refine told_in tl (by simp only [R.lv] at hl; omega) hy hp hnp2 _ _ ht fun Ω2 S3 hR2 hp2 mv2 inn2 => ?_
      obtain ⟨e1, e2⟩ := mv2.keep n2 (Ne.symm hne) (by rw [ho]; simp)
      obtain ⟨c1, fs1, c2, fs2, g1, g2, g3⟩ := inn2 hkd
      rw [hq] at g1
      cases g1
      have hS1 : ∀ b ∈ S1, Ω2 b = Ω1 b ∧ b ∉ S3 := fun b hb => mv2.keep (n3 b hb) (fun e => hn (by rw [← e]; simp [hb])) (hx.there b hb)
      have := fin (.eightF (e1.trans ho) g2 (g3.trans hl2) (hx.keep fun b hb => (hS1 b hb).1) hR2 ?_ n1 e2 fun b hb => (hS1 b hb).2) hp2 (mv.trans ((mv2.of S1 fun _ _ => .inr True.intro).cons p) hpn)
      · cases ans <;> exact this
      · rw [ht.kd]; exact hkd
  | _ => cases hk
theorem tolds (T : Txt K mg C) : ∀ {L : Nat}, 3 ≤ L → Tolds P w K mg base ca C L
  | 0, h => by omega
  | L + 1, h => by
    by_cases e : L + 1 = 3
    · have : L = 2 := by omega
      subst this
      exact tolds3 T
    · have tl := tolds T (L := L) (by omega)
      refine ⟨fun kd D hD => ?_⟩
      cases kd with
      | fixed => exact ((m_fixedTold T D hD).imp (F_told_fixed (by omega))).mono (by omega)
      | leaf => exact ((m_leafTold T D hD).imp (F_told_leaf (by omega))).mono (by omega)
      | four => exact m_fourTold T (by omega) tl D hD
      | eight => exact m_eightTold T (by omega) tl D hD
structure Tooks (P : Program) (w : World) (K : PySem.W.Frag) (mg : Str → Option Value) (base : Heap) (ca : CA) (C : CT) (L : Nat) : Prop where
  all : ∀ kd, ∀ D ∈ C.cls kd, Mth P w K mg base ca L D "took" (F_took C fun r => r.kd = kd ∧ r.lv ≤ L)
theorem took_in {L : Nat} (tk : Tooks P w K mg base ca C L) {z : Addr} {x : R} {S1 : List Addr} {Ω1 : Om} (hlx : x.lv ≤ L) (hz : RdO C Ω1 z x S1) (Q : AQ) (E : Value → Om → Prop) (k : Q (.int x.tk) Ω1) :
    ∃ c fs, Ω1 z = some (.obj c fs) ∧ ("took" : Str) ∉ fs.map (·.1) ∧ ∃ F, Mth P w K mg base ca L c "took" F ∧ F [.o z] Ω1 Q E := by
  obtain ⟨c, fs, ho, hm, hc⟩ := hz.obj
  exact ⟨c, fs, ho, hm _ (.inr (.inr rfl)), _, tk.all x.kd c hc, z, x, S1, rfl, hz, ⟨rfl, hlx⟩, k⟩
theorem m_fixedTook (T : Txt K mg C) : ∀ D ∈ [C.c_Fixed], Mth P w K mg base ca 1 D "took" (F_took C fun r => r.kd = .fixed) := by
  refine mth T.m_Reader_took sc_Reader_took (fun ds Ω Q E h => ?_) (fun f cdv A outer s H E hr => ⟨_, _, (ass_one (as_ret ae_int)), fun ds Ω Qa Ea h => ?_⟩)
  · obtain ⟨_, _, _, rfl, _⟩ := h
    rfl
  · obtain ⟨p, x, S, rfl, hR, hk, k⟩ := h
    cases hR with
    | fixed ho =>
      walk_at "pl"
      exact k
    | _ => cases hk
theorem m_fourTook (T : Txt K mg C) {L : Nat} (tk : Tooks P w K mg base ca C L) : ∀ D ∈ [C.c_Four], Mth P w K mg base ca (L + 1) D "took" (F_took C fun r => r.kd = .four ∧ r.lv ≤ L + 1) := by
  refine mth T.m_Four_took sc_Four_took (fun ds Ω Q E h => ?_) (fun f cdv A outer s H E hr => ⟨_, _, (ass_one (as_ret (ae_meth0 (k := L) hr (takes_of rfl rfl rfl rfl) (by omega) (ae_fld 1 (ae_var 0))))), fun ds Ω Qa Ea h => ?_⟩)
  · obtain ⟨_, _, _, rfl, _⟩ := h
    rfl
  · obtain ⟨p, x, S, rfl, hR, ⟨hk, hl⟩, k⟩ := h
    cases hR with
    | four ho hz =>
      walk_at "pl"
      rw [ho]
      walk_at "pl"
      exact took_in tk (by simp only [R.lv] at hl; omega) hz _ _ k
    | fourX ho _ hz =>
      walk_at "pl"
      rw [ho]
      walk_at "pl"
      exact took_in tk (by simp only [R.lv] at hl; omega) hz _ _ k
    | _ => cases hk
theorem m_eightTook (T : Txt K mg C) {L : Nat} (tk : Tooks P w K mg base ca C L) : ∀ D ∈ [C.c_Eight], Mth P w K mg base ca (L + 1) D "took" (F_took C fun r => r.kd = .eight ∧ r.lv ≤ L + 1) := by
  refine mth T.m_Eight_took sc_Eight_took (fun ds Ω Q E h => ?_) (fun f cdv A outer s H E hr => ⟨_, _, (ass_one (as_ret (ae_add (ae_meth0 (k := L) hr (takes_of rfl rfl rfl rfl) (by omega) (ae_ix (ae_fld 1 (ae_var 0)) ae_int)) (ae_meth0 (k := L) hr (takes_of rfl rfl rfl rfl) (by omega) (ae_ix (ae_fld 1 (ae_var 0)) ae_int))))), fun ds Ω Qa Ea h => ?_⟩)
  · obtain ⟨_, _, _, rfl, _⟩ := h
    rfl
  · obtain ⟨p, x, S, rfl, hR, ⟨hk, hl⟩, k⟩ := h
    cases hR with
    | eight ho _ hx hy =>
      walk_at "pl"
      rw [ho]
      walk_at "pl"
      refine took_in tk (by simp only [R.lv] at hl; omega) hx _ _ ?_
      rw [ho]
      walk_at "pl"
      refine took_in tk (by simp only [R.lv] at hl; omega) hy _ _ ⟨_, rfl, ?_⟩
      simp only [R.tk, Int.natCast_add] at k
      exact k
    | eightX ho _ hx hy =>
      walk_at "pl"
      rw [ho]
      walk_at "pl"
      refine took_in tk (by simp only [R.lv] at hl; omega) hx _ _ ?_
      rw [ho]
      walk_at "pl"
      refine took_in tk (by simp only [R.lv] at hl; omega) hy _ _ ⟨_, rfl, ?_⟩
      simp only [R.tk, Int.natCast_add] at k
      exact k
    | @eightF _ z1 z2 kk q c ns fs bg w dead fr S1 S2 ho hq hi hd hf hkd =>
      walk_at "pl"
      rw [ho]
      walk_at "pl"
      -- the reader within the four
      obtain ⟨xi, Si, hxi, htk, hlv⟩ : ∃ xi Si, RdO C Ω (if w then z1 else z2) xi Si ∧ xi.tk = fr.tk ∧ xi.lv ≤ fr.lv := by
        cases hf with
        | four e hz =>
          rw [hq] at e
          cases e
          simp only [List.getElem?_cons_succ, List.getElem?_cons_zero, Option.some.injEq, Prod.mk.injEq, D.o.injEq, true_and] at hi
          rw [hi] at hz
          exact ⟨_, _, hz, rfl, by simp only [R.lv]; omega⟩
        | fourX e _ hz =>
          rw [hq] at e
          cases e
          simp only [List.getElem?_cons_succ, List.getElem?_cons_zero, Option.some.injEq, Prod.mk.injEq, D.o.injEq, true_and] at hi
          rw [hi] at hz
          exact ⟨_, _, hz, rfl, by simp only [R.lv]; omega⟩
        | _ => cases hkd
      cases w with
      | true =>
        simp only [if_true, Bool.false_eq_true, if_false] at *
        refine took_in tk (by simp only [R.lv] at hl; omega) hxi _ _ ?_
        rw [ho]
        walk_at "pl"
        refine took_in tk (by simp only [R.lv] at hl; omega) hd _ _ ⟨_, rfl, ?_⟩
        simp only [R.tk, Int.natCast_add] at k
        rw [htk, Int.add_comm]
        exact k
      | false =>
        simp only [if_true, Bool.false_eq_true, if_false] at *
        refine took_in tk (by simp only [R.lv] at hl; omega) hd _ _ ?_
        rw [ho]
        walk_at "pl"
        refine took_in tk (by simp only [R.lv] at hl; omega) hxi _ _ ⟨_, rfl, ?_⟩
        simp only [R.tk, Int.natCast_add] at k
        rw [htk]
        exact k
    | _ => cases hk
theorem tooks (T : Txt K mg C) : ∀ {L : Nat}, 3 ≤ L → Tooks P w K mg base ca C L
  | 0, h => by omega
  | L + 1, h => by
    have st : (4 ≤ L + 1 → Tooks P w K mg base ca C L) → Tooks P w K mg base ca C (L + 1) := fun h4 => by
      refine ⟨fun kd D hD => ?_⟩
      cases kd with
      | fixed => exact ((m_fixedTook T D hD).imp fun ds Ω Q E ⟨p, x, S, e, h1, h2, h3⟩ => ⟨p, x, S, e, h1, h2.1, h3⟩).mono (by omega)
      | leaf => exact ((m_leafTook T D hD).imp fun ds Ω Q E ⟨p, x, S, e, h1, h2, h3⟩ => ⟨p, x, S, e, h1, h2.1, h3⟩).mono (by omega)
      | four =>
        by_cases e : 4 ≤ L + 1
        · exact m_fourTook T (h4 e) D hD
        · exact mth_none T.m_Four_took (fun ds Ω Q E ⟨p, x, S, _, _, ⟨hk, hl⟩, _⟩ => by have := R.lv_four hk; omega) D hD
      | eight =>
        by_cases e : 4 ≤ L + 1
        · exact m_eightTook T (h4 e) D hD
        · exact mth_none T.m_Eight_took (fun ds Ω Q E ⟨p, x, S, _, _, ⟨hk, hl⟩, _⟩ => by have := R.lv_eight hk; omega) D hD
    exact st fun h4 => tooks T (by omega)
inductive Rw where
  | frac (t b : Int)
  | root (t s b : Int)
  | ruled (ps ring steps : List Int)
  | four (ns : List Int) (x : Rw)
  | eight (ns : List Int) (x y : Rw)
  | power (x : Rw) (n : Int)
def Rw.d : Rw → D
  | .frac t b => .tup [.str "fraction", .int t, .int b]
  | .root t s b => .tup [.str "root", .int t, .int s, .int b]
  | .ruled ps ring steps => .tup [.str "ruled", dtup ps, dtup ring, dtup steps]
  | .four ns x => .tup [.str "four", dtup ns, x.d]
  | .eight ns x y => .tup [.str "eight", dtup ns, x.d, y.d]
  | .power x n => .tup [.str "power", x.d, .int n]
def fewB (n : Int) : Bool := decide (n.natAbs ≤ 10 ^ 12)
theorem fewB_iff {n : Int} : fewB n = true ↔ Few n := decide_eq_true_iff
def ruB (ps ring steps : List Int) : Bool := decide (1 ≤ ps.length ∧ ps.length ≤ 12 ∧ ring.length ≤ 12 ∧ ring.length = steps.length) && (ps ++ ring ++ steps).all fewB && (ps.drop 1 ++ ring).all (fun n => decide (1 ≤ n)) && steps.all (fun n => decide (0 ≤ n)) &&
  (if ring = [] then if 1 < ps.length then decide (2 ≤ ps.getLast?.getD 0) else true else true)
def apN (ns : List Int) (i j : Nat) : Bool := !decide (ns.getD i 0 * ns.getD (4 + j) 0 = ns.getD j 0 * ns.getD (4 + i) 0)
def apI (ns : List Int) (i j : Nat) : Bool := (List.range j).any (apN ns i)
def apA (ns : List Int) (i : Nat) : Bool := (List.range i).any fun i => apI ns i i
def eiB (ns : List Int) : Bool := decide (ns.length = 8) && ns.all fewB && apA ns 4
def foB (ns : List Int) : Bool := decide (ns.length = 4) && ns.all fewB && !decide (ns.getD 0 0 * ns.getD 3 0 = ns.getD 1 0 * ns.getD 2 0)
def Rw.ok : Nat → Rw → Bool
  | 0, _ => false
  | _ + 1, .frac t b => fewB t && fewB b && !decide (b = 0)
  | _ + 1, .root t s b => fewB t && fewB s && fewB b && decide (0 ≤ s) && !decide (b = 0)
  | _ + 1, .ruled ps ring steps => ruB ps ring steps
  | k + 1, .four ns x => foB ns && x.ok k
  | k + 1, .eight ns x y => eiB ns && x.ok k && y.ok k
  | k + 1, .power x n => decide (1 ≤ n ∧ n ≤ 4) && x.ok k
/-- refused or let by -/
def gate (C : CT) (b : Bool) (Q : AQ) (E : Value → Om → Prop) (Ω : Om) : Prop := if b = true then Q .non Ω else E (.ref C.c_BadTree) Ω
theorem gate_t {Q : AQ} {E : Value → Om → Prop} {Ω : Om} {b : Bool} (h : gate C b Q E Ω) (e : b = true) : Q .non Ω := by subst e; exact h
theorem gate_f {Q : AQ} {E : Value → Om → Prop} {Ω : Om} {b : Bool} (h : gate C b Q E Ω) (e : b = false) : E (.ref C.c_BadTree) Ω := by subst e; exact h
def F_numbersG (C : CT) : AF := fun ds Ω Q E => ∃ ns : List Int, ds = [.tup (ns.map D.int)] ∧ gate C (ns.all fewB) Q E Ω
def P_numbersG (d : D) (b : Bool) (Ω : Om) : List D → En → Om → Prop := fun us ρ Ω' => ∃ (ns : List Int) (z : Option D), us = ns.map D.int ∧ ns.all fewB = b ∧ Ω' = Ω ∧ ρ = [some d, z]
theorem few_abs {y : Int} : decide ((if y < 0 then -y else y) ≤ 1000000000000) = fewB y := by
  unfold fewB
  congr 1
  simp only [eq_iff_iff]
  split <;> omega
theorem c_need_numbersG (T : Txt K mg C) : Clb P w K mg base ca 2 "need_numbers" (F_numbersG C) := by
  refine clb T.d_need_numbers sc_need_numbers (fun ds Ω Q E h => ?_) (fun f cdv A outer s H E hr => ⟨_, _, (ass_one (as_forT (passes_of rfl) rfl (ae_var 0) (ag_name (i := 1) sc_need_numbers.nd rfl (Or.inl rfl)) (ass_one (as_expr (ae_call (c_must T) hr (takes_of rfl rfl rfl rfl) (by omega) (aa_cons (ae_le (ae_abs rfl T.b_abs (ae_var 1)) (ae_globE rfl T.g_MOST_NUMBER)) aa_nil)))))), fun ds Ω Qa Ea h => ?_⟩)
  · obtain ⟨_, rfl, _⟩ := h
    rfl
  · obtain ⟨ns, rfl, k⟩ := h
    walk_at "pl"
    refine forL_ind (P_numbersG (.tup (ns.map D.int)) (ns.all fewB) Ω) ⟨ns, none, rfl, rfl, rfl, rfl⟩ ?_ ?_
    · rintro ρ Ω' ⟨ms, z, e, hb, rfl, rfl⟩
      have : ms = [] := by cases ms with
        | nil => rfl
        | cons _ _ => cases e
      subst this
      exact gate_t k hb.symm
    · rintro x us ρ Ω' De _ ih _ _ ⟨ms, z, e, hm, rfl, rfl⟩
      cases ms with
      | nil => cases e
      | cons y ys =>
        simp only [List.map_cons, List.cons.injEq] at e
        obtain ⟨rfl, rfl⟩ := e
        walk_at "pl"
        refine ⟨_, rfl, ?_⟩
        rw [few_abs]
        rw [List.all_cons] at hm
        cases hy : fewB y with
        | true =>
          rw [hy, Bool.true_and] at hm
          exact ih _ _ ⟨ys, _, rfl, hm, rfl, rfl⟩
        | false =>
          rw [hy, Bool.false_and] at hm
          exact gate_f k hm.symm
def F_needRuledG (C : CT) : AF := fun ds Ω Q E => ∃ ps ring steps : List Int, ds = [dtup ps, dtup ring, dtup steps] ∧ gate C (ruB ps ring steps) Q E Ω
def P_ruG1 (a b c : D) (q : Bool) (Ω : Om) : List D → En → Om → Prop := fun us ρ Ω' => ∃ (ns : List Int) (z : Option D), us = ns.map D.int ∧ ns.all (fun n => decide (1 ≤ n)) = q ∧ Ω' = Ω ∧ ρ = [some a, some b, some c, z, none]
def P_ruG2 (a b c : D) (q : Bool) (Ω : Om) : List D → En → Om → Prop := fun us ρ Ω' => ∃ (ns : List Int) (z z2 : Option D), us = ns.map D.int ∧ ns.all (fun n => decide (0 ≤ n)) = q ∧ Ω' = Ω ∧ ρ = [some a, some b, some c, z, z2]
def M_ruG (a b c : D) (q : Prop) (Ω : Om) : En → Om → Prop := fun ρ Ω' => q ∧ Ω' = Ω ∧ ρ = [some a, some b, some c, none, none]
theorem c_need_ruledG (T : Txt K mg C) : Clb P w K mg base ca 3 "need_ruled" (F_needRuledG C) := by
  refine clb T.d_need_ruled sc_need_ruled (fun ds Ω Q E h => ?_) (fun f cdv A outer s H E hr => ⟨_, _, (ass_cut (as_expr (ae_call (c_must T) hr (takes_of rfl rfl rfl rfl) (by omega) (aa_cons (ae_and (ae_leLe ae_int (ae_len rfl T.b_len (ae_var 0)) (ae_globE rfl T.g_MOST_PARTS)) (ae_and (ae_le (ae_len rfl T.b_len (ae_var 1)) (ae_globE rfl T.g_MOST_PARTS)) (ae_one (ae_eqI (ae_len rfl T.b_len (ae_var 1)) (ae_len rfl T.b_len (ae_var 2)))))) aa_nil)))
      (ass_cons (as_expr (ae_call (c_need_numbersG T) hr (takes_of rfl rfl rfl rfl) (by omega) (aa_cons (ae_catT (ae_catT (ae_var 0) (ae_var 1)) (ae_var 2)) aa_nil)))
      (ass_cons (as_forT (passes_of rfl) rfl (ae_catT (ae_sl (ae_var 0) (ao_some ae_int) ao_none) (ae_var 1)) (ag_name (i := 3) sc_need_ruled.nd rfl (Or.inl rfl)) (ass_one (as_expr (ae_call (c_must T) hr (takes_of rfl rfl rfl rfl) (by omega) (aa_cons (ae_ge (ae_var 3) ae_int) aa_nil)))))
      (ass_cons (as_forT (passes_of rfl) rfl (ae_var 2) (ag_name (i := 4) sc_need_ruled.nd rfl (Or.inl rfl)) (ass_one (as_expr (ae_call (c_must T) hr (takes_of rfl rfl rfl rfl) (by omega) (aa_cons (ae_ge (ae_var 4) ae_int) aa_nil)))))
      (ass_one (as_if (AWt.at_ (aw_and (at_eqD hr.units (ae_var 1) (ae_tup aa_nil)) (aw_and1 (at_gt (ae_len rfl T.b_len (ae_var 0)) ae_int)))) (ass_one (as_expr (ae_call (c_must T) hr (takes_of rfl rfl rfl rfl) (by omega) (aa_cons (ae_ge (ae_ix (ae_var 0) (ae_neg ae_int)) ae_int) aa_nil)))) ass_nil)))))), fun ds Ω Qa Ea h => ?_⟩)
  · obtain ⟨_, _, _, rfl, _⟩ := h
    rfl
  · obtain ⟨ps, ring, steps, rfl, k⟩ := h
    unfold dtup
    walk_at "pl"
    refine ⟨M_ruG (.tup (ps.map D.int)) (.tup (ring.map D.int)) (.tup (steps.map D.int)) (1 ≤ ps.length ∧ ps.length ≤ 12 ∧ ring.length ≤ 12 ∧ ring.length = steps.length) Ω, ?_, ?_⟩
    · walk_at "pl"
      simp only [List.length_map]
      have bad : ¬ (1 ≤ ps.length ∧ ps.length ≤ 12 ∧ ring.length ≤ 12 ∧ ring.length = steps.length) → Ea (.ref C.c_BadTree) Ω := fun hn => gate_f k (by unfold ruB; rw [decide_eq_false hn]; rfl)
      have good : (1 ≤ ps.length ∧ ps.length ≤ 12 ∧ ring.length ≤ 12 ∧ ring.length = steps.length) → M_ruG (.tup (ps.map D.int)) (.tup (ring.map D.int)) (.tup (steps.map D.int)) (1 ≤ ps.length ∧ ps.length ≤ 12 ∧ ring.length ≤ 12 ∧ ring.length = steps.length) Ω [some (.tup (ps.map D.int)), some (.tup (ring.map D.int)), some (.tup (steps.map D.int)), none, none] Ω := fun h => ⟨h, rfl, rfl⟩
      refine ite2 (fun g1 => ite2 (fun g2 => ite2 (fun g3 => ⟨_, rfl, ?_⟩) (fun g => ⟨_, rfl, bad (by omega)⟩)) (fun g => ⟨_, rfl, bad (by omega)⟩)) (fun g => ⟨_, rfl, bad (by omega)⟩)
      refine ite2 (fun g4 => good ?_) (fun g4 => bad ?_)
      · have := of_decide_eq_true g4
        omega
      · have : ¬ (ring.length : Int) = steps.length := fun z => g4 (decide_eq_true z)
        omega
    · rintro ρ Ω' ⟨⟨h1, h2, h3, h4⟩, rfl, rfl⟩
      walk_at "pl"
      simp only [List.length_map, List.length_append]
      refine ⟨Nat.le_of_lt (small1000' (by omega)), Nat.le_of_lt (small1000' (by omega)), ps ++ ring ++ steps, by rw [List.map_append, List.map_append], ?_⟩
      have hru : ruB ps ring steps = ((ps ++ ring ++ steps).all fewB && (ps.drop 1 ++ ring).all (fun n => decide (1 ≤ n)) && steps.all (fun n => decide (0 ≤ n)) && (if ring = [] then if 1 < ps.length then decide (2 ≤ ps.getLast?.getD 0) else true else true)) := by
        unfold ruB
        rw [decide_eq_true ⟨h1, h2, h3, h4⟩, Bool.true_and]
      rw [hru] at k
      clear hru
      generalize hb0 : (ps ++ ring ++ steps).all fewB = b0 at k ⊢
      cases b0 with
      | false => exact gate_f k rfl
      | true =>
      show (fun d Ω1 => _) _ _
      dsimp only
      rw [Bool.true_and] at k
      rw [cut_1, ← List.map_drop]
      refine ⟨by simp only [List.length_map, List.length_drop]; exact Nat.le_of_lt (small1000' (by omega)), ?_⟩
      rw [← List.map_append]
      refine forL_ind (P_ruG1 (.tup (ps.map D.int)) (.tup (ring.map D.int)) (.tup (steps.map D.int)) ((ps.drop 1 ++ ring).all fun n => decide (1 ≤ n)) _) ⟨_, none, rfl, rfl, rfl, rfl⟩ ?_ ?_
      · rintro ρ Ω' ⟨ms, z, e, hb, rfl, rfl⟩
        have : ms = [] := by cases ms with
          | nil => rfl
          | cons _ _ => cases e
        subst this
        rw [← hb] at k
        simp only [List.all_nil, Bool.true_and] at k
        walk_at "pl"
        refine forL_ind (P_ruG2 (.tup (ps.map D.int)) (.tup (ring.map D.int)) (.tup (steps.map D.int)) (steps.all fun n => decide (0 ≤ n)) _) ⟨_, z, none, rfl, rfl, rfl, rfl⟩ ?_ ?_
        · rintro ρ Ω' ⟨ms, z, z2, e, hb, rfl, rfl⟩
          have : ms = [] := by cases ms with
            | nil => rfl
            | cons _ _ => cases e
          subst this
          rw [← hb] at k
          simp only [List.all_nil, Bool.true_and] at k
          walk_at "pl"
          refine ⟨Nat.zero_le _, fEq_nil ⟨_, rfl, ?_⟩⟩
          simp only [Bool.false_eq_true, if_false, List.length_map]
          by_cases hr : ring = []
          · rw [decide_eq_true hr, if_pos rfl]
            rw [if_pos hr] at k
            refine ite2 (fun e => ?_) (fun e => ?_)
            · rw [if_pos (by omega)] at k
              cases hq : ps.getLast? with
              | none => rw [List.getLast?_eq_none_iff.mp hq] at h1; simp at h1
              | some n =>
                rw [hq] at k
                refine ⟨_, by rw [List.getLast?_map, hq]; rfl, n, rfl, ?_⟩
                exact ⟨_, rfl, k⟩
            · rw [if_neg (by omega)] at k
              exact gate_t k rfl
          · rw [decide_eq_false hr, if_neg (by decide)]
            rw [if_neg hr] at k
            exact gate_t k rfl
        · rintro x us ρ Ω' De _ ih _ _ ⟨ms, z, z2, e, hm, rfl, rfl⟩
          cases ms with
          | nil => cases e
          | cons y ys =>
            simp only [List.map_cons, List.cons.injEq] at e
            obtain ⟨rfl, rfl⟩ := e
            walk_at "pl"
            rw [List.all_cons] at hm
            refine ⟨_, rfl, ?_⟩
            generalize hy : decide (0 ≤ y) = b at hm ⊢
            cases b with
            | true => exact ih _ _ ⟨ys, _, _, rfl, by rw [Bool.true_and] at hm; exact hm, rfl, rfl⟩
            | false =>
              rw [Bool.false_and] at hm
              rw [← hm] at k
              exact gate_f k rfl
      · rintro x us ρ Ω' De _ ih _ _ ⟨ms, z, e, hm, rfl, rfl⟩
        cases ms with
        | nil => cases e
        | cons y ys =>
          simp only [List.map_cons, List.cons.injEq] at e
          obtain ⟨rfl, rfl⟩ := e
          walk_at "pl"
          rw [List.all_cons] at hm
          refine ⟨_, rfl, ?_⟩
          generalize hy : decide (1 ≤ y) = b at hm ⊢
          cases b with
          | true => exact ih _ _ ⟨ys, _, rfl, by rw [Bool.true_and] at hm; exact hm, rfl, rfl⟩
          | false =>
            rw [Bool.false_and] at hm
            rw [← hm] at k
            exact gate_f k rfl
theorem gate_true {Q : AQ} {E : Value → Om → Prop} {Ω : Om} : gate C true Q E Ω = Q .non Ω := rfl
def F_needEight (C : CT) : AF := fun ds Ω Q E => ∃ ns : List Int, ds = [dtup ns] ∧ gate C (eiB ns) Q E Ω
def P_e1 (ns : List Int) (Ω : Om) : List D → En → Om → Prop := fun us ρ Ω' => ∃ (i l : Nat) (z1 z2 : Option D), us = rngD (i : Int) l ∧ i + l = 4 ∧ Ω' = Ω ∧ ρ = [some (dtup ns), some (.bl (apA ns i)), z1, z2]
def P_e2 (ns : List Int) (i : Nat) (Ω : Om) : List D → En → Om → Prop := fun us ρ Ω' => ∃ (j l : Nat) (z2 : Option D), us = rngD (j : Int) l ∧ j + l = i ∧ Ω' = Ω ∧ ρ = [some (dtup ns), some (.bl (apA ns i || apI ns i j)), some (.int i), z2]
theorem rng_step {lo : Int} {l : Nat} {x : D} {us : List D} (h : x :: us = rngD lo l) : ∃ l', l = l' + 1 ∧ x = .int lo ∧ us = rngD (lo + 1) l' := by
  cases l with
  | zero => cases h
  | succ l =>
    rw [rngD_succ] at h
    cases h
    exact ⟨l, rfl, rfl, rfl⟩
theorem rng_nil {lo : Int} {l : Nat} (h : [] = rngD lo l) : l = 0 := by
  cases l with
  | zero => rfl
  | succ l => rw [rngD_succ] at h; cases h
theorem range_snoc {n : Nat} {f : Nat → Bool} : (List.range (n + 1)).any f = ((List.range n).any f || f n) := by
  rw [List.range_succ, List.any_append, List.any_cons, List.any_nil, Bool.or_false]
theorem few_mul {x y : Int} (h : Few x) (h2 : Few y) : IntMulOk x y := by
  unfold Few at h h2
  exact mulok (a := 60) (b := 60) (by omega) (by omega) (by decide)
theorem c_need_eight (T : Txt K mg C) : Clb P w K mg base ca 3 "need_eight" (F_needEight C) := by
  refine clb T.d_need_eight sc_need_eight (fun ds Ω Q E h => ?_) (fun f cdv A outer s H E hr => ⟨_, _, (ass_cons (as_expr (ae_call (c_must T) hr (takes_of rfl rfl rfl rfl) (by omega) (aa_cons (ae_eqI (ae_len rfl T.b_len (ae_var 0)) ae_int) aa_nil)))
      (ass_cons (as_expr (ae_call (c_need_numbersG T) hr (takes_of rfl rfl rfl rfl) (by omega) (aa_cons (ae_var 0) aa_nil)))
      (ass_cons (as_set 1 sc_need_eight.nd ae_bl)
      (ass_cons (as_forR1 (passes_of rfl) rfl rfl T.b_range ae_int (ag_name (i := 2) sc_need_eight.nd rfl (Or.inl rfl)) (ass_one (as_forR1 (passes_of rfl) rfl rfl T.b_range (ae_var 2) (ag_name (i := 3) sc_need_eight.nd rfl (Or.inl rfl)) (ass_one (as_set 1 sc_need_eight.nd (ae_or (ae_var 1) (ae_one (ae_neI (ae_mul (ae_ix (ae_var 0) (ae_var 2)) (ae_ix (ae_var 0) (ae_add ae_int (ae_var 3)))) (ae_mul (ae_ix (ae_var 0) (ae_var 3)) (ae_ix (ae_var 0) (ae_add ae_int (ae_var 2))))))))))))
      (ass_one (as_expr (ae_call (c_must T) hr (takes_of rfl rfl rfl rfl) (by omega) (aa_cons (ae_var 1) aa_nil)))))))), fun ds Ω Qa Ea h => ?_⟩)
  · obtain ⟨_, rfl, _⟩ := h
    rfl
  · obtain ⟨ns, rfl, k⟩ := h
    unfold dtup
    walk_at "pl"
    simp only [List.length_map]
    refine ⟨_, rfl, ?_⟩
    have e8 : decide ((ns.length : Int) = 8) = decide (ns.length = 8) := by congr 1; simp only [eq_iff_iff]; omega
    rw [e8]
    unfold eiB at k
    generalize h8 : decide (ns.length = 8) = b8 at k ⊢
    cases b8 with
    | false => exact gate_f k rfl
    | true =>
    have hl := of_decide_eq_true h8
    rw [Bool.true_and] at k
    refine ⟨ns, rfl, ?_⟩
    generalize hf : ns.all fewB = bf at k ⊢
    cases bf with
    | false => exact gate_f k rfl
    | true =>
    rw [Bool.true_and] at k
    have hfew : ∀ n ∈ ns, Few n := fun n hn => fewB_iff.mp (List.all_eq_true.mp hf n hn)
    show (fun d Ω1 => _) _ _
    dsimp only
    refine ⟨by decide, by decide, ?_⟩
    refine forL_ind (P_e1 ns Ω) ⟨0, 4, none, none, rfl, rfl, rfl, rfl⟩ ?_ ?_
    · rintro ρ Ω' ⟨i, l, z1, z2, e, hi, rfl, rfl⟩
      have := rng_nil e
      have : i = 4 := by omega
      subst this
      walk_at "pl"
      exact ⟨_, rfl, k⟩
    · rintro x us ρ Ω' De e1 ih _ _ ⟨i, l, z1, z2, e, hi, rfl, rfl⟩
      obtain ⟨l', rfl, rfl, rfl⟩ := rng_step e
      walk_at "pl"
      refine ⟨by omega, by omega, ?_⟩
      have e0 : rngD 0 i = rngD ((0 : Nat) : Int) i := rfl
      rw [e0]
      refine forL_ind (P_e2 ns i Ω') ⟨0, i, z2, rfl, by omega, rfl, by simp [apI]⟩ ?_ ?_
      · rintro ρ Ω2 ⟨j, l, z2, e, hj, rfl, rfl⟩
        have := rng_nil e
        have : j = i := by omega
        subst this
        refine ih _ _ ⟨j + 1, l', some (.int j), z2, by rw [Int.natCast_add]; rfl, by omega, rfl, ?_⟩
        rw [show apA ns (j + 1) = (apA ns j || apI ns j j) from range_snoc]
      · rintro x us ρ Ω2 De2 e2 ih2 _ _ ⟨j, l, z2, e, hj, rfl, rfl⟩
        obtain ⟨l2, rfl, rfl, rfl⟩ := rng_step e
        unfold dtup
        walk_at "pl"
        have nx : De2.nx [some (dtup ns), some (.bl (apA ns i || apI ns i (j + 1))), some (.int i), some (.int j)] Ω2 := ih2 _ _ ⟨j + 1, l2, _, by rw [Int.natCast_add]; rfl, by omega, rfl, rfl⟩
        rw [apI, range_snoc, ← Bool.or_assoc] at nx
        rw [show (List.range j).any (apN ns i) = apI ns i j from rfl] at nx
        generalize (apA ns i || apI ns i j) = b at nx ⊢
        cases b with
        | true => exact nx
        | false =>
          have fi : ∀ t : Nat, t < 8 → Few (ns.getD t 0) := fun t ht => hfew _ (getD_mem (by omega))
          exact ⟨_, getD_at (i := i) (by omega) rfl, _, getD_at (i := 4 + j) (by omega) (by omega), _, rfl, _, rfl, few_mul (fi _ (by omega)) (fi _ (by omega)), _, getD_at (i := j) (by omega) rfl, _, getD_at (i := 4 + i) (by omega) (by omega), _, rfl, _, rfl, few_mul (fi _ (by omega)) (fi _ (by omega)), nx⟩
theorem clb_none {x : Str} {st : Stmt} {ps : List Str} (d : Dfn K mg x x st ps) (k : Nat) : Clb P w K mg base ca k x (fun _ _ _ _ => False) := by
  obtain ⟨f, fd, F, m, b⟩ := d.ex
  exact ⟨f, fd, ps, ⟨fun vs H Q E ⟨_, _, _, _, _, _, _, _, z, _⟩ => z.elim, fun _ _ _ _ _ _ _ _ _ _ _ _ _ ⟨_, _, _, _, _, _, _, _, z, _⟩ => z.elim⟩, m, F.kp, b⟩
def F_needT (C : CT) (M : Nat) : AF := fun ds Ω Q E => ∃ (x : Rw) (k : Nat), ds = [x.d, .int k] ∧ k ≤ M ∧ gate C (x.ok k) Q E Ω
theorem need_step (T : Txt K mg C) {j M : Nat} (hj : 4 ≤ j) {Fp : AF} (c_self : Clb P w K mg base ca j "need_tree" Fp) (hF : ∀ (x : Rw) (k : Nat) Ω Q E, k < M → gate C (x.ok k) Q E Ω → Fp [x.d, .int k] Ω Q E) : Clb P w K mg base ca (j + 1) "need_tree" (F_needT C M) := by
  refine clb T.d_need_tree sc_need_tree (fun ds Ω Q E h => ?_) (fun f cdv A outer s H E hr => ⟨_, _, (ass_cons (as_expr (ae_call (c_must T) hr (takes_of rfl rfl rfl rfl) (by omega) (aa_cons (ae_ge (ae_var 1) ae_int) aa_nil)))
      (ass_cons (as_set 2 sc_need_tree.nd (ae_ix (ae_var 0) ae_int))
      (ass_one (as_if (at_eqS (ae_var 2) ae_str) (ass_cons (as_expr (ae_call (c_need_numbersG T) hr (takes_of rfl rfl rfl rfl) (by omega) (aa_cons (ae_sl (ae_var 0) (ao_some ae_int) ao_none) aa_nil)))
      (ass_one (as_expr (ae_call (c_must T) hr (takes_of rfl rfl rfl rfl) (by omega) (aa_cons (ae_neI (ae_ix (ae_var 0) ae_int) ae_int) aa_nil))))) (ass_one (as_if (at_eqS (ae_var 2) ae_str) (ass_cons (as_expr (ae_call (c_need_numbersG T) hr (takes_of rfl rfl rfl rfl) (by omega) (aa_cons (ae_sl (ae_var 0) (ao_some ae_int) ao_none) aa_nil)))
      (ass_one (as_expr (ae_call (c_must T) hr (takes_of rfl rfl rfl rfl) (by omega) (aa_cons (ae_and (ae_ge (ae_ix (ae_var 0) ae_int) ae_int) (ae_one (ae_neI (ae_ix (ae_var 0) ae_int) ae_int))) aa_nil))))) (ass_one (as_if (at_eqS (ae_var 2) ae_str) (ass_one (as_expr (ae_call (c_need_ruledG T) hr (takes_of rfl rfl rfl rfl) (by omega) (aa_cons (ae_ix (ae_var 0) ae_int) (aa_cons (ae_ix (ae_var 0) ae_int) (aa_cons (ae_ix (ae_var 0) ae_int) aa_nil)))))) (ass_one (as_if (at_eqS (ae_var 2) ae_str) (ass_cons (as_expr (ae_call (c_must T) hr (takes_of rfl rfl rfl rfl) (by omega) (aa_cons (ae_eqI (ae_len rfl T.b_len (ae_ix (ae_var 0) ae_int)) ae_int) aa_nil)))
      (ass_cons (as_expr (ae_call (c_need_numbersG T) hr (takes_of rfl rfl rfl rfl) (by omega) (aa_cons (ae_ix (ae_var 0) ae_int) aa_nil)))
      (ass_cons (as_expr (ae_call (c_must T) hr (takes_of rfl rfl rfl rfl) (by omega) (aa_cons (ae_neI (ae_mul (ae_ix (ae_ix (ae_var 0) ae_int) ae_int) (ae_ix (ae_ix (ae_var 0) ae_int) ae_int)) (ae_mul (ae_ix (ae_ix (ae_var 0) ae_int) ae_int) (ae_ix (ae_ix (ae_var 0) ae_int) ae_int))) aa_nil)))
      (ass_one (as_expr (ae_call c_self hr (takes_of rfl rfl rfl rfl) (by omega) (aa_cons (ae_ix (ae_var 0) ae_int) (aa_cons (ae_sub (ae_var 1) ae_int) aa_nil)))))))) (ass_one (as_if (at_eqS (ae_var 2) ae_str) (ass_cons (as_expr (ae_call (c_need_eight T) hr (takes_of rfl rfl rfl rfl) (by omega) (aa_cons (ae_ix (ae_var 0) ae_int) aa_nil)))
      (ass_cons (as_expr (ae_call c_self hr (takes_of rfl rfl rfl rfl) (by omega) (aa_cons (ae_ix (ae_var 0) ae_int) (aa_cons (ae_sub (ae_var 1) ae_int) aa_nil))))
      (ass_one (as_expr (ae_call c_self hr (takes_of rfl rfl rfl rfl) (by omega) (aa_cons (ae_ix (ae_var 0) ae_int) (aa_cons (ae_sub (ae_var 1) ae_int) aa_nil))))))) (ass_cons (as_expr (ae_call (c_must T) hr (takes_of rfl rfl rfl rfl) (by omega) (aa_cons (ae_leLe ae_int (ae_ix (ae_var 0) ae_int) (ae_globE rfl T.g_MOST_POWER)) aa_nil)))
      (ass_one (as_expr (ae_call c_self hr (takes_of rfl rfl rfl rfl) (by omega) (aa_cons (ae_ix (ae_var 0) ae_int) (aa_cons (ae_sub (ae_var 1) ae_int) aa_nil)))))))))))))))))), fun ds Ω Qa Ea h => ?_⟩)
  · obtain ⟨_, _, rfl, _⟩ := h
    rfl
  · obtain ⟨x, kk, rfl, hk, k⟩ := h
    cases kk with
    | zero =>
      walk_at "pl"
      exact ⟨_, rfl, gate_f k rfl⟩
    | succ kk =>
    have hd : ((kk + 1 : Nat) : Int) - 1 = (kk : Int) := by omega
    walk_at "pl"
    refine ⟨_, rfl, ?_⟩
    rw [if_pos (by simp; omega)]
    cases x with
    | frac t b =>
      simp only [Rw.d]
      walk_at "pl"
      rw [cut_1]
      refine ⟨[t, b], rfl, ?_⟩
      simp only [Rw.ok] at k
      simp only [List.all_cons, List.all_nil, Bool.and_true]
      generalize (fewB t && fewB b) = q at k ⊢
      cases q with
      | false => exact gate_f k rfl
      | true => exact ⟨_, rfl, k⟩
    | root t s b =>
      simp only [Rw.d]
      walk_at "pl"
      rw [if_neg (by decide), cut_1]
      refine ⟨[t, s, b], rfl, ?_⟩
      simp only [Rw.ok] at k
      simp only [List.all_cons, List.all_nil, Bool.and_true, ← Bool.and_assoc]
      generalize (fewB t && fewB s && fewB b) = q at k ⊢
      cases q with
      | false => exact gate_f k rfl
      | true =>
        rw [Bool.true_and] at k
        by_cases hs : 0 ≤ s
        · rw [decide_eq_true hs, Bool.true_and] at k
          rw [gate_true]
          rw [if_pos hs]
          exact ⟨_, rfl, k⟩
        · rw [decide_eq_false hs, Bool.false_and] at k
          rw [gate_true]
          rw [if_neg hs]
          exact ⟨_, rfl, k⟩
    | ruled ps ring steps =>
      simp only [Rw.d]
      walk_at "pl"
      rw [if_neg (by decide), if_neg (by decide)]
      exact ⟨ps, ring, steps, rfl, k⟩
    | four ns y =>
      simp only [Rw.d]
      walk_at "pl"
      rw [if_neg (by decide), if_neg (by decide), if_neg (by decide), hd]
      refine ⟨_, rfl, _, rfl, ?_⟩
      simp only [Rw.ok] at k
      unfold foB at k
      rw [List.length_map]
      have e4 : decide ((ns.length : Int) = 4) = decide (ns.length = 4) := by congr 1; simp only [eq_iff_iff]; omega
      rw [e4]
      generalize h4 : decide (ns.length = 4) = b4 at k ⊢
      cases b4 with
      | false => exact gate_f k rfl
      | true =>
      have hl := of_decide_eq_true h4
      rw [Bool.true_and] at k
      refine ⟨ns, rfl, ?_⟩
      generalize hf : ns.all fewB = bf at k ⊢
      cases bf with
      | false => exact gate_f k rfl
      | true =>
      rw [Bool.true_and] at k
      have hfew : ∀ n ∈ ns, Few n := fun n hn => fewB_iff.mp (List.all_eq_true.mp hf n hn)
      have fi : ∀ t : Nat, t < 4 → Few (ns.getD t 0) := fun t ht => hfew _ (getD_mem (by omega))
      have at_ : ∀ t : Nat, t < 4 → (ns.map D.int)[t]? = some (.int (ns.getD t 0)) := fun t ht => by rw [← atI_eq]; exact getD_at (by omega) rfl
      rw [gate_true]
      refine ⟨_, rfl, _, at_ 0 (by omega), _, rfl, _, at_ 3 (by omega), _, rfl, _, rfl, few_mul (fi 0 (by omega)) (fi 3 (by omega)), _, rfl, _, at_ 1 (by omega), _, rfl, _, at_ 2 (by omega), _, rfl, _, rfl, few_mul (fi 1 (by omega)) (fi 2 (by omega)), _, rfl, ?_⟩
      generalize (!decide (ns.getD 0 0 * ns.getD 3 0 = ns.getD 1 0 * ns.getD 2 0)) = q at k ⊢
      cases q with
      | false => exact gate_f k rfl
      | true => exact hF y kk _ _ _ (by omega) k
    | eight ns y z =>
      simp only [Rw.d]
      walk_at "pl"
      rw [if_neg (by decide), if_neg (by decide), if_neg (by decide), if_neg (by decide), hd]
      simp only [Rw.ok] at k
      refine ⟨ns, rfl, ?_⟩
      generalize eiB ns = q at k ⊢
      cases q with
      | false => exact gate_f k rfl
      | true =>
      rw [Bool.true_and] at k
      rw [gate_true]
      refine hF y kk _ _ _ (by omega) ?_
      generalize y.ok kk = q at k ⊢
      cases q with
      | false => exact gate_f k rfl
      | true => exact hF z kk _ _ _ (by omega) k
    | power y n =>
      simp only [Rw.d]
      walk_at "pl"
      rw [if_neg (by decide), if_neg (by decide), if_neg (by decide), if_neg (by decide), if_neg (by decide), hd]
      simp only [Rw.ok] at k
      have go : ∀ b : Bool, decide (1 ≤ n ∧ n ≤ 4) = b → F_must C [.bl b] Ω (fun _ Ω1 => Fp [y.d, .int kk] Ω1 (fun _ Ω1 => Qa .non Ω1) fun cls Ω' => Ea cls Ω') (fun cls Ω' => Ea cls Ω') := fun b hb => by
        rw [hb] at k
        refine ⟨_, rfl, ?_⟩
        cases b with
        | false => exact gate_f k rfl
        | true => exact hF y kk _ _ _ (by omega) k
      refine ite2 (fun h1 => ?_) (fun h1 => go _ (decide_eq_false (by omega)))
      exact go _ (by congr 1; simp only [eq_iff_iff]; omega)
theorem c_need_tree (T : Txt K mg C) : ∀ M : Nat, Clb P w K mg base ca (M + 5) "need_tree" (F_needT C M)
  | 0 => need_step T (Nat.le_refl 4) (clb_none T.d_need_tree 4) (fun _ _ _ _ _ h => by omega)
  | M + 1 => need_step T (by omega) (c_need_tree T M) (fun x k Ω Q E h g => ⟨x, k, rfl, by omega, g⟩)
/-- good trees as raw ones -/
def Tr.raw : Tr → Rw
  | .frac t b => .frac t b
  | .root t s b => .root t s b
  | .ruled ps ring steps => .ruled ps ring steps
  | .four a b c d x => .four [a, b, c, d] x.raw
  | .eight a b c d e f g h x y => .eight [a, b, c, d, e, f, g, h] x.raw y.raw
  | .power x n => .power x.raw n
theorem Tr.raw_d : ∀ t : Tr, t.raw.d = t.d
  | .frac t b => rfl
  | .root t s b => rfl
  | .ruled ps ring steps => rfl
  | .four a b c d x => by simp only [Tr.raw, Rw.d, Tr.d, x.raw_d]
  | .eight a b c d e f g h x y => by simp only [Tr.raw, Rw.d, Tr.d, x.raw_d, y.raw_d]
  | .power x n => by simp only [Tr.raw, Rw.d, Tr.d, x.raw_d]
theorem Tr.raw_ok : ∀ (t : Tr) (k : Nat), t.good k → t.raw.ok k = true
  | t, 0, h => by cases t <;> exact h.elim
  | .frac t b, k + 1, h => by
    obtain ⟨h1, h2, h3⟩ := h
    simp only [Tr.raw, Rw.ok, fewB_iff.mpr h1, fewB_iff.mpr h2, decide_eq_false h3]
    rfl
  | .root t s b, k + 1, h => by
    obtain ⟨h1, h2, h3, h4, h5⟩ := h
    simp only [Tr.raw, Rw.ok, fewB_iff.mpr h1, fewB_iff.mpr h2, fewB_iff.mpr h3, decide_eq_true h4, decide_eq_false h5]
    rfl
  | .ruled ps ring steps, k + 1, h => by
    obtain ⟨h1, h2, h3, h4, h5, h6, h7, h8⟩ := h
    simp only [Tr.raw, Rw.ok]
    unfold ruB
    rw [decide_eq_true ⟨h1, h2, h3, h4⟩, List.all_eq_true.mpr fun n hn => fewB_iff.mpr (h5 n hn), List.all_eq_true.mpr fun n hn => decide_eq_true (h6 n hn), List.all_eq_true.mpr fun n hn => decide_eq_true (h7 n hn)]
    simp only [Bool.true_and]
    split
    · rename_i hr
      split
      · rename_i hl
        cases hq : ps.getLast? with
        | none => rw [List.getLast?_eq_none_iff.mp hq] at h1; simp at h1
        | some n => exact decide_eq_true (h8 hr hl n hq)
      · rfl
    · rfl
  | .four a b c d x, k + 1, h => by
    obtain ⟨h1, h2, h3, h4, h5, h6⟩ := h
    simp only [Tr.raw, Rw.ok, x.raw_ok k h6, foB, List.all_cons, List.all_nil, fewB_iff.mpr h1, fewB_iff.mpr h2, fewB_iff.mpr h3, fewB_iff.mpr h4]
    simpa using h5
  | .eight a b c d e f g i x y, k + 1, h => by
    obtain ⟨h1, h2, h3, h4⟩ := h
    have ha : [a, b, c, d, e, f, g, i].all fewB = true := List.all_eq_true.mpr fun n hn => fewB_iff.mpr (h1 n hn)
    simp only [Tr.raw, Rw.ok, x.raw_ok k h3, y.raw_ok k h4, eiB, ha, Bool.and_true]
    have : apA [a, b, c, d, e, f, g, i] 4 = (apN [a, b, c, d, e, f, g, i] 1 0 || (apN [a, b, c, d, e, f, g, i] 2 0 || apN [a, b, c, d, e, f, g, i] 2 1) || (apN [a, b, c, d, e, f, g, i] 3 0 || apN [a, b, c, d, e, f, g, i] 3 1 || apN [a, b, c, d, e, f, g, i] 3 2)) := by
      unfold apA apI
      simp only [List.range_succ, List.range_zero, List.nil_append, List.any_cons, List.any_nil, List.any_append, List.cons_append, Bool.or_false, Bool.false_or, Bool.or_assoc]
    rw [this]
    simp only [apN, List.getD_cons_zero, List.getD_cons_succ, List.length_cons, List.length_nil, Nat.reduceAdd, decide_true, Bool.true_and, Bool.or_eq_true, Bool.not_eq_true', decide_eq_false_iff_not]
    rcases h2 with z | z | z | z | z | z
    · exact .inl (.inl z)
    · exact .inl (.inr (.inl z))
    · exact .inl (.inr (.inr z))
    · exact .inr (.inl (.inl z))
    · exact .inr (.inl (.inr z))
    · exact .inr (.inr z)
  | .power x n, k + 1, h => by
    obtain ⟨h1, h2, h3⟩ := h
    simp only [Tr.raw, Rw.ok, x.raw_ok k h3, decide_eq_true (And.intro h1 h2)]
    rfl
def F_rootOf (C : CT) : AF := fun ds Ω Q _ => ∃ t s b : Int, ds = [.int t, .int s, .int b] ∧ Few t ∧ Few s ∧ Few b ∧ 0 ≤ s ∧ b ≠ 0 ∧ ∀ r p Ω', Opened (.root t s b) r → RdO C Ω' p r [p] → Ω p = none → (∀ b, Ω b ≠ none → Ω' b = Ω b) → Q (.o p) Ω'
theorem new_stand {Ω : Om} {p : Addr} {o u : AO} (h : Ω p = none) : ∀ b, Ω b ≠ none → oset (oset Ω p o) p u b = Ω b := fun b hb => by
  have : b ≠ p := fun e => hb (by rw [e]; exact h)
  rw [oset_ne this, oset_ne this]
theorem abI_pos {b : Int} (h : b ≠ 0) : 0 < abI b := by unfold abI; split <;> omega
theorem c_root_of (T : Txt K mg C) : Clb P w K mg base ca 4 "root_of" (F_rootOf C) := by
  refine clb T.d_root_of sc_root_of (fun ds Ω Q E h => ?_) (fun f cdv A outer s H E hr => ⟨_, _, (ass_cons (as_set 3 sc_root_of.nd (ae_call (c_root_below T) hr (takes_of rfl rfl rfl rfl) (by omega) (aa_cons (ae_var 1) aa_nil)))
      (ass_cons (as_if (at_eqI (ae_mul (ae_var 3) (ae_var 3)) (ae_var 1)) (ass_one (as_ret (ae_make (mk_Fraction T) hr (takes_of rfl rfl rfl rfl) (by omega) (aa_cons (ae_add (ae_var 0) (ae_var 3)) (aa_cons (ae_var 2) aa_nil))))) ass_nil)
      (ass_cons (as_set 4 sc_root_of.nd (ae_abs rfl T.b_abs (ae_var 2)))
      (ass_one (as_ret (ae_make (mk_Root T) hr (takes_of rfl rfl rfl rfl) (by omega) (aa_cons (ae_mul (ae_var 0) (ae_var 4)) (aa_cons (ae_mul (ae_mul (ae_var 1) (ae_var 4)) (ae_var 4)) (aa_cons (ae_mul (ae_var 2) (ae_var 4)) aa_nil))))))))), fun ds Ω Qa Ea h => ?_⟩)
  · obtain ⟨_, _, _, rfl, _⟩ := h
    rfl
  · obtain ⟨t, s', b, rfl, ht, hs, hb, s0, b0, k⟩ := h
    unfold Few at ht hs hb
    walk_at "pl"
    refine ⟨s', rfl, s0, by omega, fun f f0 f1 f2 => ?_⟩
    have ff : f ≤ s' := by
      rcases Int.lt_or_le f 1 with h | h
      · omega
      · have := Int.mul_le_mul_of_nonneg_left h f0
        omega
    refine ⟨f, rfl, f, rfl, mulok (a := 60) (b := 60) (by omega) (by omega) (by decide), ite2 (fun e => ⟨f, rfl, fun p hp => ⟨p, t + f, b, rfl, oset_same, rfl, ?_⟩⟩) (fun e => ?_)⟩
    · exact k _ p _ (.rootF f0 e) (.frac oset_same) hp (new_stand hp)
    · have eb : (if b < 0 then -b else b) = abI b := rfl
      have hb0 := abI_pos b0
      have hb1 : (abI b).natAbs < 2 ^ 60 := by unfold abI; split <;> omega
      have hb2 : abI b ≤ 10 ^ 12 := by unfold abI; split <;> omega
      rw [eb]
      have g0 : 0 ≤ s' * abI b := Int.mul_nonneg s0 (by omega)
      have g1 : s' * abI b ≤ 10 ^ 12 * 10 ^ 12 := Int.mul_le_mul (by omega) hb2 (by omega) (by decide)
      have g2 : 0 ≤ s' * abI b * abI b := Int.mul_nonneg g0 (by omega)
      have g3 : s' * abI b * abI b ≤ (10 ^ 12 * 10 ^ 12) * 10 ^ 12 := Int.mul_le_mul g1 hb2 (by omega) (by decide)
      refine ⟨mulok (a := 60) (b := 60) (by omega) hb1 (by decide), mulok (a := 60) (b := 60) (by omega) hb1 (by decide), mulok (a := 200) (b := 60) (by omega) hb1 (by decide), mulok (a := 60) (b := 60) (by omega) hb1 (by decide), fun p hp => ⟨p, _, _, _, rfl, oset_same, g2, by omega, fun f' h1 h2 h3 => ⟨rfl, ?_⟩⟩⟩
      exact k _ p _ (.rootR f0 (by omega) f2 h1 h2 h3) (.root oset_same) hp (new_stand hp)
theorem fl_unique {s f g : Int} (f0 : 0 ≤ f) (f1 : f * f ≤ s) (f2 : s < (f + 1) * (f + 1)) (g0 : 0 ≤ g) (g1 : g * g ≤ s) (g2 : s < (g + 1) * (g + 1)) : f = g := by
  rcases Int.lt_trichotomy f g with z | z | z
  · have h1 : f + 1 ≤ g := z
    have := Int.mul_le_mul h1 h1 (by omega) (by omega)
    omega
  · exact z
  · have h1 : g + 1 ≤ f := z
    have := Int.mul_le_mul h1 h1 (by omega) (by omega)
    omega
theorem sq_lt {f : Int} (h : 0 ≤ f) : f * f < (f + 1) * (f + 1) := by
  have : (f + 1) * (f + 1) = f * f + 2 * f + 1 := by grind
  omega
theorem Opened.unique {t : Tr} {r r' : R} (h : Opened t r) (h' : Opened t r') : r = r' := by
  induction h generalizing r' with
  | frac => cases h'; rfl
  | rootF h1 h2 =>
    cases h' with
    | rootF g1 g2 => rw [fl_unique h1 (Int.le_of_eq h2) (by rw [← h2]; exact sq_lt h1) g1 (Int.le_of_eq g2) (by rw [← g2]; exact sq_lt g1)]
    | rootR g1 g2 g3 =>
      have := fl_unique h1 (Int.le_of_eq h2) (by rw [← h2]; exact sq_lt h1) g1 (Int.le_of_lt g2) g3
      subst this
      omega
  | rootR q1 q2 q3 q4 q5 q6 =>
    cases h' with
    | rootF g1 g2 =>
      have := fl_unique g1 (Int.le_of_eq g2) (by rw [← g2]; exact sq_lt g1) q1 (Int.le_of_lt q2) q3
      subst this
      omega
    | rootR g1 g2 g3 g4 g5 g6 => rw [fl_unique q4 q5 q6 g4 g5 g6]
  | ruled => cases h'; rfl
  | four _ ih => cases h' with | four g => rw [ih g]
  | eight _ _ ih1 ih2 => cases h' with | eight g1 g2 => rw [ih1 g1, ih2 g2]
  | power _ ih => cases h' with | power g => rw [ih g]
def Opn (C : CT) (tr : Tr) (Q : AQ) (Ω : Om) : Prop := ∀ r p Ω' S, Opened tr r → RdO C Ω' p r S → (∀ b ∈ S, Ω b = none) → (∀ b, Ω b ≠ none → Ω' b = Ω b) → Q (.o p) Ω'
def F_openG (C : CT) (M : Nat) : AF := fun ds Ω Q _ => ∃ (tr : Tr) (k : Nat), ds = [tr.d] ∧ k ≤ M ∧ tr.good k ∧ Opn C tr Q Ω
def P_open (C : CT) (d z0 : D) (n : Nat) (r : R) (Ω : Om) : List D → En → Om → Prop := fun us ρ Ω' => ∃ (i l : Nat) (p : Addr) (S : List Addr) (z : Option D), us = rngD (i : Int) l ∧ i + l = n ∧ RdO C Ω' p (pows r i) S ∧ (∀ b ∈ S, Ω b = none) ∧ (∀ b, Ω b ≠ none → Ω' b = Ω b) ∧ ρ = [some d, some z0, some (.o p), z]
theorem rd_eight {Ω Ω1 Ω2 : Om} {z1 z2 p kk : Addr} {a b c d e f g h : Int} {x y : R} {S1 S2 : List Addr} (hx : RdO C Ω1 z1 x S1) (h1 : ∀ b ∈ S1, Ω b = none) (k1 : ∀ b, Ω b ≠ none → Ω1 b = Ω b) (hy : RdO C Ω2 z2 y S2) (h2 : ∀ b ∈ S2, Ω1 b = none) (k2 : ∀ b, Ω1 b ≠ none → Ω2 b = Ω1 b) (hp : Ω2 p = none) (hk : Ω2 kk = none) (hne : kk ≠ p) {o : AO} :
    ∃ S, RdO C (oset (oset (oset Ω2 p o) kk (.lst [.int 0, .int 0])) p (oEight C [.int a, .int b, .int c, .int d, .int e, .int f, .int g, .int h] z1 z2 kk false .non)) p (.eight a b c d e f g h 0 0 false x y) S ∧ (∀ v ∈ S, Ω v = none) ∧ ∀ v, Ω v ≠ none → oset (oset (oset Ω2 p o) kk (.lst [.int 0, .int 0])) p (oEight C [.int a, .int b, .int c, .int d, .int e, .int f, .int g, .int h] z1 z2 kk false .non) v = Ω v := by
  have up : ∀ b, Ω b ≠ none → Ω2 b = Ω b := fun b hb => by rw [k2 b (by rw [k1 b hb]; exact hb), k1 b hb]
  have dn : ∀ b, Ω2 b = none → Ω b = none := fun b hb => by
    cases q : Ω b with
    | none => rfl
    | some u => have := up b (by rw [q]; simp); rw [hb, q] at this; cases this
  have hx2 : RdO C Ω2 z1 x S1 := hx.keep fun b hb => k2 b (hx.there b hb)
  have f1 : ∀ b ∈ S1, b ≠ p ∧ b ≠ kk := fun b hb => ⟨fun e => hx2.there b hb (by rw [e]; exact hp), fun e => hx2.there b hb (by rw [e]; exact hk)⟩
  have f2 : ∀ b ∈ S2, b ≠ p ∧ b ≠ kk := fun b hb => ⟨fun e => hy.there b hb (by rw [e]; exact hp), fun e => hy.there b hb (by rw [e]; exact hk)⟩
  refine ⟨p :: kk :: (S1 ++ S2), .eight oset_same ((oset_ne hne).trans oset_same) (hx2.keep fun b hb => ?_) (hy.keep fun b hb => ?_) (Ne.symm hne) (fun z => (f1 p z).1 rfl) (fun z => (f2 p z).1 rfl) (fun z => (f1 kk z).2 rfl) (fun z => (f2 kk z).2 rfl) (fun b hb hb2 => hx.there b hb (h2 b hb2)), fun b hb => ?_, fun b hb => ?_⟩
  · rw [oset_ne (f1 b hb).1, oset_ne (f1 b hb).2, oset_ne (f1 b hb).1]
  · rw [oset_ne (f2 b hb).1, oset_ne (f2 b hb).2, oset_ne (f2 b hb).1]
  · simp only [List.mem_cons, List.mem_append] at hb
    rcases hb with rfl | rfl | hb | hb
    · exact dn _ hp
    · exact dn _ hk
    · exact h1 b hb
    · cases q : Ω b with
      | none => rfl
      | some u => have := k1 b (by rw [q]; simp); rw [h2 b hb, q] at this; cases this
  · have e1 : b ≠ p := fun e => by have := up b hb; rw [e, hp] at this; rw [e] at hb; exact hb this.symm
    have e2 : b ≠ kk := fun e => by have := up b hb; rw [e, hk] at this; rw [e] at hb; exact hb this.symm
    rw [oset_ne e1, oset_ne e2, oset_ne e1, up b hb]
theorem open_step (T : Txt K mg C) {j M : Nat} (hj : 4 ≤ j) {Fp : AF} (c_self : Clb P w K mg base ca j "opened" Fp) (hF : ∀ (tr : Tr) (k : Nat) Ω Q E, k < M → tr.good k → Opn C tr Q Ω → Fp [tr.d] Ω Q E) : Clb P w K mg base ca (j + 1) "opened" (F_openG C M) := by
  refine clb T.d_opened sc_opened (fun ds Ω Q E h => ?_) (fun f cdv A outer s H E hr => ⟨_, _, (ass_cons (as_set 1 sc_opened.nd (ae_ix (ae_var 0) ae_int))
      (ass_cons (as_if (at_eqS (ae_var 1) ae_str) (ass_one (as_ret (ae_make (mk_Fraction T) hr (takes_of rfl rfl rfl rfl) (by omega) (aa_cons (ae_ix (ae_var 0) ae_int) (aa_cons (ae_ix (ae_var 0) ae_int) aa_nil))))) ass_nil)
      (ass_cons (as_if (at_eqS (ae_var 1) ae_str) (ass_one (as_ret (ae_call (c_root_of T) hr (takes_of rfl rfl rfl rfl) (by omega) (aa_cons (ae_ix (ae_var 0) ae_int) (aa_cons (ae_ix (ae_var 0) ae_int) (aa_cons (ae_ix (ae_var 0) ae_int) aa_nil)))))) ass_nil)
      (ass_cons (as_if (at_eqS (ae_var 1) ae_str) (ass_one (as_ret (ae_make (mk_Ruled T) hr (takes_of rfl rfl rfl rfl) (by omega) (aa_cons (ae_ix (ae_var 0) ae_int) (aa_cons (ae_ix (ae_var 0) ae_int) (aa_cons (ae_ix (ae_var 0) ae_int) aa_nil)))))) ass_nil)
      (ass_cons (as_if (at_eqS (ae_var 1) ae_str) (ass_one (as_ret (ae_make (mk_Four T) hr (takes_of rfl rfl rfl rfl) (by omega) (aa_cons (ae_ix (ae_var 0) ae_int) (aa_cons (ae_call c_self hr (takes_of rfl rfl rfl rfl) (by omega) (aa_cons (ae_ix (ae_var 0) ae_int) aa_nil)) (aa_cons ae_bl (aa_cons ae_bl aa_nil))))))) ass_nil)
      (ass_cons (as_if (at_eqS (ae_var 1) ae_str) (ass_one (as_ret (ae_make (mk_Eight T) hr (takes_of rfl rfl rfl rfl) (by omega) (aa_cons (ae_ix (ae_var 0) ae_int) (aa_cons (ae_call c_self hr (takes_of rfl rfl rfl rfl) (by omega) (aa_cons (ae_ix (ae_var 0) ae_int) aa_nil)) (aa_cons (ae_call c_self hr (takes_of rfl rfl rfl rfl) (by omega) (aa_cons (ae_ix (ae_var 0) ae_int) aa_nil)) aa_nil)))))) ass_nil)
      (ass_cons (as_set 2 sc_opened.nd (ae_call c_self hr (takes_of rfl rfl rfl rfl) (by omega) (aa_cons (ae_ix (ae_var 0) ae_int) aa_nil)))
      (ass_cons (as_forR1 (passes_of rfl) rfl rfl T.b_range (ae_sub (ae_ix (ae_var 0) ae_int) ae_int) (ag_name (i := 3) sc_opened.nd rfl (Or.inl rfl)) (ass_one (as_set 2 sc_opened.nd (ae_make (mk_Eight T) hr (takes_of rfl rfl rfl rfl) (by omega) (aa_cons (ae_globT rfl T.t_TIMES) (aa_cons (ae_call c_self hr (takes_of rfl rfl rfl rfl) (by omega) (aa_cons (ae_ix (ae_var 0) ae_int) aa_nil)) (aa_cons (ae_var 2) aa_nil)))))))
      (ass_one (as_ret (ae_var 2))))))))))), fun ds Ω Qa Ea h => ?_⟩)
  · obtain ⟨_, _, rfl, _⟩ := h
    rfl
  · obtain ⟨tr, kk, rfl, hk, hg, k⟩ := h
    have fr : ∀ {b p : Addr} {Ω' : Om}, b ∈ [p] → Ω' p = none → Ω' b = none := fun hb h => by rw [List.mem_singleton.mp hb]; exact h
    cases kk with
    | zero => cases tr <;> exact hg.elim
    | succ kk =>
    cases tr with
    | frac t b =>
      simp only [Tr.d]
      walk_at "pl"
      refine fun p hp => ⟨p, t, b, rfl, oset_same, rfl, ?_⟩
      exact k _ p _ [p] .frac (.frac oset_same) (fun b hb => fr hb hp) (new_stand hp)
    | root t s b =>
      obtain ⟨h1, h2, h3, h4, h5⟩ := hg
      simp only [Tr.d]
      walk_at "pl"
      rw [if_neg (by decide)]
      exact ⟨t, s, b, rfl, h1, h2, h3, h4, h5, fun r p Ω' q1 q2 q3 q4 => k r p Ω' [p] q1 q2 (fun b hb => fr hb q3) q4⟩
    | ruled ps ring steps =>
      simp only [Tr.d]
      walk_at "pl"
      rw [if_neg (by decide), if_neg (by decide)]
      refine fun p hp => ⟨p, ps, ring, steps, rfl, oset_same, rfl, ?_⟩
      exact k _ p _ [p] .ruled (.ruled oset_same) (fun b hb => fr hb hp) (new_stand hp)
    | four a b c d x =>
      obtain ⟨_, _, _, _, _, hx⟩ := hg
      simp only [Tr.d, dtup]
      walk_at "pl"
      rw [if_neg (by decide), if_neg (by decide), if_neg (by decide)]
      refine hF x kk _ _ _ (by omega) hx fun r z Ω1 S o1 h1 h2 h3 => ?_
      intro p hp
      have hpS : ∀ b ∈ S, b ≠ p := fun b hb e => h1.there b hb (by rw [e]; exact hp)
      refine ⟨p, z, _, false, false, rfl, oset_same, rfl, ?_⟩
      rw [oset_oset]
      refine k _ p _ (p :: S) (.four o1) (.four oset_same (h1.keep fun b hb => oset_ne (hpS b hb)) fun z => hpS p z rfl) (fun b hb => ?_) fun b hb => ?_
      · rcases List.mem_cons.mp hb with rfl | hb
        · cases q : Ω b with
          | none => rfl
          | some u => have := h3 b (by rw [q]; simp); rw [hp, q] at this; cases this
        · exact h2 b hb
      · rw [oset_ne (fun e => hb (by rw [e]; cases q : Ω p with
          | none => rfl
          | some u => have := h3 p (by rw [q]; simp); rw [hp, q] at this; cases this)), h3 b hb]
    | eight a b c d e f g h x y =>
      obtain ⟨_, _, hx, hy⟩ := hg
      simp only [Tr.d, dtup]
      walk_at "pl"
      rw [if_neg (by decide), if_neg (by decide), if_neg (by decide), if_neg (by decide)]
      refine hF x kk _ _ _ (by omega) hx fun r z Ω1 S o1 h1 h2 h3 => ?_
      refine hF y kk _ _ _ (by omega) hy fun r2 z2 Ω2 S2 o2 g1 g2 g3 => ?_
      refine fun p hp => ⟨p, z, z2, _, rfl, oset_same, fun q hq hk2 => ⟨rfl, ?_⟩⟩
      obtain ⟨S3, k1, k2, k3⟩ := rd_eight (a := a) (b := b) (c := c) (d := d) (e := e) (f := f) (g := g) (h := h) (o := .obj C.c_Eight []) h1 h2 h3 g1 g2 g3 hp (by rw [oset_ne hq] at hk2; exact hk2) hq
      exact k _ p _ S3 (.eight o1 o2) k1 k2 k3
    | power x n =>
      obtain ⟨n1, n4, hx⟩ := hg
      simp only [Tr.d, dtup]
      walk_at "pl"
      rw [if_neg (by decide), if_neg (by decide), if_neg (by decide), if_neg (by decide), if_neg (by decide)]
      refine hF x kk _ _ _ (by omega) hx fun r z Ω1 S o1 h1 h2 h3 => ?_
      refine ⟨by omega, by omega, ?_⟩
      have e0 : rngD 0 (n - 1).toNat = rngD ((0 : Nat) : Int) (n - 1).toNat := rfl
      rw [e0]
      refine forL_ind (P_open C (.tup [.str "power", x.d, .int n]) (.str "power") (n - 1).toNat r Ω) ⟨0, _, z, S, none, rfl, by omega, h1, h2, h3, rfl⟩ ?_ ?_
      · rintro ρ Ω2 ⟨i, l, p, S, z, e, hi, q1, q2, q3, rfl⟩
        have := rng_nil e
        have : i = (n - 1).toNat := by omega
        subst this
        walk_at "pl"
        exact k _ p _ S (.power o1) q1 q2 q3
      · rintro u us ρ Ω2 De e1 ih _ _ ⟨i, l, p, S2, zz, e, hi, q1, q2, q3, rfl⟩
        obtain ⟨l', rfl, rfl, rfl⟩ := rng_step e
        walk_at "pl"
        refine hF x kk _ _ _ (by omega) hx fun r2 z2 Ω3 S3 o2 g1 g2 g3 => ?_
        rw [Opened.unique o2 o1] at g1
        refine fun pn hp => ⟨pn, z2, p, _, rfl, oset_same, fun q hq hk2 => ⟨rfl, ?_⟩⟩
        have hx3 : RdO C Ω3 p (pows r i) S2 := q1.keep fun b hb => g3 b (q1.there b hb)
        have dn : ∀ b, Ω3 b = none → Ω b = none := fun b hb => by
          cases q : Ω b with
          | none => rfl
          | some u => have := q3 b (by rw [q]; simp); have h5 := g3 b (by rw [this, q]; simp); rw [hb, this, q] at h5; cases h5
        have hk3 : Ω3 q = none := by rw [oset_ne hq] at hk2; exact hk2
        have f3 : ∀ b ∈ S3, b ≠ pn ∧ b ≠ q := fun b hb => ⟨fun e => g1.there b hb (by rw [e]; exact hp), fun e => g1.there b hb (by rw [e]; exact hk3)⟩
        have f2 : ∀ b ∈ S2, b ≠ pn ∧ b ≠ q := fun b hb => ⟨fun e => hx3.there b hb (by rw [e]; exact hp), fun e => hx3.there b hb (by rw [e]; exact hk3)⟩
        refine ih _ _ ⟨i + 1, l', pn, pn :: q :: (S3 ++ S2), some (.int i), by rw [Int.natCast_add]; rfl, by omega, .eight (x := r) (y := pows r i) oset_same ((oset_ne hq).trans oset_same) (g1.keep fun b hb => ?_) (hx3.keep fun b hb => ?_) (Ne.symm hq) (fun z => (f3 pn z).1 rfl) (fun z => (f2 pn z).1 rfl) (fun z => (f3 q z).2 rfl) (fun z => (f2 q z).2 rfl) (fun b hb hb2 => q1.there b hb2 (g2 b hb)), fun b hb => ?_, fun b hb => ?_, rfl⟩
        · rw [oset_ne (f3 b hb).1, oset_ne (f3 b hb).2, oset_ne (f3 b hb).1]
        · rw [oset_ne (f2 b hb).1, oset_ne (f2 b hb).2, oset_ne (f2 b hb).1]
        · simp only [List.mem_cons, List.mem_append] at hb
          rcases hb with rfl | rfl | hb | hb
          · exact dn _ hp
          · exact dn _ hk3
          · cases qq : Ω b with
            | none => rfl
            | some u => have := q3 b (by rw [qq]; simp); rw [g2 b hb, qq] at this; cases this
          · exact q2 b hb
        · have e2 : Ω3 b = Ω b := by rw [g3 b (by rw [q3 b hb]; exact hb), q3 b hb]
          have n1 : b ≠ pn := fun e => by rw [e, hp] at e2; rw [e] at hb; exact hb e2.symm
          have n2 : b ≠ q := fun e => by rw [e, hk3] at e2; rw [e] at hb; exact hb e2.symm
          rw [oset_ne n1, oset_ne n2, oset_ne n1, e2]
theorem c_opened (T : Txt K mg C) : ∀ M : Nat, Clb P w K mg base ca (M + 5) "opened" (F_openG C M)
  | 0 => open_step T (Nat.le_refl 4) (clb_none T.d_opened 4) (fun _ _ _ _ _ h => by omega)
  | M + 1 => open_step T (by omega) (c_opened T M) (fun x k Ω Q E h g o => ⟨x, k, rfl, by omega, g, o⟩)
theorem c_need_tree_5 (T : Txt K mg C) : Clb P w K mg base ca 10 "need_tree" (F_needT C 5) := c_need_tree T 5
theorem c_opened_5 (T : Txt K mg C) : Clb P w K mg base ca 10 "opened" (F_openG C 5) := c_opened T 5
/-- reader of a tree, good or not -/
def F_reader (C : CT) : AF := fun ds Ω Q E => (∃ tr : Tr, ds = [tr.d] ∧ tr.good 5 ∧ Opn C tr Q Ω) ∨ ∃ x : Rw, ds = [x.d] ∧ x.ok 5 = false ∧ E (.ref C.c_BadTree) Ω
theorem c_readerG (T : Txt K mg C) : Clb P w K mg base ca 11 "reader" (F_reader C) := by
  refine clb T.d_reader sc_reader (fun ds Ω Q E h => ?_) (fun f cdv A outer s H E hr => ⟨_, _, (ass_cons (as_expr (ae_call (c_need_tree_5 T) hr (takes_of rfl rfl rfl rfl) (by omega) (aa_cons (ae_var 0) (aa_cons (ae_globE rfl T.g_DEEPEST) aa_nil))))
      (ass_one (as_ret (ae_call (c_opened_5 T) hr (takes_of rfl rfl rfl rfl) (by omega) (aa_cons (ae_var 0) aa_nil))))), fun ds Ω Qa Ea h => ?_⟩)
  · rcases h with ⟨_, rfl, _⟩ | ⟨_, rfl, _⟩ <;> rfl
  · rcases h with ⟨tr, rfl, hg, k⟩ | ⟨x, rfl, hx, k⟩
    · walk_at "pl"
      refine ⟨tr.raw, 5, by rw [tr.raw_d]; rfl, Nat.le_refl 5, ?_⟩
      rw [tr.raw_ok 5 hg]
      exact ⟨tr, 5, rfl, Nat.le_refl 5, hg, k⟩
    · walk_at "pl"
      refine ⟨x, 5, rfl, Nat.le_refl 5, ?_⟩
      rw [hx]
      exact k
def F_row : AF := fun ds Ω Q _ => ∃ ns : List Int, ds = [.lst (ns.map D.int)] ∧ ∀ p, Ω p = none → Q (.o p) (oset Ω p .row)
theorem row_loop {Wa : AW} {Da : AEnds} {Ω : Om} {d0 : D} {b : ATS} : ∀ (ns : List Int) (m : Int) (z : Option D),
    (∀ (m v : Int) (z : Option D) (De : AEnds), De.nx [some d0, some (.int ((m * 48271 + v + 11).fmod 2147483647)), some (.int v)] Ω → b Wa De [some d0, some (.int m), some (.int v)] Ω) →
    (∀ m z, Da.nx [some d0, some (.int m), z] Ω) → forL (agName 2) b (ns.map D.int) Wa Da [some d0, some (.int m), z] Ω
  | [], m, z, _, k => k m z
  | n :: ns, m, z, hb, k => hb m n z _ (row_loop ns _ _ hb k)
theorem c_law_row (T : Txt K mg C) : Clb P w K mg base ca 1 "_law_row" F_row := by
  refine clb T.d_law_row sc__law_row (fun ds Ω Q E h => ?_) (fun f cdv A outer s H E hr => ⟨_, _, (ass_cons (as_set 1 sc__law_row.nd ae_int)
      (ass_cons (as_for (passes_of rfl) rfl (ae_var 0) (ag_name (i := 2) sc__law_row.nd rfl (Or.inl rfl)) (ass_one (as_set 1 sc__law_row.nd (ae_mod (ae_add (ae_add (ae_mul (ae_var 1) ae_int) (ae_var 2)) ae_int) ae_int))))
      (ass_one (as_ret (ae_asRow (ae_lstO (aa_cons (ae_var 0) (aa_cons ae_int (aa_cons ae_int (aa_cons (ae_var 1) aa_nil)))))))))), fun ds Ω Qa Ea h => ?_⟩)
  · obtain ⟨n, rfl, _⟩ := h
    rfl
  · obtain ⟨ns, rfl, k⟩ := h
    walk_at "pl"
    refine row_loop ns 7 none (fun m v z De q => ?_) (fun m z => ?_)
    · walk_at "pl"
      exact ⟨mulok_r (by decide) (by decide), by decide, q⟩
    · walk_at "pl"
      exact ⟨by decide, fun p hp => ⟨ns, 0, 0, m, rfl, by decide, by omega, by decide, k p hp⟩⟩
def F_taken : AF := fun ds Ω Q _ => ∃ (a : Addr) (many : Int), ds = [.o a, .int many] ∧ Ω a = some .row ∧ 0 < many ∧ many < 2 ^ 250 ∧ ∀ n : Int, 0 ≤ n → n < many → Q (.int n) Ω
def F_taken1 : AF := fun ds Ω Q _ => ∃ (a : Addr) (many : Int) (ns : List Int) (i c m : Int), ds = [.o a, .int many] ∧ Ω a = some (.lst (rowD ns i c m)) ∧ 0 ≤ i ∧ i ≤ ns.length ∧ 0 ≤ c ∧ 0 < many ∧ many < 2 ^ 250 ∧
  ∀ n i' c' m' : Int, 0 ≤ n → n < many → 0 ≤ i' → i' ≤ ns.length → 0 ≤ c' → Q (.int n) (oset Ω a (.lst (rowD ns i' c' m')))
theorem taken_imp : ∀ vs H Q E, spA K ca F_taken vs H Q E → spA K ca F_taken1 vs H Q E := by
  rintro vs H Q E ⟨G, own, Ω, ds, Qa, Ea, r, dv, ⟨a, many, rfl, ho, h0, h1, k⟩, k1, k2⟩
  obtain ⟨ns, i, c, m, i0, i1, c0, r'⟩ := r.ofRow ho
  refine ⟨G, own, _, _, fun d Ω' => ∃ n i' c' m' : Int, 0 ≤ n ∧ n < many ∧ 0 ≤ i' ∧ i' ≤ ns.length ∧ 0 ≤ c' ∧ d = .int n ∧ Ω' = oset Ω a (.lst (rowD ns i' c' m')), fun _ _ => False, r', dv,
    ⟨a, many, ns, i, c, m, rfl, oset_same, i0, i1, c0, h0, h1, fun n i' c' m' n0 n1 i0 i1 c0 => ⟨n, i', c', m', n0, n1, i0, i1, c0, rfl, oset_oset⟩⟩, ?_, fun _ _ _ _ _ _ _ z => z.elim⟩
  rintro v H' G' own' d Ω' e r2 dv2 ⟨n, i', c', m', n0, n1, i0, i1, c0, rfl, rfl⟩
  have r3 := r2.toRow oset_same i0 i1 c0
  rw [oset_oset] at r3
  have e2 : oset Ω a .row = Ω := by
    funext b
    unfold oset
    by_cases hb : b = a
    · rw [if_pos hb, hb, ho]
    · rw [if_neg hb]
  rw [e2] at r3
  exact k1 _ _ _ _ _ _ e r3 dv2 (k n n0 n1)
theorem c_law_taken (T : Txt K mg C) : Clb P w K mg base ca 1 "_law_taken" F_taken := by
  refine Clb.imp (F := F_taken1) ?_ taken_imp
  refine clb T.d_law_taken sc__law_taken (fun ds Ω Q E h => ?_) (fun f cdv A outer s H E hr => ⟨_, _, (ass_cons (as_if (at_gt (ae_ix (ae_var 0) ae_int) ae_int) (ass_cons (as_set 2 sc__law_taken.nd (ae_mod (ae_ix (ae_var 0) ae_int) (ae_var 1)))
      (ass_cons (as_setIx (ae_fdv (div_of hr) (ae_ix (ae_var 0) ae_int) (ae_var 1)) (ae_var 0) ae_int)
      (ass_one (as_ret (ae_var 2))))) ass_nil)
      (ass_cons (as_if (at_lt (ae_ix (ae_var 0) ae_int) (ae_len rfl T.b_len (ae_ix (ae_var 0) ae_int))) (ass_cons (as_set 3 sc__law_taken.nd (ae_ix (ae_ix (ae_var 0) ae_int) (ae_ix (ae_var 0) ae_int)))
      (ass_cons (as_setIx (ae_add (ae_ix (ae_var 0) ae_int) ae_int) (ae_var 0) ae_int)
      (ass_cons (as_if (at_ge (ae_var 3) (ae_powB ae_int ae_int)) (ass_one (as_setIx (ae_fdv (div_of hr) (ae_var 3) (ae_var 1)) (ae_var 0) ae_int)) ass_nil)
      (ass_one (as_ret (ae_mod (ae_var 3) (ae_var 1))))))) ass_nil)
      (ass_cons (as_setIx (ae_mod (ae_add (ae_mul (ae_ix (ae_var 0) ae_int) ae_int) ae_int) ae_int) (ae_var 0) ae_int)
      (ass_one (as_ret (ae_mod (ae_fdv (div_of hr) (ae_ix (ae_var 0) ae_int) ae_int) (ae_var 1))))))), fun ds Ω Qa Ea h => ?_⟩)
  · obtain ⟨_, _, _, _, _, _, rfl, _⟩ := h
    rfl
  · obtain ⟨a, many, ns, i, c, m, rfl, ho, i0, i1, c0, h0, h1, k⟩ := h
    unfold rowD at ho k
    walk_at "pl"
    simp only [ho, seq_o ho]
    walk_at "pl"
    have hm : many ≠ 0 := by omega
    have hp : ∀ x : Int, NoPy x many := fun x => nopy hm (by omega)
    have hf : ∀ x : Int, 0 ≤ x.fmod many ∧ x.fmod many < many := fun x => by
      rw [Int.fmod_eq_emod_of_nonneg _ (by omega)]
      exact ⟨Int.emod_nonneg _ hm, Int.emod_lt_of_pos _ h0⟩
    refine ite2 (fun e => ⟨hm, hp _, k _ _ _ _ (hf _).1 (hf _).2 i0 i1 ?_⟩) (fun e => ite2 (fun e2 => ?_) (fun e2 => ⟨mulok_r (by decide) (by decide), by decide, nopy (by decide) (by decide), hm, k _ _ _ _ (hf _).1 (hf _).2 i0 i1 c0⟩))
    · rw [Int.fdiv_eq_ediv_of_nonneg _ (by omega)]
      exact Int.ediv_nonneg c0 (by omega)
    · rw [List.length_map] at e2
      obtain ⟨v, hv, ev⟩ := atI_int i0 e2
      rw [ev]
      walk_at "pl"
      refine ⟨⟨by decide, by decide⟩, ite2 (fun e3 => ⟨hp _, hm, k _ _ _ _ (hf _).1 (hf _).2 (by omega) (by omega) ?_⟩) (fun e3 => ⟨hm, k _ _ _ _ (hf _).1 (hf _).2 (by omega) (by omega) c0⟩)⟩
      rw [Int.fdiv_eq_ediv_of_nonneg _ (by omega)]
      refine Int.ediv_nonneg ?_ (by omega)
      have : (0 : Int) ≤ 10 ^ Int.toNat 18 := by decide
      omega
def F_signed : AF := fun ds Ω Q _ => ∃ (a : Addr) (m : Int), ds = [.o a, .int m] ∧ Ω a = some .row ∧ 0 ≤ m ∧ m < 2 ^ 240 ∧ ∀ n : Int, -m ≤ n → n ≤ m → Q (.int n) Ω
theorem c_law_signed (T : Txt K mg C) : Clb P w K mg base ca 2 "_law_signed" F_signed := by
  refine clb T.d_law_signed sc__law_signed (fun ds Ω Q E h => ?_) (fun f cdv A outer s H E hr => ⟨_, _, (ass_one (as_ret (ae_sub (ae_call (c_law_taken T) hr (takes_of rfl rfl rfl rfl) (by omega) (aa_cons (ae_var 0) (aa_cons (ae_add (ae_mul ae_int (ae_var 1)) ae_int) aa_nil))) (ae_var 1)))), fun ds Ω Qa Ea h => ?_⟩)
  · obtain ⟨_, _, rfl, _⟩ := h
    rfl
  · obtain ⟨a, m, rfl, ho, m0, m1, k⟩ := h
    walk_at "pl"
    refine ⟨mulok_l (by decide) (by decide), a, 2 * m + 1, rfl, ho, by omega, by omega, fun n n0 n1 => ?_⟩
    walk_at "pl"
    exact k _ (by omega) (by omega)
theorem atI_nat {ds : List D} {i : Int} {n : Nat} (h : i = n) : atI ds i = ds[n]? := by rw [h, atI_eq]
theorem told_part {C : CT} {Ω : Om} {p : Addr} {r : R} {S : List Addr} (h : RdO C Ω p r S) : ∃ c fs, Ω p = some (.obj c fs) ∧ ("part" : Str) ∉ fs.map (·.1) ∧ ("took" : Str) ∉ fs.map (·.1) ∧ c ∈ C.cls r.kd ∧ c ∈ [C.c_Fixed, C.c_Fraction, C.c_Root, C.c_Ruled, C.c_Four, C.c_Eight] := by
  obtain ⟨c, fs, ho, hm, hc⟩ := h.obj
  refine ⟨c, fs, ho, hm _ (.inr (.inl rfl)), hm _ (.inr (.inr rfl)), hc, ?_⟩
  revert hc
  cases r.kd <;> intro z <;> simp only [CT.cls, List.mem_cons, List.not_mem_nil, or_false] at z ⊢
  · exact .inl z
  · rcases z with z | z | z
    · exact .inr (.inl z)
    · exact .inr (.inr (.inl z))
    · exact .inr (.inr (.inr (.inl z)))
  · exact .inr (.inr (.inr (.inr (.inl z))))
  · exact .inr (.inr (.inr (.inr (.inr z))))
theorem fEq_bl {neg : Bool} {x y : Bool} {Ω : Om} {Q : AQ} (k : Q (.bl (if neg then !decide (x = y) else decide (x = y))) Ω) : fEq neg (.bl x) (.bl y) Ω Q := by
  refine ⟨.bool x, .bool y, rfl, rfl, ?_, ?_, ?_⟩
  · cases x <;> decide +kernel
  · cases y <;> decide +kernel
  · have e : PyData.eqv (.bool x) (.bool y) = decide (x = y) := by cases x <;> cases y <;> first | rfl | (simp [PyData.eqv]; done) | (simp only [PyData.eqv]; decide)
    rw [e]
    exact k
def F_gf : AF := fun ds Ω Q _ => ∃ (a b : Ans) (n : Nat), ds = [a.d, b.d, .int n] ∧ a.stp = true ∧ b.stp = true ∧ Q (.bl (gfB a b n)) Ω
theorem c_greater_first (T : Txt K mg C) : Clb P w K mg base ca 1 "greater_first" F_gf := by
  refine clb T.d_greater_first sc_greater_first (fun ds Ω Q E h => ?_) (fun f cdv A outer s H E hr => ⟨_, _, (ass_cons (as_if (at_eqS (ae_ix (ae_var 0) ae_int) ae_str) (ass_one (as_set 3 sc_greater_first.nd ae_bl)) (ass_one (as_if (at_eqS (ae_ix (ae_var 1) ae_int) ae_str) (ass_one (as_set 3 sc_greater_first.nd ae_bl)) (ass_one (as_set 3 sc_greater_first.nd (ae_gt (ae_ix (ae_var 0) ae_int) (ae_ix (ae_var 1) ae_int)))))))
      (ass_one (as_ret (ae_eqD hr.units (ae_var 3) (ae_eqI (ae_mod (ae_var 2) ae_int) ae_int))))), fun ds Ω Qa Ea h => ?_⟩)
  · obtain ⟨_, _, _, rfl, _⟩ := h
    rfl
  · obtain ⟨a, b, n, rfl, ha, hb, k⟩ := h
    have hmod : (decide ((n : Int).fmod 2 = 0)) = decide (n % 2 = 0) := by
      have : (n : Int).fmod 2 = (n : Int) % 2 := Int.fmod_eq_emod_of_nonneg _ (by decide)
      rw [this]
      by_cases h : n % 2 = 0
      · rw [decide_eq_true h, decide_eq_true (by omega)]
      · rw [decide_eq_false h, decide_eq_false (by omega)]
    cases a with
    | waits => cases ha
    | none => cases ha
    | fin =>
      simp only [Ans.d]
      walk_at "pl"
      refine ⟨by decide, ?_⟩
      rw [hmod]
      refine fEq_bl ?_
      cases b with
      | waits => cases hb
      | none => cases hb
      | fin => exact k
      | part y => exact k
    | part x =>
      cases b with
      | waits => cases hb
      | none => cases hb
      | fin =>
        simp only [Ans.d]
        walk_at "pl"
        refine ⟨by decide, ?_⟩
        rw [hmod]
        exact fEq_bl k
      | part y =>
        simp only [Ans.d]
        walk_at "pl"
        refine ⟨by decide, ?_⟩
        rw [hmod]
        exact fEq_bl k
theorem fits_stp {n : Nat} {a : Ans} : D.fits (n + 2) a.d = true := by
  have h1 : (PyData.str "part").canLay0 = true := by decide +kernel
  have h2 : (PyData.str "end").canLay0 = true := by decide +kernel
  have h3 : (PyData.str "waits").canLay0 = true := by decide +kernel
  cases a <;> simp only [Ans.d, D.fits, D.fitsAll, h1, h2, h3, Bool.and_true]
theorem ne_ans {a b : Ans} (ha : a.stp = true) (hb : b.stp = true) {Ω : Om} {Q : AQ} (k1 : a = b → Q (.bl false) Ω) (k2 : a ≠ b → Q (.bl true) Ω) : fEq true a.d b.d Ω Q := by
  by_cases e : a = b
  · subst e
    exact fEq_refl (fits_stp (n := 58)) (k1 rfl)
  · have h1 : (PyData.str "part").canLay0 = true := by decide +kernel
    have hp : ∀ q : Int, SeqAt.shaped (.tuple [.str "part", .int q]) = true := fun q => by
      unfold SeqAt.shaped
      simp only [PyData.canLay0, PyData.canLayAll0] at h1 ⊢
      simp [h1, PyData.depth, PyData.depthAll]
    have he : SeqAt.shaped (.tuple [.str "end"]) = true := by decide +kernel
    cases a with
    | waits => cases ha
    | none => cases ha
    | fin =>
      cases b with
      | waits => cases hb
      | none => cases hb
      | fin => exact absurd rfl e
      | part y =>
        refine ⟨.tuple [.str "end"], .tuple [.str "part", .int y], rfl, rfl, he, hp y, ?_⟩
        have e2 : PyData.eqv (.tuple [.str "end"]) (.tuple [.str "part", .int y]) = false := by
          first | (simp [PyData.eqv, PyData.eqvAll]; done) | (simp only [PyData.eqv, PyData.eqvAll]; decide)
        rw [e2]
        exact k2 e
    | part x =>
      cases b with
      | waits => cases hb
      | none => cases hb
      | fin =>
        refine ⟨.tuple [.str "part", .int x], .tuple [.str "end"], rfl, rfl, hp x, he, ?_⟩
        have e2 : PyData.eqv (.tuple [.str "part", .int x]) (.tuple [.str "end"]) = false := by
          first | (simp [PyData.eqv, PyData.eqvAll]; done) | (simp only [PyData.eqv, PyData.eqvAll]; decide)
        rw [e2]
        exact k2 e
      | part y =>
        refine ⟨.tuple [.str "part", .int x], .tuple [.str "part", .int y], rfl, rfl, hp x, hp y, ?_⟩
        have e3 : x ≠ y := fun z => e (by rw [z])
        have e2 : PyData.eqv (.tuple [.str "part", .int x]) (.tuple [.str "part", .int y]) = false := by
          simp [PyData.eqv, PyData.eqvAll, e3]
        rw [e2]
        exact k2 e
theorem ans_head {x : Ans} (h : x.stp = true) : ∃ (xs : List D) (t : Str), x.d = .tup xs ∧ xs[0]? = some (.str t) ∧ t ≠ "waits" ∧ (t = "end" ↔ x = .fin) := by
  cases x with
  | part q => exact ⟨_, _, rfl, rfl, by decide, by constructor <;> intro z <;> revert z <;> simp only [reduceCtorEq] <;> decide⟩
  | fin => exact ⟨_, _, rfl, rfl, by decide, by constructor <;> intro z <;> rfl⟩
  | waits => cases h
  | none => cases h
theorem ok_stp {C : CT} {x : Ans} (h : x.stp = true) {Q : AQ} {E : Value → Om → Prop} {Ω : Om} : x.ok C Q E Ω = Q x.d Ω := by
  cases x with
  | part q => rfl
  | fin => rfl
  | waits => rfl
  | none => cases h
def F_rb (C : CT) (L : Nat) : AF := fun ds Ω Q E => ∃ (p q : Addr) (r s : R) (S1 S2 : List Addr) (most : Int) (d : Nat) (w : Wd), ds = [.o p, .o q, .int most] ∧ r.lv ≤ L ∧ s.lv ≤ L ∧ RdO C Ω p r S1 ∧ RdO C Ω q s S2 ∧ (∀ b ∈ S1, b ∉ S2) ∧ Bes most d 0 r s w ∧
  ∀ Ω' : Om, (∀ b, b ∉ S1 → b ∉ S2 → Ω b ≠ none → Ω' b = Ω b) → w.ok C Q E Ω'
def I_rb (C : CT) (L : Nat) (Ω0 : Om) (S1 S2 : List Addr) (p q : Addr) (most : Int) (w : Wd) : Nat → En → Om → Prop := fun d ρ Ω => ∃ (n : Nat) (r s : R) (A B : List Addr) (z4 z5 z6 : Option D), r.lv ≤ L ∧ s.lv ≤ L ∧ Two C Ω0 S1 S2 Ω p r A q s B ∧ Bes most d n r s w ∧
  ρ = [some (.o p), some (.o q), some (.int most), some (.int n), z4, z5, z6]
theorem c_read_beside (T : Txt K mg C) {L : Nat} (tl : Tolds P w K mg base ca C L) (tk : Tooks P w K mg base ca C (L + 3)) : Clb P w K mg base ca (L + 4) "read_beside" (F_rb C L) := by
  refine clb T.d_read_beside sc_read_beside (fun ds Ω Q E h => ?_) (fun f cdv A outer s H E hr => ⟨_, _, (ass_cons (as_set 3 sc_read_beside.nd ae_int)
      (ass_one (as_while (passes_of rfl) (at_val ae_bl) (ass_cons (as_set 4 sc_read_beside.nd (ae_lstO aa_nil))
      (ass_cons (as_for (passes_of rfl) rfl (ae_lst (aa_cons (ae_var 0) (aa_cons (ae_var 1) aa_nil))) (ag_name (i := 5) sc_read_beside.nd rfl (Or.inl rfl)) (ass_cons (as_set 6 sc_read_beside.nd (ae_meth (k := (L+3)) hr (takes_of rfl rfl rfl rfl) (by omega) (ae_var 5) (aa_cons (ae_sub (ae_sub (ae_var 2) (ae_meth0 (k := (L+3)) hr (takes_of rfl rfl rfl rfl) (by omega) (ae_var 0))) (ae_meth0 (k := (L+3)) hr (takes_of rfl rfl rfl rfl) (by omega) (ae_var 1))) aa_nil)))
      (ass_cons (as_if (at_eqS (ae_ix (ae_var 6) ae_int) ae_str) (ass_one (as_ret ae_str)) ass_nil)
      (ass_one (as_expr (ae_app (ae_var 4) (ae_var 6)))))))
      (ass_cons (as_if (at_neD hr.units (ae_ix (ae_var 4) ae_int) (ae_ix (ae_var 4) ae_int)) (ass_one (as_ret (ae_ix (ae_lst (aa_cons ae_str (aa_cons ae_str aa_nil))) (ae_intB rfl T.b_int (ae_call (c_greater_first T) hr (takes_of rfl rfl rfl rfl) (by omega) (aa_cons (ae_ix (ae_var 4) ae_int) (aa_cons (ae_ix (ae_var 4) ae_int) (aa_cons (ae_var 3) aa_nil)))))))) ass_nil)
      (ass_cons (as_if (at_eqS (ae_ix (ae_ix (ae_var 4) ae_int) ae_int) ae_str) (ass_one (as_ret ae_str)) ass_nil)
      (ass_one (as_set 3 sc_read_beside.nd (ae_add (ae_var 3) ae_int)))))))))), fun ds Ω Qa Ea h => ?_⟩)
  · obtain ⟨_, _, _, _, _, _, _, _, _, rfl, _⟩ := h
    rfl
  · obtain ⟨p, q, r, s, S1, S2, most, d, w, rfl, hl1, hl2, hr1, hr2, hdj, hB, k⟩ := h
    walk_at "pl"
    refine ⟨I_rb C L Ω S1 S2 p q most w, ⟨d, 0, r, s, S1, S2, none, none, none, hl1, hl2, .start hr1 hr2 hdj, hB, rfl⟩, ?_⟩
    rintro d ρ Ω1 ⟨n, r, s, A, B, z4, z5, z6, hl1, hl2, t, hB, rfl⟩
    walk_at "pl"
    refine ⟨by decide, fun a ha => ⟨by decide, ?_⟩⟩
    have haA : a ∉ A := fun z => t.r1.there a z ha
    have haB : a ∉ B := fun z => t.r2.there a z ha
    have t2 : Two C Ω S1 S2 (oset Ω1 a (.lst [])) p r A q s B := t.set haA haB (t.old ha)
    have hoa : oset Ω1 a (.lst []) a = some (.lst []) := oset_same
    have hold := t.old ha
    generalize oset Ω1 a (.lst []) = Ω2 at t2 hoa ⊢
    obtain ⟨i, r1, m1, x, hx, hor⟩ := hB.first
    simp only [forL]
    walk_at "pl"
    obtain ⟨c, fs, ho, hpt, _, _, hc⟩ := told_part t2.r1
    refine ⟨c, fs, ho, hpt, F_part C L, m_part T tl c hc, ?_⟩
    refine took_in tk (Nat.le_trans hl1 (Nat.le_add_right _ _)) t2.r1 _ _ ?_
    refine ⟨_, rfl, ?_⟩
    refine took_in tk (Nat.le_trans hl2 (Nat.le_add_right _ _)) t2.r2 _ _ ?_
    refine ⟨_, rfl, p, r, A, i, _, r1, m1, x, rfl, hl1, t2.r1, hx, fun Ω3 A' h1 k1 k2 => ?_⟩
    have t3 := t2.fst h1 k1 k2
    have ha' : a ∉ A' := fun z => by
      rcases k2 a z with w | w
      · exact haA w
      · rw [hoa] at w; cases w
    have hoa3 : Ω3 a = some (.lst []) := (k1 a haA (by rw [hoa]; simp)).trans hoa
    have hl1' := Nat.le_trans hx.lv hl1
    rcases hor with ⟨rfl, rfl⟩ | ⟨rfl, rfl⟩ | ⟨hxs, j, s1, m2, y, hy, hor⟩
    · simp only [Ans.ok, Ans.d]
      walk_at "pl"
      exact k _ t3.fr
    · simp only [Ans.ok]
      exact k _ t3.fr
    obtain ⟨xs, w0, ex, hx0, hxw, hxe⟩ := ans_head hxs
    rw [ok_stp hxs]
    refine ⟨xs, by rw [ex]; rfl, _, hx0, w0, rfl, ?_⟩
    rw [if_neg hxw]
    refine ⟨⟨a, _, rfl, hoa3⟩, _, hoa3, by decide, ?_⟩
    have t4 : Two C Ω S1 S2 (oset Ω3 a (.lst ([] ++ [x.d]))) p r1 A' q s B := t3.set ha' haB hold
    have hoa4 : oset Ω3 a (.lst ([] ++ [x.d])) a = some (.lst [x.d]) := oset_same
    generalize oset Ω3 a (.lst ([] ++ [x.d])) = Ω4 at t4 hoa4 ⊢
    obtain ⟨c, fs, ho, hpt, _, _, hc⟩ := told_part t4.r2
    refine ⟨c, fs, ho, hpt, F_part C L, m_part T tl c hc, ?_⟩
    refine took_in tk (Nat.le_trans hl1' (Nat.le_add_right _ _)) t4.r1 _ _ ?_
    refine ⟨_, rfl, ?_⟩
    refine took_in tk (Nat.le_trans hl2 (Nat.le_add_right _ _)) t4.r2 _ _ ?_
    refine ⟨_, rfl, q, s, B, j, _, s1, m2, y, rfl, hl2, t4.r2, hy, fun Ω5 B' h2 k3 k4 => ?_⟩
    have t5 := t4.snd h2 k3 k4
    have hb' : a ∉ B' := fun z => by
      rcases k4 a z with w | w
      · exact haB w
      · rw [hoa4] at w; cases w
    have hoa5 : Ω5 a = some (.lst [x.d]) := (k3 a haB (by rw [hoa4]; simp)).trans hoa4
    have hl2' := Nat.le_trans hy.lv hl2
    rcases hor with ⟨rfl, rfl⟩ | ⟨rfl, rfl⟩ | ⟨hys, hor⟩
    · simp only [Ans.ok, Ans.d]
      walk_at "pl"
      exact k _ t5.fr
    · simp only [Ans.ok]
      exact k _ t5.fr
    obtain ⟨ys, w1, ey, hy0, hyw, hye⟩ := ans_head hys
    rw [ok_stp hys]
    refine ⟨ys, by rw [ey]; rfl, _, hy0, w1, rfl, ?_⟩
    rw [if_neg hyw]
    refine ⟨⟨a, _, rfl, hoa5⟩, _, hoa5, by show 1 < _; rw [sizeLine_eq]; decide, ?_⟩
    have t6 : Two C Ω S1 S2 (oset Ω5 a (.lst ([x.d] ++ [y.d]))) p r1 A' q s1 B' := t5.set ha' hb' hold
    have hoa6 : oset Ω5 a (.lst ([x.d] ++ [y.d])) a = some (.lst [x.d, y.d]) := oset_same
    generalize oset Ω5 a (.lst ([x.d] ++ [y.d])) = Ω6 at t6 hoa6 ⊢
    have hseq : (D.o a).seq Ω6 = some [x.d, y.d] := by simp only [D.seq, hoa6]
    rcases hor with ⟨hne, rfl⟩ | ⟨rfl, rfl, rfl⟩ | ⟨v, d', rfl, rfl, rfl, hB2⟩
    · refine ⟨_, rfl, _, rfl, ne_ans hxs hys (fun e => absurd e hne) fun _ => ⟨true, rfl, ?_⟩⟩
      rw [if_pos rfl]
      refine ⟨by decide, _, hseq, _, rfl, _, hseq, _, rfl, x, y, n, rfl, hxs, hys, gfB x y n, rfl, ?_⟩
      have kk := k _ t6.fr
      cases hg : gfB x y n with
      | true =>
        rw [hg] at kk
        exact ⟨_, rfl, kk⟩
      | false =>
        rw [hg] at kk
        exact ⟨_, rfl, kk⟩
    · refine ⟨_, rfl, _, rfl, ne_ans rfl rfl (fun _ => ⟨false, rfl, ?_⟩) fun e => absurd rfl e⟩
      rw [if_neg (by decide)]
      refine ⟨_, hseq, _, rfl, ?_⟩
      simp only [Ans.d]
      walk_at "pl"
      exact k _ t6.fr
    · refine ⟨_, rfl, _, rfl, ne_ans rfl rfl (fun _ => ⟨false, rfl, ?_⟩) fun e => absurd rfl e⟩
      rw [if_neg (by decide)]
      refine ⟨_, hseq, _, rfl, ?_⟩
      simp only [Ans.d]
      walk_at "pl"
      rw [if_neg (by decide)]
      exact ⟨d', Nat.lt_succ_self _, n + 1, r1, s1, A', B', _, _, _, hl1', hl2', t6, hB2, by rw [Int.natCast_add]; rfl⟩
theorem c_rb33 (T : Txt K mg C) : Clb P w K mg base ca 37 "read_beside" (F_rb C 33) := c_read_beside T (tolds T (by decide)) (tooks T (by decide))
def Hw.ok (C : CT) (h : Hw) (l : List Int) (Q : AQ) (E : Value → Om → Prop) (Ω : Om) : Prop := match h with
  | .none => E (.ref C.c_NoValue) Ω
  | h => Q (.tup [.lst (l.map D.int), .str h.s]) Ω
def fD (x : Int × Int) : D := .tup [.int x.1, .int x.2]
def F_ord : AF := fun ds Ω Q _ => ∃ x y : Int × Int, ds = [fD x, fD y] ∧ Bi x.1 ∧ Bi x.2 ∧ Bi y.1 ∧ Bi y.2 ∧ Q (.lst ((inOrd x y).map fD)) Ω
theorem c_in_order (T : Txt K mg C) : Clb P w K mg base ca 1 "in_order" F_ord := by
  refine clb T.d_in_order sc_in_order (fun ds Ω Q E h => ?_) (fun f cdv A outer s H E hr => ⟨_, _, (ass_cons (as_if (at_lt (ae_mul (ae_ix (ae_var 0) ae_int) (ae_ix (ae_var 1) ae_int)) (ae_mul (ae_ix (ae_var 1) ae_int) (ae_ix (ae_var 0) ae_int))) (ass_one (as_ret (ae_lst (aa_cons (ae_var 0) (aa_cons (ae_var 1) aa_nil))))) ass_nil)
      (ass_one (as_ret (ae_lst (aa_cons (ae_var 1) (aa_cons (ae_var 0) aa_nil)))))), fun ds Ω Qa Ea h => ?_⟩)
  · obtain ⟨_, _, rfl, _⟩ := h
    rfl
  · obtain ⟨x, y, rfl, h1, h2, h3, h4, k⟩ := h
    unfold fD
    walk_at "pl"
    refine ⟨bg_mul h1 h4, bg_mul h3 h2, ?_⟩
    unfold inOrd at k
    by_cases h : x.1 * y.2 < y.1 * x.2
    · rw [if_pos h] at k ⊢
      exact ⟨by decide, k⟩
    · rw [if_neg h] at k ⊢
      exact ⟨by decide, k⟩
theorem ok_up : ∀ {k : Nat} {x : Rw}, x.ok k = true → x.ok (k + 1) = true
  | 0, x, h => by cases x <;> cases h
  | k + 1, .frac _ _, h => h
  | k + 1, .root _ _ _, h => h
  | k + 1, .ruled _ _ _, h => h
  | k + 1, .four ns x, h => by
    simp only [Rw.ok, Bool.and_eq_true] at h ⊢
    exact ⟨h.1, ok_up h.2⟩
  | k + 1, .eight ns x y, h => by
    simp only [Rw.ok, Bool.and_eq_true] at h ⊢
    exact ⟨⟨h.1.1, ok_up h.1.2⟩, ok_up h.2⟩
  | k + 1, .power x n, h => by
    simp only [Rw.ok, Bool.and_eq_true] at h ⊢
    exact ⟨h.1, ok_up h.2⟩
theorem bad_dn {k : Nat} {x : Rw} (h : x.ok (k + 1) = false) : x.ok k = false := by
  cases e : x.ok k with
  | false => rfl
  | true => rw [ok_up e] at h; cases h
def F_fpB (C : CT) : AF := fun ds Ω Q E => ∃ (x : Rw) (many most : Int), ds = [x.d, .int many, .int most] ∧ x.ok 5 = false ∧ E (.ref C.c_BadTree) Ω
theorem c_first_partsB (T : Txt K mg C) : Clb P w K mg base ca 38 "first_parts" (F_fpB C) := by
  refine clb T.d_first_parts sc_first_parts (fun ds Ω Q E h => ?_) (fun f cdv A outer s H E hr => ⟨_, _, (ass_cons (as_set 3 sc_first_parts.nd (ae_call (c_readerG T) hr (takes_of rfl rfl rfl rfl) (by omega) (aa_cons (ae_var 0) aa_nil)))
      (ass_cons (as_set 4 sc_first_parts.nd (ae_lstO aa_nil))
      (ass_cons (as_while (passes_of rfl) (at_lt (ae_len rfl T.b_len (ae_var 4)) (ae_var 1)) (ass_cons (as_set 5 sc_first_parts.nd (ae_meth (k := 36) hr (takes_of rfl rfl rfl rfl) (by omega) (ae_var 3) (aa_cons (ae_sub (ae_var 2) (ae_meth0 (k := 36) hr (takes_of rfl rfl rfl rfl) (by omega) (ae_var 3))) aa_nil)))
      (ass_cons (as_if (at_neS (ae_ix (ae_var 5) ae_int) ae_str) (ass_one (as_ret (ae_tup (aa_cons (ae_var 4) (aa_cons (ae_ix (ae_var 5) ae_int) aa_nil))))) ass_nil)
      (ass_one (as_expr (ae_app (ae_var 4) (ae_ix (ae_var 5) ae_int)))))))
      (ass_one (as_ret (ae_tup (aa_cons (ae_var 4) (aa_cons ae_str aa_nil)))))))), fun ds Ω Qa Ea h => ?_⟩)
  · obtain ⟨_, _, _, rfl, _⟩ := h
    rfl
  · obtain ⟨x, many, most, rfl, hx, k⟩ := h
    walk_at "pl"
    exact .inr ⟨x, rfl, hx, k⟩
def F_cmpB (C : CT) : AF := fun ds Ω Q E => ∃ (x : Rw) (t : Tr) (most : Int), (ds = [x.d, t.d, .int most] ∨ ds = [t.d, x.d, .int most]) ∧ x.ok 5 = false ∧ t.good 5 ∧ ∀ Ω', (∀ b, Ω b ≠ none → Ω' b = Ω b) → E (.ref C.c_BadTree) Ω'
theorem c_comparedB (T : Txt K mg C) : Clb P w K mg base ca 38 "compared" (F_cmpB C) := by
  refine clb T.d_compared sc_compared (fun ds Ω Q E h => ?_) (fun f cdv A outer s H E hr => ⟨_, _, (ass_cons (as_set 3 sc_compared.nd (ae_call (c_readerG T) hr (takes_of rfl rfl rfl rfl) (by omega) (aa_cons (ae_var 0) aa_nil)))
      (ass_one (as_ret (ae_call (c_rb33 T) hr (takes_of rfl rfl rfl rfl) (by omega) (aa_cons (ae_var 3) (aa_cons (ae_call (c_readerG T) hr (takes_of rfl rfl rfl rfl) (by omega) (aa_cons (ae_var 1) aa_nil)) (aa_cons (ae_var 2) aa_nil))))))), fun ds Ω Qa Ea h => ?_⟩)
  · obtain ⟨_, _, _, rfl | rfl, _⟩ := h <;> rfl
  · obtain ⟨x, t, most, rfl | rfl, hx, hg, k⟩ := h
    · walk_at "pl"
      exact .inr ⟨x, rfl, hx, k Ω fun _ _ => rfl⟩
    · walk_at "pl"
      refine .inl ⟨t, rfl, hg, fun r p Ω1 S1 ho1 hr1 hf1 hs1 => ?_⟩
      walk_at "pl"
      exact .inr ⟨x, rfl, hx, k Ω1 hs1⟩
def F_neB (C : CT) : AF := fun ds Ω Q E => ∃ (x : Rw) (size most : Int), ds = [x.d, .int size, .int most] ∧ x.ok 5 = false ∧ E (.ref C.c_BadTree) Ω
theorem c_besideB (T : Txt K mg C) : Clb P w K mg base ca 38 "beside" (F_neB C) := by
  refine clb T.d_beside sc_beside (fun ds Ω Q E h => ?_) (fun f cdv A outer s H E hr => ⟨_, _, (ass_cons (as_set 3 sc_beside.nd (ae_call (c_readerG T) hr (takes_of rfl rfl rfl rfl) (by omega) (aa_cons (ae_var 0) aa_nil)))
      (ass_cons (as_set 4 sc_beside.nd (ae_tup (aa_cons ae_int (aa_cons ae_int aa_nil))))
      (ass_cons (as_set 5 sc_beside.nd (ae_tup (aa_cons ae_int (aa_cons ae_int aa_nil))))
      (ass_cons (as_set 6 sc_beside.nd ae_bl)
      (ass_one (as_while (passes_of rfl) (at_val ae_bl) (ass_cons (as_set 7 sc_beside.nd (ae_meth (k := 36) hr (takes_of rfl rfl rfl rfl) (by omega) (ae_var 3) (aa_cons (ae_sub (ae_var 2) (ae_meth0 (k := 36) hr (takes_of rfl rfl rfl rfl) (by omega) (ae_var 3))) aa_nil)))
      (ass_cons (as_if (at_eqS (ae_ix (ae_var 7) ae_int) ae_str) (ass_one (as_ret (ae_lst aa_nil))) ass_nil)
      (ass_cons (as_if (at_eqS (ae_ix (ae_var 7) ae_int) ae_str) (ass_one (as_ret (ae_lst (aa_cons (ae_var 5) aa_nil)))) ass_nil)
      (ass_cons (as_set 8 sc_beside.nd (ae_ix (ae_var 7) ae_int))
      (ass_one (as_if (at_not (at_val (ae_var 6))) (ass_cons (as_set 5 sc_beside.nd (ae_tup (aa_cons (ae_var 8) (aa_cons ae_int aa_nil))))
      (ass_one (as_set 6 sc_beside.nd ae_bl))) (ass_one (as_if (at_le (ae_add (ae_ix (ae_var 4) ae_int) (ae_mul (ae_var 8) (ae_ix (ae_var 5) ae_int))) (ae_var 1)) (ass_one (as_par 4 5 rfl sc_beside.nd (ae_var 5) (ae_tup (aa_cons (ae_add (ae_ix (ae_var 4) ae_int) (ae_mul (ae_var 8) (ae_ix (ae_var 5) ae_int))) (aa_cons (ae_add (ae_ix (ae_var 4) ae_int) (ae_mul (ae_var 8) (ae_ix (ae_var 5) ae_int))) aa_nil))))) (ass_cons (as_set 9 sc_beside.nd (ae_fdv (div_of hr) (ae_sub (ae_var 1) (ae_ix (ae_var 4) ae_int)) (ae_ix (ae_var 5) ae_int)))
      (ass_one (as_ret (ae_call (c_in_order T) hr (takes_of rfl rfl rfl rfl) (by omega) (aa_cons (ae_var 5) (aa_cons (ae_tup (aa_cons (ae_add (ae_ix (ae_var 4) ae_int) (ae_mul (ae_var 9) (ae_ix (ae_var 5) ae_int))) (aa_cons (ae_add (ae_ix (ae_var 4) ae_int) (ae_mul (ae_var 9) (ae_ix (ae_var 5) ae_int))) aa_nil))) aa_nil)))))))))))))))))))), fun ds Ω Qa Ea h => ?_⟩)
  · obtain ⟨_, _, _, rfl, _⟩ := h
    rfl
  · obtain ⟨x, many, most, rfl, hx, k⟩ := h
    walk_at "pl"
    exact .inr ⟨x, rfl, hx, k⟩
theorem c_nearestB (T : Txt K mg C) : Clb P w K mg base ca 39 "nearest" (F_neB C) := by
  refine clb T.d_nearest sc_nearest (fun ds Ω Q E h => ?_) (fun f cdv A outer s H E hr => ⟨_, _, (ass_cons (as_set 3 sc_nearest.nd (ae_call (c_besideB T) hr (takes_of rfl rfl rfl rfl) (by omega) (aa_cons (ae_var 0) (aa_cons (ae_var 1) (aa_cons (ae_var 2) aa_nil)))))
      (ass_cons (as_if (at_eqD hr.units (ae_var 3) (ae_lst aa_nil)) (ass_one (as_ret ae_non)) ass_nil)
      (ass_cons (as_set 4 sc_nearest.nd (ae_ix (ae_var 3) ae_int))
      (ass_cons (as_set 5 sc_nearest.nd (ae_ix (ae_var 3) (ae_neg ae_int)))
      (ass_cons (as_if (at_eqD hr.units (ae_var 4) (ae_var 5)) (ass_one (as_ret (ae_var 4))) ass_nil)
      (ass_cons (as_set 6 sc_nearest.nd (ae_make (mk_Fixed T) hr (takes_of rfl rfl rfl rfl) (by omega) (aa_cons (ae_add (ae_mul (ae_ix (ae_var 4) ae_int) (ae_ix (ae_var 5) ae_int)) (ae_mul (ae_ix (ae_var 5) ae_int) (ae_ix (ae_var 4) ae_int))) (aa_cons (ae_mul (ae_mul ae_int (ae_ix (ae_var 4) ae_int)) (ae_ix (ae_var 5) ae_int)) (aa_cons ae_bl aa_nil)))))
      (ass_cons (as_set 7 sc_nearest.nd (ae_call (c_rb33 T) hr (takes_of rfl rfl rfl rfl) (by omega) (aa_cons (ae_call (c_readerG T) hr (takes_of rfl rfl rfl rfl) (by omega) (aa_cons (ae_var 0) aa_nil)) (aa_cons (ae_var 6) (aa_cons (ae_var 2) aa_nil)))))
      (ass_cons (as_if (at_eqS (ae_var 7) ae_str) (ass_one (as_ret ae_non)) ass_nil)
      (ass_cons (as_if (AWt.at_ (aw_or (AWt.at_ (aw_and (at_eqS (ae_var 7) ae_str) (aw_and1 (at_le (ae_ix (ae_var 4) ae_int) (ae_ix (ae_var 5) ae_int))))) (aw_or1 (at_eqS (ae_var 7) ae_str)))) (ass_one (as_ret (ae_var 4))) ass_nil)
      (ass_one (as_ret (ae_var 5)))))))))))), fun ds Ω Qa Ea h => ?_⟩)
  · obtain ⟨_, _, _, rfl, _⟩ := h
    rfl
  · obtain ⟨x, many, most, rfl, hx, k⟩ := h
    walk_at "pl"
    exact ⟨x, many, most, rfl, hx, k⟩
def F_refused : AF := fun ds Ω Q _ => ∃ (way : Int) (d : D), ds = [.int way, d] ∧ ((∃ x : Rw, d = x.d ∧ x.ok 5 = false ∧ ∀ Ω', (∀ b, Ω b ≠ none → Ω' b = Ω b) → Q (.bl true) Ω') ∨ (way = 0 ∧ ∃ t : Tr, d = t.d ∧ t.good 5 ∧ ∀ Ω', (∀ b, Ω b ≠ none → Ω' b = Ω b) → Q (.bl false) Ω'))
theorem c_law_refused (T : Txt K mg C) : Clb P w K mg base ca 40 "_law_refused" F_refused := by
  refine clb T.d_law_refused sc__law_refused (fun ds Ω Q E h => ?_) (fun f cdv A outer s H E hr => ⟨_, _, (ass_cons (as_set 2 sc__law_refused.nd (ae_tup (aa_cons ae_str (aa_cons ae_int (aa_cons ae_int aa_nil)))))
      (ass_cons (as_tryAs (i := 3) rfl rfl sc__law_refused.nd rfl rfl ⟨rfl, by decide, .inl T.y_PartError⟩ (takes_of rfl rfl rfl rfl) (fun W1 pn1 xe1 tk1 hp1 => ASs.cast (ass_one (as_if (at_eqI (ae_var 0) ae_int) (ass_one (as_expr (ae_call (c_readerG T) hr tk1 (by omega) (aa_cons (ae_var 1) aa_nil)))) (ass_one (as_if (at_eqI (ae_var 0) ae_int) (ass_one (as_expr (ae_call (c_first_partsB T) hr tk1 (by omega) (aa_cons (ae_var 1) (aa_cons ae_int (aa_cons ae_int aa_nil)))))) (ass_one (as_if (at_eqI (ae_var 0) ae_int) (ass_one (as_expr (ae_call (c_comparedB T) hr tk1 (by omega) (aa_cons (ae_var 2) (aa_cons (ae_var 1) (aa_cons ae_int aa_nil)))))) (ass_one (as_if (at_eqI (ae_var 0) ae_int) (ass_one (as_expr (ae_call (c_comparedB T) hr tk1 (by omega) (aa_cons (ae_var 1) (aa_cons (ae_var 2) (aa_cons ae_int aa_nil)))))) (ass_one (as_expr (ae_call (c_nearestB T) hr tk1 (by omega) (aa_cons (ae_var 1) (aa_cons ae_int (aa_cons ae_int aa_nil)))))))))))))) (by first | (dsimp only [Cx.tr, MthX, Cx.suite]; done) | rfl | (delta tMethD; dsimp only [Cx.tr, MthX, Cx.suite]; done) | (delta tMethD; dsimp only [Cx.tr, MthX, Cx.suite]; rfl)) (by first | (dsimp only [Cx.tr, MthX, Cx.suite]; done) | rfl | (delta tMethD; dsimp only [Cx.tr, MthX, Cx.suite]; done) | (delta tMethD; dsimp only [Cx.tr, MthX, Cx.suite]; rfl))) (fun a1 oe1 cls1 pn1 hz1 hf1 => ASs.cast (ass_one (as_ret (ae_and (ae_isE hz1 hf1 rfl T.b_isinstance (ae_var 3) (pe_gR rfl T.y_BadTree) (.own _)) (ae_and (ae_isE hz1 hf1 rfl T.b_isinstance (ae_var 3) (pe_gT rfl T.b_ValueError boot_ty_ValueError) (.ty _)) (ae_one (ae_notV (ae_isET hz1 hf1 rfl T.b_isinstance (ae_var 3) (pe_gR rfl T.y_NoValue) (.own _) (pe_gR rfl T.y_TooLong) (.own _)))))))) (by first | (dsimp only [Cx.tr, MthX, Cx.suite]; done) | rfl | (delta tMethD; dsimp only [Cx.tr, MthX, Cx.suite]; done) | (delta tMethD; dsimp only [Cx.tr, MthX, Cx.suite]; rfl)) (by first | (dsimp only [Cx.tr, MthX, Cx.suite]; done) | rfl | (delta tMethD; dsimp only [Cx.tr, MthX, Cx.suite]; done) | (delta tMethD; dsimp only [Cx.tr, MthX, Cx.suite]; rfl))))
      (ass_one (as_ret ae_bl)))), fun ds Ω Qa Ea h => ?_⟩)
  · obtain ⟨_, _, rfl, _⟩ := h
    rfl
  · obtain ⟨way, d, rfl, ⟨x, rfl, hx, k⟩ | ⟨rfl, t, rfl, hg, k⟩⟩ := h
    · walk_at "pl"
      have h3 : (Tr.frac 2 3).good 5 := ⟨by unfold Few; decide, by unfold Few; decide, by decide⟩
      refine ⟨by decide, ite2 (fun _ => .inr ⟨x, rfl, hx, ?_⟩) (fun _ => ite2 (fun _ => ⟨x, 0, 0, rfl, hx, ?_⟩) (fun _ => ite2 (fun _ => ⟨x, .frac 2 3, 9, .inr rfl, hx, h3, fun Ω1 hf1 => ?_⟩) (fun _ => ite2 (fun _ => ⟨x, .frac 2 3, 9, .inl rfl, hx, h3, fun Ω1 hf1 => ?_⟩) (fun _ => ⟨x, 5, 9, rfl, hx, ?_⟩))))⟩
      · refine ⟨true, T.e_BadTree_PartError, ?_⟩
        rw [if_pos rfl]
        intro a ha
        refine ⟨_, rfl, T.z_BadTree, true, T.i_BadTree_BadTree, ?_⟩
        rw [if_pos rfl]
        refine ⟨_, rfl, T.z_BadTree, true, T.i_BadTree_ValueError, ?_⟩
        rw [if_pos rfl]
        exact ⟨_, rfl, T.z_BadTree, false, kitAny_cons T.i_BadTree_NoValue (fun _ => kitAny_cons T.i_BadTree_TooLong (fun _ => rfl) (fun z => by cases z)) (fun z => by cases z), k _ fun _ _ => rfl⟩
      · refine ⟨true, T.e_BadTree_PartError, ?_⟩
        rw [if_pos rfl]
        intro a ha
        refine ⟨_, rfl, T.z_BadTree, true, T.i_BadTree_BadTree, ?_⟩
        rw [if_pos rfl]
        refine ⟨_, rfl, T.z_BadTree, true, T.i_BadTree_ValueError, ?_⟩
        rw [if_pos rfl]
        exact ⟨_, rfl, T.z_BadTree, false, kitAny_cons T.i_BadTree_NoValue (fun _ => kitAny_cons T.i_BadTree_TooLong (fun _ => rfl) (fun z => by cases z)) (fun z => by cases z), k _ fun _ _ => rfl⟩
      · refine ⟨true, T.e_BadTree_PartError, ?_⟩
        rw [if_pos rfl]
        intro a ha
        refine ⟨_, rfl, T.z_BadTree, true, T.i_BadTree_BadTree, ?_⟩
        rw [if_pos rfl]
        refine ⟨_, rfl, T.z_BadTree, true, T.i_BadTree_ValueError, ?_⟩
        rw [if_pos rfl]
        exact ⟨_, rfl, T.z_BadTree, false, kitAny_cons T.i_BadTree_NoValue (fun _ => kitAny_cons T.i_BadTree_TooLong (fun _ => rfl) (fun z => by cases z)) (fun z => by cases z), k _ hf1⟩
      · refine ⟨true, T.e_BadTree_PartError, ?_⟩
        rw [if_pos rfl]
        intro a ha
        refine ⟨_, rfl, T.z_BadTree, true, T.i_BadTree_BadTree, ?_⟩
        rw [if_pos rfl]
        refine ⟨_, rfl, T.z_BadTree, true, T.i_BadTree_ValueError, ?_⟩
        rw [if_pos rfl]
        exact ⟨_, rfl, T.z_BadTree, false, kitAny_cons T.i_BadTree_NoValue (fun _ => kitAny_cons T.i_BadTree_TooLong (fun _ => rfl) (fun z => by cases z)) (fun z => by cases z), k _ hf1⟩
      · refine ⟨true, T.e_BadTree_PartError, ?_⟩
        rw [if_pos rfl]
        intro a ha
        refine ⟨_, rfl, T.z_BadTree, true, T.i_BadTree_BadTree, ?_⟩
        rw [if_pos rfl]
        refine ⟨_, rfl, T.z_BadTree, true, T.i_BadTree_ValueError, ?_⟩
        rw [if_pos rfl]
        exact ⟨_, rfl, T.z_BadTree, false, kitAny_cons T.i_BadTree_NoValue (fun _ => kitAny_cons T.i_BadTree_TooLong (fun _ => rfl) (fun z => by cases z)) (fun z => by cases z), k _ fun _ _ => rfl⟩
    · walk_at "pl"
      exact ⟨by decide, .inl ⟨t, rfl, hg, fun r p Ω1 S1 ho1 hr1 hf1 hs1 => k Ω1 hs1⟩⟩
def e8D : D := dtup [0, 1, 1, 0, 0, 0, 0, 1]
def F_around : AF := fun ds Ω Q _ => ∃ (p : Addr) (Pd : Nat → D → Prop) (d : D) (n : Nat), ds = [.o p, d, .int n] ∧ Ω p = some .row ∧ n ≤ 4 ∧ Pd 0 d ∧ (∀ i d, Pd i d → Pd (i + 1) (.tup [.str "four", dtup [2, 1, 1, 1], d]) ∧ Pd (i + 1) (.tup [.str "eight", e8D, (Tr.frac 2 3).d, d]) ∧ Pd (i + 1) (.tup [.str "eight", e8D, d, (Tr.frac 2 3).d]) ∧ Pd (i + 1) (.tup [.str "power", d, .int 2])) ∧ ∀ d, Pd n d → Q d Ω
def P_ar (p : Addr) (Pd : Nat → D → Prop) (n : Nat) (Ω : Om) : List D → En → Om → Prop := fun us ρ Ω' => ∃ (i l : Nat) (d : D) (z4 z5 : Option D), us = rngD (i : Int) l ∧ i + l = n ∧ Ω' = Ω ∧ Pd i d ∧ ρ = [some (.o p), some d, some (.int n), some (Tr.frac 2 3).d, z4, z5]
theorem c_law_around (T : Txt K mg C) : Clb P w K mg base ca 2 "_law_around" F_around := by
  refine clb T.d_law_around sc__law_around (fun ds Ω Q E h => ?_) (fun f cdv A outer s H E hr => ⟨_, _, (ass_cons (as_set 3 sc__law_around.nd (ae_tup (aa_cons ae_str (aa_cons ae_int (aa_cons ae_int aa_nil)))))
      (ass_cons (as_forR1 (passes_of rfl) rfl rfl T.b_range (ae_var 2) (ag_name (i := 4) sc__law_around.nd rfl (Or.inl rfl)) (ass_cons (as_set 5 sc__law_around.nd (ae_call (c_law_taken T) hr (takes_of rfl rfl rfl rfl) (by omega) (aa_cons (ae_var 0) (aa_cons ae_int aa_nil))))
      (ass_one (as_if (at_eqI (ae_var 5) ae_int) (ass_one (as_set 1 sc__law_around.nd (ae_tup (aa_cons ae_str (aa_cons (ae_tup (aa_cons ae_int (aa_cons ae_int (aa_cons ae_int (aa_cons ae_int aa_nil))))) (aa_cons (ae_var 1) aa_nil)))))) (ass_one (as_if (at_eqI (ae_var 5) ae_int) (ass_one (as_set 1 sc__law_around.nd (ae_tup (aa_cons ae_str (aa_cons (ae_tup (aa_cons ae_int (aa_cons ae_int (aa_cons ae_int (aa_cons ae_int (aa_cons ae_int (aa_cons ae_int (aa_cons ae_int (aa_cons ae_int aa_nil))))))))) (aa_cons (ae_var 3) (aa_cons (ae_var 1) aa_nil))))))) (ass_one (as_if (at_eqI (ae_var 5) ae_int) (ass_one (as_set 1 sc__law_around.nd (ae_tup (aa_cons ae_str (aa_cons (ae_tup (aa_cons ae_int (aa_cons ae_int (aa_cons ae_int (aa_cons ae_int (aa_cons ae_int (aa_cons ae_int (aa_cons ae_int (aa_cons ae_int aa_nil))))))))) (aa_cons (ae_var 1) (aa_cons (ae_var 3) aa_nil))))))) (ass_one (as_set 1 sc__law_around.nd (ae_tup (aa_cons ae_str (aa_cons (ae_var 1) (aa_cons ae_int aa_nil))))))))))))))
      (ass_one (as_ret (ae_var 1))))), fun ds Ω Qa Ea h => ?_⟩)
  · obtain ⟨_, _, _, _, rfl, _⟩ := h
    rfl
  · obtain ⟨p, Pd, d, n, rfl, ho, hn, h0, hs, k⟩ := h
    walk_at "pl"
    refine ⟨by decide, by omega, by omega, ?_⟩
    have e0 : rngD 0 n = rngD ((0 : Nat) : Int) n := rfl
    rw [e0]
    refine forL_ind (P_ar p Pd n Ω) ⟨0, n, d, none, none, rfl, by omega, rfl, h0, rfl⟩ ?_ ?_
    · rintro ρ Ω' ⟨i, l, d, z4, z5, hu, hi, rfl, hP, rfl⟩
      have := rng_nil hu
      have : i = n := by omega
      subst this
      walk_at "pl"
      exact k d hP
    · rintro x us ρ Ω' De e1 ih _ _ ⟨i, l, d, z4, z5, hu, hi, rfl, hP, rfl⟩
      obtain ⟨l', rfl, rfl, rfl⟩ := rng_step hu
      walk_at "pl"
      obtain ⟨q1, q2, q3, q4⟩ := hs i d hP
      have fin : ∀ d' z, Pd (i + 1) d' → De.nx [some (.o p), some d', some (.int n), some (Tr.frac 2 3).d, some (.int i), z] Ω' := fun d' z h => ih _ _ ⟨i + 1, l', d', _, _, by rw [Int.natCast_add]; rfl, by omega, rfl, h, rfl⟩
      exact ⟨p, 4, rfl, ho, by decide, by decide, fun v v0 v1 => ⟨v, rfl, ite2 (fun _ => ⟨by decide, by decide, fin _ _ q1⟩) (fun _ => ⟨v, rfl, ite2 (fun _ => ⟨by decide, by decide, fin _ _ q2⟩) (fun _ => ⟨v, rfl, ite2 (fun _ => ⟨by decide, by decide, fin _ _ q3⟩) (fun _ => ⟨by decide, fin _ _ q4⟩)⟩)⟩)⟩⟩
theorem bad_all {l : List Rw} (h : l.all (fun r => !r.ok 5) = true) : ∀ r ∈ l, r.ok 5 = false := fun r hr => by
  have := List.all_eq_true.mp h r hr
  simpa using this
def M_b (p : Addr) (N : Nat) (one : Option D) : En → Om → Prop := fun ρ Ω' => ∃ (a : Addr) (rws : List Rw) (z4 z5 z6 z7 z8 z9 z10 : Option D), rws.length ≤ N ∧ (∀ r ∈ rws, r.ok 5 = false) ∧ Ω' p = some .row ∧ Ω' a = some (.lst (rws.map Rw.d)) ∧
  ρ = [some (.o p), some (.int (10 ^ Int.toNat 12 + 1)), some (.o a), one, z4, z5, z6, z7, z8, z9, z10]
theorem mb_cat {p q : Addr} {N M : Nat} {one : Option D} {Ω : Om} {rws : List Rw} {z4 z5 z6 z7 z8 z9 z10 : Option D} (hq : Ω q = none) (new : List Rw) {newD : List D} (hl : rws.length ≤ N) (hb : ∀ r ∈ rws, r.ok 5 = false) (hp : Ω p = some .row) (hn : newD = new.map Rw.d) (hbn : ∀ r ∈ new, r.ok 5 = false) (hM : N + new.length ≤ M) :
    M_b p M one [some (.o p), some (.int (10 ^ Int.toNat 12 + 1)), some (.o q), one, z4, z5, z6, z7, z8, z9, z10] (oset Ω q (.lst (rws.map Rw.d ++ newD))) := by
  have hpq : p ≠ q := fun z => by rw [z, hq] at hp; cases hp
  refine ⟨q, rws ++ new, _, _, _, _, _, _, _, by rw [List.length_append]; omega, fun r hr => ?_, (oset_ne hpq).trans hp, by rw [oset_same, hn, List.map_append], rfl⟩
  rcases List.mem_append.mp hr with z | z
  · exact hb r z
  · exact hbn r z
def F_bad : AF := fun ds Ω Q _ => ∃ p : Addr, ds = [.o p] ∧ Ω p = some .row ∧ ∀ (x : Rw) (Ω' : Om), x.ok 5 = false → Ω' p = some .row → Q x.d Ω'
def M_b2 (p : Addr) (N : Nat) : En → Om → Prop := fun ρ Ω' => ∃ (a b c : Addr) (rws : List Rw) (ring steps : List Int) (z6 z7 z8 z9 z10 : Option D), rws.length ≤ N ∧ (∀ r ∈ rws, r.ok 5 = false) ∧ ring.length = steps.length ∧ 1 ≤ ring.length ∧ ring.length ≤ 12 ∧ (∀ n ∈ steps, n = 0) ∧ a ≠ b ∧ a ≠ c ∧ b ≠ c ∧ Ω' p = some .row ∧ Ω' a = some (.lst (rws.map Rw.d)) ∧ Ω' b = some (.lst (ring.map D.int)) ∧ Ω' c = some (.lst (steps.map D.int)) ∧
  ρ = [some (.o p), some (.int (10 ^ Int.toNat 12 + 1)), some (.o a), some (Tr.frac 1 2).d, some (.o b), some (.o c), z6, z7, z8, z9, z10]
theorem ru_bad_ring {ps ring steps : List Int} {n : Int} (h : n ∈ ring) (hn : n ≤ 0) : (Rw.ruled ps ring steps).ok 5 = false := by
  have e : (ps.drop 1 ++ ring).all (fun n => decide (1 ≤ n)) = false := by
    rw [List.all_eq_false]
    exact ⟨n, List.mem_append_right _ h, by simp only [decide_eq_true_eq]; omega⟩
  simp only [Rw.ok, ruB, e, Bool.and_false, Bool.false_and]
theorem ru_bad_ps {ps ring steps : List Int} {n : Int} (h : n ∈ ps.drop 1) (hn : n ≤ 0) : (Rw.ruled ps ring steps).ok 5 = false := by
  have e : (ps.drop 1 ++ ring).all (fun n => decide (1 ≤ n)) = false := by
    rw [List.all_eq_false]
    exact ⟨n, List.mem_append_left _ h, by simp only [decide_eq_true_eq]; omega⟩
  simp only [Rw.ok, ruB, e, Bool.and_false, Bool.false_and]
theorem ru_bad_steps {ps ring steps : List Int} {n : Int} (h : n ∈ steps) (hn : n < 0) : (Rw.ruled ps ring steps).ok 5 = false := by
  have e : steps.all (fun n => decide (0 ≤ n)) = false := by
    rw [List.all_eq_false]
    exact ⟨n, h, by simpa using hn⟩
  simp only [Rw.ok, ruB, e, Bool.and_false, Bool.false_and]
theorem atI_rw {l : List Rw} {i : Int} (h0 : 0 ≤ i) (h : i < l.length) : ∃ v, v ∈ l ∧ atI (l.map Rw.d) i = some v.d := by
  obtain ⟨n, rfl⟩ := Int.eq_ofNat_of_zero_le h0
  have hl : n < l.length := by omega
  refine ⟨l[n], List.getElem_mem hl, ?_⟩
  rw [atI_eq, List.getElem?_map, List.getElem?_eq_getElem hl]
  rfl
def M_b3 (p b c : Addr) (ring steps : List Int) (N : Nat) (z6 z7 z8 z9 z10 : Option D) : En → Om → Prop := fun ρ Ω' => ∃ (a : Addr) (rws : List Rw), rws.length ≤ N ∧ (∀ r ∈ rws, r.ok 5 = false) ∧ a ≠ b ∧ a ≠ c ∧ Ω' p = some .row ∧ Ω' a = some (.lst (rws.map Rw.d)) ∧ Ω' b = some (.lst (ring.map D.int)) ∧ Ω' c = some (.lst (steps.map D.int)) ∧
  ρ = [some (.o p), some (.int (10 ^ Int.toNat 12 + 1)), some (.o a), some (Tr.frac 1 2).d, some (.o b), some (.o c), z6, z7, z8, z9, z10]
def M_b5 (p a b c : Addr) (Ω : Om) : En → Om → Prop := fun ρ Ω' => ∃ (x : Rw) (z7 z8 z9 z10 : Option D), x.ok 5 = false ∧ Ω' = Ω ∧ ρ = [some (.o p), some (.int (10 ^ Int.toNat 12 + 1)), some (.o a), some (Tr.frac 1 2).d, some (.o b), some (.o c), some x.d, z7, z8, z9, z10]
def P_bd (p a b c : Addr) (Ω : Om) : List D → En → Om → Prop := fun us ρ Ω' => ∃ (i l : Nat) (x : Rw) (z7 z8 z9 z10 : Option D), us = rngD (i : Int) l ∧ i + l = 5 ∧ x.ok i = false ∧ Ω' = Ω ∧ ρ = [some (.o p), some (.int (10 ^ Int.toNat 12 + 1)), some (.o a), some (Tr.frac 1 2).d, some (.o b), some (.o c), some x.d, z7, z8, z9, z10]
theorem mem_set_at {α : Type} {l : List α} {i : Nat} {x : α} (h : i < l.length) : x ∈ l.set i x := by
  refine List.mem_iff_getElem.mpr ⟨i, by rw [List.length_set]; exact h, ?_⟩
  rw [List.getElem_set_self]
theorem c_law_bad (T : Txt K mg C) : Clb P w K mg base ca 2 "_law_bad" F_bad := by
  refine clb T.d_law_bad sc__law_bad (fun ds Ω Q E h => ?_) (fun f cdv A outer s H E hr => ⟨_, _, (ass_cons (as_set 1 sc__law_bad.nd (ae_add (ae_powB ae_int ae_int) ae_int))
      (ass_cut (as_set 2 sc__law_bad.nd (ae_lstO (aa_cons (ae_tup (aa_cons ae_str (aa_cons ae_int (aa_cons ae_int aa_nil)))) (aa_cons (ae_tup (aa_cons ae_str (aa_cons (ae_var 1) (aa_cons ae_int aa_nil)))) (aa_cons (ae_tup (aa_cons ae_str (aa_cons ae_int (aa_cons (ae_sub ae_int (ae_var 1)) aa_nil)))) (aa_cons (ae_tup (aa_cons ae_str (aa_cons ae_int (aa_cons (ae_neg ae_int) (aa_cons ae_int aa_nil))))) (aa_cons (ae_tup (aa_cons ae_str (aa_cons ae_int (aa_cons ae_int (aa_cons ae_int aa_nil))))) aa_nil)))))))
      (ass_cut (as_set 2 sc__law_bad.nd (ae_catO (ae_var 2) (ae_lst (aa_cons (ae_tup (aa_cons ae_str (aa_cons ae_int (aa_cons (ae_var 1) (aa_cons ae_int aa_nil))))) (aa_cons (ae_tup (aa_cons ae_str (aa_cons (ae_var 1) (aa_cons ae_int (aa_cons ae_int aa_nil))))) (aa_cons (ae_tup (aa_cons ae_str (aa_cons (ae_tup aa_nil) (aa_cons (ae_tup (aa_cons ae_int aa_nil)) (aa_cons (ae_tup (aa_cons ae_int aa_nil)) aa_nil))))) (aa_cons (ae_tup (aa_cons ae_str (aa_cons (ae_tup (aa_cons ae_int (aa_cons ae_int aa_nil))) (aa_cons (ae_tup aa_nil) (aa_cons (ae_tup aa_nil) aa_nil))))) aa_nil)))))))
      (ass_cut (as_set 2 sc__law_bad.nd (ae_catO (ae_var 2) (ae_lst (aa_cons (ae_tup (aa_cons ae_str (aa_cons (ae_tup (aa_cons ae_int (aa_cons ae_int aa_nil))) (aa_cons (ae_tup aa_nil) (aa_cons (ae_tup aa_nil) aa_nil))))) (aa_cons (ae_tup (aa_cons ae_str (aa_cons (ae_tup (aa_cons ae_int aa_nil)) (aa_cons (ae_tup (aa_cons ae_int aa_nil)) (aa_cons (ae_tup (aa_cons ae_int aa_nil)) aa_nil))))) (aa_cons (ae_tup (aa_cons ae_str (aa_cons (ae_tup (aa_cons ae_int aa_nil)) (aa_cons (ae_tup (aa_cons ae_int aa_nil)) (aa_cons (ae_tup (aa_cons (ae_neg ae_int) aa_nil)) aa_nil))))) aa_nil))))))
      (ass_cut (as_set 2 sc__law_bad.nd (ae_catO (ae_var 2) (ae_lst (aa_cons (ae_tup (aa_cons ae_str (aa_cons (ae_tup (aa_cons ae_int aa_nil)) (aa_cons (ae_tup (aa_cons ae_int aa_nil)) (aa_cons (ae_tup aa_nil) aa_nil))))) (aa_cons (ae_tup (aa_cons ae_str (aa_cons (ae_tup (aa_cons ae_int aa_nil)) (aa_cons (ae_tup aa_nil) (aa_cons (ae_tup (aa_cons ae_int aa_nil)) aa_nil))))) (aa_cons (ae_tup (aa_cons ae_str (aa_cons (ae_repT (ae_tup (aa_cons ae_int aa_nil)) ae_int) (aa_cons (ae_tup aa_nil) (aa_cons (ae_tup aa_nil) aa_nil))))) aa_nil))))))
      (ass_cut (as_set 2 sc__law_bad.nd (ae_catO (ae_var 2) (ae_lst (aa_cons (ae_tup (aa_cons ae_str (aa_cons (ae_tup (aa_cons (ae_var 1) aa_nil)) (aa_cons (ae_tup aa_nil) (aa_cons (ae_tup aa_nil) aa_nil))))) (aa_cons (ae_tup (aa_cons ae_str (aa_cons (ae_tup (aa_cons ae_int (aa_cons (ae_neg ae_int) aa_nil))) (aa_cons (ae_tup (aa_cons ae_int aa_nil)) (aa_cons (ae_tup (aa_cons ae_int aa_nil)) aa_nil))))) (aa_cons (ae_tup (aa_cons ae_str (aa_cons (ae_tup (aa_cons ae_int aa_nil)) (aa_cons (ae_repT (ae_tup (aa_cons ae_int aa_nil)) ae_int) (aa_cons (ae_repT (ae_tup (aa_cons ae_int aa_nil)) ae_int) aa_nil))))) aa_nil))))))
      (ass_cons (as_set 3 sc__law_bad.nd (ae_tup (aa_cons ae_str (aa_cons ae_int (aa_cons ae_int aa_nil)))))
      (ass_cut (as_set 2 sc__law_bad.nd (ae_catO (ae_var 2) (ae_lst (aa_cons (ae_tup (aa_cons ae_str (aa_cons (ae_tup (aa_cons ae_int (aa_cons ae_int (aa_cons ae_int (aa_cons ae_int aa_nil))))) (aa_cons (ae_var 3) aa_nil)))) (aa_cons (ae_tup (aa_cons ae_str (aa_cons (ae_tup (aa_cons ae_int (aa_cons ae_int (aa_cons ae_int (aa_cons ae_int aa_nil))))) (aa_cons (ae_var 3) aa_nil)))) (aa_cons (ae_tup (aa_cons ae_str (aa_cons (ae_tup (aa_cons ae_int (aa_cons ae_int (aa_cons ae_int aa_nil)))) (aa_cons (ae_var 3) aa_nil)))) aa_nil))))))
      (ass_cut (as_set 2 sc__law_bad.nd (ae_catO (ae_var 2) (ae_lst (aa_cons (ae_tup (aa_cons ae_str (aa_cons (ae_tup (aa_cons ae_int (aa_cons ae_int (aa_cons ae_int (aa_cons (ae_var 1) aa_nil))))) (aa_cons (ae_var 3) aa_nil)))) (aa_cons (ae_tup (aa_cons ae_str (aa_cons (ae_tup (aa_cons ae_int (aa_cons ae_int (aa_cons ae_int (aa_cons ae_int (aa_cons ae_int (aa_cons ae_int (aa_cons ae_int aa_nil)))))))) (aa_cons (ae_var 3) (aa_cons (ae_var 3) aa_nil))))) aa_nil)))))
      (ass_cut (as_set 2 sc__law_bad.nd (ae_catO (ae_var 2) (ae_lst (aa_cons (ae_tup (aa_cons ae_str (aa_cons (ae_tup (aa_cons ae_int (aa_cons ae_int (aa_cons ae_int (aa_cons ae_int (aa_cons ae_int (aa_cons ae_int (aa_cons ae_int (aa_cons ae_int aa_nil))))))))) (aa_cons (ae_var 3) (aa_cons (ae_var 3) aa_nil))))) (aa_cons (ae_tup (aa_cons ae_str (aa_cons (ae_catT (ae_repT (ae_tup (aa_cons ae_int aa_nil)) ae_int) (ae_tup (aa_cons ae_int aa_nil))) (aa_cons (ae_var 3) (aa_cons (ae_var 3) aa_nil))))) aa_nil)))))
      (ass_cut (as_set 2 sc__law_bad.nd (ae_catO (ae_var 2) (ae_lst (aa_cons (ae_tup (aa_cons ae_str (aa_cons (ae_catT (ae_tup (aa_cons ae_int (aa_cons ae_int (aa_cons ae_int (aa_cons ae_int aa_nil))))) (ae_repT (ae_tup (aa_cons ae_int aa_nil)) ae_int)) (aa_cons (ae_var 3) (aa_cons (ae_var 3) aa_nil))))) (aa_cons (ae_tup (aa_cons ae_str (aa_cons (ae_var 3) (aa_cons ae_int aa_nil)))) (aa_cons (ae_tup (aa_cons ae_str (aa_cons (ae_var 3) (aa_cons ae_int aa_nil)))) aa_nil))))))
      (ass_cons (as_set 4 sc__law_bad.nd (ae_repO (ae_lstO (aa_cons ae_int aa_nil)) (ae_add ae_int (ae_call (c_law_taken T) hr (takes_of rfl rfl rfl rfl) (by omega) (aa_cons (ae_var 0) (aa_cons ae_int aa_nil))))))
      (ass_cut (as_set 5 sc__law_bad.nd (ae_repO (ae_lstO (aa_cons ae_int aa_nil)) (ae_len rfl T.b_len (ae_var 4))))
      (ass_cons (as_setIx (ae_sub ae_int (ae_call (c_law_taken T) hr (takes_of rfl rfl rfl rfl) (by omega) (aa_cons (ae_var 0) (aa_cons ae_int aa_nil)))) (ae_var 4) (ae_call (c_law_taken T) hr (takes_of rfl rfl rfl rfl) (by omega) (aa_cons (ae_var 0) (aa_cons (ae_len rfl T.b_len (ae_var 4)) aa_nil))))
      (ass_cut (as_set 2 sc__law_bad.nd (ae_catO (ae_var 2) (ae_lst (aa_cons (ae_tup (aa_cons ae_str (aa_cons (ae_tup (aa_cons ae_int aa_nil)) (aa_cons (ae_tuple rfl T.b_tuple (ae_var 4)) (aa_cons (ae_tuple rfl T.b_tuple (ae_var 5)) aa_nil))))) (aa_cons (ae_tup (aa_cons ae_str (aa_cons (ae_tuple rfl T.b_tuple (ae_catL (ae_repO (ae_lstO (aa_cons ae_int aa_nil)) (ae_len rfl T.b_len (ae_var 5))) (ae_lst (aa_cons ae_int (aa_cons ae_int aa_nil))))) (aa_cons (ae_tup aa_nil) (aa_cons (ae_tup aa_nil) aa_nil))))) aa_nil)))))
      (ass_cons (as_setIx (ae_neg ae_int) (ae_var 5) (ae_call (c_law_taken T) hr (takes_of rfl rfl rfl rfl) (by omega) (aa_cons (ae_var 0) (aa_cons (ae_len rfl T.b_len (ae_var 5)) aa_nil))))
      (ass_cut (as_expr (ae_app (ae_var 2) (ae_tup (aa_cons ae_str (aa_cons (ae_tup (aa_cons ae_int aa_nil)) (aa_cons (ae_repT (ae_tup (aa_cons ae_int aa_nil)) (ae_len rfl T.b_len (ae_var 5))) (aa_cons (ae_tuple rfl T.b_tuple (ae_var 5)) aa_nil)))))))
      (ass_cons (as_set 6 sc__law_bad.nd (ae_tup (aa_cons ae_str (aa_cons ae_int (aa_cons ae_int (aa_cons ae_int aa_nil))))))
      (ass_cut (as_forR1 (passes_of rfl) rfl rfl T.b_range ae_int (ag_name (i := 7) sc__law_bad.nd rfl (Or.inl rfl)) (ass_cons (as_set 8 sc__law_bad.nd (ae_tup (aa_cons ae_int (aa_cons ae_int (aa_cons ae_int (aa_cons ae_int (aa_cons ae_int (aa_cons ae_int (aa_cons ae_int (aa_cons ae_int aa_nil))))))))))
      (ass_cons (as_set 9 sc__law_bad.nd (ae_lst (aa_cons (ae_tup (aa_cons ae_str (aa_cons (ae_tup (aa_cons ae_int (aa_cons ae_int (aa_cons ae_int (aa_cons ae_int aa_nil))))) (aa_cons (ae_var 6) aa_nil)))) (aa_cons (ae_tup (aa_cons ae_str (aa_cons (ae_var 8) (aa_cons (ae_var 3) (aa_cons (ae_var 6) aa_nil))))) (aa_cons (ae_tup (aa_cons ae_str (aa_cons (ae_var 8) (aa_cons (ae_var 6) (aa_cons (ae_var 3) aa_nil))))) aa_nil)))))
      (ass_one (as_set 6 sc__law_bad.nd (ae_ix (ae_catL (ae_var 9) (ae_lst (aa_cons (ae_tup (aa_cons ae_str (aa_cons (ae_var 6) (aa_cons ae_int aa_nil)))) aa_nil))) (ae_call (c_law_taken T) hr (takes_of rfl rfl rfl rfl) (by omega) (aa_cons (ae_var 0) (aa_cons ae_int aa_nil)))))))))
      (ass_cons (as_set 10 sc__law_bad.nd (ae_tup (aa_cons ae_str (aa_cons (ae_tup (aa_cons ae_int aa_nil)) (aa_cons (ae_tuple rfl T.b_tuple (ae_var 4)) (aa_cons (ae_repT (ae_tup (aa_cons ae_int aa_nil)) (ae_len rfl T.b_len (ae_var 4))) aa_nil))))))
      (ass_one (as_ret (ae_ix (ae_catL (ae_var 2) (ae_lst (aa_cons (ae_var 6) (aa_cons (ae_var 6) (aa_cons (ae_var 6) (aa_cons (ae_var 10) (aa_cons (ae_var 10) (aa_cons (ae_var 10) aa_nil)))))))) (ae_call (c_law_taken T) hr (takes_of rfl rfl rfl rfl) (by omega) (aa_cons (ae_var 0) (aa_cons (ae_add (ae_len rfl T.b_len (ae_var 2)) ae_int) aa_nil)))))))))))))))))))))))))), fun ds Ω Qa Ea h => ?_⟩)
  · obtain ⟨_, rfl, _⟩ := h
    rfl
  · obtain ⟨p, rfl, ho, k⟩ := h
    walk_at "pl"
    refine ⟨⟨by decide, by decide⟩, M_b p 5 none, ?_, ?_⟩
    · walk_at "pl"
      repeat (refine ⟨by decide, ?_⟩)
      exact fun q hq => mb_cat (rws := []) (N := 0) hq [.frac 1 0, .frac (10 ^ Int.toNat 12 + 1) 3, .frac 1 (0 - (10 ^ Int.toNat 12 + 1)), .root 1 (-1) 2, .root 1 2 0] (Nat.le_refl 0) (fun _ z => by cases z) ho rfl (bad_all (by decide)) (by decide)
    clear ho
    rintro ρ Ω1 ⟨a, rws, z4, z5, z6, z7, z8, z9, z10, hl, hb, ho1, hoa, rfl⟩
    refine ⟨M_b p 9 none, ?_, ?_⟩
    · walk_at "pl"
      repeat (refine ⟨by decide, ?_⟩)
      exact ⟨_, lseq_o hoa, by rw [List.length_map]; exact Nat.le_of_lt (small1000' (by omega)), fun q hq => mb_cat hq [.root 0 (10 ^ Int.toNat 12 + 1) 1, .root (10 ^ Int.toNat 12 + 1) 2 1, .ruled [] [1] [0], .ruled [1, 0] [] []] hl hb ho1 rfl (bad_all (by decide)) (by decide)⟩
    clear hl hb ho1 hoa
    rintro ρ Ω1 ⟨a, rws, z4, z5, z6, z7, z8, z9, z10, hl, hb, ho1, hoa, rfl⟩
    refine ⟨M_b p 12 none, ?_, ?_⟩
    · walk_at "pl"
      repeat (refine ⟨by decide, ?_⟩)
      exact ⟨_, lseq_o hoa, by rw [List.length_map]; exact Nat.le_of_lt (small1000' (by omega)), fun q hq => mb_cat hq [.ruled [1, 1] [] [], .ruled [1] [0] [0], .ruled [1] [1] [-1]] hl hb ho1 rfl (bad_all (by decide)) (by decide)⟩
    clear hl hb ho1 hoa
    rintro ρ Ω1 ⟨a, rws, z4, z5, z6, z7, z8, z9, z10, hl, hb, ho1, hoa, rfl⟩
    refine ⟨M_b p 15 none, ?_, ?_⟩
    · simp only [aRepT]
      walk_at "pl"
      repeat (refine ⟨by decide, ?_⟩)
      refine ⟨_, _, rfl, rfl, by simp, by decide, by decide, by decide, ?_⟩
      repeat (refine ⟨by decide, ?_⟩)
      exact ⟨_, lseq_o hoa, by rw [List.length_map]; exact Nat.le_of_lt (small1000' (by omega)), fun q hq => mb_cat hq [.ruled [1] [1] [], .ruled [1] [] [0], .ruled (List.replicate 13 2) [] []] hl hb ho1 rfl (bad_all (by decide)) (by decide)⟩
    clear hl hb ho1 hoa
    rintro ρ Ω1 ⟨a, rws, z4, z5, z6, z7, z8, z9, z10, hl, hb, ho1, hoa, rfl⟩
    refine ⟨M_b p 18 none, ?_, ?_⟩
    · simp only [aRepT]
      walk_at "pl"
      repeat (refine ⟨by decide, ?_⟩)
      refine ⟨_, _, rfl, rfl, by simp, by decide, by decide, by decide, ?_⟩
      repeat (refine ⟨by decide, ?_⟩)
      refine ⟨_, _, rfl, rfl, by simp, by decide, by decide, by decide, ?_⟩
      repeat (refine ⟨by decide, ?_⟩)
      exact ⟨_, lseq_o hoa, by rw [List.length_map]; exact Nat.le_of_lt (small1000' (by omega)), fun q hq => mb_cat hq [.ruled [(10 ^ Int.toNat 12 + 1)] [] [], .ruled [2, -2] [3] [1], .ruled [1] (List.replicate 13 1) (List.replicate 13 0)] hl hb ho1 rfl (bad_all (by decide)) (by decide)⟩
    clear hl hb ho1 hoa
    rintro ρ Ω1 ⟨a, rws, z4, z5, z6, z7, z8, z9, z10, hl, hb, ho1, hoa, rfl⟩
    walk_at "pl"
    refine ⟨by decide, ?_⟩
    refine ⟨M_b p 21 (some (Tr.frac 1 2).d), ?_, ?_⟩
    · walk_at "pl"
      repeat (refine ⟨by decide, ?_⟩)
      exact ⟨_, lseq_o hoa, by rw [List.length_map]; exact Nat.le_of_lt (small1000' (by omega)), fun q hq => mb_cat hq [.four [1, 2, 2, 4] (.frac 1 2), .four [0, 0, 1, 1] (.frac 1 2), .four [1, 2, 3] (.frac 1 2)] hl hb ho1 rfl (bad_all (by decide)) (by decide)⟩
    clear hl hb ho1 hoa
    rintro ρ Ω1 ⟨a, rws, z4, z5, z6, z7, z8, z9, z10, hl, hb, ho1, hoa, rfl⟩
    refine ⟨M_b p 23 (some (Tr.frac 1 2).d), ?_, ?_⟩
    · walk_at "pl"
      repeat (refine ⟨by decide, ?_⟩)
      exact ⟨_, lseq_o hoa, by rw [List.length_map]; exact Nat.le_of_lt (small1000' (by omega)), fun q hq => mb_cat hq [.four [1, 0, 0, (10 ^ Int.toNat 12 + 1)] (.frac 1 2), .eight [1, 0, 0, 0, 0, 0, 0] (.frac 1 2) (.frac 1 2)] hl hb ho1 rfl (bad_all (by decide)) (by decide)⟩
    clear hl hb ho1 hoa
    rintro ρ Ω1 ⟨a, rws, z4, z5, z6, z7, z8, z9, z10, hl, hb, ho1, hoa, rfl⟩
    refine ⟨M_b p 25 (some (Tr.frac 1 2).d), ?_, ?_⟩
    · simp only [aRepT]
      walk_at "pl"
      repeat (refine ⟨by decide, ?_⟩)
      refine ⟨_, _, rfl, rfl, by simp, by decide, by decide, by decide, ?_⟩
      repeat (refine ⟨by decide, ?_⟩)
      try simp only [D.tup.injEq, exists_eq_left']
      refine ⟨by rw [sizeLine_eq]; decide, ?_⟩
      repeat (refine ⟨by decide, ?_⟩)
      exact ⟨_, lseq_o hoa, by rw [List.length_map]; exact Nat.le_of_lt (small1000' (by omega)), fun q hq => mb_cat hq [.eight [1, 2, 3, 4, 2, 4, 6, 8] (.frac 1 2) (.frac 1 2), .eight [0, 0, 0, 0, 0, 0, 0, 1] (.frac 1 2) (.frac 1 2)] hl hb ho1 rfl (bad_all (by decide)) (by decide)⟩
    clear hl hb ho1 hoa
    rintro ρ Ω1 ⟨a, rws, z4, z5, z6, z7, z8, z9, z10, hl, hb, ho1, hoa, rfl⟩
    refine ⟨M_b p 28 (some (Tr.frac 1 2).d), ?_, ?_⟩
    · simp only [aRepT]
      walk_at "pl"
      repeat (refine ⟨by decide, ?_⟩)
      refine ⟨_, _, rfl, rfl, by simp, by decide, by decide, by decide, ?_⟩
      repeat (refine ⟨by decide, ?_⟩)
      refine ⟨_, rfl, by rw [sizeLine_eq]; decide, ?_⟩
      repeat (refine ⟨by decide, ?_⟩)
      exact ⟨_, lseq_o hoa, by rw [List.length_map]; exact Nat.le_of_lt (small1000' (by omega)), fun q hq => mb_cat hq [.eight [1, 2, 3, 4, 0, 0, 0, 0] (.frac 1 2) (.frac 1 2), .power (.frac 1 2) 0, .power (.frac 1 2) 5] hl hb ho1 rfl (bad_all (by decide)) (by decide)⟩
    clear hl hb ho1 hoa
    rintro ρ Ω1 ⟨a, rws, z4, z5, z6, z7, z8, z9, z10, hl, hb, ho1, hoa, rfl⟩
    simp only [aRepO]
    walk_at "pl"
    have rep1 : ∀ {Ω2 : Om} {q : Addr} {i : Int} {n : Nat} {Q : AQ}, Ω2 q = some (.lst [.int i]) → n ≤ 40 → (∀ r, Ω2 r = none → Q (.o r) (oset Ω2 r (.lst ((List.replicate n i).map D.int)))) → fRepO (.o q) (.int n) Ω2 Q := fun {Ω2 q i n Q} h1 h2 h3 => by
      refine ⟨q, n, _, rfl, rfl, h1, by omega, by omega, ?_, fun r hr => ?_⟩
      · rw [List.length_singleton, Nat.one_mul, Int.toNat_natCast]; exact Nat.le_of_lt (small1000' (by omega))
      · rw [Int.toNat_natCast, rep_ints]; exact h3 r hr
    refine ⟨by decide, fun q hq => ?_⟩
    have hpq : p ≠ q := fun z => by rw [z, hq] at ho1; cases ho1
    refine ⟨p, 12, rfl, (oset_ne hpq).trans ho1, by decide, by decide, fun t t0 t1 => ⟨t, rfl, ?_⟩⟩
    obtain ⟨m, hm⟩ : ∃ m : Nat, 1 + t = (m : Int) := ⟨(1 + t).toNat, by omega⟩
    rw [hm]
    refine rep1 oset_same (by omega) fun b hb2 => ?_
    refine ⟨M_b2 p 28, ?_, ?_⟩
    · simp only [aRepO]
      walk_at "pl"
      refine ⟨by decide, fun q2 hq2 => ?_⟩
      have fne : ∀ {X : Om} {x y : Addr} {o : AO}, X x = some o → X y = none → x ≠ y := fun h1 h2 z => by rw [z, h2] at h1; cases h1
      have o1 : oset Ω1 q (.lst [.int 1]) p = some .row := (oset_ne hpq).trans ho1
      have a1 : oset Ω1 q (.lst [.int 1]) a = some (.lst (rws.map Rw.d)) := (oset_ne (fne hoa hq)).trans hoa
      have hpb := fne o1 hb2
      have hab := fne a1 hb2
      generalize oset Ω1 q (.lst [.int 1]) = Ω2 at *
      have o2 : oset Ω2 b (.lst ((List.replicate m 1).map D.int)) p = some .row := (oset_ne hpb).trans o1
      have a2 : oset Ω2 b (.lst ((List.replicate m 1).map D.int)) a = some (.lst (rws.map Rw.d)) := (oset_ne hab).trans a1
      have b2 : oset Ω2 b (.lst ((List.replicate m 1).map D.int)) b = some (.lst ((List.replicate m 1).map D.int)) := oset_same
      generalize oset Ω2 b (.lst ((List.replicate m 1).map D.int)) = Ω3 at *
      have o3 : oset Ω3 q2 (.lst [.int 0]) p = some .row := (oset_ne (fne o2 hq2)).trans o2
      have a3 : oset Ω3 q2 (.lst [.int 0]) a = some (.lst (rws.map Rw.d)) := (oset_ne (fne a2 hq2)).trans a2
      have b3 : oset Ω3 q2 (.lst [.int 0]) b = some (.lst ((List.replicate m 1).map D.int)) := (oset_ne (fne b2 hq2)).trans b2
      refine ⟨_, seq_o b3, ?_⟩
      rw [List.length_map, List.length_replicate]
      refine rep1 oset_same (by omega) fun c hc => ?_
      have hpc := fne o3 hc
      have hac := fne a3 hc
      have hbc := fne b3 hc
      exact ⟨a, b, c, rws, List.replicate m 1, List.replicate m 0, _, _, _, _, _, hl, hb, by simp, by rw [List.length_replicate]; omega, by rw [List.length_replicate]; omega, fun n hn => List.eq_of_mem_replicate hn, hab, hac, hbc, (oset_ne hpc).trans o3, (oset_ne hac).trans a3, (oset_ne hbc).trans b3, oset_same, rfl⟩
    clear hl hb ho1 hoa
    rintro ρ Ω1 ⟨a, b, c, rws, ring, steps, z6, z7, z8, z9, z10, hl, hb, hrs, hr1, hr2, hs, hab, hac, hbc, ho1, hoa, hob, hoc, rfl⟩
    have fne : ∀ {X : Om} {x y : Addr} {o : AO}, X x = some o → X y = none → x ≠ y := fun h1 h2 z => by rw [z, h2] at h1; cases h1
    have fnr : ∀ {X : Om} {x y : Addr} {l : List D}, X x = some .row → X y = some (.lst l) → x ≠ y := fun h1 h2 z => by rw [z, h2] at h1; cases h1
    walk_at "pl"
    refine ⟨p, 3, rfl, ho1, by decide, by decide, fun t t0 t1 => ⟨t, rfl, _, seq_o hob, ?_⟩⟩
    rw [List.length_map]
    refine ⟨p, _, rfl, ho1, by omega, by omega, fun i i0 i1 => ⟨_, hob, i, rfl, ?_⟩⟩
    obtain ⟨i, rfl⟩ : ∃ j : Nat, i = (j : Int) := ⟨i.toNat, by omega⟩
    rw [List.length_map]
    refine ⟨i, ix_eq i (by omega), ?_⟩
    have hpb := fnr ho1 hob
    have es : (ring.map D.int).set i (.int (0 - t)) = (ring.set i (0 - t)).map D.int := by rw [List.map_set]
    rw [es]
    have hrl : (ring.set i (0 - t)).length = ring.length := List.length_set
    have hrb : (0 - t) ∈ ring.set i (0 - t) := mem_set_at (by omega)
    generalize ring.set i (0 - t) = ring2 at *
    have o2 : oset Ω1 b (.lst (ring2.map D.int)) p = some .row := (oset_ne hpb).trans ho1
    have a2 : oset Ω1 b (.lst (ring2.map D.int)) a = some (.lst (rws.map Rw.d)) := (oset_ne hab).trans hoa
    have b2 : oset Ω1 b (.lst (ring2.map D.int)) b = some (.lst (ring2.map D.int)) := oset_same
    have c2 : oset Ω1 b (.lst (ring2.map D.int)) c = some (.lst (steps.map D.int)) := (oset_ne (Ne.symm hbc)).trans hoc
    generalize oset Ω1 b (.lst (ring2.map D.int)) = Ω2 at *
    have hrn : ∃ n ∈ ring2, n ≤ 0 := ⟨0 - t, hrb, by omega⟩
    refine ⟨M_b3 p b c ring2 steps 30 z6 z7 z8 z9 z10, ?_, ?_⟩
    · simp only [aRepO]
      walk_at "pl"
      refine ⟨by decide, _, seq_o b2, _, seq_o c2, by decide, by decide, fun q hq => ?_⟩
      have o3 : oset Ω2 q (.lst [.int 1]) p = some .row := (oset_ne (fne o2 hq)).trans o2
      have a3 : oset Ω2 q (.lst [.int 1]) a = some (.lst (rws.map Rw.d)) := (oset_ne (fne a2 hq)).trans a2
      have b3 : oset Ω2 q (.lst [.int 1]) b = some (.lst (ring2.map D.int)) := (oset_ne (fne b2 hq)).trans b2
      have c3 : oset Ω2 q (.lst [.int 1]) c = some (.lst (steps.map D.int)) := (oset_ne (fne c2 hq)).trans c2
      have q3 : oset Ω2 q (.lst [.int 1]) q = some (.lst [.int 1]) := oset_same
      generalize oset Ω2 q (.lst [.int 1]) = Ω3 at *
      refine ⟨_, seq_o c3, ?_⟩
      rw [List.length_map]
      refine rep1 q3 (by omega) fun u hu => ?_
      have o4 : oset Ω3 u (.lst ((List.replicate steps.length 1).map D.int)) p = some .row := (oset_ne (fne o3 hu)).trans o3
      have a4 : oset Ω3 u (.lst ((List.replicate steps.length 1).map D.int)) a = some (.lst (rws.map Rw.d)) := (oset_ne (fne a3 hu)).trans a3
      have b4 : oset Ω3 u (.lst ((List.replicate steps.length 1).map D.int)) b = some (.lst (ring2.map D.int)) := (oset_ne (fne b3 hu)).trans b3
      have c4 : oset Ω3 u (.lst ((List.replicate steps.length 1).map D.int)) c = some (.lst (steps.map D.int)) := (oset_ne (fne c3 hu)).trans c3
      have u4 : oset Ω3 u (.lst ((List.replicate steps.length 1).map D.int)) u = some (.lst ((List.replicate steps.length 1).map D.int)) := oset_same
      generalize oset Ω3 u (.lst ((List.replicate steps.length 1).map D.int)) = Ω4 at *
      refine ⟨by decide, _, lseq_o u4, by rw [List.length_map, List.length_replicate]; exact Nat.le_of_lt (small1000' (by omega)), by decide, by decide, by decide, by decide, _, lseq_o a4, by rw [List.length_map]; exact Nat.le_of_lt (small1000' (by omega)), fun v hv => ?_⟩
      refine ⟨v, rws ++ [.ruled [1] ring2 steps, .ruled (List.replicate steps.length 1 ++ [0, 3]) [] []], by rw [List.length_append]; simp only [List.length_cons, List.length_nil]; omega, fun r hr => ?_, Ne.symm (fne b4 hv), Ne.symm (fne c4 hv), (oset_ne (fne o4 hv)).trans o4, ?_, (oset_ne (fne b4 hv)).trans b4, (oset_ne (fne c4 hv)).trans c4, rfl⟩
      · rcases List.mem_append.mp hr with z | z
        · exact hb r z
        · simp only [List.mem_cons, List.not_mem_nil, or_false] at z
          rcases z with rfl | rfl
          · exact ru_bad_ring hrb (by omega)
          · obtain ⟨kk, hkk⟩ : ∃ kk, steps.length = kk + 1 := ⟨steps.length - 1, by omega⟩
            exact ru_bad_ps (n := 0) (by rw [hkk, List.replicate_succ, List.cons_append, List.drop_one, List.tail_cons]; simp) (Int.le_refl 0)
      · rw [oset_same, List.map_append, show ([D.int 0, D.int 3] : List D) = ([0, 3] : List Int).map D.int from rfl, ← List.map_append]
        rfl
    clear hl hb hab hac o2 a2 b2 c2 hoa
    clear ho1 hob hoc es hpb
    clear rws a
    rintro ρ Ω3 ⟨a, rws, hl, hb, hab, hac, ho1, hoa, hob, hoc, rfl⟩
    simp only [aRepT]
    walk_at "pl"
    refine ⟨_, seq_o hoc, ?_⟩
    rw [List.length_map]
    refine ⟨p, _, rfl, ho1, by omega, by omega, fun j j0 j1 => ⟨_, hoc, j, rfl, ?_⟩⟩
    obtain ⟨j, rfl⟩ : ∃ i : Nat, j = (i : Int) := ⟨j.toNat, by omega⟩
    rw [List.length_map]
    refine ⟨j, ix_eq j (by omega), ?_⟩
    have es : (steps.map D.int).set j (.int (-1)) = (steps.set j (-1)).map D.int := by rw [List.map_set]
    rw [es]
    have hsl : (steps.set j (-1)).length = steps.length := List.length_set
    have hsb : (-1 : Int) ∈ steps.set j (-1) := mem_set_at (by omega)
    generalize steps.set j (-1) = steps2 at *
    have o2 : oset Ω3 c (.lst (steps2.map D.int)) p = some .row := (oset_ne (fnr ho1 hoc)).trans ho1
    have a2 : oset Ω3 c (.lst (steps2.map D.int)) a = some (.lst (rws.map Rw.d)) := (oset_ne hac).trans hoa
    have b2 : oset Ω3 c (.lst (steps2.map D.int)) b = some (.lst (ring2.map D.int)) := (oset_ne hbc).trans hob
    have c2 : oset Ω3 c (.lst (steps2.map D.int)) c = some (.lst (steps2.map D.int)) := oset_same
    generalize oset Ω3 c (.lst (steps2.map D.int)) = Ω4 at *
    refine ⟨M_b3 p b c ring2 steps2 31 z6 z7 z8 z9 z10, ?_, ?_⟩
    · walk_at "pl"
      refine ⟨⟨a, _, rfl, a2⟩, by decide, by decide, _, seq_o c2, ?_⟩
      rw [List.length_map]
      refine ⟨(steps2.length : Int), _, rfl, rfl, by simp, by omega, by omega, by decide, ?_⟩
      rw [Int.toNat_natCast, rep_ints]
      refine ⟨_, seq_o c2, by decide, _, a2, by rw [List.length_map]; exact small1000' (by omega), a, rws ++ [.ruled [1] (List.replicate steps2.length 2) steps2], by rw [List.length_append]; simp only [List.length_cons, List.length_nil]; omega, fun r hr => ?_, hab, hac, (oset_ne (fnr o2 a2)).trans o2, by rw [oset_same, List.map_append]; rfl, (oset_ne (Ne.symm hab)).trans b2, (oset_ne (Ne.symm hac)).trans c2, rfl⟩
      rcases List.mem_append.mp hr with z | z
      · exact hb r z
      · rw [List.mem_singleton.mp z]
        exact ru_bad_steps hsb (by decide)
    clear hl hb hab hac o2 a2 b2 c2 hoa
    clear ho1 hob hoc es
    clear rws a
    rintro ρ Ω5 ⟨a, rws, hl, hb, hab, hac, ho1, hoa, hob, hoc, rfl⟩
    walk_at "pl"
    refine ⟨by decide, M_b5 p a b c Ω5, ?_, ?_⟩
    · walk_at "pl"
      refine ⟨by decide, by decide, ?_⟩
      have e5 : rngD 0 (Int.toNat 5) = rngD ((0 : Nat) : Int) 5 := rfl
      rw [e5]
      refine forL_ind (P_bd p a b c Ω5) ⟨0, 5, .root 3 7 2, _, _, _, _, rfl, rfl, rfl, rfl, rfl⟩ ?_ ?_
      · rintro ρ Ω' ⟨i, l, x, z7, z8, z9, z10, hu, hi, hx, rfl, rfl⟩
        have := rng_nil hu
        have : i = 5 := by omega
        subst this
        exact ⟨x, _, _, _, _, hx, rfl, rfl⟩
      · rintro x us ρ Ω' De e1 ih _ _ ⟨i, l, x, z7, z8, z9, z10, hu, hi, hx, rfl, rfl⟩
        obtain ⟨l', rfl, rfl, rfl⟩ := rng_step hu
        walk_at "pl"
        have fin : ∀ (y : Rw) z8 z9, y.ok (i + 1) = false → De.nx [some (.o p), some (.int (10 ^ Int.toNat 12 + 1)), some (.o a), some (Tr.frac 1 2).d, some (.o b), some (.o c), some y.d, some (.int i), z8, z9, z10] Ω' := fun y z8 z9 h => ih _ _ ⟨i + 1, l', y, _, _, _, _, by rw [Int.natCast_add]; rfl, by omega, h, rfl, rfl⟩
        refine ⟨by decide, by decide, by decide, by decide, by decide, by decide, by decide, by decide, by decide, p, 4, rfl, ho1, by decide, by decide, fun v v0 v1 => ⟨v, rfl, ?_⟩⟩
        rcases (by omega : v = 0 ∨ v = 1 ∨ v = 2 ∨ v = 3) with rfl | rfl | rfl | rfl
        · exact ⟨_, rfl, fin (.four [1, 1, 0, 1] x) _ _ (by simp only [Rw.ok, hx, Bool.and_false])⟩
        · exact ⟨_, rfl, fin (.eight [0, 1, 1, 0, 0, 0, 0, 1] (.frac 1 2) x) _ _ (by simp only [Rw.ok, hx, Bool.and_false])⟩
        · exact ⟨_, rfl, fin (.eight [0, 1, 1, 0, 0, 0, 0, 1] x (.frac 1 2)) _ _ (by simp only [Rw.ok, hx, Bool.and_false, Bool.false_and])⟩
        · exact ⟨_, rfl, fin (.power x 1) _ _ (by simp only [Rw.ok, hx, Bool.and_false])⟩
    rintro ρ Ω6 ⟨x, z7, z8, z9, z10, hx, rfl, rfl⟩
    walk_at "pl"
    refine ⟨by decide, _, seq_o hob, by decide, _, seq_o hob, ?_⟩
    rw [List.length_map]
    refine ⟨(ring2.length : Int), _, rfl, rfl, by simp, by omega, by omega, by decide, ?_⟩
    rw [Int.toNat_natCast, rep_ints]
    refine ⟨by decide, by decide, _, lseq_o hoa, by rw [List.length_map]; exact Nat.le_of_lt (small1000' (by omega)), _, seq_o hoa, ?_⟩
    rw [List.length_map]
    refine ⟨p, _, rfl, ho1, by omega, by omega, fun v v0 v1 => ⟨v, rfl, ?_⟩⟩
    obtain ⟨y, hy, ey⟩ := atI_rw (l := rws ++ [x, x, x, .ruled [1] ring2 (List.replicate ring2.length 0), .ruled [1] ring2 (List.replicate ring2.length 0), .ruled [1] ring2 (List.replicate ring2.length 0)]) v0 (by rw [List.length_append]; simp only [List.length_cons, List.length_nil]; omega)
    rw [List.map_append] at ey
    refine ⟨_, ey, k y Ω6 ?_ ho1⟩
    rcases List.mem_append.mp hy with z | z
    · exact hb y z
    · simp only [List.mem_cons, List.not_mem_nil, or_false] at z
      have hrg : (Rw.ruled [1] ring2 (List.replicate ring2.length 0)).ok 5 = false := ru_bad_ring hrb (by omega)
      rcases z with rfl | rfl | rfl | rfl | rfl | rfl <;> first | exact hx | exact hrg
def PdB (_ : Nat) (d : D) : Prop := ∃ y : Rw, d = y.d ∧ y.ok 5 = false
def PdG (i : Nat) (d : D) : Prop := ∃ t : Tr, d = t.d ∧ t.good (1 + i)
theorem pdB : ∀ i d, PdB i d → PdB (i + 1) (.tup [.str "four", dtup [2, 1, 1, 1], d]) ∧ PdB (i + 1) (.tup [.str "eight", e8D, (Tr.frac 2 3).d, d]) ∧ PdB (i + 1) (.tup [.str "eight", e8D, d, (Tr.frac 2 3).d]) ∧ PdB (i + 1) (.tup [.str "power", d, .int 2]) := by
  rintro i d ⟨y, rfl, hy⟩
  have h4 : y.ok 4 = false := bad_dn hy
  exact ⟨⟨.four [2, 1, 1, 1] y, rfl, by simp only [Rw.ok, h4, Bool.and_false]⟩, ⟨.eight [0, 1, 1, 0, 0, 0, 0, 1] (.frac 2 3) y, rfl, by simp only [Rw.ok, h4, Bool.and_false]⟩, ⟨.eight [0, 1, 1, 0, 0, 0, 0, 1] y (.frac 2 3), rfl, by simp only [Rw.ok, h4, Bool.and_false, Bool.false_and]⟩, ⟨.power y 2, rfl, by simp only [Rw.ok, h4, Bool.and_false]⟩⟩
theorem few_of {n : Int} (h : n.natAbs ≤ 10) : Few n := by unfold Few; omega
theorem good23 : ∀ i, (Tr.frac 2 3).good (1 + i) := fun i => by
  rw [Nat.add_comm]
  exact ⟨few_of (by decide), few_of (by decide), by decide⟩
theorem pdG : ∀ i d, PdG i d → PdG (i + 1) (.tup [.str "four", dtup [2, 1, 1, 1], d]) ∧ PdG (i + 1) (.tup [.str "eight", e8D, (Tr.frac 2 3).d, d]) ∧ PdG (i + 1) (.tup [.str "eight", e8D, d, (Tr.frac 2 3).d]) ∧ PdG (i + 1) (.tup [.str "power", d, .int 2]) := by
  rintro i d ⟨t, rfl, ht⟩
  have e8 : ∀ n ∈ ([0, 1, 1, 0, 0, 0, 0, 1] : List Int), Few n := fun n hn => few_of (by
    have : ∀ n ∈ ([0, 1, 1, 0, 0, 0, 0, 1] : List Int), n.natAbs ≤ 10 := by decide
    exact this n hn)
  have e : 1 + (i + 1) = (1 + i) + 1 := by omega
  refine ⟨⟨.four 2 1 1 1 t, rfl, ?_⟩, ⟨.eight 0 1 1 0 0 0 0 1 (.frac 2 3) t, rfl, ?_⟩, ⟨.eight 0 1 1 0 0 0 0 1 t (.frac 2 3), rfl, ?_⟩, ⟨.power t 2, rfl, ?_⟩⟩ <;> rw [e]
  · exact ⟨few_of (by decide), few_of (by decide), few_of (by decide), few_of (by decide), by decide, ht⟩
  · exact ⟨e8, by decide, good23 i, ht⟩
  · exact ⟨e8, by decide, ht, good23 i⟩
  · exact ⟨by decide, by decide, ht⟩
def P_07 (d0 d2 : D) (p : Addr) : List D → En → Om → Prop := fun us ρ Ω => ∃ (i l : Nat) (z3 z4 z5 z6 : Option D), us = rngD (i : Int) l ∧ i + l = 5 ∧ Ω p = some .row ∧ ρ = [some d0, some (.o p), some d2, z3, z4, z5, z6]
def M_07 (d0 d2 : D) (p : Addr) : En → Om → Prop := fun ρ Ω' => ∃ (z3 z4 z5 z6 : Option D), Ω' p = some .row ∧ ρ = [some d0, some (.o p), some d2, z3, z4, z5, z6]
def M_07b (d0 d2 : D) (p : Addr) : En → Om → Prop := fun ρ Ω' => ∃ (ts : List Tr) (z3 z4 z6 : Option D), (∀ t ∈ ts, t.good 1) ∧ Ω' p = some .row ∧ ρ = [some d0, some (.o p), some d2, z3, z4, some (.lst (ts.map Tr.d)), z6]
def P_07b (d0 d2 d5 : D) (p : Addr) : List D → En → Om → Prop := fun us ρ Ω' => ∃ (ts : List Tr) (z3 z4 z6 : Option D), us = ts.map Tr.d ∧ (∀ t ∈ ts, t.good 1) ∧ Ω' p = some .row ∧ ρ = [some d0, some (.o p), some d2, z3, z4, some d5, z6]
theorem law_ok (T : Txt K mg C) {f : Addr} {fd : FuncData} (F : Fun K "law" "law" s_law f fd) : FnOk P w K mg base (L2.CX P w) (50 + 32 + 1) f fd ["_law_script"] (spA K ca F_law) := by
  refine okA F sc_law law_len (fun cdv A outer s H E hr => ⟨_, _, (ass_cons (as_set 1 sc_law.nd (ae_call (c_law_row T) hr (takes_of rfl rfl rfl rfl) (by omega) (aa_cons (ae_var 0) aa_nil)))
      (ass_cons (as_set 2 sc_law.nd (ae_call (c_law_around T) hr (takes_of rfl rfl rfl rfl) (by omega) (aa_cons (ae_var 1) (aa_cons (ae_call (c_law_bad T) hr (takes_of rfl rfl rfl rfl) (by omega) (aa_cons (ae_var 1) aa_nil)) (aa_cons (ae_call (c_law_taken T) hr (takes_of rfl rfl rfl rfl) (by omega) (aa_cons (ae_var 1) (aa_cons ae_int aa_nil))) aa_nil)))))
      (ass_cut (as_forR1 (passes_of rfl) rfl rfl T.b_range ae_int (ag_name (i := 3) sc_law.nd rfl (Or.inl rfl)) (ass_one (as_if (at_not (at_val (ae_call (c_law_refused T) hr (takes_of rfl rfl rfl rfl) (by omega) (aa_cons (ae_var 3) (aa_cons (ae_var 2) aa_nil))))) (ass_one (as_ret ae_bl)) ass_nil)))
      (ass_cons (as_set 4 sc_law.nd (ae_call (c_law_signed T) hr (takes_of rfl rfl rfl rfl) (by omega) (aa_cons (ae_var 1) (aa_cons (ae_powB ae_int ae_int) aa_nil))))
      (ass_cons (as_set 5 sc_law.nd (ae_lst (aa_cons (ae_tup (aa_cons ae_str (aa_cons (ae_var 4) (aa_cons (ae_powB ae_int ae_int) aa_nil)))) (aa_cons (ae_tup (aa_cons ae_str (aa_cons (ae_sub ae_int (ae_var 4)) (aa_cons (ae_abs rfl T.b_abs (ae_var 4)) (aa_cons (ae_neg ae_int) aa_nil))))) (aa_cons (ae_tup (aa_cons ae_str (aa_cons (ae_tup (aa_cons (ae_var 4) (aa_cons ae_int (aa_cons ae_int aa_nil)))) (aa_cons (ae_tup aa_nil) (aa_cons (ae_tup aa_nil) aa_nil))))) aa_nil)))))
      (ass_cut (as_set 5 sc_law.nd (ae_catL (ae_var 5) (ae_lst (aa_cons (ae_tup (aa_cons ae_str (aa_cons (ae_tup (aa_cons (ae_var 4) aa_nil)) (aa_cons (ae_tup aa_nil) (aa_cons (ae_tup aa_nil) aa_nil))))) (aa_cons (ae_tup (aa_cons ae_str (aa_cons (ae_repT (ae_tup (aa_cons ae_int aa_nil)) ae_int) (aa_cons (ae_repT (ae_tup (aa_cons ae_int aa_nil)) ae_int) (aa_cons (ae_repT (ae_tup (aa_cons ae_int aa_nil)) ae_int) aa_nil))))) aa_nil)))))
      (ass_cons (as_for (passes_of rfl) rfl (ae_var 5) (ag_name (i := 6) sc_law.nd rfl (Or.inl rfl)) (ass_one (as_if (at_val (ae_call (c_law_refused T) hr (takes_of rfl rfl rfl rfl) (by omega) (aa_cons ae_int (aa_cons (ae_call (c_law_around T) hr (takes_of rfl rfl rfl rfl) (by omega) (aa_cons (ae_var 1) (aa_cons (ae_var 6) (aa_cons ae_int aa_nil)))) aa_nil)))) (ass_one (as_ret ae_bl)) ass_nil)))
      (ass_one (as_ret ae_bl))))))))), fun ds Ω Qa Ea h => ?_⟩)
  · obtain ⟨ns, rfl, _, kk⟩ := h
    walk_at "pl"
    refine ⟨ns, rfl, fun p hp0 => ⟨p, rfl, oset_same, fun x Ω1 hx ho1 => ⟨p, 4, rfl, ho1, by decide, by decide, fun v v0 v1 => ?_⟩⟩⟩
    obtain ⟨v, rfl⟩ : ∃ j : Nat, v = (j : Int) := ⟨v.toNat, by omega⟩
    refine ⟨p, PdB, _, v, rfl, ho1, by omega, ⟨x, rfl, hx⟩, pdB, fun d hd => ?_⟩
    obtain ⟨y, rfl, hy⟩ := hd
    generalize D.lst (ns.map D.int) = d0
    refine ⟨M_07 d0 y.d p, ?_, ?_⟩
    · walk_at "pl"
      refine ⟨by decide, by decide, ?_⟩
      have e5 : rngD 0 (Int.toNat 5) = rngD ((0 : Nat) : Int) 5 := rfl
      rw [e5]
      refine forL_ind (P_07 d0 y.d p) ⟨0, 5, none, none, none, none, rfl, rfl, ho1, rfl⟩ ?_ ?_
      · rintro ρ Ω' ⟨i, l, z3, z4, z5, z6, hu, hi, ho, rfl⟩
        exact ⟨_, _, _, _, ho, rfl⟩
      · rintro x us ρ Ω' De e1 ih _ _ ⟨i, l, z3, z4, z5, z6, hu, hi, ho, rfl⟩
        obtain ⟨l', rfl, rfl, rfl⟩ := rng_step hu
        walk_at "pl"
        refine ⟨_, _, rfl, .inl ⟨y, rfl, hy, fun Ω2 hf2 => ⟨true, rfl, ?_⟩⟩⟩
        rw [if_neg (by decide)]
        exact ih _ _ ⟨i + 1, l', _, _, _, _, by rw [Int.natCast_add]; rfl, by omega, (hf2 p (by rw [ho]; simp)).trans ho, rfl⟩
    rintro ρ Ω3 ⟨z3, z4, z5, z6, ho, rfl⟩
    simp only [aRepT]
    walk_at "pl"
    have e12 : (10 : Int) ^ Int.toNat 12 = 10 ^ 12 := rfl
    refine ⟨⟨by decide, by decide⟩, p, _, rfl, ho, by decide, by decide, fun t t0 t1 => ?_⟩
    have ft : Few t := by rw [e12] at t0 t1; unfold Few; omega
    have f12 : Few (10 ^ Int.toNat 12) := by rw [e12]; unfold Few; decide
    refine ⟨⟨by decide, by decide⟩, by decide, t, rfl, t, rfl, by decide, by decide, by decide, by decide, by decide, by decide, ?_⟩
    refine ⟨M_07b d0 y.d p, ?_, ?_⟩
    · walk_at "pl"
      repeat (refine ⟨by decide, ?_⟩)
      refine ⟨_, _, rfl, rfl, by simp, by decide, by decide, by decide, ?_⟩
      refine ⟨by decide, ?_⟩
      refine ⟨_, _, rfl, rfl, by simp, by decide, by decide, by decide, ?_⟩
      refine ⟨by decide, ?_⟩
      refine ⟨_, _, rfl, rfl, by simp, by decide, by decide, by decide, ?_⟩
      repeat (refine ⟨by decide, ?_⟩)
      refine ⟨[.frac t (10 ^ Int.toNat 12), .root (0 - t) (if t < 0 then -t else t) (-3), .ruled [t, 1, 2] [] [], .ruled [t] [] [], .ruled (List.replicate 12 1) (List.replicate 12 1) (List.replicate 12 0)], _, _, _, fun u hu => ?_, ho, rfl⟩
      simp only [List.mem_cons, List.not_mem_nil, or_false] at hu
      have f1 : Few (0 - t) := by unfold Few at ft ⊢; omega
      have f2 : Few (if t < 0 then -t else t) := by unfold Few at ft ⊢; split <;> omega
      have f3 : 0 ≤ (if t < 0 then -t else t) := by split <;> omega
      rcases hu with rfl | rfl | rfl | rfl | rfl
      · exact ⟨ft, f12, by decide⟩
      · exact ⟨f1, f2, few_of (by decide), f3, by decide⟩
      · refine ⟨by show 1 ≤ 3; decide, by show 3 ≤ 12; decide, by decide, rfl, fun n hn => ?_, by show ∀ n ∈ ([1, 2] : List Int), 1 ≤ n; decide, by decide, fun _ _ n hn => ?_⟩
        · simp only [List.append_nil, List.mem_cons, List.not_mem_nil, or_false] at hn
          rcases hn with rfl | rfl | rfl
          · exact ft
          · exact few_of (by decide)
          · exact few_of (by decide)
        · rw [show [t, 1, 2].getLast? = some 2 from rfl] at hn; cases hn; decide
      · refine ⟨by show 1 ≤ 1; decide, by show 1 ≤ 12; decide, by decide, rfl, fun n hn => ?_, by show ∀ n ∈ ([] : List Int), 1 ≤ n; decide, by decide, fun _ h => absurd h (by show ¬ 1 < 1; decide)⟩
        simp only [List.append_nil, List.mem_cons, List.not_mem_nil, or_false] at hn
        rw [hn]
        exact ft
      · refine ⟨by decide, by decide, by decide, by decide, fun n hn => few_of ?_, by decide, by decide, fun h => absurd h (by decide)⟩
        have : ∀ n ∈ List.replicate 12 1 ++ List.replicate 12 1 ++ List.replicate 12 (0 : Int), n.natAbs ≤ 10 := by decide
        exact this n hn
    clear ft ho
    rintro ρ Ω4 ⟨ts, z3, z4, z6, hts, ho, rfl⟩
    walk_at "pl"
    generalize hd5 : D.lst (ts.map Tr.d) = d5
    refine forL_ind (P_07b d0 y.d d5 p) ⟨ts, _, _, _, rfl, hts, ho, rfl⟩ ?_ ?_
    · rintro ρ Ω' ⟨ts, z3, z4, z6, hu, hts, ho, rfl⟩
      walk_at "pl"
      exact kk _
    · rintro x us ρ Ω' De e1 ih _ _ ⟨ts, z3, z4, z6, hu, hts, ho, rfl⟩
      cases ts with
      | nil => cases hu
      | cons t ts =>
        rw [List.map_cons, List.cons.injEq] at hu
        obtain ⟨rfl, rfl⟩ := hu
        walk_at "pl"
        refine ⟨p, PdG, t.d, 4, rfl, ho, by decide, ⟨t, rfl, hts t List.mem_cons_self⟩, pdG, fun d hd => ?_⟩
        obtain ⟨t2, rfl, hg2⟩ := hd
        refine ⟨0, _, rfl, .inr ⟨rfl, t2, rfl, hg2, fun Ω2 hf2 => ⟨false, rfl, ?_⟩⟩⟩
        rw [if_neg (by decide)]
        exact ih _ _ ⟨ts, _, _, _, rfl, fun u hu => hts u (List.mem_cons_of_mem _ hu), (hf2 p (by rw [ho]; simp)).trans ho, rfl⟩
end
theorem all_mk {l : PySem.W.OpenLaw} {w : World} {K : PySem.W.Frag} {h : Heap} {mg : Str → Option Value} {fa : Addr} (X : K.In h) (G : h.Ns mainGlobals mg) (hfa : mg "law" = some (.ref fa))
    {C_Purse : Addr}
    {C_Fixed : Addr}
    {C_Leaf : Addr}
    {C_Fraction : Addr}
    {C_Root : Addr}
    {C_Ruled : Addr}
    {C_Four : Addr}
    {C_Eight : Addr}
    {C_BadTree : Addr}
    {C_NoValue : Addr}
    {C_PartError : Addr}
    {C_TooLong : Addr}
    {A_TIMES : Addr}
    {f0 : Addr} {od0 an0 : Option Addr} {sl0 : Array (Option Value)} {oc0 kV0 dc0 pm0 cd0 ct0 : Value}
    {f1 : Addr} {od1 an1 : Option Addr} {sl1 : Array (Option Value)} {oc1 kV1 dc1 pm1 cd1 ct1 : Value}
    {f2 : Addr} {od2 an2 : Option Addr} {sl2 : Array (Option Value)} {oc2 kV2 dc2 pm2 cd2 ct2 : Value}
    {f3 : Addr} {od3 an3 : Option Addr} {sl3 : Array (Option Value)} {oc3 kV3 dc3 pm3 cd3 ct3 : Value}
    {f4 : Addr} {od4 an4 : Option Addr} {sl4 : Array (Option Value)} {oc4 kV4 dc4 pm4 cd4 ct4 : Value}
    {f5 : Addr} {od5 an5 : Option Addr} {sl5 : Array (Option Value)} {oc5 kV5 dc5 pm5 cd5 ct5 : Value}
    {f6 : Addr} {od6 an6 : Option Addr} {sl6 : Array (Option Value)} {oc6 kV6 dc6 pm6 cd6 ct6 : Value}
    {f7 : Addr} {od7 an7 : Option Addr} {sl7 : Array (Option Value)} {oc7 kV7 dc7 pm7 cd7 ct7 : Value}
    {f8 : Addr} {od8 an8 : Option Addr} {sl8 : Array (Option Value)} {oc8 kV8 dc8 pm8 cd8 ct8 : Value}
    {f9 : Addr} {od9 an9 : Option Addr} {sl9 : Array (Option Value)} {oc9 kV9 dc9 pm9 cd9 ct9 : Value}
    {f10 : Addr} {od10 an10 : Option Addr} {sl10 : Array (Option Value)} {oc10 kV10 dc10 pm10 cd10 ct10 : Value}
    {f11 : Addr} {od11 an11 : Option Addr} {sl11 : Array (Option Value)} {oc11 kV11 dc11 pm11 cd11 ct11 : Value}
    {f12 : Addr} {od12 an12 : Option Addr} {sl12 : Array (Option Value)} {oc12 kV12 dc12 pm12 cd12 ct12 : Value}
    {f13 : Addr} {od13 an13 : Option Addr} {sl13 : Array (Option Value)} {oc13 kV13 dc13 pm13 cd13 ct13 : Value}
    {f14 : Addr} {od14 an14 : Option Addr} {sl14 : Array (Option Value)} {oc14 kV14 dc14 pm14 cd14 ct14 : Value}
    {f15 : Addr} {od15 an15 : Option Addr} {sl15 : Array (Option Value)} {oc15 kV15 dc15 pm15 cd15 ct15 : Value}
    {f16 : Addr} {od16 an16 : Option Addr} {sl16 : Array (Option Value)} {oc16 kV16 dc16 pm16 cd16 ct16 : Value}
    {f17 : Addr} {od17 an17 : Option Addr} {sl17 : Array (Option Value)} {oc17 kV17 dc17 pm17 cd17 ct17 : Value}
    {f18 : Addr} {od18 an18 : Option Addr} {sl18 : Array (Option Value)} {oc18 kV18 dc18 pm18 cd18 ct18 : Value}
    {f19 : Addr} {od19 an19 : Option Addr} {sl19 : Array (Option Value)} {oc19 kV19 dc19 pm19 cd19 ct19 : Value}
    {f20 : Addr} {od20 an20 : Option Addr} {sl20 : Array (Option Value)} {oc20 kV20 dc20 pm20 cd20 ct20 : Value}
    {f21 : Addr} {od21 an21 : Option Addr} {sl21 : Array (Option Value)} {oc21 kV21 dc21 pm21 cd21 ct21 : Value}
    {f22 : Addr} {od22 an22 : Option Addr} {sl22 : Array (Option Value)} {oc22 kV22 dc22 pm22 cd22 ct22 : Value}
    {f23 : Addr} {od23 an23 : Option Addr} {sl23 : Array (Option Value)} {oc23 kV23 dc23 pm23 cd23 ct23 : Value}
    {f24 : Addr} {od24 an24 : Option Addr} {sl24 : Array (Option Value)} {oc24 kV24 dc24 pm24 cd24 ct24 : Value}
    {f25 : Addr} {od25 an25 : Option Addr} {sl25 : Array (Option Value)} {oc25 kV25 dc25 pm25 cd25 ct25 : Value}
    {f26 : Addr} {od26 an26 : Option Addr} {sl26 : Array (Option Value)} {oc26 kV26 dc26 pm26 cd26 ct26 : Value}
    {f27 : Addr} {od27 an27 : Option Addr} {sl27 : Array (Option Value)} {oc27 kV27 dc27 pm27 cd27 ct27 : Value}
    {f28 : Addr} {od28 an28 : Option Addr} {sl28 : Array (Option Value)} {oc28 kV28 dc28 pm28 cd28 ct28 : Value}
    {f29 : Addr} {od29 an29 : Option Addr} {sl29 : Array (Option Value)} {oc29 kV29 dc29 pm29 cd29 ct29 : Value}
    {f30 : Addr} {od30 an30 : Option Addr} {sl30 : Array (Option Value)} {oc30 kV30 dc30 pm30 cd30 ct30 : Value}
    {f31 : Addr} {od31 an31 : Option Addr} {sl31 : Array (Option Value)} {oc31 kV31 dc31 pm31 cd31 ct31 : Value}
    {f32 : Addr} {od32 an32 : Option Addr} {sl32 : Array (Option Value)} {oc32 kV32 dc32 pm32 cd32 ct32 : Value}
    {f33 : Addr} {od33 an33 : Option Addr} {sl33 : Array (Option Value)} {oc33 kV33 dc33 pm33 cd33 ct33 : Value}
    {f34 : Addr} {od34 an34 : Option Addr} {sl34 : Array (Option Value)} {oc34 kV34 dc34 pm34 cd34 ct34 : Value}
    {f35 : Addr} {od35 an35 : Option Addr} {sl35 : Array (Option Value)} {oc35 kV35 dc35 pm35 cd35 ct35 : Value}
    {f36 : Addr} {od36 an36 : Option Addr} {sl36 : Array (Option Value)} {oc36 kV36 dc36 pm36 cd36 ct36 : Value}
    {f37 : Addr} {od37 an37 : Option Addr} {sl37 : Array (Option Value)} {oc37 kV37 dc37 pm37 cd37 ct37 : Value}
    {f38 : Addr} {od38 an38 : Option Addr} {sl38 : Array (Option Value)} {oc38 kV38 dc38 pm38 cd38 ct38 : Value}
    {f39 : Addr} {od39 an39 : Option Addr} {sl39 : Array (Option Value)} {oc39 kV39 dc39 pm39 cd39 ct39 : Value}
    {f40 : Addr} {od40 an40 : Option Addr} {sl40 : Array (Option Value)} {oc40 kV40 dc40 pm40 cd40 ct40 : Value}
    {f41 : Addr} {od41 an41 : Option Addr} {sl41 : Array (Option Value)} {oc41 kV41 dc41 pm41 cd41 ct41 : Value}
    {f42 : Addr} {od42 an42 : Option Addr} {sl42 : Array (Option Value)} {oc42 kV42 dc42 pm42 cd42 ct42 : Value}
    {f43 : Addr} {od43 an43 : Option Addr} {sl43 : Array (Option Value)} {oc43 kV43 dc43 pm43 cd43 ct43 : Value}
    {f44 : Addr} {od44 an44 : Option Addr} {sl44 : Array (Option Value)} {oc44 kV44 dc44 pm44 cd44 ct44 : Value}
    {f45 : Addr} {od45 an45 : Option Addr} {sl45 : Array (Option Value)} {oc45 kV45 dc45 pm45 cd45 ct45 : Value}
    {f46 : Addr} {od46 an46 : Option Addr} {sl46 : Array (Option Value)} {oc46 kV46 dc46 pm46 cd46 ct46 : Value}
    {f47 : Addr} {od47 an47 : Option Addr} {sl47 : Array (Option Value)} {oc47 kV47 dc47 pm47 cd47 ct47 : Value}
    {f48 : Addr} {od48 an48 : Option Addr} {sl48 : Array (Option Value)} {oc48 kV48 dc48 pm48 cd48 ct48 : Value}
    {f49 : Addr} {od49 an49 : Option Addr} {sl49 : Array (Option Value)} {oc49 kV49 dc49 pm49 cd49 ct49 : Value}
    {f50 : Addr} {od50 an50 : Option Addr} {sl50 : Array (Option Value)} {oc50 kV50 dc50 pm50 cd50 ct50 : Value}
    {t_DEEPEST : Tok}
    {t_MOST_NUMBER : Tok}
    {t_MOST_PARTS : Tok}
    {t_MOST_POWER : Tok}
    {oT_TIMES : Option Addr} {nT_TIMES : Nat} {sT_TIMES : Array (Option Value)} {t0_TIMES t1_TIMES t2_TIMES t3_TIMES t4_TIMES t5_TIMES t6_TIMES t7_TIMES : Tok}
    (g_Purse : PySem.W.nsIn K mainGlobals "Purse" = some (some (.ref C_Purse)))
    (g_Fixed : PySem.W.nsIn K mainGlobals "Fixed" = some (some (.ref C_Fixed)))
    (g_Leaf : PySem.W.nsIn K mainGlobals "Leaf" = some (some (.ref C_Leaf)))
    (g_Fraction : PySem.W.nsIn K mainGlobals "Fraction" = some (some (.ref C_Fraction)))
    (g_Root : PySem.W.nsIn K mainGlobals "Root" = some (some (.ref C_Root)))
    (g_Ruled : PySem.W.nsIn K mainGlobals "Ruled" = some (some (.ref C_Ruled)))
    (g_Four : PySem.W.nsIn K mainGlobals "Four" = some (some (.ref C_Four)))
    (g_Eight : PySem.W.nsIn K mainGlobals "Eight" = some (some (.ref C_Eight)))
    (g_BadTree : PySem.W.nsIn K mainGlobals "BadTree" = some (some (.ref C_BadTree)))
    (g_NoValue : PySem.W.nsIn K mainGlobals "NoValue" = some (some (.ref C_NoValue)))
    (g_PartError : PySem.W.nsIn K mainGlobals "PartError" = some (some (.ref C_PartError)))
    (g_TooLong : PySem.W.nsIn K mainGlobals "TooLong" = some (some (.ref C_TooLong)))
    (a0 : PySem.W.nsIn K mainGlobals "root_below" = some (some (.ref f0)))
    (l0 : K.lookup f0 = some ⟨oc0, od0, .func (PySem.W.fnOf "root_below" "root_below" (defArgs s_root_below) (defBody s_root_below) (defScope s_root_below) .none kV0 dc0 pm0 an0 cd0 ct0), sl0⟩)
    (c0 : PySem.W.codeIn K cd0 "root_below" = true)
    (k0 : PySem.W.keepIn K (.ref f0) = true)
    (a1 : PySem.W.nsIn K mainGlobals "root_of" = some (some (.ref f1)))
    (l1 : K.lookup f1 = some ⟨oc1, od1, .func (PySem.W.fnOf "root_of" "root_of" (defArgs s_root_of) (defBody s_root_of) (defScope s_root_of) .none kV1 dc1 pm1 an1 cd1 ct1), sl1⟩)
    (c1 : PySem.W.codeIn K cd1 "root_of" = true)
    (k1 : PySem.W.keepIn K (.ref f1) = true)
    (a2 : PySem.W.nsIn K mainGlobals "below_all" = some (some (.ref f2)))
    (l2 : K.lookup f2 = some ⟨oc2, od2, .func (PySem.W.fnOf "below_all" "below_all" (defArgs s_below_all) (defBody s_below_all) (defScope s_below_all) .none kV2 dc2 pm2 an2 cd2 ct2), sl2⟩)
    (c2 : PySem.W.codeIn K cd2 "below_all" = true)
    (k2 : PySem.W.keepIn K (.ref f2) = true)
    (a3 : PySem.W.nsIn K mainGlobals "must" = some (some (.ref f3)))
    (l3 : K.lookup f3 = some ⟨oc3, od3, .func (PySem.W.fnOf "must" "must" (defArgs s_must) (defBody s_must) (defScope s_must) .none kV3 dc3 pm3 an3 cd3 ct3), sl3⟩)
    (c3 : PySem.W.codeIn K cd3 "must" = true)
    (k3 : PySem.W.keepIn K (.ref f3) = true)
    (a4 : PySem.W.nsIn K mainGlobals "need_numbers" = some (some (.ref f4)))
    (l4 : K.lookup f4 = some ⟨oc4, od4, .func (PySem.W.fnOf "need_numbers" "need_numbers" (defArgs s_need_numbers) (defBody s_need_numbers) (defScope s_need_numbers) .none kV4 dc4 pm4 an4 cd4 ct4), sl4⟩)
    (c4 : PySem.W.codeIn K cd4 "need_numbers" = true)
    (k4 : PySem.W.keepIn K (.ref f4) = true)
    (a5 : PySem.W.nsIn K mainGlobals "need_ruled" = some (some (.ref f5)))
    (l5 : K.lookup f5 = some ⟨oc5, od5, .func (PySem.W.fnOf "need_ruled" "need_ruled" (defArgs s_need_ruled) (defBody s_need_ruled) (defScope s_need_ruled) .none kV5 dc5 pm5 an5 cd5 ct5), sl5⟩)
    (c5 : PySem.W.codeIn K cd5 "need_ruled" = true)
    (k5 : PySem.W.keepIn K (.ref f5) = true)
    (a6 : PySem.W.nsIn K mainGlobals "need_eight" = some (some (.ref f6)))
    (l6 : K.lookup f6 = some ⟨oc6, od6, .func (PySem.W.fnOf "need_eight" "need_eight" (defArgs s_need_eight) (defBody s_need_eight) (defScope s_need_eight) .none kV6 dc6 pm6 an6 cd6 ct6), sl6⟩)
    (c6 : PySem.W.codeIn K cd6 "need_eight" = true)
    (k6 : PySem.W.keepIn K (.ref f6) = true)
    (a7 : PySem.W.nsIn K mainGlobals "need_tree" = some (some (.ref f7)))
    (l7 : K.lookup f7 = some ⟨oc7, od7, .func (PySem.W.fnOf "need_tree" "need_tree" (defArgs s_need_tree) (defBody s_need_tree) (defScope s_need_tree) .none kV7 dc7 pm7 an7 cd7 ct7), sl7⟩)
    (c7 : PySem.W.codeIn K cd7 "need_tree" = true)
    (k7 : PySem.W.keepIn K (.ref f7) = true)
    (a8 : PySem.W.nsIn K mainGlobals "opened" = some (some (.ref f8)))
    (l8 : K.lookup f8 = some ⟨oc8, od8, .func (PySem.W.fnOf "opened" "opened" (defArgs s_opened) (defBody s_opened) (defScope s_opened) .none kV8 dc8 pm8 an8 cd8 ct8), sl8⟩)
    (c8 : PySem.W.codeIn K cd8 "opened" = true)
    (k8 : PySem.W.keepIn K (.ref f8) = true)
    (a9 : PySem.W.nsIn K mainGlobals "reader" = some (some (.ref f9)))
    (l9 : K.lookup f9 = some ⟨oc9, od9, .func (PySem.W.fnOf "reader" "reader" (defArgs s_reader) (defBody s_reader) (defScope s_reader) .none kV9 dc9 pm9 an9 cd9 ct9), sl9⟩)
    (c9 : PySem.W.codeIn K cd9 "reader" = true)
    (k9 : PySem.W.keepIn K (.ref f9) = true)
    (a10 : PySem.W.nsIn K mainGlobals "first_parts" = some (some (.ref f10)))
    (l10 : K.lookup f10 = some ⟨oc10, od10, .func (PySem.W.fnOf "first_parts" "first_parts" (defArgs s_first_parts) (defBody s_first_parts) (defScope s_first_parts) .none kV10 dc10 pm10 an10 cd10 ct10), sl10⟩)
    (c10 : PySem.W.codeIn K cd10 "first_parts" = true)
    (k10 : PySem.W.keepIn K (.ref f10) = true)
    (a11 : PySem.W.nsIn K mainGlobals "greater_first" = some (some (.ref f11)))
    (l11 : K.lookup f11 = some ⟨oc11, od11, .func (PySem.W.fnOf "greater_first" "greater_first" (defArgs s_greater_first) (defBody s_greater_first) (defScope s_greater_first) .none kV11 dc11 pm11 an11 cd11 ct11), sl11⟩)
    (c11 : PySem.W.codeIn K cd11 "greater_first" = true)
    (k11 : PySem.W.keepIn K (.ref f11) = true)
    (a12 : PySem.W.nsIn K mainGlobals "read_beside" = some (some (.ref f12)))
    (l12 : K.lookup f12 = some ⟨oc12, od12, .func (PySem.W.fnOf "read_beside" "read_beside" (defArgs s_read_beside) (defBody s_read_beside) (defScope s_read_beside) .none kV12 dc12 pm12 an12 cd12 ct12), sl12⟩)
    (c12 : PySem.W.codeIn K cd12 "read_beside" = true)
    (k12 : PySem.W.keepIn K (.ref f12) = true)
    (a13 : PySem.W.nsIn K mainGlobals "compared" = some (some (.ref f13)))
    (l13 : K.lookup f13 = some ⟨oc13, od13, .func (PySem.W.fnOf "compared" "compared" (defArgs s_compared) (defBody s_compared) (defScope s_compared) .none kV13 dc13 pm13 an13 cd13 ct13), sl13⟩)
    (c13 : PySem.W.codeIn K cd13 "compared" = true)
    (k13 : PySem.W.keepIn K (.ref f13) = true)
    (a14 : PySem.W.nsIn K mainGlobals "beside" = some (some (.ref f14)))
    (l14 : K.lookup f14 = some ⟨oc14, od14, .func (PySem.W.fnOf "beside" "beside" (defArgs s_beside) (defBody s_beside) (defScope s_beside) .none kV14 dc14 pm14 an14 cd14 ct14), sl14⟩)
    (c14 : PySem.W.codeIn K cd14 "beside" = true)
    (k14 : PySem.W.keepIn K (.ref f14) = true)
    (a15 : PySem.W.nsIn K mainGlobals "in_order" = some (some (.ref f15)))
    (l15 : K.lookup f15 = some ⟨oc15, od15, .func (PySem.W.fnOf "in_order" "in_order" (defArgs s_in_order) (defBody s_in_order) (defScope s_in_order) .none kV15 dc15 pm15 an15 cd15 ct15), sl15⟩)
    (c15 : PySem.W.codeIn K cd15 "in_order" = true)
    (k15 : PySem.W.keepIn K (.ref f15) = true)
    (a16 : PySem.W.nsIn K mainGlobals "nearest" = some (some (.ref f16)))
    (l16 : K.lookup f16 = some ⟨oc16, od16, .func (PySem.W.fnOf "nearest" "nearest" (defArgs s_nearest) (defBody s_nearest) (defScope s_nearest) .none kV16 dc16 pm16 an16 cd16 ct16), sl16⟩)
    (c16 : PySem.W.codeIn K cd16 "nearest" = true)
    (k16 : PySem.W.keepIn K (.ref f16) = true)
    (a17 : PySem.W.nsIn K mainGlobals "_law_row" = some (some (.ref f17)))
    (l17 : K.lookup f17 = some ⟨oc17, od17, .func (PySem.W.fnOf "_law_row" "_law_row" (defArgs s__law_row) (defBody s__law_row) (defScope s__law_row) .none kV17 dc17 pm17 an17 cd17 ct17), sl17⟩)
    (c17 : PySem.W.codeIn K cd17 "_law_row" = true)
    (k17 : PySem.W.keepIn K (.ref f17) = true)
    (a18 : PySem.W.nsIn K mainGlobals "_law_taken" = some (some (.ref f18)))
    (l18 : K.lookup f18 = some ⟨oc18, od18, .func (PySem.W.fnOf "_law_taken" "_law_taken" (defArgs s__law_taken) (defBody s__law_taken) (defScope s__law_taken) .none kV18 dc18 pm18 an18 cd18 ct18), sl18⟩)
    (c18 : PySem.W.codeIn K cd18 "_law_taken" = true)
    (k18 : PySem.W.keepIn K (.ref f18) = true)
    (a19 : PySem.W.nsIn K mainGlobals "_law_signed" = some (some (.ref f19)))
    (l19 : K.lookup f19 = some ⟨oc19, od19, .func (PySem.W.fnOf "_law_signed" "_law_signed" (defArgs s__law_signed) (defBody s__law_signed) (defScope s__law_signed) .none kV19 dc19 pm19 an19 cd19 ct19), sl19⟩)
    (c19 : PySem.W.codeIn K cd19 "_law_signed" = true)
    (k19 : PySem.W.keepIn K (.ref f19) = true)
    (a20 : PySem.W.nsIn K mainGlobals "_law_bad" = some (some (.ref f20)))
    (l20 : K.lookup f20 = some ⟨oc20, od20, .func (PySem.W.fnOf "_law_bad" "_law_bad" (defArgs s__law_bad) (defBody s__law_bad) (defScope s__law_bad) .none kV20 dc20 pm20 an20 cd20 ct20), sl20⟩)
    (c20 : PySem.W.codeIn K cd20 "_law_bad" = true)
    (k20 : PySem.W.keepIn K (.ref f20) = true)
    (a21 : PySem.W.nsIn K mainGlobals "_law_around" = some (some (.ref f21)))
    (l21 : K.lookup f21 = some ⟨oc21, od21, .func (PySem.W.fnOf "_law_around" "_law_around" (defArgs s__law_around) (defBody s__law_around) (defScope s__law_around) .none kV21 dc21 pm21 an21 cd21 ct21), sl21⟩)
    (c21 : PySem.W.codeIn K cd21 "_law_around" = true)
    (k21 : PySem.W.keepIn K (.ref f21) = true)
    (a22 : PySem.W.nsIn K mainGlobals "_law_refused" = some (some (.ref f22)))
    (l22 : K.lookup f22 = some ⟨oc22, od22, .func (PySem.W.fnOf "_law_refused" "_law_refused" (defArgs s__law_refused) (defBody s__law_refused) (defScope s__law_refused) .none kV22 dc22 pm22 an22 cd22 ct22), sl22⟩)
    (c22 : PySem.W.codeIn K cd22 "_law_refused" = true)
    (k22 : PySem.W.keepIn K (.ref f22) = true)
    (a23 : PySem.W.nsIn K mainGlobals "law" = some (some (.ref f23)))
    (l23 : K.lookup f23 = some ⟨oc23, od23, .func (PySem.W.fnOf "law" "law" (defArgs s_law) (defBody s_law) (defScope s_law) .none kV23 dc23 pm23 an23 cd23 ct23), sl23⟩)
    (c23 : PySem.W.codeIn K cd23 "law" = true)
    (k23 : PySem.W.keepIn K (.ref f23) = true)
    (pg_Purse : PySem.W.plainGet K C_Purse Str.empty = true)
    (hd_Purse : PySem.W.hasDictIn K C_Purse = true)
    (po_Purse : PySem.W.plainOver K C_Purse = true)
    (sa_Purse : PySem.W.findIn K (.ref C_Purse) "__setattr__" = some (some (.builtin "object.__setattr__")))
    (mk_Purse : PySem.W.makesIn K C_Purse = true)
    (kc_Purse : PySem.W.keepIn K (.ref C_Purse) = true)
    (pg_Fixed : PySem.W.plainGet K C_Fixed Str.empty = true)
    (hd_Fixed : PySem.W.hasDictIn K C_Fixed = true)
    (po_Fixed : PySem.W.plainOver K C_Fixed = true)
    (sa_Fixed : PySem.W.findIn K (.ref C_Fixed) "__setattr__" = some (some (.builtin "object.__setattr__")))
    (mk_Fixed : PySem.W.makesIn K C_Fixed = true)
    (kc_Fixed : PySem.W.keepIn K (.ref C_Fixed) = true)
    (pg_Fraction : PySem.W.plainGet K C_Fraction Str.empty = true)
    (hd_Fraction : PySem.W.hasDictIn K C_Fraction = true)
    (po_Fraction : PySem.W.plainOver K C_Fraction = true)
    (sa_Fraction : PySem.W.findIn K (.ref C_Fraction) "__setattr__" = some (some (.builtin "object.__setattr__")))
    (mk_Fraction : PySem.W.makesIn K C_Fraction = true)
    (kc_Fraction : PySem.W.keepIn K (.ref C_Fraction) = true)
    (pg_Root : PySem.W.plainGet K C_Root Str.empty = true)
    (hd_Root : PySem.W.hasDictIn K C_Root = true)
    (po_Root : PySem.W.plainOver K C_Root = true)
    (sa_Root : PySem.W.findIn K (.ref C_Root) "__setattr__" = some (some (.builtin "object.__setattr__")))
    (mk_Root : PySem.W.makesIn K C_Root = true)
    (kc_Root : PySem.W.keepIn K (.ref C_Root) = true)
    (pg_Ruled : PySem.W.plainGet K C_Ruled Str.empty = true)
    (hd_Ruled : PySem.W.hasDictIn K C_Ruled = true)
    (po_Ruled : PySem.W.plainOver K C_Ruled = true)
    (sa_Ruled : PySem.W.findIn K (.ref C_Ruled) "__setattr__" = some (some (.builtin "object.__setattr__")))
    (mk_Ruled : PySem.W.makesIn K C_Ruled = true)
    (kc_Ruled : PySem.W.keepIn K (.ref C_Ruled) = true)
    (pg_Four : PySem.W.plainGet K C_Four Str.empty = true)
    (hd_Four : PySem.W.hasDictIn K C_Four = true)
    (po_Four : PySem.W.plainOver K C_Four = true)
    (sa_Four : PySem.W.findIn K (.ref C_Four) "__setattr__" = some (some (.builtin "object.__setattr__")))
    (mk_Four : PySem.W.makesIn K C_Four = true)
    (kc_Four : PySem.W.keepIn K (.ref C_Four) = true)
    (pg_Eight : PySem.W.plainGet K C_Eight Str.empty = true)
    (hd_Eight : PySem.W.hasDictIn K C_Eight = true)
    (po_Eight : PySem.W.plainOver K C_Eight = true)
    (sa_Eight : PySem.W.findIn K (.ref C_Eight) "__setattr__" = some (some (.builtin "object.__setattr__")))
    (mk_Eight : PySem.W.makesIn K C_Eight = true)
    (kc_Eight : PySem.W.keepIn K (.ref C_Eight) = true)
    (a24_Purse : PySem.W.findIn K (.ref C_Purse) "__init__" = some (some (.ref f24)))
    (i24 : PySem.W.isFn K (.ref f24) = true)
    (l24 : K.lookup f24 = some ⟨oc24, od24, .func (PySem.W.fnOf "__init__" "Purse.__init__" (defArgs s_Purse___init__) (defBody s_Purse___init__) (defScope s_Purse___init__) .none kV24 dc24 pm24 an24 cd24 ct24), sl24⟩)
    (c24 : PySem.W.codeIn K cd24 "Purse.__init__" = true)
    (k24 : PySem.W.keepIn K (.ref f24) = true)
    (a25_Fixed : PySem.W.findIn K (.ref C_Fixed) "part" = some (some (.ref f25)))
    (a25_Fraction : PySem.W.findIn K (.ref C_Fraction) "part" = some (some (.ref f25)))
    (a25_Root : PySem.W.findIn K (.ref C_Root) "part" = some (some (.ref f25)))
    (a25_Ruled : PySem.W.findIn K (.ref C_Ruled) "part" = some (some (.ref f25)))
    (a25_Four : PySem.W.findIn K (.ref C_Four) "part" = some (some (.ref f25)))
    (a25_Eight : PySem.W.findIn K (.ref C_Eight) "part" = some (some (.ref f25)))
    (i25 : PySem.W.isFn K (.ref f25) = true)
    (l25 : K.lookup f25 = some ⟨oc25, od25, .func (PySem.W.fnOf "part" "Reader.part" (defArgs s_Reader_part) (defBody s_Reader_part) (defScope s_Reader_part) .none kV25 dc25 pm25 an25 cd25 ct25), sl25⟩)
    (c25 : PySem.W.codeIn K cd25 "Reader.part" = true)
    (k25 : PySem.W.keepIn K (.ref f25) = true)
    (a26_Fixed : PySem.W.findIn K (.ref C_Fixed) "took" = some (some (.ref f26)))
    (i26 : PySem.W.isFn K (.ref f26) = true)
    (l26 : K.lookup f26 = some ⟨oc26, od26, .func (PySem.W.fnOf "took" "Reader.took" (defArgs s_Reader_took) (defBody s_Reader_took) (defScope s_Reader_took) .none kV26 dc26 pm26 an26 cd26 ct26), sl26⟩)
    (c26 : PySem.W.codeIn K cd26 "Reader.took" = true)
    (k26 : PySem.W.keepIn K (.ref f26) = true)
    (a27_Fixed : PySem.W.findIn K (.ref C_Fixed) "__init__" = some (some (.ref f27)))
    (i27 : PySem.W.isFn K (.ref f27) = true)
    (l27 : K.lookup f27 = some ⟨oc27, od27, .func (PySem.W.fnOf "__init__" "Fixed.__init__" (defArgs s_Fixed___init__) (defBody s_Fixed___init__) (defScope s_Fixed___init__) .none kV27 dc27 pm27 an27 cd27 ct27), sl27⟩)
    (c27 : PySem.W.codeIn K cd27 "Fixed.__init__" = true)
    (k27 : PySem.W.keepIn K (.ref f27) = true)
    (a28_Fixed : PySem.W.findIn K (.ref C_Fixed) "told" = some (some (.ref f28)))
    (i28 : PySem.W.isFn K (.ref f28) = true)
    (l28 : K.lookup f28 = some ⟨oc28, od28, .func (PySem.W.fnOf "told" "Fixed.told" (defArgs s_Fixed_told) (defBody s_Fixed_told) (defScope s_Fixed_told) .none kV28 dc28 pm28 an28 cd28 ct28), sl28⟩)
    (c28 : PySem.W.codeIn K cd28 "Fixed.told" = true)
    (k28 : PySem.W.keepIn K (.ref f28) = true)
    (r29 : PySem.W.readsIn K C_Leaf (.type "type") = true)
    (ga29 : PySem.W.specialIn K (.ref C_Leaf) "__getattribute__" = some (some (.builtin "type.__getattribute__")))
    (fc29 : PySem.W.findCls K (.ref C_Leaf) (.type "type") "__init__" = some (.val (.ref f29)))
    (i29 : PySem.W.isFn K (.ref f29) = true)
    (l29 : K.lookup f29 = some ⟨oc29, od29, .func (PySem.W.fnOf "__init__" "Leaf.__init__" (defArgs s_Leaf___init__) (defBody s_Leaf___init__) (defScope s_Leaf___init__) .none kV29 dc29 pm29 an29 cd29 ct29), sl29⟩)
    (c29 : PySem.W.codeIn K cd29 "Leaf.__init__" = true)
    (k29 : PySem.W.keepIn K (.ref f29) = true)
    (a30_Fraction : PySem.W.findIn K (.ref C_Fraction) "told" = some (some (.ref f30)))
    (a30_Root : PySem.W.findIn K (.ref C_Root) "told" = some (some (.ref f30)))
    (a30_Ruled : PySem.W.findIn K (.ref C_Ruled) "told" = some (some (.ref f30)))
    (i30 : PySem.W.isFn K (.ref f30) = true)
    (l30 : K.lookup f30 = some ⟨oc30, od30, .func (PySem.W.fnOf "told" "Leaf.told" (defArgs s_Leaf_told) (defBody s_Leaf_told) (defScope s_Leaf_told) .none kV30 dc30 pm30 an30 cd30 ct30), sl30⟩)
    (c30 : PySem.W.codeIn K cd30 "Leaf.told" = true)
    (k30 : PySem.W.keepIn K (.ref f30) = true)
    (a31_Root : PySem.W.findIn K (.ref C_Root) "at_end" = some (some (.ref f31)))
    (i31 : PySem.W.isFn K (.ref f31) = true)
    (l31 : K.lookup f31 = some ⟨oc31, od31, .func (PySem.W.fnOf "at_end" "Leaf.at_end" (defArgs s_Leaf_at_end) (defBody s_Leaf_at_end) (defScope s_Leaf_at_end) .none kV31 dc31 pm31 an31 cd31 ct31), sl31⟩)
    (c31 : PySem.W.codeIn K cd31 "Leaf.at_end" = true)
    (k31 : PySem.W.keepIn K (.ref f31) = true)
    (a32_Fraction : PySem.W.findIn K (.ref C_Fraction) "took" = some (some (.ref f32)))
    (a32_Root : PySem.W.findIn K (.ref C_Root) "took" = some (some (.ref f32)))
    (a32_Ruled : PySem.W.findIn K (.ref C_Ruled) "took" = some (some (.ref f32)))
    (i32 : PySem.W.isFn K (.ref f32) = true)
    (l32 : K.lookup f32 = some ⟨oc32, od32, .func (PySem.W.fnOf "took" "Leaf.took" (defArgs s_Leaf_took) (defBody s_Leaf_took) (defScope s_Leaf_took) .none kV32 dc32 pm32 an32 cd32 ct32), sl32⟩)
    (c32 : PySem.W.codeIn K cd32 "Leaf.took" = true)
    (k32 : PySem.W.keepIn K (.ref f32) = true)
    (a33_Fraction : PySem.W.findIn K (.ref C_Fraction) "__init__" = some (some (.ref f33)))
    (i33 : PySem.W.isFn K (.ref f33) = true)
    (l33 : K.lookup f33 = some ⟨oc33, od33, .func (PySem.W.fnOf "__init__" "Fraction.__init__" (defArgs s_Fraction___init__) (defBody s_Fraction___init__) (defScope s_Fraction___init__) .none kV33 dc33 pm33 an33 cd33 ct33), sl33⟩)
    (c33 : PySem.W.codeIn K cd33 "Fraction.__init__" = true)
    (k33 : PySem.W.keepIn K (.ref f33) = true)
    (a34_Fraction : PySem.W.findIn K (.ref C_Fraction) "at_end" = some (some (.ref f34)))
    (i34 : PySem.W.isFn K (.ref f34) = true)
    (l34 : K.lookup f34 = some ⟨oc34, od34, .func (PySem.W.fnOf "at_end" "Fraction.at_end" (defArgs s_Fraction_at_end) (defBody s_Fraction_at_end) (defScope s_Fraction_at_end) .none kV34 dc34 pm34 an34 cd34 ct34), sl34⟩)
    (c34 : PySem.W.codeIn K cd34 "Fraction.at_end" = true)
    (k34 : PySem.W.keepIn K (.ref f34) = true)
    (a35_Fraction : PySem.W.findIn K (.ref C_Fraction) "following" = some (some (.ref f35)))
    (i35 : PySem.W.isFn K (.ref f35) = true)
    (l35 : K.lookup f35 = some ⟨oc35, od35, .func (PySem.W.fnOf "following" "Fraction.following" (defArgs s_Fraction_following) (defBody s_Fraction_following) (defScope s_Fraction_following) .none kV35 dc35 pm35 an35 cd35 ct35), sl35⟩)
    (c35 : PySem.W.codeIn K cd35 "Fraction.following" = true)
    (k35 : PySem.W.keepIn K (.ref f35) = true)
    (a36_Root : PySem.W.findIn K (.ref C_Root) "__init__" = some (some (.ref f36)))
    (i36 : PySem.W.isFn K (.ref f36) = true)
    (l36 : K.lookup f36 = some ⟨oc36, od36, .func (PySem.W.fnOf "__init__" "Root.__init__" (defArgs s_Root___init__) (defBody s_Root___init__) (defScope s_Root___init__) .none kV36 dc36 pm36 an36 cd36 ct36), sl36⟩)
    (c36 : PySem.W.codeIn K cd36 "Root.__init__" = true)
    (k36 : PySem.W.keepIn K (.ref f36) = true)
    (a37_Root : PySem.W.findIn K (.ref C_Root) "following" = some (some (.ref f37)))
    (i37 : PySem.W.isFn K (.ref f37) = true)
    (l37 : K.lookup f37 = some ⟨oc37, od37, .func (PySem.W.fnOf "following" "Root.following" (defArgs s_Root_following) (defBody s_Root_following) (defScope s_Root_following) .none kV37 dc37 pm37 an37 cd37 ct37), sl37⟩)
    (c37 : PySem.W.codeIn K cd37 "Root.following" = true)
    (k37 : PySem.W.keepIn K (.ref f37) = true)
    (a38_Ruled : PySem.W.findIn K (.ref C_Ruled) "__init__" = some (some (.ref f38)))
    (i38 : PySem.W.isFn K (.ref f38) = true)
    (l38 : K.lookup f38 = some ⟨oc38, od38, .func (PySem.W.fnOf "__init__" "Ruled.__init__" (defArgs s_Ruled___init__) (defBody s_Ruled___init__) (defScope s_Ruled___init__) .none kV38 dc38 pm38 an38 cd38 ct38), sl38⟩)
    (c38 : PySem.W.codeIn K cd38 "Ruled.__init__" = true)
    (k38 : PySem.W.keepIn K (.ref f38) = true)
    (a39_Ruled : PySem.W.findIn K (.ref C_Ruled) "at_end" = some (some (.ref f39)))
    (i39 : PySem.W.isFn K (.ref f39) = true)
    (l39 : K.lookup f39 = some ⟨oc39, od39, .func (PySem.W.fnOf "at_end" "Ruled.at_end" (defArgs s_Ruled_at_end) (defBody s_Ruled_at_end) (defScope s_Ruled_at_end) .none kV39 dc39 pm39 an39 cd39 ct39), sl39⟩)
    (c39 : PySem.W.codeIn K cd39 "Ruled.at_end" = true)
    (k39 : PySem.W.keepIn K (.ref f39) = true)
    (a40_Ruled : PySem.W.findIn K (.ref C_Ruled) "following" = some (some (.ref f40)))
    (i40 : PySem.W.isFn K (.ref f40) = true)
    (l40 : K.lookup f40 = some ⟨oc40, od40, .func (PySem.W.fnOf "following" "Ruled.following" (defArgs s_Ruled_following) (defBody s_Ruled_following) (defScope s_Ruled_following) .none kV40 dc40 pm40 an40 cd40 ct40), sl40⟩)
    (c40 : PySem.W.codeIn K cd40 "Ruled.following" = true)
    (k40 : PySem.W.keepIn K (.ref f40) = true)
    (a41_Four : PySem.W.findIn K (.ref C_Four) "__init__" = some (some (.ref f41)))
    (i41 : PySem.W.isFn K (.ref f41) = true)
    (l41 : K.lookup f41 = some ⟨oc41, od41, .func (PySem.W.fnOf "__init__" "Four.__init__" (defArgs s_Four___init__) (defBody s_Four___init__) (defScope s_Four___init__) .none kV41 dc41 pm41 an41 cd41 ct41), sl41⟩)
    (c41 : PySem.W.codeIn K cd41 "Four.__init__" = true)
    (k41 : PySem.W.keepIn K (.ref f41) = true)
    (a42_Four : PySem.W.findIn K (.ref C_Four) "took" = some (some (.ref f42)))
    (i42 : PySem.W.isFn K (.ref f42) = true)
    (l42 : K.lookup f42 = some ⟨oc42, od42, .func (PySem.W.fnOf "took" "Four.took" (defArgs s_Four_took) (defBody s_Four_took) (defScope s_Four_took) .none kV42 dc42 pm42 an42 cd42 ct42), sl42⟩)
    (c42 : PySem.W.codeIn K cd42 "Four.took" = true)
    (k42 : PySem.W.keepIn K (.ref f42) = true)
    (a43_Four : PySem.W.findIn K (.ref C_Four) "sure" = some (some (.ref f43)))
    (i43 : PySem.W.isFn K (.ref f43) = true)
    (l43 : K.lookup f43 = some ⟨oc43, od43, .func (PySem.W.fnOf "sure" "Four.sure" (defArgs s_Four_sure) (defBody s_Four_sure) (defScope s_Four_sure) .none kV43 dc43 pm43 an43 cd43 ct43), sl43⟩)
    (c43 : PySem.W.codeIn K cd43 "Four.sure" = true)
    (k43 : PySem.W.keepIn K (.ref f43) = true)
    (a44_Four : PySem.W.findIn K (.ref C_Four) "told" = some (some (.ref f44)))
    (i44 : PySem.W.isFn K (.ref f44) = true)
    (l44 : K.lookup f44 = some ⟨oc44, od44, .func (PySem.W.fnOf "told" "Four.told" (defArgs s_Four_told) (defBody s_Four_told) (defScope s_Four_told) .none kV44 dc44 pm44 an44 cd44 ct44), sl44⟩)
    (c44 : PySem.W.codeIn K cd44 "Four.told" = true)
    (k44 : PySem.W.keepIn K (.ref f44) = true)
    (a45_Eight : PySem.W.findIn K (.ref C_Eight) "__init__" = some (some (.ref f45)))
    (i45 : PySem.W.isFn K (.ref f45) = true)
    (l45 : K.lookup f45 = some ⟨oc45, od45, .func (PySem.W.fnOf "__init__" "Eight.__init__" (defArgs s_Eight___init__) (defBody s_Eight___init__) (defScope s_Eight___init__) .none kV45 dc45 pm45 an45 cd45 ct45), sl45⟩)
    (c45 : PySem.W.codeIn K cd45 "Eight.__init__" = true)
    (k45 : PySem.W.keepIn K (.ref f45) = true)
    (a46_Eight : PySem.W.findIn K (.ref C_Eight) "took" = some (some (.ref f46)))
    (i46 : PySem.W.isFn K (.ref f46) = true)
    (l46 : K.lookup f46 = some ⟨oc46, od46, .func (PySem.W.fnOf "took" "Eight.took" (defArgs s_Eight_took) (defBody s_Eight_took) (defScope s_Eight_took) .none kV46 dc46 pm46 an46 cd46 ct46), sl46⟩)
    (c46 : PySem.W.codeIn K cd46 "Eight.took" = true)
    (k46 : PySem.W.keepIn K (.ref f46) = true)
    (a47_Eight : PySem.W.findIn K (.ref C_Eight) "sure" = some (some (.ref f47)))
    (i47 : PySem.W.isFn K (.ref f47) = true)
    (l47 : K.lookup f47 = some ⟨oc47, od47, .func (PySem.W.fnOf "sure" "Eight.sure" (defArgs s_Eight_sure) (defBody s_Eight_sure) (defScope s_Eight_sure) .none kV47 dc47 pm47 an47 cd47 ct47), sl47⟩)
    (c47 : PySem.W.codeIn K cd47 "Eight.sure" = true)
    (k47 : PySem.W.keepIn K (.ref f47) = true)
    (a48_Eight : PySem.W.findIn K (.ref C_Eight) "told" = some (some (.ref f48)))
    (i48 : PySem.W.isFn K (.ref f48) = true)
    (l48 : K.lookup f48 = some ⟨oc48, od48, .func (PySem.W.fnOf "told" "Eight.told" (defArgs s_Eight_told) (defBody s_Eight_told) (defScope s_Eight_told) .none kV48 dc48 pm48 an48 cd48 ct48), sl48⟩)
    (c48 : PySem.W.codeIn K cd48 "Eight.told" = true)
    (k48 : PySem.W.keepIn K (.ref f48) = true)
    (a49_Eight : PySem.W.findIn K (.ref C_Eight) "take" = some (some (.ref f49)))
    (i49 : PySem.W.isFn K (.ref f49) = true)
    (l49 : K.lookup f49 = some ⟨oc49, od49, .func (PySem.W.fnOf "take" "Eight.take" (defArgs s_Eight_take) (defBody s_Eight_take) (defScope s_Eight_take) .none kV49 dc49 pm49 an49 cd49 ct49), sl49⟩)
    (c49 : PySem.W.codeIn K cd49 "Eight.take" = true)
    (k49 : PySem.W.keepIn K (.ref f49) = true)
    (a50_Eight : PySem.W.findIn K (.ref C_Eight) "left_of" = some (some (.ref f50)))
    (i50 : PySem.W.isFn K (.ref f50) = true)
    (l50 : K.lookup f50 = some ⟨oc50, od50, .func (PySem.W.fnOf "left_of" "Eight.left_of" (defArgs s_Eight_left_of) (defBody s_Eight_left_of) (defScope s_Eight_left_of) .none kV50 dc50 pm50 an50 cd50 ct50), sl50⟩)
    (c50 : PySem.W.codeIn K cd50 "Eight.left_of" = true)
    (k50 : PySem.W.keepIn K (.ref f50) = true)
    (n_Purse_left : PySem.W.findIn K (.ref C_Purse) "left" = some none)
    (n_Fixed_top : PySem.W.findIn K (.ref C_Fixed) "top" = some none)
    (n_Fixed_below : PySem.W.findIn K (.ref C_Fixed) "below" = some none)
    (n_Fixed_begun : PySem.W.findIn K (.ref C_Fixed) "begun" = some none)
    (n_Fraction_many : PySem.W.findIn K (.ref C_Fraction) "many" = some none)
    (n_Fraction_top : PySem.W.findIn K (.ref C_Fraction) "top" = some none)
    (n_Fraction_below : PySem.W.findIn K (.ref C_Fraction) "below" = some none)
    (n_Root_many : PySem.W.findIn K (.ref C_Root) "many" = some none)
    (n_Root_top : PySem.W.findIn K (.ref C_Root) "top" = some none)
    (n_Root_square : PySem.W.findIn K (.ref C_Root) "square" = some none)
    (n_Root_below : PySem.W.findIn K (.ref C_Root) "below" = some none)
    (n_Root_floor : PySem.W.findIn K (.ref C_Root) "floor" = some none)
    (n_Ruled_many : PySem.W.findIn K (.ref C_Ruled) "many" = some none)
    (n_Ruled_first : PySem.W.findIn K (.ref C_Ruled) "first" = some none)
    (n_Ruled_ring : PySem.W.findIn K (.ref C_Ruled) "ring" = some none)
    (n_Ruled_steps : PySem.W.findIn K (.ref C_Ruled) "steps" = some none)
    (n_Four_numbers : PySem.W.findIn K (.ref C_Four) "numbers" = some none)
    (n_Four_inner : PySem.W.findIn K (.ref C_Four) "inner" = some none)
    (n_Four_ready : PySem.W.findIn K (.ref C_Four) "ready" = some none)
    (n_Four_begun : PySem.W.findIn K (.ref C_Four) "begun" = some none)
    (n_Four_fixed : PySem.W.findIn K (.ref C_Four) "fixed" = some none)
    (n_Eight_numbers : PySem.W.findIn K (.ref C_Eight) "numbers" = some none)
    (n_Eight_inners : PySem.W.findIn K (.ref C_Eight) "inners" = some none)
    (n_Eight_many : PySem.W.findIn K (.ref C_Eight) "many" = some none)
    (n_Eight_begun : PySem.W.findIn K (.ref C_Eight) "begun" = some none)
    (n_Eight_rest : PySem.W.findIn K (.ref C_Eight) "rest" = some none)
    (xf_BadTree : PySem.W.excIn K C_BadTree [.type "ValueError", .type "Exception", .type "BaseException", .type "object"] "ValueError.__new__" = true)
    (kp_BadTree : PySem.W.keepIn K (.ref C_BadTree) = true)
    (sb_BadTree : PySem.W.subIn K (.ref C_BadTree) (.type "BaseException") = some true)
    (ty_BadTree : PySem.W.typeIn K (.ref C_BadTree) = some (.type "type"))
    (xf_NoValue : PySem.W.excIn K C_NoValue [.type "ValueError", .type "Exception", .type "BaseException", .type "object"] "ValueError.__new__" = true)
    (kp_NoValue : PySem.W.keepIn K (.ref C_NoValue) = true)
    (sb_NoValue : PySem.W.subIn K (.ref C_NoValue) (.type "BaseException") = some true)
    (ty_NoValue : PySem.W.typeIn K (.ref C_NoValue) = some (.type "type"))
    (sb_PartError : PySem.W.subIn K (.ref C_PartError) (.type "BaseException") = some true)
    (ty_PartError : PySem.W.typeIn K (.ref C_PartError) = some (.type "type"))
    (sb_TooLong : PySem.W.subIn K (.ref C_TooLong) (.type "BaseException") = some true)
    (ty_TooLong : PySem.W.typeIn K (.ref C_TooLong) = some (.type "type"))
    (hd_PartError : PySem.W.hasDictIn K C_PartError = true)
    (su_BadTree_PartError : PySem.W.subIn K (.ref C_BadTree) (.ref C_PartError) = some true)
    (su_NoValue_PartError : PySem.W.subIn K (.ref C_NoValue) (.ref C_PartError) = some true)
    (hd_BadTree : PySem.W.hasDictIn K C_BadTree = true)
    (su_BadTree_BadTree : PySem.W.subIn K (.ref C_BadTree) (.ref C_BadTree) = some true)
    (su_NoValue_BadTree : PySem.W.subIn K (.ref C_NoValue) (.ref C_BadTree) = some false)
    (hd_NoValue : PySem.W.hasDictIn K C_NoValue = true)
    (su_BadTree_NoValue : PySem.W.subIn K (.ref C_BadTree) (.ref C_NoValue) = some false)
    (su_NoValue_NoValue : PySem.W.subIn K (.ref C_NoValue) (.ref C_NoValue) = some true)
    (hd_TooLong : PySem.W.hasDictIn K C_TooLong = true)
    (su_BadTree_TooLong : PySem.W.subIn K (.ref C_BadTree) (.ref C_TooLong) = some false)
    (su_NoValue_TooLong : PySem.W.subIn K (.ref C_NoValue) (.ref C_TooLong) = some false)
    (z_ValueError : PySem.W.nsIn K mainGlobals "ValueError" = some none)
    (su_BadTree_ValueError : PySem.W.subIn K (.ref C_BadTree) (.type "ValueError") = some true)
    (su_NoValue_ValueError : PySem.W.subIn K (.ref C_NoValue) (.type "ValueError") = some true)
    (ocg : PySem.W.specialIn K (.builtin "object.__class__") "__get__" = some (some (.builtin "getset_descriptor.__get__")))
    (oct : PySem.W.takesIn K (.builtin "object.__class__") = some true)
    (xg_BadTree : PySem.W.findIn K (.ref C_BadTree) "__getattribute__" = some (some (.builtin "BaseException.__getattribute__")))
    (xk_BadTree : PySem.W.findIn K (.ref C_BadTree) "__getattr__" = some none)
    (xa_BadTree : PySem.W.findIn K (.ref C_BadTree) "__class__" = some (some (.builtin "object.__class__")))
    (xm_BadTree : PySem.W.mroIn K C_BadTree (.type "object") = some true)
    (xg_NoValue : PySem.W.findIn K (.ref C_NoValue) "__getattribute__" = some (some (.builtin "BaseException.__getattribute__")))
    (xk_NoValue : PySem.W.findIn K (.ref C_NoValue) "__getattr__" = some none)
    (xa_NoValue : PySem.W.findIn K (.ref C_NoValue) "__class__" = some (some (.builtin "object.__class__")))
    (xm_NoValue : PySem.W.mroIn K C_NoValue (.type "object") = some true)
    (g_DEEPEST : PySem.W.nsIn K mainGlobals "DEEPEST" = some (some (.int 5 t_DEEPEST)))
    (g_MOST_NUMBER : PySem.W.nsIn K mainGlobals "MOST_NUMBER" = some (some (.int 1000000000000 t_MOST_NUMBER)))
    (g_MOST_PARTS : PySem.W.nsIn K mainGlobals "MOST_PARTS" = some (some (.int 12 t_MOST_PARTS)))
    (g_MOST_POWER : PySem.W.nsIn K mainGlobals "MOST_POWER" = some (some (.int 4 t_MOST_POWER)))
    (g_TIMES : PySem.W.nsIn K mainGlobals "TIMES" = some (some (.ref A_TIMES)))
    (l_TIMES : K.lookup A_TIMES = some ⟨.type "tuple", oT_TIMES, .seq #[.int 1 t0_TIMES, .int 0 t1_TIMES, .int 0 t2_TIMES, .int 0 t3_TIMES, .int 0 t4_TIMES, .int 0 t5_TIMES, .int 0 t6_TIMES, .int 1 t7_TIMES] nT_TIMES, sT_TIMES⟩)
    (z_divmod : PySem.W.nsIn K mainGlobals "divmod" = some none)
    (z_abs : PySem.W.nsIn K mainGlobals "abs" = some none)
    (z_bool : PySem.W.nsIn K mainGlobals "bool" = some none)
    (z_int : PySem.W.nsIn K mainGlobals "int" = some none)
    (z_isinstance : PySem.W.nsIn K mainGlobals "isinstance" = some none)
    (z_len : PySem.W.nsIn K mainGlobals "len" = some none)
    (z_list : PySem.W.nsIn K mainGlobals "list" = some none)
    (z_max : PySem.W.nsIn K mainGlobals "max" = some none)
    (z_min : PySem.W.nsIn K mainGlobals "min" = some none)
    (z_range : PySem.W.nsIn K mainGlobals "range" = some none)
    (z_reversed : PySem.W.nsIn K mainGlobals "reversed" = some none)
    (z_str : PySem.W.nsIn K mainGlobals "str" = some none)
    (z_sum : PySem.W.nsIn K mainGlobals "sum" = some none)
    (z_tuple : PySem.W.nsIn K mainGlobals "tuple" = some none)
    (z_zip : PySem.W.nsIn K mainGlobals "zip" = some none)
    : ∃ fd : FuncData, (∀ (s : Shared) (v : Value), BindsTo s fd ⟨[v], []⟩ [("_law_script", v)]) ∧ ∀ base : Heap, K.In base → base.Ns mainGlobals mg → Seer l.prog base → FnOk l.prog w K mg base (L2.CX l.prog w) 83 fa fd ["_law_script"] (spA K (caOf K) F_law) := by
  have e := hfa.symm.trans (PySem.W.mg_of X G a23)
  cases e
  have T : Txt K mg { c_Purse := C_Purse, c_Fixed := C_Fixed, c_Fraction := C_Fraction, c_Root := C_Root, c_Ruled := C_Ruled, c_Four := C_Four, c_Eight := C_Eight, c_BadTree := C_BadTree, c_NoValue := C_NoValue, c_PartError := C_PartError, c_TooLong := C_TooLong, a_TIMES := A_TIMES } := ⟨dfn X G a0 l0 c0 k0 (fun _ _ _ _ _ _ us hl => match us, hl with | [_], _ => rfl),
    dfn X G a1 l1 c1 k1 (fun _ _ _ _ _ _ us hl => match us, hl with | [_, _, _], _ => rfl),
    dfn X G a2 l2 c2 k2 (fun _ _ _ _ _ _ us hl => match us, hl with | [_], _ => rfl),
    dfn X G a3 l3 c3 k3 (fun _ _ _ _ _ _ us hl => match us, hl with | [_], _ => rfl),
    dfn X G a4 l4 c4 k4 (fun _ _ _ _ _ _ us hl => match us, hl with | [_], _ => rfl),
    dfn X G a5 l5 c5 k5 (fun _ _ _ _ _ _ us hl => match us, hl with | [_, _, _], _ => rfl),
    dfn X G a6 l6 c6 k6 (fun _ _ _ _ _ _ us hl => match us, hl with | [_], _ => rfl),
    dfn X G a7 l7 c7 k7 (fun _ _ _ _ _ _ us hl => match us, hl with | [_, _], _ => rfl),
    dfn X G a8 l8 c8 k8 (fun _ _ _ _ _ _ us hl => match us, hl with | [_], _ => rfl),
    dfn X G a9 l9 c9 k9 (fun _ _ _ _ _ _ us hl => match us, hl with | [_], _ => rfl),
    dfn X G a10 l10 c10 k10 (fun _ _ _ _ _ _ us hl => match us, hl with | [_, _, _], _ => rfl),
    dfn X G a11 l11 c11 k11 (fun _ _ _ _ _ _ us hl => match us, hl with | [_, _, _], _ => rfl),
    dfn X G a12 l12 c12 k12 (fun _ _ _ _ _ _ us hl => match us, hl with | [_, _, _], _ => rfl),
    dfn X G a13 l13 c13 k13 (fun _ _ _ _ _ _ us hl => match us, hl with | [_, _, _], _ => rfl),
    dfn X G a14 l14 c14 k14 (fun _ _ _ _ _ _ us hl => match us, hl with | [_, _, _], _ => rfl),
    dfn X G a15 l15 c15 k15 (fun _ _ _ _ _ _ us hl => match us, hl with | [_, _], _ => rfl),
    dfn X G a16 l16 c16 k16 (fun _ _ _ _ _ _ us hl => match us, hl with | [_, _, _], _ => rfl),
    dfn X G a17 l17 c17 k17 (fun _ _ _ _ _ _ us hl => match us, hl with | [_], _ => rfl),
    dfn X G a18 l18 c18 k18 (fun _ _ _ _ _ _ us hl => match us, hl with | [_, _], _ => rfl),
    dfn X G a19 l19 c19 k19 (fun _ _ _ _ _ _ us hl => match us, hl with | [_, _], _ => rfl),
    dfn X G a20 l20 c20 k20 (fun _ _ _ _ _ _ us hl => match us, hl with | [_], _ => rfl),
    dfn X G a21 l21 c21 k21 (fun _ _ _ _ _ _ us hl => match us, hl with | [_, _, _], _ => rfl),
    dfn X G a22 l22 c22 k22 (fun _ _ _ _ _ _ us hl => match us, hl with | [_, _], _ => rfl),
    dfn X G a23 l23 c23 k23 (fun _ _ _ _ _ _ us hl => match us, hl with | [_], _ => rfl),
    ⟨⟨f24, _, fun_mk (st := s_Purse___init__) l24 c24 k24, (fun_mk (st := s_Purse___init__) l24 c24 k24).binds (ps := ["self", "left"]) (fun _ _ _ _ _ _ us hl => match us, hl with | [_, _], _ => rfl), ⟨mk_Purse, a24_Purse, i24, kc_Purse⟩, ⟨pg_Purse, hd_Purse, po_Purse, sa_Purse⟩, PySem.W.mg_of X G g_Purse⟩⟩,
    ⟨⟨f25, _, fun_mk (st := s_Reader_part) l25 c25 k25, (fun_mk (st := s_Reader_part) l25 c25 k25).binds (ps := ["self", "most"]) (fun _ _ _ _ _ _ us hl => match us, hl with | [_, _], _ => rfl), (fun D hD => by simp only [List.mem_cons, List.not_mem_nil, or_false] at hD; rcases hD with rfl | rfl | rfl | rfl | rfl | rfl <;> first | exact ⟨a25_Fixed, i25, k25⟩ | exact ⟨a25_Fraction, i25, k25⟩ | exact ⟨a25_Root, i25, k25⟩ | exact ⟨a25_Ruled, i25, k25⟩ | exact ⟨a25_Four, i25, k25⟩ | exact ⟨a25_Eight, i25, k25⟩)⟩⟩,
    ⟨⟨f26, _, fun_mk (st := s_Reader_took) l26 c26 k26, (fun_mk (st := s_Reader_took) l26 c26 k26).binds (ps := ["self"]) (fun _ _ _ _ _ _ us hl => match us, hl with | [_], _ => rfl), (fun D hD => by simp only [List.mem_cons, List.not_mem_nil, or_false] at hD; rcases hD with rfl <;> first | exact ⟨a26_Fixed, i26, k26⟩)⟩⟩,
    ⟨⟨f27, _, fun_mk (st := s_Fixed___init__) l27 c27 k27, (fun_mk (st := s_Fixed___init__) l27 c27 k27).binds (ps := ["self", "top", "below", "begun"]) (fun _ _ _ _ _ _ us hl => match us, hl with | [_, _, _, _], _ => rfl), ⟨mk_Fixed, a27_Fixed, i27, kc_Fixed⟩, ⟨pg_Fixed, hd_Fixed, po_Fixed, sa_Fixed⟩, PySem.W.mg_of X G g_Fixed⟩⟩,
    ⟨⟨f28, _, fun_mk (st := s_Fixed_told) l28 c28 k28, (fun_mk (st := s_Fixed_told) l28 c28 k28).binds (ps := ["self", "purse"]) (fun _ _ _ _ _ _ us hl => match us, hl with | [_, _], _ => rfl), (fun D hD => by simp only [List.mem_cons, List.not_mem_nil, or_false] at hD; rcases hD with rfl <;> first | exact ⟨a28_Fixed, i28, k28⟩)⟩⟩,
    ⟨⟨C_Leaf, .type "type", f29, _, fun_mk (st := s_Leaf___init__) l29 c29 k29, (fun_mk (st := s_Leaf___init__) l29 c29 k29).binds (ps := ["self"]) (fun _ _ _ _ _ _ us hl => match us, hl with | [_], _ => rfl), ⟨⟨r29, ga29⟩, fc29, k29⟩, PySem.W.mg_of X G g_Leaf⟩⟩,
    ⟨⟨f30, _, fun_mk (st := s_Leaf_told) l30 c30 k30, (fun_mk (st := s_Leaf_told) l30 c30 k30).binds (ps := ["self", "purse"]) (fun _ _ _ _ _ _ us hl => match us, hl with | [_, _], _ => rfl), (fun D hD => by simp only [List.mem_cons, List.not_mem_nil, or_false] at hD; rcases hD with rfl | rfl | rfl <;> first | exact ⟨a30_Fraction, i30, k30⟩ | exact ⟨a30_Root, i30, k30⟩ | exact ⟨a30_Ruled, i30, k30⟩)⟩⟩,
    ⟨⟨f31, _, fun_mk (st := s_Leaf_at_end) l31 c31 k31, (fun_mk (st := s_Leaf_at_end) l31 c31 k31).binds (ps := ["self"]) (fun _ _ _ _ _ _ us hl => match us, hl with | [_], _ => rfl), (fun D hD => by simp only [List.mem_cons, List.not_mem_nil, or_false] at hD; rcases hD with rfl <;> first | exact ⟨a31_Root, i31, k31⟩)⟩⟩,
    ⟨⟨f32, _, fun_mk (st := s_Leaf_took) l32 c32 k32, (fun_mk (st := s_Leaf_took) l32 c32 k32).binds (ps := ["self"]) (fun _ _ _ _ _ _ us hl => match us, hl with | [_], _ => rfl), (fun D hD => by simp only [List.mem_cons, List.not_mem_nil, or_false] at hD; rcases hD with rfl | rfl | rfl <;> first | exact ⟨a32_Fraction, i32, k32⟩ | exact ⟨a32_Root, i32, k32⟩ | exact ⟨a32_Ruled, i32, k32⟩)⟩⟩,
    ⟨⟨f33, _, fun_mk (st := s_Fraction___init__) l33 c33 k33, (fun_mk (st := s_Fraction___init__) l33 c33 k33).binds (ps := ["self", "top", "below"]) (fun _ _ _ _ _ _ us hl => match us, hl with | [_, _, _], _ => rfl), ⟨mk_Fraction, a33_Fraction, i33, kc_Fraction⟩, ⟨pg_Fraction, hd_Fraction, po_Fraction, sa_Fraction⟩, PySem.W.mg_of X G g_Fraction⟩⟩,
    ⟨⟨f34, _, fun_mk (st := s_Fraction_at_end) l34 c34 k34, (fun_mk (st := s_Fraction_at_end) l34 c34 k34).binds (ps := ["self"]) (fun _ _ _ _ _ _ us hl => match us, hl with | [_], _ => rfl), (fun D hD => by simp only [List.mem_cons, List.not_mem_nil, or_false] at hD; rcases hD with rfl <;> first | exact ⟨a34_Fraction, i34, k34⟩)⟩⟩,
    ⟨⟨f35, _, fun_mk (st := s_Fraction_following) l35 c35 k35, (fun_mk (st := s_Fraction_following) l35 c35 k35).binds (ps := ["self"]) (fun _ _ _ _ _ _ us hl => match us, hl with | [_], _ => rfl), (fun D hD => by simp only [List.mem_cons, List.not_mem_nil, or_false] at hD; rcases hD with rfl <;> first | exact ⟨a35_Fraction, i35, k35⟩)⟩⟩,
    ⟨⟨f36, _, fun_mk (st := s_Root___init__) l36 c36 k36, (fun_mk (st := s_Root___init__) l36 c36 k36).binds (ps := ["self", "top", "square", "below"]) (fun _ _ _ _ _ _ us hl => match us, hl with | [_, _, _, _], _ => rfl), ⟨mk_Root, a36_Root, i36, kc_Root⟩, ⟨pg_Root, hd_Root, po_Root, sa_Root⟩, PySem.W.mg_of X G g_Root⟩⟩,
    ⟨⟨f37, _, fun_mk (st := s_Root_following) l37 c37 k37, (fun_mk (st := s_Root_following) l37 c37 k37).binds (ps := ["self"]) (fun _ _ _ _ _ _ us hl => match us, hl with | [_], _ => rfl), (fun D hD => by simp only [List.mem_cons, List.not_mem_nil, or_false] at hD; rcases hD with rfl <;> first | exact ⟨a37_Root, i37, k37⟩)⟩⟩,
    ⟨⟨f38, _, fun_mk (st := s_Ruled___init__) l38 c38 k38, (fun_mk (st := s_Ruled___init__) l38 c38 k38).binds (ps := ["self", "parts", "ring", "steps"]) (fun _ _ _ _ _ _ us hl => match us, hl with | [_, _, _, _], _ => rfl), ⟨mk_Ruled, a38_Ruled, i38, kc_Ruled⟩, ⟨pg_Ruled, hd_Ruled, po_Ruled, sa_Ruled⟩, PySem.W.mg_of X G g_Ruled⟩⟩,
    ⟨⟨f39, _, fun_mk (st := s_Ruled_at_end) l39 c39 k39, (fun_mk (st := s_Ruled_at_end) l39 c39 k39).binds (ps := ["self"]) (fun _ _ _ _ _ _ us hl => match us, hl with | [_], _ => rfl), (fun D hD => by simp only [List.mem_cons, List.not_mem_nil, or_false] at hD; rcases hD with rfl <;> first | exact ⟨a39_Ruled, i39, k39⟩)⟩⟩,
    ⟨⟨f40, _, fun_mk (st := s_Ruled_following) l40 c40 k40, (fun_mk (st := s_Ruled_following) l40 c40 k40).binds (ps := ["self"]) (fun _ _ _ _ _ _ us hl => match us, hl with | [_], _ => rfl), (fun D hD => by simp only [List.mem_cons, List.not_mem_nil, or_false] at hD; rcases hD with rfl <;> first | exact ⟨a40_Ruled, i40, k40⟩)⟩⟩,
    ⟨⟨f41, _, fun_mk (st := s_Four___init__) l41 c41 k41, (fun_mk (st := s_Four___init__) l41 c41 k41).binds (ps := ["self", "numbers", "inner", "ready", "begun"]) (fun _ _ _ _ _ _ us hl => match us, hl with | [_, _, _, _, _], _ => rfl), ⟨mk_Four, a41_Four, i41, kc_Four⟩, ⟨pg_Four, hd_Four, po_Four, sa_Four⟩, PySem.W.mg_of X G g_Four⟩⟩,
    ⟨⟨f42, _, fun_mk (st := s_Four_took) l42 c42 k42, (fun_mk (st := s_Four_took) l42 c42 k42).binds (ps := ["self"]) (fun _ _ _ _ _ _ us hl => match us, hl with | [_], _ => rfl), (fun D hD => by simp only [List.mem_cons, List.not_mem_nil, or_false] at hD; rcases hD with rfl <;> first | exact ⟨a42_Four, i42, k42⟩)⟩⟩,
    ⟨⟨f43, _, fun_mk (st := s_Four_sure) l43 c43 k43, (fun_mk (st := s_Four_sure) l43 c43 k43).binds (ps := ["self"]) (fun _ _ _ _ _ _ us hl => match us, hl with | [_], _ => rfl), (fun D hD => by simp only [List.mem_cons, List.not_mem_nil, or_false] at hD; rcases hD with rfl <;> first | exact ⟨a43_Four, i43, k43⟩)⟩⟩,
    ⟨⟨f44, _, fun_mk (st := s_Four_told) l44 c44 k44, (fun_mk (st := s_Four_told) l44 c44 k44).binds (ps := ["self", "purse"]) (fun _ _ _ _ _ _ us hl => match us, hl with | [_, _], _ => rfl), (fun D hD => by simp only [List.mem_cons, List.not_mem_nil, or_false] at hD; rcases hD with rfl <;> first | exact ⟨a44_Four, i44, k44⟩)⟩⟩,
    ⟨⟨f45, _, fun_mk (st := s_Eight___init__) l45 c45 k45, (fun_mk (st := s_Eight___init__) l45 c45 k45).binds (ps := ["self", "numbers", "one", "other"]) (fun _ _ _ _ _ _ us hl => match us, hl with | [_, _, _, _], _ => rfl), ⟨mk_Eight, a45_Eight, i45, kc_Eight⟩, ⟨pg_Eight, hd_Eight, po_Eight, sa_Eight⟩, PySem.W.mg_of X G g_Eight⟩⟩,
    ⟨⟨f46, _, fun_mk (st := s_Eight_took) l46 c46 k46, (fun_mk (st := s_Eight_took) l46 c46 k46).binds (ps := ["self"]) (fun _ _ _ _ _ _ us hl => match us, hl with | [_], _ => rfl), (fun D hD => by simp only [List.mem_cons, List.not_mem_nil, or_false] at hD; rcases hD with rfl <;> first | exact ⟨a46_Eight, i46, k46⟩)⟩⟩,
    ⟨⟨f47, _, fun_mk (st := s_Eight_sure) l47 c47 k47, (fun_mk (st := s_Eight_sure) l47 c47 k47).binds (ps := ["self"]) (fun _ _ _ _ _ _ us hl => match us, hl with | [_], _ => rfl), (fun D hD => by simp only [List.mem_cons, List.not_mem_nil, or_false] at hD; rcases hD with rfl <;> first | exact ⟨a47_Eight, i47, k47⟩)⟩⟩,
    ⟨⟨f48, _, fun_mk (st := s_Eight_told) l48 c48 k48, (fun_mk (st := s_Eight_told) l48 c48 k48).binds (ps := ["self", "purse"]) (fun _ _ _ _ _ _ us hl => match us, hl with | [_, _], _ => rfl), (fun D hD => by simp only [List.mem_cons, List.not_mem_nil, or_false] at hD; rcases hD with rfl <;> first | exact ⟨a48_Eight, i48, k48⟩)⟩⟩,
    ⟨⟨f49, _, fun_mk (st := s_Eight_take) l49 c49 k49, (fun_mk (st := s_Eight_take) l49 c49 k49).binds (ps := ["self", "which", "part"]) (fun _ _ _ _ _ _ us hl => match us, hl with | [_, _, _], _ => rfl), (fun D hD => by simp only [List.mem_cons, List.not_mem_nil, or_false] at hD; rcases hD with rfl <;> first | exact ⟨a49_Eight, i49, k49⟩)⟩⟩,
    ⟨⟨f50, _, fun_mk (st := s_Eight_left_of) l50 c50 k50, (fun_mk (st := s_Eight_left_of) l50 c50 k50).binds (ps := ["self", "which"]) (fun _ _ _ _ _ _ us hl => match us, hl with | [_, _], _ => rfl), (fun D hD => by simp only [List.mem_cons, List.not_mem_nil, or_false] at hD; rcases hD with rfl <;> first | exact ⟨a50_Eight, i50, k50⟩)⟩⟩,
    n_Purse_left,
    n_Fixed_top,
    n_Fixed_below,
    n_Fixed_begun,
    n_Fraction_many,
    n_Fraction_top,
    n_Fraction_below,
    n_Root_many,
    n_Root_top,
    n_Root_square,
    n_Root_below,
    n_Root_floor,
    n_Ruled_many,
    n_Ruled_first,
    n_Ruled_ring,
    n_Ruled_steps,
    n_Four_numbers,
    n_Four_inner,
    n_Four_ready,
    n_Four_begun,
    n_Four_fixed,
    n_Eight_numbers,
    n_Eight_inners,
    n_Eight_many,
    n_Eight_begun,
    n_Eight_rest,
    ⟨xf_BadTree, PySem.W.mg_of X G g_BadTree, kp_BadTree, sb_BadTree, ty_BadTree⟩,
    ⟨xf_NoValue, PySem.W.mg_of X G g_NoValue, kp_NoValue, sb_NoValue, ty_NoValue⟩,
    PySem.W.mg_of X G g_PartError,
    PySem.W.exm_ref sb_PartError hd_PartError ty_PartError su_BadTree_PartError,
    PySem.W.exm_ref sb_PartError hd_PartError ty_PartError su_NoValue_PartError,
    PySem.W.mg_of X G g_BadTree,
    PySem.W.kit_ref su_BadTree_BadTree su_BadTree_BadTree hd_BadTree ty_BadTree,
    PySem.W.kit_ref su_NoValue_BadTree su_NoValue_NoValue hd_BadTree ty_BadTree,
    PySem.W.mg_of X G g_NoValue,
    PySem.W.kit_ref su_BadTree_NoValue su_BadTree_BadTree hd_NoValue ty_NoValue,
    PySem.W.kit_ref su_NoValue_NoValue su_NoValue_NoValue hd_NoValue ty_NoValue,
    PySem.W.mg_of X G g_TooLong,
    PySem.W.kit_ref su_BadTree_TooLong su_BadTree_BadTree hd_TooLong ty_TooLong,
    PySem.W.kit_ref su_NoValue_TooLong su_NoValue_NoValue hd_TooLong ty_TooLong,
    PySem.W.mg_none_of X G z_ValueError,
    PySem.W.kit_typ su_BadTree_ValueError meta_ValueError,
    PySem.W.kit_typ su_NoValue_ValueError meta_ValueError,
    ⟨xg_BadTree, xk_BadTree, sb_BadTree, hd_BadTree, xa_BadTree, ocg, oct, xm_BadTree⟩,
    ⟨xg_NoValue, xk_NoValue, sb_NoValue, hd_NoValue, xa_NoValue, ocg, oct, xm_NoValue⟩,
    ⟨_, PySem.W.mg_of X G g_DEEPEST⟩,
    ⟨_, PySem.W.mg_of X G g_MOST_NUMBER⟩,
    ⟨_, PySem.W.mg_of X G g_MOST_PARTS⟩,
    ⟨_, PySem.W.mg_of X G g_MOST_POWER⟩,
    ⟨PySem.W.mg_of X G g_TIMES, fun H => .inr ⟨_, _, _, l_TIMES, rfl, rfl, (by rw [sizeLine_eq]; show 8 ≤ _; decide), .cons ⟨_, rfl⟩ (.cons ⟨_, rfl⟩ (.cons ⟨_, rfl⟩ (.cons ⟨_, rfl⟩ (.cons ⟨_, rfl⟩ (.cons ⟨_, rfl⟩ (.cons ⟨_, rfl⟩ (.cons ⟨_, rfl⟩ (.nil))))))))⟩⟩,
    PySem.W.mg_none_of X G z_divmod,
    PySem.W.mg_none_of X G z_abs,
    PySem.W.mg_none_of X G z_bool,
    PySem.W.mg_none_of X G z_int,
    PySem.W.mg_none_of X G z_isinstance,
    PySem.W.mg_none_of X G z_len,
    PySem.W.mg_none_of X G z_list,
    PySem.W.mg_none_of X G z_max,
    PySem.W.mg_none_of X G z_min,
    PySem.W.mg_none_of X G z_range,
    PySem.W.mg_none_of X G z_reversed,
    PySem.W.mg_none_of X G z_str,
    PySem.W.mg_none_of X G z_sum,
    PySem.W.mg_none_of X G z_tuple,
    PySem.W.mg_none_of X G z_zip⟩
  exact ⟨PySem.W.fnOf "law" "law" (defArgs s_law) (defBody s_law) (defScope s_law) .none kV23 dc23 pm23 an23 cd23 ct23, fun s v => .of_eq rfl, fun base _ _ hS => have := hS; law_ok T (fun_mk (st := s_law) l23 c23 k23)⟩
end PL
open PySem PySem.W PyProof.Rows
set_option maxRecDepth 100000 in
set_option maxHeartbeats 0 in
theorem PySem.Challenge.cw_chainparts_k07_trees_that_are_none_holds : PySem.Challenge.rw_chainparts_k07_trees_that_are_none.Holds := by
  w_on; o_law; k_head; (case hw => w_witness2)
  k_fill
  refine PL.pl_walkS (l := PySem.Challenge.rw_chainparts_k07_trees_that_are_none) (k := 83) PL.caOf rfl rfl ⟨rfl, by decide, by decide⟩ ?hq ?ht (fun w h Y => PySem.W.kIn_of Y) ?F
  case hq => first | rfl | decide +kernel
  case ht => rfl
  case F =>
    intro w mg fa h KX G hmg
    refine' PL.all_mk KX G hmg ?g_Purse ?g_Fixed ?g_Leaf ?g_Fraction ?g_Root ?g_Ruled ?g_Four ?g_Eight ?g_BadTree ?g_NoValue ?g_PartError ?g_TooLong ?a0 ?l0 ?c0 ?k0 ?a1 ?l1 ?c1 ?k1 ?a2 ?l2 ?c2 ?k2 ?a3 ?l3 ?c3 ?k3 ?a4 ?l4 ?c4 ?k4 ?a5 ?l5 ?c5 ?k5 ?a6 ?l6 ?c6 ?k6 ?a7 ?l7 ?c7 ?k7 ?a8 ?l8 ?c8 ?k8 ?a9 ?l9 ?c9 ?k9 ?a10 ?l10 ?c10 ?k10 ?a11 ?l11 ?c11 ?k11 ?a12 ?l12 ?c12 ?k12 ?a13 ?l13 ?c13 ?k13 ?a14 ?l14 ?c14 ?k14 ?a15 ?l15 ?c15 ?k15 ?a16 ?l16 ?c16 ?k16 ?a17 ?l17 ?c17 ?k17 ?a18 ?l18 ?c18 ?k18 ?a19 ?l19 ?c19 ?k19 ?a20 ?l20 ?c20 ?k20 ?a21 ?l21 ?c21 ?k21 ?a22 ?l22 ?c22 ?k22 ?a23 ?l23 ?c23 ?k23 ?pg_Purse ?hd_Purse ?po_Purse ?sa_Purse ?mk_Purse ?kc_Purse ?pg_Fixed ?hd_Fixed ?po_Fixed ?sa_Fixed ?mk_Fixed ?kc_Fixed ?pg_Fraction ?hd_Fraction ?po_Fraction ?sa_Fraction ?mk_Fraction ?kc_Fraction ?pg_Root ?hd_Root ?po_Root ?sa_Root ?mk_Root ?kc_Root ?pg_Ruled ?hd_Ruled ?po_Ruled ?sa_Ruled ?mk_Ruled ?kc_Ruled ?pg_Four ?hd_Four ?po_Four ?sa_Four ?mk_Four ?kc_Four ?pg_Eight ?hd_Eight ?po_Eight ?sa_Eight ?mk_Eight ?kc_Eight ?a24_Purse ?i24 ?l24 ?c24 ?k24 ?a25_Fixed ?a25_Fraction ?a25_Root ?a25_Ruled ?a25_Four ?a25_Eight ?i25 ?l25 ?c25 ?k25 ?a26_Fixed ?i26 ?l26 ?c26 ?k26 ?a27_Fixed ?i27 ?l27 ?c27 ?k27 ?a28_Fixed ?i28 ?l28 ?c28 ?k28 ?r29 ?ga29 ?fc29 ?i29 ?l29 ?c29 ?k29 ?a30_Fraction ?a30_Root ?a30_Ruled ?i30 ?l30 ?c30 ?k30 ?a31_Root ?i31 ?l31 ?c31 ?k31 ?a32_Fraction ?a32_Root ?a32_Ruled ?i32 ?l32 ?c32 ?k32 ?a33_Fraction ?i33 ?l33 ?c33 ?k33 ?a34_Fraction ?i34 ?l34 ?c34 ?k34 ?a35_Fraction ?i35 ?l35 ?c35 ?k35 ?a36_Root ?i36 ?l36 ?c36 ?k36 ?a37_Root ?i37 ?l37 ?c37 ?k37 ?a38_Ruled ?i38 ?l38 ?c38 ?k38 ?a39_Ruled ?i39 ?l39 ?c39 ?k39 ?a40_Ruled ?i40 ?l40 ?c40 ?k40 ?a41_Four ?i41 ?l41 ?c41 ?k41 ?a42_Four ?i42 ?l42 ?c42 ?k42 ?a43_Four ?i43 ?l43 ?c43 ?k43 ?a44_Four ?i44 ?l44 ?c44 ?k44 ?a45_Eight ?i45 ?l45 ?c45 ?k45 ?a46_Eight ?i46 ?l46 ?c46 ?k46 ?a47_Eight ?i47 ?l47 ?c47 ?k47 ?a48_Eight ?i48 ?l48 ?c48 ?k48 ?a49_Eight ?i49 ?l49 ?c49 ?k49 ?a50_Eight ?i50 ?l50 ?c50 ?k50 ?n_Purse_left ?n_Fixed_top ?n_Fixed_below ?n_Fixed_begun ?n_Fraction_many ?n_Fraction_top ?n_Fraction_below ?n_Root_many ?n_Root_top ?n_Root_square ?n_Root_below ?n_Root_floor ?n_Ruled_many ?n_Ruled_first ?n_Ruled_ring ?n_Ruled_steps ?n_Four_numbers ?n_Four_inner ?n_Four_ready ?n_Four_begun ?n_Four_fixed ?n_Eight_numbers ?n_Eight_inners ?n_Eight_many ?n_Eight_begun ?n_Eight_rest ?xf_BadTree ?kp_BadTree ?sb_BadTree ?ty_BadTree ?xf_NoValue ?kp_NoValue ?sb_NoValue ?ty_NoValue ?sb_PartError ?ty_PartError ?sb_TooLong ?ty_TooLong ?hd_PartError ?su_BadTree_PartError ?su_NoValue_PartError ?hd_BadTree ?su_BadTree_BadTree ?su_NoValue_BadTree ?hd_NoValue ?su_BadTree_NoValue ?su_NoValue_NoValue ?hd_TooLong ?su_BadTree_TooLong ?su_NoValue_TooLong ?z_ValueError ?su_BadTree_ValueError ?su_NoValue_ValueError ?ocg ?oct ?xg_BadTree ?xk_BadTree ?xa_BadTree ?xm_BadTree ?xg_NoValue ?xk_NoValue ?xa_NoValue ?xm_NoValue ?g_DEEPEST ?g_MOST_NUMBER ?g_MOST_PARTS ?g_MOST_POWER ?g_TIMES ?l_TIMES ?z_divmod ?z_abs ?z_bool ?z_int ?z_isinstance ?z_len ?z_list ?z_max ?z_min ?z_range ?z_reversed ?z_str ?z_sum ?z_tuple ?z_zip
    (case g_Purse => k_is)
    (case g_Fixed => k_is)
    (case g_Leaf => k_is)
    (case g_Fraction => k_is)
    (case g_Root => k_is)
    (case g_Ruled => k_is)
    (case g_Four => k_is)
    (case g_Eight => k_is)
    (case g_BadTree => k_is)
    (case g_NoValue => k_is)
    (case g_PartError => k_is)
    (case g_TooLong => k_is)
    (case a0 => k_is)
    (case l0 => k_is)
    (case c0 => k_is)
    (case k0 => k_is)
    (case a1 => k_is)
    (case l1 => k_is)
    (case c1 => k_is)
    (case k1 => k_is)
    (case a2 => k_is)
    (case l2 => k_is)
    (case c2 => k_is)
    (case k2 => k_is)
    (case a3 => k_is)
    (case l3 => k_is)
    (case c3 => k_is)
    (case k3 => k_is)
    (case a4 => k_is)
    (case l4 => k_is)
    (case c4 => k_is)
    (case k4 => k_is)
    (case a5 => k_is)
    (case l5 => k_is)
    (case c5 => k_is)
    (case k5 => k_is)
    (case a6 => k_is)
    (case l6 => k_is)
    (case c6 => k_is)
    (case k6 => k_is)
    (case a7 => k_is)
    (case l7 => k_is)
    (case c7 => k_is)
    (case k7 => k_is)
    (case a8 => k_is)
    (case l8 => k_is)
    (case c8 => k_is)
    (case k8 => k_is)
    (case a9 => k_is)
    (case l9 => k_is)
    (case c9 => k_is)
    (case k9 => k_is)
    (case a10 => k_is)
    (case l10 => k_is)
    (case c10 => k_is)
    (case k10 => k_is)
    (case a11 => k_is)
    (case l11 => k_is)
    (case c11 => k_is)
    (case k11 => k_is)
    (case a12 => k_is)
    (case l12 => k_is)
    (case c12 => k_is)
    (case k12 => k_is)
    (case a13 => k_is)
    (case l13 => k_is)
    (case c13 => k_is)
    (case k13 => k_is)
    (case a14 => k_is)
    (case l14 => k_is)
    (case c14 => k_is)
    (case k14 => k_is)
    (case a15 => k_is)
    (case l15 => k_is)
    (case c15 => k_is)
    (case k15 => k_is)
    (case a16 => k_is)
    (case l16 => k_is)
    (case c16 => k_is)
    (case k16 => k_is)
    (case a17 => k_is)
    (case l17 => k_is)
    (case c17 => k_is)
    (case k17 => k_is)
    (case a18 => k_is)
    (case l18 => k_is)
    (case c18 => k_is)
    (case k18 => k_is)
    (case a19 => k_is)
    (case l19 => k_is)
    (case c19 => k_is)
    (case k19 => k_is)
    (case a20 => k_is)
    (case l20 => k_is)
    (case c20 => k_is)
    (case k20 => k_is)
    (case a21 => k_is)
    (case l21 => k_is)
    (case c21 => k_is)
    (case k21 => k_is)
    (case a22 => k_is)
    (case l22 => k_is)
    (case c22 => k_is)
    (case k22 => k_is)
    (case a23 => k_is)
    (case l23 => k_is)
    (case c23 => k_is)
    (case k23 => k_is)
    (case pg_Purse => k_is)
    (case hd_Purse => k_is)
    (case po_Purse => k_is)
    (case sa_Purse => k_is)
    (case mk_Purse => k_is)
    (case kc_Purse => k_is)
    (case pg_Fixed => k_is)
    (case hd_Fixed => k_is)
    (case po_Fixed => k_is)
    (case sa_Fixed => k_is)
    (case mk_Fixed => k_is)
    (case kc_Fixed => k_is)
    (case pg_Fraction => k_is)
    (case hd_Fraction => k_is)
    (case po_Fraction => k_is)
    (case sa_Fraction => k_is)
    (case mk_Fraction => k_is)
    (case kc_Fraction => k_is)
    (case pg_Root => k_is)
    (case hd_Root => k_is)
    (case po_Root => k_is)
    (case sa_Root => k_is)
    (case mk_Root => k_is)
    (case kc_Root => k_is)
    (case pg_Ruled => k_is)
    (case hd_Ruled => k_is)
    (case po_Ruled => k_is)
    (case sa_Ruled => k_is)
    (case mk_Ruled => k_is)
    (case kc_Ruled => k_is)
    (case pg_Four => k_is)
    (case hd_Four => k_is)
    (case po_Four => k_is)
    (case sa_Four => k_is)
    (case mk_Four => k_is)
    (case kc_Four => k_is)
    (case pg_Eight => k_is)
    (case hd_Eight => k_is)
    (case po_Eight => k_is)
    (case sa_Eight => k_is)
    (case mk_Eight => k_is)
    (case kc_Eight => k_is)
    (case a24_Purse => k_is)
    (case i24 => k_is)
    (case l24 => k_is)
    (case c24 => k_is)
    (case k24 => k_is)
    (case a25_Fixed => k_is)
    (case a25_Fraction => k_is)
    (case a25_Root => k_is)
    (case a25_Ruled => k_is)
    (case a25_Four => k_is)
    (case a25_Eight => k_is)
    (case i25 => k_is)
    (case l25 => k_is)
    (case c25 => k_is)
    (case k25 => k_is)
    (case a26_Fixed => k_is)
    (case i26 => k_is)
    (case l26 => k_is)
    (case c26 => k_is)
    (case k26 => k_is)
    (case a27_Fixed => k_is)
    (case i27 => k_is)
    (case l27 => k_is)
    (case c27 => k_is)
    (case k27 => k_is)
    (case a28_Fixed => k_is)
    (case i28 => k_is)
    (case l28 => k_is)
    (case c28 => k_is)
    (case k28 => k_is)
    (case r29 => k_is)
    (case ga29 => k_is)
    (case fc29 => k_is)
    (case i29 => k_is)
    (case l29 => k_is)
    (case c29 => k_is)
    (case k29 => k_is)
    (case a30_Fraction => k_is)
    (case a30_Root => k_is)
    (case a30_Ruled => k_is)
    (case i30 => k_is)
    (case l30 => k_is)
    (case c30 => k_is)
    (case k30 => k_is)
    (case a31_Root => k_is)
    (case i31 => k_is)
    (case l31 => k_is)
    (case c31 => k_is)
    (case k31 => k_is)
    (case a32_Fraction => k_is)
    (case a32_Root => k_is)
    (case a32_Ruled => k_is)
    (case i32 => k_is)
    (case l32 => k_is)
    (case c32 => k_is)
    (case k32 => k_is)
    (case a33_Fraction => k_is)
    (case i33 => k_is)
    (case l33 => k_is)
    (case c33 => k_is)
    (case k33 => k_is)
    (case a34_Fraction => k_is)
    (case i34 => k_is)
    (case l34 => k_is)
    (case c34 => k_is)
    (case k34 => k_is)
    (case a35_Fraction => k_is)
    (case i35 => k_is)
    (case l35 => k_is)
    (case c35 => k_is)
    (case k35 => k_is)
    (case a36_Root => k_is)
    (case i36 => k_is)
    (case l36 => k_is)
    (case c36 => k_is)
    (case k36 => k_is)
    (case a37_Root => k_is)
    (case i37 => k_is)
    (case l37 => k_is)
    (case c37 => k_is)
    (case k37 => k_is)
    (case a38_Ruled => k_is)
    (case i38 => k_is)
    (case l38 => k_is)
    (case c38 => k_is)
    (case k38 => k_is)
    (case a39_Ruled => k_is)
    (case i39 => k_is)
    (case l39 => k_is)
    (case c39 => k_is)
    (case k39 => k_is)
    (case a40_Ruled => k_is)
    (case i40 => k_is)
    (case l40 => k_is)
    (case c40 => k_is)
    (case k40 => k_is)
    (case a41_Four => k_is)
    (case i41 => k_is)
    (case l41 => k_is)
    (case c41 => k_is)
    (case k41 => k_is)
    (case a42_Four => k_is)
    (case i42 => k_is)
    (case l42 => k_is)
    (case c42 => k_is)
    (case k42 => k_is)
    (case a43_Four => k_is)
    (case i43 => k_is)
    (case l43 => k_is)
    (case c43 => k_is)
    (case k43 => k_is)
    (case a44_Four => k_is)
    (case i44 => k_is)
    (case l44 => k_is)
    (case c44 => k_is)
    (case k44 => k_is)
    (case a45_Eight => k_is)
    (case i45 => k_is)
    (case l45 => k_is)
    (case c45 => k_is)
    (case k45 => k_is)
    (case a46_Eight => k_is)
    (case i46 => k_is)
    (case l46 => k_is)
    (case c46 => k_is)
    (case k46 => k_is)
    (case a47_Eight => k_is)
    (case i47 => k_is)
    (case l47 => k_is)
    (case c47 => k_is)
    (case k47 => k_is)
    (case a48_Eight => k_is)
    (case i48 => k_is)
    (case l48 => k_is)
    (case c48 => k_is)
    (case k48 => k_is)
    (case a49_Eight => k_is)
    (case i49 => k_is)
    (case l49 => k_is)
    (case c49 => k_is)
    (case k49 => k_is)
    (case a50_Eight => k_is)
    (case i50 => k_is)
    (case l50 => k_is)
    (case c50 => k_is)
    (case k50 => k_is)
    (case n_Purse_left => k_is)
    (case n_Fixed_top => k_is)
    (case n_Fixed_below => k_is)
    (case n_Fixed_begun => k_is)
    (case n_Fraction_many => k_is)
    (case n_Fraction_top => k_is)
    (case n_Fraction_below => k_is)
    (case n_Root_many => k_is)
    (case n_Root_top => k_is)
    (case n_Root_square => k_is)
    (case n_Root_below => k_is)
    (case n_Root_floor => k_is)
    (case n_Ruled_many => k_is)
    (case n_Ruled_first => k_is)
    (case n_Ruled_ring => k_is)
    (case n_Ruled_steps => k_is)
    (case n_Four_numbers => k_is)
    (case n_Four_inner => k_is)
    (case n_Four_ready => k_is)
    (case n_Four_begun => k_is)
    (case n_Four_fixed => k_is)
    (case n_Eight_numbers => k_is)
    (case n_Eight_inners => k_is)
    (case n_Eight_many => k_is)
    (case n_Eight_begun => k_is)
    (case n_Eight_rest => k_is)
    (case xf_BadTree => k_exc)
    (case kp_BadTree => k_is)
    (case sb_BadTree => k_is)
    (case ty_BadTree => k_is)
    (case xf_NoValue => k_exc)
    (case kp_NoValue => k_is)
    (case sb_NoValue => k_is)
    (case ty_NoValue => k_is)
    (case sb_PartError => k_is)
    (case ty_PartError => k_is)
    (case sb_TooLong => k_is)
    (case ty_TooLong => k_is)
    (case hd_PartError => k_is)
    (case su_BadTree_PartError => k_is)
    (case su_NoValue_PartError => k_is)
    (case hd_BadTree => k_is)
    (case su_BadTree_BadTree => k_is)
    (case su_NoValue_BadTree => k_is)
    (case hd_NoValue => k_is)
    (case su_BadTree_NoValue => k_is)
    (case su_NoValue_NoValue => k_is)
    (case hd_TooLong => k_is)
    (case su_BadTree_TooLong => k_is)
    (case su_NoValue_TooLong => k_is)
    (case z_ValueError => k_is)
    (case su_BadTree_ValueError => k_is)
    (case su_NoValue_ValueError => k_is)
    (case ocg => k_is)
    (case oct => k_is)
    (case xg_BadTree => k_is)
    (case xk_BadTree => k_is)
    (case xa_BadTree => k_is)
    (case xm_BadTree => k_is)
    (case xg_NoValue => k_is)
    (case xk_NoValue => k_is)
    (case xa_NoValue => k_is)
    (case xm_NoValue => k_is)
    (case g_DEEPEST => k_is)
    (case g_MOST_NUMBER => k_is)
    (case g_MOST_PARTS => k_is)
    (case g_MOST_POWER => k_is)
    (case g_TIMES => k_is)
    (case l_TIMES => k_is)
    (case z_divmod => k_is)
    (case z_abs => k_is)
    (case z_bool => k_is)
    (case z_int => k_is)
    (case z_isinstance => k_is)
    (case z_len => k_is)
    (case z_list => k_is)
    (case z_max => k_is)
    (case z_min => k_is)
    (case z_range => k_is)
    (case z_reversed => k_is)
    (case z_str => k_is)
    (case z_sum => k_is)
    (case z_tuple => k_is)
    (case z_zip => k_is)
