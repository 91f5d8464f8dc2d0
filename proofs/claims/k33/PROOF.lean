import PyProof.Rows.All
import Wide.All
import OpenK.AllK
import Wide.FinOn
import HandS.ForMost
import HandS.ForExc
import HandS.Wide
import HandS.IsInst
import HandS.TupAny
import HandS.Deep
import HandS.EndBits
import KE.KOwnCellsLaws
import HandS.Style
import HandS.NoneIn
import HandS.ExcIs
import HandS.ExcOwn
import KE.SortData
import KE.KDictKeyed
import KE.KDictDisplayH
import KE.KDictCopyH
import KE.KDictSum
import KE.DataMinMax
import HandS.TupSets
import PyProof.SliceList
import HandS.TupLen
import HandS.TryOnly
import HandS.More
import PyProof.FactsAll.list_0
import PyProof.FactsAll.list_3
import PySem.Challenge.RW_stakebodies_k33_shares_judged
set_option Elab.async false
set_option linter.all false
set_option maxRecDepth 100000
set_option maxHeartbeats 4000000
set_option autoImplicit false
set_option Elab.async false
set_option linter.all false
set_option maxRecDepth 100000
set_option maxHeartbeats 4000000
set_option autoImplicit false
namespace DW
open PySem PySem.Spec PyProof.Rows L2

abbrev D := PyData
variable {K : PySem.W.Frag}

/-! ### data stays data while what is tracked stands -/
theorem same_sqT {H H' : Hp} {a : Addr} {xs : List V} (e : Same H H') (h : SqT K H a xs) : SqT K H' a xs := by
  rcases h with (h | ⟨o, h⟩) | h
  · exact .inl (.inl (e _ _ h))
  · exact .inl (.inr ⟨o, e _ _ h⟩)
  · exact .inr h
mutual
theorem dp_mono {B B' : Hp} (e : Same B B') : ∀ (d : D) (v : V), Dp K B v d → Dp K B' v d
  | .none, _, h => by
    cases h
    exact .non
  | .bool b, _, h => by
    cases h
    exact .bl _
  | .int i, _, h => by
    cases h
    exact .int _
  | .str x, _, h => by
    cases h
    exact .str _
  | .list ds, _, h => by
    cases h with
    | lst hx ht => exact .lst (e.seq hx) (dpa_mono e ds _ ht)
  | .tuple ds, _, h => by
    cases h with
    | tup hx ht => exact .tup (same_sqT e hx) (dpa_mono e ds _ ht)
  | .dict _, _, h => by
    cases h
theorem dpa_mono {B B' : Hp} (e : Same B B') : ∀ (ds : List D) (vs : List V), DpAll K B vs ds → DpAll K B' vs ds
  | [], _, h => by
    cases h
    exact .nil
  | d :: ds, _, h => by
    cases h with
    | cons h1 h2 => exact .cons (dp_mono e d _ h1) (dpa_mono e ds _ h2)
end
theorem moD {B B' : Hp} {v : V} {d : D} (h : Dp K B v d) (e : Same B B') : Dp K B' v d := dp_mono e d v h
theorem moA {B B' : Hp} {vs : List V} {ds : List D} (h : DpAll K B vs ds) (e : Same B B') : DpAll K B' vs ds := dpa_mono e ds vs h
theorem dpa_len : ∀ {B : Hp} {ds : List D} {vs : List V}, DpAll K B vs ds → vs.length = ds.length
  | _, [], _, h => by
    cases h
    rfl
  | _, d :: ds, _, h => by
    cases h with
    | cons h1 h2 => rw [List.length_cons, List.length_cons, dpa_len h2]
theorem dpa_get : ∀ {B : Hp} {ds : List D} {vs : List V} {i : Nat} {d : D}, DpAll K B vs ds → ds[i]? = some d → ∃ v, vs[i]? = some v ∧ Dp K B v d
  | _, [], _, _, _, _, e => by simp at e
  | _, d :: ds, _, 0, _, h, e => by
    cases h with
    | cons h1 h2 =>
      have e' : d = _ := Option.some.inj e
      subst e'
      exact ⟨_, rfl, h1⟩
  | _, d :: ds, _, i + 1, _, h, e => by
    cases h with
    | cons h1 h2 =>
      obtain ⟨v, a, b⟩ := dpa_get (i := i) h2 (by simpa using e)
      exact ⟨v, by simpa using a, b⟩
theorem dpa_getV : ∀ {B : Hp} {ds : List D} {vs : List V} {i : Nat} {v : V}, DpAll K B vs ds → vs[i]? = some v → ∃ d, ds[i]? = some d ∧ Dp K B v d
  | _, _, [], _, _, _, e => by simp at e
  | _, [], _ :: _, _, _, h, _ => by cases h
  | _, d :: ds, v :: vs, 0, _, h, e => by
    cases h with
    | cons h1 h2 =>
      have e' : v = _ := Option.some.inj e
      subst e'
      exact ⟨_, rfl, h1⟩
  | _, d :: ds, v :: vs, i + 1, _, h, e => by
    cases h with
    | cons h1 h2 =>
      obtain ⟨d', a, b⟩ := dpa_getV (i := i) h2 (by simpa using e)
      exact ⟨d', by simpa using a, b⟩
theorem dpa_app : ∀ {B : Hp} {ds es : List D} {vs us : List V}, DpAll K B vs ds → DpAll K B us es → DpAll K B (vs ++ us) (ds ++ es)
  | _, [], _, _, _, h, g => by
    cases h
    exact g
  | _, d :: ds, _, _, _, h, g => by
    cases h with
    | cons h1 h2 => exact .cons h1 (dpa_app h2 g)
theorem dpa_take : ∀ {B : Hp} {ds : List D} {vs : List V} (n : Nat), DpAll K B vs ds → DpAll K B (vs.take n) (ds.take n)
  | _, _, _, 0, _ => by
    rw [List.take_zero, List.take_zero]
    exact .nil
  | _, [], _, _ + 1, h => by
    cases h
    exact .nil
  | _, d :: ds, _, n + 1, h => by
    cases h with
    | cons h1 h2 => exact .cons h1 (dpa_take n h2)
theorem dpa_drop : ∀ {B : Hp} {ds : List D} {vs : List V} (n : Nat), DpAll K B vs ds → DpAll K B (vs.drop n) (ds.drop n)
  | _, _, _, 0, h => h
  | _, [], _, _ + 1, h => by
    cases h
    exact .nil
  | _, d :: ds, _, n + 1, h => by
    cases h with
    | cons h1 h2 => exact dpa_drop n h2
theorem dpa_set : ∀ {B : Hp} {ds : List D} {vs : List V} {v : V} {d : D} (n : Nat), DpAll K B vs ds → Dp K B v d → DpAll K B (vs.set n v) (ds.set n d)
  | _, [], _, _, _, _, h, _ => by
    cases h
    exact .nil
  | _, e :: ds, _, _, _, 0, h, g => by
    cases h with
    | cons h1 h2 => exact .cons g h2
  | _, e :: ds, _, _, _, n + 1, h, g => by
    cases h with
    | cons h1 h2 => exact .cons h1 (dpa_set n h2 g)
theorem dp_int {B : Hp} {v : V} {i : Int} (h : Dp K B v (.int i)) : v = .int i := by
  cases h
  rfl
theorem dp_bl {B : Hp} {v : V} {i : Bool} (h : Dp K B v (.bool i)) : v = .bl i := by
  cases h
  rfl
theorem dp_str {B : Hp} {v : V} {i : Str} (h : Dp K B v (.str i)) : v = .str i := by
  cases h
  rfl
theorem dp_non {B : Hp} {v : V} (h : Dp K B v .none) : v = .non := by
  cases h
  rfl
theorem dp_tup {B : Hp} {v : V} {ds : List D} (h : Dp K B v (.tuple ds)) : ∃ a xs, v = .ref a ∧ SqT K B a xs ∧ DpAll K B xs ds := by
  cases h with
  | tup h1 h2 => exact ⟨_, _, rfl, h1, h2⟩
theorem dp_lst {B : Hp} {v : V} {ds : List D} (h : Dp K B v (.list ds)) : ∃ a xs, v = .ref a ∧ SqL K B a xs ∧ DpAll K B xs ds := by
  cases h with
  | lst h1 h2 => exact ⟨_, _, rfl, h1, h2⟩

/-! ### growth: B is what is settled, H what is tracked -/
structure Grow (B H B' H' : Hp) : Prop where
  b : Same B B'
  h : Same H H'
  bh : Same B' H'
  n : ∀ a, H a ≠ none → B a = none → B' a = none
section
variable {B H B1 H1 B2 H2 : Hp} {p : Addr} {o : HO}
theorem Grow.refl (e : Same B H) : Grow B H B H := ⟨Same.refl _, Same.refl _, e, fun _ _ h => h⟩
theorem Grow.trans (x : Grow B H B1 H1) (y : Grow B1 H1 B2 H2) : Grow B H B2 H2 := by
  refine ⟨x.b.trans y.b, x.h.trans y.h, y.bh, fun a ha hb => y.n a (fun z => ?_) (x.n a ha hb)⟩
  cases e : H a with
  | none => exact ha e
  | some u =>
    rw [x.h a u e] at z
    cases z
theorem same_new (h : H p = none) : Same H (upd H p o) := fun b u e => by
  rw [upd_ne (ne_of_none e h)]
  exact e
theorem same_out (e : Same B H) (h : B p = none) : Same B (upd H p o) := fun b u q => by
  rw [upd_ne (ne_of_none q h)]
  exact e b u q
theorem same_none (e : Same B H) (h : H p = none) : B p = none := e.free h
theorem Grow.new (e : Same B H) (h : H p = none) : Grow B H (upd B p o) (upd H p o) := by
  refine ⟨same_new (same_none e h), same_new h, fun b u q => ?_, fun a ha hb => ?_⟩
  · by_cases hb : b = p
    · subst hb
      rw [upd_same] at q ⊢
      exact q
    · rw [upd_ne hb] at q ⊢
      exact e b u q
  · rw [upd_ne (fun z => ha (by rw [z]; exact h))]
    exact hb
theorem Grow.own (e : Same B H) (h : H p = none) : Grow B H B (upd H p o) := ⟨Same.refl _, same_new h, same_out e (same_none e h), fun _ _ hb => hb⟩
/-- what was new may be settled -/
theorem Grow.settle (g : Grow B H B1 H1) (h0 : H p = none) (h1 : B1 p = none) (h2 : H1 p = some o) : Grow B H (upd B1 p o) H1 := by
  refine ⟨g.b.trans (same_new h1), g.h, fun b u q => ?_, fun a ha hb => ?_⟩
  · by_cases hb : b = p
    · subst hb
      rw [upd_same] at q
      cases q
      exact h2
    · rw [upd_ne hb] at q
      exact g.bh b u q
  · rw [upd_ne (fun z => ha (by rw [z]; exact h0))]
    exact g.n a ha hb
theorem Grow.bh0 (g : Grow B H B1 H1) : Same B H1 := g.b.trans g.bh
end

/-! ### slots -/
/-- an object of one's own that is no list -/
structure Ob where
  R : Hp → Hp → Addr → Prop
  gr : ∀ B H B' H' p, Same B B' → Same H H' → R B H p → R B' H' p
  fr : ∀ B H p q o, q ≠ p → R B H p → R B (upd H q o) p
inductive Sl where
  | no
  | fz (d : D)
  | ow (ds : List D)
  | ob (R : Ob)
  | ex (a : Addr)
def Sl.own : Sl → Bool
  | .ow _ => true
  | .ob _ => true
  | _ => false
structure Bs where
  B : Hp
  H : Hp
def SlR (K : PySem.W.Frag) (bs : Bs) (B H : Hp) (o : Option V) : Sl → Prop
  | .no => True
  | .fz d => ∃ v, o = some v ∧ Dp K B v d
  | .ow ds => ∃ p vs, o = some (.ref p) ∧ bs.H p = none ∧ B p = none ∧ H p = some (.lst vs) ∧ DpAll K B vs ds
  | .ob R => ∃ p, o = some (.ref p) ∧ bs.H p = none ∧ B p = none ∧ H p ≠ none ∧ R.R B H p
  | .ex a => o = some (.ref a)
abbrev Gm := List Sl
structure Sat (K : PySem.W.Frag) (bs : Bs) (G : Gm) (B : Hp) (σ : L2.St) (H : Hp) : Prop where
  gr : Grow bs.B bs.H B H
  len : σ.length = G.length
  sl : ∀ (i : Nat) s o, G[i]? = some s → σ[i]? = some o → SlR K bs B H o s
  na : ∀ (i j : Nat) s t p, i ≠ j → G[i]? = some s → G[j]? = some t → s.own = true → t.own = true → σ[i]? = some (some (.ref p)) → σ[j]? = some (some (.ref p)) → False
section
variable {bs : Bs} {G : Gm} {B H B' H' : Hp} {σ : L2.St}
theorem SlR.gro {o : Option V} {s : Sl} (h : SlR K bs B H o s) (g : Grow B H B' H') : SlR K bs B' H' o s := by
  cases s with
  | ex a => exact h
  | no => trivial
  | fz d =>
    obtain ⟨v, e, q⟩ := h
    exact ⟨v, e, moD q g.b⟩
  | ow ds =>
    obtain ⟨p, vs, e, q0, q1, q2, q3⟩ := h
    exact ⟨p, vs, e, q0, g.n p (by rw [q2]; simp) q1, g.h p _ q2, moA q3 g.b⟩
  | ob R =>
    obtain ⟨p, e, q0, q1, q2, q3⟩ := h
    refine ⟨p, e, q0, g.n p q2 q1, fun z => ?_, R.gr B H B' H' p g.b g.h q3⟩
    cases e2 : H p with
    | none => exact q2 e2
    | some u =>
      rw [g.h p u e2] at z
      cases z
theorem Sat.bh (S : Sat K bs G B σ H) : Same B H := S.gr.bh
theorem Sat.gro (S : Sat K bs G B σ H) (g : Grow B H B' H') : Sat K bs G B' σ H' := ⟨S.gr.trans g, S.len, fun i s o h1 h2 => (S.sl i s o h1 h2).gro g, S.na⟩
theorem Sat.fz {i : Nat} {d : D} (S : Sat K bs G B σ H) (h : G[i]? = some (.fz d)) : ∃ v, σ[i]? = some (some v) ∧ Dp K B v d := by
  have hi : i < σ.length := by
    rw [S.len]
    exact (List.getElem?_eq_some_iff.mp h).1
  have e : σ[i]? = some σ[i] := List.getElem?_eq_getElem hi
  obtain ⟨v, e2, q⟩ := S.sl i _ _ h e
  exact ⟨v, by rw [e, e2], q⟩
theorem Sat.ow {i : Nat} {ds : List D} (S : Sat K bs G B σ H) (h : G[i]? = some (.ow ds)) : ∃ p vs, σ[i]? = some (some (.ref p)) ∧ bs.H p = none ∧ B p = none ∧ H p = some (.lst vs) ∧ DpAll K B vs ds := by
  have hi : i < σ.length := by
    rw [S.len]
    exact (List.getElem?_eq_some_iff.mp h).1
  have e : σ[i]? = some σ[i] := List.getElem?_eq_getElem hi
  obtain ⟨p, vs, e2, q⟩ := S.sl i _ _ h e
  exact ⟨p, vs, by rw [e, e2], q⟩
theorem Sat.obj {i : Nat} {R : Ob} (S : Sat K bs G B σ H) (h : G[i]? = some (.ob R)) : ∃ p, σ[i]? = some (some (.ref p)) ∧ bs.H p = none ∧ B p = none ∧ H p ≠ none ∧ R.R B H p := by
  have hi : i < σ.length := by
    rw [S.len]
    exact (List.getElem?_eq_some_iff.mp h).1
  have e : σ[i]? = some σ[i] := List.getElem?_eq_getElem hi
  obtain ⟨p, e2, q⟩ := S.sl i _ _ h e
  exact ⟨p, by rw [e, e2], q⟩
/-- one's own things at other slots -/
theorem Sat.apart {i j : Nat} {s t : Sl} {p q : Addr} (S : Sat K bs G B σ H) (hij : i ≠ j) (hi : G[i]? = some s) (hj : G[j]? = some t) (si : s.own = true) (sj : t.own = true) (ei : σ[i]? = some (some (.ref p))) (ej : σ[j]? = some (some (.ref q))) : p ≠ q := fun e => by
  subst e
  exact S.na i j s t p hij hi hj si sj ei ej
theorem set_get {α : Type} {l : List α} {i j : Nat} {x y : α} (h : (l.set i x)[j]? = some y) : (j = i ∧ y = x ∧ i < l.length) ∨ (j ≠ i ∧ l[j]? = some y) := by
  by_cases e : i = j
  · subst e
    by_cases hl : i < l.length
    · rw [List.getElem?_set_self hl] at h
      exact .inl ⟨rfl, (Option.some.inj h).symm, hl⟩
    · rw [List.getElem?_eq_none (by rw [List.length_set]; omega)] at h
      cases h
  · rw [List.getElem?_set_ne e] at h
    exact .inr ⟨fun z => e z.symm, h⟩
/-- a slot gets data -/
theorem Sat.setF {i : Nat} {v : V} {d : D} (S : Sat K bs G B σ H) (q : Dp K B v d) : Sat K bs (G.set i (.fz d)) B (σ.set i (some v)) H := by
  refine ⟨S.gr, by rw [List.length_set, List.length_set, S.len], fun j s o h1 h2 => ?_, fun j k s t p hjk h1 h2 s1 s2 e1 e2 => ?_⟩
  · rcases set_get h1 with ⟨e, es, hl⟩ | ⟨e, h1'⟩
    · subst e es
      rcases set_get h2 with ⟨_, eo, _⟩ | ⟨z, _⟩
      · subst eo
        exact ⟨v, rfl, q⟩
      · exact (z rfl).elim
    · rcases set_get h2 with ⟨z, _, _⟩ | ⟨_, h2'⟩
      · exact (e z).elim
      · exact S.sl j s o h1' h2'
  · rcases set_get h1 with ⟨_, es, _⟩ | ⟨n1, h1'⟩
    · subst es
      cases s1
    · rcases set_get h2 with ⟨_, es, _⟩ | ⟨n2, h2'⟩
      · subst es
        cases s2
      · rcases set_get e1 with ⟨z, _, _⟩ | ⟨_, e1'⟩
        · exact (n1 z).elim
        · rcases set_get e2 with ⟨z, _, _⟩ | ⟨_, e2'⟩
          · exact (n2 z).elim
          · exact S.na j k s t p hjk h1' h2' s1 s2 e1' e2'
/-- a slot forgotten -/
theorem Sat.setN {i : Nat} {o : Option V} (S : Sat K bs G B σ H) : Sat K bs (G.set i .no) B (σ.set i o) H := by
  refine ⟨S.gr, by rw [List.length_set, List.length_set, S.len], fun j s o h1 h2 => ?_, fun j k s t p hjk h1 h2 s1 s2 e1 e2 => ?_⟩
  · rcases set_get h1 with ⟨e, es, hl⟩ | ⟨e, h1'⟩
    · subst e es
      trivial
    · rcases set_get h2 with ⟨z, _, _⟩ | ⟨_, h2'⟩
      · exact (e z).elim
      · exact S.sl j s o h1' h2'
  · rcases set_get h1 with ⟨_, es, _⟩ | ⟨n1, h1'⟩
    · subst es
      cases s1
    · rcases set_get h2 with ⟨_, es, _⟩ | ⟨n2, h2'⟩
      · subst es
        cases s2
      · rcases set_get e1 with ⟨z, _, _⟩ | ⟨_, e1'⟩
        · exact (n1 z).elim
        · rcases set_get e2 with ⟨z, _, _⟩ | ⟨_, e2'⟩
          · exact (n2 z).elim
          · exact S.na j k s t p hjk h1' h2' s1 s2 e1' e2'
/-- a caught exception -/
theorem Sat.setE {i : Nat} {a : Addr} (S : Sat K bs G B σ H) : Sat K bs (G.set i (.ex a)) B (σ.set i (some (.ref a))) H := by
  refine ⟨S.gr, by rw [List.length_set, List.length_set, S.len], fun j s o h1 h2 => ?_, fun j k s t p hjk h1 h2 s1 s2 e1 e2 => ?_⟩
  · rcases set_get h1 with ⟨e, es, hl⟩ | ⟨e, h1'⟩
    · subst e es
      rcases set_get h2 with ⟨_, eo, _⟩ | ⟨z, _⟩
      · exact eo
      · exact (z rfl).elim
    · rcases set_get h2 with ⟨z, _, _⟩ | ⟨_, h2'⟩
      · exact (e z).elim
      · exact S.sl j s o h1' h2'
  · rcases set_get h1 with ⟨_, es, _⟩ | ⟨n1, h1'⟩
    · subst es
      cases s1
    · rcases set_get h2 with ⟨_, es, _⟩ | ⟨n2, h2'⟩
      · subst es
        cases s2
      · rcases set_get e1 with ⟨z, _, _⟩ | ⟨_, e1'⟩
        · exact (n1 z).elim
        · rcases set_get e2 with ⟨z, _, _⟩ | ⟨_, e2'⟩
          · exact (n2 z).elim
          · exact S.na j k s t p hjk h1' h2' s1 s2 e1' e2'
/-- what a slot holds is forgotten, the value stays -/
theorem Sat.forget {i : Nat} (S : Sat K bs G B σ H) : Sat K bs (G.set i .no) B σ H := by
  refine ⟨S.gr, by rw [List.length_set, S.len], fun j s o h1 h2 => ?_, fun j k s t p hjk h1 h2 s1 s2 e1 e2 => ?_⟩
  · rcases set_get h1 with ⟨e, es, hl⟩ | ⟨e, h1'⟩
    · subst e es
      trivial
    · exact S.sl j s o h1' h2
  · rcases set_get h1 with ⟨_, es, _⟩ | ⟨n1, h1'⟩
    · subst es
      cases s1
    · rcases set_get h2 with ⟨_, es, _⟩ | ⟨n2, h2'⟩
      · subst es
        cases s2
      · exact S.na j k s t p hjk h1' h2' s1 s2 e1 e2
/-- a slot gets a thing of one's own that is new since (B, H) -/
theorem Sat.setO {i : Nat} {p : Addr} {s : Sl} (S : Sat K bs G B σ H) (g : Grow B H B' H') (hp : H p = none) (ho : s.own = true) (hs : SlR K bs B' H' (some (.ref p)) s) : Sat K bs (G.set i s) B' (σ.set i (some (.ref p))) H' := by
  have S' := S.gro g
  have old : ∀ (j : Nat) t q, G[j]? = some t → t.own = true → σ[j]? = some (some (.ref q)) → q ≠ p := fun j t q h1 h2 h3 z => by
    subst z
    have r := S.sl j t _ h1 h3
    cases t with
    | ex a => cases h2
    | no => cases h2
    | fz d => cases h2
    | ow ds =>
      obtain ⟨p', vs, e, _, _, q2, _⟩ := r
      cases e
      rw [hp] at q2
      cases q2
    | ob R =>
      obtain ⟨p', e, _, _, q2, _⟩ := r
      cases e
      exact q2 hp
  refine ⟨S'.gr, by rw [List.length_set, List.length_set, S.len], fun j t o h1 h2 => ?_, fun j k t u q hjk h1 h2 s1 s2 e1 e2 => ?_⟩
  · rcases set_get h1 with ⟨e, es, hl⟩ | ⟨e, h1'⟩
    · subst e es
      rcases set_get h2 with ⟨_, eo, _⟩ | ⟨z, _⟩
      · subst eo
        exact hs
      · exact (z rfl).elim
    · rcases set_get h2 with ⟨z, _, _⟩ | ⟨_, h2'⟩
      · exact (e z).elim
      · exact S'.sl j t o h1' h2'
  · rcases set_get h1 with ⟨ej, es, _⟩ | ⟨n1, h1'⟩
    · rcases set_get h2 with ⟨ek, _, _⟩ | ⟨n2, h2'⟩
      · exact hjk (ej.trans ek.symm)
      · rcases set_get e1 with ⟨_, eq, _⟩ | ⟨z, _⟩
        · rcases set_get e2 with ⟨z, _, _⟩ | ⟨_, e2'⟩
          · exact n2 z
          · cases eq
            exact old k u _ h2' s2 e2' rfl
        · exact z ej
    · rcases set_get e1 with ⟨z, _, _⟩ | ⟨_, e1'⟩
      · exact n1 z
      · rcases set_get h2 with ⟨ek, es, _⟩ | ⟨n2, h2'⟩
        · rcases set_get e2 with ⟨_, eq, _⟩ | ⟨z, _⟩
          · cases eq
            exact old j t _ h1' s1 e1' rfl
          · exact z ek
        · rcases set_get e2 with ⟨z, _, _⟩ | ⟨_, e2'⟩
          · exact n2 z
          · exact S'.na j k t u q hjk h1' h2' s1 s2 e1' e2'
/-- one's own list at slot i changes -/
theorem Sat.mutL {i : Nat} {p : Addr} {ds es : List D} {us : List V} (S : Sat K bs G B σ H) (h : G[i]? = some (.ow ds)) (hp : σ[i]? = some (some (.ref p))) (q : DpAll K B us es) : Sat K bs (G.set i (.ow es)) B σ (upd H p (.lst us)) := by
  obtain ⟨p', vs, e, q0, q1, q2, q3⟩ := S.ow h
  rw [hp] at e
  cases e
  have hi : i < G.length := (List.getElem?_eq_some_iff.mp h).1
  refine ⟨⟨S.gr.b, fun b o z => ?_, same_out S.bh q1, S.gr.n⟩, by rw [List.length_set, S.len], fun j s o h1 h2 => ?_, fun j k s t a hjk h1 h2 s1 s2 e1 e2 => ?_⟩
  · rw [upd_ne (ne_of_none z q0)]
    exact S.gr.h b o z
  · rcases set_get h1 with ⟨ej, es, hl⟩ | ⟨ej, h1'⟩
    · subst ej es
      rw [hp] at h2
      cases h2
      exact ⟨p, us, rfl, q0, q1, upd_same, q⟩
    · have r := S.sl j s o h1' h2
      cases s with
      | ex a => exact r
      | no => trivial
      | fz d => exact r
      | ow ds' =>
        obtain ⟨p2, vs2, e2, r0, r1, r2, r3⟩ := r
        subst e2
        have ne : p ≠ p2 := S.apart (fun z => ej z.symm) h h1' rfl rfl hp h2
        exact ⟨p2, vs2, rfl, r0, r1, by rw [upd_ne ne.symm]; exact r2, r3⟩
      | ob R =>
        obtain ⟨p2, e2, r0, r1, r2, r3⟩ := r
        subst e2
        have ne : p ≠ p2 := S.apart (fun z => ej z.symm) h h1' rfl rfl hp h2
        exact ⟨p2, rfl, r0, r1, by rw [upd_ne ne.symm]; exact r2, R.fr B H p2 p _ ne r3⟩
  · have own : ∀ (m : Nat) s, (G.set i (.ow es))[m]? = some s → s.own = true → ∃ s', G[m]? = some s' ∧ s'.own = true := fun m s a1 a2 => by
      rcases set_get a1 with ⟨em, _, _⟩ | ⟨_, a1'⟩
      · subst em
        exact ⟨_, h, rfl⟩
      · exact ⟨s, a1', a2⟩
    obtain ⟨s', g1, g2⟩ := own j s h1 s1
    obtain ⟨t', g3, g4⟩ := own k t h2 s2
    exact S.na j k s' t' a hjk g1 g3 g2 g4 e1 e2
/-- one's own list is settled -/
theorem Sat.settle {i : Nat} {ds : List D} (S : Sat K bs G B σ H) (h : G[i]? = some (.ow ds)) : ∃ B', Same B B' ∧ Sat K bs (G.set i (.fz (.list ds))) B' σ H := by
  obtain ⟨p, vs, e, q0, q1, q2, q3⟩ := S.ow h
  have sb : Same B (upd B p (.lst vs)) := same_new q1
  refine ⟨upd B p (.lst vs), sb, ⟨S.gr.settle q0 q1 q2, by rw [List.length_set, S.len], fun j s o h1 h2 => ?_, fun j k s t a hjk h1 h2 s1 s2 e1 e2 => ?_⟩⟩
  · rcases set_get h1 with ⟨ej, es, hl⟩ | ⟨ej, h1'⟩
    · subst ej es
      rw [e] at h2
      cases h2
      exact ⟨.ref p, rfl, .lst (.inl (.inl upd_same)) (moA q3 sb)⟩
    · have r := S.sl j s o h1' h2
      cases s with
      | ex a => exact r
      | no => trivial
      | fz d =>
        obtain ⟨v, e1, r1⟩ := r
        exact ⟨v, e1, moD r1 sb⟩
      | ow ds' =>
        obtain ⟨p2, vs2, e2, r0, r1, r2, r3⟩ := r
        subst e2
        have ne : p ≠ p2 := S.apart (fun z => ej z.symm) h h1' rfl rfl e h2
        exact ⟨p2, vs2, rfl, r0, by rw [upd_ne ne.symm]; exact r1, r2, moA r3 sb⟩
      | ob R =>
        obtain ⟨p2, e2, r0, r1, r2, r3⟩ := r
        subst e2
        have ne : p ≠ p2 := S.apart (fun z => ej z.symm) h h1' rfl rfl e h2
        refine ⟨p2, rfl, r0, by rw [upd_ne ne.symm]; exact r1, r2, ?_⟩
        exact R.gr B H (upd B p (.lst vs)) H p2 sb (Same.refl _) r3
  · rcases set_get h1 with ⟨_, es, _⟩ | ⟨n1, h1'⟩
    · subst es
      cases s1
    · rcases set_get h2 with ⟨_, es, _⟩ | ⟨n2, h2'⟩
      · subst es
        cases s2
      · exact S.na j k s t a hjk h1' h2' s1 s2 e1 e2
end
end DW

set_option Elab.async false
set_option linter.all false
set_option maxRecDepth 100000
set_option maxHeartbeats 4000000
set_option autoImplicit false
namespace DW
open PySem PySem.Spec PyProof.Rows L2

/-! ### the code's own wish -/
def tE (X : Cx) (e : Expr) : TE := fun σ H Q => ∀ (pins : List (Addr × Obj)) (s : Shared), Inv X pins σ H s → wpAny (model X.prog X.w) X.A (eval e X.env) (EP X pins σ Q) X.xe s
def tT (X : Cx) (e : Expr) : TT := fun σ H Q => ∀ (pins : List (Addr × Obj)) (s : Shared), Inv X pins σ H s → wpAny (model X.prog X.w) X.A (isTrue e X.env (eval e X.env)) (TP X pins σ Q) X.xe s
def tA (X : Cx) (es : List Expr) : TA := fun σ H Q => ∀ (pos : Pos) (pins : List (Addr × Obj)) (s : Shared), Inv X pins σ H s → wpAny (model X.prog X.w) X.A (spliced (backTo pos (starEach es X.env))) (AP X pins σ Q) X.xe s
def tS (X : Cx) (st : Stmt) : TS := fun De σ H => ∀ (pins : List (Addr × Obj)) (s : Shared), Inv X pins σ H s → wpAny (model X.prog X.w) X.A (exec st X.env) (SP X pins De) X.xe s
def tB1 (X : Cx) (st : List Stmt) : TS := fun De σ H => ∀ (pins : List (Addr × Obj)) (s : Shared), Inv X pins σ H s → wpAny (model X.prog X.w) X.A (execs st X.env) (SP X pins De) X.xe s
section
variable {X : Cx} {e : Expr} {es : List Expr} {st : Stmt} {sts : List Stmt} {σ : L2.St} {H : Hp}
theorem pE : PE X e (tE X e) := ⟨fun pins s _ _ _ I h => h pins s I⟩
theorem pT : PT X e (tT X e) := ⟨fun pins s _ _ _ I h => h pins s I⟩
theorem pA : PA X es (tA X es) := ⟨fun pos pins s _ _ _ I h => h pos pins s I⟩
theorem pS : PS X st (tS X st) := ⟨fun pins s _ _ _ I h => h pins s I⟩
theorem pB : PSs X sts (tB1 X sts) := ⟨fun pins s _ _ _ I h => h pins s I⟩
theorem inE {t : TE} {Q : VK} (p : PE X e t) (h : t σ H Q) : tE X e σ H Q := fun pins s I => p.run pins s σ H Q I h
theorem inT {t : TT} {Q : Bool → Hp → Prop} (p : PT X e t) (h : t σ H Q) : tT X e σ H Q := fun pins s I => p.run pins s σ H Q I h
theorem inA {t : TA} {Q : List V → Hp → Prop} (p : PA X es t) (h : t σ H Q) : tA X es σ H Q := fun pos pins s I => p.run pos pins s σ H Q I h
theorem inS {t : TS} {De : Ends} (p : PS X st t) (h : t De σ H) : tS X st De σ H := fun pins s I => p.run pins s σ H De I h
theorem inB {t : TS} {De : Ends} (p : PSs X sts t) (h : t De σ H) : tB1 X sts De σ H := fun pins s I => p.run pins s σ H De I h
end

/-! ### names -/
def visB (sc : Scope) (x : Str) : Bool := match sc.names.lookup x with
  | some .local => true
  | some .cell => true
  | some .free => true
  | _ => false
def locB (sc : Scope) (x : Str) : Bool := match sc.names.lookup x with
  | some .local => true
  | some .cell => true
  | _ => false
def loc1B (sc : Scope) (x : Str) : Bool := match sc.names.lookup x with
  | some .local => true
  | _ => false
def glB (sc : Scope) (x : Str) : Bool := match sc.names.lookup x with
  | some .globalImplicit => !(x == ("__debug__" : Str))
  | _ => false
structure Wd where
  P : Program
  w : World
  K : PySem.W.Frag
  mg : Str → Option Value
  base : Heap
def wdOf (X : Cx) : Wd := ⟨X.prog, X.w, X.K, X.mg, X.base⟩
structure Cnm (X : Cx) (W : Wd) (N : List Str) (sc : Scope) : Prop where
  wd : wdOf X = W
  nd : N.Nodup
  N : X.N = N
  vis : ∀ x, visB sc x = true → Vis X.env.scope x
  loc : ∀ x, locB sc x = true → Loc X.env.scope x ∧ (X.fn x = true ∨ X.env.scope.names.lookup x = some .local)
  loc1 : ∀ x, loc1B sc x = true → X.env.scope.names.lookup x = some .local
  gl : ∀ x, glB sc x = true → Gl X x ∧ (x == ("__debug__" : Str)) = false
  fr : ∀ x, sc.names.lookup x = some .cell ∨ sc.names.lookup x = some .free → X.env.scope.names.lookup x = some .cell ∨ X.env.scope.names.lookup x = some .free
  bk : sc.kind = .function → X.env.blockKind = .function
structure Cok (X : Cx) (W : Wd) (N : List Str) (sc : Scope) (k : Nat) : Prop extends Cnm X W N sc where
  calm : X.calm = true
  room : Room k X.A
  pown : PassesOwn (model X.prog X.w) X.A X.env X.xe
theorem visB_of {sc : Scope} {x : Str} (h : visB sc x = true) : sc.names.lookup x = some .local ∨ sc.names.lookup x = some .cell ∨ sc.names.lookup x = some .free := by
  unfold visB at h
  cases e : sc.names.lookup x with
  | none =>
    rw [e] at h
    cases h
  | some q =>
    rw [e] at h
    cases q <;> first | exact .inl rfl | exact .inr (.inl rfl) | exact .inr (.inr rfl) | cases h
theorem locB_of {sc : Scope} {x : Str} (h : locB sc x = true) : sc.names.lookup x = some .local ∨ sc.names.lookup x = some .cell := by
  unfold locB at h
  cases e : sc.names.lookup x with
  | none =>
    rw [e] at h
    cases h
  | some q =>
    rw [e] at h
    cases q <;> first | exact .inl rfl | exact .inr rfl | cases h
theorem loc1B_of {sc : Scope} {x : Str} (h : loc1B sc x = true) : sc.names.lookup x = some .local := by
  unfold loc1B at h
  cases e : sc.names.lookup x with
  | none =>
    rw [e] at h
    cases h
  | some q =>
    rw [e] at h
    cases q <;> first | rfl | cases h
theorem glB_of {sc : Scope} {x : Str} (h : glB sc x = true) : sc.names.lookup x = some .globalImplicit ∧ (x == ("__debug__" : Str)) = false := by
  unfold glB at h
  cases e : sc.names.lookup x with
  | none =>
    rw [e] at h
    cases h
  | some q =>
    rw [e] at h
    cases q <;> first | exact ⟨rfl, by simpa using h⟩ | cases h
/-- name x stands at slot i -/
def okV (N : List Str) (sc : Scope) (i : Nat) (x : Str) : Bool := decide (N[i]? = some x) && visB sc x && !(x == ("__debug__" : Str)) && !(x == ("__classdict__" : Str))
def okL (N : List Str) (sc : Scope) (i : Nat) (x : Str) : Bool := decide (N[i]? = some x) && locB sc x
theorem okV_of {N : List Str} {sc : Scope} {i : Nat} {x : Str} (h : okV N sc i x = true) : N[i]? = some x ∧ visB sc x = true ∧ (x == ("__debug__" : Str)) = false ∧ (x == ("__classdict__" : Str)) = false := by
  unfold okV at h
  simp only [Bool.and_eq_true, decide_eq_true_eq, Bool.not_eq_true'] at h
  exact ⟨h.1.1.1, h.1.1.2, h.1.2, h.2⟩
theorem okL_of {N : List Str} {sc : Scope} {i : Nat} {x : Str} (h : okL N sc i x = true) : N[i]? = some x ∧ locB sc x = true := by
  unfold okL at h
  simp only [Bool.and_eq_true, decide_eq_true_eq] at h
  exact h

/-! ### what evaluates to what -/
/-- settled data -/
structure GE (X : Cx) (G : Gm) (e : Expr) (d : D) : Prop where
  run : ∀ (bs : Bs) (B : Hp) (σ : L2.St) (H : Hp), Sat X.K bs G B σ H → ∀ Q : VK, (∀ v B' H', Grow B H B' H' → Dp X.K B' v d → Q v H') → tE X e σ H Q
/-- data as it stands now -/
structure GH (X : Cx) (G : Gm) (e : Expr) (d : D) : Prop where
  run : ∀ (bs : Bs) (B : Hp) (σ : L2.St) (H : Hp), Sat X.K bs G B σ H → ∀ Q : VK, (∀ v B' H', Grow B H B' H' → Dp X.K H' v d → Q v H') → tE X e σ H Q
/-- a list as it stands now, its items settled -/
structure GL (X : Cx) (G : Gm) (e : Expr) (ds : List D) : Prop where
  run : ∀ (bs : Bs) (B : Hp) (σ : L2.St) (H : Hp), Sat X.K bs G B σ H → ∀ Q : VK, (∀ p vs B' H', Grow B H B' H' → SqL X.K H' p vs → DpAll X.K B' vs ds → Q (.ref p) H') → tE X e σ H Q
/-- a new list of one's own -/
structure GO (X : Cx) (G : Gm) (e : Expr) (ds : List D) : Prop where
  run : ∀ (bs : Bs) (B : Hp) (σ : L2.St) (H : Hp), Sat X.K bs G B σ H → ∀ Q : VK, (∀ p vs B' H', Grow B H B' H' → H p = none → B' p = none → H' p = some (.lst vs) → DpAll X.K B' vs ds → Q (.ref p) H') → tE X e σ H Q
structure GT (X : Cx) (G : Gm) (e : Expr) (b : Bool) : Prop where
  run : ∀ (bs : Bs) (B : Hp) (σ : L2.St) (H : Hp), Sat X.K bs G B σ H → ∀ Q : Bool → Hp → Prop, (∀ B' H', Grow B H B' H' → Q b H') → tT X e σ H Q
/-- arguments -/
structure GA (X : Cx) (G : Gm) (es : List Expr) (ds : List D) : Prop where
  run : ∀ (bs : Bs) (B : Hp) (σ : L2.St) (H : Hp), Sat X.K bs G B σ H → ∀ Q : List V → Hp → Prop, (∀ vs B' H', Grow B H B' H' → DpAll X.K B' vs ds → Q vs H') → tA X es σ H Q
section
variable {X : Cx} {G : Gm} {e a b : Expr} {d x y z : D} {ds : List D} {W : Wd} {N : List Str} {sc : Scope} {k : Nat} {pos : Pos}
theorem GE.gh (h : GE X G e d) : GH X G e d := ⟨fun bs B σ H S Q q => h.run bs B σ H S Q fun v B' H' g r => q v B' H' g (moD r g.bh)⟩
theorem GE.gl (h : GE X G e (.list ds)) : GL X G e ds := ⟨fun bs B σ H S Q q => h.run bs B σ H S Q fun v B' H' g r => by
  obtain ⟨p, vs, rfl, h1, h2⟩ := dp_lst r
  exact q p vs B' H' g (g.bh.seq h1) h2⟩
theorem GL.gh (h : GL X G e ds) : GH X G e (.list ds) := ⟨fun bs B σ H S Q q => h.run bs B σ H S Q fun p vs B' H' g r1 r2 => q _ B' H' g (.lst r1 (moA r2 g.bh))⟩
theorem GO.ge (h : GO X G e ds) : GE X G e (.list ds) := ⟨fun bs B σ H S Q q => h.run bs B σ H S Q fun p vs B' H' g h0 h1 h2 r => by
  have sb : Same B' (upd B' p (.lst vs)) := same_new h1
  exact q _ _ H' (g.settle h0 h1 h2) (.lst (.inl (.inl upd_same)) (moA r sb))⟩
theorem GO.gl (h : GO X G e ds) : GL X G e ds := ⟨fun bs B σ H S Q q => h.run bs B σ H S Q fun p vs B' H' g h0 h1 h2 r => q p vs B' H' g (.inl (.inl h2)) r⟩
theorem GE.is {d' : D} (h : GE X G e d) (q : d = d') : GE X G e d' := q ▸ h
theorem GT.is {c c' : Bool} (h : GT X G e c) (q : c = c') : GT X G e c' := q ▸ h
theorem GO.is {ds' : List D} (h : GO X G e ds) (q : ds = ds') : GO X G e ds' := q ▸ h

/-! ### names, constants -/
theorem ge_vN (C : Cnm X W N sc) (i : Nat) {x : Str} {d : D} (h : okV N sc i x = true) (hG : G[i]? = some (.fz d)) : GE X G (.Name x pos) d := by
  obtain ⟨h1, h2, h3, h4⟩ := okV_of h
  refine ⟨fun bs B σ H S Q q => inE (pe_var (i := i) (by rw [C.N]; exact h1) (C.vis x h2) h3 h4) ?_⟩
  obtain ⟨v, e, r⟩ := S.fz hG
  exact ⟨v, e, q v B H (.refl S.bh) r⟩
theorem gl_vN (C : Cnm X W N sc) (i : Nat) {x : Str} {ds : List D} (h : okV N sc i x = true) (hG : G[i]? = some (.ow ds)) : GL X G (.Name x pos) ds := by
  obtain ⟨h1, h2, h3, h4⟩ := okV_of h
  refine ⟨fun bs B σ H S Q q => inE (pe_var (i := i) (by rw [C.N]; exact h1) (C.vis x h2) h3 h4) ?_⟩
  obtain ⟨p, vs, e, r0, r1, r2, r3⟩ := S.ow hG
  exact ⟨_, e, q p vs B H (.refl S.bh) (.inl (.inl r2)) r3⟩
theorem ge_v (C : Cok X W N sc k) (i : Nat) {x : Str} {d : D} (h : okV N sc i x = true) (hG : G[i]? = some (.fz d)) : GE X G (.Name x pos) d := ge_vN C.toCnm i h hG
theorem gl_v (C : Cok X W N sc k) (i : Nat) {x : Str} {ds : List D} (h : okV N sc i x = true) (hG : G[i]? = some (.ow ds)) : GL X G (.Name x pos) ds := gl_vN C.toCnm i h hG
theorem ge_int {i : Int} {j : Nat} : GE X G (.Constant (.int i) j pos) (.int i) := ⟨fun bs B σ H S Q q => inE pe_int (q _ B H (.refl S.bh) (.int _))⟩
theorem ge_bl {i : Bool} {j : Nat} : GE X G (.Constant (.bool i) j pos) (.bool i) := ⟨fun bs B σ H S Q q => inE pe_bl (q _ B H (.refl S.bh) (.bl _))⟩
theorem ge_non {j : Nat} : GE X G (.Constant .none j pos) .none := ⟨fun bs B σ H S Q q => inE pe_non (q _ B H (.refl S.bh) .non)⟩
theorem ge_str {i : Str} {j : Nat} : GE X G (.Constant (.str i) j pos) (.str i) := ⟨fun bs B σ H S Q q => inE pe_str (q _ B H (.refl S.bh) (.str _))⟩
/-- a module's number -/
theorem ge_gi (C : Cok X W N sc k) {x : Str} {i : Int} {t : Tok} (h : glB sc x = true) (hm : X.mg x = some (.int i t)) : GE X G (.Name x pos) (.int i) := ⟨fun bs B σ H S Q q => inE (pe_glob (v := .int i) (C.gl x h).1 hm ⟨_, rfl⟩ (C.gl x h).2) (q _ B H (.refl S.bh) (.int _))⟩

/-! ### two-place operations -/
/-- of settled data | of data as they stand -/
def R2D (K : PySem.W.Frag) (r : R2) (x y z : D) : Prop := ∀ (B H : Hp) (v w : V), Same B H → Dp K B v x → Dp K B w y → ∀ Q : VK, (∀ u B' H', Grow B H B' H' → Dp K B' u z → Q u H') → r v w H Q
def R2H (K : PySem.W.Frag) (r : R2) (x y z : D) : Prop := ∀ (B H : Hp) (v w : V), Same B H → Dp K H v x → Dp K H w y → ∀ Q : VK, (∀ u B' H', Grow B H B' H' → Dp K B' u z → Q u H') → r v w H Q
theorem ge_op {op : Operator} {r : R2} (ho : OpR X (binaryOp op) r) (ha : GE X G a x) (hb : GE X G b y) (hz : R2D X.K r x y z) : GE X G (.BinOp a op b pos) z :=
  ⟨fun bs B σ H S Q q => inE (pe_op ho pE pE) (ha.run bs B σ H S _ fun v B1 H1 g1 r1 => hb.run bs B1 σ H1 (S.gro g1) _ fun w B2 H2 g2 r2 =>
    hz B2 H2 v w g2.bh (moD r1 g2.b) r2 Q fun u B3 H3 g3 r3 => q u B3 H3 ((g1.trans g2).trans g3) r3)⟩
theorem ge_cmp {op : CmpOp} {r : R2} (ho : OpR X (compareOp op) r) (hm : behindInMarks op b = false) (ha : GH X G a x) (hb : GH X G b y) (hz : R2H X.K r x y z) : GE X G (.Compare a [op] [b] pos) z :=
  ⟨fun bs B σ H S Q q => inE (pe_cmpR ho pE pE hm) (ha.run bs B σ H S _ fun v B1 H1 g1 r1 => hb.run bs B1 σ H1 (S.gro g1) _ fun w B2 H2 g2 r2 =>
    hz B2 H2 v w g2.bh (moD r1 g2.h) r2 Q fun u B3 H3 g3 r3 => q u B3 H3 ((g1.trans g2).trans g3) r3)⟩
theorem gt_cmp {op : CmpOp} {r : R2} {c : Bool} (ho : OpR X (compareOp op) r) (hm : behindInMarks op b = false) (ha : GH X G a x) (hb : GH X G b y) (hz : R2H X.K r x y (.bool c)) : GT X G (.Compare a [op] [b] pos) c :=
  ⟨fun bs B σ H S Q q => inT (pt_cmpR ho pE pE hm) (ha.run bs B σ H S _ fun v B1 H1 g1 r1 => hb.run bs B1 σ H1 (S.gro g1) _ fun w B2 H2 g2 r2 =>
    hz B2 H2 v w g2.bh (moD r1 g2.h) r2 _ fun u B3 H3 g3 r3 => ⟨c, dp_bl r3, q B3 H3 ((g1.trans g2).trans g3)⟩)⟩
theorem r2d_I0 {K : PySem.W.Frag} {i j : Int} {g : Int → Int → V} {z : D} (h : ∀ B, Dp K B (g i j) z) : R2D K (rI0 g) (.int i) (.int j) z := fun B H v w s h1 h2 Q q => ⟨i, j, dp_int h1, dp_int h2, q _ B H (.refl s) (h B)⟩
theorem r2h_I0 {K : PySem.W.Frag} {i j : Int} {g : Int → Int → V} {z : D} (h : ∀ B, Dp K B (g i j) z) : R2H K (rI0 g) (.int i) (.int j) z := fun B H v w s h1 h2 Q q => ⟨i, j, dp_int h1, dp_int h2, q _ B H (.refl s) (h B)⟩
theorem r2d_I {K : PySem.W.Frag} {i j : Int} {Cc : Int → Int → Prop} {g : Int → Int → V} {z : D} (hc : Cc i j) (h : ∀ B, Dp K B (g i j) z) : R2D K (rI Cc g) (.int i) (.int j) z := fun B H v w s h1 h2 Q q => ⟨i, j, dp_int h1, dp_int h2, hc, q _ B H (.refl s) (h B)⟩
theorem op_mulB : OpR X (binaryOp .Mult) (rI IntMulOk fun i j => .int (i * j)) := opI fun _ _ _ _ _ _ _ hc q => mul_int q hc
theorem dpr {K : PySem.W.Frag} {B : Hp} {a : Addr} {xs : List V} {ds : List D} (h : B a = some (.tup xs)) (q : DpAll K B xs ds) : Dp K B (.ref a) (.tuple ds) := .tup (.inl (.inl h)) q
theorem dpl {K : PySem.W.Frag} {B : Hp} {a : Addr} {xs : List V} {ds : List D} (h : B a = some (.lst xs)) (q : DpAll K B xs ds) : Dp K B (.ref a) (.list ds) := .lst (.inl (.inl h)) q
/-- any two lists put together -/
def rCatL (K : PySem.W.Frag) : R2 := fun x y H Q => ∃ l b xs zs, x = .ref l ∧ y = .ref b ∧ SqL K H l xs ∧ SqL K H b zs ∧ xs.length + zs.length ≤ sizeLine ∧ ∀ p, H p = none → Q (.ref p) (upd H p (.lst (xs ++ zs)))
theorem op_catL {X : Cx} : OpR X (binaryOp .Add) (rCatL X.K) := by
  intro pins s σ H x y v u Q I rx ry h
  obtain ⟨l, b, xs, zs, rfl, rfl, hH, hB, hz, q⟩ := h
  cases rx
  cases ry
  obtain ⟨its, r, pl, _⟩ := I.list hH
  obtain ⟨its2, r2, pl2, _⟩ := I.list hB
  have hl := r.length
  have hl2 := r2.length
  obtain ⟨⟨cls, dd, data, sl⟩, ho, hc, n, hd⟩ := id pl.isList
  obtain ⟨⟨cls2, dd2, data2, sl2⟩, ho2, hc2, n2, hd2⟩ := id pl2.isList
  simp only at hc hd hc2 hd2
  subst hc hd hc2 hd2
  have e : its.toArray ++ its2.toArray = (its ++ its2).toArray := by simp
  refine concat_meets ⟨_, ho, rfl⟩ ⟨_, ho2, rfl⟩ noFill_list_add seq_list_add PySem.F.slot_list_add PySem.F.entry_list_add (PySem.F.args_list_add_2 _ _) (list_addW l b its.toArray its2.toArray n n2 dd dd2 sl sl2 (by simp only [List.size_toArray]; omega)) ⟨ho, ho2, ?_⟩
  rw [e]
  exact ⟨.ref _, _, I.lnew (t' := s.toks) (r.append r2) (by rw [List.length_append]; omega), rfl, q _ I.fresh⟩

end
/-! ### sums, products .. -/
inductive AddD : D → D → D → Prop
  | int (i j : Int) : AddD (.int i) (.int j) (.int (i + j))
  | str (x y : Str) : x.length + y.length ≤ sizeLine → AddD (.str x) (.str y) (.str (x ++ y))
  | tup (xs ys : List D) : xs.length + ys.length ≤ sizeLine → AddD (.tuple xs) (.tuple ys) (.tuple (xs ++ ys))
  | lst (xs ys : List D) : xs.length + ys.length ≤ sizeLine → AddD (.list xs) (.list ys) (.list (xs ++ ys))
theorem r2d_catT {K : PySem.W.Frag} {xs ys : List D} (hz : xs.length + ys.length ≤ sizeLine) : R2D K (rCatA K) (.tuple xs) (.tuple ys) (.tuple (xs ++ ys)) := fun B H v w s h1 h2 Q q => by
  obtain ⟨a, us, rfl, p1, p2⟩ := dp_tup h1
  obtain ⟨b, ws, rfl, p3, p4⟩ := dp_tup h2
  have l1 := dpa_len p2
  have l2 := dpa_len p4
  refine ⟨a, b, us, ws, rfl, rfl, same_sqT s p1, same_sqT s p3, by omega, fun e => ?_, fun _ e => ?_, fun _ _ p hp => ?_⟩
  · subst e
    have : xs = [] := List.eq_nil_of_length_eq_zero (by rw [← l1]; rfl)
    subst this
    exact q _ B H (.refl s) (.tup p3 p4)
  · subst e
    have : ys = [] := List.eq_nil_of_length_eq_zero (by rw [← l2]; rfl)
    subst this
    rw [List.append_nil] at q
    exact q _ B H (.refl s) (.tup p1 p2)
  · have g : Grow B H (upd B p (.tup (us ++ ws))) (upd H p (.tup (us ++ ws))) := .new s hp
    exact q _ _ _ g (dpr upd_same (dpa_app (moA p2 g.b) (moA p4 g.b)))
theorem r2d_catL {K : PySem.W.Frag} {xs ys : List D} (hz : xs.length + ys.length ≤ sizeLine) : R2D K (rCatL K) (.list xs) (.list ys) (.list (xs ++ ys)) := fun B H v w s h1 h2 Q q => by
  obtain ⟨a, us, rfl, p1, p2⟩ := dp_lst h1
  obtain ⟨b, ws, rfl, p3, p4⟩ := dp_lst h2
  have l1 := dpa_len p2
  have l2 := dpa_len p4
  refine ⟨a, b, us, ws, rfl, rfl, s.seq p1, s.seq p3, by omega, fun p hp => ?_⟩
  have g : Grow B H (upd B p (.lst (us ++ ws))) (upd H p (.lst (us ++ ws))) := .new s hp
  exact q _ _ _ g (dpl upd_same (dpa_app (moA p2 g.b) (moA p4 g.b)))
section
variable {X : Cx} {G : Gm} {e a b c : Expr} {es : List Expr} {d x y z : D} {ds : List D} {W : Wd} {N : List Str} {sc : Scope} {k : Nat} {pos : Pos}
theorem ge_add (ha : GE X G a x) (hb : GE X G b y) (hz : AddD x y z) : GE X G (.BinOp a .Add b pos) z := by
  cases hz with
  | int i j => exact ge_op op_add ha hb (r2d_I0 fun _ => .int _)
  | str x y h =>
    refine ge_op op_add_str ha hb fun B H v w s h1 h2 Q q => ?_
    exact ⟨x, y, dp_str h1, dp_str h2, h, q _ B H (.refl s) (.str _)⟩
  | tup xs ys h => exact ge_op op_catA ha hb (r2d_catT h)
  | lst xs ys h => exact ge_op op_catL ha hb (r2d_catL h)
/-- two lists put together: one's own -/
theorem go_add {xs ys : List D} (ha : GL X G a xs) (hb : GL X G b ys) (hz : xs.length + ys.length ≤ sizeLine) : GO X G (.BinOp a .Add b pos) (xs ++ ys) :=
  ⟨fun bs B σ H S Q q => inE (pe_op op_catL pE pE) (ha.run bs B σ H S _ fun v vs B1 H1 g1 r1 t1 => hb.run bs B1 σ H1 (S.gro g1) _ fun w ws B2 H2 g2 r2 t2 => by
    have l1 := dpa_len t1
    have l2 := dpa_len t2
    refine ⟨v, w, vs, ws, rfl, rfl, g2.h.seq r1, r2, by omega, fun p hp => ?_⟩
    have g := (g1.trans g2).trans (Grow.own (p := p) (o := .lst (vs ++ ws)) g2.bh hp)
    exact q p _ _ _ g (same_none (g1.trans g2).h hp) (same_none g2.bh hp) upd_same (dpa_app (moA t1 g2.b) t2))⟩
theorem ge_sub {i j : Int} (ha : GE X G a (.int i)) (hb : GE X G b (.int j)) : GE X G (.BinOp a .Sub b pos) (.int (i - j)) := ge_op op_sub ha hb (r2d_I0 fun _ => .int _)
theorem ge_mul {i j : Int} (ha : GE X G a (.int i)) (hb : GE X G b (.int j)) (h : IntMulOk i j) : GE X G (.BinOp a .Mult b pos) (.int (i * j)) := ge_op op_mulB ha hb (r2d_I h fun _ => .int _)
theorem ge_div {i j : Int} (ha : GE X G a (.int i)) (hb : GE X G b (.int j)) (h : CDivW i j) : GE X G (.BinOp a .FloorDiv b pos) (.int (i / j)) := ge_op op_fdivW ha hb (r2d_I h fun _ => .int _)
theorem ge_mod {i j : Int} (ha : GE X G a (.int i)) (hb : GE X G b (.int j)) (h : 0 < j) : GE X G (.BinOp a .Mod b pos) (.int (i % j)) := ge_op op_mod ha hb (r2d_I (Cc := fun _ j => 0 < j) h fun _ => .int _)
theorem ge_fmod {i j : Int} (ha : GE X G a (.int i)) (hb : GE X G b (.int j)) (h : j ≠ 0) : GE X G (.BinOp a .Mod b pos) (.int (i.fmod j)) := ge_op op_modN ha hb (r2d_I (Cc := fun _ j => j ≠ 0) h fun _ => .int _)
theorem ge_pow {i j : Int} (ha : GE X G a (.int i)) (hb : GE X G b (.int j)) (h : CPow i j) : GE X G (.BinOp a .Pow b pos) (.int (i ^ j.toNat)) := ge_op op_pow ha hb (r2d_I h fun _ => .int _)
theorem ge_neg {i : Int} (ha : GE X G a (.int i)) : GE X G (.UnaryOp .USub a pos) (.int (-i)) :=
  ⟨fun bs B σ H S Q q => inE (pe_un un_neg pE) (ha.run bs B σ H S _ fun v B1 H1 g1 r1 => ⟨i, dp_int r1, q _ B1 H1 g1 (.int _)⟩)⟩

/-! ### comparisons -/
inductive CmpD : CmpOp → D → D → Bool → Prop
  | lt (i j : Int) : CmpD .Lt (.int i) (.int j) (decide (i < j))
  | le (i j : Int) : CmpD .LtE (.int i) (.int j) (decide (i ≤ j))
  | gt (i j : Int) : CmpD .Gt (.int i) (.int j) (decide (j < i))
  | ge (i j : Int) : CmpD .GtE (.int i) (.int j) (decide (j ≤ i))
  | eqI (i j : Int) : CmpD .Eq (.int i) (.int j) (decide (i = j))
  | neI (i j : Int) : CmpD .NotEq (.int i) (.int j) (!decide (i = j))
  | eq (x y : D) : SeqAt.shaped x = true → SeqAt.shaped y = true → CmpD .Eq x y (PyData.eqv x y)
  | ne (x y : D) : SeqAt.shaped x = true → SeqAt.shaped y = true → CmpD .NotEq x y (!PyData.eqv x y)
  | isN (x : D) : CmpD .Is x .none (PyData.eqv x .none)
  | notN (x : D) : CmpD .IsNot x .none (!PyData.eqv x .none)
  | inL (x : D) (ds : List D) : SeqAt.shaped x = true → SeqAt.shaped (.list ds) = true → CmpD .In x (.list ds) (ds.any fun z => PyData.eqv z x)
  | ninL (x : D) (ds : List D) : SeqAt.shaped x = true → SeqAt.shaped (.list ds) = true → CmpD .NotIn x (.list ds) (!ds.any fun z => PyData.eqv z x)
  | inS (x y : Str) : CmpD .In (.str x) (.str y) (!(Builtin.Str.occurrences y x 0 y.length 1).isEmpty)
  | ninS (x y : Str) : CmpD .NotIn (.str x) (.str y) (!(!(Builtin.Str.occurrences y x 0 y.length 1).isEmpty))
theorem eqv_ints (i j : Int) : PyData.eqv (.int i) (.int j) = decide (i = j) := by
  simp only [PyData.eqv]
  by_cases h : i = j <;> simp [h]
theorem dp_isN {K : PySem.W.Frag} {H : Hp} {v : V} {x : D} (h : Dp K H v x) : decide (v = .non) = PyData.eqv x .none := by
  cases h <;> rfl
theorem cmp_run {op : CmpOp} {x y : D} {c : Bool} {kk : Nat} (hr : Room kk X.A) (h : CmpD op x y c) : ∃ r, OpR X (compareOp op) r ∧ R2H X.K r x y (.bool c) := by
  have hu := hr.units
  have hun := hr.un
  cases h with
  | lt i j => exact ⟨_, op_lt, r2h_I0 fun _ => .bl _⟩
  | le i j => exact ⟨_, op_le, r2h_I0 fun _ => .bl _⟩
  | gt i j => exact ⟨_, op_gt, r2h_I0 fun _ => .bl _⟩
  | ge i j => exact ⟨_, op_ge, r2h_I0 fun _ => .bl _⟩
  | eqI i j => exact ⟨_, op_eqD hu, fun B H v w s h1 h2 Q q => ⟨_, _, h1, h2, rfl, rfl, by rw [eqv_ints]; exact q _ B H (.refl s) (.bl _)⟩⟩
  | neI i j => exact ⟨_, op_neD hu, fun B H v w s h1 h2 Q q => ⟨_, _, h1, h2, rfl, rfl, by rw [eqv_ints]; exact q _ B H (.refl s) (.bl _)⟩⟩
  | eq x y sx sy => exact ⟨_, op_eqD hu, fun B H v w s h1 h2 Q q => ⟨_, _, h1, h2, sx, sy, q _ B H (.refl s) (.bl _)⟩⟩
  | ne x y sx sy => exact ⟨_, op_neD hu, fun B H v w s h1 h2 Q q => ⟨_, _, h1, h2, sx, sy, q _ B H (.refl s) (.bl _)⟩⟩
  | isN x => exact ⟨_, op_isN, fun B H v w s h1 h2 Q q => ⟨dp_non h2, by rw [dp_isN h1]; exact q _ B H (.refl s) (.bl _)⟩⟩
  | notN x => exact ⟨_, op_notN, fun B H v w s h1 h2 Q q => ⟨dp_non h2, by rw [dp_isN h1]; exact q _ B H (.refl s) (.bl _)⟩⟩
  | inL x ds sx sy => exact ⟨_, op_inD (by omega), fun B H v w s h1 h2 Q q => ⟨_, _, h1, h2, sx, sy, q _ B H (.refl s) (.bl _)⟩⟩
  | ninL x ds sx sy => exact ⟨_, op_notInD (by omega), fun B H v w s h1 h2 Q q => ⟨_, _, h1, h2, sx, sy, q _ B H (.refl s) (.bl _)⟩⟩
  | inS x y => exact ⟨_, op_in_str, fun B H v w s h1 h2 Q q => ⟨_, _, dp_str h1, dp_str h2, q _ B H (.refl s) (.bl _)⟩⟩
  | ninS x y => exact ⟨_, op_notIn_str, fun B H v w s h1 h2 Q q => ⟨_, _, dp_str h1, dp_str h2, q _ B H (.refl s) (.bl _)⟩⟩
theorem ge_cp {op : CmpOp} {cb : Bool} (C : Cok X W N sc k) (ha : GH X G a x) (hb : GH X G b y) (hz : CmpD op x y cb) (hm : behindInMarks op b = false) : GE X G (.Compare a [op] [b] pos) (.bool cb) := by
  obtain ⟨r, ho, hr⟩ := cmp_run C.room hz
  exact ge_cmp ho hm ha hb hr
theorem gt_cp {op : CmpOp} {cb : Bool} (C : Cok X W N sc k) (ha : GH X G a x) (hb : GH X G b y) (hz : CmpD op x y cb) (hm : behindInMarks op b = false) : GT X G (.Compare a [op] [b] pos) cb := by
  obtain ⟨r, ho, hr⟩ := cmp_run C.room hz
  exact gt_cmp ho hm ha hb hr

/-! ### and, or, not, if -/
end
def tW (X : Cx) (e : Expr) : TT := fun σ H Q => ∀ (whole : Sem Value) (pins : List (Addr × Obj)) (s : Shared), Inv X pins σ H s → wpAny (model X.prog X.w) X.A (isTrue e X.env whole) (TP X pins σ Q) X.xe s
theorem pW {X : Cx} {e : Expr} : PW X e (tW X e) := ⟨fun wh pins s _ _ _ I h => h wh pins s I⟩
theorem inW {X : Cx} {e : Expr} {σ : L2.St} {H : Hp} {t : TT} {Q : Bool → Hp → Prop} (p : PW X e t) (h : t σ H Q) : tW X e σ H Q := fun wh pins s I => p.run wh pins s σ H Q I h
structure GW (X : Cx) (G : Gm) (e : Expr) (b : Bool) : Prop where
  run : ∀ (bs : Bs) (B : Hp) (σ : L2.St) (H : Hp), Sat X.K bs G B σ H → ∀ Q : Bool → Hp → Prop, (∀ B' H', Grow B H B' H' → Q b H') → tW X e σ H Q
section
variable {X : Cx} {G : Gm} {e a b c : Expr} {es rest : List Expr} {d x y z : D} {ds : List D} {W : Wd} {N : List Str} {sc : Scope} {k : Nat} {pos : Pos} {t u : Bool}
theorem GW.gt (h : GW X G e t) : GT X G e t := ⟨fun bs B σ H S Q q => inT pW.pt (h.run bs B σ H S Q q)⟩
theorem gw_and1 (ha : GT X G a t) : GW X G (.BoolOp .And [a] pos) t := ⟨fun bs B σ H S Q q => inW (pw_and1 pT) (ha.run bs B σ H S Q q)⟩
theorem gw_or1 (ha : GT X G a t) : GW X G (.BoolOp .Or [a] pos) t := ⟨fun bs B σ H S Q q => inW (pw_or1 pT) (ha.run bs B σ H S Q q)⟩
theorem gw_and (ha : GT X G a t) (hb : t = true → GW X G (.BoolOp .And (b :: rest) pos) u) : GW X G (.BoolOp .And (a :: b :: rest) pos) (t && u) :=
  ⟨fun bs B σ H S Q q => inW (pw_and pT pW) (ha.run bs B σ H S _ fun B1 H1 g1 => by
    cases t with
    | true => exact iteT ((hb rfl).run bs B1 σ H1 (S.gro g1) _ fun B2 H2 g2 => q B2 H2 (g1.trans g2))
    | false => exact iteF (q B1 H1 g1))⟩
theorem gw_or (ha : GT X G a t) (hb : t = false → GW X G (.BoolOp .Or (b :: rest) pos) u) : GW X G (.BoolOp .Or (a :: b :: rest) pos) (t || u) :=
  ⟨fun bs B σ H S Q q => inW (pw_or pT pW) (ha.run bs B σ H S _ fun B1 H1 g1 => by
    cases t with
    | false => exact iteF ((hb rfl).run bs B1 σ H1 (S.gro g1) _ fun B2 H2 g2 => q B2 H2 (g1.trans g2))
    | true => exact iteT (q B1 H1 g1))⟩
theorem gt_not (ha : GT X G a t) : GT X G (.UnaryOp .Not a pos) (!t) := ⟨fun bs B σ H S Q q => inT (pt_not pT) (ha.run bs B σ H S _ fun B1 H1 g1 => q B1 H1 g1)⟩
/-- .. as values -/
theorem ge_one {op : BoolOp} (ha : GE X G a d) : GE X G (.BoolOp op [a] pos) d := ⟨fun bs B σ H S Q q => inE (pe_one pE) (ha.run bs B σ H S Q q)⟩
theorem ge_and (ha : GE X G a (.bool t)) (hb : t = true → GE X G (.BoolOp .And (b :: rest) pos) (.bool u)) : GE X G (.BoolOp .And (a :: b :: rest) pos) (.bool (t && u)) :=
  ⟨fun bs B σ H S Q q => inE (pe_and pE pE) (ha.run bs B σ H S _ fun v B1 H1 g1 r1 => ⟨t, dp_bl r1, by
    cases t with
    | true => exact iteT ((hb rfl).run bs B1 σ H1 (S.gro g1) _ fun v B2 H2 g2 r2 => q v B2 H2 (g1.trans g2) r2)
    | false => exact iteF (q _ B1 H1 g1 (.bl _))⟩)⟩
theorem ge_or (ha : GE X G a (.bool t)) (hb : t = false → GE X G (.BoolOp .Or (b :: rest) pos) (.bool u)) : GE X G (.BoolOp .Or (a :: b :: rest) pos) (.bool (t || u)) :=
  ⟨fun bs B σ H S Q q => inE (pe_or pE pE) (ha.run bs B σ H S _ fun v B1 H1 g1 r1 => ⟨t, dp_bl r1, by
    cases t with
    | false => exact iteF ((hb rfl).run bs B1 σ H1 (S.gro g1) _ fun v B2 H2 g2 r2 => q v B2 H2 (g1.trans g2) r2)
    | true => exact iteT (q _ B1 H1 g1 (.bl _))⟩)⟩
theorem ge_not (ha : GE X G a (.bool t)) : GE X G (.UnaryOp .Not a pos) (.bool (!t)) :=
  ⟨fun bs B σ H S Q q => inE (pe_not pE) (ha.run bs B σ H S _ fun v B1 H1 g1 r1 => ⟨t, dp_bl r1, q _ B1 H1 g1 (.bl _)⟩)⟩
theorem ge_if {c : Expr} (hc : GT X G c t) (ha : t = true → GE X G a d) (hb : t = false → GE X G b d) : GE X G (.IfExp c a b pos) d :=
  ⟨fun bs B σ H S Q q => inE (pe_ifExp pT pE pE) (hc.run bs B σ H S _ fun B1 H1 g1 => by
    cases t with
    | true => exact iteT ((ha rfl).run bs B1 σ H1 (S.gro g1) _ fun v B2 H2 g2 r2 => q v B2 H2 (g1.trans g2) r2)
    | false => exact iteF ((hb rfl).run bs B1 σ H1 (S.gro g1) _ fun v B2 H2 g2 r2 => q v B2 H2 (g1.trans g2) r2))⟩
/-- an expression that gives a truth, as a test -/
theorem gt_val (h : GE X G e (.bool t)) (he : ∀ whole, isTrue e X.env whole = (do let v ← whole; standAt e.pos; holding [v] (truthy v))) : GT X G e t :=
  ⟨fun bs B σ H S Q q => inT (pt_val pE he) (h.run bs B σ H S _ fun v B1 H1 g1 r1 => ⟨t, dp_bl r1, q B1 H1 g1⟩)⟩
/-! ### displays -/
def nst (e : Expr) : Bool := match e with
  | .Starred .. => false
  | _ => true
theorem star_cons {e : Expr} {es : List Expr} {env : Env} (h : nst e = true) : starEach (e :: es) env = (false, eval e env) :: starEach es env := by
  cases e <;> first | rfl | cases h
theorem star_all {env : Env} {pos : Pos} : ∀ {es : List Expr}, es.all nst = true → (backTo pos (starEach es env)).any (·.1) = false
  | [], _ => rfl
  | e :: es, h => by
    rw [List.all_cons, Bool.and_eq_true] at h
    have e1 := star_all (env := env) (pos := pos) (es := es) h.2
    rw [star_cons h.1]
    exact e1
theorem ga_nil : GA X G [] [] := ⟨fun bs B σ H S Q q => inA pa_nil (q [] B H (.refl S.bh) .nil)⟩
theorem ga_cons (he : GE X G e d) (hr : GA X G es ds) (hs : nst e = true) : GA X G (e :: es) (d :: ds) :=
  ⟨fun bs B σ H S Q q => inA (pa_cons pE pA (star_cons hs)) (he.run bs B σ H S _ fun v B1 H1 g1 r1 => hr.run bs B1 σ H1 (S.gro g1) _ fun vs B2 H2 g2 r2 => q _ B2 H2 (g1.trans g2) (.cons (moD r1 g2.b) r2))⟩
theorem ge_tup {x1 : Nat} (h : GA X G es ds) (hl : ds.length ≤ sizeLine) : GE X G (.Tuple es x1 pos) (.tuple ds) :=
  ⟨fun bs B σ H S Q q => inE (pe_tup pA) (h.run bs B σ H S _ fun vs B1 H1 g1 r1 => ⟨by rw [dpa_len r1]; exact hl, fun p hp => by
    have g : Grow B1 H1 (upd B1 p (.tup vs)) (upd H1 p (.tup vs)) := .new g1.bh hp
    exact q _ _ _ (g1.trans g) (dpr upd_same (moA r1 g.b))⟩)⟩
theorem go_lst (h : GA X G es ds) (hl : ds.length ≤ sizeLine) {x1 : Unit} : GO X G (.List es pos) ds :=
  ⟨fun bs B σ H S Q q => inE (pe_lst pA) (h.run bs B σ H S _ fun vs B1 H1 g1 r1 => ⟨by rw [dpa_len r1]; exact hl, fun p hp => by
    have g : Grow B1 H1 B1 (upd H1 p (.lst vs)) := .own g1.bh hp
    exact q p vs _ _ (g1.trans g) (same_none g1.h hp) (same_none g1.bh hp) upd_same r1⟩)⟩
end
end DW

set_option Elab.async false
set_option linter.all false
set_option maxRecDepth 100000
set_option maxHeartbeats 4000000
set_option autoImplicit false
namespace DW
open PySem PySem.Spec PyProof.Rows L2

/-! ### places and slices -/
theorem dpa_at {K : PySem.W.Frag} {B : Hp} {ds : List D} {vs : List V} {i : Int} {d : D} (h : DpAll K B vs ds) (e : atI ds i = some d) : ∃ v, atI vs i = some v ∧ Dp K B v d := by
  unfold atI at e ⊢
  rw [dpa_len h]
  cases q : ixN ds.length i with
  | none =>
    rw [q] at e
    cases e
  | some j =>
    rw [q] at e
    exact dpa_get h e
def cutD (xs : List D) (lo hi : Option Int) : List D := (xs.drop (HT.sIx xs.length 0 lo)).take (HT.sIx xs.length xs.length hi - HT.sIx xs.length 0 lo)
theorem dpa_cut {K : PySem.W.Frag} {B : Hp} {ds : List D} {vs : List V} {lo hi : Option Int} (h : DpAll K B vs ds) : DpAll K B (cutV vs lo hi) (cutD ds lo hi) := by
  unfold cutV cutD
  rw [dpa_len h]
  exact dpa_take _ (dpa_drop _ h)
theorem cutD_whole {ds : List D} {lo hi : Option Int} (h : HT.sIx ds.length 0 lo = 0 ∧ HT.sIx ds.length ds.length hi = ds.length) : cutD ds lo hi = ds := by
  unfold cutD
  rw [h.1, h.2]
  simp
def tP (X : Cx) (e : Option Expr) : TO := fun σ H Q => ∀ (pins : List (Addr × Obj)) (s : Shared), Inv X pins σ H s → wpAny (model X.prog X.w) X.A (evalPart e X.env) (fun u s' => ∃ o H', Inv X pins σ H' s' ∧ IsPart u o ∧ Q o H') X.xe s
theorem pP {X : Cx} {e : Option Expr} : PO X e (tP X e) := ⟨fun pins s _ _ _ I h => h pins s I⟩
theorem inP {X : Cx} {e : Option Expr} {σ : L2.St} {H : Hp} {t : TO} {Q : Option Int → Hp → Prop} (p : PO X e t) (h : t σ H Q) : tP X e σ H Q := fun pins s I => p.run pins s σ H Q I h
structure GP (X : Cx) (G : Gm) (e : Option Expr) (o : Option Int) : Prop where
  run : ∀ (bs : Bs) (B : Hp) (σ : L2.St) (H : Hp), Sat X.K bs G B σ H → ∀ Q : Option Int → Hp → Prop, (∀ B' H', Grow B H B' H' → Q o H') → tP X e σ H Q
section
variable {X : Cx} {G : Gm} {e a b c : Expr} {es rest : List Expr} {d x y z : D} {ds : List D} {W : Wd} {N : List Str} {sc : Scope} {k : Nat} {pos p2 : Pos} {t u : Bool} {lo hi : Option Expr} {l h : Option Int}
theorem gp_no : GP X G none none := ⟨fun bs B σ H S Q q => inP po_none (q B H (.refl S.bh))⟩
theorem gp_yes {i : Int} (he : GE X G e (.int i)) : GP X G (some e) (some i) := ⟨fun bs B σ H S Q q => inP (po_some pE) (he.run bs B σ H S _ fun v B1 H1 g1 r1 => ⟨i, dp_int r1, q B1 H1 g1⟩)⟩
theorem ge_ixT {i : Int} (ha : GE X G a (.tuple ds)) (hb : GE X G b (.int i)) (hd : atI ds i = some d) (hs : PlainIx b) : GE X G (.Subscript a b pos) d :=
  ⟨fun bs B σ H S Q q => inE (pe_ix ix_tup pE pE hs) (ha.run bs B σ H S _ fun v B1 H1 g1 r1 => hb.run bs B1 σ H1 (S.gro g1) _ fun w B2 H2 g2 r2 => by
    obtain ⟨p, vs, rfl, h1, h2⟩ := dp_tup r1
    obtain ⟨v', h3, h4⟩ := dpa_at h2 hd
    exact ⟨p, vs, i, v', rfl, dp_int r2, same_sqT (g2.b.trans g2.bh) h1, h3, q _ B2 H2 (g1.trans g2) (moD h4 g2.b)⟩)⟩
theorem ge_ixL {i : Int} (ha : GL X G a ds) (hb : GE X G b (.int i)) (hd : atI ds i = some d) (hs : PlainIx b) : GE X G (.Subscript a b pos) d :=
  ⟨fun bs B σ H S Q q => inE (pe_ix ix_list pE pE hs) (ha.run bs B σ H S _ fun p vs B1 H1 g1 r1 h2 => hb.run bs B1 σ H1 (S.gro g1) _ fun w B2 H2 g2 r2 => by
    obtain ⟨v', h3, h4⟩ := dpa_at h2 hd
    exact ⟨p, vs, i, v', rfl, dp_int r2, g2.h.seq r1, h3, q _ B2 H2 (g1.trans g2) (moD h4 g2.b)⟩)⟩
theorem ge_ixS {i : Int} {s : Str} {c : Nat} (ha : GE X G a (.str s)) (hb : GE X G b (.int i)) (hl : s.length ≤ sizeLine) (hd : atI s.cps.toList i = some c) (hs : PlainIx b) : GE X G (.Subscript a b pos) (.str ⟨#[c]⟩) :=
  ⟨fun bs B σ H S Q q => inE (pe_ix ix_str pE pE hs) (ha.run bs B σ H S _ fun p B1 H1 g1 r1 => hb.run bs B1 σ H1 (S.gro g1) _ fun w B2 H2 g2 r2 =>
    ⟨s, i, c, dp_str r1, dp_int r2, hl, hd, q _ B2 H2 (g1.trans g2) (.str _)⟩)⟩
theorem ge_slT (ha : GE X G a (.tuple ds)) (hl : GP X G lo l) (hh : GP X G hi h) : GE X G (.Subscript a (.Slice lo hi none p2) pos) (.tuple (cutD ds l h)) :=
  ⟨fun bs B σ H S Q q => inE (pe_slice sl_tupA pE pP pP) (ha.run bs B σ H S _ fun v B1 H1 g1 r1 => hl.run bs B1 σ H1 (S.gro g1) _ fun B2 H2 g2 => hh.run bs B2 σ H2 (S.gro (g1.trans g2)) _ fun B3 H3 g3 => by
    obtain ⟨p, vs, rfl, h1, h2⟩ := dp_tup r1
    have gb := g2.b.trans g3.b
    have ll := dpa_len h2
    refine ⟨p, vs, rfl, same_sqT (gb.trans g3.bh) h1, fun e => ?_, fun e p' hp => ?_⟩
    · rw [ll] at e
      rw [cutD_whole e] at q
      exact q _ B3 H3 ((g1.trans g2).trans g3) (.tup (same_sqT gb h1) (moA h2 gb))
    · have g : Grow B3 H3 (upd B3 p' (.tup (cutV vs l h))) (upd H3 p' (.tup (cutV vs l h))) := .new g3.bh hp
      exact q _ _ _ (((g1.trans g2).trans g3).trans g) (dpr upd_same (moA (dpa_cut h2) (gb.trans g.b))))⟩
theorem go_slL (ha : GL X G a ds) (hl : GP X G lo l) (hh : GP X G hi h) : GO X G (.Subscript a (.Slice lo hi none p2) pos) (cutD ds l h) :=
  ⟨fun bs B σ H S Q q => inE (pe_slice sl_list pE pP pP) (ha.run bs B σ H S _ fun p vs B1 H1 g1 r1 h2 => hl.run bs B1 σ H1 (S.gro g1) _ fun B2 H2 g2 => hh.run bs B2 σ H2 (S.gro (g1.trans g2)) _ fun B3 H3 g3 => by
    have gg := (g1.trans g2).trans g3
    refine ⟨p, vs, rfl, (g2.h.trans g3.h).seq r1, fun p' hp => ?_⟩
    have g : Grow B3 H3 B3 (upd H3 p' (.lst (cutV vs l h))) := .own g3.bh hp
    exact q p' _ _ _ (gg.trans g) (same_none gg.h hp) (same_none g3.bh hp) upd_same (moA (dpa_cut h2) (g2.b.trans g3.b)))⟩
end

/-! ### calls of built-in things -/
def RcH (X : Cx) (r : List V → Hp → VK → Prop) (ds : List D) (z : D) : Prop := ∀ (B H : Hp) (vs : List V), Same B H → DpAll X.K H vs ds → ∀ Q : VK, (∀ u B' H', Grow B H B' H' → Dp X.K B' u z → Q u H') → r vs H Q
structure GAH (X : Cx) (G : Gm) (es : List Expr) (ds : List D) : Prop where
  run : ∀ (bs : Bs) (B : Hp) (σ : L2.St) (H : Hp), Sat X.K bs G B σ H → ∀ Q : List V → Hp → Prop, (∀ vs B' H', Grow B H B' H' → DpAll X.K H' vs ds → Q vs H') → tA X es σ H Q
section
variable {X : Cx} {G : Gm} {e a b c : Expr} {es rest : List Expr} {d x y z : D} {ds : List D} {W : Wd} {N : List Str} {sc : Scope} {k : Nat} {pos p2 p : Pos} {t u : Bool}
theorem gah_nil : GAH X G [] [] := ⟨fun bs B σ H S Q q => inA pa_nil (q [] B H (.refl S.bh) .nil)⟩
theorem gah_cons (he : GH X G e d) (hr : GAH X G es ds) (hs : nst e = true) : GAH X G (e :: es) (d :: ds) :=
  ⟨fun bs B σ H S Q q => inA (pa_cons pE pA (star_cons hs)) (he.run bs B σ H S _ fun v B1 H1 g1 r1 => hr.run bs B1 σ H1 (S.gro g1) _ fun vs B2 H2 g2 r2 => q _ B2 H2 (g1.trans g2) (.cons (moD r1 g2.h) r2))⟩
theorem ge_cb {nm : Str} {id : String} {r : List V → Hp → VK → Prop} (C : Cok X W N sc k) (hg : glB sc nm = true) (hm : W.mg nm = none) (hv : bootBuiltins nm = some (.builtin id)) (hc : CallR X (.builtin id) r) (ha : GAH X G (e :: es) ds) (hz : RcH X r ds z) (hn : nm ≠ "__name__")
    (he : nst e = true) (hpl : es.all nst = true) : GE X G (.Call (.Name nm p) (e :: es) [] pos) z := by
  have hm' : X.mg nm = none := by
    have := C.wd
    subst this
    exact hm
  exact ⟨fun bs B σ H S Q q => inE (pe_callB hc (C.gl nm hg).1 hm' hv pA hn (C.gl nm hg).2 (star_cons he) (star_all hpl)) (ha.run bs B σ H S _ fun vs B1 H1 g1 r1 => hz B1 H1 vs g1.bh r1 Q fun u B2 H2 g2 r2 => q u B2 H2 (g1.trans g2) r2)⟩
theorem ge_ct {nm : Str} {id : String} {r : List V → Hp → VK → Prop} (C : Cok X W N sc k) (hg : glB sc nm = true) (hm : W.mg nm = none) (hv : bootBuiltins nm = some (.type id)) (hc : CallR X (.type id) r) (ha : GAH X G (e :: es) ds) (hz : RcH X r ds z) (hn : nm ≠ "__name__")
    (he : nst e = true) (hpl : es.all nst = true) : GE X G (.Call (.Name nm p) (e :: es) [] pos) z := by
  have hm' : X.mg nm = none := by
    have := C.wd
    subst this
    exact hm
  exact ⟨fun bs B σ H S Q q => inE (pe_callTy hc (C.gl nm hg).1 hm' hv pA hn (C.gl nm hg).2 (star_cons he) (star_all hpl)) (ha.run bs B σ H S _ fun vs B1 H1 g1 r1 => hz B1 H1 vs g1.bh r1 Q fun u B2 H2 g2 r2 => q u B2 H2 (g1.trans g2) r2)⟩
end
theorem dpa_one {K : PySem.W.Frag} {H : Hp} {vs : List V} {d : D} (h : DpAll K H vs [d]) : ∃ v, vs = [v] ∧ Dp K H v d := by
  cases h with
  | cons h1 h2 =>
    cases h2
    exact ⟨_, rfl, h1⟩
theorem dpa_two {K : PySem.W.Frag} {H : Hp} {vs : List V} {d e : D} (h : DpAll K H vs [d, e]) : ∃ v w, vs = [v, w] ∧ Dp K H v d ∧ Dp K H w e := by
  cases h with
  | cons h1 h2 =>
    obtain ⟨w, rfl, h3⟩ := dpa_one h2
    exact ⟨_, w, rfl, h1, h3⟩
theorem rc_len {X : Cx} {ds : List D} : RcH X (fun xs H Q => ∃ p ys, xs = [.ref p] ∧ (SqL X.K H p ys ∨ SqT X.K H p ys) ∧ Q (.int ys.length) H) [.list ds] (.int (ds.length : Int)) := fun B H vs s h Q q => by
  obtain ⟨v, rfl, h1⟩ := dpa_one h
  obtain ⟨p, us, rfl, h2, h3⟩ := dp_lst h1
  refine ⟨p, us, rfl, .inl h2, ?_⟩
  rw [dpa_len h3]
  exact q _ B H (.refl s) (.int _)
theorem rc_lenT {X : Cx} {ds : List D} : RcH X (fun xs H Q => ∃ p ys, xs = [.ref p] ∧ (SqL X.K H p ys ∨ SqT X.K H p ys) ∧ Q (.int ys.length) H) [.tuple ds] (.int (ds.length : Int)) := fun B H vs s h Q q => by
  obtain ⟨v, rfl, h1⟩ := dpa_one h
  obtain ⟨p, us, rfl, h2, h3⟩ := dp_tup h1
  refine ⟨p, us, rfl, .inr h2, ?_⟩
  rw [dpa_len h3]
  exact q _ B H (.refl s) (.int _)
theorem rc_lenS {X : Cx} {s : Str} (hl : s.length ≤ sizeLine) : RcH X (fun xs H Q => ∃ z, xs = [.str z] ∧ z.length ≤ sizeLine ∧ Q (.int z.length) H) [.str s] (.int (s.length : Int)) := fun B H vs sm h Q q => by
  obtain ⟨v, rfl, h1⟩ := dpa_one h
  exact ⟨s, by rw [dp_str h1], hl, q _ B H (.refl sm) (.int _)⟩
theorem rc_abs {X : Cx} {i : Int} : RcH X (fun xs H Q => ∃ i, xs = [.int i] ∧ Q (.int (if i < 0 then -i else i)) H) [.int i] (.int (if i < 0 then -i else i)) := fun B H vs s h Q q => by
  obtain ⟨v, rfl, h1⟩ := dpa_one h
  exact ⟨i, by rw [dp_int h1], q _ B H (.refl s) (.int _)⟩
theorem rc_max2 {X : Cx} {i j : Int} : RcH X (fun xs H Q => ∃ i j, xs = [.int i, .int j] ∧ Q (.int (if j > i then j else i)) H) [.int i, .int j] (.int (if j > i then j else i)) := fun B H vs s h Q q => by
  obtain ⟨v, w, rfl, h1, h2⟩ := dpa_two h
  exact ⟨i, j, by rw [dp_int h1, dp_int h2], q _ B H (.refl s) (.int _)⟩
theorem rc_min2 {X : Cx} {i j : Int} : RcH X (fun xs H Q => ∃ i j, xs = [.int i, .int j] ∧ Q (.int (if j < i then j else i)) H) [.int i, .int j] (.int (if j < i then j else i)) := fun B H vs s h Q q => by
  obtain ⟨v, w, rfl, h1, h2⟩ := dpa_two h
  exact ⟨i, j, by rw [dp_int h1, dp_int h2], q _ B H (.refl s) (.int _)⟩
theorem rc_intB {X : Cx} {b : Bool} : RcH X (fun xs H Q => (∃ i, xs = [.int i] ∧ Q (.int i) H) ∨ ∃ k, xs = [.bl k] ∧ Q (.int (if k then 1 else 0)) H) [.bool b] (.int (if b then 1 else 0)) := fun B H vs s h Q q => by
  obtain ⟨v, rfl, h1⟩ := dpa_one h
  exact .inr ⟨b, by rw [dp_bl h1], q _ B H (.refl s) (.int _)⟩
theorem dpa_ints {K : PySem.W.Frag} {H : Hp} : ∀ {ns : List Int} {vs : List V}, DpAll K H vs (ns.map PyData.int) → vs = ns.map V.int
  | [], _, h => by
    cases h
    rfl
  | n :: ns, _, h => by
    have h' : DpAll K H _ (PyData.int n :: ns.map PyData.int) := h
    cases h' with
    | cons h1 h2 => rw [dp_int h1, dpa_ints h2, List.map_cons]
theorem rc_sum {X : Cx} {ns : List Int} : RcH X (rSum X.K) [.list (ns.map .int)] (.int ns.sum) := fun B H vs s h Q q => by
  obtain ⟨v, rfl, h1⟩ := dpa_one h
  obtain ⟨p, us, rfl, h2, h3⟩ := dp_lst h1
  rw [dpa_ints h3] at h2
  exact ⟨p, ns, rfl, h2, q _ B H (.refl s) (.int _)⟩
/-- isinstance by a built-in class -/
def tyD : D → String
  | .none => "NoneType"
  | .bool _ => "bool"
  | .int _ => "int"
  | .str _ => "str"
  | .list _ => "list"
  | .tuple _ => "tuple"
  | .dict _ => "dict"
theorem tyx_of {K : PySem.W.Frag} {H : Hp} {v : V} {d : D} (h : Dp K H v d) : TyX K H v (.type (tyD d)) := by
  cases h with
  | non => exact .base .non
  | bl b => exact .base (.bl b)
  | int i => exact .base (.int i)
  | str x => exact .base (.str x)
  | lst h1 h2 =>
    rcases h1 with (h1 | ⟨o, h1⟩) | ⟨o, its, n, h1, h3, _⟩
    · exact .base (.lst h1)
    · exact .base (.frz h1)
    · exact .kList h1 h3
  | tup h1 h2 =>
    rcases h1 with (h1 | ⟨o, h1⟩) | ⟨o, its, n, h1, h3, _⟩
    · exact .base (.tup h1)
    · exact .fTuple h1
    · exact .kTuple h1 h3
section
variable {X : Cx} {G : Gm} {e a b c : Expr} {es rest : List Expr} {d x y z : D} {ds : List D} {W : Wd} {N : List Str} {sc : Scope} {k : Nat} {pos p2 p : Pos} {t u : Bool}
theorem ge_isi {T : Str} {Tn : String} {cb : Bool} (C : Cok X W N sc k) (hg : glB sc "isinstance" = true) (hm : W.mg "isinstance" = none) (hgT : glB sc T = true) (hmT : W.mg T = none) (hvT : bootBuiltins T = some (.type Tn)) (hnT : T ≠ "__name__") (ha : GH X G a d) (hk : kitB (tyD d) Tn = some cb) (he : nst a = true) :
    GE X G (.Call (.Name "isinstance" p) [a, .Name T p2] [] pos) (.bool cb) := by
  have hw := C.wd
  subst hw
  have hT : PE X (.Name T p2) (tC (.ty Tn)) := pe_bltn (v := .ty Tn) (C.gl T hgT).1 hmT hvT rfl hnT (C.gl T hgT).2
  refine ⟨fun bs B σ H S Q q => inE (pe_callB call_isi (C.gl _ hg).1 hm (by decide +kernel) (pa_cons pE (pa_cons hT pa_nil (star_cons rfl)) (star_cons he)) (by decide) (C.gl _ hg).2 (star_cons he) (star_all rfl)) (ha.run bs B σ H S _ fun v B1 H1 g1 r1 => ?_)⟩
  exact ⟨v, .ty Tn, _, _, cb, rfl, .ty Tn, tyx_of r1, kit_ty hk, q _ B1 H1 g1 (.bl _)⟩
end

/-! ### list(x), tuple(x) -/
section
variable {X : Cx} {G : Gm} {e a b c : Expr} {es rest : List Expr} {d x y z : D} {ds : List D} {W : Wd} {N : List Str} {sc : Scope} {k : Nat} {pos p2 p : Pos} {t u : Bool}
theorem go_list (C : Cok X W N sc k) (hg : glB sc "list" = true) (hm : W.mg "list" = none) (ha : GL X G e ds) (he : nst e = true) : GO X G (.Call (.Name "list" p) [e] [] pos) ds := by
  have hw := C.wd
  subst hw
  refine ⟨fun bs B σ H S Q q => inE (pe_callTy call_list_of (C.gl _ hg).1 hm (by decide +kernel) (pa_cons pE pa_nil (star_cons he)) (by decide) (C.gl _ hg).2 (star_cons he) (star_all rfl)) (ha.run bs B σ H S _ fun p vs B1 H1 g1 r1 r2 => ?_)⟩
  refine ⟨p, vs, rfl, .inl r1, fun l hl => ?_⟩
  have g : Grow B1 H1 B1 (upd H1 l (.lst vs)) := .own g1.bh hl
  exact q l vs _ _ (g1.trans g) (same_none g1.h hl) (same_none g1.bh hl) upd_same r2
theorem go_listT (C : Cok X W N sc k) (hg : glB sc "list" = true) (hm : W.mg "list" = none) (ha : GE X G e (.tuple ds)) (he : nst e = true) : GO X G (.Call (.Name "list" p) [e] [] pos) ds := by
  have hw := C.wd
  subst hw
  refine ⟨fun bs B σ H S Q q => inE (pe_callTy call_list_of (C.gl _ hg).1 hm (by decide +kernel) (pa_cons pE pa_nil (star_cons he)) (by decide) (C.gl _ hg).2 (star_cons he) (star_all rfl)) (ha.run bs B σ H S _ fun v B1 H1 g1 r1 => ?_)⟩
  obtain ⟨p, vs, rfl, h1, h2⟩ := dp_tup r1
  refine ⟨p, vs, rfl, .inr (same_sqT g1.bh h1), fun l hl => ?_⟩
  have g : Grow B1 H1 B1 (upd H1 l (.lst vs)) := .own g1.bh hl
  exact q l vs _ _ (g1.trans g) (same_none g1.h hl) (same_none g1.bh hl) upd_same h2
theorem ge_tupleL (C : Cok X W N sc k) (hg : glB sc "tuple" = true) (hm : W.mg "tuple" = none) (ha : GL X G e ds) (he : nst e = true) : GE X G (.Call (.Name "tuple" p) [e] [] pos) (.tuple ds) := by
  have hw := C.wd
  subst hw
  refine ⟨fun bs B σ H S Q q => inE (pe_callTy call_tuple_of (C.gl _ hg).1 hm (by decide +kernel) (pa_cons pE pa_nil (star_cons he)) (by decide) (C.gl _ hg).2 (star_cons he) (star_all rfl)) (ha.run bs B σ H S _ fun p vs B1 H1 g1 r1 r2 => ?_)⟩
  refine ⟨p, vs, rfl, .inl ⟨r1, fun l hl => ?_⟩⟩
  have g : Grow B1 H1 (upd B1 l (.tup vs)) (upd H1 l (.tup vs)) := .new g1.bh hl
  exact q _ _ _ (g1.trans g) (dpr upd_same (moA r2 g.b))
end
end DW

set_option Elab.async false
set_option linter.all false
set_option maxRecDepth 100000
set_option maxHeartbeats 4000000
set_option autoImplicit false
namespace DW
open PySem PySem.Spec PyProof.Rows L2

/-! ### what a def of the text promises, by data -/
inductive Rs where
  | fz (d : D)
  | ow (ds : List D)
  | ex (x : Str) (G : Gm)
abbrev Ct := List D → (Rs → Prop) → Prop
def spD (K : PySem.W.Frag) (mg : Str → Option Value) (c : Ct) : Sp := fun vs H Q E => ∃ (B : Hp) (ds : List D) (R : Rs → Prop), Same B H ∧ DpAll K B vs ds ∧ c ds R ∧ (∀ d v B' H', R (.fz d) → Grow B H B' H' → Dp K B' v d → Q v H') ∧
  (∀ es p us B' H', R (.ow es) → Grow B H B' H' → H p = none → B' p = none → H' p = some (.lst us) → DpAll K B' us es → Q (.ref p) H') ∧
  (∀ x G C B' H', R (.ex x G) → mg x = some (.ref C) → Grow B H B' H' → E (.ref C) none H')
structure Has (W : Wd) (k : Nat) (x : Str) (c : Ct) : Prop where
  ex : ∃ (f : Addr) (fd : FuncData) (ps : List Str), W.mg x = some (.ref f) ∧ PySem.W.keepIn W.K (.ref f) = true ∧ Binds W.K fd ps [] ∧ FnOk W.P W.w W.K W.mg W.base (L2.CX W.P W.w) k f fd ps (spD W.K W.mg c)
section
variable {X : Cx} {G : Gm} {e a b : Expr} {es rest : List Expr} {d x y z : D} {ds : List D} {W : Wd} {N : List Str} {sc : Scope} {k j : Nat} {pos p2 p : Pos} {nm : Str} {c : Ct}
theorem ge_call (C : Cok X W N sc k) (Hs : Has W j nm c) (hj : j ≤ k) (hg : glB sc nm = true) (ha : GA X G (e :: es) ds) (hc : ∀ R : Rs → Prop, R (.fz d) → c ds R) (he : nst e = true) (hpl : es.all nst = true) :
    GE X G (.Call (.Name nm p) (e :: es) [] pos) d := by
  obtain ⟨f, fd, ps, h1, h2, h3, h4⟩ := Hs.ex
  have hw := C.wd
  subst hw
  refine ⟨fun bs B σ H S Q q => inE (pe_call (E := E0) h4 (C.room.mono hj) (C.gl nm hg).1 h1 h2 h3 .nil passL pA (C.gl nm hg).2 (star_cons he) (star_all hpl)) (ha.run bs B σ H S _ fun vs B1 H1 g1 r1 => ?_)⟩
  refine ⟨B1, ds, fun r => r = .fz d, g1.bh, by rw [List.append_nil]; exact r1, hc _ rfl, fun d' v B' H' e' g r => ?_, (fun _ _ _ _ _ e' => by cases e'), (fun _ _ _ _ _ e' => by cases e')⟩
  cases e'
  exact q v B' H' (g1.trans g) r
theorem go_call (C : Cok X W N sc k) (Hs : Has W j nm c) (hj : j ≤ k) (hg : glB sc nm = true) (ha : GA X G (e :: es) ds) {us : List D} (hc : ∀ R : Rs → Prop, R (.ow us) → c ds R) (he : nst e = true) (hpl : es.all nst = true) :
    GO X G (.Call (.Name nm p) (e :: es) [] pos) us := by
  obtain ⟨f, fd, ps, h1, h2, h3, h4⟩ := Hs.ex
  have hw := C.wd
  subst hw
  refine ⟨fun bs B σ H S Q q => inE (pe_call (E := E0) h4 (C.room.mono hj) (C.gl nm hg).1 h1 h2 h3 .nil passL pA (C.gl nm hg).2 (star_cons he) (star_all hpl)) (ha.run bs B σ H S _ fun vs B1 H1 g1 r1 => ?_)⟩
  refine ⟨B1, ds, fun r => r = .ow us, g1.bh, by rw [List.append_nil]; exact r1, hc _ rfl, (fun _ _ _ _ e' => by cases e'), fun es' p us' B' H' e' g h0 h1 h2 r => ?_, (fun _ _ _ _ _ e' => by cases e')⟩
  cases e'
  exact q p us' B' H' (g1.trans g) (same_none g1.h h0) h1 h2 r
end

/-! ### targets -/
def Agr (ws : List Nat) (σ σ' : L2.St) : Prop := σ'.length = σ.length ∧ ∀ i, i ∉ ws → σ'[i]? = σ[i]?
theorem Agr.refl {ws : List Nat} {σ : L2.St} : Agr ws σ σ := ⟨rfl, fun _ _ => rfl⟩
theorem Agr.trans {ws : List Nat} {σ σ' σ'' : L2.St} (a : Agr ws σ σ') (b : Agr ws σ' σ'') : Agr ws σ σ'' := ⟨b.1.trans a.1, fun i h => (b.2 i h).trans (a.2 i h)⟩
theorem Agr.set {ws : List Nat} {σ : L2.St} {i : Nat} {o : Option V} (h : i ∈ ws) : Agr ws σ (σ.set i o) := ⟨List.length_set, fun j hj => List.getElem?_set_ne fun z => hj (by rw [← z]; exact h)⟩
theorem wipe_in {σ : L2.St} {i : Nat} : ∀ {vs : List Nat}, i ∈ vs → i < σ.length → (wipe σ vs)[i]? = some none
  | [], h, _ => by cases h
  | v :: vs, h, hl => by
    unfold wipe
    by_cases e : v = i
    · subst e
      rw [List.getElem?_set_self (by rw [wipe_length]; exact hl)]
    · rw [List.getElem?_set_ne e]
      rcases List.mem_cons.mp h with q | q
      · exact (e q.symm).elim
      · exact wipe_in q hl
theorem wipe_agr {ws : List Nat} {σ σ' : L2.St} (a : Agr ws σ σ') : wipe σ' ws = wipe σ ws := by
  refine List.ext_getElem? fun i => ?_
  by_cases h : i ∈ ws
  · by_cases hl : i < σ.length
    · rw [wipe_in h hl, wipe_in h (by rw [a.1]; exact hl)]
    · rw [List.getElem?_eq_none (by rw [wipe_length, a.1]; omega), List.getElem?_eq_none (by rw [wipe_length]; omega)]
  · rw [wipe_out h, wipe_out h, a.2 i h]
theorem agr_wipe {ws : List Nat} {σ : L2.St} : Agr ws σ (wipe σ ws) := ⟨wipe_length σ ws, fun i h => wipe_out h⟩
def tG (X : Cx) (tg : Expr) : TG := fun v σ H Q => ∀ (pins : List (Addr × Obj)) (s : Shared) (u : Value), Inv X pins σ H s → RelV v u → wpAny (model X.prog X.w) X.A (assign tg X.env u) (fun _ s' => ∃ σ' H', Inv X pins σ' H' s' ∧ Q σ' H') X.xe s
theorem pG {X : Cx} {tg : Expr} : PG X tg (tG X tg) := ⟨fun pins s _ _ _ u _ I r h => h pins s u I r⟩
theorem inG {X : Cx} {tg : Expr} {v : V} {σ : L2.St} {H : Hp} {t : TG} {Q : L2.St → Hp → Prop} (p : PG X tg t) (h : t v σ H Q) : tG X tg v σ H Q := fun pins s u I r => p.run pins s σ H v u Q I r h
structure GG (X : Cx) (G : Gm) (tg : Expr) (d : D) (G' : Gm) (ws : List Nat) : Prop where
  run : ∀ (bs : Bs) (B : Hp) (σ : L2.St) (H : Hp) (v : V), Sat X.K bs G B σ H → Dp X.K B v d → ∀ Q : L2.St → Hp → Prop, (∀ σ', Agr ws σ σ' → Sat X.K bs G' B σ' H → Q σ' H) → tG X tg v σ H Q
section
variable {X : Cx} {G : Gm} {d : D} {W : Wd} {N : List Str} {sc : Scope} {k : Nat} {pos p1 p2 p3 : Pos} {ws : List Nat}
theorem gg_name (C : Cok X W N sc k) (i : Nat) {x : Str} (h : okL N sc i x = true) (hw : i ∈ ws) : GG X G (.Name x pos) d (G.set i (.fz d)) ws := by
  obtain ⟨h1, h2⟩ := okL_of h
  obtain ⟨l1, l2⟩ := C.loc x h2
  exact ⟨fun bs B σ H v S r Q q => inG (pg_name (by rw [C.N]; exact C.nd) (by rw [C.N]; exact h1) l1 l2) (q _ (.set hw) (S.setF r))⟩
theorem gg_tup2 (C : Cok X W N sc k) (i j : Nat) {x y : Str} {d1 d2 : D} {n1 : Nat} (h : okL N sc i x = true) (h' : okL N sc j y = true) (hw : i ∈ ws) (hw' : j ∈ ws) :
    GG X G (.Tuple [.Name x p1, .Name y p2] n1 pos) (.tuple [d1, d2]) ((G.set i (.fz d1)).set j (.fz d2)) ws := by
  obtain ⟨h1, h2⟩ := okL_of h
  obtain ⟨l1, l2⟩ := C.loc x h2
  obtain ⟨h3, h4⟩ := okL_of h'
  obtain ⟨l3, l4⟩ := C.loc y h4
  have nd : X.N.Nodup := by
    rw [C.N]
    exact C.nd
  refine ⟨fun bs B σ H v S r Q q => inG (pg_tup C.calm (pgs_cons (pg_name (i := i) nd (by rw [C.N]; exact h1) l1 l2) (pgs_cons (pg_name (i := j) nd (by rw [C.N]; exact h3) l3 l4) pgs_nil))) ?_⟩
  obtain ⟨a, vs, rfl, q1, q2⟩ := dp_tup r
  obtain ⟨v1, v2, rfl, r1, r2⟩ := dpa_two q2
  refine ⟨a, _, rfl, same_sqT S.bh q1, rfl, v1, [v2], rfl, v2, [], rfl, rfl, ?_⟩
  exact q _ ((Agr.set hw).trans (.set hw')) ((S.setF r1).setF r2)
theorem gg_tup3 (C : Cok X W N sc k) (i j l : Nat) {x y z : Str} {d1 d2 d3 : D} {n1 : Nat} (h : okL N sc i x = true) (h' : okL N sc j y = true) (h'' : okL N sc l z = true) (hw : i ∈ ws) (hw' : j ∈ ws) (hw'' : l ∈ ws) :
    GG X G (.Tuple [.Name x p1, .Name y p2, .Name z p3] n1 pos) (.tuple [d1, d2, d3]) (((G.set i (.fz d1)).set j (.fz d2)).set l (.fz d3)) ws := by
  obtain ⟨h1, h2⟩ := okL_of h
  obtain ⟨l1, l2⟩ := C.loc x h2
  obtain ⟨h3, h4⟩ := okL_of h'
  obtain ⟨l3, l4⟩ := C.loc y h4
  obtain ⟨h5, h6⟩ := okL_of h''
  obtain ⟨l5, l6⟩ := C.loc z h6
  have nd : X.N.Nodup := by
    rw [C.N]
    exact C.nd
  refine ⟨fun bs B σ H v S r Q q => inG (pg_tup C.calm (pgs_cons (pg_name (i := i) nd (by rw [C.N]; exact h1) l1 l2) (pgs_cons (pg_name (i := j) nd (by rw [C.N]; exact h3) l3 l4) (pgs_cons (pg_name (i := l) nd (by rw [C.N]; exact h5) l5 l6) pgs_nil)))) ?_⟩
  obtain ⟨a, vs, rfl, q1, q2⟩ := dp_tup r
  cases q2 with
  | cons r1 q3 =>
    obtain ⟨v2, v3, rfl, r2, r3⟩ := dpa_two q3
    refine ⟨a, _, rfl, same_sqT S.bh q1, rfl, _, [v2, v3], rfl, v2, [v3], rfl, v3, [], rfl, rfl, ?_⟩
    exact q _ (((Agr.set hw).trans (.set hw')).trans (.set hw'')) (((S.setF r1).setF r2).setF r3)
end

/-! ### what is walked -/
def tI (X : Cx) (tg iter : Expr) : TI := fun σ H R => ∀ (pins : List (Addr × Obj)) (s : Shared), Inv X pins σ H s → wpAny (model X.prog X.w) X.A (eval iter X.env) (fun v s1 => wpAny (model X.prog X.w) X.A (pyIter v) (PIE X pins σ tg R) X.xe s1) X.xe s
theorem pI {X : Cx} {tg iter : Expr} : PI X tg iter (tI X tg iter) := ⟨fun pins s _ _ _ I h => h pins s I⟩
theorem inI {X : Cx} {tg iter : Expr} {σ : L2.St} {H : Hp} {t : TI} {R : It → Hp → Prop} (p : PI X tg iter t) (h : t σ H R) : tI X tg iter σ H R := fun pins s I => p.run pins s σ H R I h
/-- J goes through the items while F stands -/
structure Wk (K : PySem.W.Frag) (B1 F : Hp) (J : It) (items : List D) : Prop where
  stop : ∀ i H', Same F H' → items.length ≤ i → J.stop i H'
  go : ∀ i H', Same F H' → i < items.length → J.go i H'
  yld : ∀ i B' H' x H'', Same F H' → Same B1 B' → Same B' H' → i < items.length → J.yld i H' x H'' → ∃ d B'', items[i]? = some d ∧ Grow B' H' B'' H'' ∧ Dp K B'' x d
theorem Wk.weak {K : PySem.W.Frag} {B1 F F' : Hp} {J : It} {items : List D} (w : Wk K B1 F J items) (e : Same F F') : Wk K B1 F' J items :=
  ⟨fun i H' s => w.stop i H' (e.trans s), fun i H' s => w.go i H' (e.trans s), fun i B' H' x H'' s => w.yld i B' H' x H'' (e.trans s)⟩
/-- .. for a loop | for a comprehension -/
structure GI (X : Cx) (G : Gm) (tg iter : Expr) (items : List D) : Prop where
  run : ∀ (bs : Bs) (B : Hp) (σ : L2.St) (H : Hp), Sat X.K bs G B σ H → ∀ R : It → Hp → Prop, (∀ J B1 H1, Grow B H B1 H1 → Wk X.K B1 B1 J items → R J H1) → tI X tg iter σ H R
structure GIw (X : Cx) (G : Gm) (tg iter : Expr) (items : List D) : Prop where
  run : ∀ (bs : Bs) (B : Hp) (σ : L2.St) (H : Hp), Sat X.K bs G B σ H → ∀ R : It → Hp → Prop, (∀ J B1 H1, Grow B H B1 H1 → Wk X.K B1 H1 J items → R J H1) → tI X tg iter σ H R
theorem wk_list {K : PySem.W.Frag} {B1 F : Hp} {p : Addr} {vs : List V} {items : List D} (h : SqL K F p vs) (r : DpAll K B1 vs items) : Wk K B1 F (Itl K p) items := by
  have ll := dpa_len r
  refine ⟨fun i H' s hi => ⟨vs, s.seq h, by omega⟩, fun i H' s hi => ⟨vs, vs[i], s.seq h, List.getElem?_eq_getElem (by omega)⟩, fun i B' H' x H'' s1 s2 s3 hi y => ?_⟩
  obtain ⟨e, y⟩ := y
  subst e
  obtain ⟨d, e1, e2⟩ := dpa_getV r (y vs (s1.seq h))
  exact ⟨d, B', e1, .refl s3, moD e2 s2⟩
theorem wk_tup {K : PySem.W.Frag} {B1 F : Hp} {p : Addr} {vs : List V} {items : List D} (h : SqT K F p vs) (r : DpAll K B1 vs items) : Wk K B1 F (Itt K p) items := by
  have ll := dpa_len r
  refine ⟨fun i H' s hi => ⟨vs, same_sqT s h, by omega⟩, fun i H' s hi => ⟨vs, vs[i], same_sqT s h, List.getElem?_eq_getElem (by omega)⟩, fun i B' H' x H'' s1 s2 s3 hi y => ?_⟩
  obtain ⟨e, y⟩ := y
  subst e
  obtain ⟨d, e1, e2⟩ := dpa_getV r (y vs (same_sqT s1 h))
  exact ⟨d, B', e1, .refl s3, moD e2 s2⟩
/-- lo, lo + 1, .. -/
def rngL (lo : Int) (n : Nat) : List Int := (List.range n).map fun (i : Nat) => lo + (i : Int)
theorem rngL_get {lo : Int} {n i : Nat} (h : i < n) : (rngL lo n)[i]? = some (lo + (i : Int)) := by
  unfold rngL
  rw [List.getElem?_map, List.getElem?_range h]
  rfl
theorem rngL_len {lo : Int} {n : Nat} : (rngL lo n).length = n := by
  unfold rngL
  rw [List.length_map, List.length_range]
theorem wk_rng {K : PySem.W.Frag} {B1 F : Hp} {lo : Int} {n : Nat} : Wk K B1 F (Itr lo n) ((rngL lo n).map PyData.int) := by
  refine ⟨fun i H' s hi => ?_, fun i H' s hi => ?_, fun i B' H' x H'' s1 s2 s3 hi y => ?_⟩
  · rw [List.length_map, rngL_len] at hi
    exact hi
  · rw [List.length_map, rngL_len] at hi
    exact hi
  · rw [List.length_map, rngL_len] at hi
    obtain ⟨rfl, rfl⟩ := y
    exact ⟨_, B', by rw [List.getElem?_map, rngL_get hi]; rfl, .refl s3, .int _⟩
section
variable {X : Cx} {G : Gm} {tg iter e a b : Expr} {items ds : List D} {W : Wd} {N : List Str} {sc : Scope} {k : Nat} {pos p1 p2 p3 p : Pos} {ws : List Nat}
theorem GI.w (h : GI X G tg iter items) : GIw X G tg iter items := ⟨fun bs B σ H S R q => h.run bs B σ H S R fun J B1 H1 g w => q J B1 H1 g (w.weak g.bh)⟩
theorem gi_list (h : GE X G iter (.list items)) : GI X G tg iter items := ⟨fun bs B σ H S R q => inI (pi_list pE) (h.run bs B σ H S _ fun v B1 H1 g r => by
  obtain ⟨p, vs, rfl, h1, h2⟩ := dp_lst r
  exact ⟨p, rfl, ⟨vs, g.bh.seq h1⟩, q _ B1 H1 g (wk_list h1 h2)⟩)⟩
theorem gw_list (h : GL X G iter items) : GIw X G tg iter items := ⟨fun bs B σ H S R q => inI (pi_list pE) (h.run bs B σ H S _ fun p vs B1 H1 g h1 h2 => ⟨p, rfl, ⟨vs, h1⟩, q _ B1 H1 g (wk_list h1 h2)⟩)⟩
theorem gi_tup (h : GE X G iter (.tuple items)) : GI X G tg iter items := ⟨fun bs B σ H S R q => inI (pi_tup pE) (h.run bs B σ H S _ fun v B1 H1 g r => by
  obtain ⟨p, vs, rfl, h1, h2⟩ := dp_tup r
  exact ⟨p, rfl, ⟨vs, same_sqT g.bh h1⟩, q _ B1 H1 g (wk_tup h1 h2)⟩)⟩
theorem gi_rng1 {n : Int} (C : Cok X W N sc k) (hg : glB sc "range" = true) (hm : W.mg "range" = none) (ha : GE X G a (.int n)) (h1 : -(2 ^ 62) ≤ n ∧ n < 2 ^ 62) (he : nst a = true) :
    GI X G tg (.Call (.Name "range" p) [a] [] pos) ((rngL 0 n.toNat).map PyData.int) := by
  have hw := C.wd
  subst hw
  refine ⟨fun bs B σ H S R q => inI (pi_range1 (C.gl _ hg).1 hm (pa_cons pE pa_nil (star_cons he)) (star_cons he)) (ha.run bs B σ H S _ fun v B1 H1 g r => ?_)⟩
  exact ⟨n, by rw [dp_int r], h1.1, h1.2, q _ B1 H1 g wk_rng⟩
theorem gi_rng2 {lo n : Int} (C : Cok X W N sc k) (hg : glB sc "range" = true) (hm : W.mg "range" = none) (ha : GE X G a (.int lo)) (hb : GE X G b (.int n)) (h1 : -(2 ^ 62) ≤ lo ∧ lo < 2 ^ 62 ∧ -(2 ^ 62) ≤ n ∧ n < 2 ^ 62) (he : nst a = true) (he2 : nst b = true) :
    GI X G tg (.Call (.Name "range" p) [a, b] [] pos) ((rngL lo (n - lo).toNat).map PyData.int) := by
  have hw := C.wd
  subst hw
  refine ⟨fun bs B σ H S R q => inI (pi_range2 (C.gl _ hg).1 hm (pa_cons pE (pa_cons pE pa_nil (star_cons he2)) (star_cons he)) (by rw [star_cons he, star_cons he2]; rfl) (star_cons he2)) (ha.run bs B σ H S _ fun v B1 H1 g r => hb.run bs B1 σ H1 (S.gro g) _ fun w B2 H2 g2 r2 => ?_)⟩
  exact ⟨lo, n, by rw [dp_int r, dp_int r2], h1, q _ B2 H2 (g.trans g2) wk_rng⟩
end

/-! ### comprehensions -/
theorem lookup_free {env : Env} : ∀ {names : List (Str × NameKind)} {x : Str}, names.lookup x = some .free →
    (names.map fun (n, k) => if (k == NameKind.free && env.scope.kind == .function && env.kindOf n == some .cell) then (n, NameKind.cell) else (n, k)).lookup x = some .cell ∨
    (names.map fun (n, k) => if (k == NameKind.free && env.scope.kind == .function && env.kindOf n == some .cell) then (n, NameKind.cell) else (n, k)).lookup x = some .free
  | [], _, h => by simp at h
  | (n, k) :: r, x, h => by
    have ih := @lookup_free env r x
    show List.lookup x ((if (k == NameKind.free && env.scope.kind == .function && env.kindOf n == some .cell) = true then (n, NameKind.cell) else (n, k)) :: _) = _ ∨ List.lookup x ((if (k == NameKind.free && env.scope.kind == .function && env.kindOf n == some .cell) = true then (n, NameKind.cell) else (n, k)) :: _) = _
    cases hx : x == n with
    | true =>
      simp only [List.lookup_cons, hx] at h
      cases h
      by_cases hc : (NameKind.free == NameKind.free && env.scope.kind == .function && env.kindOf n == some .cell) = true
      · rw [if_pos hc]
        simp only [List.lookup_cons, hx]
        exact .inl trivial
      · rw [if_neg hc]
        simp only [List.lookup_cons, hx]
        exact .inr trivial
    | false =>
      simp only [List.lookup_cons, hx] at h
      by_cases hc : (k == NameKind.free && env.scope.kind == .function && env.kindOf n == some .cell) = true
      · rw [if_pos hc]
        simp only [List.lookup_cons, hx]
        exact ih h
      · rw [if_neg hc]
        simp only [List.lookup_cons, hx]
        exact ih h
theorem cok_blk {X : Cx} {W : Wd} {N : List Str} {sc scope : Scope} {k : Nat} (C : Cok X W N sc k) {s : Shared} {H : Hp} {cl : List (Str × Addr)} {Cc : Addr} {fp : List Addr} : Cok (X.blk s H scope (compEnvC scope cl Cc X.env) fp) W N scope k := by
  have hl : ∀ x q, (q == NameKind.free) = false → scope.names.lookup x = some q → (compEnvC scope cl Cc X.env).scope.names.lookup x = some q := fun x q h0 h => PySem.oc_lookup_relabel h0 h
  have hf : ∀ x, scope.names.lookup x = some .free → (compEnvC scope cl Cc X.env).scope.names.lookup x = some .cell ∨ (compEnvC scope cl Cc X.env).scope.names.lookup x = some .free := fun x h => lookup_free h
  have bkblk : scope.kind = .function → (compEnvC scope cl Cc X.env).blockKind = .function := fun h => by
    show (if scope.kind.isAnnotationScope then _ else scope.kind) = _
    rw [h]
    rfl
  refine ⟨⟨C.wd, C.nd, C.N, fun x h => ?_, fun x h => ?_, fun x h => ?_, fun x h => ?_, fun x h => ?_, bkblk⟩, C.calm, C.room, .never⟩
  · rcases visB_of h with q | q | q
    · exact .inl (hl x _ rfl q)
    · exact .inr (.inl (hl x _ rfl q))
    · rcases hf x q with q | q
      · exact .inr (.inl q)
      · exact .inr (.inr q)
  · rcases locB_of h with q | q
    · exact ⟨.inl (hl x _ rfl q), .inr (hl x _ rfl q)⟩
    · refine ⟨.inr (hl x _ rfl q), .inl ?_⟩
      show (scope.names.lookup x == some .cell) = true
      rw [q]
      rfl
  · exact hl x _ rfl (loc1B_of h)
  · exact ⟨hl x _ rfl (glB_of h).1, (glB_of h).2⟩
  · rcases h with q | q
    · exact .inl (hl x _ rfl q)
    · exact hf x q
def wipeG (G : Gm) : List Nat → Gm
  | [] => G
  | v :: vs => (wipeG G vs).set v .no
theorem Sat.wipe {K : PySem.W.Frag} {bs : Bs} {G : Gm} {B H : Hp} {σ : L2.St} (S : Sat K bs G B σ H) : ∀ vs : List Nat, Sat K bs (wipeG G vs) B (L2.wipe σ vs) H
  | [] => S
  | v :: vs => (Sat.wipe S vs).setN
def tQ (X : Cx) (ifs : List Expr) : TT := fun σ H Q => ∀ (pins : List (Addr × Obj)) (s : Shared), Inv X pins σ H s →
  wpAny (model X.prog X.w) X.A (forIn ifs true fun c r => if r = true then do let ok ← isTrue c X.env (eval c X.env); pure (ForInStep.yield ok) else pure (ForInStep.yield r)) (TP X pins σ Q) X.xe s
theorem pQ {X : Cx} {ifs : List Expr} : PTs X ifs (tQ X ifs) := ⟨fun pins s _ _ _ I h => h pins s I⟩
theorem inQ {X : Cx} {ifs : List Expr} {σ : L2.St} {H : Hp} {t : TT} {Q : Bool → Hp → Prop} (p : PTs X ifs t) (h : t σ H Q) : tQ X ifs σ H Q := fun pins s I => p.run pins s σ H Q I h
structure GTs (X : Cx) (G : Gm) (ifs : List Expr) (b : Bool) : Prop where
  run : ∀ (bs : Bs) (B : Hp) (σ : L2.St) (H : Hp), Sat X.K bs G B σ H → ∀ Q : Bool → Hp → Prop, (∀ B' H', Grow B H B' H' → Q b H') → tQ X ifs σ H Q
section
variable {X : Cx} {G : Gm} {tg iter elt e a b : Expr} {items ds : List D} {W : Wd} {N : List Str} {sc scope : Scope} {k : Nat} {pos p1 p2 p3 p : Pos} {ws : List Nat} {ifs : List Expr}
theorem gts_nil : GTs X G [] true := ⟨fun bs B σ H S Q q => inQ pts_nil (q B H (.refl S.bh))⟩
theorem gts_one {t : Bool} (h : GT X G e t) : GTs X G [e] t := ⟨fun bs B σ H S Q q => inQ (pts_one pT) (h.run bs B σ H S Q q)⟩
def gBc (X : Cx) (scope : Scope) (tg : Expr) : TG := fun v σ H Q => ∀ (s0 : Shared) (H0 : Hp) (Cc : Addr) (cl : List (Str × Addr)) (fp : List Addr), tG (X.blk s0 H0 scope (compEnvC scope cl Cc X.env) fp) tg v σ H Q
def tBc (X : Cx) (scope : Scope) (ifs : List Expr) : TT := fun σ H Q => ∀ (s0 : Shared) (H0 : Hp) (Cc : Addr) (cl : List (Str × Addr)) (fp : List Addr), tQ (X.blk s0 H0 scope (compEnvC scope cl Cc X.env) fp) ifs σ H Q
def eBc (X : Cx) (scope : Scope) (elt : Expr) : TE := fun σ H Q => ∀ (s0 : Shared) (H0 : Hp) (Cc : Addr) (cl : List (Str × Addr)) (fp : List Addr), tE (X.blk s0 H0 scope (compEnvC scope cl Cc X.env) fp) elt σ H Q
theorem lc_run {α : Type} {xs : List α} {en : α → D} {bt : α → Bool} {g : α → D} {G1 : α → Gm} (C : Cok X W N sc k) (own : List (Str × Nat)) (ok : blkC N sc scope own = true) (hi : GIw X G tg iter (xs.map en)) (hz : xs.length ≤ 16777216)
    (hg : ∀ X', Cok X' W N scope k → ∀ x ∈ xs, GG X' (wipeG G (own.map (·.2))) tg (en x) (G1 x) (own.map (·.2)))
    (ht : ∀ X', Cok X' W N scope k → ∀ x ∈ xs, GTs X' (G1 x) ifs (bt x))
    (he : ∀ X', Cok X' W N scope k → ∀ x ∈ xs, bt x = true → GE X' (G1 x) elt (g x))
    (bs : Bs) (B : Hp) (σ : L2.St) (H : Hp) (S : Sat X.K bs G B σ H) (Q : V → Hp → Prop) (q : ∀ (p : Addr) (vs : List V) (B1 H1 : Hp), Grow B H B1 H1 → H p = none → B1 p = none → H1 p = some (.lst vs) → DpAll X.K B1 vs ((xs.filter bt).map g) → Q (.ref p) H1) :
    tLc (tI X tg iter) (gBc X scope tg) (tBc X scope ifs) (eBc X scope elt) (own.map (·.2)) σ H Q := by
  refine hi.run bs B σ H S _ fun J B1 H1 g1 wk => fun L hL => ?_
  have S1 := (S.gro g1).wipe (own.map (·.2))
  have BL : B1 L = none := same_none g1.bh hL
  let Pv : Nat → Hp → Prop := fun i H' => ∃ B' us, Grow B1 H1 B' H' ∧ B' L = none ∧ H' L = some (.lst us) ∧ DpAll X.K B' us (((xs.take i).filter bt).map g)
  refine ⟨fun i m H' => m = xs.length - i ∧ i ≤ xs.length ∧ Pv i H', ⟨xs.length, by simp, Nat.zero_le _, B1, [], .own g1.bh hL, BL, upd_same, .nil⟩, ?_⟩
  rintro i m H' ⟨rfl, hile, B', us, g2, b2, h2, r2⟩
  by_cases hlt : i < xs.length
  · refine .inr ⟨wk.go i H' g2.h (by rw [List.length_map]; exact hlt), Pv (i + 1), fun H'' p' => ⟨xs.length - (i + 1), by omega, rfl, hlt, p'⟩, fun x H'' y => ?_⟩
    obtain ⟨d, B'', e1, g3, r3⟩ := wk.yld i B' H' x H'' g2.h g2.b g2.bh (by rw [List.length_map]; exact hlt) y
    rw [List.getElem?_map, List.getElem?_eq_getElem hlt] at e1
    cases e1
    have hmem : xs[i] ∈ xs := List.getElem_mem hlt
    have S3 := S1.gro (g2.trans g3)
    have b3 : B'' L = none := g3.n L (by rw [h2]; simp) b2
    have h3 : H'' L = some (.lst us) := g3.h L _ h2
    have take1 : xs.take (i + 1) = xs.take i ++ [xs[i]] := by rw [List.take_add_one, List.getElem?_eq_getElem hlt]; rfl
    intro s0 H0 Cc cl fp
    refine (hg (X.blk s0 H0 scope (compEnvC scope cl Cc X.env) fp) (cok_blk C) _ hmem).run bs B'' _ H'' x S3 r3 _ fun σ' ag S4 => ?_
    refine ⟨(wipe_agr ag).trans (wipe_agr agr_wipe), ?_⟩
    intro s1 H1' Cc1 cl1 fp1
    refine (ht (X.blk s1 H1' scope (compEnvC scope cl1 Cc1 X.env) fp1) (cok_blk C) _ hmem).run bs B'' σ' H'' S4 _ fun B4 H4 g4 => ?_
    have b4 : B4 L = none := g4.n L (by rw [h3]; simp) b3
    have h4 : H4 L = some (.lst us) := g4.h L _ h3
    have r4 := moA (moA r2 g3.b) g4.b
    have cond : ∀ c, bt xs[i] = c → (if c = true then eBc X scope elt σ' H4 (fun y H4' => ∃ acc, H4' L = some (.lst acc) ∧ acc.length < sizeLine ∧ Pv (i + 1) (upd H4' L (.lst (acc ++ [y])))) else Pv (i + 1) H4) := fun c hc => by
      cases c with
      | true =>
        rw [if_pos rfl]
        intro s2 H2' Cc2 cl2 fp2
        refine (he (X.blk s2 H2' scope (compEnvC scope cl2 Cc2 X.env) fp2) (cok_blk C) _ hmem hc).run bs B4 σ' H4 (S4.gro g4) _ fun y B5 H5 g5 r5 => ?_
        have b5 : B5 L = none := g5.n L (by rw [h4]; simp) b4
        have h5 : H5 L = some (.lst us) := g5.h L _ h4
        have lus := dpa_len r4
        rw [List.length_map] at lus
        have lf := List.length_filter_le bt (xs.take i)
        rw [List.length_take] at lf
        have gA := (((g2.trans g3).trans g4).trans g5)
        refine ⟨us, h5, by rw [sizeLine_eq]; omega, B5, us ++ [y], ⟨gA.b, fun b o z => ?_, same_out g5.bh b5, gA.n⟩, b5, upd_same, ?_⟩
        · rw [upd_ne (ne_of_none z hL)]
          exact gA.h b o z
        · rw [take1, List.filter_append, List.map_append, List.filter_cons, if_pos hc]
          exact dpa_app (moA r4 g5.b) (.cons r5 .nil)
      | false =>
        rw [if_neg Bool.false_ne_true]
        refine ⟨B4, us, (g2.trans g3).trans g4, b4, h4, ?_⟩
        rw [take1, List.filter_append, List.map_append, List.filter_cons, if_neg (by rw [hc]; decide)]
        show DpAll X.K B4 us (_ ++ [])
        rw [List.append_nil]
        exact r4
    exact cond _ rfl
  · have e : i = xs.length := by omega
    subst e
    rw [List.take_length] at r2
    exact .inl ⟨wk.stop _ H' g2.h (by rw [List.length_map]; exact Nat.le_refl _), q L us B' H' (g1.trans g2) (same_none g1.h hL) b2 h2 r2⟩
theorem lc_blk (C : Cok X W N sc k) (own : List (Str × Nat)) (ok : blkC N sc scope own = true) : BlkOk X.N X.env.scope scope own ∧ X.N.Nodup := by
  have okB : BlkOk X.N X.env.scope scope own := by
    have o := blkOk_by ok
    rw [C.N]
    exact ⟨o.kind, o.uniq, o.ix, fun y hy e => C.fr y.1 (o.free y hy e), o.own⟩
  exact ⟨okB, by rw [C.N]; exact C.nd⟩
/-- [elt for tg in iter if ..] -/
theorem go_lc {α : Type} {xs : List α} {en : α → D} {bt : α → Bool} {g : α → D} {G1 : α → Gm} (C : Cok X W N sc k) (own : List (Str × Nat)) (ok : blkC N sc scope own = true) (hi : GIw X G tg iter (xs.map en)) (hz : xs.length ≤ 16777216)
    (hg : ∀ X', Cok X' W N scope k → ∀ x ∈ xs, GG X' (wipeG G (own.map (·.2))) tg (en x) (G1 x) (own.map (·.2)))
    (ht : ∀ X', Cok X' W N scope k → ∀ x ∈ xs, GTs X' (G1 x) ifs (bt x))
    (he : ∀ X', Cok X' W N scope k → ∀ x ∈ xs, bt x = true → GE X' (G1 x) elt (g x))
    (hs : ∀ x, foldedSetIterable iter X.env x = pure x) : GO X G (.ListComp elt [⟨tg, iter, ifs, 0⟩] scope pos) ((xs.filter bt).map g) := by
  obtain ⟨okB, nd⟩ := lc_blk C own ok
  exact ⟨fun bs B σ H S Q q => inE (pe_lc (g := gBc X scope tg) (tt := tBc X scope ifs) (te := eBc X scope elt) C.calm nd pI okB (fun s0 H0 Cc cl fp => ⟨fun pins s _ _ _ u _ I r h => h s0 H0 Cc cl fp pins s u I r⟩) (fun s0 H0 Cc cl fp => ⟨fun pins s _ _ _ I h => h s0 H0 Cc cl fp pins s I⟩)
    (fun s0 H0 Cc cl fp => ⟨fun pins s _ _ _ I h => h s0 H0 Cc cl fp pins s I⟩) hs) (lc_run C own ok hi hz hg ht he bs B σ H S Q q)⟩
end
end DW

set_option Elab.async false
set_option linter.all false
set_option maxRecDepth 100000
set_option maxHeartbeats 4000000
set_option autoImplicit false
namespace DW
open PySem PySem.Spec PyProof.Rows L2

/-! ### extend by any list -/
theorem list_extendW (l : Addr) (items : Array Value) (n : Nat) (b : Addr) (items2 : Array Value) (n2 : Nat) (dd2 : Option Addr) (sl2 : Array (Option Value)) (hc0 : ¬(!items.isEmpty && Builtin.List.listTooLong (items.size + items2.size)) = true) (hc1 : items.size ≤ sizeLine) (hs2 : items.size + items2.size ≤ sizeLine + 1) :
    Meets (Builtin.«list.extend» ⟨[.ref l, .ref b], []⟩) (fun _ R s => s.heap.get? l = some { cls := .type "list", dict := none, data := .seq items n, slots := #[] } ∧ s.heap.get? b = some { cls := .type "list", dict := dd2, data := .seq items2 n2, slots := sl2 } ∧ R (.ok (.ret Value.none)) { s with heap := s.heap.update l (Obj.mapSeq fun x => x ++ items2), toks := s.toks }) :=
  .of_wp fun prog w A R s h => by
    obtain ⟨hp, g, d, tk, os⟩ := s; obtain ⟨hl, hb, h⟩ := h; have f1 := AutoSeq1.idx_int; have f2 := AutoSeq1.sub_tuple_tuple; have f3 := AutoSeq1.sub_list_list; have f4 := AutoSeq1.sub_tuple_list; have f5 := AutoSeq1.sub_list_tuple;
    have hz' : (items ++ items2).size ≤ sizeLine + 1 := by rw [Array.size_append]; exact hs2
    wp_walk using (wpAny_updateSeq hl rfl (hz := hc1) (_hz' := hz')), wpAny_loadPart' hl, wpAny_loadPart' hb; exact ⟨_, rfl, h⟩
def rExtW (K : PySem.W.Frag) : V → List V → Hp → VK → Prop := fun x vs H Q => ∃ l b xs zs, x = .ref l ∧ vs = [.ref b] ∧ H l = some (.lst xs) ∧ SqL K H b zs ∧ xs.length + zs.length ≤ sizeLine ∧ Q .non (upd H l (.lst (xs ++ zs)))
theorem mt_extW {X : Cx} : MtM X "list.extend" (rExtW X.K) := by
  intro pins s σ H x vs v us Q I rx rv h
  obtain ⟨l, b, xs, zs, rfl, rfl, hH, hB, hz, q⟩ := h
  cases rx
  obtain ⟨u, rfl, ru⟩ := rv.one
  cases ru
  obtain ⟨z, its, n, r, hl, e⟩ := I.lstM hH
  obtain ⟨its2, r2, pl2, _⟩ := I.list hB
  have hl2 := r2.length
  obtain ⟨⟨cls2, dd2, data2, sl2⟩, ho2, hc2, n2, hd2⟩ := id pl2.isList
  simp only at hc2 hd2
  subst hc2 hd2
  have hsz : its.toArray.size + its2.toArray.size ≤ sizeLine := by rw [List.size_toArray, List.size_toArray]; omega
  have hlong : ¬ (!its.toArray.isEmpty && Builtin.List.listTooLong (its.toArray.size + its2.toArray.size)) = true := by
    rw [notLongL hsz, Bool.and_false]
    exact Bool.false_ne_true
  refine call_meets F.slot_list_extend ⟨_, e, rfl⟩ F.entry_list_extend (F.args_list_extend_2 _ _)
    (list_extendW l its.toArray n b its2.toArray n2 dd2 sl2 hlong (by rw [List.size_toArray]; omega) (by omega)) ⟨e, ho2, ?_⟩
  refine ⟨.non, _, I.lset (its' := its ++ its2) hH e (by simp) (r.append r2) ?_, rfl, q⟩
  rw [List.length_append]
  omega

/-! ### statements -/
structure DE where
  nx : Gm → Prop
  rt : Rs → Prop
  bk : Gm → Prop := fun _ => False
  ct : Gm → Prop := fun _ => False
/-- what is wished of exceptions -/
structure XM (X : Cx) (bs : Bs) (rt : Rs → Prop) : Prop where
  top : X.stack = X.env :: X.outer ∧ X.env.frame = some X.env.locals
  xe : ∃ Wx : WX, Takes X Wx ∧ ∀ x C G B σ H, rt (.ex x G) → X.mg x = some (.ref C) → Sat X.K bs G B σ H → Wx (.ref C) none σ H
structure DM (X : Cx) (K : PySem.W.Frag) (bs : Bs) (E : DE) (De : Ends) : Prop where
  nx : ∀ G B σ H, E.nx G → Sat K bs G B σ H → De.nx σ H
  rf : ∀ d v B H, E.rt (.fz d) → Grow bs.B bs.H B H → Dp K B v d → De.rt v H
  ro : ∀ ds p us B H, E.rt (.ow ds) → Grow bs.B bs.H B H → bs.H p = none → B p = none → H p = some (.lst us) → DpAll K B us ds → De.rt (.ref p) H
  bk : ∀ G B σ H, E.bk G → Sat K bs G B σ H → De.bk σ H
  ct : ∀ G B σ H, E.ct G → Sat K bs G B σ H → De.ct σ H
  xm : XM X bs E.rt
structure GS (X : Cx) (G : Gm) (st : Stmt) (E : DE) : Prop where
  run : ∀ (bs : Bs) (B : Hp) (σ : L2.St) (H : Hp), Sat X.K bs G B σ H → ∀ De : Ends, DM X X.K bs E De → tS X st De σ H
structure GSs (X : Cx) (G : Gm) (sts : List Stmt) (E : DE) : Prop where
  run : ∀ (bs : Bs) (B : Hp) (σ : L2.St) (H : Hp), Sat X.K bs G B σ H → ∀ De : Ends, DM X X.K bs E De → tB1 X sts De σ H
section
variable {X : Cx} {G : Gm} {tg iter elt e a b : Expr} {items ds us : List D} {d : D} {W : Wd} {N : List Str} {sc scope : Scope} {k : Nat} {pos p1 p2 p3 p : Pos} {ws : List Nat} {ifs : List Expr} {st : Stmt} {sts : List Stmt} {E : DE} {i : Nat} {x : Str}
theorem gs_nil (h : E.nx G) : GSs X G [] E := ⟨fun bs B σ H S De m => inB pss_nil (m.nx G B σ H h S)⟩
theorem gs_cons (h : GS X G st ⟨fun G' => GSs X G' sts E, E.rt, E.bk, E.ct⟩) : GSs X G (st :: sts) E :=
  ⟨fun bs B σ H S De m => inB (pss_cons pS pB) (h.run bs B σ H S _ ⟨fun G' B' σ' H' g S' => g.run bs B' σ' H' S' De m, m.rf, m.ro, m.bk, m.ct, m.xm⟩)⟩
/-- one's own list at slot i is settled -/
theorem gs_settle (i : Nat) (hi : G[i]? = some (.ow ds)) (h : GSs X (G.set i (.fz (.list ds))) sts E) : GSs X G sts E :=
  ⟨fun bs B σ H S De m => by
    obtain ⟨B', e, S'⟩ := S.settle hi
    exact h.run bs B' σ H S' De m⟩
theorem gs_forget (i : Nat) (h : GSs X (G.set i .no) sts E) : GSs X G sts E := ⟨fun bs B σ H S De m => h.run bs B σ H S.forget De m⟩
theorem gs_asg (C : Cok X W N sc k) (i : Nat) (h : okL N sc i x = true) (he : GE X G e d) (hn : E.nx (G.set i (.fz d))) (hs : swapsWith e (some (.Name x p1)) pos.line X.env = pure false) : GS X G (.Assign [.Name x p1] e pos) E := by
  obtain ⟨h1, h2⟩ := okL_of h
  obtain ⟨l1, l2⟩ := C.loc x h2
  exact ⟨fun bs B σ H S De m => inS (ps_set (by rw [C.N]; exact C.nd) (by rw [C.N]; exact h1) l1 pE hs l2) (he.run bs B σ H S _ fun v B1 H1 g r => m.nx _ B1 _ H1 hn ((S.gro g).setF r))⟩
theorem gs_asgO (C : Cok X W N sc k) (i : Nat) (h : okL N sc i x = true) (he : GO X G e ds) (hn : E.nx (G.set i (.ow ds))) (hs : swapsWith e (some (.Name x p1)) pos.line X.env = pure false) : GS X G (.Assign [.Name x p1] e pos) E := by
  obtain ⟨h1, h2⟩ := okL_of h
  obtain ⟨l1, l2⟩ := C.loc x h2
  exact ⟨fun bs B σ H S De m => inS (ps_set (by rw [C.N]; exact C.nd) (by rw [C.N]; exact h1) l1 pE hs l2) (he.run bs B σ H S _ fun q vs B1 H1 g q0 q1 q2 r =>
    m.nx _ B1 _ H1 hn (S.setO g q0 rfl ⟨q, vs, rfl, same_none S.gr.h q0, q1, q2, r⟩))⟩
theorem GSs.is {G G' : Gm} {sts : List Stmt} {E : DE} (h : GSs X G sts E) (e : G' = G) : GSs X G' sts E := e ▸ h
theorem sw_trueB {elt : Expr} {gs : List Comprehension} {scope : Scope} {pos py : Pos} {y : Str} {l : Nat} {env : Env} (hb : env.blockKind = .function) (hy : env.scope.names.lookup y = some .local) (hl : (py.line == pos.line) = true)
    (ha : (scope.names.any fun (n, k) => n == y && (k == .local || k == .cell)) = false) : swapsWith (.ListComp elt gs scope pos) (some (.Name y py)) l env = pure true := by
  have ky : env.kindOf y = some .local := hy
  unfold swapsWith
  simp only [hb, ky, ha, Expr.pos, hl]
  rfl
/-- name = [..] on one line -/
theorem gs_asgLc {α : Type} {xs : List α} {en : α → D} {bt : α → Bool} {g : α → D} {G1 : α → Gm} {elt iter : Expr} {scope : Scope} {ifs : List Expr} (C : Cok X W N sc k) (i : Nat) (own : List (Str × Nat)) (h : okL N sc i x = true) (h1l : loc1B sc x = true) (hk : sc.kind = .function) (ok : blkC N sc scope own = true) (hi : GIw X G tg iter (xs.map en)) (hz : xs.length ≤ 16777216)
    (hg : ∀ X', Cok X' W N scope k → ∀ x ∈ xs, GG X' (wipeG G (own.map (·.2))) tg (en x) (G1 x) (own.map (·.2)))
    (ht : ∀ X', Cok X' W N scope k → ∀ x ∈ xs, GTs X' (G1 x) ifs (bt x))
    (he : ∀ X', Cok X' W N scope k → ∀ x ∈ xs, bt x = true → GE X' (G1 x) elt (g x))
    (hn : E.nx (G.set i (.ow ((xs.filter bt).map g)))) (hl : (p1.line == p2.line) = true) (ha : (scope.names.any fun (n, k) => n == x && (k == .local || k == .cell)) = false)
    (hs : ∀ x, foldedSetIterable iter X.env x = pure x) : GS X G (.Assign [.Name x p1] (.ListComp elt [⟨tg, iter, ifs, 0⟩] scope p2) pos) E := by
  obtain ⟨okB, nd⟩ := lc_blk C own ok
  obtain ⟨h1, h2⟩ := okL_of h
  exact ⟨fun bs B σ H S De m => inS (ps_setLc (g := gBc X scope tg) (tt := tBc X scope ifs) (te := eBc X scope elt) C.calm nd (by rw [C.N]; exact h1) (C.loc1 x h1l) (sw_trueB (C.bk hk) (C.loc1 x h1l) hl ha) pI okB (fun s0 H0 Cc cl fp => ⟨fun pins s _ _ _ u _ I r h => h s0 H0 Cc cl fp pins s u I r⟩) (fun s0 H0 Cc cl fp => ⟨fun pins s _ _ _ I h => h s0 H0 Cc cl fp pins s I⟩)
    (fun s0 H0 Cc cl fp => ⟨fun pins s _ _ _ I h => h s0 H0 Cc cl fp pins s I⟩) hs) (lc_run C own ok hi hz hg ht he bs B σ H S _ fun q vs B1 H1 g q0 b0 q1 r =>
    m.nx _ B1 _ H1 hn (S.setO g q0 rfl ⟨q, vs, rfl, same_none S.gr.h q0, b0, q1, r⟩))⟩
theorem gs_if {c : Expr} {t : Bool} {A1 A2 : List Stmt} (hc : GT X G c t) (h1 : t = true → GSs X G A1 E) (h2 : t = false → GSs X G A2 E) : GS X G (.If c A1 A2 pos) E :=
  ⟨fun bs B σ H S De m => inS (ps_if pT pB pB) (hc.run bs B σ H S _ fun B1 H1 g => by
    cases t with
    | true => exact iteT ((h1 rfl).run bs B1 σ H1 (S.gro g) De m)
    | false => exact iteF ((h2 rfl).run bs B1 σ H1 (S.gro g) De m))⟩
theorem gs_ret (he : GE X G e d) (h : E.rt (.fz d)) : GS X G (.Return (some e) pos) E := ⟨fun bs B σ H S De m => inS (ps_ret pE) (he.run bs B σ H S _ fun v B1 H1 g r => m.rf d v B1 H1 h (S.gr.trans g) r)⟩
theorem gs_retO (he : GO X G e ds) (h : E.rt (.ow ds)) : GS X G (.Return (some e) pos) E := ⟨fun bs B σ H S De m => inS (ps_ret pE) (he.run bs B σ H S _ fun q vs B1 H1 g q0 q1 q2 r => m.ro ds q vs B1 H1 h (S.gr.trans g) (same_none S.gr.h q0) q1 q2 r)⟩
theorem gs_retV (C : Cok X W N sc k) (i : Nat) (h : okV N sc i x = true) (hG : G[i]? = some (.ow ds)) (hr : E.rt (.ow ds)) : GS X G (.Return (some (.Name x p1)) pos) E := by
  obtain ⟨h1, h2, h3, h4⟩ := okV_of h
  refine ⟨fun bs B σ H S De m => inS (ps_ret (pe_var (i := i) (by rw [C.N]; exact h1) (C.vis x h2) h3 h4)) ?_⟩
  obtain ⟨q, vs, e, r0, r1, r2, r3⟩ := S.ow hG
  exact ⟨_, e, m.ro ds q vs B H hr S.gr r0 r1 r2 r3⟩
theorem gs_retN (h : E.rt (.fz .none)) : GS X G (.Return none pos) E := ⟨fun bs B σ H S De m => inS ps_retN (m.rf .none .non B H h S.gr .non)⟩
theorem gs_pass (h : E.nx G) : GS X G (.Pass pos) E := ⟨fun bs B σ H S De m => inS ps_pass (m.nx G B σ H h S)⟩
theorem gs_brk (h : E.bk G) : GS X G (.Break pos) E := ⟨fun bs B σ H S De m => inS ps_break (m.bk G B σ H h S)⟩
theorem gs_cnt (h : E.ct G) : GS X G (.Continue pos) E := ⟨fun bs B σ H S De m => inS ps_continue (m.ct G B σ H h S)⟩
theorem gs_drop (he : GE X G e d) (h : E.nx G) (hs : swapsWith e none pos.line X.env = pure false) : GS X G (.Expr e pos) E :=
  ⟨fun bs B σ H S De m => inS (ps_expr pE hs) (he.run bs B σ H S _ fun v B1 H1 g r => m.nx G B1 σ H1 h (S.gro g))⟩
/-- x.append(e) -/
theorem gs_app (C : Cok X W N sc k) (i : Nat) (h : okV N sc i x = true) (hG : G[i]? = some (.ow ds)) (he : GE X G e d) (hz : ds.length < 16777216) (hn : E.nx (G.set i (.ow (ds ++ [d]))))
    (hb : attributeBase (.Name x p1) "append" X.env (eval (.Name x p1) X.env) = eval (.Name x p1) X.env) (hl : (p2.endLine == p3.line) = true) (hst : nst e = true)
    (hfew : ((backTo p3 (starEach [e] X.env)).all (fun x => !x.1) && (backToKw p3 (keywordEach [] X.env)).all (fun x => x.1.isSome) && decide (([e] : List Expr).length + ([] : List Keyword).length + (if ([] : List Keyword).isEmpty then 0 else 1) < 30)) = true)
    (hs : swapsWith (.Call (.Attribute (.Name x p1) "append" p2) [e] [] p3) none pos.line X.env = pure false) : GS X G (.Expr (.Call (.Attribute (.Name x p1) "append" p2) [e] [] p3) pos) E := by
  obtain ⟨h1, h2, h3, h4⟩ := okV_of h
  refine ⟨fun bs B σ H S De m => inS (ps_expr (pe_bm PySem.F.plainAttrs_list PySem.F.slot_list_append PySem.F.type_list_append mt_append (pe_var (i := i) (by rw [C.N]; exact h1) (C.vis x h2) h3 h4) (pa_cons pE pa_nil (star_cons hst)) hb hfew hl (star_cons hst) (star_all rfl)) hs) ?_⟩
  obtain ⟨q, vs, e1, r0, r1, r2, r3⟩ := S.ow hG
  refine ⟨_, e1, .inl ⟨rfl, vs, .inl (.inl r2)⟩, ?_⟩
  refine he.run bs B σ H S _ fun v B1 H1 g r => ?_
  have S1 := S.gro g
  have l1 := dpa_len r3
  exact ⟨q, vs, v, rfl, rfl, g.h q _ r2, by rw [sizeLine_eq]; omega, m.nx _ B1 σ _ hn (S1.mutL hG e1 (dpa_app (moA r3 g.b) (.cons r .nil)))⟩
/-- x.extend(e) -/
theorem gs_ext (C : Cok X W N sc k) (i : Nat) (h : okV N sc i x = true) (hG : G[i]? = some (.ow ds)) (he : GL X G e us) (hz : ds.length + us.length ≤ 16777216) (hn : E.nx (G.set i (.ow (ds ++ us))))
    (hb : attributeBase (.Name x p1) "extend" X.env (eval (.Name x p1) X.env) = eval (.Name x p1) X.env) (hl : (p2.endLine == p3.line) = true) (hst : nst e = true)
    (hfew : ((backTo p3 (starEach [e] X.env)).all (fun x => !x.1) && (backToKw p3 (keywordEach [] X.env)).all (fun x => x.1.isSome) && decide (([e] : List Expr).length + ([] : List Keyword).length + (if ([] : List Keyword).isEmpty then 0 else 1) < 30)) = true)
    (hs : swapsWith (.Call (.Attribute (.Name x p1) "extend" p2) [e] [] p3) none pos.line X.env = pure false) : GS X G (.Expr (.Call (.Attribute (.Name x p1) "extend" p2) [e] [] p3) pos) E := by
  obtain ⟨h1, h2, h3, h4⟩ := okV_of h
  refine ⟨fun bs B σ H S De m => inS (ps_expr (pe_bm PySem.F.plainAttrs_list PySem.F.slot_list_extend PySem.F.type_list_extend mt_extW (pe_var (i := i) (by rw [C.N]; exact h1) (C.vis x h2) h3 h4) (pa_cons pE pa_nil (star_cons hst)) hb hfew hl (star_cons hst) (star_all rfl)) hs) ?_⟩
  obtain ⟨q, vs, e1, r0, r1, r2, r3⟩ := S.ow hG
  refine ⟨_, e1, .inl ⟨rfl, vs, .inl (.inl r2)⟩, ?_⟩
  refine he.run bs B σ H S _ fun b' vs' B1 H1 g q1 r => ?_
  have S1 := S.gro g
  have l1 := dpa_len r3
  have l2 := dpa_len r
  exact ⟨q, b', vs, vs', rfl, rfl, g.h q _ r2, q1, by rw [sizeLine_eq]; omega, m.nx _ B1 σ _ hn (S1.mutL hG e1 (dpa_app (moA r3 g.b) r))⟩
/-- x[j] = e -/
theorem gs_setI (C : Cok X W N sc k) (i : Nat) (h : okV N sc i x = true) (hG : G[i]? = some (.ow ds)) (he : GE X G e d) {j : Int} {jn : Nat} (hj : GE X G a (.int j)) (hjn : ixN ds.length j = some jn) (hn : E.nx (G.set i (.ow (ds.set jn d))))
    (ha : ∀ v, assign (.Subscript (.Name x p1) a p2) X.env v = (do
      let ov ← holding [v] (eval (.Name x p1) X.env)
      let iv ← holding [v, ov] (eval a X.env)
      standAt p2
      holding [v, ov, iv] (setItem ov iv v)
      release [v, ov, iv] []))
    (hs : swapsWithSole [.Subscript (.Name x p1) a p2] e pos.line X.env = pure false) (hw : swappedStores [.Subscript (.Name x p1) a p2] e X.env = pure none)
    (h1' : (assignEach [.Subscript (.Name x p1) a p2] X.env).map (·.2) = [assign (.Subscript (.Name x p1) a p2) X.env]) : GS X G (.Assign [.Subscript (.Name x p1) a p2] e pos) E := by
  obtain ⟨h1, h2, h3, h4⟩ := okV_of h
  refine ⟨fun bs B σ H S De m => inS (ps_asg pE (pg_sub (pe_var (i := i) (by rw [C.N]; exact h1) (C.vis x h2) h3 h4) pE set_list ha) hs hw h1') (he.run bs B σ H S _ fun v B1 H1 g r => ?_)⟩
  have S1 := S.gro g
  obtain ⟨q, vs, e1, r0, r1, r2, r3⟩ := S1.ow hG
  refine ⟨_, e1, hj.run bs B1 σ H1 S1 _ fun w B2 H2 g2 rw' => ?_⟩
  have l1 := dpa_len r3
  exact ⟨q, vs, j, jn, rfl, dp_int rw', g2.h q _ r2, by rw [l1]; exact hjn, m.nx _ B2 σ _ hn ((S1.gro g2).mutL hG e1 (dpa_set jn (moA r3 g2.b) (moD r g2.b)))⟩
/-- x += e, whole numbers -/
theorem gs_augA (C : Cok X W N sc k) (i : Nat) (h : okL N sc i x = true) {u v : Int} (hG : G[i]? = some (.fz (.int u))) (he : GE X G e (.int v)) (hn : E.nx (G.set i (.fz (.int (u + v))))) : GS X G (.AugAssign (.Name x p1) .Add e pos) E := by
  obtain ⟨h1, h2⟩ := okL_of h
  obtain ⟨l1, l2⟩ := C.loc x h2
  refine ⟨fun bs B σ H S De m => inS (ps_aug (i := i) (by rw [C.N]; exact C.nd) (by rw [C.N]; exact h1) l1 pE ip_add l2) ?_⟩
  obtain ⟨w, e1, r⟩ := S.fz hG
  exact ⟨w, e1, he.run bs B σ H S _ fun y B1 H1 g r1 => ⟨u, v, dp_int r, dp_int r1, m.nx _ B1 _ H1 hn ((S.gro g).setF (.int _))⟩⟩
theorem gs_augS (C : Cok X W N sc k) (i : Nat) (h : okL N sc i x = true) {u v : Int} (hG : G[i]? = some (.fz (.int u))) (he : GE X G e (.int v)) (hn : E.nx (G.set i (.fz (.int (u - v))))) : GS X G (.AugAssign (.Name x p1) .Sub e pos) E := by
  obtain ⟨h1, h2⟩ := okL_of h
  obtain ⟨l1, l2⟩ := C.loc x h2
  refine ⟨fun bs B σ H S De m => inS (ps_aug (i := i) (by rw [C.N]; exact C.nd) (by rw [C.N]; exact h1) l1 pE ip_sub l2) ?_⟩
  obtain ⟨w, e1, r⟩ := S.fz hG
  exact ⟨w, e1, he.run bs B σ H S _ fun y B1 H1 g r1 => ⟨u, v, dp_int r, dp_int r1, m.nx _ B1 _ H1 hn ((S.gro g).setF (.int _))⟩⟩
/-- a, b = e1, e2 -/
theorem gs_par (C : Cok X W N sc k) (i j : Nat) {y : Str} {d1 d2 : D} {kt k2 : Nat} {pt pt2 : Pos} (hi : N[i]? = some x) (hj : N[j]? = some y) (hij : i ≠ j) (hx : loc1B sc x = true) (hy : loc1B sc y = true) (ha : GA X G [a, b] [d1, d2]) (hn : E.nx ((G.set i (.fz d1)).set j (.fz d2)))
    (hk : sc.kind = .function) (hw : ∀ env : Env, env.blockKind = .function → env.kindOf x = some .local → env.kindOf y = some .local → swappedStores [.Tuple [.Name x p1, .Name y p2] kt pt] (.Tuple [a, b] k2 pt2) env = pure (some [x, y])) (hs : swapsWithSole [.Tuple [.Name x p1, .Name y p2] kt pt] (.Tuple [a, b] k2 pt2) pos.line X.env = pure false) :
    GS X G (.Assign [.Tuple [.Name x p1, .Name y p2] kt pt] (.Tuple [a, b] k2 pt2) pos) E :=
  ⟨fun bs B σ H S De m => inS (ps_par C.calm (by rw [C.N]; exact C.nd) (by rw [C.N]; exact hi) (by rw [C.N]; exact hj) hij (C.loc1 x hx) (C.loc1 y hy) pA (hw _ (C.bk hk) (C.loc1 x hx) (C.loc1 y hy)) hs) (ha.run bs B σ H S _ fun vs B1 H1 g r => by
    obtain ⟨v, w, rfl, r1, r2⟩ := dpa_two r
    exact ⟨v, w, rfl, m.nx _ B1 _ H1 hn (((S.gro g).setF r1).setF r2)⟩)⟩
/-- a target that takes a datum apart -/
theorem gs_unp {G' : Gm} (he : GE X G e d) (hg : GG X G tg d G' ws) (hn : E.nx G') (hs : swapsWithSole [tg] e pos.line X.env = pure false) (hw : swappedStores [tg] e X.env = pure none)
    (h1 : (assignEach [tg] X.env).map (·.2) = [assign tg X.env]) : GS X G (.Assign [tg] e pos) E :=
  ⟨fun bs B σ H S De m => inS (ps_asg pE pG hs hw h1) (he.run bs B σ H S _ fun v B1 H1 g r => hg.run bs B1 σ H1 v (S.gro g) r _ fun σ' _ S' => m.nx G' B1 σ' H1 hn S')⟩
/-- a loop: J by the turn -/
theorem gs_for {body : List Stmt} (C : Cok X W N sc k) (hi : GI X G tg iter items) (J : Nat → Gm → Prop) (h0 : J 0 G)
    (hs : ∀ (i : Nat) (d : D) (G' : Gm), items[i]? = some d → J i G' → ∃ G2 ws, GG X G' tg d G2 ws ∧ GSs X G2 body ⟨J (i + 1), E.rt, E.nx, J (i + 1)⟩)
    (hd : ∀ G', J items.length G' → E.nx G') (hf : ∀ x, foldedSetIterable iter X.env x = pure x) : GS X G (.For tg iter body [] pos) E := by
  refine ⟨fun bs B σ H S De m => inS (ps_for C.pown C.calm pI pG pB hf) (hi.run bs B σ H S _ fun Jt B1 H1 g wk => ?_)⟩
  have S1 := S.gro g
  have S1' : Sat X.K ⟨B1, bs.H⟩ G B1 σ H1 := by
    have g1 := S1.gr
    refine ⟨⟨Same.refl _, g1.h, g1.bh, fun _ _ h => h⟩, S1.len, fun i s o a b => ?_, S1.na⟩
    have r := S1.sl i s o a b
    cases s <;> exact r
  have back : ∀ {G' B' σ' H'}, Sat X.K ⟨B1, bs.H⟩ G' B' σ' H' → Sat X.K bs G' B' σ' H' := fun {G' B' σ' H'} T => by
    refine ⟨⟨S1.gr.b.trans T.gr.b, T.gr.h, T.gr.bh, fun x hx hb => T.gr.n x hx (S1.gr.n x hx hb)⟩, T.len, fun i s o a b => ?_, T.na⟩
    have r := T.sl i s o a b
    cases s <;> exact r
  refine ⟨fun i mm σ' H' => mm = items.length - i ∧ i ≤ items.length ∧ ∃ G' B', J i G' ∧ Sat X.K ⟨B1, bs.H⟩ G' B' σ' H', ⟨items.length, by simp, Nat.zero_le _, G, B1, h0, S1'⟩, ?_⟩
  rintro i mm σ' H' ⟨rfl, hile, G', B', hJ, T⟩
  have sF : Same B1 H' := T.gr.b.trans T.gr.bh
  by_cases hlt : i < items.length
  · refine .inr ⟨wk.go i H' sF hlt, fun σ2 H2 => ∃ G2 B2, J (i + 1) G2 ∧ Sat X.K ⟨B1, bs.H⟩ G2 B2 σ2 H2, fun σ2 H2 ⟨G2, B2, j2, T2⟩ => ⟨items.length - (i + 1), by omega, rfl, hlt, G2, B2, j2, T2⟩, fun x H'' y => ?_⟩
    obtain ⟨d, B'', e1, g3, r3⟩ := wk.yld i B' H' x H'' sF T.gr.b T.gr.bh hlt y
    obtain ⟨G2, ws, hg, hb⟩ := hs i d G' e1 hJ
    refine hg.run ⟨B1, bs.H⟩ B'' σ' H'' x (T.gro g3) r3 _ fun σ2 _ T2 => ?_
    refine hb.run ⟨B1, bs.H⟩ B'' σ2 H'' T2 _ ⟨fun G3 B3 σ3 H3 j3 T3 => ⟨G3, B3, j3, T3⟩, fun d v B3 H3 hr g4 r4 => ?_, fun ds q us B3 H3 hr g4 q0 q1 q2 r4 => ?_, fun G3 B3 σ3 H3 j3 T3 => m.nx G3 B3 σ3 H3 j3 (back T3), fun G3 B3 σ3 H3 j3 T3 => ⟨G3, B3, j3, T3⟩, ⟨m.xm.top, by
      obtain ⟨Wx, tk, q⟩ := m.xm.xe
      exact ⟨Wx, tk, fun x C G B σ H hr hm T => q x C G B σ H hr hm (back T)⟩⟩⟩
    · exact m.rf d v B3 H3 hr ⟨S1.gr.b.trans g4.b, g4.h, g4.bh, fun x hx hb => g4.n x hx (S1.gr.n x hx hb)⟩ r4
    · exact m.ro ds q us B3 H3 hr ⟨S1.gr.b.trans g4.b, g4.h, g4.bh, fun x hx hb => g4.n x hx (S1.gr.n x hx hb)⟩ q0 q1 q2 r4
  · have e : i = items.length := by omega
    subst e
    exact .inl ⟨wk.stop _ H' sF (Nat.le_refl _), m.nx G' B' σ' H' (hd G' hJ) (back T)⟩
/-- a while: J by a measure -/
theorem gs_while {body : List Stmt} {c : Expr} (C : Cok X W N sc k) (J : Nat → Gm → Prop) (m0 : Nat) (h0 : J m0 G)
    (hs : ∀ (n : Nat) (G' : Gm), J n G' → ∃ t, GT X G' c t ∧ (t = true → GSs X G' body ⟨fun G2 => ∃ n', n' < n ∧ J n' G2, E.rt, E.nx, fun G2 => ∃ n', n' < n ∧ J n' G2⟩) ∧ (t = false → E.nx G')) : GS X G (.While c body [] pos) E := by
  refine ⟨fun bs B σ H S De m => inS (ps_while C.pown pT pB) ?_⟩
  refine ⟨fun n σ' H' => ∃ G' B', J n G' ∧ Sat X.K bs G' B' σ' H', ⟨m0, G, B, h0, S⟩, ?_⟩
  rintro n σ' H' ⟨G', B', hJ, T⟩
  obtain ⟨t, ht, h1, h2⟩ := hs n G' hJ
  refine ht.run bs B' σ' H' T _ fun B2 H2 g => ?_
  cases t with
  | true =>
    refine iteT ⟨fun σ2 H2 => ∃ n', n' < n ∧ ∃ G2 B2, J n' G2 ∧ Sat X.K bs G2 B2 σ2 H2, fun σ2 H2 ⟨n', hn, G2, B2, q, T2⟩ => ⟨n', hn, G2, B2, q, T2⟩, ?_⟩
    exact (h1 rfl).run bs B2 σ' H2 (T.gro g) _ ⟨fun G3 B3 σ3 H3 ⟨n', hn, j3⟩ T3 => ⟨n', hn, G3, B3, j3, T3⟩, m.rf, m.ro, m.nx, fun G3 B3 σ3 H3 ⟨n', hn, j3⟩ T3 => ⟨n', hn, G3, B3, j3, T3⟩, m.xm⟩
  | false => exact iteF (m.nx G' B2 σ' H2 (h2 rfl) (T.gro g))
end

/-! ### a def -/
def startG (N : List Str) (ds : List D) : Gm := ds.map .fz ++ List.replicate (N.length - ds.length) .no
theorem start_sat {K : PySem.W.Frag} {N : List Str} {B H : Hp} {vs : List V} {ds : List D} (e : Same B H) (r : DpAll K B vs ds) : Sat K ⟨B, H⟩ (startG N ds) B (L2.start N vs) H := by
  have ll := dpa_len r
  refine ⟨.refl e, ?_, fun i s o h1 h2 => ?_, fun i j s t p hij h1 h2 s1 s2 e1 e2 => ?_⟩
  · unfold L2.start startG
    rw [List.length_append, List.length_append, List.length_map, List.length_map, List.length_replicate, List.length_replicate, ll]
  · unfold startG at h1
    unfold L2.start at h2
    by_cases hi : i < ds.length
    · rw [List.getElem?_append_left (by rw [List.length_map]; exact hi), List.getElem?_map] at h1
      rw [List.getElem?_append_left (by rw [List.length_map, ll]; exact hi), List.getElem?_map] at h2
      cases hd : ds[i]? with
      | none =>
        rw [hd] at h1
        cases h1
      | some d =>
        rw [hd] at h1
        obtain ⟨v, hv, rv⟩ := dpa_get r hd
        rw [hv] at h2
        cases h1
        cases h2
        exact ⟨v, rfl, rv⟩
    · rw [List.getElem?_append_right (by rw [List.length_map]; omega)] at h1
      have : s = .no := List.eq_of_mem_replicate (List.mem_of_getElem? h1)
      subst this
      trivial
  · unfold startG at h1
    have : s ∈ ds.map Sl.fz ++ List.replicate (N.length - ds.length) Sl.no := List.mem_of_getElem? h1
    rcases List.mem_append.mp this with q | q
    · obtain ⟨d, _, e⟩ := List.mem_map.mp q
      subst e
      cases s1
    · have := List.eq_of_mem_replicate q
      subst this
      cases s1
theorem fn_ok {W : Wd} {x qual : Str} {st : Stmt} {f : Addr} {fd : FuncData} {N ps : List Str} {k : Nat} {c : Ct} (F : Fun W.K x qual st f fd) (S : FnScope N ps (defScope st)) (len : ∀ ds R, c ds R → ds.length = ps.length)
    (hb : ∀ X : Cx, Cok X W N (defScope st) k → ∀ (ds : List D) (R : Rs → Prop), c ds R → GSs X (startG N ds) (defBody st) { nx := fun _ => R (.fz .none), rt := R }) : FnOk W.P W.w W.K W.mg W.base (L2.CX W.P W.w) (k + 1) f fd ps (spD W.K W.mg c) := by
  refine F.okX S (fun vs H Q E h => ?_) (fun cdv A outer s H vs Q E hr h => ?_)
  · obtain ⟨B, ds, R, _, r, hc, _⟩ := h
    rw [dpa_len r]
    exact len ds R hc
  · obtain ⟨B, ds, R, e, r, hc, q1, q2, q3⟩ := h
    refine ⟨_, pB, ?_⟩
    have C : Cok (cxOf (L2.CX W.P W.w) W.P W.w W.K W.mg W.base N qual (defScope st) f cdv A outer s H E) W N (defScope st) k :=
      ⟨⟨rfl, S.nd, rfl, fun x h => visB_of h, fun x h => ⟨locB_of h, .inl rfl⟩, fun x h => loc1B_of h, fun x h => glB_of h, fun x h => h, fun bkfn => by
        show (if (defScope st).kind.isAnnotationScope then _ else (defScope st).kind) = _
        rw [bkfn]
        rfl⟩, rfl, hr, passes_of rfl⟩
    refine (hb _ C ds R hc).run ⟨B, H⟩ B (L2.start N vs) H (start_sat e r) _ ⟨fun G' B' σ' H' g S' => ?_, fun d v B' H' hR g r' => q1 d v B' H' hR g r', fun es p us B' H' hR g p0 p1 p2 r' => q2 es p us B' H' hR g p0 p1 p2 r', fun _ _ _ _ z => z.elim, fun _ _ _ _ z => z.elim, ⟨⟨rfl, rfl⟩, fun cls d _ H => E cls d H, takes_of rfl rfl rfl rfl, fun x C G B' _ H' hR hm S' => q3 x G C B' H' hR hm S'.gr⟩⟩
    exact q1 _ _ B' H' g S'.gr .non
end DW

set_option Elab.async false
set_option linter.all false
set_option maxRecDepth 100000
set_option maxHeartbeats 4000000
set_option autoImplicit false
namespace DW
open PySem PySem.Spec PyProof.Rows L2

/-! ### sizes -/
def Bd (n : Nat) (i : Int) : Prop := i.natAbs < 2 ^ n
theorem two_mono {n m : Nat} (h : n ≤ m) : (2 : Nat) ^ n ≤ 2 ^ m := Nat.pow_le_pow_right (by decide) h
theorem Bd.mono {n m : Nat} {i : Int} (h : Bd n i) (e : n ≤ m) : Bd m i := Nat.lt_of_lt_of_le h (two_mono e)
theorem Bd.add {n m : Nat} {i j : Int} (h : Bd n i) (g : Bd m j) : Bd (max n m + 1) (i + j) := by
  have h1 : i.natAbs < 2 ^ max n m := h.mono (Nat.le_max_left n m)
  have h2 : j.natAbs < 2 ^ max n m := g.mono (Nat.le_max_right n m)
  show (i + j).natAbs < 2 ^ (max n m + 1)
  rw [Nat.pow_succ]
  omega
theorem Bd.sub {n m : Nat} {i j : Int} (h : Bd n i) (g : Bd m j) : Bd (max n m + 1) (i - j) := by
  have h1 : i.natAbs < 2 ^ max n m := h.mono (Nat.le_max_left n m)
  have h2 : j.natAbs < 2 ^ max n m := g.mono (Nat.le_max_right n m)
  show (i - j).natAbs < 2 ^ (max n m + 1)
  rw [Nat.pow_succ]
  omega
theorem Bd.neg {n : Nat} {i : Int} (h : Bd n i) : Bd n (-i) := by
  show (-i).natAbs < 2 ^ n
  rw [Int.natAbs_neg]
  exact h
theorem Bd.mul {n m : Nat} {i j : Int} (h : Bd n i) (g : Bd m j) : Bd (n + m) (i * j) := by
  show (i * j).natAbs < 2 ^ (n + m)
  rw [Int.natAbs_mul, Nat.pow_add]
  exact Nat.mul_lt_mul'' h g
theorem Bd.mod {m : Nat} {i j : Int} (h : 0 < j) (g : Bd m j) : Bd m (i % j) := by
  have h1 := Int.emod_nonneg i (show j ≠ 0 by omega)
  have h2 := Int.emod_lt_of_pos i h
  have h3 : j.natAbs < 2 ^ m := g
  show (i % j).natAbs < 2 ^ m
  omega
theorem Bd.div {n : Nat} {i j : Int} (g : Bd n i) (h : 0 < j) : Bd n (i / j) := by
  refine Nat.lt_of_le_of_lt ?_ g
  have h1 := Int.natAbs_ediv_le_natAbs i j
  exact h1
theorem Bd.ofLe {n : Nat} {i : Int} (h : -(2 ^ n : Int) < i) (g : i < 2 ^ n) : Bd n i := by
  show i.natAbs < 2 ^ n
  have e : ((2 ^ n : Nat) : Int) = (2 : Int) ^ n := by norm_cast
  omega
theorem log2_lt {n k : Nat} (h0 : 0 < k) (h : n < 2 ^ k) : n.log2 < k := PySem.Flt.log2_lt_of h0 h
theorem bits_le {n : Nat} {i : Int} (h : Bd n i) : Builtin.Int.intBits i ≤ n + 1 := by
  unfold Builtin.Int.intBits
  have h1 : i.natAbs < 2 ^ (n + 1) := h.mono (Nat.le_succ n)
  have h2 := log2_lt (Nat.succ_pos n) h1
  split <;> omega
theorem Bd.ok {n m : Nat} {i j : Int} (h : Bd n i) (g : Bd m j) (e : n + m ≤ 134217000) : IntMulOk i j := by
  have h1 := bits_le h
  have h2 := bits_le g
  have e1 : bitsLine = 134217728 := by decide
  unfold IntMulOk
  intro z
  rw [Bool.and_eq_true] at z
  have z2 := z.2
  unfold Builtin.Int.intTooBig at z2
  have z3 := of_decide_eq_true z2
  rw [e1] at z3
  omega
theorem Bd.dv {m : Nat} {i j : Int} (h : 0 < j) (g : Bd m j) (e : m < 9000) : CDivW i j := ⟨h, Nat.lt_of_le_of_lt (Nat.le_of_lt_succ (log2_lt (Nat.succ_pos m) (g.mono (Nat.le_succ m)))) e⟩
theorem bd_of_bits {n : Nat} {i : Int} (h : Builtin.Int.intBits i ≤ n) : Bd n i := by
  unfold Builtin.Int.intBits at h
  show i.natAbs < 2 ^ n
  split at h
  · rename_i h0
    have : i.natAbs = 0 := by simpa using h0
    rw [this]
    exact Nat.two_pow_pos n
  · have h1 := Nat.lt_log2_self (n := i.natAbs)
    exact Nat.lt_of_lt_of_le h1 (two_mono h)
end DW

set_option Elab.async false
set_option linter.all false
set_option maxRecDepth 100000
set_option maxHeartbeats 4000000
set_option autoImplicit false
namespace DW
open PySem PySem.Spec PyProof.Rows L2

/-! ### a value of either make, places in it, its length -/
inductive Vw where
  | s (d : D)
  | l (ds : List D)
inductive GV (X : Cx) (G : Gm) (e : Expr) : Vw → Prop
  | s {d : D} : GE X G e d → GV X G e (.s d)
  | l {ds : List D} : GL X G e ds → GV X G e (.l ds)
inductive IxV : Vw → Int → D → Prop
  | tup {ds : List D} {i : Int} {d : D} : atI ds i = some d → IxV (.s (.tuple ds)) i d
  | lst {ds : List D} {i : Int} {d : D} : atI ds i = some d → IxV (.s (.list ds)) i d
  | own {ds : List D} {i : Int} {d : D} : atI ds i = some d → IxV (.l ds) i d
  | str {x : Str} {i : Int} {c : Nat} : x.length ≤ sizeLine → atI x.cps.toList i = some c → IxV (.s (.str x)) i (.str ⟨#[c]⟩)
inductive LenD : D → Int → Prop
  | lst {ds : List D} : LenD (.list ds) (ds.length : Int)
  | tup {ds : List D} : LenD (.tuple ds) (ds.length : Int)
  | str {x : Str} : x.length ≤ sizeLine → LenD (.str x) (x.length : Int)
inductive ItD : D → List D → Prop
  | lst {ds : List D} : ItD (.list ds) ds
  | tup {ds : List D} : ItD (.tuple ds) ds
section
variable {X : Cx} {G : Gm} {tg iter elt e a b : Expr} {es : List Expr} {items ds us : List D} {d z : D} {W : Wd} {N : List Str} {sc scope : Scope} {k : Nat} {pos p1 p2 p3 p : Pos} {ws : List Nat} {v : Vw} {i j : Int} {lo hi : Option Expr} {l h : Option Int}
theorem ge_ix (ha : GV X G a v) (hb : GE X G b (.int i)) (hd : IxV v i d) (hs : PlainIx b) : GE X G (.Subscript a b pos) d := by
  cases hd with
  | tup h => cases ha with | s ha => exact ge_ixT ha hb h hs
  | lst h => cases ha with | s ha => exact ge_ixL ha.gl hb h hs
  | own h => cases ha with | l ha => exact ge_ixL ha hb h hs
  | str h h2 => cases ha with | s ha => exact ge_ixS ha hb h h2 hs
theorem ge_len (C : Cok X W N sc k) (hg : glB sc "len" = true) (hm : W.mg "len" = none) (ha : GH X G e d) (hz : LenD d i) (he : nst e = true) : GE X G (.Call (.Name "len" p) [e] [] pos) (.int i) := by
  cases hz with
  | lst => exact ge_cb C hg hm PySem.boot_len call_len_seq (gah_cons ha gah_nil he) rc_len (by decide) he rfl
  | tup => exact ge_cb C hg hm PySem.boot_len call_len_seq (gah_cons ha gah_nil he) rc_lenT (by decide) he rfl
  | str h => exact ge_cb C hg hm PySem.boot_len call_len_str (gah_cons ha gah_nil he) (rc_lenS h) (by decide) he rfl
theorem ge_abs (C : Cok X W N sc k) (hg : glB sc "abs" = true) (hm : W.mg "abs" = none) (ha : GH X G e (.int i)) (he : nst e = true) : GE X G (.Call (.Name "abs" p) [e] [] pos) (.int (if i < 0 then -i else i)) :=
  ge_cb C hg hm (by decide +kernel) call_abs (gah_cons ha gah_nil he) rc_abs (by decide) he rfl
theorem ge_max (C : Cok X W N sc k) (hg : glB sc "max" = true) (hm : W.mg "max" = none) (ha : GH X G a (.int i)) (hb : GH X G b (.int j)) (he : nst a = true) (he2 : nst b = true) : GE X G (.Call (.Name "max" p) [a, b] [] pos) (.int (if j > i then j else i)) :=
  ge_cb C hg hm (by decide +kernel) (call_max2 C.calm) (gah_cons ha (gah_cons hb gah_nil he2) he) rc_max2 (by decide) he (by show (nst b && true) = true; rw [he2]; rfl)
theorem ge_min (C : Cok X W N sc k) (hg : glB sc "min" = true) (hm : W.mg "min" = none) (ha : GH X G a (.int i)) (hb : GH X G b (.int j)) (he : nst a = true) (he2 : nst b = true) : GE X G (.Call (.Name "min" p) [a, b] [] pos) (.int (if j < i then j else i)) :=
  ge_cb C hg hm (by decide +kernel) (call_min2 C.calm) (gah_cons ha (gah_cons hb gah_nil he2) he) rc_min2 (by decide) he (by show (nst b && true) = true; rw [he2]; rfl)
theorem ge_intB {t : Bool} (C : Cok X W N sc k) (hg : glB sc "int" = true) (hm : W.mg "int" = none) (ha : GH X G e (.bool t)) (he : nst e = true) : GE X G (.Call (.Name "int" p) [e] [] pos) (.int (if t then 1 else 0)) :=
  ge_ct C hg hm (by decide +kernel) call_int1 (gah_cons ha gah_nil he) rc_intB (by decide) he rfl
theorem ge_sum {ns : List Int} (C : Cok X W N sc k) (hg : glB sc "sum" = true) (hm : W.mg "sum" = none) (ha : GH X G e (.list (ns.map .int))) (he : nst e = true) : GE X G (.Call (.Name "sum" p) [e] [] pos) (.int ns.sum) :=
  ge_cb C hg hm (by decide +kernel) (cr_sum C.calm) (gah_cons ha gah_nil he) rc_sum (by decide) he rfl
theorem gi_it (h : GE X G iter d) (hz : ItD d items) : GI X G tg iter items := by
  cases hz with
  | lst => exact gi_list h
  | tup => exact gi_tup h
/-- x[lo:hi] of either make -/
theorem ge_sl (ha : GE X G a (.tuple ds)) (hl : GP X G lo l) (hh : GP X G hi h) : GE X G (.Subscript a (.Slice lo hi none p2) pos) (.tuple (cutD ds l h)) := ge_slT ha hl hh
end

/-! ### points of three whole numbers -/
structure P3 where
  x : Int
  y : Int
  z : Int
  deriving DecidableEq
abbrev P3.en (u : P3) : D := .tuple [.int u.x, .int u.y, .int u.z]
theorem ge_p3 {X : Cx} {G : Gm} {e1 e2 e3 : Expr} {a b c : Int} {n1 : Nat} {pos : Pos} (h1 : GE X G e1 (.int a)) (h2 : GE X G e2 (.int b)) (h3 : GE X G e3 (.int c)) (n : nst e1 = true) (n' : nst e2 = true) (n'' : nst e3 = true) : GE X G (.Tuple [e1, e2, e3] n1 pos) (P3.en ⟨a, b, c⟩) :=
  ge_tup (ga_cons h1 (ga_cons h2 (ga_cons h3 ga_nil n'') n') n) (by show 3 ≤ sizeLine; decide)

/-! ### statements with their rest -/
section
variable {X : Cx} {G : Gm} {tg iter elt e a b : Expr} {items ds us : List D} {d : D} {W : Wd} {N : List Str} {sc scope : Scope} {k : Nat} {pos p1 p2 p3 p : Pos} {ws : List Nat} {ifs : List Expr} {st : Stmt} {sts : List Stmt} {E : DE} {x : Str}
theorem gss_asg (C : Cok X W N sc k) (i : Nat) (h : okL N sc i x = true) (he : GE X G e d) (hn : GSs X (G.set i (.fz d)) sts E) (hs : swapsWith e (some (.Name x p1)) pos.line X.env = pure false) : GSs X G (.Assign [.Name x p1] e pos :: sts) E := gs_cons (gs_asg C i h he hn hs)
theorem gss_asgE {d' : D} (C : Cok X W N sc k) (i : Nat) (h : okL N sc i x = true) (he : GE X G e d') (hs : swapsWith e (some (.Name x p1)) pos.line X.env = pure false) (hd : d' = d) (hn : GSs X (G.set i (.fz d)) sts E) : GSs X G (.Assign [.Name x p1] e pos :: sts) E := by
  subst hd
  exact gs_cons (gs_asg C i h he hn hs)
theorem gss_retE {d' : D} (he : GE X G e d') (hd : d' = d) (h : E.rt (.fz d)) : GSs X G (.Return (some e) pos :: sts) E := by
  subst hd
  exact gs_cons (gs_ret he h)
theorem gss_asgO (C : Cok X W N sc k) (i : Nat) (h : okL N sc i x = true) (he : GO X G e ds) (hn : GSs X (G.set i (.ow ds)) sts E) (hs : swapsWith e (some (.Name x p1)) pos.line X.env = pure false) : GSs X G (.Assign [.Name x p1] e pos :: sts) E := gs_cons (gs_asgO C i h he hn hs)
theorem gss_if {c : Expr} {t : Bool} {A1 A2 : List Stmt} (hc : GT X G c t) (h1 : t = true → GSs X G A1 ⟨fun G' => GSs X G' sts E, E.rt, E.bk, E.ct⟩) (h2 : t = false → GSs X G A2 ⟨fun G' => GSs X G' sts E, E.rt, E.bk, E.ct⟩) : GSs X G (.If c A1 A2 pos :: sts) E := gs_cons (gs_if hc h1 h2)
/-- if c: (leaves) -/
theorem gss_when {c : Expr} {t : Bool} {A1 : List Stmt} (hc : GT X G c t) (h1 : t = true → GSs X G A1 ⟨fun G' => GSs X G' sts E, E.rt, E.bk, E.ct⟩) (h2 : t = false → GSs X G sts E) : GSs X G (.If c A1 [] pos :: sts) E := gs_cons (gs_if hc h1 fun z => gs_nil (h2 z))
/-- a way that is not gone -/
theorem gss_not {c : Expr} {A1 : List Stmt} (hc : GT X G c false) (h2 : GSs X G sts E) : GSs X G (.If c A1 [] pos :: sts) E := gs_cons (gs_if hc (fun z => by cases z) fun _ => gs_nil h2)
theorem gss_ret (he : GE X G e d) (h : E.rt (.fz d)) : GSs X G (.Return (some e) pos :: sts) E := gs_cons (gs_ret he h)
theorem gss_retO (he : GO X G e ds) (h : E.rt (.ow ds)) : GSs X G (.Return (some e) pos :: sts) E := gs_cons (gs_retO he h)
theorem gss_retV (C : Cok X W N sc k) (i : Nat) (h : okV N sc i x = true) (hG : G[i]? = some (.ow ds)) (hr : E.rt (.ow ds)) : GSs X G (.Return (some (.Name x p1)) pos :: sts) E := gs_cons (gs_retV C i h hG hr)
theorem gss_nil {De : DE} (h : De.nx G) : GSs X G [] De := gs_nil h
end
/-! ### defs together -/
structure FunAt (W : Wd) (x : Str) (st : Stmt) : Prop where
  ex : ∃ (f : Addr) (fd : FuncData), W.mg x = some (.ref f) ∧ Fun W.K x x st f fd
theorem has_mk {W : Wd} {x : Str} {st : Stmt} {N ps : List Str} {k : Nat} {c : Ct} (F : FunAt W x st) (S : FnScope N ps (defScope st)) (len : ∀ ds R, c ds R → ds.length = ps.length)
    (hbind : ∀ (kV doc pm : Value) (an : Option Addr) (cdv ct : Value) (us : List Value), us.length = ps.length → bindArgs (PySem.W.fnOf x x (defArgs st) (defBody st) (defScope st) .none kV doc pm an cdv ct) ⟨us, []⟩ = pure (ps.zip us))
    (hb : ∀ X : Cx, Cok X W N (defScope st) k → ∀ (ds : List D) (R : Rs → Prop), c ds R → GSs X (startG N ds) (defBody st) { nx := fun _ => R (.fz .none), rt := R }) : Has W (k + 1) x c := by
  obtain ⟨f, fd, hm, F⟩ := F.ex
  exact ⟨f, fd, ps, hm, F.kp, F.binds hbind, fn_ok F S len hb⟩
theorem Has.mono {W : Wd} {x : Str} {j k : Nat} {c : Ct} (h : Has W j x c) (e : j ≤ k) : Has W k x c := by
  obtain ⟨f, fd, ps, h1, h2, h3, h4⟩ := h.ex
  exact ⟨f, fd, ps, h1, h2, h3, h4.mono e⟩
/-- the built-in names that the text leaves alone -/
structure Bn (W : Wd) : Prop where
  len : W.mg "len" = none
  abs : W.mg "abs" = none
  max : W.mg "max" = none
  min : W.mg "min" = none
  int : W.mg "int" = none
  bool : W.mg "bool" = none
  str : W.mg "str" = none
  sum : W.mg "sum" = none
  isinstance : W.mg "isinstance" = none
  tuple : W.mg "tuple" = none
  list : W.mg "list" = none
  dict : W.mg "dict" = none
  set : W.mg "set" = none
  sorted : W.mg "sorted" = none
  range : W.mg "range" = none
  zip : W.mg "zip" = none
  reversed : W.mg "reversed" = none
  enumerate : W.mg "enumerate" = none
/-- the law's own end -/
def c_script : Ct := fun ds R => ∃ ns : List Int, ds = [.list (ns.map .int)] ∧ ns.length ≤ 63 ∧ (∀ z ∈ ns, Bd 1048576 z) ∧ R (.fz (.bool true))
theorem ln_script : ∀ ds R, c_script ds R → ds.length = ["script"].length := by
  rintro ds R ⟨ns, rfl, _⟩
  rfl
theorem dpa_of_ints {K : PySem.W.Frag} {H : Hp} : ∀ ns : List Int, DpAll K H (ns.map V.int) (ns.map PyData.int)
  | [] => .nil
  | n :: ns => .cons (.int n) (dpa_of_ints ns)
def spL (K : PySem.W.Frag) (c : Ct) : Sp := fun vs H Q _ => ∃ (B : Hp) (ds : List D) (R : Rs → Prop), Same B H ∧ DpAll K B vs ds ∧ c ds R ∧ (∀ d v B' H', R (.fz d) → Grow B H B' H' → Dp K B' v d → Q v H') ∧
  (∀ es p us B' H', R (.ow es) → Grow B H B' H' → H p = none → B' p = none → H' p = some (.lst us) → DpAll K B' us es → Q (.ref p) H') ∧ ∀ x G, ¬ R (.ex x G)
theorem spL_D {K : PySem.W.Frag} {mg : Str → Option Value} {c : Ct} : ∀ vs H Q E, spL K c vs H Q E → spD K mg c vs H Q E := fun vs H Q E ⟨B, ds, R, h1, h2, h3, h4, h5, h6⟩ => ⟨B, ds, R, h1, h2, h3, h4, h5, fun x G _ _ _ h => (h6 x G h).elim⟩
theorem sp_script {K : PySem.W.Frag} {H : Hp} {a : Addr} {ns : List Int} (hl : ns.length ≤ 63) (hb : ∀ z ∈ ns, Builtin.Int.intBits z ≤ 1048576) (hS : SqL K H a (ns.map V.int)) : spL K c_script [.ref a] H (fun v _ => v = .bl true) fun _ _ _ => False :=
  ⟨H, [.list (ns.map .int)], fun r => r = .fz (.bool true), Same.refl H, .cons (.lst hS (dpa_of_ints ns)) .nil, ⟨ns, rfl, hl, fun z hz => bd_of_bits (hb z hz), rfl⟩, (fun d v B' H' e _ r => by
    cases e
    exact dp_bl r), (fun _ _ _ _ _ e => by cases e), fun _ _ e => by cases e⟩
theorem Bd.lit {i : Int} : Bd (i.natAbs.log2 + 1) i := by
  show i.natAbs < 2 ^ (i.natAbs.log2 + 1)
  exact Nat.lt_log2_self
end DW

set_option Elab.async false
set_option linter.all false
set_option maxRecDepth 100000
set_option maxHeartbeats 4000000
set_option autoImplicit false
namespace DW
open PySem PySem.Spec PyProof.Rows L2

/-- lo, lo + c, .. -/
def rngS (lo c : Int) (n : Nat) : List Int := (List.range n).map fun (i : Nat) => lo + (i : Int) * c
theorem rngS_get {lo c : Int} {n i : Nat} (h : i < n) : (rngS lo c n)[i]? = some (lo + (i : Int) * c) := by
  unfold rngS
  rw [List.getElem?_map, List.getElem?_range h]
  rfl
theorem rngS_len {lo c : Int} {n : Nat} : (rngS lo c n).length = n := by
  unfold rngS
  rw [List.length_map, List.length_range]
theorem wk_rngS {K : PySem.W.Frag} {B1 F : Hp} {lo c : Int} {n : Nat} : Wk K B1 F (Itc lo c n) ((rngS lo c n).map PyData.int) := by
  refine ⟨fun i H' s hi => ?_, fun i H' s hi => ?_, fun i B' H' x H'' s1 s2 s3 hi y => ?_⟩
  · rw [List.length_map, rngS_len] at hi
    exact hi
  · rw [List.length_map, rngS_len] at hi
    exact hi
  · rw [List.length_map, rngS_len] at hi
    obtain ⟨rfl, rfl⟩ := y
    exact ⟨_, B', by rw [List.getElem?_map, rngS_get hi]; rfl, .refl s3, .int _⟩
theorem rgC_small : ∀ m : Nat, m < 64 → ∀ c : Nat, c < 31 → 0 < c → RgC 0 (m : Int) (c : Int) ((m + c - 1) / c) := by
  unfold RgC
  decide +kernel
section
variable {X : Cx} {G : Gm} {tg iter elt e a b c : Expr} {items ds : List D} {W : Wd} {N : List Str} {sc scope : Scope} {k : Nat} {pos p1 p2 p3 p : Pos} {ws : List Nat} {ifs : List Expr}
theorem gi_rng3 {lo hi st : Int} {n : Nat} (C : Cok X W N sc k) (hg : glB sc "range" = true) (hm : W.mg "range" = none) (ha : GE X G a (.int lo)) (hb : GE X G b (.int hi)) (hc : GE X G c (.int st)) (h1 : RgC lo hi st n) (he : nst a = true) (he2 : nst b = true) (he3 : nst c = true) :
    GI X G tg (.Call (.Name "range" p) [a, b, c] [] pos) ((rngS lo st n).map PyData.int) := by
  have hw := C.wd
  subst hw
  refine ⟨fun bs B σ H S R q => inI (pi_range3 (C.gl _ hg).1 hm (pa_cons pE (pa_cons pE (pa_cons pE pa_nil (star_cons he3)) (star_cons he2)) (star_cons he)) (star_cons he) (star_all (by show (nst b && (nst c && true)) = true; rw [he2, he3]; rfl))) (ha.run bs B σ H S _ fun v B1 H1 g r => hb.run bs B1 σ H1 (S.gro g) _ fun w B2 H2 g2 r2 => hc.run bs B2 σ H2 (S.gro (g.trans g2)) _ fun u B3 H3 g3 r3 => ?_)⟩
  exact ⟨lo, hi, st, n, by rw [dp_int r, dp_int r2, dp_int r3], h1, q _ B3 H3 ((g.trans g2).trans g3) wk_rngS⟩
/-- [elt for x in iter] -/
theorem go_lc1 {α : Type} {xs : List α} {en : α → D} {g : α → D} {x : Str} (C : Cok X W N sc k) (i : Nat) (ok : blkC N sc scope [(x, i)] = true) (okl : okL N scope i x = true) (hi : GIw X G (.Name x p) iter (xs.map en)) (hz : xs.length ≤ 16777216)
    (he : ∀ X', Cok X' W N scope k → ∀ a ∈ xs, GE X' ((wipeG G [i]).set i (.fz (en a))) elt (g a)) (hs : ∀ x, foldedSetIterable iter X.env x = pure x) :
    GO X G (.ListComp elt [⟨.Name x p, iter, [], 0⟩] scope pos) (xs.map g) := by
  have h := go_lc (bt := fun _ => true) (G1 := fun a => (wipeG G [i]).set i (.fz (en a))) (pos := pos) C [(x, i)] ok hi hz (fun X' C' a ha => gg_name C' i okl (by simp)) (fun X' C' a ha => gts_nil) (fun X' C' a ha _ => he X' C' a ha) hs
  rw [show xs.filter (fun _ => true) = xs from List.filter_eq_self.mpr fun _ _ => rfl] at h
  exact h
/-- [elt for x in iter if c] -/
theorem go_lc1f {α : Type} {xs : List α} {en : α → D} {bt : α → Bool} {g : α → D} {x : Str} (C : Cok X W N sc k) (i : Nat) (ok : blkC N sc scope [(x, i)] = true) (okl : okL N scope i x = true) (hi : GIw X G (.Name x p) iter (xs.map en)) (hz : xs.length ≤ 16777216)
    (ht : ∀ X', Cok X' W N scope k → ∀ a ∈ xs, GT X' ((wipeG G [i]).set i (.fz (en a))) c (bt a))
    (he : ∀ X', Cok X' W N scope k → ∀ a ∈ xs, bt a = true → GE X' ((wipeG G [i]).set i (.fz (en a))) elt (g a)) (hs : ∀ x, foldedSetIterable iter X.env x = pure x) :
    GO X G (.ListComp elt [⟨.Name x p, iter, [c], 0⟩] scope pos) ((xs.filter bt).map g) :=
  go_lc (G1 := fun a => (wipeG G [i]).set i (.fz (en a))) C [(x, i)] ok hi hz (fun X' C' a ha => gg_name C' i okl (by simp)) (fun X' C' a ha => gts_one (ht X' C' a ha)) he hs
end
theorem bt_int : bootBuiltins "int" = some (.type "int") := by decide +kernel
theorem bt_bool : bootBuiltins "bool" = some (.type "bool") := by decide +kernel
theorem bt_tuple : bootBuiltins "tuple" = some (.type "tuple") := by decide +kernel
theorem bt_list : bootBuiltins "list" = some (.type "list") := by decide +kernel
theorem bt_str : bootBuiltins "str" = some (.type "str") := by decide +kernel
/-! ### tests whose answer is told ahead -/
section
variable {X : Cx} {G : Gm} {e a b : Expr} {es rest : List Expr} {d x y : D} {pos : Pos} {i j : Int}
theorem gt_notF (ha : GT X G a true) : GT X G (.UnaryOp .Not a pos) false := gt_not ha
theorem gt_notT (ha : GT X G a false) : GT X G (.UnaryOp .Not a pos) true := gt_not ha
theorem ge_notF (ha : GE X G a (.bool true)) : GE X G (.UnaryOp .Not a pos) (.bool false) := ge_not ha
theorem ge_notT (ha : GE X G a (.bool false)) : GE X G (.UnaryOp .Not a pos) (.bool true) := ge_not ha
theorem gw_orF (ha : GT X G a false) (hb : GW X G (.BoolOp .Or (b :: rest) pos) false) : GW X G (.BoolOp .Or (a :: b :: rest) pos) false := gw_or ha fun _ => hb
theorem gw_andT (ha : GT X G a true) (hb : GW X G (.BoolOp .And (b :: rest) pos) true) : GW X G (.BoolOp .And (a :: b :: rest) pos) true := gw_and ha fun _ => hb
theorem ge_orF (ha : GE X G a (.bool false)) (hb : GE X G (.BoolOp .Or (b :: rest) pos) (.bool false)) : GE X G (.BoolOp .Or (a :: b :: rest) pos) (.bool false) := ge_or ha fun _ => hb
theorem ge_andT (ha : GE X G a (.bool true)) (hb : GE X G (.BoolOp .And (b :: rest) pos) (.bool true)) : GE X G (.BoolOp .And (a :: b :: rest) pos) (.bool true) := ge_and ha fun _ => hb
theorem cmp_eqT (h : i = j) : CmpD .Eq (.int i) (.int j) true := by
  have := CmpD.eqI i j
  rwa [decide_eq_true h] at this
theorem cmp_eqF (h : i ≠ j) : CmpD .Eq (.int i) (.int j) false := by
  have := CmpD.eqI i j
  rwa [decide_eq_false h] at this
theorem cmp_neF (h : i = j) : CmpD .NotEq (.int i) (.int j) false := by
  have := CmpD.neI i j
  rwa [decide_eq_true h] at this
theorem cmp_neT (h : i ≠ j) : CmpD .NotEq (.int i) (.int j) true := by
  have := CmpD.neI i j
  rwa [decide_eq_false h] at this
theorem cmp_eqTd (h : x = y) (hs : SeqAt.shaped x = true) : CmpD .Eq x y true := by
  subst h
  have := CmpD.eq x x hs hs
  rwa [SeqAt.eqv_refl x (SeqAt.canLay_of_shaped hs)] at this
theorem cmp_neFd (h : x = y) (hs : SeqAt.shaped x = true) : CmpD .NotEq x y false := by
  subst h
  have := CmpD.ne x x hs hs
  rwa [SeqAt.eqv_refl x (SeqAt.canLay_of_shaped hs)] at this
theorem cmp_ltT (h : i < j) : CmpD .Lt (.int i) (.int j) true := by
  have := CmpD.lt i j
  rwa [decide_eq_true h] at this
theorem cmp_ltF (h : ¬ i < j) : CmpD .Lt (.int i) (.int j) false := by
  have := CmpD.lt i j
  rwa [decide_eq_false h] at this
theorem cmp_gtT (h : j < i) : CmpD .Gt (.int i) (.int j) true := by
  have := CmpD.gt i j
  rwa [decide_eq_true h] at this
theorem cmp_gtF (h : ¬ j < i) : CmpD .Gt (.int i) (.int j) false := by
  have := CmpD.gt i j
  rwa [decide_eq_false h] at this
end
/-- items of a script -/
theorem atI_map {α β : Type} {f : α → β} {xs : List α} {i : Int} {x : α} (h : atI xs i = some x) : atI (xs.map f) i = some (f x) := by
  unfold atI at h ⊢
  rw [List.length_map]
  cases q : ixN xs.length i with
  | none =>
    rw [q] at h
    cases h
  | some j =>
    rw [q] at h
    show (xs.map f)[j]? = some (f x)
    rw [List.getElem?_map, show xs[j]? = some x from h]
    rfl
theorem atI_getD {ns : List Int} {k : Int} (h0 : 0 ≤ k) (h : k < (ns.length : Int)) : atI ns k = some (ns.getD k.toNat 0) := by
  have e : k = ((k.toNat : Nat) : Int) := by omega
  have hl : k.toNat < ns.length := by omega
  have g : ns[k.toNat]? = some (ns.getD k.toNat 0) := by
    rw [List.getElem?_eq_getElem hl, List.getD_eq_getElem?_getD, List.getElem?_eq_getElem hl]
    rfl
  have r := atI_nat g
  rw [← e] at r
  exact r
/-! ### a law's own loop over its cells -/
theorem rngL_mem {lo a : Int} {n : Nat} (h : a ∈ rngL lo n) : lo ≤ a ∧ a < lo + (n : Int) := by
  unfold rngL at h
  rw [List.mem_map] at h
  obtain ⟨i, hi, rfl⟩ := h
  have := List.mem_range.mp hi
  omega
theorem rngS_item {lo c : Int} {n i : Nat} {d : D} (h : ((rngS lo c n).map PyData.int)[i]? = some d) : i < n ∧ d = .int (lo + (i : Int) * c) := by
  have hi : i < n := by
    have := List.getElem?_eq_some_iff.mp h
    obtain ⟨q, _⟩ := this
    rwa [List.length_map, rngS_len] at q
  rw [List.getElem?_map, rngS_get hi] at h
  exact ⟨hi, (Option.some.inj h).symm⟩
section
variable {X : Cx} {G : Gm} {tg iter : Expr} {items : List D} {W : Wd} {N : List Str} {sc : Scope} {k : Nat} {pos p1 p2 p3 p4 p5 p6 p7 p8 p9 : Pos} {sts : List Stmt} {E : DE} {body : List Stmt}
theorem gss_for (C : Cok X W N sc k) (J : Nat → Gm → Prop) (hi : GI X G tg iter items) (h0 : J 0 G)
    (hs : ∀ (i : Nat) (d : D) (G' : Gm), items[i]? = some d → J i G' → ∃ G2 ws, GG X G' tg d G2 ws ∧ GSs X G2 body ⟨J (i + 1), E.rt, fun G' => GSs X G' sts E, J (i + 1)⟩)
    (hd : ∀ G', J items.length G' → GSs X G' sts E) (hf : ∀ x, foldedSetIterable iter X.env x = pure x) : GSs X G (.For tg iter body [] pos :: sts) E :=
  gs_cons (gs_for (E := ⟨fun G' => GSs X G' sts E, E.rt, E.bk, E.ct⟩) C hi J h0 hs hd hf)
theorem gss_while {c : Expr} (C : Cok X W N sc k) (J : Nat → Gm → Prop) (m0 : Nat) (h0 : J m0 G)
    (hs : ∀ (n : Nat) (G' : Gm), J n G' → ∃ t, GT X G' c t ∧ (t = true → GSs X G' body ⟨fun G2 => ∃ n', n' < n ∧ J n' G2, E.rt, fun G' => GSs X G' sts E, fun G2 => ∃ n', n' < n ∧ J n' G2⟩) ∧ (t = false → GSs X G' sts E)) : GSs X G (.While c body [] pos :: sts) E :=
  gs_cons (gs_while (E := ⟨fun G' => GSs X G' sts E, E.rt, E.bk, E.ct⟩) C J m0 h0 hs)
theorem gi_cells {ns : List Int} {q1 q2 q3 q4 q5 q6 q7 q8 q9 q10 q11 q12 : Pos} (C : Cok X W N sc k) (B : Bn W) (c cap : Nat) {ci capi : Int} (ec : ci = (c : Int)) (ecap : capi = (cap : Int)) (g1 : glB sc "range" = true) (g2 : glB sc "max" = true) (g3 : glB sc "min" = true) (g4 : glB sc "len" = true) (v0 : okV N sc 0 "script" = true)
    (hG : G[0]? = some (.fz (.list (ns.map .int)))) (hc : c < 31) (hc0 : 0 < c) (hp : cap < 64) :
    GI X G tg (.Call (.Name "range" q1) [.Constant (.int 0) 0 q2, .Call (.Name "max" q3) [.Constant (.int ci) 0 q4, .Call (.Name "min" q5) [.Call (.Name "len" q6) [.Name "script" q7] [] q8, .Constant (.int capi) 0 q9] [] q10] [] q11, .Constant (.int ci) 0 q12] [] p4)
      ((rngS 0 ci ((max c (min ns.length cap) + c - 1) / c)).map PyData.int) := by
  subst ec ecap
  refine gi_rng3 C g1 B.range ge_int (hi := ((max c (min ns.length cap) : Nat) : Int)) ?_ ge_int (rgC_small _ (by omega) _ hc hc0) rfl rfl rfl
  refine GE.is (ge_max C g2 B.max ge_int.gh (ge_min C g3 B.min (ge_len C g4 B.len (ge_v C 0 v0 hG).gh .lst rfl).gh ge_int.gh rfl rfl).gh rfl rfl) ?_
  rw [List.length_map]
  congr 1
  split
  all_goals split
  all_goals omega
end
end DW

set_option Elab.async false
set_option linter.all false
set_option maxRecDepth 100000
set_option maxHeartbeats 4000000
set_option autoImplicit false
namespace DW
open PySem PySem.Spec PyProof.Rows L2

/-! ### Lean values as data, and what == and in tell of them -/
class En (α : Type) [DecidableEq α] where
  en : α → D
  dp : Nat
  lay : ∀ a, (en a).canLay0 = true
  dle : ∀ a, (en a).depth ≤ dp
  eqv : ∀ a b, PyData.eqv (en a) (en b) = decide (a = b)
instance : En Int where
  en := .int
  dp := 0
  lay _ := rfl
  dle _ := Nat.le_refl _
  eqv := eqv_ints
structure Pl where
  n : P3
  d : Int
  deriving DecidableEq
abbrev Pl.en (p : Pl) : D := .tuple [.int p.n.x, .int p.n.y, .int p.n.z, .int p.d]
theorem eqv_p3 (u v : P3) : PyData.eqv u.en v.en = decide (u = v) := by
  obtain ⟨a, b, c⟩ := u
  obtain ⟨a', b', c'⟩ := v
  simp only [PyData.eqv, PyData.eqvAll, P3.mk.injEq, Bool.and_true]
  rw [Bool.eq_iff_iff]
  simp only [Bool.and_eq_true, beq_iff_eq, decide_eq_true_eq, and_assoc]
theorem eqv_pl (u v : Pl) : PyData.eqv u.en v.en = decide (u = v) := by
  obtain ⟨⟨a, b, c⟩, d⟩ := u
  obtain ⟨⟨a', b', c'⟩, d'⟩ := v
  simp only [PyData.eqv, PyData.eqvAll, P3.mk.injEq, Pl.mk.injEq, Bool.and_true]
  rw [Bool.eq_iff_iff]
  simp only [Bool.and_eq_true, beq_iff_eq, decide_eq_true_eq, and_assoc]
instance : En P3 where
  en := P3.en
  dp := 1
  lay _ := rfl
  dle _ := by simp [PyData.depth, PyData.depthAll]
  eqv := eqv_p3
instance : En Pl where
  en := Pl.en
  dp := 1
  lay _ := rfl
  dle _ := by simp [PyData.depth, PyData.depthAll]
  eqv := eqv_pl
section
variable {α β : Type} [DecidableEq α] [DecidableEq β] [En α] [En β]
theorem canLay_map : ∀ xs : List α, PyData.canLayAll0 (xs.map En.en) = true
  | [] => rfl
  | x :: xs => by
    simp only [List.map_cons, PyData.canLayAll0, En.lay, canLay_map xs, Bool.and_self]
theorem depth_map : ∀ xs : List α, PyData.depthAll (xs.map En.en) ≤ En.dp α
  | [] => Nat.zero_le _
  | x :: xs => by
    have h1 := En.dle x
    have h2 := depth_map xs
    simp only [List.map_cons, PyData.depthAll]
    omega
theorem eqvAll_map : ∀ xs ys : List α, PyData.eqvAll (xs.map En.en) (ys.map En.en) = decide (xs = ys)
  | [], [] => by simp [PyData.eqvAll]
  | [], y :: ys => by simp [PyData.eqvAll]
  | x :: xs, [] => by simp [PyData.eqvAll]
  | x :: xs, y :: ys => by
    simp only [List.map_cons, PyData.eqvAll, En.eqv, eqvAll_map xs ys, List.cons.injEq]
    rw [Bool.eq_iff_iff]
    simp only [Bool.and_eq_true, decide_eq_true_eq]
instance : En (List α) where
  en xs := .list (xs.map En.en)
  dp := En.dp α + 1
  lay xs := by
    simp only [PyData.canLay0]
    exact canLay_map xs
  dle xs := by
    have := depth_map xs
    simp only [PyData.depth]
    omega
  eqv xs ys := by
    simp only [PyData.eqv]
    exact eqvAll_map xs ys
instance : En (α × β) where
  en p := .tuple [En.en p.1, En.en p.2]
  dp := max (En.dp α) (En.dp β) + 1
  lay p := by simp only [PyData.canLay0, PyData.canLayAll0, En.lay, Bool.and_self]
  dle p := by
    have h1 := En.dle p.1
    have h2 := En.dle p.2
    simp only [PyData.depth, PyData.depthAll]
    omega
  eqv p q := by
    obtain ⟨a, b⟩ := p
    obtain ⟨c, d⟩ := q
    simp only [PyData.eqv, PyData.eqvAll, En.eqv, Prod.mk.injEq, Bool.and_true]
    rw [Bool.eq_iff_iff]
    simp only [Bool.and_eq_true, decide_eq_true_eq]
theorem shaped_en (h : En.dp α ≤ 64) (a : α) : SeqAt.shaped (En.en a) = true := by
  have := En.dle a
  unfold SeqAt.shaped
  rw [En.lay a, Bool.true_and, decide_eq_true_eq]
  omega
theorem cmp_eqG (h : En.dp α ≤ 64) (a b : α) : CmpD .Eq (En.en a) (En.en b) (decide (a = b)) := by
  have := CmpD.eq _ _ (shaped_en h a) (shaped_en h b)
  rwa [En.eqv] at this
theorem cmp_neG (h : En.dp α ≤ 64) (a b : α) : CmpD .NotEq (En.en a) (En.en b) (!decide (a = b)) := by
  have := CmpD.ne _ _ (shaped_en h a) (shaped_en h b)
  rwa [En.eqv] at this
theorem any_en (a : α) (xs : List α) : (xs.map En.en).any (fun z => PyData.eqv z (En.en a)) = decide (a ∈ xs) := by
  rw [Bool.eq_iff_iff, List.any_eq_true, decide_eq_true_eq]
  constructor
  · rintro ⟨z, hz, e⟩
    obtain ⟨b, hb, rfl⟩ := List.mem_map.mp hz
    rw [En.eqv, decide_eq_true_eq] at e
    exact e ▸ hb
  · intro h
    exact ⟨_, List.mem_map.mpr ⟨a, h, rfl⟩, by rw [En.eqv, decide_eq_true_eq]⟩
theorem cmp_inG (h : En.dp α + 1 ≤ 64) (a : α) (xs : List α) : CmpD .In (En.en a) (.list (xs.map En.en)) (decide (a ∈ xs)) := by
  have := CmpD.inL (En.en a) (xs.map En.en) (shaped_en (by omega) a) (shaped_en (α := List α) h xs)
  rwa [any_en] at this
theorem cmp_ninG (h : En.dp α + 1 ≤ 64) (a : α) (xs : List α) : CmpD .NotIn (En.en a) (.list (xs.map En.en)) (!decide (a ∈ xs)) := by
  have := CmpD.ninL (En.en a) (xs.map En.en) (shaped_en (by omega) a) (shaped_en (α := List α) h xs)
  rwa [any_en] at this
end
theorem cmp_eq3 (u v : P3) : CmpD .Eq u.en v.en (decide (u = v)) := cmp_eqG (by decide) u v
theorem cmp_ne3 (u v : P3) : CmpD .NotEq u.en v.en (!decide (u = v)) := cmp_neG (by decide) u v
theorem cmp_eq4 (u v : Pl) : CmpD .Eq u.en v.en (decide (u = v)) := cmp_eqG (by decide) u v
theorem cmp_ne4 (u v : Pl) : CmpD .NotEq u.en v.en (!decide (u = v)) := cmp_neG (by decide) u v
theorem cmp_in3 (u : P3) (xs : List P3) : CmpD .In u.en (.list (xs.map P3.en)) (decide (u ∈ xs)) := cmp_inG (by decide) u xs
theorem cmp_nin3 (u : P3) (xs : List P3) : CmpD .NotIn u.en (.list (xs.map P3.en)) (!decide (u ∈ xs)) := cmp_ninG (by decide) u xs
theorem cmp_eqI (u v : List Int) : CmpD .Eq (.list (u.map .int)) (.list (v.map .int)) (decide (u = v)) := cmp_eqG (by decide) u v
theorem cmp_neI (u v : List Int) : CmpD .NotEq (.list (u.map .int)) (.list (v.map .int)) (!decide (u = v)) := cmp_neG (by decide) u v
theorem cmp_ne3F {u v : P3} (h : u = v) : CmpD .NotEq u.en v.en false := by
  have := cmp_ne3 u v
  rwa [decide_eq_true h] at this
theorem cmp_eq3T {u v : P3} (h : u = v) : CmpD .Eq u.en v.en true := by
  have := cmp_eq3 u v
  rwa [decide_eq_true h] at this
theorem cmp_ne4F {u v : Pl} (h : u = v) : CmpD .NotEq u.en v.en false := by
  have := cmp_ne4 u v
  rwa [decide_eq_true h] at this
theorem cmp_eq4T {u v : Pl} (h : u = v) : CmpD .Eq u.en v.en true := by
  have := cmp_eq4 u v
  rwa [decide_eq_true h] at this
theorem cmp_ne3T {u v : P3} (h : u ≠ v) : CmpD .NotEq u.en v.en true := by
  have := cmp_ne3 u v
  rwa [decide_eq_false h] at this
theorem cmp_eq3F {u v : P3} (h : u ≠ v) : CmpD .Eq u.en v.en false := by
  have := cmp_eq3 u v
  rwa [decide_eq_false h] at this
theorem cmp_eqT_of {op : CmpOp} {x y : D} {b c : Bool} (h : CmpD op x y b) (e : b = c) : CmpD op x y c := e ▸ h
/-- an empty list on the right -/
theorem eqvAll_nil (xs : List D) : PyData.eqvAll xs [] = xs.isEmpty := by
  cases xs <;> simp [PyData.eqvAll]
theorem cmp_neN {α : Type} [DecidableEq α] [En α] (h : En.dp α + 1 ≤ 64) (xs : List α) : CmpD .NotEq (.list (xs.map En.en)) (.list []) (!decide (xs = [])) := cmp_neG (α := List α) h xs []
theorem cmp_eqN {α : Type} [DecidableEq α] [En α] (h : En.dp α + 1 ≤ 64) (xs : List α) : CmpD .Eq (.list (xs.map En.en)) (.list []) (decide (xs = [])) := cmp_eqG (α := List α) h xs []
theorem cmp_neN3 (xs : List P3) : CmpD .NotEq (.list (xs.map P3.en)) (.list []) (!decide (xs = [])) := cmp_neN (by decide) xs
theorem cmp_eqN3 (xs : List P3) : CmpD .Eq (.list (xs.map P3.en)) (.list []) (decide (xs = [])) := cmp_eqN (by decide) xs
theorem cmp_neNI (xs : List Int) : CmpD .NotEq (.list (xs.map .int)) (.list []) (!decide (xs = [])) := cmp_neN (by decide) xs
theorem cmp_eqNI (xs : List Int) : CmpD .Eq (.list (xs.map .int)) (.list []) (decide (xs = [])) := cmp_eqN (by decide) xs
theorem ge_p4 {X : Cx} {G : Gm} {e1 e2 e3 e4 : Expr} {a b c d : Int} {n1 : Nat} {pos : Pos} (h1 : GE X G e1 (.int a)) (h2 : GE X G e2 (.int b)) (h3 : GE X G e3 (.int c)) (h4 : GE X G e4 (.int d)) (n : nst e1 = true) (n' : nst e2 = true) (n'' : nst e3 = true) (n3 : nst e4 = true) : GE X G (.Tuple [e1, e2, e3, e4] n1 pos) (Pl.en ⟨⟨a, b, c⟩, d⟩) :=
  ge_tup (ga_cons h1 (ga_cons h2 (ga_cons h3 (ga_cons h4 ga_nil n3) n'') n') n) (by show 4 ≤ sizeLine; decide)
section
variable {X : Cx} {G : Gm} {tg iter elt e a b : Expr} {items ds us : List D} {d : D} {W : Wd} {N : List Str} {sc scope : Scope} {k : Nat} {pos p1 p2 p3 p : Pos} {ws : List Nat} {ifs : List Expr} {st : Stmt} {sts : List Stmt} {E : DE} {x : Str}
theorem gss_par (C : Cok X W N sc k) (i j : Nat) {y : Str} {d1 d2 : D} {kt k2 : Nat} {pt pt2 : Pos} (hi : N[i]? = some x) (hj : N[j]? = some y) (hij : i ≠ j) (hx : loc1B sc x = true) (hy : loc1B sc y = true) (ha : GA X G [a, b] [d1, d2]) (hn : GSs X ((G.set i (.fz d1)).set j (.fz d2)) sts E)
    (hk : sc.kind = .function) (hw : ∀ env : Env, env.blockKind = .function → env.kindOf x = some .local → env.kindOf y = some .local → swappedStores [.Tuple [.Name x p1, .Name y p2] kt pt] (.Tuple [a, b] k2 pt2) env = pure (some [x, y])) (hs : swapsWithSole [.Tuple [.Name x p1, .Name y p2] kt pt] (.Tuple [a, b] k2 pt2) pos.line X.env = pure false) :
    GSs X G (.Assign [.Tuple [.Name x p1, .Name y p2] kt pt] (.Tuple [a, b] k2 pt2) pos :: sts) E := gs_cons (gs_par C i j hi hj hij hx hy ha hn hk hw hs)
theorem dpa_three {K : PySem.W.Frag} {H : Hp} {vs : List V} {a b c : D} (h : DpAll K H vs [a, b, c]) : ∃ u v w, vs = [u, v, w] ∧ Dp K H u a ∧ Dp K H v b ∧ Dp K H w c := by
  cases h with
  | cons h1 h => cases h with
    | cons h2 h => cases h with
      | cons h3 h => cases h with
        | nil => exact ⟨_, _, _, rfl, h1, h2, h3⟩
theorem gss_par3 {a b c : Expr} {p4 : Pos} (C : Cok X W N sc k) (i j l : Nat) {y z : Str} {d1 d2 d3 : D} {kt k2 : Nat} {pt pt2 : Pos} (hi : N[i]? = some x) (hj : N[j]? = some y) (hl : N[l]? = some z) (hij : i ≠ j) (hil : i ≠ l) (hjl : j ≠ l) (hx : loc1B sc x = true) (hy : loc1B sc y = true) (hz : loc1B sc z = true) (ha : GA X G [a, b, c] [d1, d2, d3]) (hn : GSs X (((G.set i (.fz d1)).set j (.fz d2)).set l (.fz d3)) sts E)
    (hk : sc.kind = .function) (hw : ∀ env : Env, env.blockKind = .function → env.kindOf x = some .local → env.kindOf y = some .local → env.kindOf z = some .local → swappedStores [.Tuple [.Name x p1, .Name y p2, .Name z p4] kt pt] (.Tuple [a, b, c] k2 pt2) env = pure (some [x, y, z])) (hs : swapsWithSole [.Tuple [.Name x p1, .Name y p2, .Name z p4] kt pt] (.Tuple [a, b, c] k2 pt2) pos.line X.env = pure false) :
    GSs X G (.Assign [.Tuple [.Name x p1, .Name y p2, .Name z p4] kt pt] (.Tuple [a, b, c] k2 pt2) pos :: sts) E := by
  refine gs_cons ⟨fun bs B σ H S De m => inS (ps_par3 (X := X) C.calm (by rw [C.N]; exact C.nd) (by rw [C.N]; exact hi) (by rw [C.N]; exact hj) (by rw [C.N]; exact hl) hij hil hjl (C.loc1 x hx) (C.loc1 y hy) (C.loc1 z hz) pA (hw _ (C.bk hk) (C.loc1 x hx) (C.loc1 y hy) (C.loc1 z hz)) hs) (ha.run bs B σ H S _ fun vs B1 H1 g r => ?_)⟩
  obtain ⟨u, v, w, rfl, r1, r2, r3⟩ := dpa_three r
  exact ⟨u, v, w, rfl, m.nx _ B1 _ H1 hn ((((S.gro g).setF r1).setF r2).setF r3)⟩
theorem gss_unp {G' : Gm} (he : GE X G e d) (hg : GG X G tg d G' ws) (hn : GSs X G' sts E) (hs : swapsWithSole [tg] e pos.line X.env = pure false) (hw : swappedStores [tg] e X.env = pure none)
    (h1 : (assignEach [tg] X.env).map (·.2) = [assign tg X.env]) : GSs X G (.Assign [tg] e pos :: sts) E := gs_cons (gs_unp he hg hn hs hw h1)
theorem gss_unpE {G' : Gm} {d' : D} (he : GE X G e d') (hd : d' = d) (hg : GG X G tg d G' ws) (hn : GSs X G' sts E) (hs : swapsWithSole [tg] e pos.line X.env = pure false) (hw : swappedStores [tg] e X.env = pure none)
    (h1 : (assignEach [tg] X.env).map (·.2) = [assign tg X.env]) : GSs X G (.Assign [tg] e pos :: sts) E := by
  subst hd
  exact gss_unp he hg hn hs hw h1
theorem gss_augA (C : Cok X W N sc k) (i : Nat) (h : okL N sc i x = true) {u v : Int} (hG : G[i]? = some (.fz (.int u))) (he : GE X G e (.int v)) (hn : GSs X (G.set i (.fz (.int (u + v)))) sts E) : GSs X G (.AugAssign (.Name x p1) .Add e pos :: sts) E := gs_cons (gs_augA C i h hG he hn)
theorem gss_augS (C : Cok X W N sc k) (i : Nat) (h : okL N sc i x = true) {u v : Int} (hG : G[i]? = some (.fz (.int u))) (he : GE X G e (.int v)) (hn : GSs X (G.set i (.fz (.int (u - v)))) sts E) : GSs X G (.AugAssign (.Name x p1) .Sub e pos :: sts) E := gs_cons (gs_augS C i h hG he hn)
theorem gss_setI (C : Cok X W N sc k) (i : Nat) (h : okV N sc i x = true) (hG : G[i]? = some (.ow ds)) (he : GE X G e d) {j : Int} {jn : Nat} (hj : GE X G a (.int j)) (hjn : ixN ds.length j = some jn) (hn : GSs X (G.set i (.ow (ds.set jn d))) sts E)
    (ha : ∀ v, assign (.Subscript (.Name x p1) a p2) X.env v = (do
      let ov ← holding [v] (eval (.Name x p1) X.env)
      let iv ← holding [v, ov] (eval a X.env)
      standAt p2
      holding [v, ov, iv] (setItem ov iv v)
      release [v, ov, iv] []))
    (hs : swapsWithSole [.Subscript (.Name x p1) a p2] e pos.line X.env = pure false) (hw : swappedStores [.Subscript (.Name x p1) a p2] e X.env = pure none)
    (h1' : (assignEach [.Subscript (.Name x p1) a p2] X.env).map (·.2) = [assign (.Subscript (.Name x p1) a p2) X.env]) : GSs X G (.Assign [.Subscript (.Name x p1) a p2] e pos :: sts) E := gs_cons (gs_setI C i h hG he hj hjn hn ha hs hw h1')
theorem gss_app (C : Cok X W N sc k) (i : Nat) (h : okV N sc i x = true) (hG : G[i]? = some (.ow ds)) (he : GE X G e d) (hz : ds.length < 16777216) (hn : GSs X (G.set i (.ow (ds ++ [d]))) sts E)
    (hb : attributeBase (.Name x p1) "append" X.env (eval (.Name x p1) X.env) = eval (.Name x p1) X.env) (hl : (p2.endLine == p3.line) = true) (hst : nst e = true)
    (hfew : ((backTo p3 (starEach [e] X.env)).all (fun x => !x.1) && (backToKw p3 (keywordEach [] X.env)).all (fun x => x.1.isSome) && decide (([e] : List Expr).length + ([] : List Keyword).length + (if ([] : List Keyword).isEmpty then 0 else 1) < 30)) = true)
    (hs : swapsWith (.Call (.Attribute (.Name x p1) "append" p2) [e] [] p3) none pos.line X.env = pure false) : GSs X G (.Expr (.Call (.Attribute (.Name x p1) "append" p2) [e] [] p3) pos :: sts) E := gs_cons (gs_app C i h hG he hz hn hb hl hst hfew hs)
theorem gss_brk (h : E.bk G) : GSs X G (.Break pos :: sts) E := gs_cons (gs_brk h)
theorem gss_cnt (h : E.ct G) : GSs X G (.Continue pos :: sts) E := gs_cons (gs_cnt h)
end
theorem ge_sl3 {X : Cx} {G : Gm} {a : Expr} {p : Pl} {pos p1 p2 : Pos} (h : GE X G a p.en) : GE X G (.Subscript a (.Slice none (some (.Constant (.int 3) 0 p1)) none p2) pos) p.n.en :=
  ge_slT h gp_no (gp_yes ge_int)
section
variable {X : Cx} {G : Gm} {elt iter c : Expr} {W : Wd} {N : List Str} {sc scope : Scope} {k : Nat} {pos p1 p2 p : Pos} {sts : List Stmt} {E : DE} {x y : Str}
/-- y = [elt for x in iter] -/
theorem gss_lc1 {α : Type} {xs : List α} {en : α → D} {g : α → D} (C : Cok X W N sc k) (j i : Nat) (okj : okL N sc j y = true) (hyl : loc1B sc y = true) (hk : sc.kind = .function) (ok : blkC N sc scope [(x, i)] = true) (okl : okL N scope i x = true) (hi : GIw X G (.Name x p) iter (xs.map en)) (hz : xs.length ≤ 16777216)
    (he : ∀ X', Cok X' W N scope k → ∀ a ∈ xs, GE X' ((wipeG G [i]).set i (.fz (en a))) elt (g a)) (hl : (p1.line == p2.line) = true) (ha : (scope.names.any fun (n, k) => n == y && (k == .local || k == .cell)) = false) (hs : ∀ x, foldedSetIterable iter X.env x = pure x)
    (hn : GSs X (G.set j (.ow (xs.map g))) sts E) : GSs X G (.Assign [.Name y p1] (.ListComp elt [⟨.Name x p, iter, [], 0⟩] scope p2) pos :: sts) E := by
  refine gs_cons (gs_asgLc (bt := fun _ => true) (G1 := fun a => (wipeG G [i]).set i (.fz (en a))) C j [(x, i)] okj hyl hk ok hi hz (fun X' C' a ha => gg_name C' i okl (by simp)) (fun X' C' a ha => gts_nil) (fun X' C' a ha _ => he X' C' a ha) ?_ hl ha hs)
  rw [show xs.filter (fun _ => true) = xs from List.filter_eq_self.mpr fun _ _ => rfl]
  exact hn
/-- y = [elt for x in iter if c] -/
theorem gss_lc1f {α : Type} {xs : List α} {en : α → D} {bt : α → Bool} {g : α → D} (C : Cok X W N sc k) (j i : Nat) (okj : okL N sc j y = true) (hyl : loc1B sc y = true) (hk : sc.kind = .function) (ok : blkC N sc scope [(x, i)] = true) (okl : okL N scope i x = true) (hi : GIw X G (.Name x p) iter (xs.map en)) (hz : xs.length ≤ 16777216)
    (ht : ∀ X', Cok X' W N scope k → ∀ a ∈ xs, GT X' ((wipeG G [i]).set i (.fz (en a))) c (bt a))
    (he : ∀ X', Cok X' W N scope k → ∀ a ∈ xs, bt a = true → GE X' ((wipeG G [i]).set i (.fz (en a))) elt (g a)) (hl : (p1.line == p2.line) = true) (ha : (scope.names.any fun (n, k) => n == y && (k == .local || k == .cell)) = false) (hs : ∀ x, foldedSetIterable iter X.env x = pure x)
    (hn : GSs X (G.set j (.ow ((xs.filter bt).map g))) sts E) : GSs X G (.Assign [.Name y p1] (.ListComp elt [⟨.Name x p, iter, [c], 0⟩] scope p2) pos :: sts) E :=
  gs_cons (gs_asgLc (G1 := fun a => (wipeG G [i]).set i (.fz (en a))) C j [(x, i)] okj hyl hk ok hi hz (fun X' C' a ha => gg_name C' i okl (by simp)) (fun X' C' a ha => gts_one (ht X' C' a ha)) he hn hl ha hs)
end
theorem Bd.sm {n : Nat} {i : Int} (h : -1048576 < i) (h2 : i < 1048576) (hn : 20 ≤ n) : Bd n i := by
  have : Bd 20 i := by
    show i.natAbs < 2 ^ 20
    omega
  exact this.mono hn
theorem Bd.of {n : Nat} {i : Int} (h : i.natAbs < 2 ^ n) : Bd n i := h
/-- the body of a list's first loop | the ways of a first if -/
def lpB (l : List Stmt) : List Stmt := match l.head? with
  | some (.For _ _ b _ _) => b
  | some (.While _ b _ _) => b
  | _ => []
def ifA (l : List Stmt) : List Stmt := match l.head? with
  | some (.If _ b _ _) => b
  | _ => []
def ifB (l : List Stmt) : List Stmt := match l.head? with
  | some (.If _ _ b _) => b
  | _ => []
def celB (sc : Scope) (x : Str) : Bool := match sc.names.lookup x with
  | some .cell => true
  | _ => false
theorem celB_of {sc : Scope} {x : Str} (h : celB sc x = true) : sc.names.lookup x = some .cell := by
  unfold celB at h
  split at h
  · assumption
  · cases h
theorem sw_falseC {elt : Expr} {gs : List Comprehension} {scope : Scope} {pos py : Pos} {y : Str} {l : Nat} {env : Env} (hy : env.scope.names.lookup y = some .cell ∨ env.scope.names.lookup y = some .free) : swapsWith (.ListComp elt gs scope pos) (some (.Name y py)) l env = pure false := by
  have ky : (env.kindOf y == some .local) = false := by
    unfold Env.kindOf
    rcases hy with e | e
    · rw [e]
      rfl
    · rw [e]
      rfl
  unfold swapsWith
  simp only [ky, Bool.and_false, Bool.false_and]
/-- name = [..], the name one that the comprehensions see -/
theorem gss_asgOc {X : Cx} {G : Gm} {elt : Expr} {gs : List Comprehension} {W : Wd} {N : List Str} {sc scope : Scope} {k : Nat} {pos p1 p2 : Pos} {sts : List Stmt} {E : DE} {x : Str} {ds : List D} (C : Cok X W N sc k) (i : Nat) (h : okL N sc i x = true) (hc : celB sc x = true) (he : GO X G (.ListComp elt gs scope p2) ds) (hn : GSs X (G.set i (.ow ds)) sts E) : GSs X G (.Assign [.Name x p1] (.ListComp elt gs scope p2) pos :: sts) E :=
  gs_cons (gs_asgO C i h he hn (sw_falseC (C.fr x (.inl (celB_of hc)))))
def P3.at (u : P3) (a : Int) : Int := if a = 0 then u.x else if a = 1 then u.y else u.z
theorem ix3 {u : P3} {a : Int} (h0 : 0 ≤ a) (h1 : a < 3) : IxV (.s u.en) a (.int (u.at a)) := by
  have h : a = 0 ∨ a = 1 ∨ a = 2 := by omega
  rcases h with h | h | h
  · subst h
    exact .tup rfl
  · subst h
    exact .tup rfl
  · subst h
    exact .tup rfl
/-- [elt for x in a point] -/
theorem go_lcP {X : Cx} {G : Gm} {elt iter : Expr} {W : Wd} {N : List Str} {sc scope : Scope} {k : Nat} {pos p : Pos} {x : Str} {u : P3} {g : Int → D} (C : Cok X W N sc k) (i : Nat) (ok : blkC N sc scope [(x, i)] = true) (okl : okL N scope i x = true) (h : GE X G iter u.en)
    (he : ∀ X', Cok X' W N scope k → ∀ a ∈ [u.x, u.y, u.z], GE X' ((wipeG G [i]).set i (.fz (.int a))) elt (g a)) (hs : ∀ x, foldedSetIterable iter X.env x = pure x) :
    GO X G (.ListComp elt [⟨.Name x p, iter, [], 0⟩] scope pos) [g u.x, g u.y, g u.z] :=
  go_lc1 (xs := [u.x, u.y, u.z]) (en := .int) C i ok okl (gi_tup h).w (Nat.le_of_ble_eq_true rfl) he hs
theorem ge_sumC {X : Cx} {G : Gm} {e : Expr} {W : Wd} {N : List Str} {sc : Scope} {k : Nat} {pos p : Pos} {α : Type} {us : List α} {f : α → Int} (C : Cok X W N sc k) (hg : glB sc "sum" = true) (hm : W.mg "sum" = none) (ha : GO X G e (us.map fun a => .int (f a))) (he : nst e = true) : GE X G (.Call (.Name "sum" p) [e] [] pos) (.int (us.map f).sum) := by
  refine ge_sum C hg hm (GL.gh (GO.gl (GO.is ha ?_))) he
  rw [List.map_map]
  rfl
/-! ### targets of any length -/
structure GGs (X : Cx) (G : Gm) (es : List Expr) (ds : List D) (G' : Gm) (ws : List Nat) : Prop where
  ex : ∃ t, PGs X es t ∧ ∀ (bs : Bs) (B : Hp) (σ : L2.St) (H : Hp) (vs : List V), Sat X.K bs G B σ H → DpAll X.K B vs ds → ∀ Q : L2.St → Hp → Prop, (∀ σ', Agr ws σ σ' → Sat X.K bs G' B σ' H → Q σ' H) → t vs σ H Q
theorem agr_refl' {ws : List Nat} {σ : L2.St} (h : Agr ws σ σ) : Agr ws σ σ := h
section
variable {X : Cx} {G G' : Gm} {es : List Expr} {ds : List D} {d : D} {W : Wd} {N : List Str} {sc : Scope} {k n1 : Nat} {pos p1 : Pos} {ws : List Nat} {x : Str}
theorem ggs_nil : GGs X G [] [] G ws := ⟨_, pgs_nil, fun bs B σ H vs S r Q q => by
  cases r
  exact ⟨rfl, q σ .refl S⟩⟩
theorem ggs_cons (C : Cok X W N sc k) (i : Nat) (h : okL N sc i x = true) (hw : i ∈ ws) (hr : GGs X (G.set i (.fz d)) es ds G' ws) : GGs X G (.Name x p1 :: es) (d :: ds) G' ws := by
  obtain ⟨h1, h2⟩ := okL_of h
  obtain ⟨l1, l2⟩ := C.loc x h2
  have nd : X.N.Nodup := by
    rw [C.N]
    exact C.nd
  obtain ⟨t, ht, hq⟩ := hr.ex
  refine ⟨_, pgs_cons (pg_name (i := i) nd (by rw [C.N]; exact h1) l1 l2) ht, fun bs B σ H vs S r Q q => ?_⟩
  cases r with
  | cons r1 rs => exact ⟨_, _, rfl, hq bs B _ H _ (S.setF r1) rs Q fun σ' a S' => q σ' ((Agr.set hw).trans a) S'⟩
theorem gg_tupN (C : Cok X W N sc k) (h : GGs X G es ds G' ws) (hn : (assignEach es X.env).length = ds.length) (hst : (assignEach es X.env).findIdx? (·.1) = none) : GG X G (.Tuple es n1 pos) (.tuple ds) G' ws := by
  obtain ⟨t, ht, hq⟩ := h.ex
  refine ⟨fun bs B σ H v S r Q q => inG (pg_tup C.calm ht hn hst) ?_⟩
  obtain ⟨a, vs, rfl, q1, q2⟩ := dp_tup r
  exact ⟨a, vs, rfl, same_sqT S.bh q1, dpa_len q2, hq bs B σ H vs S q2 Q q⟩
theorem gg_lstN (C : Cok X W N sc k) (h : GGs X G es ds G' ws) (hn : (assignEach es X.env).length = ds.length) (hst : (assignEach es X.env).findIdx? (·.1) = none) : GG X G (.Tuple es n1 pos) (.list ds) G' ws := by
  obtain ⟨t, ht, hq⟩ := h.ex
  refine ⟨fun bs B σ H v S r Q q => inG (pg_unl C.calm ht hn hst) ?_⟩
  obtain ⟨a, vs, rfl, q1, q2⟩ := dp_lst r
  exact ⟨a, vs, rfl, S.bh.seq q1, dpa_len q2, hq bs B σ H vs S q2 Q q⟩
end
/-! ### the greatest common divisor, as loops find it -/
theorem gcd_fmod (a b : Int) : Int.gcd b (a.fmod b) = Int.gcd a b := by
  have h := Int.fmod_add_mul_fdiv a b
  have e : a.fmod b = a - b * a.fdiv b := by omega
  rw [e, Int.gcd_comm a b]
  apply Nat.dvd_antisymm
  · apply Int.dvd_gcd
    · exact Int.gcd_dvd_left ..
    · have h1 := Int.gcd_dvd_left b (a - b * a.fdiv b)
      have h2 := Int.gcd_dvd_right b (a - b * a.fdiv b)
      have h3 := Int.dvd_add h2 (Int.dvd_trans h1 (Int.dvd_mul_right b (a.fdiv b)))
      rwa [Int.sub_add_cancel] at h3
  · apply Int.dvd_gcd
    · exact Int.gcd_dvd_left ..
    · exact Int.dvd_sub (Int.gcd_dvd_right ..) (Int.dvd_trans (Int.gcd_dvd_left ..) (Int.dvd_mul_right ..))
theorem fmod_lt_abs (a : Int) {b : Int} (h : b ≠ 0) : (a.fmod b).natAbs < b.natAbs := by
  rcases Int.lt_or_gt_of_ne h with h | h
  · have e : (a.fmod b) = -((-a).fmod (-b)) := by rw [Int.neg_fmod_neg, Int.neg_neg]
    have h1 := Int.fmod_nonneg_of_pos (-a) (b := -b) (by omega)
    have h2 := Int.fmod_lt_of_pos (-a) (b := -b) (by omega)
    omega
  · have h1 := Int.fmod_nonneg_of_pos a h
    have h2 := Int.fmod_lt_of_pos a h
    omega
theorem gcd_zero_abs (a : Int) : ((Int.gcd a 0 : Nat) : Int) = if a < 0 then -a else a := by
  rw [Int.gcd_zero_right]
  split <;> omega
end DW

set_option autoImplicit false
namespace DW
open PySem PySem.Spec PyProof.Rows L2
/-! ### the names of the errors that the law's row has (gen.py puts the law's own list here) -/
def names9 : List Str := ["BodyError", "Flat", "NoPoints", "NoAxis", "NoMove", "NoText", "NoName", "NoRow", "TooGreat"]
end DW

set_option Elab.async false
set_option linter.all false
set_option maxRecDepth 100000
set_option maxHeartbeats 4000000
set_option autoImplicit false
namespace DW
open PySem PySem.Spec PyProof.Rows L2

/-! ### the program's own errors -/
structure ExK (W : Wd) (x : Str) (C : Addr) : Prop where
  mg : W.mg x = some (.ref C)
  xf : PySem.W.excIn W.K C [.type "ValueError", .type "Exception", .type "BaseException", .type "object"] "ValueError.__new__" = true
  kp : PySem.W.keepIn W.K (.ref C) = true
  sb : PySem.W.subIn W.K (.ref C) (.type "BaseException") = some true
  ty : PySem.W.typeIn W.K (.ref C) = some (.type "type")
  ic : ExcC W.K C
section
variable {X : Cx} {G : Gm} {e a b : Expr} {es : List Expr} {ds : List D} {d : D} {W : Wd} {N : List Str} {sc : Scope} {k j : Nat} {pos pos' p1 p2 p : Pos} {E : DE} {x nm : Str} {c : Ct} {sts : List Stmt}
theorem gs_raise {m : Str} {j : Nat} {Ca : Addr} (C : Cok X W N sc k) (F : ExK W x Ca) (hg : glB sc x = true) (h : E.rt (.ex x G)) : GS X G (.Raise (some (.Call (.Name x p) [.Constant (.str m) j p2] [] pos)) none pos') E := by
  have hw := C.wd
  subst hw
  refine ⟨fun bs B σ H S De mm => ?_⟩
  obtain ⟨Wx, tk, q⟩ := mm.xm.xe
  exact inS (ps_raise C.calm tk (pmk_own PySem.F.excBase_ValueError F.xf F.mg F.kp (raises_own F.sb F.ty) (C.gl x hg).1 (C.gl x hg).2)) (q x Ca G B σ H h F.mg S)
/-- e lets an error out -/
structure GEx (X : Cx) (G : Gm) (e : Expr) (x : Str) : Prop where
  run : ∀ (bs : Bs) (B : Hp) (σ : L2.St) (H : Hp), Sat X.K bs G B σ H → ∀ Wx : WX, Takes X Wx → (∀ C B' H', X.mg x = some (.ref C) → Grow B H B' H' → Wx (.ref C) none σ H') → ∀ Q : VK, tE X e σ H Q
theorem gex_call (C : Cok X W N sc k) (Hs : Has W j nm c) (hj : j ≤ k) (hg : glB sc nm = true) (ha : GA X G (e :: es) ds) (hc : ∀ R : Rs → Prop, (∀ G', R (.ex x G')) → c ds R) (he : nst e = true) (hpl : es.all nst = true) :
    GEx X G (.Call (.Name nm p) (e :: es) [] pos) x := by
  obtain ⟨f, fd, ps, h1, h2, h3, h4⟩ := Hs.ex
  have hw := C.wd
  subst hw
  refine ⟨fun bs B σ H S Wx tk q Q => inE (pe_callS (E := WE Wx) h4 (C.room.mono hj) (C.gl nm hg).1 h1 h2 h3 (fun σ => passAt tk σ) pA (C.gl nm hg).2 (star_cons he) (star_all hpl)) (ha.run bs B σ H S _ fun vs B1 H1 g1 r1 => ?_)⟩
  refine ⟨B1, ds, fun r => ∃ G', r = .ex x G', g1.bh, r1, hc _ fun G' => ⟨G', rfl⟩, (fun _ _ _ _ ⟨_, e'⟩ => by cases e'), (fun _ _ _ _ _ ⟨_, e'⟩ => by cases e'), fun x' G' C' B' H' e' hm g => ?_⟩
  obtain ⟨_, e'⟩ := e'
  cases e'
  exact q C' B' H' hm (g1.trans g)
theorem gs_exprX (he : GEx X G e x) (h : E.rt (.ex x G)) (hs : swapsWith e none pos.line X.env = pure false) : GS X G (.Expr e pos) E := by
  refine ⟨fun bs B σ H S De mm => ?_⟩
  obtain ⟨Wx, tk, q⟩ := mm.xm.xe
  exact inS (ps_expr pE hs) (he.run bs B σ H S Wx tk (fun C B' H' hm g => q x C G B' σ H' h hm (S.gro g)) _)
theorem gs_retX (he : GEx X G e x) (h : E.rt (.ex x G)) : GS X G (.Return (some e) pos) E := by
  refine ⟨fun bs B σ H S De mm => ?_⟩
  obtain ⟨Wx, tk, q⟩ := mm.xm.xe
  exact inS (ps_ret pE) (he.run bs B σ H S Wx tk (fun C B' H' hm g => q x C G B' σ H' h hm (S.gro g)) _)
theorem gs_asgX {y : Str} (C : Cok X W N sc k) (i : Nat) (hl : okL N sc i y = true) (he : GEx X G e x) (h : E.rt (.ex x G)) (hs : swapsWith e (some (.Name y p1)) pos.line X.env = pure false) : GS X G (.Assign [.Name y p1] e pos) E := by
  obtain ⟨h1, h2⟩ := okL_of hl
  obtain ⟨l1, l2⟩ := C.loc y h2
  refine ⟨fun bs B σ H S De mm => ?_⟩
  obtain ⟨Wx, tk, q⟩ := mm.xm.xe
  exact inS (ps_set (by rw [C.N]; exact C.nd) (by rw [C.N]; exact h1) l1 pE hs l2) (he.run bs B σ H S Wx tk (fun C B' H' hm g => q x C G B' σ H' h hm (S.gro g)) _)
theorem gss_raise {m : Str} {j : Nat} {Ca : Addr} (C : Cok X W N sc k) (F : ExK W x Ca) (hg : glB sc x = true) (h : E.rt (.ex x G)) : GSs X G (.Raise (some (.Call (.Name x p) [.Constant (.str m) j p2] [] pos)) none pos' :: sts) E := gs_cons (gs_raise C F hg h)
theorem gss_exprX (he : GEx X G e x) (h : E.rt (.ex x G)) (hs : swapsWith e none pos.line X.env = pure false) : GSs X G (.Expr e pos :: sts) E := gs_cons (gs_exprX he h hs)
theorem gss_expr (he : GE X G e d) (hs : swapsWith e none pos.line X.env = pure false) (h : GSs X G sts E) : GSs X G (.Expr e pos :: sts) E := gs_cons (gs_drop he h hs)
theorem gss_retX (he : GEx X G e x) (h : E.rt (.ex x G)) : GSs X G (.Return (some e) pos :: sts) E := gs_cons (gs_retX he h)
theorem gss_asgX {y : Str} (C : Cok X W N sc k) (i : Nat) (hl : okL N sc i y = true) (he : GEx X G e x) (h : E.rt (.ex x G)) (hs : swapsWith e (some (.Name y p1)) pos.line X.env = pure false) : GSs X G (.Assign [.Name y p1] e pos :: sts) E := gs_cons (gs_asgX C i hl he h hs)
end

/-! ### try .. except X as e -/
/-- within the suite: what isinstance tells of the error -/
structure IsR (W : Wd) (Xs : Cx) (N : List Str) (sc : Scope) (i : Nat) (en x : Str) (a : Addr) : Prop where
  own : ∀ {G : Gm} {y : Str} {p1 p2 p3 p4 : Pos} {Cx Cy : Addr} {b : Bool}, G[i]? = some (.ex a) → W.mg x = some (.ref Cx) → W.mg y = some (.ref Cy) → glB sc y = true → PySem.W.kitOne W.K (.ref Cx) (.ref Cy) = some b →
    GE Xs G (.Call (.Name "isinstance" p1) [.Name en p2, .Name y p3] [] p4) (.bool b)
  blt : ∀ {G : Gm} {y : Str} {p1 p2 p3 p4 : Pos} {Cx : Addr} {T : String} {b : Bool}, G[i]? = some (.ex a) → W.mg x = some (.ref Cx) → W.mg y = none → bootBuiltins y = some (.type T) → y ≠ "__name__" → glB sc y = true → PySem.W.kitOne W.K (.ref Cx) (.type T) = some b →
    GE Xs G (.Call (.Name "isinstance" p1) [.Name en p2, .Name y p3] [] p4) (.bool b)
def noX (rt : Rs → Prop) : Rs → Prop
  | .ex _ _ => False
  | r => rt r
def orX (rt : Rs → Prop) (h : Str → Gm → Prop) : Rs → Prop
  | .ex x G => h x G
  | r => rt r
theorem isr_mk {X : Cx} {W : Wd} {N : List Str} {sc : Scope} {k i : Nat} {en x : Str} {a Ca : Addr} {oe : Obj} {pn : List (Addr × Obj)} (C : Cok X W N sc k) (F : ExK W x Ca) (hv : okV N sc i en = true) (hgi : glB sc "isinstance" = true) (hmi : W.mg "isinstance" = none) (hz : Zc (.ref Ca) none oe) (hd : ∃ vs, oe.data = .fields vs) :
    IsR W (X.suite a ((a, oe) :: pn)) N sc i en x a := by
  have hw := C.wd
  subst hw
  obtain ⟨h1, h2, h3, h4⟩ := okV_of hv
  have hc := call_isE (X := X) (pn := pn) (a := a) F.ic hz hd
  refine ⟨fun {G y p1 p2 p3 p4 Cx Cy b} hG hx hy hgy hk => ?_, fun {G y p1 p2 p3 p4 Cx T b} hG hx hy hby hny hgy hk => ?_⟩
  · have e1 := F.mg.symm.trans hx
    cases e1
    refine ⟨fun bs B σ H S Q q => inE (pe_callB hc (C.gl _ hgi).1 hmi (by decide +kernel) (pa_cons (pe_var (i := i) (by rw [show (X.suite a ((a, oe) :: pn)).N = X.N from rfl, C.N]; exact h1) (C.vis en h2) h3 h4) (pa_cons (pe_glob (C.gl y hgy).1 hy (v := .ref Cy) rfl (C.gl y hgy).2) pa_nil (star_cons rfl)) (star_cons rfl)) (by decide) (C.gl _ hgi).2 (star_cons rfl) (star_all rfl)) ?_⟩
    have hi : i < σ.length := by
      rw [S.len]
      exact (List.getElem?_eq_some_iff.mp hG).1
    have es : σ[i]? = some σ[i] := List.getElem?_eq_getElem hi
    have r : σ[i] = some (.ref a) := S.sl i _ _ hG es
    rw [r] at es
    exact ⟨_, es, .ref Cy, .ref Cy, b, rfl, fun u hu => hu, hk, q _ B H (.refl S.bh) (.bl _)⟩
  · have e1 := F.mg.symm.trans hx
    cases e1
    refine ⟨fun bs B σ H S Q q => inE (pe_callB hc (C.gl _ hgi).1 hmi (by decide +kernel) (pa_cons (pe_var (i := i) (by rw [show (X.suite a ((a, oe) :: pn)).N = X.N from rfl, C.N]; exact h1) (C.vis en h2) h3 h4) (pa_cons (pe_bltn (C.gl y hgy).1 hy hby (v := .ty T) rfl hny (C.gl y hgy).2) pa_nil (star_cons rfl)) (star_cons rfl)) (by decide) (C.gl _ hgi).2 (star_cons rfl) (star_all rfl)) ?_⟩
    have hi : i < σ.length := by
      rw [S.len]
      exact (List.getElem?_eq_some_iff.mp hG).1
    have es : σ[i]? = some σ[i] := List.getElem?_eq_getElem hi
    have r : σ[i] = some (.ref a) := S.sl i _ _ hG es
    rw [r] at es
    exact ⟨_, es, .ty T, .type T, b, rfl, fun u hu => hu, hk, q _ B H (.refl S.bh) (.bl _)⟩
theorem gs_try_as {X : Cx} {G : Gm} {W : Wd} {N : List Str} {sc : Scope} {k : Nat} {E : DE} {en bn : Str} {Cb : Addr} {body suite : List Stmt} {b₀ : Stmt} {np pos pos' : Pos} {Hs : Str → Gm → Prop} (C : Cok X W N sc k) (i : Nat) (hv : okV N sc i en = true) (hl : loc1B sc en = true) (hbn : W.mg bn = some (.ref Cb)) (hgb : glB sc bn = true)
    (hgi : glB sc "isinstance" = true) (hmi : W.mg "isinstance" = none)
    (hb : ∀ X', Cok X' W N sc k → GSs X' G body ⟨E.nx, orX E.rt Hs, E.bk, E.ct⟩)
    (hs : ∀ x G', Hs x G' → ∃ Ca, ExK W x Ca ∧ PySem.W.exmOne W.K (.ref Ca) (.ref Cb) = some true ∧ ∀ Xs a, Cnm Xs W N sc → IsR W Xs N sc i en x a →
      GSs Xs (G'.set i (.ex a)) (b₀ :: suite) ⟨fun G2 => E.nx (G2.set i .no), noX E.rt, fun G2 => E.bk (G2.set i .no), fun G2 => E.ct (G2.set i .no)⟩) :
    GS X G (.Try body [.ExceptHandler (some (.Name bn np)) (some en) (b₀ :: suite) pos'] [] [] pos) E := by
  have hw := C.wd
  subst hw
  obtain ⟨h1, h2, h3, h4⟩ := okV_of hv
  refine ⟨fun bs B σ H S De mm => ?_⟩
  obtain ⟨Wx, tk, qx⟩ := mm.xm.xe
  have nd : X.N.Nodup := by
    rw [C.N]
    exact C.nd
  refine inS (ps_try_as (i := i) (Wout := Wx)
    (tb := fun W' => fun D σ H => ∀ (pn : List (Addr × Obj)) (xe : Value → Shared → Prop), Takes (X.tr pn xe) W' → PassesOwn (model X.prog X.w) X.A X.env xe → tB1 (X.tr pn xe) body D σ H)
    (ts := fun a cls d => fun D σ H => ∀ (oe : Obj) (pn : List (Addr × Obj)), Zc cls d oe → (∃ vs, oe.data = .fields vs) → tB1 (X.suite a ((a, oe) :: pn)) (b₀ :: suite) D σ H)
    mm.xm.top.1 mm.xm.top.2 nd (by rw [C.N]; exact h1) (C.loc1 en hl) ⟨(C.gl bn hgb).1, (C.gl bn hgb).2, .inl hbn⟩ tk
    (fun W' pn xe tk' po => ⟨fun pins s σ H D I h => pB.run pins s σ H D I (h pn xe tk' po)⟩)
    (fun a oe cls d pn hz hd => ⟨fun pins s σ H D I h => pB.run pins s σ H D I (h oe pn hz hd)⟩)) ?_
  intro pn xe tk' po
  have C' : Cok (X.tr pn xe) (wdOf X) N sc k := ⟨⟨rfl, C.nd, C.N, C.vis, C.loc, C.loc1, C.gl, C.fr, C.bk⟩, C.calm, C.room, po⟩
  refine (hb (X.tr pn xe) C').run bs B σ H S De ⟨mm.nx, mm.rf, mm.ro, mm.bk, mm.ct, ⟨mm.xm.top, _, tk', fun x C1 G' B' σ' H' hr hm S' => ?_⟩⟩
  obtain ⟨Ca, F, hx, hsu⟩ := hs x G' hr
  have e1 := F.mg.symm.trans hm
  cases e1
  refine ⟨true, hx, fun _ a ha oe pn2 hz hd => ?_, fun z => nomatch z⟩
  have Cs : Cnm (X.suite a ((a, oe) :: pn2)) (wdOf X) N sc := ⟨rfl, C.nd, C.N, C.vis, C.loc, C.loc1, C.gl, C.fr, C.bk⟩
  refine (hsu _ a Cs (isr_mk C F hv hgi hmi hz hd)).run bs B' _ H' S'.setE _ ⟨fun G2 B2 σ2 H2 g S2 => mm.nx _ B2 _ H2 g S2.setN, mm.rf, mm.ro, fun G2 B2 σ2 H2 g S2 => mm.bk _ B2 _ H2 g S2.setN, fun G2 B2 σ2 H2 g S2 => mm.ct _ B2 _ H2 g S2.setN, ⟨mm.xm.top, fun _ _ _ _ => False, takes0, fun x C G B σ H hr => hr.elim⟩⟩
section
variable {X : Cx} {G : Gm} {e : Expr} {ds : List D} {W : Wd} {N : List Str} {sc : Scope} {k : Nat} {pos p1 : Pos} {E : DE} {x : Str} {sts : List Stmt}
theorem gss_asgON (C : Cnm X W N sc) (i : Nat) (h : okL N sc i x = true) (he : GO X G e ds) (hs : swapsWith e (some (.Name x p1)) pos.line X.env = pure false) (hn : GSs X (G.set i (.ow ds)) sts E) : GSs X G (.Assign [.Name x p1] e pos :: sts) E := by
  obtain ⟨h1, h2⟩ := okL_of h
  obtain ⟨l1, l2⟩ := C.loc x h2
  exact gs_cons ⟨fun bs B σ H S De m => inS (ps_set (by rw [C.N]; exact C.nd) (by rw [C.N]; exact h1) l1 pE hs l2) (he.run bs B σ H S _ fun q vs B1 H1 g q0 q1 q2 r =>
    m.nx _ B1 _ H1 hn (S.setO g q0 rfl ⟨q, vs, rfl, same_none S.gr.h q0, q1, q2, r⟩))⟩
end
/-! ### a list so many times -/
theorem dpa_rep {K : PySem.W.Frag} {B : Hp} {vs : List V} {ds : List D} (h : DpAll K B vs ds) : ∀ n : Nat, DpAll K B (List.replicate n vs).flatten (List.replicate n ds).flatten
  | 0 => .nil
  | n + 1 => by
    rw [List.replicate_succ, List.replicate_succ, List.flatten_cons, List.flatten_cons]
    exact dpa_app h (dpa_rep h n)
theorem go_rep {X : Cx} {G : Gm} {a b : Expr} {xs : List D} {n : Int} {pos : Pos} (ha : GO X G a xs) (hb : GE X G b (.int n)) (h0 : 0 ≤ n) (hn : n < 16777216) (hz : xs.length * n.toNat ≤ 16777216) : GO X G (.BinOp a .Mult b pos) (List.replicate n.toNat xs).flatten :=
  ⟨fun bs B σ H S Q q => inE (pe_op op_rep pE pE) (ha.run bs B σ H S _ fun p vs B1 H1 g1 q0 q1 q2 r => hb.run bs B1 σ H1 (S.gro g1) _ fun w B2 H2 g2 r2 => by
    have l1 := dpa_len r
    refine ⟨p, n, vs, rfl, dp_int r2, g2.h p _ q2, by omega, by omega, by rw [l1, sizeLine_eq]; exact hz, fun p' hp => ?_⟩
    have g := (g1.trans g2).trans (Grow.own (p := p') (o := .lst (List.replicate n.toNat vs).flatten) g2.bh hp)
    exact q p' _ _ _ g (same_none (g1.trans g2).h hp) (same_none g2.bh hp) upd_same (dpa_rep (moA r g2.b) _))⟩
/-! ### the errors of a law -/
structure SubK (W : Wd) (x y : Str) (b : Bool) : Prop where
  ex : ∃ Cx Cy, W.mg x = some (.ref Cx) ∧ W.mg y = some (.ref Cy) ∧ PySem.W.kitOne W.K (.ref Cx) (.ref Cy) = some b ∧ PySem.W.exmOne W.K (.ref Cx) (.ref Cy) = some b
structure ErOne (W : Wd) (x : Str) : Prop where
  ex : ∃ C, ExK W x C ∧ (∀ y ∈ names9, SubK W x y (decide (x = y ∨ y = "BodyError"))) ∧ PySem.W.kitOne W.K (.ref C) (.type "ValueError") = some true ∧ W.mg "ValueError" = none
def Er (W : Wd) (rs : List Str) : Prop := ∀ x ∈ rs, ErOne W x
theorem er_nil {W : Wd} : Er W [] := fun _ h => by cases h
theorem er_cons {W : Wd} {x : Str} {rs : List Str} (h : ErOne W x) (t : Er W rs) : Er W (x :: rs) := fun y hy => by
  rcases List.mem_cons.mp hy with e | e
  · exact e ▸ h
  · exact t y e
theorem kit_ref {K : PySem.W.Frag} {C Cy : Addr} {b : Bool} (hd : PySem.W.hasDictIn K Cy = true) (ht : PySem.W.typeIn K (.ref Cy) = some (.type "type")) (h : PySem.W.subIn K (.ref C) (.ref Cy) = some b) (hs : PySem.W.subIn K (.ref C) (.ref C) = some true) : PySem.W.kitOne K (.ref C) (.ref Cy) = some b := by
  obtain ⟨cd, hc, _⟩ := PySem.W.any_some hd
  unfold PySem.W.kitOne
  split
  · rename_i e
    have e' : C = Cy := Value.ref.inj (beq_iff_eq.mp e)
    subst e'
    exact hs.symm.trans h
  · unfold PySem.W.kitCls
    have e2 : ((PySem.W.clsIn K Cy).isSome && PySem.W.typeIn K (.ref Cy) == some (.type "type")) = true := by rw [hc, ht] <;> rfl
    dsimp only
    rw [if_pos e2]
    exact h
theorem kit_val {K : PySem.W.Frag} {C : Addr} {T : String} {b : Bool} (hm : PySem.W.kitMeta T = true) (h : PySem.W.subIn K (.ref C) (.type T) = some b) : PySem.W.kitOne K (.ref C) (.type T) = some b := by
  unfold PySem.W.kitOne
  rw [if_neg (by intro e; have := beq_iff_eq.mp e; cases this)]
  unfold PySem.W.kitCls
  dsimp only
  rw [if_pos hm]
  exact h
theorem sub_mk {W : Wd} {x y : Str} {Cx Cy : Addr} {b c : Bool} (hx : W.mg x = some (.ref Cx)) (hy : W.mg y = some (.ref Cy)) (hb : PySem.W.subIn W.K (.ref Cy) (.type "BaseException") = some true) (hd : PySem.W.hasDictIn W.K Cy = true) (ht : PySem.W.typeIn W.K (.ref Cy) = some (.type "type"))
    (h : PySem.W.subIn W.K (.ref Cx) (.ref Cy) = some b) (hs : PySem.W.subIn W.K (.ref Cx) (.ref Cx) = some true) (e : b = c) : SubK W x y c := by
  subst e
  exact ⟨Cx, Cy, hx, hy, kit_ref hd ht h hs, PySem.W.exm_ref hb hd ht h⟩
/-- within a suite: isinstance(e, Y) -/
theorem IsR.go {W : Wd} {Xs : Cx} {N : List Str} {sc : Scope} {i : Nat} {en x : Str} {a : Addr} (I : IsR W Xs N sc i en x a) (Z : ErOne W x) {G : Gm} {y : Str} {p1 p2 p3 p4 : Pos} {b : Bool} (hG : G[i]? = some (.ex a)) (hg : glB sc y = true) (hy : y ∈ names9) (hb : decide (x = y ∨ y = "BodyError") = b) :
    GE Xs G (.Call (.Name "isinstance" p1) [.Name en p2, .Name y p3] [] p4) (.bool b) := by
  obtain ⟨C, _, h, _, _⟩ := Z.ex
  obtain ⟨Cx, Cy, h1, h2, h3, _⟩ := (h y hy).ex
  subst hb
  exact I.own hG h1 h2 hg h3
theorem IsR.goV {W : Wd} {Xs : Cx} {N : List Str} {sc : Scope} {i : Nat} {en x : Str} {a : Addr} (I : IsR W Xs N sc i en x a) (Z : ErOne W x) {G : Gm} {p1 p2 p3 p4 : Pos} (hG : G[i]? = some (.ex a)) (hg : glB sc "ValueError" = true) :
    GE Xs G (.Call (.Name "isinstance" p1) [.Name en p2, .Name "ValueError" p3] [] p4) (.bool true) := by
  obtain ⟨C, F, _, h, hv⟩ := Z.ex
  exact I.blt hG F.mg hv (by decide +kernel) (by decide) hg h
/-- except BodyError as e -/
theorem gs_tryB {X : Cx} {G : Gm} {W : Wd} {N : List Str} {sc : Scope} {k : Nat} {E : DE} {en : Str} {rs : List Str} {body suite : List Stmt} {b₀ : Stmt} {np pos pos' : Pos} {Hs : Str → Gm → Prop} (C : Cok X W N sc k) (Z : Er W rs) (i : Nat) (hv : okV N sc i en = true) (hl : loc1B sc en = true) (hgb : glB sc "BodyError" = true) (hbm : ∃ Cb, W.mg "BodyError" = some (.ref Cb))
    (hgi : glB sc "isinstance" = true) (hmi : W.mg "isinstance" = none)
    (hb : ∀ X', Cok X' W N sc k → GSs X' G body ⟨E.nx, orX E.rt Hs, E.bk, E.ct⟩)
    (hs : ∀ x G', Hs x G' → x ∈ rs ∧ ∀ Xs a, Cnm Xs W N sc → IsR W Xs N sc i en x a →
      GSs Xs (G'.set i (.ex a)) (b₀ :: suite) ⟨fun G2 => E.nx (G2.set i .no), noX E.rt, fun G2 => E.bk (G2.set i .no), fun G2 => E.ct (G2.set i .no)⟩) :
    GS X G (.Try body [.ExceptHandler (some (.Name "BodyError" np)) (some en) (b₀ :: suite) pos'] [] [] pos) E := by
  obtain ⟨Cb, hCb⟩ := hbm
  refine gs_try_as C i hv hl hCb hgb hgi hmi hb fun x G' h => ?_
  obtain ⟨hx, hsu⟩ := hs x G' h
  obtain ⟨Ca, F, hsub, _, _⟩ := (Z x hx).ex
  obtain ⟨Cx, Cy, h1, h2, h3, h4⟩ := (hsub "BodyError" (by decide)).ex
  have e1 := F.mg.symm.trans h1
  cases e1
  have e2 := hCb.symm.trans h2
  cases e2
  rw [show decide (x = "BodyError" ∨ ("BodyError" : Str) = "BodyError") = true from decide_eq_true (.inr rfl)] at h4
  exact ⟨Ca, F, h4, hsu⟩
theorem er_body {W : Wd} {x : Str} {rs : List Str} (Z : Er W (x :: rs)) : ∃ Cb, W.mg "BodyError" = some (.ref Cb) := by
  obtain ⟨_, _, h, _, _⟩ := (Z x List.mem_cons_self).ex
  obtain ⟨_, Cy, _, h2, _⟩ := (h "BodyError" (by decide)).ex
  exact ⟨Cy, h2⟩
/-! ### the program's own constants -/
structure ConstD (W : Wd) (x : Str) (d : D) : Prop where
  ex : ∃ (u : Value) (v : V), W.mg x = some u ∧ RelV v u ∧ ∀ H : Hp, Dp W.K H v d
theorem const_int {W : Wd} {x : Str} {i : Int} (h : ∃ t, W.mg x = some (.int i t)) : ConstD W x (.int i) := by
  obtain ⟨t, h⟩ := h
  exact ⟨_, .int i, h, ⟨t, rfl⟩, fun _ => .int _⟩
theorem const_tup {W : Wd} {x : Str} {is : List Int} (h : ∃ (a : Addr) (o : Obj) (its : Array Value) (n : Nat), W.mg x = some (.ref a) ∧ W.K.lookup a = some o ∧ o.cls = .type "tuple" ∧ o.data = .seq its n ∧ its.size ≤ sizeLine ∧ Vals (is.map V.int) its.toList) : ConstD W x (.tuple (is.map .int)) := by
  obtain ⟨a, o, its, n, h, h1, h2, h3, h4, h5⟩ := h
  exact ⟨_, .ref a, h, rfl, fun H => .tup (.inr ⟨o, its, n, h1, h2, h3, h4, h5⟩) (dpa_of_ints is)⟩
theorem ge_const {X : Cx} {G : Gm} {W : Wd} {N : List Str} {sc : Scope} {k : Nat} {pos : Pos} {x : Str} {d : D} (C : Cok X W N sc k) (h : ConstD W x d) (hg : glB sc x = true) : GE X G (.Name x pos) d := by
  obtain ⟨u, v, h1, h2, h3⟩ := h.ex
  have hw := C.wd
  subst hw
  exact ⟨fun bs B σ H S Q q => inE (pe_glob (C.gl x hg).1 h1 h2 (C.gl x hg).2) (q v B H (.refl S.bh) (h3 B))⟩
/-! ### moves: three rows and a way off -/
structure Mv where
  a : P3
  b : P3
  c : P3
  o : P3
  deriving DecidableEq
abbrev Mv.en (m : Mv) : D := .tuple [.int m.a.x, .int m.a.y, .int m.a.z, .int m.b.x, .int m.b.y, .int m.b.z, .int m.c.x, .int m.c.y, .int m.c.z, .int m.o.x, .int m.o.y, .int m.o.z]
/-- a point as a tuple or as a list -/
inductive Sq3 : D → P3 → Prop
  | t {u : P3} : Sq3 u.en u
  | l {u : P3} : Sq3 (.list [.int u.x, .int u.y, .int u.z]) u
  | p {p : Pl} : Sq3 p.en p.n
section
variable {X : Cx} {G : Gm} {a : Expr} {m : Mv} {pos p1 p2 p3 : Pos}
theorem ge_slLd {lo hi : Option Expr} {l h : Option Int} {ds : List D} (ha : GE X G a (.list ds)) (hl : GP X G lo l) (hh : GP X G hi h) : GE X G (.Subscript a (.Slice lo hi none p2) pos) (.list (cutD ds l h)) := GO.ge (go_slL ha.gl hl hh)
theorem ge_mv1 (h : GE X G a m.en) : GE X G (.Subscript a (.Slice none (some (.Constant (.int 3) 0 p1)) none p2) pos) m.a.en := ge_slT h gp_no (gp_yes ge_int)
theorem ge_mv2 (h : GE X G a m.en) : GE X G (.Subscript a (.Slice (some (.Constant (.int 3) 0 p3)) (some (.Constant (.int 6) 0 p1)) none p2) pos) m.b.en := ge_slT h (gp_yes ge_int) (gp_yes ge_int)
theorem ge_mv3 (h : GE X G a m.en) : GE X G (.Subscript a (.Slice (some (.Constant (.int 6) 0 p3)) (some (.Constant (.int 9) 0 p1)) none p2) pos) m.c.en := ge_slT h (gp_yes ge_int) (gp_yes ge_int)
theorem ge_mv4 (h : GE X G a m.en) : GE X G (.Subscript a (.Slice (some (.Constant (.int 9) 0 p3)) none none p2) pos) m.o.en := ge_slT h (gp_yes ge_int) gp_no
end
theorem gss_ext {X : Cx} {G : Gm} {e : Expr} {ds us : List D} {W : Wd} {N : List Str} {sc : Scope} {k : Nat} {pos p1 p2 p3 : Pos} {E : DE} {x : Str} {sts : List Stmt} (C : Cok X W N sc k) (i : Nat) (h : okV N sc i x = true) (hG : G[i]? = some (.ow ds)) (he : GL X G e us) (hz : ds.length + us.length ≤ 16777216) (hn : GSs X (G.set i (.ow (ds ++ us))) sts E)
    (hb : attributeBase (.Name x p1) "extend" X.env (eval (.Name x p1) X.env) = eval (.Name x p1) X.env) (hl : (p2.endLine == p3.line) = true) (hst : nst e = true)
    (hfew : ((backTo p3 (starEach [e] X.env)).all (fun x => !x.1) && (backToKw p3 (keywordEach [] X.env)).all (fun x => x.1.isSome) && decide (([e] : List Expr).length + ([] : List Keyword).length + (if ([] : List Keyword).isEmpty then 0 else 1) < 30)) = true)
    (hs : swapsWith (.Call (.Attribute (.Name x p1) "extend" p2) [e] [] p3) none pos.line X.env = pure false) : GSs X G (.Expr (.Call (.Attribute (.Name x p1) "extend" p2) [e] [] p3) pos :: sts) E := gs_cons (gs_ext C i h hG he hz hn hb hl hst hfew hs)
def Mv.at (m : Mv) (a : Int) : Int := [m.a.x, m.a.y, m.a.z, m.b.x, m.b.y, m.b.z, m.c.x, m.c.y, m.c.z, m.o.x, m.o.y, m.o.z].getD a.toNat 0
theorem ixM {m : Mv} {a : Int} (h0 : 0 ≤ a) (h1 : a < 12) : IxV (.s m.en) a (.int (m.at a)) := by
  refine .tup ?_
  have h := atI_map (f := PyData.int) (atI_getD (ns := [m.a.x, m.a.y, m.a.z, m.b.x, m.b.y, m.b.z, m.c.x, m.c.y, m.c.z, m.o.x, m.o.y, m.o.z]) h0 (by simp only [List.length_cons, List.length_nil]; omega))
  exact h
end DW

set_option Elab.async false
set_option linter.all false
set_option maxRecDepth 100000
set_option maxHeartbeats 4000000
set_option autoImplicit false
namespace DW
open PySem PySem.Spec PyProof.Rows L2
/-! ### sorted, over data -/
section
variable {β : Type} {enc : β → D}
def ItR (K : PySem.W.Frag) (H : Hp) (enc : β → D) (u : Value) (b : β) : Prop := ∃ v, RelV v u ∧ Dp K H v (enc b)
theorem eachis_of {K : PySem.W.Frag} {H : Hp} : ∀ {bs : List β} {xs : List V} {us : List Value}, DpAll K H xs (bs.map enc) → Vals xs us → PySem.W.EachIs (ItR K H enc) us bs
  | [], _, _, h, r => by
    cases h
    cases r
    exact .nil
  | b :: bs, _, _, h, r => by
    cases h with
    | cons h1 h2 => cases r with
      | cons r1 r2 => exact .cons ⟨_, r1, h1⟩ (eachis_of h2 r2)
theorem eachis_to {K : PySem.W.Frag} {H : Hp} : ∀ {bs : List β} {us : List Value}, PySem.W.EachIs (ItR K H enc) us bs → ∃ ys, Vals ys us ∧ DpAll K H ys (bs.map enc)
  | _, _, .nil => ⟨[], .nil, .nil⟩
  | _, _, .cons ⟨v, r1, h1⟩ t => by
    obtain ⟨ys, r2, h2⟩ := eachis_to t
    exact ⟨v :: ys, .cons r1 r2, .cons h1 h2⟩
def rSortD (K : PySem.W.Frag) (enc : β → D) : List V → Hp → VK → Prop := fun vs H Q => ∃ (B : Hp) (a : Addr) (xs : List V) (bs : List β), Same B H ∧ vs = [V.ref a] ∧ SqL K H a xs ∧ DpAll K B xs (bs.map enc) ∧ PySem.W.AllAlike (bs.map enc) ∧ PySem.W.Sortable (bs.map enc) ∧ bs.length ≤ sizeLine ∧ (∀ b ∈ bs, (enc b).depth ≤ 60) ∧
  ∀ (ys : List V) (p : Addr), DpAll K B ys ((bs.mergeSort (PySem.W.dataLe false enc)).map enc) → H p = none → Q (.ref p) (upd H p (.lst ys))
theorem cr_sortD {X : Cx} (hu : X.A.units + 64 < cLine) : CallR X (.builtin "sorted") (rSortD X.K enc) := by
  intro pins s σ H vs us Q I r h
  obtain ⟨B, a, xs, bs, sB, rfl, hs, hd, hal, hk, hL, hdp, q⟩ := h
  obtain ⟨its, rv, hl, _⟩ := I.list hs
  rw [Vals.ref1 r]
  have e := eachis_of hd rv
  have er : PySem.W.EachIs (fun u b => ∃ as, Reads s.heap u (enc b) as) its bs := e.mono fun u b hb => by
    obtain ⟨v, r1, h1⟩ := hb
    exact Dp.reads I (enc b) v u (moD h1 sB) r1
  refine PySem.W.sorted_data (R := ItR X.K B enc) hl.isList e er hal hk hL (fun b hb => by have := hdp b hb; omega) (fun out ho hout => ?_)
  obtain ⟨ys, r2, h2⟩ := eachis_to hout
  obtain ⟨ep, he'⟩ := PyProof.Rows.sortedAll_at s.heap its out.toArray
  have hlen : ys.length ≤ sizeLine := by
    rw [dpa_len h2, List.length_map, List.length_mergeSort]
    exact hL
  exact ⟨.ref _, upd H (s.heap.objs.size + 1) (.lst ys), I.laid (t' := s.toks) (fun _ _ => PyProof.Rows.sortedAll_old) (Nat.le_succ _) ⟨hlen, out, ep, r2, he'⟩, rfl, q ys _ h2 (I.hok.fresh (Nat.le_succ _))⟩
theorem go_sorted {X : Cx} {G : Gm} {e : Expr} {W : Wd} {N : List Str} {sc : Scope} {k : Nat} {p pos : Pos} {bs : List β} (C : Cok X W N sc k) (hg : glB sc "sorted" = true) (hm : W.mg "sorted" = none) (ha : GL X G e (bs.map enc)) (hal : PySem.W.AllAlike (bs.map enc)) (hk : PySem.W.Sortable (bs.map enc)) (hL : bs.length ≤ 16777216) (hd : ∀ b ∈ bs, (enc b).depth ≤ 60) (he : nst e = true) :
    GO X G (.Call (.Name "sorted" p) [e] [] pos) ((bs.mergeSort (PySem.W.dataLe false enc)).map enc) := by
  have hw := C.wd
  subst hw
  refine ⟨fun bs' B σ H S Q q => inE (pe_callB (cr_sortD (enc := enc) (by have := C.room.un; omega)) (C.gl _ hg).1 hm (by decide +kernel) (pa_cons pE pa_nil (star_cons he)) (by decide) (C.gl _ hg).2 (star_cons he) (star_all rfl)) (ha.run bs' B σ H S _ fun a vs B1 H1 g1 r1 r2 => ?_)⟩
  refine ⟨B1, a, vs, bs, g1.bh, rfl, r1, r2, hal, hk, by rw [sizeLine_eq]; exact hL, hd, fun ys p hy hp => ?_⟩
  exact q p ys B1 _ (g1.trans (.own g1.bh hp)) (same_none g1.h hp) (same_none g1.bh hp) upd_same hy
theorem alike_p3 (u v : P3) : PySem.W.alike u.en v.en = true := PySem.W.alike_ints [u.x, u.y, u.z] [v.x, v.y, v.z]
def leP (u v : P3) : Bool := decide (u.x < v.x ∨ (u.x = v.x ∧ (u.y < v.y ∨ (u.y = v.y ∧ u.z ≤ v.z))))
def sortP (us : List P3) : List P3 := us.mergeSort (PySem.W.dataLe false P3.en)
theorem go_sort3 {X : Cx} {G : Gm} {e : Expr} {W : Wd} {N : List Str} {sc : Scope} {k : Nat} {p pos : Pos} {us : List P3} (C : Cok X W N sc k) (hg : glB sc "sorted" = true) (hm : W.mg "sorted" = none) (ha : GL X G e (us.map P3.en)) (hL : us.length ≤ 16777216) (he : nst e = true) :
    GO X G (.Call (.Name "sorted" p) [e] [] pos) ((sortP us).map P3.en) :=
  go_sorted C hg hm ha (.of alike_p3) (.tuples fun b => ⟨_, _, rfl⟩) hL (fun b _ => by simp [PyData.depth, PyData.depthAll]) he
end
end DW

set_option Elab.async false
set_option linter.all false
set_option maxRecDepth 100000
set_option maxHeartbeats 4000000
set_option autoImplicit false
namespace DW
open PySem PySem.Spec PyProof.Rows L2
/-! ### keys as data -/
section
variable {X : Cx} {pins : List (Addr × Obj)} {σ : L2.St} {H : Hp} {s : Shared}
mutual
theorem dp_nest (I : Inv X pins σ H s) : ∀ (k : NestedKey) (v : V) (u : Value), Dp X.K H v k.data → RelV v u → NestedIs s.heap k u
  | .none, v, u, h, r => by
    have e := dp_non h
    subst e
    cases r
    exact .none
  | .num i, v, u, h, r => by
    have e := dp_int h
    subst e
    obtain ⟨t, rfl⟩ := r
    exact .int i t
  | .text x, v, u, h, r => by
    have e := dp_str h
    subst e
    obtain ⟨t, rfl⟩ := r
    exact .text x t
  | .tup ks, v, u, h, r => by
    obtain ⟨a, xs, rfl, h1, h2⟩ := dp_tup (ds := NestedKey.datas ks) h
    cases r
    obtain ⟨its, rv, ⟨o, ho, hc, n, hd⟩, _⟩ := I.tuple h1
    exact .tup ho hc hd (by simpa using dp_nests I ks _ _ h2 rv)
theorem dp_nests (I : Inv X pins σ H s) : ∀ (ks : List NestedKey) (vs : List V) (us : List Value), DpAll X.K H vs (NestedKey.datas ks) → Vals vs us → NestedAll s.heap ks us
  | [], _, _, h, r => by
    cases h
    cases r
    exact .nil
  | k :: ks, _, _, h, r => by
    have h' : DpAll X.K H _ (NestedKey.data k :: NestedKey.datas ks) := h
    cases h' with
    | cons h1 h2 => cases r with
      | cons r1 r2 => exact .cons (dp_nest I k _ _ h1 r1) (dp_nests I ks _ _ h2 r2)
end
end
/-! ### a dict of one's own -/
abbrev Ent := List (NestedKey × Addr × Value)
def dE (W : Wd) (p : Addr) (xs : Ent) : HO := .ext fun h => (p == sysModules) = false ∧ xs.length ≤ sizeLine ∧ ∃ o es ep, h.get? p = some o ∧ o.ExactDict ∧ o.data = .dict es ep ∧ es.toList = xs.map (entryOfKey (nestedKind W.P W.w)) ∧ (xs.map (·.1)).Nodup
theorem dE_new {W : Wd} {p : Addr} {xs : Ent} {H : Hp} {h : Heap} (h1 : (p == sysModules) = false) (h2 : xs.length ≤ sizeLine) (h3 : ∃ o es ep, h.get? p = some o ∧ o.ExactDict ∧ o.data = .dict es ep ∧ es.toList = xs.map (entryOfKey (nestedKind W.P W.w)) ∧ (xs.map (·.1)).Nodup) :
    ObjOk W.P W.w H h p (dE W p xs) := by
  refine ⟨⟨h1, h2, h3⟩, ?_, fun ha hb q k => ?_⟩
  · obtain ⟨o, _, _, ho, _⟩ := h3
    exact ⟨o, ho⟩
  · obtain ⟨q1, q2, o, es, ep, ho, r⟩ := q
    exact ⟨q1, q2, o, es, ep, k o ho, r⟩
def KvR (K : PySem.W.Frag) (B : Hp) (p : NestedKey × D) (q : NestedKey × Addr × Value) : Prop := p.1 = q.1 ∧ q.1.depth ≤ 8 ∧ Dp K B (.ref q.2.1) q.1.data ∧ ∃ v, RelV v q.2.2 ∧ Dp K B v p.2
abbrev Kvs := List (NestedKey × D)
def dget (kvs : Kvs) (k : NestedKey) : Option D := (kvs.find? fun p => decide (p.1 = k)).map (·.2)
def dput (kvs : Kvs) (k : NestedKey) (d : D) : Kvs := if (dget kvs k).isSome then kvs.map (fun p => if p.1 = k then (p.1, d) else p) else kvs ++ [(k, d)]
theorem kv_get {K : PySem.W.Frag} {B : Hp} {kvs : Kvs} {xs : Ent} (r : Paired (KvR K B) kvs xs) (k : NestedKey) : (dget kvs k = none ∧ atKey xs k = none) ∨ ∃ d a u, dget kvs k = some d ∧ atKey xs k = some (a, u) ∧ ∃ v, RelV v u ∧ Dp K B v d := by
  induction r with
  | nil => exact .inl ⟨rfl, rfl⟩
  | @cons p q ps qs h t ih =>
    obtain ⟨h1, h2, h3, v, h4, h5⟩ := h
    by_cases e : p.1 = k
    · refine .inr ⟨p.2, q.2.1, q.2.2, ?_, ?_, v, h4, h5⟩
      · simp only [dget, List.find?_cons, decide_eq_true e, Option.map_some]
      · simp only [atKey, List.find?_cons, decide_eq_true (h1.symm.trans e), Option.map_some]
    · have e2 : ¬ q.1 = k := fun z => e (h1.trans z)
      have f1 : dget (p :: ps) k = dget ps k := by simp only [dget, List.find?_cons, decide_eq_false e]
      have f2 : atKey (q :: qs) k = atKey qs k := by simp only [atKey, List.find?_cons, decide_eq_false e2]
      rw [f1, f2]
      exact ih
theorem kv_isSome {K : PySem.W.Frag} {B : Hp} {kvs : Kvs} {xs : Ent} (r : Paired (KvR K B) kvs xs) (k : NestedKey) : (dget kvs k).isSome = (atKey xs k).isSome := by
  rcases kv_get r k with ⟨h1, h2⟩ | ⟨d, a, u, h1, h2, _⟩
  · rw [h1, h2]
    rfl
  · rw [h1, h2]
    rfl
theorem kv_put {K : PySem.W.Frag} {B : Hp} {kvs : Kvs} {xs : Ent} (r : Paired (KvR K B) kvs xs) {k : NestedKey} {b : Addr} {u : Value} {v : V} {d : D} (hd : k.depth ≤ 8) (hb : Dp K B (.ref b) k.data) (hv : RelV v u) (hq : Dp K B v d) : Paired (KvR K B) (dput kvs k d) (storedH xs k b u) := by
  unfold dput storedH
  rw [kv_isSome r k]
  by_cases q : (atKey xs k).isSome = true
  · rw [if_pos q, if_pos q]
    clear q
    induction r with
    | nil => exact .nil
    | @cons p q ps qs h t ih =>
      rw [List.map_cons, List.map_cons]
      refine .cons ?_ ih
      obtain ⟨h1, h2, h3, h4⟩ := h
      unfold putAt
      by_cases e : p.1 = k
      · rw [if_pos e, if_pos (h1.symm.trans e)]
        exact ⟨h1, h2, h3, v, hv, hq⟩
      · rw [if_neg e, if_neg (fun z => e (h1.trans z))]
        exact ⟨h1, h2, h3, h4⟩
  · rw [if_neg q, if_neg q]
    exact Paired.snoc r ⟨rfl, hd, hb, v, hv, hq⟩
theorem dput_len (kvs : Kvs) (k : NestedKey) (d : D) : (dput kvs k d).length ≤ kvs.length + 1 := by
  unfold dput
  split
  · rw [List.length_map]
    omega
  · rw [List.length_append]
    exact Nat.le_refl _
theorem storedH_len (xs : Ent) (k : NestedKey) (b : Addr) (u : Value) : (storedH xs k b u).length ≤ xs.length + 1 := by
  unfold storedH
  split
  · rw [List.length_map]
    omega
  · rw [List.length_append]
    exact Nat.le_refl _
theorem kv_mono {K : PySem.W.Frag} {B B' : Hp} (e : Same B B') {kvs : Kvs} {xs : Ent} (r : Paired (KvR K B) kvs xs) : Paired (KvR K B') kvs xs :=
  Paired.mapP r fun _ _ z => ⟨z.1, z.2.1, moD z.2.2.1 e, let ⟨v, h1, h2⟩ := z.2.2.2; ⟨v, h1, moD h2 e⟩⟩
def dictO (W : Wd) (kvs : Kvs) : Ob where
  R B H p := ∃ xs, H p = some (dE W p xs) ∧ Paired (KvR W.K B) kvs xs
  gr B H B' H' p e1 e2 h := by
    obtain ⟨xs, h1, h2⟩ := h
    exact ⟨xs, e2 _ _ h1, kv_mono e1 h2⟩
  fr B H p q o hne h := by
    obtain ⟨xs, h1, h2⟩ := h
    exact ⟨xs, by rw [upd_ne hne.symm]; exact h1, h2⟩
/-- one's own thing at slot i changes -/
theorem Sat.mutO {K : PySem.W.Frag} {bs : Bs} {G : Gm} {B H : Hp} {σ : L2.St} {i : Nat} {p : Addr} {R R' : Ob} {o' : HO} (S : Sat K bs G B σ H) (h : G[i]? = some (.ob R)) (hp : σ[i]? = some (some (.ref p))) (q : R'.R B (upd H p o') p) : Sat K bs (G.set i (.ob R')) B σ (upd H p o') := by
  obtain ⟨p', e, q0, q1, q2, q3⟩ := S.obj h
  rw [hp] at e
  cases e
  have hi : i < G.length := (List.getElem?_eq_some_iff.mp h).1
  refine ⟨⟨S.gr.b, fun b o z => ?_, same_out S.bh q1, S.gr.n⟩, by rw [List.length_set, S.len], fun j s o h1 h2 => ?_, fun j k s t a hjk h1 h2 s1 s2 e1 e2 => ?_⟩
  · rw [upd_ne (ne_of_none z q0)]
    exact S.gr.h b o z
  · rcases set_get h1 with ⟨ej, es, hl⟩ | ⟨ej, h1'⟩
    · subst ej es
      rw [hp] at h2
      cases h2
      exact ⟨p, rfl, q0, q1, by rw [upd_same]; simp, q⟩
    · have r := S.sl j s o h1' h2
      cases s with
      | ex a => exact r
      | no => trivial
      | fz d => exact r
      | ow ds' =>
        obtain ⟨p2, vs2, e2, r0, r1, r2, r3⟩ := r
        subst e2
        have ne : p ≠ p2 := S.apart (fun z => ej z.symm) h h1' rfl rfl hp h2
        exact ⟨p2, vs2, rfl, r0, r1, by rw [upd_ne ne.symm]; exact r2, r3⟩
      | ob R2 =>
        obtain ⟨p2, e2, r0, r1, r2, r3⟩ := r
        subst e2
        have ne : p ≠ p2 := S.apart (fun z => ej z.symm) h h1' rfl rfl hp h2
        exact ⟨p2, rfl, r0, r1, by rw [upd_ne ne.symm]; exact r2, R2.fr B H p2 p _ ne r3⟩
  · have own : ∀ (m : Nat) s, (G.set i (.ob R'))[m]? = some s → s.own = true → ∃ s', G[m]? = some s' ∧ s'.own = true := fun m s a1 a2 => by
      rcases set_get a1 with ⟨em, _, _⟩ | ⟨_, a1'⟩
      · subst em
        exact ⟨_, h, rfl⟩
      · exact ⟨s, a1', a2⟩
    obtain ⟨s', g1, g2⟩ := own j s h1 s1
    obtain ⟨t', g3, g4⟩ := own k t h2 s2
    exact S.na j k s' t' a hjk g1 g3 g2 g4 e1 e2
section
variable {X : Cx} {G : Gm} {e v a : Expr} {es : List Expr} {ds : List D} {d : D} {W : Wd} {N : List Str} {sc : Scope} {k : Nat} {pos p1 p2 p3 p : Pos} {E : DE} {x : Str} {sts : List Stmt} {kvs : Kvs} {key : NestedKey}
/-- the dict as the machine has it -/
theorem dE_of {pins : List (Addr × Obj)} {σ : L2.St} {H B : Hp} {s : Shared} {p : Addr} {xs : Ent} {W : Wd} (hw : wdOf X = W) (I : Inv X pins σ H s) (sB : Same B H) (h : H p = some (dE W p xs)) (r : Paired (KvR W.K B) kvs xs) : (p == sysModules) = false ∧ xs.length ≤ sizeLine ∧ s.heap.DictOfH (nestedKind X.prog X.w) p xs := by
  subst hw
  obtain ⟨⟨q1, q2, o, es, ep, ho, h2, h3, h4, h5⟩, _⟩ := I.hok p _ h
  refine ⟨q1, q2, o, es, ep, ho, h2, h3, h4, fun q hq => ?_, h5⟩
  have : ∀ {kvs : Kvs} {xs : Ent}, Paired (KvR (wdOf X).K B) kvs xs → q ∈ xs → q.1.depth ≤ 8 ∧ Dp X.K B (.ref q.2.1) q.1.data := fun {kvs xs} r hm => by
    induction r with
    | nil => cases hm
    | @cons p q' ps qs h t ih =>
      rcases List.mem_cons.mp hm with e | e
      · subst e
        exact ⟨h.2.1, h.2.2.1⟩
      · exact ih e
  obtain ⟨a1, a2⟩ := this r hq
  exact ⟨dp_nest I q.1 _ _ (moD a2 sB) rfl, a1⟩
def rDGX (W : Wd) : R2 := fun x y H Q => ∃ (B : Hp) (p b : Addr) (kvs : Kvs) (xs : Ent) (key : NestedKey) (d : D), x = .ref p ∧ y = .ref b ∧ Same B H ∧ H p = some (dE W p xs) ∧ Paired (KvR W.K B) kvs xs ∧ key.depth ≤ 8 ∧ Dp W.K B (.ref b) key.data ∧ dget kvs key = some d ∧ ∀ v, Dp W.K B v d → Q v H
theorem pe_dgetX {o i : Expr} {td ty : TE} (hw : wdOf X = W) (hu : X.A.units + 64 < cLine) (ho : PE X o td) (hi : PE X i ty) (hs : NoSl i) : PE X (.Subscript o i pos) (tOp (rDGX W) td ty) := by
  refine ⟨fun pins s σ H Q I h => ?_⟩
  refine subD_of PySem.F.slot_dict_getitem.lookup hs (thn (ho.run pins s σ H _ I h) fun u s1 ⟨x, H1, I1, rx, q1⟩ => thn (hi.run pins s1 σ H1 _ I1 q1) fun iv s2 ⟨y, H2, I2, ry, q2⟩ => ?_)
  obtain ⟨B, p, b, kvs, xs, key, d, rfl, rfl, sB, hp, r, hd, hb, hg, q⟩ := q2
  obtain rfl : u = Value.ref p := rx
  obtain rfl : iv = Value.ref b := ry
  obtain ⟨h1, h2, dd⟩ := dE_of hw I2 sB hp r
  subst hw
  refine ⟨dd.typeIs, ?_⟩
  have hk : (nestedKind X.prog X.w).is s2.heap key b := ⟨dp_nest I2 key _ _ (moD hb sB) rfl, hd⟩
  rcases kv_get r key with ⟨z, _⟩ | ⟨d', a, w', g1, g2, v, rv, hv⟩
  · rw [z] at hg
    cases hg
  · rw [g1] at hg
    cases hg
    refine wpAny_getItem_heap (by show X.A.units + 1 + 8 < cLine; omega) hk dd g2 ⟨v, H2, I2.tok _, rv, q v hv⟩
/-- x[key] -/
theorem ge_dget (C : Cok X W N sc k) (i : Nat) (h : okV N sc i x = true) (hG : G[i]? = some (.ob (dictO W kvs))) (he : GE X G e key.data) (hd : key.depth ≤ 8) (hk : ∃ ks, key = .tup ks) (hg : dget kvs key = some d) (hs : NoSl e) : GE X G (.Subscript (.Name x p1) e pos) d := by
  obtain ⟨h1, h2, h3, h4⟩ := okV_of h
  have hw := C.wd
  refine ⟨fun bs B σ H S Q q => inE (pe_dgetX hw (by have := C.room.un; omega) (pe_var (i := i) (by rw [C.N]; exact h1) (C.vis x h2) h3 h4) pE hs) ?_⟩
  obtain ⟨p, e1, q0, q1, q2, xs, q3, q4⟩ := S.obj hG
  refine ⟨_, e1, he.run bs B σ H S _ fun v B1 H1 g r => ?_⟩
  subst hw
  obtain ⟨ks, rfl⟩ := hk
  obtain ⟨b, vs, rfl, hb1, hb2⟩ := dp_tup (ds := NestedKey.datas ks) r
  exact ⟨B1, p, b, kvs, xs, .tup ks, d, rfl, rfl, g.bh, g.h _ _ q3, kv_mono g.b q4, hd, r, hg, fun v hv => q v B1 H1 g hv⟩
def sDPX (W : Wd) (td ty tv : TE) : TS := fun De σ H => tv σ H fun v H1 => td σ H1 fun x H2 => ty σ H2 fun y H3 => ∃ (B : Hp) (p b : Addr) (kvs : Kvs) (xs : Ent) (key : NestedKey), x = .ref p ∧ y = .ref b ∧ Same B H3 ∧ H3 p = some (dE W p xs) ∧ Paired (KvR W.K B) kvs xs ∧ key.depth ≤ 8 ∧ Dp W.K B (.ref b) key.data ∧ xs.length < sizeLine ∧
  ∀ u, RelV v u → De.nx σ (upd H3 p (dE W p (storedH xs key b u)))
theorem ps_dputX {o i value : Expr} {pos' : Pos} {td ty tv : TE} (hw : wdOf X = W) (hu : X.A.units + 64 < cLine) (ho : PE X o td) (hi : PE X i ty) (hv : PE X value tv) (hs : swapsWith value (some (.Subscript o i pos')) pos.line X.env = pure false) :
    PS X (.Assign [.Subscript o i pos'] value pos) (sDPX W td ty tv) := by
  refine ⟨fun pins s σ H De I h => ?_⟩
  refine wpAny_Assign_Subscript (thn (hv.run pins s σ H _ I h) fun r s1 ⟨v, H1, I1, rv, q1⟩ => thn (ho.run pins s1 σ H1 _ I1 q1) fun u s2 ⟨x, H2, I2, rx, q2⟩ => thn (hi.run pins s2 σ H2 _ I2 q2) fun iv s3 ⟨y, H3, I3, ry, q3⟩ => ?_) hs
  obtain ⟨B, p, b, kvs, xs, key, rfl, rfl, sB, hp, rr, hd, hb, hz, q⟩ := q3
  obtain rfl : u = Value.ref p := rx
  obtain rfl : iv = Value.ref b := ry
  obtain ⟨h1, h2, dd⟩ := dE_of hw I3 sB hp rr
  subst hw
  have hk : (nestedKind X.prog X.w).is s3.heap key b := ⟨dp_nest I3 key _ _ (moD hb sB) rfl, hd⟩
  refine wpAny_setItem_heap (hsz := h2) (by show X.A.units + 1 + 8 < cLine; omega) hk dd fun h' dd' hs' => ⟨σ, _, ?_, q r rv⟩
  obtain ⟨o', es, ep, ho', a2, a3, a4, _, a5⟩ := dd'
  exact d_write I3 (by rw [hp]; exact True.intro) hs' ⟨o', ho'⟩ (dE_new (W := wdOf X) h1 (by have := storedH_len xs key b r; omega) ⟨o', es, ep, ho', a2, a3, a4, a5⟩)
/-- x[key] = v -/
theorem gs_dput (C : Cok X W N sc k) (i : Nat) (h : okV N sc i x = true) (hG : G[i]? = some (.ob (dictO W kvs))) (he : GE X G a key.data) (hv : GE X G v d) (hd : key.depth ≤ 8) (hk : ∃ ks, key = .tup ks) (hz : kvs.length < 16777216) (hn : E.nx (G.set i (.ob (dictO W (dput kvs key d)))))
    (hs : swapsWith v (some (.Subscript (.Name x p1) a p2)) pos.line X.env = pure false) : GS X G (.Assign [.Subscript (.Name x p1) a p2] v pos) E := by
  obtain ⟨h1, h2, h3, h4⟩ := okV_of h
  have hw := C.wd
  refine ⟨fun bs B σ H S De m => inS (ps_dputX hw (by have := C.room.un; omega) (pe_var (i := i) (by rw [C.N]; exact h1) (C.vis x h2) h3 h4) pE pE hs) ?_⟩
  refine hv.run bs B σ H S _ fun v' B1 H1 g1 r1 => ?_
  have S1 := S.gro g1
  obtain ⟨p, e1, q0, q1, q2, xs, q3, q4⟩ := S1.obj hG
  refine ⟨_, e1, he.run bs B1 σ H1 S1 _ fun w B2 H2 g2 r2 => ?_⟩
  subst hw
  obtain ⟨ks, rfl⟩ := hk
  obtain ⟨b, vs, rfl, hb1, hb2⟩ := dp_tup (ds := NestedKey.datas ks) r2
  have hl : kvs.length = xs.length := Paired.length q4
  refine ⟨B2, p, b, kvs, xs, .tup ks, rfl, rfl, g2.bh, g2.h _ _ q3, kv_mono g2.b q4, hd, r2, by rw [sizeLine_eq]; omega, fun u ru => ?_⟩
  exact m.nx _ B2 σ _ hn ((S1.gro g2).mutO hG e1 ⟨_, upd_same, kv_put (kv_mono g2.b q4) hd r2 ru (moD r1 g2.b)⟩)
/-- x = {} -/
theorem pe_dnewX (hw : wdOf X = W) : PE X (.Dict [] [] pos) (fun _ H Q => ∀ p, H p = none → Q (.ref p) (upd H p (dE W p []))) := ⟨fun pins s σ H Q I h => by
  subst hw
  exact wpAny_Dict_empty ⟨.ref s.heap.objs.size, _, I.laid (a := s.heap.objs.size) (o := dE (wdOf X) s.heap.objs.size []) (t' := s.toks) (fun _ _ q => Heap.get?_push_of_some _ q) (Nat.le_refl _)
    (dE_new (W := wdOf X) (beq_eq_false_iff_ne.mpr (Ne.symm (Nat.ne_of_lt I.big))) (Nat.zero_le _) ⟨_, #[], 0, Heap.get?_push_size _ rfl, ⟨rfl, rfl, rfl⟩, rfl, rfl, List.nodup_nil⟩), rfl, h _ (I.hok.fresh (Nat.le_refl _))⟩⟩
theorem gs_dnew (C : Cok X W N sc k) (i : Nat) (h : okL N sc i x = true) (hn : E.nx (G.set i (.ob (dictO W [])))) (hs : swapsWith (.Dict [] [] p2) (some (.Name x p1)) pos.line X.env = pure false) : GS X G (.Assign [.Name x p1] (.Dict [] [] p2) pos) E := by
  obtain ⟨h1, h2⟩ := okL_of h
  obtain ⟨l1, l2⟩ := C.loc x h2
  refine ⟨fun bs B σ H S De m => inS (ps_set (by rw [C.N]; exact C.nd) (by rw [C.N]; exact h1) l1 (pe_dnewX (W := W) C.wd) hs l2) fun p hp => ?_⟩
  have g : Grow B H B (upd H p (dE W p [])) := .own S.bh hp
  exact m.nx _ B _ _ hn (S.setO g hp rfl ⟨p, rfl, same_none S.gr.h hp, same_none S.bh hp, by rw [upd_same]; simp, [], upd_same, .nil⟩)
end
/-! ### sorted(d), {k: v} -/
mutual
theorem reads_lt {h : Heap} : ∀ {v : Value} {d : PyData} {as : List Addr}, Reads h v d as → ∀ a ∈ as, a < h.objs.size
  | _, _, _, .none, a, ha => by cases ha
  | _, _, _, .bool _, a, ha => by cases ha
  | _, _, _, .int _ _, a, ha => by cases ha
  | _, _, _, .str _ _, a, ha => by cases ha
  | _, _, _, .list h1 _ _ h4, a, ha => by
    rcases List.mem_cons.mp ha with e | e
    · subst e
      exact Heap.lt_size h1
    · exact readsAll_lt h4 a e
  | _, _, _, .tuple _ _ _ h4, a, ha => readsAll_lt h4 a ha
  | _, _, _, .dict h1 _ _ h4 h5, a, ha => by
    rcases List.mem_append.mp ha with e | e
    · rcases List.mem_cons.mp e with e | e
      · subst e
        exact Heap.lt_size h1
      · exact readsAll_lt h4 a e
    · exact readsAll_lt h5 a e
theorem readsAll_lt {h : Heap} : ∀ {vs : List Value} {ds : List PyData} {as : List Addr}, ReadsAll h vs ds as → ∀ a ∈ as, a < h.objs.size
  | _, _, _, .nil, a, ha => by cases ha
  | _, _, _, .cons h1 h2, a, ha => by
    rcases List.mem_append.mp ha with e | e
    · exact reads_lt h1 a e
    · exact readsAll_lt h2 a e
end
theorem kv_keys {K : PySem.W.Frag} {B : Hp} {kvs : Kvs} {xs : Ent} (r : Paired (KvR K B) kvs xs) : DpAll K B (xs.map fun q => V.ref q.2.1) (kvs.map fun p => p.1.data) := by
  induction r with
  | nil => exact .nil
  | cons h t ih =>
    rw [List.map_cons, List.map_cons]
    exact .cons (by rw [h.1]; exact h.2.2.1) ih
theorem vals_refs {α : Type} (f : α → Addr) : ∀ xs : List α, Vals (xs.map fun q => V.ref (f q)) (xs.map fun q => Value.ref (f q))
  | [] => .nil
  | x :: xs => .cons rfl (vals_refs f xs)
section
variable {β : Type} {enc : β → D} {X : Cx} {W : Wd}
def rSortDX (W : Wd) (enc : β → D) : List V → Hp → VK → Prop := fun vs H Q => ∃ (B : Hp) (p : Addr) (kvs : Kvs) (xs : Ent) (bs : List β), vs = [V.ref p] ∧ Same B H ∧ H p = some (dE W p xs) ∧ Paired (KvR W.K B) kvs xs ∧ (kvs.map fun p => p.1.data) = bs.map enc ∧ PySem.W.AllAlike (bs.map enc) ∧ PySem.W.Sortable (bs.map enc) ∧ (∀ b ∈ bs, (enc b).depth ≤ 60) ∧
  ∀ (ys : List V) (q : Addr), DpAll W.K B ys ((bs.mergeSort (PySem.W.dataLe false enc)).map enc) → H q = none → Q (.ref q) (upd H q (.lst ys))
theorem cr_sortDX (hw : wdOf X = W) (hc : X.calm = true) (hu : X.A.units + 64 < cLine) : CallR X (.builtin "sorted") (rSortDX W enc) := by
  intro pins s σ H vs us Q I r h
  obtain ⟨B, p, kvs, xs, bs, rfl, sB, hp, hr, hk, hal, hso, hdp, q⟩ := h
  rw [Vals.ref1 r]
  obtain ⟨h1, h2, dd⟩ := dE_of hw I sB hp hr
  obtain ⟨es, ep, raw, hs, he⟩ := dd.raw
  subst hw
  refine Calls.call_function_entry PyProof.Rows.kind_sorted PyProof.Rows.plain_sorted PyProof.Rows.entry_sorted (PyProof.Rows.args_sorted1 _) ?_
  unfold Builtin.«sorted»
  refine wpAny_bind (m := checkCount "sorted" 1 1 _) (wpAny_pure ?_)
  refine wpAny_bind (PySem.W.kdu_collect (A := X.A.in1) (PySem.KdlSrc.rawDict (es := es) (ep := ep) h1) (I.ok.hd hc) raw (by rw [hs]; exact h2) fun h' tk acc hkp hacc => ?_)
  have hL : acc.toList = xs.map fun q => Value.ref q.2.1 := by
    refine List.ext_getElem? fun j => ?_
    rw [Array.getElem?_toList, List.getElem?_map]
    by_cases hj : j < es.size
    · have hja : j < acc.size := by rw [hacc.1]; exact hj
      obtain ⟨hi, ev⟩ := hacc.2 j _ (Array.getElem?_eq_getElem hja)
      obtain ⟨y, e1, e2, _⟩ := he j hj
      rw [Array.getElem?_eq_getElem hja, e1, ev, e2]
      rfl
    · have hja : ¬ j < acc.size := by rw [hacc.1]; exact hj
      rw [Array.getElem?_eq_none (by omega), List.getElem?_eq_none (by omega)]
      rfl
  have I1 : Inv X pins σ H { s with heap := h', toks := tk } := I.kept hkp
  have hd := kv_keys hr
  rw [hk] at hd
  have rv : Vals (xs.map fun q => V.ref q.2.1) acc.toList := by
    rw [hL]
    exact vals_refs (fun q : NestedKey × Addr × Value => q.2.1) xs
  have e := eachis_of hd rv
  have hlen : bs.length = xs.length := by
    have := dpa_len hd
    rw [List.length_map, List.length_map] at this
    exact this.symm
  have hal2 : acc.toList.length = bs.length := by rw [hL, List.length_map, hlen]
  have er0 : PySem.W.EachIs (fun u b => ∃ as, Reads h' u (enc b) as) acc.toList bs := e.mono fun u b hb => by
    obtain ⟨v, r1, hv⟩ := hb
    exact Dp.reads I1 (enc b) v u (moD hv sB) r1
  refine wpAny_bind (wpAny_newList ?_ (by rw [hal2, hlen]; exact h2))
  have hoL : (h'.push (seqObj "list" acc.toList.toArray 0)).get? h'.objs.size = some (seqObj "list" acc.toList.toArray 0) := Heap.get?_push_size _ rfl
  show wpAny _ _ _ _ _ { s with heap := h'.push (seqObj "list" acc.toList.toArray 0), toks := tk }
  have er : PySem.W.EachIs (fun u b => ∃ as, Reads (h'.push (seqObj "list" acc.toList.toArray 0)) u (enc b) as ∧ h'.objs.size ∉ as) acc.toList bs := er0.mono fun u b hb => by
    obtain ⟨as, ra⟩ := hb
    exact ⟨as, PyProof.Rows.Reads.keeps (fun _ _ z => Heap.get?_push_of_some _ z) ra, fun z => absurd (reads_lt ra _ z) (Nat.lt_irrefl _)⟩
  refine wpAny_bind (wpAny_holding (PySem.W.list_sort_data (R := ItR X.K B enc) (s := { s with heap := h'.push (seqObj "list" acc.toList.toArray 0), toks := tk }) hoL e er hal hso (by rw [hlen]; exact h2) (fun b hb => by have := hdp b hb; show X.A.units + 1 + 1 + _ < cLine; omega) fun out ho hout => ?_))
  obtain ⟨ys, r2, hy⟩ := eachis_to hout
  obtain ⟨e', he'⟩ := PyProof.Rows.sortedHeap_at (vs := acc.toList) (out := out.toArray) hoL
  have hly : ys.length ≤ sizeLine := by
    rw [dpa_len hy, List.length_map, List.length_mergeSort, hlen]
    exact h2
  refine wpAny_pure ⟨_, rfl, .ref h'.objs.size, upd H h'.objs.size (.lst ys), I1.laid (t' := tk) (fun b u e => ?_) (Nat.le_refl _)
    (show ObjOk X.prog X.w _ _ _ (.lst ys) from ⟨hly, out, e', r2, he'⟩), rfl, q ys _ hy (I1.hok.fresh (Nat.le_refl _))⟩
  have hb : b < h'.objs.size := Heap.lt_size e
  rw [PyProof.Rows.sortedHeap_old (Nat.ne_of_lt hb) (by rw [size_push']; exact Nat.lt_succ_of_lt hb)]
  exact Heap.get?_push_of_some _ e
/-- sorted(x), x a dict of one's own -/
theorem go_sortedD {G : Gm} {x : Str} {N : List Str} {sc : Scope} {k i : Nat} {p pos p1 : Pos} {bs : List β} {kvs : Kvs} (C : Cok X W N sc k) (hg : glB sc "sorted" = true) (hm : W.mg "sorted" = none) (h : okV N sc i x = true) (hG : G[i]? = some (.ob (dictO W kvs))) (hk : (kvs.map fun p => p.1.data) = bs.map enc) (hal : PySem.W.AllAlike (bs.map enc)) (hso : PySem.W.Sortable (bs.map enc)) (hd : ∀ b ∈ bs, (enc b).depth ≤ 60) :
    GO X G (.Call (.Name "sorted" p) [.Name x p1] [] pos) ((bs.mergeSort (PySem.W.dataLe false enc)).map enc) := by
  have hw := C.wd
  obtain ⟨v1, v2, v3, v4⟩ := okV_of h
  refine ⟨fun bs' B σ H S Q q => inE (pe_callB (cr_sortDX (enc := enc) hw C.calm (by have := C.room.un; omega)) (C.gl _ hg).1 (by subst hw; exact hm) (by decide +kernel) (pa_cons (pe_var (i := i) (by rw [C.N]; exact v1) (C.vis x v2) v3 v4) pa_nil (star_cons rfl)) (by decide) (C.gl _ hg).2 (star_cons rfl) (star_all rfl)) ?_⟩
  obtain ⟨a, e1, q0, q1, q2, xs, q3, q4⟩ := S.obj hG
  refine ⟨_, e1, B, a, kvs, xs, bs, rfl, S.bh, q3, q4, hk, hal, hso, hd, fun ys r hy hr => ?_⟩
  subst hw
  have g : Grow B H B (upd H r (.lst ys)) := .own S.bh hr
  exact q r ys B _ g hr (same_none S.bh hr) upd_same hy
end
end DW

set_option Elab.async false
set_option linter.all false
set_option maxRecDepth 100000
set_option maxHeartbeats 4000000
set_option autoImplicit false
namespace DW
open PySem PySem.Spec PyProof.Rows L2
section
variable {X : Cx} {G : Gm} {e v a : Expr} {d : D} {W : Wd} {N : List Str} {sc : Scope} {k : Nat} {pos p1 p2 : Pos} {E : DE} {x : Str} {sts : List Stmt} {key : NestedKey}
/-- {a: v} -/
theorem pe_disp1 {tk tv : TE} (hw : wdOf X = W) (hu : X.A.units + 64 < cLine) (hk : PE X a tk) (hv : PE X v tv) :
    PE X (.Dict [some a] [v] pos) (fun σ H Q => ∀ p, H p = none → tk σ (upd H p (dE W p [])) fun y H1 => tv σ H1 fun z H2 => ∃ (B : Hp) (b : Addr) (key : NestedKey), y = .ref b ∧ Same B H2 ∧ H2 p = some (dE W p []) ∧ Dp W.K B (.ref b) key.data ∧ key.depth ≤ 8 ∧ ∀ u, RelV z u → Q (.ref p) (upd H2 p (dE W p [(key, b, u)]))) := by
  subst hw
  refine ⟨fun pins s σ H Q I q => ?_⟩
  have hn := I.hok.fresh (Nat.le_refl s.heap.objs.size)
  have hb0 : (s.heap.objs.size == sysModules) = false := beq_eq_false_iff_ne.mpr (Ne.symm (Nat.ne_of_lt I.big))
  have I1 := I.laid (a := s.heap.objs.size) (o := dE (wdOf X) s.heap.objs.size []) (h' := s.heap.push { cls := .type "dict", data := .dict #[] }) (t' := s.toks) (fun _ _ q => Heap.get?_push_of_some _ q) (Nat.le_refl _)
    (dE_new (W := wdOf X) hb0 (Nat.zero_le _) ⟨_, #[], 0, Heap.get?_push_size _ rfl, ⟨rfl, rfl, rfl⟩, rfl, rfl, List.nodup_nil⟩)
  have hsh := zip_pairTrees [some a] [v] X.env pos rfl rfl
  have q' := q _ hn
  rw [arm_eval_Dict, hsh, dictDisplay_pairs (pairTrees [some a] [v] X.env pos) (by simp [pairTrees]) (by simp [pairTrees])]
  refine wpAny_bind (wpAny_standAt (wpAny_bind (wpAny_subDictH (knd := nestedKind X.prog X.w) (by show X.A.units + 8 < cLine; omega) (by simp [pairTrees]) ?_)))
  refine thn ((pps_cons hk hv pps_nil).run pins _ σ _ (fun ps H2 => match ps with
    | [(y, z)] => ∃ (B : Hp) (b : Addr) (key : NestedKey), y = .ref b ∧ Same B H2 ∧ H2 s.heap.objs.size = some (dE (wdOf X) s.heap.objs.size []) ∧ Dp X.K B (.ref b) key.data ∧ key.depth ≤ 8 ∧ ∀ u, RelV z u → Q (.ref s.heap.objs.size) (upd H2 s.heap.objs.size (dE (wdOf X) s.heap.objs.size [(key, b, u)]))
    | _ => False) I1 q') fun ws s2 ⟨ps, H2, I2, rel, q2⟩ => ?_
  rcases ps with _ | ⟨⟨y, z⟩, _ | ⟨_, _⟩⟩
  · exact q2.elim
  · obtain ⟨B, b, key, ey, sB, hp, hb, hd, q2⟩ := q2
    subst ey
    rcases ws with _ | ⟨⟨ka, va⟩, _ | ⟨_, _⟩⟩
    · cases rel
    · have r1 : RelV (V.ref b) ka ∧ RelV z va := by
        cases rel with
        | cons r1 _ => exact r1
      obtain ⟨r3, r4⟩ := r1
      obtain rfl : ka = Value.ref b := r3
      obtain ⟨z1, z2, dd⟩ := dE_of (kvs := []) rfl I2 sB hp .nil
      refine ⟨[(key, b, va)], ⟨rfl, rfl, ⟨dp_nest I2 key _ _ (moD hb sB) rfl, hd⟩, trivial⟩, dd, fun h' tk dd' hs => wpAny_pure ?_⟩
      have e1 : storedAllH ([] : Ent) [(key, b, va)] = [(key, b, va)] := by simp [storedAllH, storedH, atKey]
      rw [e1] at dd'
      obtain ⟨o', es, ep, ho', a2, a3, a4, _, a5⟩ := dd'
      have hl1 : ([(key, b, va)] : Ent).length ≤ sizeLine := by
        rw [sizeLine_eq, List.length_cons, List.length_nil]
        omega
      refine ⟨.ref s.heap.objs.size, _, d_write I2 (by rw [hp]; exact True.intro) hs ⟨o', ho'⟩ (dE_new (W := wdOf X) (xs := [(key, b, va)]) z1 hl1 ⟨o', es, ep, ho', a2, a3, a4, a5⟩), rfl, q2 va r4⟩
    · cases rel with
      | cons _ r => cases r
  · exact q2.elim
/-- x = {a: v} -/
theorem gs_dnew1 (C : Cok X W N sc k) (i : Nat) (h : okL N sc i x = true) (ha : GE X G a key.data) (hv : GE X G v d) (hd : key.depth ≤ 8) (hk : ∃ ks, key = .tup ks) (hn : E.nx (G.set i (.ob (dictO W [(key, d)])))) (hs : swapsWith (.Dict [some a] [v] p2) (some (.Name x p1)) pos.line X.env = pure false) : GS X G (.Assign [.Name x p1] (.Dict [some a] [v] p2) pos) E := by
  obtain ⟨h1, h2⟩ := okL_of h
  obtain ⟨l1, l2⟩ := C.loc x h2
  have hw := C.wd
  refine ⟨fun bs B σ H S De m => inS (ps_set (by rw [C.N]; exact C.nd) (by rw [C.N]; exact h1) l1 (pe_disp1 (W := W) hw (by have := C.room.un; omega) pE pE) hs l2) fun p hp => ?_⟩
  have g : Grow B H B (upd H p (dE W p [])) := .own S.bh hp
  have bp : B p = none := same_none S.bh hp
  refine ha.run bs B σ _ (S.gro g) _ fun y B1 H1 g1 r1 => hv.run bs B1 σ H1 ((S.gro g).gro g1) _ fun z B2 H2 g2 r2 => ?_
  obtain ⟨ks, rfl⟩ := hk
  obtain ⟨b, vs, rfl, hb1, hb2⟩ := dp_tup (ds := NestedKey.datas ks) r1
  subst hw
  have hp1 : H1 p = some (dE (wdOf X) p []) := g1.h _ _ upd_same
  have hp2 : H2 p = some (dE (wdOf X) p []) := g2.h _ _ hp1
  have b1 : B1 p = none := g1.n p (by rw [upd_same]; simp) bp
  have b2 : B2 p = none := g2.n p (by rw [hp1]; simp) b1
  refine ⟨B2, b, .tup ks, rfl, g2.bh, hp2, moD r1 g2.b, hd, fun u ru => ?_⟩
  have gA := g.trans (g1.trans g2)
  have gF : Grow B H B2 (upd H2 p (dE (wdOf X) p [(.tup ks, b, u)])) := ⟨gA.b, fun c o zz => by
    rw [upd_ne (ne_of_none zz hp)]
    exact gA.h c o zz, same_out g2.bh b2, gA.n⟩
  exact m.nx _ B2 _ _ hn (S.setO gF hp rfl ⟨p, rfl, same_none S.gr.h hp, b2, by rw [upd_same]; simp, [(.tup ks, b, u)], upd_same, .cons ⟨rfl, hd, moD r1 g2.b, z, ru, r2⟩ .nil⟩)
theorem gss_dnew1 (C : Cok X W N sc k) (i : Nat) (h : okL N sc i x = true) (ha : GE X G a key.data) (hv : GE X G v d) (hd : key.depth ≤ 8) (hk : ∃ ks, key = .tup ks) (hn : GSs X (G.set i (.ob (dictO W [(key, d)]))) sts E) (hs : swapsWith (.Dict [some a] [v] p2) (some (.Name x p1)) pos.line X.env = pure false) : GSs X G (.Assign [.Name x p1] (.Dict [some a] [v] p2) pos :: sts) E := gs_cons (gs_dnew1 C i h ha hv hd hk hn hs)
theorem gss_dnew (C : Cok X W N sc k) (i : Nat) (h : okL N sc i x = true) (hn : GSs X (G.set i (.ob (dictO W []))) sts E) (hs : swapsWith (.Dict [] [] p2) (some (.Name x p1)) pos.line X.env = pure false) : GSs X G (.Assign [.Name x p1] (.Dict [] [] p2) pos :: sts) E := gs_cons (gs_dnew C i h hn hs)
theorem gss_dput {kvs : Kvs} (C : Cok X W N sc k) (i : Nat) (h : okV N sc i x = true) (hG : G[i]? = some (.ob (dictO W kvs))) (he : GE X G a key.data) (hv : GE X G v d) (hd : key.depth ≤ 8) (hk : ∃ ks, key = .tup ks) (hz : kvs.length < 16777216) (hn : GSs X (G.set i (.ob (dictO W (dput kvs key d)))) sts E)
    (hs : swapsWith v (some (.Subscript (.Name x p1) a p2)) pos.line X.env = pure false) : GSs X G (.Assign [.Subscript (.Name x p1) a p2] v pos :: sts) E := gs_cons (gs_dput C i h hG he hv hd hk hz hn hs)
end
end DW

set_option Elab.async false
set_option linter.all false
set_option maxRecDepth 100000
set_option maxHeartbeats 4000000
set_option autoImplicit false
namespace DW
open PySem PySem.Spec PyProof.Rows L2
/-! ### values in an order -/
class EnO (α : Type) [DecidableEq α] [En α] where
  lt : α → α → Bool
  dlt : ∀ a b : α, PySem.W.dataLt (En.en a) (En.en b) = lt a b
  alk : ∀ a b : α, PySem.W.alike (En.en a) (En.en b) = true
  asy : ∀ a b : α, lt a b = true → lt b a = true → False
  tr : ∀ a b c : α, lt a b = true → lt b c = true → lt a c = true
  tot : ∀ a b : α, lt a b = true ∨ a = b ∨ lt b a = true
  top : (∀ b : α, ∃ x r, En.en b = .tuple (x :: r)) ∨ ∀ b : α, En.en b ≠ .none ∧ ∀ xs, En.en b ≠ .tuple xs
instance : EnO Int where
  lt a b := decide (a < b)
  dlt a b := PySem.W.dataLt_int a b
  alk a b := by simp [En.en, PySem.W.alike]
  asy a b h g := by
    have := of_decide_eq_true h
    have := of_decide_eq_true g
    omega
  tr a b c h g := by
    have := of_decide_eq_true h
    have := of_decide_eq_true g
    exact decide_eq_true (by omega)
  tot a b := by
    rcases Int.lt_trichotomy a b with h | h | h
    · exact .inl (decide_eq_true h)
    · exact .inr (.inl h)
    · exact .inr (.inr (decide_eq_true h))
  top := .inr fun b => ⟨(fun h => nomatch h), (fun xs h => nomatch h)⟩
theorem dlt_tup_ints (xs ys : List Int) : PySem.W.dataLt (.tuple (xs.map .int)) (.tuple (ys.map .int)) = decide (xs < ys) := by
  rw [PySem.W.dataLt_tuple]
  exact PySem.W.dataLt_ints xs ys
def ltP (u v : P3) : Bool := decide (u.x < v.x ∨ (u.x = v.x ∧ (u.y < v.y ∨ (u.y = v.y ∧ u.z < v.z))))
def ltPl (p q : Pl) : Bool := decide (p.n.x < q.n.x ∨ (p.n.x = q.n.x ∧ (p.n.y < q.n.y ∨ (p.n.y = q.n.y ∧ (p.n.z < q.n.z ∨ (p.n.z = q.n.z ∧ p.d < q.d))))))
theorem dlt_p3 (u v : P3) : PySem.W.dataLt u.en v.en = ltP u v := by
  have h := dlt_tup_ints [u.x, u.y, u.z] [v.x, v.y, v.z]
  refine h.trans ?_
  unfold ltP
  rw [Bool.eq_iff_iff, decide_eq_true_eq, decide_eq_true_eq]
  simp only [List.cons_lt_cons_iff]
  have : ¬ ([] : List Int) < [] := by simp
  simp only [this, and_false, or_false]
theorem dlt_pl (u v : Pl) : PySem.W.dataLt u.en v.en = ltPl u v := by
  have h := dlt_tup_ints [u.n.x, u.n.y, u.n.z, u.d] [v.n.x, v.n.y, v.n.z, v.d]
  refine h.trans ?_
  unfold ltPl
  rw [Bool.eq_iff_iff, decide_eq_true_eq, decide_eq_true_eq]
  simp only [List.cons_lt_cons_iff]
  have : ¬ ([] : List Int) < [] := by simp
  simp only [this, and_false, or_false]
instance : EnO P3 where
  lt := ltP
  dlt := dlt_p3
  alk := alike_p3
  asy a b h g := by
    have := of_decide_eq_true h
    have := of_decide_eq_true g
    omega
  tr a b c h g := by
    have := of_decide_eq_true h
    have := of_decide_eq_true g
    exact decide_eq_true (by omega)
  tot a b := by
    by_cases h : a = b
    · exact .inr (.inl h)
    · have : ¬ (a.x = b.x ∧ a.y = b.y ∧ a.z = b.z) := fun ⟨h1, h2, h3⟩ => h (by
        obtain ⟨x, y, z⟩ := a
        obtain ⟨x', y', z'⟩ := b
        simp only at h1 h2 h3
        rw [h1, h2, h3])
      by_cases g : ltP a b = true
      · exact .inl g
      · have g := of_decide_eq_false (Bool.not_eq_true _ ▸ g)
        exact .inr (.inr (decide_eq_true (by omega)))
  top := .inl fun b => ⟨_, _, rfl⟩
instance : EnO Pl where
  lt := ltPl
  dlt := dlt_pl
  alk u v := PySem.W.alike_ints [u.n.x, u.n.y, u.n.z, u.d] [v.n.x, v.n.y, v.n.z, v.d]
  asy a b h g := by
    have := of_decide_eq_true h
    have := of_decide_eq_true g
    omega
  tr a b c h g := by
    have := of_decide_eq_true h
    have := of_decide_eq_true g
    exact decide_eq_true (by omega)
  tot a b := by
    by_cases h : a = b
    · exact .inr (.inl h)
    · have : ¬ (a.n.x = b.n.x ∧ a.n.y = b.n.y ∧ a.n.z = b.n.z ∧ a.d = b.d) := fun ⟨h1, h2, h3, h4⟩ => h (by
        obtain ⟨⟨x, y, z⟩, d⟩ := a
        obtain ⟨⟨x', y', z'⟩, d'⟩ := b
        simp only at h1 h2 h3 h4
        rw [h1, h2, h3, h4])
      by_cases g : ltPl a b = true
      · exact .inl g
      · have g := of_decide_eq_false (Bool.not_eq_true _ ▸ g)
        exact .inr (.inr (decide_eq_true (by omega)))
  top := .inl fun b => ⟨_, _, rfl⟩
section
variable {α β : Type} [DecidableEq α] [En α] [EnO α] [DecidableEq β] [En β] [EnO β]
instance : EnO (α × β) where
  lt p q := if p.1 = q.1 then EnO.lt p.2 q.2 else EnO.lt p.1 q.1
  dlt p q := by
    show PySem.W.dataLt (.tuple [En.en p.1, En.en p.2]) (.tuple [En.en q.1, En.en q.2]) = _
    rw [PySem.W.dataLt_pair (EnO.alk _ _) (EnO.alk _ _), En.eqv, En.eqv, EnO.dlt, EnO.dlt]
    by_cases h : p.1 = q.1
    · rw [decide_eq_true h, if_pos rfl, if_pos h]
      by_cases h2 : p.2 = q.2
      · rw [decide_eq_true h2, if_pos rfl, h2]
        cases e : EnO.lt q.2 q.2 with
        | false => rfl
        | true => exact (EnO.asy _ _ e e).elim
      · rw [decide_eq_false h2, if_neg (by decide)]
    · rw [decide_eq_false h, if_neg (by decide), if_neg h]
  alk p q := by
    show PySem.W.alike (.tuple [En.en p.1, En.en p.2]) (.tuple [En.en q.1, En.en q.2]) = true
    simp only [PySem.W.alike, PySem.W.alikeAll, EnO.alk, Bool.and_self]
  asy p q h g := by
    by_cases e : p.1 = q.1
    · rw [if_pos e] at h
      rw [if_pos e.symm] at g
      exact EnO.asy _ _ h g
    · rw [if_neg e] at h
      rw [if_neg (fun z => e z.symm)] at g
      exact EnO.asy _ _ h g
  tr p q r h g := by
    by_cases e : p.1 = q.1
    · rw [if_pos e] at h
      by_cases e2 : q.1 = r.1
      · rw [if_pos e2] at g
        rw [if_pos (e.trans e2)]
        exact EnO.tr _ _ _ h g
      · rw [if_neg e2] at g
        rw [if_neg (fun z => e2 (e.symm.trans z)), e]
        exact g
    · rw [if_neg e] at h
      by_cases e2 : q.1 = r.1
      · rw [if_neg (fun z => e (z.trans e2.symm)), ← e2]
        exact h
      · rw [if_neg e2] at g
        have t := EnO.tr _ _ _ h g
        by_cases e3 : p.1 = r.1
        · rw [e3] at h
          exact (EnO.asy _ _ h g).elim
        · rw [if_neg e3]
          exact t
  tot p q := by
    by_cases e : p.1 = q.1
    · rcases EnO.tot p.2 q.2 with h | h | h
      · exact .inl (by rw [if_pos e]; exact h)
      · exact .inr (.inl (Prod.ext e h))
      · exact .inr (.inr (by rw [if_pos e.symm]; exact h))
    · rcases EnO.tot p.1 q.1 with h | h | h
      · exact .inl (by rw [if_neg e]; exact h)
      · exact (e h).elim
      · exact .inr (.inr (by rw [if_neg (fun z => e z.symm)]; exact h))
  top := .inl fun b => ⟨_, _, rfl⟩
def leE (a b : α) : Bool := !EnO.lt b a
def sortE (us : List α) : List α := us.mergeSort leE
theorem leE_data : (PySem.W.dataLe false (En.en (α := α))) = leE := by
  funext a b
  show (!PySem.W.dataLt (En.en b) (En.en a)) = _
  rw [EnO.dlt]
  rfl
theorem leE_trans (a b c : α) (h : leE a b = true) (g : leE b c = true) : leE a c = true := by
  unfold leE at *
  rw [Bool.not_eq_true'] at *
  cases e : EnO.lt c a with
  | false => rfl
  | true =>
    rcases EnO.tot b c with x | x | x
    · have := EnO.tr _ _ _ x e
      rw [this] at h
      cases h
    · subst x
      rw [e] at h
      cases h
    · rw [x] at g
      cases g
theorem leE_total (a b : α) : (leE a b || leE b a) = true := by
  unfold leE
  cases e : EnO.lt b a with
  | false => rfl
  | true =>
    cases e2 : EnO.lt a b with
    | false => rfl
    | true => exact (EnO.asy _ _ e e2).elim
theorem sortE_perm (us : List α) : (sortE us).Perm us := List.mergeSort_perm us leE
theorem sortE_sorted (us : List α) : (sortE us).Pairwise fun a b => leE a b = true := List.pairwise_mergeSort leE_trans leE_total us
theorem sortE_lt {us : List α} (h : us.Nodup) : (sortE us).Pairwise fun a b => EnO.lt a b = true := by
  have nd : (sortE us).Nodup := (sortE_perm us).nodup_iff.mpr h
  refine List.Pairwise.imp₂ (fun a b h1 h2 => ?_) (sortE_sorted us) (List.nodup_iff_pairwise_ne.mp nd)
  rcases EnO.tot a b with x | x | x
  · exact x
  · exact (h2 x).elim
  · unfold leE at h1
    rw [x] at h1
    cases h1
theorem sortE_mem {us : List α} {a : α} : a ∈ sortE us ↔ a ∈ us := (sortE_perm us).mem_iff
theorem sortE_len (us : List α) : (sortE us).length = us.length := (sortE_perm us).length_eq
theorem go_sortE {X : Cx} {G : Gm} {e : Expr} {W : Wd} {N : List Str} {sc : Scope} {k : Nat} {p pos : Pos} {us : List α} (C : Cok X W N sc k) (hg : glB sc "sorted" = true) (hm : W.mg "sorted" = none) (ha : GL X G e (us.map En.en)) (hL : us.length ≤ 16777216) (hd : En.dp α ≤ 60) (he : nst e = true) :
    GO X G (.Call (.Name "sorted" p) [e] [] pos) ((sortE us).map En.en) := by
  have h := go_sorted (enc := En.en (α := α)) (p := p) (pos := pos) C hg hm ha (.of EnO.alk) (by
    rcases EnO.top (α := α) with t | t
    · exact .tuples t
    · exact .others t) hL (fun b _ => Nat.le_trans (En.dle b) hd) he
  rw [leE_data] at h
  exact h
/-! ### the least and the greatest of a list -/
def minE (x : α) (xs : List α) : α := xs.foldl (fun a y => if EnO.lt y a then y else a) x
def maxE (x : α) (xs : List α) : α := xs.foldl (fun a y => if EnO.lt a y then y else a) x
theorem minD_en (x : α) (xs : List α) : PySem.W.minD (En.en x) (xs.map En.en) = En.en (minE x xs) := by
  unfold PySem.W.minD minE
  induction xs generalizing x with
  | nil => rfl
  | cons y xs ih =>
    rw [List.map_cons, List.foldl_cons, List.foldl_cons, ← ih, EnO.dlt]
    congr 1
    split <;> rfl
theorem maxD_en (x : α) (xs : List α) : PySem.W.maxD (En.en x) (xs.map En.en) = En.en (maxE x xs) := by
  unfold PySem.W.maxD maxE
  induction xs generalizing x with
  | nil => rfl
  | cons y xs ih =>
    rw [List.map_cons, List.foldl_cons, List.foldl_cons, ← ih, EnO.dlt]
    congr 1
    split <;> rfl
end
def rMnD (K : PySem.W.Frag) (f : D → List D → D) : List V → Hp → VK → Prop := fun vs H Q => ∃ (B : Hp) (a : Addr) (us : List V) (x : D) (xs : List D), vs = [V.ref a] ∧ Same B H ∧ SqL K H a us ∧ DpAll K B us (x :: xs) ∧ PySem.W.AlikeAll (x :: xs) ∧ (∀ d ∈ x :: xs, d.canLay0 = true) ∧ PyData.depthAll (x :: xs) ≤ 60 ∧ ∀ v, Dp K B v (f x xs) → Q v H
theorem minmax_at {X : Cx} {pins : List (Addr × Obj)} {σ : L2.St} {H B : Hp} {s : Shared} {us : List V} {its : List Value} {ds : List D} {v : Value} {h' : Heap} {tk : Nat} {i : Nat} {d : D} {bs : List Addr} (I : Inv X pins σ H s) (sB : Same B H) (h : DpAll X.K B us ds) (r : Vals us its) (hk : ∀ b o, s.heap.get? b = some o → h'.get? b = some o) (hi : its[i]? = some v) (hr : Reads h' v d bs) (hc : ∀ d ∈ ds, d.canLay0 = true) :
    ∃ u, RelV u v ∧ Dp X.K B u d ∧ Inv X pins σ H { s with heap := h', toks := tk } := by
  have I1 : Inv X pins σ H { s with heap := h', toks := tk } := I.kept hk
  have hl := r.length
  have hi2 : i < us.length := by
    have := (List.getElem?_eq_some_iff.mp hi).1
    omega
  obtain ⟨e, h1, h2⟩ := dpa_getV h (List.getElem?_eq_getElem hi2)
  have rv : RelV us[i] v := by
    have : ∀ {us : List V} {its : List Value} {i : Nat} {u : V} {v : Value}, Vals us its → us[i]? = some u → its[i]? = some v → RelV u v := by
      intro us its i u v r
      induction r generalizing i with
      | nil => intro a _; simp at a
      | cons r1 t ih =>
        intro a b
        cases i with
        | zero =>
          cases a
          cases b
          exact r1
        | succ i => exact ih (by simpa using a) (by simpa using b)
    exact this r (List.getElem?_eq_getElem hi2) hi
  obtain ⟨as, q⟩ := Dp.reads I1 e us[i] v (moD h2 sB) rv
  have : e = d := (PySem.Reads.unique q d bs hr).1
  exact ⟨us[i], rv, this ▸ h2, I1⟩
theorem cr_minD {X : Cx} (hc : X.calm = true) (hu : X.A.units + 64 < cLine) : CallR X (.builtin "min") (rMnD X.K PySem.W.minD) := by
  intro pins s σ H vs us' Q I r h
  obtain ⟨B, a, us, x, xs, rfl, sB, hs, hd, hal, hcl, hdp, q⟩ := h
  obtain ⟨its, rv, hl, _⟩ := I.list hs
  rw [Vals.ref1 r]
  obtain ⟨as, hr⟩ := Dp.readsAll I _ _ _ (moA hd sB) rv
  refine PySem.W.min_list_data (I.ok.hd hc) hl.isList (by simpa using hr) hal (by show X.A.units + 1 + _ < cLine; omega) fun i v h' tk bs hi hr' hk => ?_
  obtain ⟨u, r1, r2, I1⟩ := minmax_at (tk := tk) I sB hd rv hk (by simpa using hi) hr' hcl
  exact ⟨u, H, I1, r1, q u r2⟩
theorem cr_maxD {X : Cx} (hc : X.calm = true) (hu : X.A.units + 64 < cLine) : CallR X (.builtin "max") (rMnD X.K PySem.W.maxD) := by
  intro pins s σ H vs us' Q I r h
  obtain ⟨B, a, us, x, xs, rfl, sB, hs, hd, hal, hcl, hdp, q⟩ := h
  obtain ⟨its, rv, hl, _⟩ := I.list hs
  rw [Vals.ref1 r]
  obtain ⟨as, hr⟩ := Dp.readsAll I _ _ _ (moA hd sB) rv
  refine PySem.W.max_list_data (I.ok.hd hc) hl.isList (by simpa using hr) hal (by show X.A.units + 1 + _ < cLine; omega) fun i v h' tk bs hi hr' hk => ?_
  obtain ⟨u, r1, r2, I1⟩ := minmax_at (tk := tk) I sB hd rv hk (by simpa using hi) hr' hcl
  exact ⟨u, H, I1, r1, q u r2⟩
section
variable {α : Type} [DecidableEq α] [En α] [EnO α] {X : Cx} {G : Gm} {e : Expr} {W : Wd} {N : List Str} {sc : Scope} {k : Nat} {p pos : Pos}
theorem ge_minE {x : α} {xs : List α} (C : Cok X W N sc k) (hg : glB sc "min" = true) (hm : W.mg "min" = none) (ha : GL X G e ((x :: xs).map En.en)) (hd : En.dp α ≤ 60) (he : nst e = true) : GE X G (.Call (.Name "min" p) [e] [] pos) (En.en (minE x xs)) := by
  have hw := C.wd
  subst hw
  refine ⟨fun bs B σ H S Q q => inE (pe_callB (cr_minD C.calm (by have := C.room.un; omega)) (C.gl _ hg).1 hm (by decide +kernel) (pa_cons pE pa_nil (star_cons he)) (by decide) (C.gl _ hg).2 (star_cons he) (star_all rfl)) (ha.run bs B σ H S _ fun a vs B1 H1 g1 r1 r2 => ?_)⟩
  refine ⟨B1, a, vs, En.en x, xs.map En.en, rfl, g1.bh, r1, r2, ⟨fun d hd2 d' hd3 => ?_, fun d hd2 => ?_⟩, fun d hd2 => ?_, ?_, fun v hv => ?_⟩
  · obtain ⟨b, _, rfl⟩ := List.mem_map.mp (show d ∈ (x :: xs).map En.en from hd2)
    obtain ⟨b', _, rfl⟩ := List.mem_map.mp (show d' ∈ (x :: xs).map En.en from hd3)
    exact EnO.alk b b'
  · obtain ⟨b, _, rfl⟩ := List.mem_map.mp (show d ∈ (x :: xs).map En.en from hd2)
    rcases EnO.top (α := α) with t | t
    · obtain ⟨y, r, e⟩ := t b
      rw [e]
      intro z
      cases z
    · exact (t b).1
  · obtain ⟨b, _, rfl⟩ := List.mem_map.mp (show d ∈ (x :: xs).map En.en from hd2)
    exact En.lay b
  · exact Nat.le_trans (depth_map (x :: xs)) hd
  · rw [minD_en] at hv
    exact q v B1 H1 g1 hv
theorem ge_maxE {x : α} {xs : List α} (C : Cok X W N sc k) (hg : glB sc "max" = true) (hm : W.mg "max" = none) (ha : GL X G e ((x :: xs).map En.en)) (hd : En.dp α ≤ 60) (he : nst e = true) : GE X G (.Call (.Name "max" p) [e] [] pos) (En.en (maxE x xs)) := by
  have hw := C.wd
  subst hw
  refine ⟨fun bs B σ H S Q q => inE (pe_callB (cr_maxD C.calm (by have := C.room.un; omega)) (C.gl _ hg).1 hm (by decide +kernel) (pa_cons pE pa_nil (star_cons he)) (by decide) (C.gl _ hg).2 (star_cons he) (star_all rfl)) (ha.run bs B σ H S _ fun a vs B1 H1 g1 r1 r2 => ?_)⟩
  refine ⟨B1, a, vs, En.en x, xs.map En.en, rfl, g1.bh, r1, r2, ⟨fun d hd2 d' hd3 => ?_, fun d hd2 => ?_⟩, fun d hd2 => ?_, ?_, fun v hv => ?_⟩
  · obtain ⟨b, _, rfl⟩ := List.mem_map.mp (show d ∈ (x :: xs).map En.en from hd2)
    obtain ⟨b', _, rfl⟩ := List.mem_map.mp (show d' ∈ (x :: xs).map En.en from hd3)
    exact EnO.alk b b'
  · obtain ⟨b, _, rfl⟩ := List.mem_map.mp (show d ∈ (x :: xs).map En.en from hd2)
    rcases EnO.top (α := α) with t | t
    · obtain ⟨y, r, e⟩ := t b
      rw [e]
      intro z
      cases z
    · exact (t b).1
  · obtain ⟨b, _, rfl⟩ := List.mem_map.mp (show d ∈ (x :: xs).map En.en from hd2)
    exact En.lay b
  · exact Nat.le_trans (depth_map (x :: xs)) hd
  · rw [maxD_en] at hv
    exact q v B1 H1 g1 hv
end
end DW

set_option Elab.async false
set_option linter.all false
set_option maxRecDepth 100000
set_option maxHeartbeats 4000000
set_option autoImplicit false
namespace DW
open PySem PySem.Spec PyProof.Rows L2
/-! ### sets of tuples of whole numbers, made of lists of any length -/
abbrev TK := Addr × List Int
/-- what a set has of the first i items -/
structure Coll (ks : List TK) (i : Nat) (L : List TK) : Prop where
  sub : ∀ p ∈ L, p ∈ ks
  all : ∀ p ∈ ks.take i, p.2 ∈ L.map (·.2)
theorem Coll.stay {ks L : List TK} {i : Nat} {x : TK} (g : Coll ks i L) (h : ks[i]? = some x) (hm : x.2 ∈ L.map (·.2)) : Coll ks (i + 1) L := by
  refine ⟨g.sub, fun p hp => ?_⟩
  rw [List.take_add_one, h] at hp
  rcases List.mem_append.mp hp with q | q
  · exact g.all p q
  · cases List.mem_singleton.mp q
    exact hm
theorem Coll.grow {ks L L' : List TK} {i : Nat} {x : TK} (g : Coll ks i L) (h : ks[i]? = some x) (pm : L'.Perm (x :: L)) : Coll ks (i + 1) L' := by
  refine ⟨fun p hp => ?_, fun p hp => ?_⟩
  · rcases List.mem_cons.mp (pm.mem_iff.mp hp) with q | q
    · exact q ▸ List.mem_of_getElem? h
    · exact g.sub p q
  · refine (pm.map (·.2)).mem_iff.mpr ?_
    rw [List.take_add_one, h] at hp
    rcases List.mem_append.mp hp with q | q
    · exact List.mem_cons_of_mem _ (g.all p q)
    · cases List.mem_singleton.mp q
      exact List.mem_cons_self
def Old (h0 : Heap) (s : Shared) : Prop := ∀ b o, h0.get? b = some o → s.heap.get? b = some o
section
variable {P : Program} {w : World} {A : Around} {E : Value → Shared → Prop} {s : Shared}
theorem few_of {h : Heap} {a : Addr} {ks L : List TK} {es : Array (Int × Value)} {ep : Nat} {t : SetTable} {i : Nat} {dom : List (List Int)} (R : SetTR P w h a L es ep t) (g : Coll ks i L) (hd : ∀ p ∈ ks, p.2 ∈ dom) : L.length ≤ dom.length := by
  have := List.Nodup.length_le_of_subset R.nd (l₂ := dom) fun k hk => by
    obtain ⟨p, hp, rfl⟩ := List.mem_map.mp hk
    exact hd p (g.sub p hp)
  rwa [List.length_map] at this
theorem set_fill {I S : Addr} {fp wr : List Addr} {G : Array GenState → Array GenState → Prop} {n : Nat} {Pv : Nat → Value → Prop} {St : Nat → Shared → Prop} {R : Result → Shared → Prop} (W : WalksS P w A.in1 I fp wr G n Pv St) (hSf : S ∉ fp)
    (ks : List TK) (dom : List (List Int)) (hn : n = ks.length) (hdom : ∀ p ∈ ks, p.2 ∈ dom) (h62 : dom.length ≤ 62) (hval : ∀ i v, Pv i v → ∃ p, ks[i]? = some p ∧ v = .ref p.1)
    (h0 : Heap) (hks : ∀ p ∈ ks, IsT P w h0 p.2 p.1) (hS0 : h0.get? S = none) (hw0 : ∀ b ∈ wr, h0.get? b = none) (hroom : A.in1.units < cLine) : ∀ (m i : Nat) (s1 : Shared), i + m = n → St i s1 → Old h0 s1 → (∃ L es ep t, SetTR P w s1.heap S L es ep t ∧ Coll ks i L) →
      (∀ s2 L es ep t, Moved (S :: wr) G s1 s2 → SetTR P w s2.heap S L es ep t → Coll ks n L → Old h0 s2 → R (.ok (.ret .none)) s2) → codeAny (model P w) A (.builtin "set.update.loop" ⟨[.ref S, .ref I], []⟩) R s1 := by
  have nw : S ∉ wr := fun z => hSf (W.sub _ z)
  have up : ∀ b ∈ wr, b ∈ S :: wr := fun b z => List.mem_cons_of_mem _ z
  have old2 : ∀ {x y : Shared}, Moved wr G x y → Old h0 x → Old h0 y := fun mv ox b o e => mv.heap b o (fun z => by
    rw [hw0 b z] at e
    cases e) (ox b o e)
  intro m
  induction m with
  | zero =>
    intro i s1 him st ox ⟨L, es, ep, t, hL, g⟩ done
    have hin : n = i := him.symm
    refine codeAny_builtin F.entry_set_update_loop ?_
    rw [Around.under_plainId F.plain_set_update_loop _]
    show wpAny _ A.in1 (do let o ← pyNext (.ref I); _) _ _ s1
    refine wpAny_bind (W.done s1 _ _ (hin ▸ st) fun s2 mv => ?_)
    have oy := old2 mv ox
    exact wpAny_pure (done s2 L es ep t (mv.mono up) (hL.keep (fun o e => mv.heap S o nw e) fun p hp => isT_keep (hks p (g.sub p hp)) oy) (hin ▸ g) oy)
  | succ m ih =>
    intro i s1 him st ox ⟨L, es, ep, t, hL, g⟩ done
    have lt : i < n := by omega
    refine codeAny_builtin F.entry_set_update_loop ?_
    rw [Around.under_plainId F.plain_set_update_loop _]
    show wpAny _ A.in1 (do let o ← pyNext (.ref I); _) _ _ s1
    refine wpAny_bind (W.item i s1 _ _ lt st fun v s2 pv st2 mv => ?_)
    obtain ⟨p, hp, rfl⟩ := hval i v pv
    have oy := old2 mv ox
    have hL2 : SetTR P w s2.heap S L es ep t := hL.keep (fun o e => mv.heap S o nw e) fun q hq => isT_keep (hks q (g.sub q hq)) oy
    have key : IsT P w s2.heap p.2 p.1 := isT_keep (hks p (List.mem_of_getElem? hp)) oy
    show wpAny _ A.in1 (do let b ← holding [Value.ref p.1] (setAdd S (.ref p.1)); _) _ _ s2
    refine wpAny_bind (wpAny_holding ?_)
    unfold setAdd
    refine wpAny_holding ?_
    refine wpAny_bind (wpAny_pyHash_tuple hroom key ?_)
    have few := few_of hL2 g hdom
    refine add_at (s := { s2 with toks := s2.toks + (p.2.length + 1) }) hL2 key hroom (by omega) fun b h3 L3 es3 ep3 t3 sb hL3 c1 c2 => ?_
    have g3 : Coll ks (i + 1) L3 := by
      by_cases c : p.2 ∈ L.map (·.2)
      · rw [c1 c]
        exact g.stay hp c
      · exact g.grow hp (c2 c)
    have oz : ∀ b o, h0.get? b = some o → h3.get? b = some o := fun b o e => (sb.2 b fun z => by
      rw [z, hS0] at e
      cases e).trans (oy b o e)
    refine wpAny_pure ⟨plainId_quiet F.plain_set_update_loop _, ih (i + 1) _ (by omega) (W.frame _ s2 _ _ st2 (Nat.le_add_right _ _) fun b hb o e => ?_) oz ⟨L3, es3, ep3, t3, hL3, g3⟩ fun s4 L4 es4 ep4 t4 mv4 hL4 g4 o4 => ?_⟩
    · rw [sb.2 b fun z => hSf (z ▸ hb)]
      exact e
    · refine done s4 L4 es4 ep4 t4 (Moved.trans W.gtrans ((mv.mono up).then_heap (Nat.le_add_right _ _) fun b o hb e => ?_) mv4) hL4 g4 o4
      rw [sb.2 b fun z => hb (z ▸ List.mem_cons_self)]
      exact e
abbrev emptyS (w : World) : Obj := { cls := .type "set", dict := none, data := .set #[] 0 (.fresh 0 0 (!w.params.followText "set-order")) }
theorem call_setX {l : Addr} {items : Array Value} (ks : List TK) (dom : List (List Int)) {Q : Value → Shared → Prop} (hh : A.handled = none) (hl : s.heap.IsList l items) (hit : items.toList = ks.map fun p => Value.ref p.1) (hks : ∀ p ∈ ks, IsT P w s.heap p.2 p.1)
    (hdom : ∀ p ∈ ks, p.2 ∈ dom) (h62 : dom.length ≤ 62) (hroom : A.units + 3 < cLine) (hQ : ∀ (g1 : Heap) (n1 : Nat) L es ep t, SetTR P w g1 s.heap.objs.size L es ep t → Coll ks ks.length L → (∀ b o, s.heap.get? b = some o → g1.get? b = some o) → Q (.ref s.heap.objs.size) { s with heap := g1, toks := n1 }) :
    wpAny (model P w) A (call (.type "set") [.ref l]) Q E s := by
  have isz : items.size = ks.length := by
    have e := congrArg List.length hit
    rwa [Array.length_toList, List.length_map] at e
  obtain ⟨c, tl, hmro⟩ := F.called_set.mro
  have made := F.called_set.made
  have sub := F.called_set.sub
  refine wpAny_call (codeAny_of_tree ?_)
  show wpAny _ _ (callAny (.type "set") _) _ _ _
  refine wpAny_pure ⟨Code.quiet_builtin _ (by decide +kernel), codeAny_builtin F.entry_type_call ?_⟩
  rw [Around.under_plain (weight_type_call_type "set" [.ref l] []) rfl]
  have a1 := F.called_set.notType
  have a2 := F.called_set.canCreate
  have a3 := F.typeCall_set_1 (.ref l)
  repeat (any_goals (first | assumption | wp_step))
  refine codeAny_mono (code_set_led1 (.ref l) (E := E) (Q₁ := fun obj z => obj = .ref s.heap.objs.size ∧ z = { s with heap := s.heap.push (emptyS w) }) ⟨rfl, rfl⟩) fun r z hr => ?_
  match r, hr with
  | .error e, hr => exact hr
  | .ok (.ret obj), hr =>
    obtain ⟨rfl, rfl⟩ := hr
    have gS : (s.heap.push (emptyS w)).get? s.heap.objs.size = some (emptyS w) := Heap.get?_push_size _ rfl
    have tS : Shared.TypeIs { s with heap := s.heap.push (emptyS w) } (.ref s.heap.objs.size) "set" := ⟨_, gS, rfl⟩
    have a4 := F.called_set.init.lookup
    have a5 := F.called_set.init.bind (.ref s.heap.objs.size)
    repeat (any_goals (first | assumption | wp_step))
    refine codeAny_mono (codeAny_call_builtin (R := wants (fun r z => r = .none ∧ ∃ g1 n1 L es ep t, z = { s with heap := g1, toks := n1 } ∧ SetTR P w g1 s.heap.objs.size L es ep t ∧ Coll ks ks.length L ∧ (∀ b o, s.heap.get? b = some o → g1.get? b = some o)) E) F.called_set.init.plain F.entry_set_init (check_set_init_1 tS ?_)) fun r2 z2 hr2 => ?_
    · obtain ⟨ol, hol, hcl, nl, hdl⟩ := hl
      obtain ⟨c1, d1, dat, sl1⟩ := ol
      simp only at hcl hdl
      subst hcl hdl
      have gl : (s.heap.push (emptyS w)).get? l = some { cls := .type "list", dict := d1, data := .seq items nl, slots := sl1 } := Heap.get?_push_of_some _ hol
      have b1 := F.sub_list_set
      have b2 := F.sub_list_frozenset
      have b3 : (Value.type "list" == Value.type "dict") = false := by decide
      have gl2 : (s.heap.push (emptyS w)).IsList l items := ⟨_, gl, rfl, nl, rfl⟩
      unfold Builtin.«set.__init__» noKeywords Builtin.Frozenset.updateFrom
      generalize hPI : pyIter = PI
      wp_walk
      subst hPI
      refine wpAny_pyIter_list gl2 ?_
      refine wpAny_bind (wpAny_runValue ?_)
      have lS : l < s.heap.objs.size := Heap.lt_size hol
      have h3 : A.in1.in1.in1.handled = none := by simp [hh]
      have z1 : (s.heap.push (emptyS w)).objs.size = s.heap.objs.size + 1 := Heap.size_push ..
      have n1 : l ≠ (s.heap.push (emptyS w)).objs.size := Nat.ne_of_lt (Nat.lt_of_lt_of_le lS (z1 ▸ Nat.le_succ _))
      have n2 : s.heap.objs.size ∉ [(s.heap.push (emptyS w)).objs.size, l] := by
        simp only [List.mem_cons, List.not_mem_nil, or_false, not_or]
        exact ⟨Nat.ne_of_lt (z1 ▸ Nat.lt_succ_self _), Nat.ne_of_gt lS⟩
      have vals : ∀ (i : Nat) (v : Value), items[i]? = some v → ∃ p, ks[i]? = some p ∧ v = .ref p.1 := fun i v hv => by
        rw [← Array.getElem?_toList, hit, List.getElem?_map] at hv
        obtain ⟨p, hp, e⟩ := Option.map_eq_some_iff.mp hv
        exact ⟨p, hp, e.symm⟩
      have gone : ∀ b, s.heap.objs.size ≤ b → s.heap.get? b = none := fun b hb => by
        rcases e : s.heap.get? b with _ | o
        · rfl
        · exact absurd (Nat.lt_of_lt_of_le (Heap.lt_size e) hb) (Nat.lt_irrefl _)
      refine set_fill ((Walks.list h3 _ l n1 items).toS) n2 ks dom isz hdom h62 vals s.heap hks (gone _ (Nat.le_refl _)) (fun b hb => gone b ?_) hroom items.size 0 _ (Nat.zero_add _) ⟨⟨_, Heap.get?_push_size _ rfl, rfl, rfl⟩, gl2.push _⟩ (fun b o e => Heap.get?_push_of_some _ (Heap.get?_push_of_some _ e)) ?_ ?_
      · cases List.mem_singleton.mp hb
        exact z1 ▸ Nat.le_succ _
      · exact ⟨[], #[], 0, _, setTR_fresh (Heap.get?_push_of_some _ gS), fun p hp => (by cases hp), fun p hp => (by simp at hp)⟩
      · rintro ⟨g2, gs2, dr2, tk2, os2⟩ L es ep t mv hL g old
        obtain rfl : gs2 = s.gens := mv.gens
        obtain rfl : dr2 = s.drawn := mv.drawn
        obtain rfl : os2 = s.os := mv.os
        show wpAny _ _ _ _ _ _
        refine wpAny_pure ?_
        show wpAny _ _ (ret Value.none) _ _ _
        exact wpAny_pure ⟨rfl, g2, tk2, L, es, ep, t, rfl, hL, isz ▸ g, old⟩
    · match r2, hr2 with
      | .error e, hr2 => exact hr2
      | .ok (.ret r), hr2 =>
        obtain ⟨rfl, g1, n1, L, es, ep, t, rfl, hL, g, old⟩ := hr2
        repeat (any_goals (first | assumption | wp_step))
        exact hQ _ _ _ _ _ _ hL g old
end
end DW

set_option Elab.async false
set_option linter.all false
set_option maxRecDepth 100000
set_option maxHeartbeats 4000000
set_option autoImplicit false
namespace DW
open PySem PySem.Spec PyProof.Rows L2
def rSetX (K : PySem.W.Frag) (P : Program) (w : World) : List V → Hp → VK → Prop := fun xs H Q => ∃ (B : Hp) (l : Addr) (us : List V) (ns dom : List (List Int)), xs = [V.ref l] ∧ Same B H ∧ SqL K H l us ∧ DpAll K B us (ns.map fun k => PyData.tuple (k.map .int)) ∧ (∀ k ∈ ns, k ∈ dom) ∧ dom.length ≤ 62 ∧
  ∀ a L, H a = none → (L.map (·.2)).Nodup → (∀ p ∈ L, p.2 ∈ ns ∧ Dp K B (.ref p.1) (.tuple (p.2.map .int))) → (∀ k ∈ ns, k ∈ L.map (·.2)) → Q (.ref a) (upd H a (SetTO P w a L))
theorem tups_of {K : PySem.W.Frag} {B : Hp} : ∀ {us : List V} {ns : List (List Int)}, DpAll K B us (ns.map fun k => PyData.tuple (k.map .int)) → ∃ ks : List TK, us = ks.map (fun p => V.ref p.1) ∧ ks.map (·.2) = ns ∧ ∀ p ∈ ks, SqT K B p.1 (p.2.map V.int) ∧ Dp K B (.ref p.1) (.tuple (p.2.map .int))
  | _, [], h => by
    cases h
    exact ⟨[], rfl, rfl, fun p hp => by cases hp⟩
  | _, n :: ns, h => by
    have h' : DpAll K B _ (PyData.tuple (n.map .int) :: ns.map fun k => PyData.tuple (k.map .int)) := h
    cases h' with
    | cons h1 h2 =>
      obtain ⟨ks, rfl, e, hk⟩ := tups_of h2
      obtain ⟨a, xs, rfl, q1, q2⟩ := dp_tup h1
      refine ⟨(a, n) :: ks, rfl, by rw [List.map_cons, e], fun p hp => ?_⟩
      rcases List.mem_cons.mp hp with e | e
      · subst e
        rw [dpa_ints q2] at q1
        exact ⟨q1, h1⟩
      · exact hk p e
theorem cr_setX {X : Cx} (hc : X.calm = true) (hu : X.A.units + 64 < cLine) : CallR X (.type "set") (rSetX X.K X.prog X.w) := by
  intro pins s σ H xs us' Q I r h
  obtain ⟨B, l, us, ns, dom, rfl, sB, hl, hd, hdom, h62, q⟩ := h
  rw [Vals.ref1 r]
  obtain ⟨its, rv, pl, hz⟩ := I.list hl
  obtain ⟨ks, rfl, rfl, hk⟩ := tups_of hd
  have hn : H s.heap.objs.size = none := I.hok.fresh (Nat.le_refl _)
  refine call_setX (P := X.prog) (w := X.w) ks dom (I.ok.hd hc) pl.isList (by simpa using refs_of_vals rv) (fun p hp => I.isT (same_sqT sB (hk p hp).1)) (fun p hp => hdom _ (List.mem_map.mpr ⟨p, hp, rfl⟩)) h62 (by omega) fun g1 n1 L es ep t R g old => ?_
  refine ⟨.ref s.heap.objs.size, _, I.laid (t' := n1) old (Nat.le_refl _) (setTO_new R.t0), rfl, q _ L hn R.nd (fun p hp => ⟨List.mem_map.mpr ⟨p, g.sub p hp, rfl⟩, (hk p (g.sub p hp)).2⟩) fun k hk2 => ?_⟩
  obtain ⟨p, hp, rfl⟩ := List.mem_map.mp hk2
  exact g.all p (by rw [List.take_length]; exact hp)
/-- sorted of such a set -/
def rSortX (K : PySem.W.Frag) (P : Program) (w : World) : List V → Hp → VK → Prop := fun vs H Q => ∃ (B : Hp) (a : Addr) (L : List TK) (d : Nat), vs = [V.ref a] ∧ Same B H ∧ H a = some (SetTO P w a L) ∧ (L.map (·.2)).Nodup ∧ (∀ p ∈ L, Dp K B (.ref p.1) (.tuple (p.2.map .int))) ∧ 0 < d ∧ (∀ p ∈ L, p.2.length = d) ∧
  ∀ (ys : List V) (ks : List (List Int)) (q : Addr), ks.Perm (L.map (·.2)) → ks.Pairwise (fun x y => ¬ y < x) → DpAll K B ys (ks.map fun k => PyData.tuple (k.map .int)) → H q = none → Q (.ref q) (upd H q (.lst ys))
theorem ref_rows {K : PySem.W.Frag} {B : Hp} {L : List TK} (hd : ∀ p ∈ L, Dp K B (.ref p.1) (.tuple (p.2.map .int))) : ∀ {out : List Value}, (∀ v ∈ out, ∃ p ∈ L, v = Value.ref p.1) → ∃ L2 : List TK, out = L2.map (fun p => Value.ref p.1) ∧ ∀ p ∈ L2, p ∈ L
  | [], _ => ⟨[], rfl, fun p hp => by cases hp⟩
  | v :: out, h => by
    obtain ⟨p, hp, e⟩ := h v List.mem_cons_self
    obtain ⟨L2, e2, h2⟩ := ref_rows hd fun u hu => h u (List.mem_cons_of_mem _ hu)
    refine ⟨p :: L2, by rw [List.map_cons, ← e, ← e2], fun q hq => ?_⟩
    rcases List.mem_cons.mp hq with z | z
    · exact z ▸ hp
    · exact h2 q z
theorem alike_len : ∀ (xs ys : List Int), PySem.W.alike (.tuple (xs.map .int)) (.tuple (ys.map .int)) = true := PySem.W.alike_ints
theorem cr_sortX {X : Cx} (hc : X.calm = true) (hu : X.A.units + 64 < cLine) : CallR X (.builtin "sorted") (rSortX X.K X.prog X.w) := by
  intro pins s σ H vs us Q I r h
  obtain ⟨B, a, L, d, rfl, sB, ha, hnd, hD, hd0, hd, q⟩ := h
  have R0 : SetT0 X.prog X.w s.heap a L := (I.hok a _ ha).1
  have hT : ∀ p ∈ L, IsT X.prog X.w s.heap p.2 p.1 := fun p hp => by
    obtain ⟨b, xs, e, q1, q2⟩ := dp_tup (hD p hp)
    cases e
    rw [dpa_ints q2] at q1
    exact I.isT (same_sqT sB q1)
  obtain ⟨es, ep, t, R⟩ := R0.full hT
  rw [Vals.ref1 r]
  obtain ⟨o, ho, hex, hdat⟩ := R.ob
  have hsz := R.size
  have hfew := R.few
  refine Calls.call_function_entry kind_sorted plain_sorted entry_sorted (args_sorted1 _) ?_
  unfold Builtin.«sorted»
  refine wpAny_bind (m := checkCount "sorted" 1 1 _) (wpAny_pure ?_)
  refine wpAny_bind (collect_set (A := X.A.in1) (I.ok.hd hc) ⟨o, ho, hex.1, hdat⟩ R.fits (by unfold scanBound; omega) R.tab.ris R.led fun s1 vs k1 hz g1 o1 pm => ?_)
  have hes : es.toList.map (·.2) = L.map fun q => Value.ref q.1 := by
    rw [R.rows]
    unfold rowsOf
    rw [List.map_map]
    rfl
  rw [hes] at pm
  obtain ⟨L1, e1, m1⟩ := ref_rows hD (out := vs) fun v hv => by
    obtain ⟨p, hp, e⟩ := List.mem_map.mp (pm.mem_iff.mp hv)
    exact ⟨p, hp, e.symm⟩
  have J : Inv X pins σ H s1 := by
    have J0 : Inv X pins σ H { s with heap := s1.heap, gens := s1.gens, drawn := s1.drawn, toks := s1.toks } := I.call (ch := []) (Un.kept k1) (I.hok.kept k1) (by rw [g1]; exact I.bare) (fun _ z => nomatch z)
    have e : s1 = { s with heap := s1.heap, gens := s1.gens, drawn := s1.drawn, toks := s1.toks } := by
      cases s1
      cases s
      cases o1
      rfl
    rw [e]
    exact J0
  have hlen : vs.length = L.length := by rw [pm.length_eq, List.length_map]
  have hn : H s1.heap.objs.size = none := J.hok.fresh (Nat.le_refl _)
  refine wpAny_bind (wpAny_newList ?_ (by rw [sizeLine_eq]; omega))
  have hoL : (s1.heap.push (seqObj "list" vs.toArray 0)).get? s1.heap.objs.size = some (seqObj "list" vs.toArray 0) := Heap.get?_push_size _ rfl
  let enc : TK → D := fun p => .tuple (p.2.map .int)
  have dL1 : ∀ L1 : List TK, (∀ p ∈ L1, p ∈ L) → DpAll X.K B (L1.map fun p => V.ref p.1) (L1.map enc) := by
    intro L1
    induction L1 with
    | nil => intro _; exact .nil
    | cons p L1 ih => intro h; exact .cons (hD p (h p List.mem_cons_self)) (ih fun q hq => h q (List.mem_cons_of_mem _ hq))
  have e : PySem.W.EachIs (ItR X.K B enc) vs L1 := by
    have e0 := eachis_of (K := X.K) (H := B) (enc := enc) (bs := L1) (dL1 L1 m1) (vals_refs (fun p : TK => p.1) L1)
    rwa [← e1] at e0
  have er : PySem.W.EachIs (fun u b => ∃ as, Reads (s1.heap.push (seqObj "list" vs.toArray 0)) u (enc b) as ∧ s1.heap.objs.size ∉ as) vs L1 := e.mono fun u b hb => by
    obtain ⟨v, r1, hv⟩ := hb
    obtain ⟨as, ra⟩ := Dp.reads J (enc b) v u (moD hv sB) r1
    exact ⟨as, PyProof.Rows.Reads.keeps (fun _ _ z => Heap.get?_push_of_some _ z) ra, fun z => absurd (reads_lt ra _ z) (Nat.lt_irrefl _)⟩
  have l1 : L1.length = L.length := by rw [← hlen, e1, List.length_map]
  show wpAny _ _ _ _ _ { s1 with heap := s1.heap.push (seqObj "list" vs.toArray 0) }
  refine wpAny_bind (wpAny_holding (PySem.W.list_sort_data (R := ItR X.K B enc) (enc := enc) (bs := L1) (s := { s1 with heap := s1.heap.push (seqObj "list" vs.toArray 0) }) hoL e er (.of fun b b' => alike_len _ _) (.inl fun dd hdd => ?_) (by rw [l1, sizeLine_eq]; omega) (fun b hb => ?_) fun out ho2 hout => ?_))
  · obtain ⟨p, hp, rfl⟩ := List.mem_map.mp hdd
    have := hd p (m1 p hp)
    show ∃ x r, PyData.tuple (p.2.map .int) = .tuple (x :: r)
    cases e : p.2 with
    | nil =>
      rw [e] at this
      simp at this
      omega
    | cons x r => exact ⟨_, _, rfl⟩
  · have : (enc b).depth ≤ 1 := by
      show PyData.depth (.tuple (b.2.map .int)) ≤ 1
      simp only [PyData.depth, PySem.W.depth_ints]
      omega
    show X.A.units + 1 + 1 + _ < cLine
    omega
  · obtain ⟨ys, r2, hy⟩ := eachis_to hout
    obtain ⟨e', he'⟩ := PyProof.Rows.sortedHeap_at (vs := vs) (out := out.toArray) hoL
    have hly : ys.length ≤ sizeLine := by
      rw [dpa_len hy, List.length_map, List.length_mergeSort, l1, sizeLine_eq]
      omega
    have pmL : (L1.map fun p => Value.ref p.1).Perm (L.map fun p => Value.ref p.1) := by
      rw [← e1]
      exact pm
    have one : ∀ q ∈ L, ∀ r ∈ L, q.1 = r.1 → q.2 = r.2 := fun q hq r hr e => by
      have a1 := R.tup q hq
      have a2 := R.tup r hr
      rw [e] at a1
      exact a1.inj a2
    have memk : ∀ k, k ∈ L1.map (·.2) ↔ k ∈ L.map (·.2) := fun k => by
      constructor
      · intro hk
        obtain ⟨p, hp, rfl⟩ := List.mem_map.mp hk
        exact List.mem_map.mpr ⟨p, m1 p hp, rfl⟩
      · intro hk
        obtain ⟨p, hp, rfl⟩ := List.mem_map.mp hk
        obtain ⟨p', hp', e⟩ := List.mem_map.mp (pmL.mem_iff.mpr (List.mem_map.mpr ⟨p, hp, rfl⟩))
        injection e with e
        exact List.mem_map.mpr ⟨p', hp', one p' (m1 p' hp') p hp e⟩
    have nd1 : (L1.map (·.2)).Nodup := by
      have nref : (L.map fun p => Value.ref p.1).Nodup := by
        refine List.pairwise_map.mpr (List.Pairwise.imp_of_mem ?_ (List.pairwise_map.mp (List.nodup_iff_pairwise_ne.mp hnd)))
        intro p q hp hq hne e
        injection e with e
        exact hne (one p hp q hq e)
      have n1 := pmL.nodup_iff.mpr nref
      rw [List.nodup_iff_pairwise_ne] at n1 ⊢
      refine List.pairwise_map.mpr (List.Pairwise.imp_of_mem ?_ (List.pairwise_map.mp n1))
      intro p q hp hq hne e
      -- equal keys in L: one row
      have : p = q := by
        have ndL := List.pairwise_map.mp (List.nodup_iff_pairwise_ne.mp hnd)
        refine Classical.byContradiction fun hpq => ?_
        have key : ∀ {L : List TK}, L.Pairwise (fun a b => a.2 ≠ b.2) → p ∈ L → q ∈ L → False := by
          intro L hL
          induction L with
          | nil => intro a _; cases a
          | cons x L ih =>
            obtain ⟨h1, h2⟩ := List.pairwise_cons.mp hL
            intro a b
            rcases List.mem_cons.mp a with a | a
            · rcases List.mem_cons.mp b with b | b
              · exact hpq (a.trans b.symm)
              · exact h1 q b (a ▸ e)
            · rcases List.mem_cons.mp b with b | b
              · exact h1 p a (b ▸ e.symm)
              · exact ih h2 a b
        exact key ndL (m1 p hp) (m1 q hq)
      exact hne (this ▸ rfl)
    have pk : (L1.map (·.2)).Perm (L.map (·.2)) := (List.perm_ext_iff_of_nodup nd1 hnd).mpr memk
    have sp := List.mergeSort_perm L1 (PySem.W.dataLe false enc)
    have le_eq : PySem.W.dataLe false enc = fun a b : TK => !decide (b.2 < a.2) := by
      funext a b
      show (!PySem.W.dataLt (.tuple (b.2.map .int)) (.tuple (a.2.map .int))) = _
      rw [dlt_tup_ints]
    have so : (L1.mergeSort (PySem.W.dataLe false enc)).Pairwise fun a b => PySem.W.dataLe false enc a b = true := by
      rw [le_eq]
      refine List.pairwise_mergeSort (fun a b c h1 h2 => ?_) (fun a b => ?_) L1
      · simp only [Bool.not_eq_true', decide_eq_false_iff_not] at *
        intro z
        exact List.not_lt.mpr (List.le_trans (List.not_lt.mp h1) (List.not_lt.mp h2)) z
      · simp only [Bool.or_eq_true, Bool.not_eq_true', decide_eq_false_iff_not]
        by_cases y : b.2 < a.2
        · exact .inr fun z => List.lt_asymm y z
        · exact .inl y
    refine wpAny_pure ⟨_, rfl, .ref s1.heap.objs.size, upd H s1.heap.objs.size (.lst ys), J.laid (t' := s1.toks) (fun b u e => ?_) (Nat.le_refl _)
      (show ObjOk X.prog X.w _ _ _ (.lst ys) from ⟨hly, out, e', r2, he'⟩), rfl, q ys ((L1.mergeSort (PySem.W.dataLe false enc)).map (·.2)) _ ((sp.map (·.2)).trans pk) ?_ (by rw [List.map_map]; exact hy) hn⟩
    · have hb : b < s1.heap.objs.size := Heap.lt_size e
      rw [PyProof.Rows.sortedHeap_old (Nat.ne_of_lt hb) (by rw [size_push']; exact Nat.lt_succ_of_lt hb)]
      exact Heap.get?_push_of_some _ e
    · rw [List.pairwise_map]
      refine so.imp fun {a b} h => ?_
      rw [le_eq] at h
      simpa using h
/-! ### sorted(set(xs)), len(set(xs)) -/
class EnT (α : Type) [DecidableEq α] [En α] where
  tl : α → List Int
  ln : Nat
  hl : ∀ a, (tl a).length = ln
  h0 : 0 < ln
  he : ∀ a : α, En.en a = .tuple ((tl a).map .int)
  inj : ∀ a b, tl a = tl b → a = b
instance : EnT P3 where
  tl u := [u.x, u.y, u.z]
  ln := 3
  hl _ := rfl
  h0 := by decide
  he _ := rfl
  inj a b h := by
    obtain ⟨x, y, z⟩ := a
    obtain ⟨x', y', z'⟩ := b
    simp only [List.cons.injEq, and_true] at h
    obtain ⟨h1, h2, h3⟩ := h
    rw [h1, h2, h3]
instance : EnT Pl where
  tl u := [u.n.x, u.n.y, u.n.z, u.d]
  ln := 4
  hl _ := rfl
  h0 := by decide
  he _ := rfl
  inj a b h := by
    obtain ⟨⟨x, y, z⟩, d⟩ := a
    obtain ⟨⟨x', y', z'⟩, d'⟩ := b
    simp only [List.cons.injEq, and_true] at h
    obtain ⟨h1, h2, h3, h4⟩ := h
    rw [h1, h2, h3, h4]
instance : EnT (Int × Int) where
  tl u := [u.1, u.2]
  ln := 2
  hl _ := rfl
  h0 := by decide
  he _ := rfl
  inj a b h := by
    obtain ⟨x, y⟩ := a
    obtain ⟨x', y'⟩ := b
    simp only [List.cons.injEq, and_true] at h
    obtain ⟨h1, h2⟩ := h
    rw [h1, h2]
def ddp {α : Type} [DecidableEq α] : List α → List α
  | [] => []
  | x :: xs => if x ∈ xs then ddp xs else x :: ddp xs
section
variable {α : Type} [DecidableEq α]
theorem mem_ddp {a : α} : ∀ {xs : List α}, a ∈ ddp xs ↔ a ∈ xs
  | [] => Iff.rfl
  | x :: xs => by
    unfold ddp
    split
    · rename_i h
      rw [mem_ddp, List.mem_cons]
      exact ⟨.inr, fun z => z.elim (fun e => e ▸ h) id⟩
    · rw [List.mem_cons, List.mem_cons, mem_ddp]
theorem ddp_nodup : ∀ xs : List α, (ddp xs).Nodup
  | [] => List.nodup_nil
  | x :: xs => by
    unfold ddp
    split
    · exact ddp_nodup xs
    · rename_i h
      exact List.nodup_cons.mpr ⟨fun z => h (mem_ddp.mp z), ddp_nodup xs⟩
theorem ddp_le : ∀ xs : List α, (ddp xs).length ≤ xs.length
  | [] => Nat.le_refl _
  | x :: xs => by
    unfold ddp
    have := ddp_le xs
    split
    · rw [List.length_cons]
      omega
    · rw [List.length_cons, List.length_cons]
      omega
theorem ddp_id {xs : List α} (h : xs.Nodup) : ddp xs = xs := by
  induction xs with
  | nil => rfl
  | cons x xs ih =>
    obtain ⟨h1, h2⟩ := List.nodup_cons.mp h
    unfold ddp
    rw [if_neg h1, ih h2]
variable [En α] [EnO α] [EnT α]
def setE (us : List α) : List α := sortE (ddp us)
theorem mem_setE {us : List α} {a : α} : a ∈ setE us ↔ a ∈ us := sortE_mem.trans mem_ddp
theorem setE_lt (us : List α) : (setE us).Pairwise fun a b => EnO.lt a b = true := sortE_lt (ddp_nodup us)
theorem setE_len (us : List α) : (setE us).length = (ddp us).length := sortE_len _
theorem lt_tl (a b : α) : decide (EnT.tl a < EnT.tl b) = EnO.lt a b := by
  rw [← EnO.dlt, EnT.he, EnT.he, dlt_tup_ints]
theorem strict_eq : ∀ {xs ys : List α}, (xs.Pairwise fun a b => EnO.lt a b = true) → (ys.Pairwise fun a b => EnO.lt a b = true) → (∀ a, a ∈ xs ↔ a ∈ ys) → xs = ys
  | [], [], _, _, _ => rfl
  | [], y :: ys, _, _, h => by
    have := (h y).mpr List.mem_cons_self
    cases this
  | x :: xs, [], _, _, h => by
    have := (h x).mp List.mem_cons_self
    cases this
  | x :: xs, y :: ys, hx, hy, h => by
    obtain ⟨hx1, hx2⟩ := List.pairwise_cons.mp hx
    obtain ⟨hy1, hy2⟩ := List.pairwise_cons.mp hy
    have irr : ∀ a : α, EnO.lt a a = true → False := fun a z => EnO.asy _ _ z z
    have exy : x = y := by
      rcases List.mem_cons.mp ((h x).mp List.mem_cons_self) with e | e
      · exact e
      · rcases List.mem_cons.mp ((h y).mpr List.mem_cons_self) with e2 | e2
        · exact e2.symm
        · exact (EnO.asy _ _ (hx1 y e2) (hy1 x e)).elim
    subst exy
    congr 1
    refine strict_eq hx2 hy2 fun a => ?_
    constructor
    · intro ha
      rcases List.mem_cons.mp ((h a).mp (List.mem_cons_of_mem _ ha)) with e | e
      · subst e
        exact (irr _ (hx1 _ ha)).elim
      · exact e
    · intro ha
      rcases List.mem_cons.mp ((h a).mpr (List.mem_cons_of_mem _ ha)) with e | e
      · subst e
        exact (irr _ (hy1 _ ha)).elim
      · exact e
theorem set_rows {us : List α} {L : List TK} {ks : List (List Int)} (hnd : (L.map (·.2)).Nodup) (h1 : ∀ p ∈ L, p.2 ∈ us.map EnT.tl) (h2 : ∀ k ∈ us.map EnT.tl, k ∈ L.map (·.2)) (pm : ks.Perm (L.map (·.2))) (so : ks.Pairwise fun x y => ¬ y < x) : ks = (setE us).map EnT.tl := by
  have nd : ks.Nodup := pm.nodup_iff.mpr hnd
  have mem : ∀ k, k ∈ ks ↔ k ∈ us.map EnT.tl := fun k => by
    rw [pm.mem_iff]
    constructor
    · intro h
      obtain ⟨p, hp, rfl⟩ := List.mem_map.mp h
      exact h1 p hp
    · exact h2 k
  have pre : ∀ ks : List (List Int), (∀ k ∈ ks, k ∈ us.map EnT.tl) → ∃ vs : List α, ks = vs.map EnT.tl := by
    intro ks
    induction ks with
    | nil => intro _; exact ⟨[], rfl⟩
    | cons k ks ih =>
      intro h
      obtain ⟨u, _, e⟩ := List.mem_map.mp (h k List.mem_cons_self)
      obtain ⟨vs, e2⟩ := ih fun j hj => h j (List.mem_cons_of_mem _ hj)
      exact ⟨u :: vs, by rw [List.map_cons, e, e2]⟩
  obtain ⟨vs, rfl⟩ := pre ks fun k hk => (mem k).mp hk
  congr 1
  have ndv : vs.Nodup := List.Pairwise.of_map EnT.tl (fun a b hne e => hne (congrArg _ e)) (List.nodup_iff_pairwise_ne.mp nd) |> List.nodup_iff_pairwise_ne.mpr
  refine strict_eq ?_ (setE_lt us) fun a => ?_
  · refine List.Pairwise.imp₂ (fun a b x y => ?_) (List.pairwise_map.mp so) (List.nodup_iff_pairwise_ne.mp ndv)
    rcases EnO.tot a b with z | z | z
    · exact z
    · exact (y z).elim
    · rw [← lt_tl, decide_eq_true_eq] at z
      exact (x z).elim
  · rw [mem_setE]
    constructor
    · intro h
      obtain ⟨b, hb, e⟩ := List.mem_map.mp ((mem _).mp (List.mem_map.mpr ⟨a, h, rfl⟩))
      exact EnT.inj _ _ e ▸ hb
    · intro h
      obtain ⟨b, hb, e⟩ := List.mem_map.mp ((mem _).mpr (List.mem_map.mpr ⟨a, h, rfl⟩))
      exact EnT.inj _ _ e ▸ hb
theorem en_tl (us : List α) : us.map (En.en (α := α)) = (us.map EnT.tl).map fun k => PyData.tuple (k.map .int) := by
  rw [List.map_map]
  exact List.map_congr_left fun a _ => EnT.he a
theorem go_sortedSet {X : Cx} {G : Gm} {e : Expr} {W : Wd} {N : List Str} {sc : Scope} {k : Nat} {p p2 pos pos2 : Pos} {us : List α} (C : Cok X W N sc k) (hg : glB sc "sorted" = true) (hm : W.mg "sorted" = none) (hg2 : glB sc "set" = true) (hm2 : W.mg "set" = none) (ha : GL X G e (us.map En.en)) (h62 : (ddp us).length ≤ 62) (he : nst e = true) :
    GO X G (.Call (.Name "sorted" p) [.Call (.Name "set" p2) [e] [] pos2] [] pos) ((setE us).map En.en) := by
  have hw := C.wd
  subst hw
  have hu : X.A.units + 64 < cLine := by have := C.room.un; omega
  refine ⟨fun bs B σ H S Q q => inE (pe_callB (cr_sortX C.calm hu) (C.gl _ hg).1 hm (by decide +kernel) (pa_cons (pe_callTy (cr_setX C.calm hu) (C.gl _ hg2).1 hm2 (by decide +kernel) (pa_cons pE pa_nil (star_cons he)) (by decide) (C.gl _ hg2).2 (star_cons he) (star_all rfl)) pa_nil (star_cons rfl)) (by decide) (C.gl _ hg).2 (star_cons rfl) (star_all rfl)) (ha.run bs B σ H S _ fun l vs B1 H1 g1 r1 r2 => ?_)⟩
  rw [en_tl] at r2
  refine ⟨B1, l, vs, us.map EnT.tl, (ddp us).map EnT.tl, rfl, g1.bh, r1, r2, fun k hk => ?_, by rw [List.length_map]; exact h62, fun a L ha2 hnd h1 h2 => ?_⟩
  · obtain ⟨u, hu2, rfl⟩ := List.mem_map.mp hk
    exact List.mem_map.mpr ⟨u, mem_ddp.mpr hu2, rfl⟩
  · have g2 : Grow B1 H1 B1 (upd H1 a (SetTO X.prog X.w a L)) := .own g1.bh ha2
    refine ⟨B1, a, L, EnT.ln α, rfl, g2.bh, upd_same, hnd, fun p hp => (h1 p hp).2, EnT.h0, fun p hp => ?_, fun ys ks r pm so hy hr => ?_⟩
    · obtain ⟨u, _, e⟩ := List.mem_map.mp (h1 p hp).1
      rw [← e]
      exact EnT.hl u
    · have e := set_rows hnd (fun p hp => (h1 p hp).1) h2 pm so
      subst e
      rw [← en_tl] at hy
      have g3 := (g1.trans g2).trans (Grow.own (p := r) (o := .lst ys) g2.bh hr)
      exact q r ys B1 _ g3 (same_none (g1.trans g2).h hr) (same_none g2.bh hr) upd_same hy
end
end DW

set_option Elab.async false
set_option linter.all false
set_option maxRecDepth 100000
set_option maxHeartbeats 4000000
set_option autoImplicit false
namespace DW
open PySem PySem.Spec PyProof.Rows L2
/-! ### calls that tell a list, a new one or one that stands; enumerate -/
section
variable {X : Cx} {G : Gm} {e : Expr} {es : List Expr} {ds us : List D} {W : Wd} {N : List Str} {sc : Scope} {k j : Nat} {pos p : Pos} {nm : Str} {c : Ct}
theorem ge_callL (C : Cok X W N sc k) (Hs : Has W j nm c) (hj : j ≤ k) (hg : glB sc nm = true) (ha : GA X G (e :: es) ds) (hc : ∀ R : Rs → Prop, R (.fz (.list us)) → R (.ow us) → c ds R) (he : nst e = true) (hpl : es.all nst = true) :
    GE X G (.Call (.Name nm p) (e :: es) [] pos) (.list us) := by
  obtain ⟨f, fd, ps, h1, h2, h3, h4⟩ := Hs.ex
  have hw := C.wd
  subst hw
  refine ⟨fun bs B σ H S Q q => inE (pe_call (E := E0) h4 (C.room.mono hj) (C.gl nm hg).1 h1 h2 h3 .nil passL pA (C.gl nm hg).2 (star_cons he) (star_all hpl)) (ha.run bs B σ H S _ fun vs B1 H1 g1 r1 => ?_)⟩
  refine ⟨B1, ds, fun r => r = .fz (.list us) ∨ r = .ow us, g1.bh, by rw [List.append_nil]; exact r1, hc _ (.inl rfl) (.inr rfl), fun d' v B' H' e' g r => ?_, fun es' p us' B' H' e' g h0 h1 h2 r => ?_, (fun _ _ _ _ _ e' => by rcases e' with e' | e' <;> cases e')⟩
  · rcases e' with e' | e'
    · cases e'
      exact q v B' H' (g1.trans g) r
    · cases e'
  · rcases e' with e' | e'
    · cases e'
    · cases e'
      have g2 := g1.trans g
      have sb : Same B' (upd B' p (.lst us')) := same_new h1
      exact q _ _ H' (g2.settle (same_none g1.h h0) h1 h2) (.lst (.inl (.inl upd_same)) (moA r sb))
end
def enumD (ds : List D) : List D := (List.range ds.length).map fun (i : Nat) => .tuple [.int (i : Int), ds.getD i .none]
theorem enumD_get {ds : List D} {i : Nat} {d : D} (h : ds[i]? = some d) : (enumD ds)[i]? = some (.tuple [.int (i : Int), d]) := by
  have hi := (List.getElem?_eq_some_iff.mp h).1
  unfold enumD
  rw [List.getElem?_map, List.getElem?_range hi, Option.map_some, List.getD_eq_getElem?_getD, h]
  rfl
theorem enumD_len (ds : List D) : (enumD ds).length = ds.length := by
  unfold enumD
  rw [List.length_map, List.length_range]
theorem wk_enum {K : PySem.W.Frag} {B1 F : Hp} {p : Addr} {vs : List V} {items : List D} (h : SqL K F p vs) (r : DpAll K B1 vs items) : Wk K B1 F (Ite K p) (enumD items) := by
  have ll := dpa_len r
  have le := enumD_len items
  refine ⟨fun i H' s hi => ⟨vs, s.seq h, by omega⟩, fun i H' s hi => ⟨vs, vs[i], s.seq h, List.getElem?_eq_getElem (by omega)⟩, fun i B' H' x H'' s1 s2 s3 hi y => ?_⟩
  obtain ⟨T, x', rfl, hT, rfl, y⟩ := y
  obtain ⟨d, e1, e2⟩ := dpa_getV r (y vs (s1.seq h))
  have sb : Same B' (upd B' T (.tup [.int (i : Nat), x'])) := same_new (same_none s3 hT)
  exact ⟨_, upd B' T (.tup [.int (i : Nat), x']), enumD_get e1, .new s3 hT, .tup (.inl (.inl upd_same)) (.cons (.int _) (.cons (moD (moD e2 s2) sb) .nil))⟩
theorem gi_enum {X : Cx} {G : Gm} {e : Expr} {elts : List Expr} {kk : Nat} {items : List D} {W : Wd} {N : List Str} {sc : Scope} {k : Nat} {pos p tpos : Pos} (C : Cok X W N sc k) (hg : glB sc "enumerate" = true) (hm : W.mg "enumerate" = none) (ha : GE X G e (.list items)) (he : nst e = true) :
    GI X G (.Tuple elts kk tpos) (.Call (.Name "enumerate" p) [e] [] pos) (enumD items) := by
  have hw := C.wd
  subst hw
  refine ⟨fun bs B σ H S R q => inI (pi_enum (C.gl _ hg).1 hm (pa_cons pE pa_nil (star_cons he)) (star_cons he)) (ha.run bs B σ H S _ fun v B1 H1 g r => ?_)⟩
  obtain ⟨a, vs, rfl, h1, h2⟩ := dp_lst r
  exact ⟨a, vs, rfl, g.bh.seq h1, q _ B1 H1 g (wk_enum h1 h2)⟩
theorem cmp_eqL3 (u v : List P3) : CmpD .Eq (.list (u.map P3.en)) (.list (v.map P3.en)) (decide (u = v)) := cmp_eqG (α := List P3) (by decide) u v
theorem cmp_neL3 (u v : List P3) : CmpD .NotEq (.list (u.map P3.en)) (.list (v.map P3.en)) (!decide (u = v)) := cmp_neG (α := List P3) (by decide) u v
theorem cmp_eqL4 (u v : List Pl) : CmpD .Eq (.list (u.map Pl.en)) (.list (v.map Pl.en)) (decide (u = v)) := cmp_eqG (α := List Pl) (by decide) u v
theorem cmp_neL4 (u v : List Pl) : CmpD .NotEq (.list (u.map Pl.en)) (.list (v.map Pl.en)) (!decide (u = v)) := cmp_neG (α := List Pl) (by decide) u v
theorem cmp_eqN4 (xs : List Pl) : CmpD .Eq (.list (xs.map Pl.en)) (.list []) (decide (xs = [])) := cmp_eqN (by decide) xs
theorem cmp_neN4 (xs : List Pl) : CmpD .NotEq (.list (xs.map Pl.en)) (.list []) (!decide (xs = [])) := cmp_neN (by decide) xs
/-- script[2:63] -/
theorem cut_rest (ns : List Int) (a b : Nat) (hab : a ≤ b) : cutD (ns.map PyData.int) (some (a : Int)) (some (b : Int)) = ((ns.drop a).take (b - a)).map PyData.int := by
  unfold cutD
  rw [HT.sIx_nat, HT.sIx_nat, List.length_map, ← List.map_drop, ← List.map_take]
  congr 1
  by_cases h : ns.length ≤ a
  · rw [show min a ns.length = ns.length by omega, show ns.drop ns.length = [] from List.drop_length, show ns.drop a = [] from List.drop_eq_nil_of_le h, List.take_nil, List.take_nil]
  · rw [show min a ns.length = a by omega]
    by_cases h2 : ns.length ≤ b
    · rw [show min b ns.length = ns.length by omega, List.take_of_length_le (by rw [List.length_drop]; omega), List.take_of_length_le (by rw [List.length_drop]; omega)]
    · rw [show min b ns.length = b by omega]
theorem rng_at {lo : Int} {n i : Nat} {d : D} (h : ((rngL lo n).map PyData.int)[i]? = some d) : i < n ∧ d = .int (lo + (i : Int)) := by
  rw [List.getElem?_map] at h
  have hi : i < n := by
    rcases Nat.lt_or_ge i n with q | q
    · exact q
    · rw [List.getElem?_eq_none (by rw [rngL_len]; exact q)] at h
      cases h
  rw [rngL_get hi] at h
  exact ⟨hi, (Option.some.inj h).symm⟩
theorem map_at {α : Type} {f : α → D} {xs : List α} {i : Nat} {d : D} (h : (xs.map f)[i]? = some d) : ∃ a, xs[i]? = some a ∧ d = f a := by
  rw [List.getElem?_map] at h
  obtain ⟨a, h1, h2⟩ := Option.map_eq_some_iff.mp h
  exact ⟨a, h1, h2.symm⟩
theorem gi_rngC {X : Cx} {G : Gm} {tg : Expr} {a : Expr} {W : Wd} {N : List Str} {sc : Scope} {k : Nat} {p pos : Pos} {n : Nat} {z : Int} (C : Cok X W N sc k) (hg : glB sc "range" = true) (hm : W.mg "range" = none) (ha : GE X G a (.int z)) (hz : z = (n : Int)) (h1 : n < 2 ^ 60) (he : nst a = true) :
    GI X G tg (.Call (.Name "range" p) [a] [] pos) ((rngL 0 n).map PyData.int) := by
  have h := gi_rng1 (tg := tg) (p := p) (pos := pos) C hg hm ha (by omega) he
  rw [show z.toNat = n by omega] at h
  exact h
/-- x, y = a, b where a comprehension sees x: no turned stores -/
theorem sst_cell {X : Cx} {W : Wd} {N : List Str} {sc : Scope} {k : Nat} {a b : Expr} {x y : Str} {p1 p2 pt pt2 : Pos} {kt k2 : Nat} (C : Cok X W N sc k) (hk : sc.kind = .function) (hx : celB sc x = true) (hy : loc1B sc y = true) :
    swappedStores [.Tuple [.Name x p1, .Name y p2] kt pt] (.Tuple [a, b] k2 pt2) X.env = pure none := by
  have h1 := C.bk hk
  have h2 := C.loc1 y hy
  have h3 : X.env.kindOf x = some .cell ∨ X.env.kindOf x = some .free := C.fr x (.inl (celB_of hx))
  have e1 : (some NameKind.cell == some NameKind.local) = false := rfl
  have e2 : (some NameKind.free == some NameKind.local) = false := rfl
  unfold swappedStores
  rcases h3 with h3 | h3
  · simp only [h1, List.filterMap_cons, List.filterMap_nil, h3, e1, Bool.false_and, Bool.false_eq_true, if_false]
    split
    · rfl
    · generalize (X.env.kindOf y == some NameKind.local && _) = t
      cases t
      all_goals
        split
        · rfl
        · rfl
  · simp only [h1, List.filterMap_cons, List.filterMap_nil, h3, e2, Bool.false_and, Bool.false_eq_true, if_false]
    split
    · rfl
    · generalize (X.env.kindOf y == some NameKind.local && _) = t
      cases t
      all_goals
        split
        · rfl
        · rfl
theorem len_map {α : Type} (f : α → D) (xs : List α) : LenD (.list (xs.map f)) (xs.length : Int) := by
  have h := LenD.lst (ds := xs.map f)
  rw [List.length_map] at h
  exact h
theorem GS.mono {X : Cx} {G : Gm} {st : Stmt} {P Q : Gm → Prop} {rt : Rs → Prop} {bk ct : Gm → Prop} (h : GS X G st ⟨P, rt, bk, ct⟩) (k : ∀ G', P G' → Q G') : GS X G st ⟨Q, rt, bk, ct⟩ :=
  ⟨fun bs B σ H S De m => h.run bs B σ H S De ⟨fun G B σ H g S => m.nx G B σ H (k G g) S, m.rf, m.ro, m.bk, m.ct, m.xm⟩⟩
/-- if c: .. ; both ways go on with P -/
theorem gss_join {X : Cx} {G : Gm} {c : Expr} {t : Bool} {A1 sts : List Stmt} {pos : Pos} {E : DE} (P : Gm → Prop) (hc : GT X G c t) (h1 : t = true → GSs X G A1 ⟨P, E.rt, E.bk, E.ct⟩) (h2 : t = false → P G) (h3 : ∀ G', P G' → GSs X G' sts E) : GSs X G (.If c A1 [] pos :: sts) E :=
  gs_cons (GS.mono (gs_if (E := ⟨P, E.rt, E.bk, E.ct⟩) hc h1 fun z => gs_nil (h2 z)) h3)
theorem gi_rngC2 {X : Cx} {G : Gm} {tg : Expr} {a b : Expr} {W : Wd} {N : List Str} {sc : Scope} {k : Nat} {p pos : Pos} {m n : Nat} {z y : Int} (C : Cok X W N sc k) (hg : glB sc "range" = true) (hm : W.mg "range" = none) (ha : GE X G a (.int z)) (hb : GE X G b (.int y)) (hz : z = (m : Int)) (hy : y = (n : Int)) (h1 : m < 2 ^ 60) (h2 : n < 2 ^ 60) (he : nst a = true) (he2 : nst b = true) :
    GI X G tg (.Call (.Name "range" p) [a, b] [] pos) ((rngL (m : Int) (n - m)).map PyData.int) := by
  have h := gi_rng2 (tg := tg) (p := p) (pos := pos) C hg hm ha hb (by omega) he he2
  rw [show (y - z).toNat = n - m by omega, hz] at h
  exact h
end DW

set_option Elab.async false
set_option linter.all false
set_option maxRecDepth 100000
set_option maxHeartbeats 4000000
set_option autoImplicit false
namespace DW
open PySem PySem.Spec PyProof.Rows L2
/-! ### a loop over one's own list, which stays one's own -/
theorem Sat.reslot {K : PySem.W.Frag} {bs : Bs} {G : Gm} {B H : Hp} {σ : L2.St} {i : Nat} {s s' : Sl} (S : Sat K bs G B σ H) (h : G[i]? = some s) (so : s.own = true) (hs : ∀ o, σ[i]? = some o → SlR K bs B H o s') : Sat K bs (G.set i s') B σ H := by
  refine ⟨S.gr, by rw [List.length_set, S.len], fun j t o h1 h2 => ?_, fun j k t u a hjk h1 h2 s1 s2 e1 e2 => ?_⟩
  · rcases set_get h1 with ⟨ej, es, hl⟩ | ⟨ej, h1'⟩
    · subst ej es
      exact hs o h2
    · exact S.sl j t o h1' h2
  · rcases set_get h1 with ⟨ej, es, _⟩ | ⟨n1, h1'⟩
    · rcases set_get h2 with ⟨ek, _, _⟩ | ⟨n2, h2'⟩
      · exact hjk (ej.trans ek.symm)
      · subst ej
        exact S.na j k s u a hjk h h2' so s2 e1 e2
    · rcases set_get h2 with ⟨ek, es, _⟩ | ⟨n2, h2'⟩
      · subst ek
        exact S.na j k t s a hjk h1' h s1 so e1 e2
      · exact S.na j k t u a hjk h1' h2' s1 s2 e1 e2
/-- the list vs at p, as it stands -/
def fixO (K : PySem.W.Frag) (p : Addr) (vs : List V) (ds : List D) : Ob where
  R B H q := q = p ∧ H q = some (.lst vs) ∧ DpAll K B vs ds
  gr B H B' H' q e e' h := ⟨h.1, e' _ _ h.2.1, moA h.2.2 e⟩
  fr B H q r o hn h := ⟨h.1, by rw [upd_ne (Ne.symm hn)]; exact h.2.1, h.2.2⟩
section
variable {X : Cx} {G : Gm} {tg : Expr} {ds : List D} {W : Wd} {N : List Str} {sc : Scope} {k : Nat} {pos p1 : Pos} {E : DE} {x : Str} {body sts : List Stmt}
theorem gs_forO (C : Cok X W N sc k) (i0 : Nat) (h : okV N sc i0 x = true) (hG : G[i0]? = some (.ow ds)) (J : Ob → Nat → Gm → Prop) (h0 : ∀ O, J O 0 (G.set i0 (.ob O)))
    (hs : ∀ (O : Ob) (i : Nat) (d : D) (G' : Gm), ds[i]? = some d → J O i G' → G'[i0]? = some (.ob O) ∧ ∃ G2 ws, GG X G' tg d G2 ws ∧ GSs X G2 body ⟨J O (i + 1), E.rt, fun _ => False, J O (i + 1)⟩)
    (hd : ∀ (O : Ob) G', J O ds.length G' → G'[i0]? = some (.ob O) ∧ E.nx (G'.set i0 (.ow ds))) (hf : ∀ v, foldedSetIterable (.Name x p1) X.env v = pure v) : GS X G (.For tg (.Name x p1) body [] pos) E := by
  obtain ⟨v1, v2, v3, v4⟩ := okV_of h
  refine ⟨fun bs B σ H S De m => inS (ps_for C.pown C.calm pI pG pB hf) (inI (pi_list pE) (inE (pe_var (i := i0) (by rw [C.N]; exact v1) (C.vis x v2) v3 v4) ?_))⟩
  obtain ⟨p, vs, e1, q0, q1, q2, q3⟩ := S.ow hG
  refine ⟨.ref p, e1, p, rfl, ⟨vs, .inl (.inl q2)⟩, ?_⟩
  generalize hO : fixO X.K p vs ds = O
  have S1 : Sat X.K bs (G.set i0 (.ob O)) B σ H := S.reslot hG rfl fun o ho => by
    rw [e1] at ho
    cases ho
    subst hO
    exact ⟨p, rfl, q0, q1, by rw [q2]; simp, rfl, q2, q3⟩
  have S1' : Sat X.K ⟨B, bs.H⟩ (G.set i0 (.ob O)) B σ H := by
    have g1 := S1.gr
    refine ⟨⟨Same.refl _, g1.h, g1.bh, fun _ _ h => h⟩, S1.len, fun i s o a b => ?_, S1.na⟩
    have r := S1.sl i s o a b
    cases s <;> exact r
  have back : ∀ {G' B' σ' H'}, Sat X.K ⟨B, bs.H⟩ G' B' σ' H' → Sat X.K bs G' B' σ' H' := fun {G' B' σ' H'} T => by
    refine ⟨⟨S1.gr.b.trans T.gr.b, T.gr.h, T.gr.bh, fun x hx hb => T.gr.n x hx (S1.gr.n x hx hb)⟩, T.len, fun i s o a b => ?_, T.na⟩
    have r := T.sl i s o a b
    cases s <;> exact r
  have wk : Wk X.K B (fun a => if a = p then some (.lst vs) else none) (Itl X.K p) ds := wk_list (vs := vs) (.inl (.inl (by simp))) q3
  have same : ∀ {G' : Gm} {B' : Hp} {σ' : L2.St} {H' : Hp}, Sat X.K ⟨B, bs.H⟩ G' B' σ' H' → G'[i0]? = some (.ob O) → Same (fun a => if a = p then some (.lst vs) else none) H' := fun {G' B' σ' H'} T hg a o ha => by
    obtain ⟨p', _, _, _, _, r⟩ := T.obj hg
    subst hO
    obtain ⟨rfl, r2, _⟩ := r
    dsimp only at ha
    by_cases e : a = p'
    · subst e
      rw [if_pos rfl] at ha
      cases ha
      exact r2
    · rw [if_neg e] at ha
      cases ha
  refine ⟨fun i mm σ' H' => mm = ds.length - i ∧ i ≤ ds.length ∧ ∃ G' B', J O i G' ∧ G'[i0]? = some (.ob O) ∧ Sat X.K ⟨B, bs.H⟩ G' B' σ' H', ⟨ds.length, by simp, Nat.zero_le _, _, B, h0 O, ?_, S1'⟩, ?_⟩
  · rw [List.getElem?_set_self (List.getElem?_eq_some_iff.mp hG).1]
  rintro i mm σ' H' ⟨rfl, hile, G', B', hJ, hGO, T⟩
  have sF := same T hGO
  by_cases hlt : i < ds.length
  · refine .inr ⟨wk.go i H' sF hlt, fun σ2 H2 => ∃ G2 B2, J O (i + 1) G2 ∧ G2[i0]? = some (.ob O) ∧ Sat X.K ⟨B, bs.H⟩ G2 B2 σ2 H2, fun σ2 H2 ⟨G2, B2, j2, g2, T2⟩ => ⟨ds.length - (i + 1), by omega, rfl, hlt, G2, B2, j2, g2, T2⟩, fun x H'' y => ?_⟩
    obtain ⟨d, B'', e1, g3, r3⟩ := wk.yld i B' H' x H'' sF T.gr.b T.gr.bh hlt y
    obtain ⟨_, G2, ws, hg, hb⟩ := hs O i d G' e1 hJ
    refine hg.run ⟨B, bs.H⟩ B'' σ' H'' x (T.gro g3) r3 _ fun σ2 _ T2 => ?_
    have hnext : ∀ G3, J O (i + 1) G3 → G3[i0]? = some (.ob O) := fun G3 j3 => by
      by_cases hl2 : i + 1 < ds.length
      · exact (hs O (i + 1) _ G3 (List.getElem?_eq_getElem hl2) j3).1
      · have e : i + 1 = ds.length := by omega
        exact (hd O G3 (e ▸ j3)).1
    refine hb.run ⟨B, bs.H⟩ B'' σ2 H'' T2 _ ⟨fun G3 B3 σ3 H3 j3 T3 => ⟨G3, B3, j3, hnext G3 j3, T3⟩, fun d v B3 H3 hr g4 r4 => ?_, fun ds q us B3 H3 hr g4 q0 q1 q2 r4 => ?_, fun G3 B3 σ3 H3 j3 T3 => j3.elim, fun G3 B3 σ3 H3 j3 T3 => ⟨G3, B3, j3, hnext G3 j3, T3⟩, ⟨m.xm.top, by
      obtain ⟨Wx, tk, q⟩ := m.xm.xe
      exact ⟨Wx, tk, fun x C G B σ H hr hm T => q x C G B σ H hr hm (back T)⟩⟩⟩
    · exact m.rf d v B3 H3 hr ⟨S1.gr.b.trans g4.b, g4.h, g4.bh, fun x hx hb => g4.n x hx (S1.gr.n x hx hb)⟩ r4
    · exact m.ro ds q us B3 H3 hr ⟨S1.gr.b.trans g4.b, g4.h, g4.bh, fun x hx hb => g4.n x hx (S1.gr.n x hx hb)⟩ q0 q1 q2 r4
  · have e : i = ds.length := by omega
    subst e
    have T' := back T
    obtain ⟨hg, hn⟩ := hd O G' hJ
    refine .inl ⟨wk.stop _ H' sF (Nat.le_refl _), m.nx _ B' σ' H' hn (T'.reslot hg rfl fun o ho => ?_)⟩
    obtain ⟨p', e2, r0, r1, r2, r⟩ := T'.obj hg
    subst hO
    obtain ⟨rfl, r3, r4⟩ := r
    rw [e2] at ho
    cases ho
    exact ⟨p', vs, rfl, r0, r1, r3, r4⟩
theorem gss_forO (C : Cok X W N sc k) (i0 : Nat) (h : okV N sc i0 x = true) (hG : G[i0]? = some (.ow ds)) (J : Ob → Nat → Gm → Prop) (h0 : ∀ O, J O 0 (G.set i0 (.ob O)))
    (hs : ∀ (O : Ob) (i : Nat) (d : D) (G' : Gm), ds[i]? = some d → J O i G' → G'[i0]? = some (.ob O) ∧ ∃ G2 ws, GG X G' tg d G2 ws ∧ GSs X G2 body ⟨J O (i + 1), E.rt, fun _ => False, J O (i + 1)⟩)
    (hd : ∀ (O : Ob) G', J O ds.length G' → G'[i0]? = some (.ob O) ∧ GSs X (G'.set i0 (.ow ds)) sts E) (hf : ∀ v, foldedSetIterable (.Name x p1) X.env v = pure v) : GSs X G (.For tg (.Name x p1) body [] pos :: sts) E :=
  gs_cons (gs_forO (E := ⟨fun G' => GSs X G' sts E, E.rt, E.bk, E.ct⟩) C i0 h hG J h0 hs hd hf)
end
end DW

set_option Elab.async false
set_option linter.all false
set_option maxRecDepth 100000
set_option maxHeartbeats 4000000
set_option autoImplicit false
namespace DW
open PySem PySem.Spec PyProof.Rows L2
/-! ### xs[::-1]; lists that come out empty -/
section
variable {X : Cx} {G : Gm} {a elt iter c : Expr} {ds : List D} {W : Wd} {N : List Str} {sc scope : Scope} {k : Nat} {pos p1 p2 p3 p : Pos} {x : Str}
theorem dpa_rev {K : PySem.W.Frag} {B : Hp} {ds : List D} {vs : List V} (h : DpAll K B vs ds) : DpAll K B vs.reverse ds.reverse := by
  induction ds generalizing vs with
  | nil =>
    cases h
    exact .nil
  | cons d ds ih =>
    cases h with
    | cons h1 h2 =>
      rw [List.reverse_cons, List.reverse_cons]
      exact dpa_app (ih h2) (.cons h1 .nil)
theorem go_rev {kk : Nat} (ha : GL X G a ds) : GO X G (.Subscript a (.Slice none none (some (.UnaryOp .USub (.Constant (.int 1) kk p1) p2)) p3) pos) ds.reverse :=
  ⟨fun bs B σ H S Q q => inE (pe_revL pE) (ha.run bs B σ H S _ fun a vs B1 H1 g1 r1 r2 => by
    refine ⟨a, vs, rfl, r1, fun p hp => ?_⟩
    have g : Grow B1 H1 B1 (upd H1 p (.lst vs.reverse)) := .own g1.bh hp
    exact q p vs.reverse _ _ (g1.trans g) (same_none g1.h hp) (same_none g1.bh hp) upd_same (dpa_rev r2))⟩
end
theorem cmp_neL3F {u v : List P3} (h : u = v) : CmpD .NotEq (.list (u.map P3.en)) (.list (v.map P3.en)) false := by
  have := cmp_neL3 u v
  rwa [decide_eq_true h] at this
theorem cmp_eqL3T {u v : List P3} (h : u = v) : CmpD .Eq (.list (u.map P3.en)) (.list (v.map P3.en)) true := by
  have := cmp_eqL3 u v
  rwa [decide_eq_true h] at this
theorem cmp_neL4F {u v : List Pl} (h : u = v) : CmpD .NotEq (.list (u.map Pl.en)) (.list (v.map Pl.en)) false := by
  have := cmp_neL4 u v
  rwa [decide_eq_true h] at this
theorem cmp_neGF {α : Type} [DecidableEq α] [En α] (hd : En.dp α ≤ 64) {u v : α} (h : u = v) : CmpD .NotEq (En.en u) (En.en v) false := by
  have := cmp_neG hd u v
  rwa [decide_eq_true h] at this
theorem cmp_eqGT {α : Type} [DecidableEq α] [En α] (hd : En.dp α ≤ 64) {u v : α} (h : u = v) : CmpD .Eq (En.en u) (En.en v) true := by
  have := cmp_eqG hd u v
  rwa [decide_eq_true h] at this
section
variable {X : Cx} {G : Gm} {elt iter c : Expr} {W : Wd} {N : List Str} {sc scope : Scope} {k : Nat} {pos p1 p2 p3 p q : Pos} {sts : List Stmt} {E : DE} {x y z : Str}
theorem gg_two {X : Cx} {G : Gm} {W : Wd} {N : List Str} {sc : Scope} {k kk : Nat} {a b : Str} {p1 p2 pos : Pos} {d1 d2 : D} (C : Cok X W N sc k) (i j : Nat) (h : okL N sc i a = true) (h2 : okL N sc j b = true) : GG X G (.Tuple [.Name a p1, .Name b p2] kk pos) (.tuple [d1, d2]) ((G.set i (.fz d1)).set j (.fz d2)) [i, j] :=
  gg_tupN C (ggs_cons C i h (by simp) (ggs_cons C j h2 (by simp) ggs_nil)) rfl rfl
/-- [elt for a, b in iter if c] -/
theorem go_lcTf {α : Type} {xs : List α} {e1 e2 : α → D} {bt : α → Bool} {g : α → D} {kk : Nat} (C : Cok X W N sc k) (i j : Nat) (ok : blkC N sc scope [(x, i), (y, j)] = true) (okl : okL N scope i x = true) (okl2 : okL N scope j y = true) (hi : GIw X G (.Tuple [.Name x p, .Name y q] kk p3) iter (xs.map fun a => .tuple [e1 a, e2 a])) (hz : xs.length ≤ 16777216)
    (ht : ∀ X', Cok X' W N scope k → ∀ a ∈ xs, GT X' (((wipeG G [i, j]).set i (.fz (e1 a))).set j (.fz (e2 a))) c (bt a))
    (he : ∀ X', Cok X' W N scope k → ∀ a ∈ xs, bt a = true → GE X' (((wipeG G [i, j]).set i (.fz (e1 a))).set j (.fz (e2 a))) elt (g a)) (hs : ∀ x, foldedSetIterable iter X.env x = pure x) :
    GO X G (.ListComp elt [⟨.Tuple [.Name x p, .Name y q] kk p3, iter, [c], 0⟩] scope pos) ((xs.filter bt).map g) :=
  go_lc (G1 := fun a => ((wipeG G [i, j]).set i (.fz (e1 a))).set j (.fz (e2 a))) C [(x, i), (y, j)] ok hi hz (fun X' C' a ha => gg_two C' i j okl okl2) (fun X' C' a ha => gts_one (ht X' C' a ha)) he hs
/-- [elt for a, b in iter] -/
theorem go_lcT {α : Type} {xs : List α} {e1 e2 : α → D} {g : α → D} {kk : Nat} (C : Cok X W N sc k) (i j : Nat) (ok : blkC N sc scope [(x, i), (y, j)] = true) (okl : okL N scope i x = true) (okl2 : okL N scope j y = true) (hi : GIw X G (.Tuple [.Name x p, .Name y q] kk p3) iter (xs.map fun a => .tuple [e1 a, e2 a])) (hz : xs.length ≤ 16777216)
    (he : ∀ X', Cok X' W N scope k → ∀ a ∈ xs, GE X' (((wipeG G [i, j]).set i (.fz (e1 a))).set j (.fz (e2 a))) elt (g a)) (hs : ∀ x, foldedSetIterable iter X.env x = pure x) :
    GO X G (.ListComp elt [⟨.Tuple [.Name x p, .Name y q] kk p3, iter, [], 0⟩] scope pos) (xs.map g) := by
  have h := go_lc (bt := fun _ => true) (G1 := fun a => ((wipeG G [i, j]).set i (.fz (e1 a))).set j (.fz (e2 a))) (pos := pos) C [(x, i), (y, j)] ok hi hz (fun X' C' a ha => gg_two C' i j okl okl2) (fun X' C' a ha => gts_nil) (fun X' C' a ha _ => he X' C' a ha) hs
  rw [show xs.filter (fun _ => true) = xs from List.filter_eq_self.mpr fun _ _ => rfl] at h
  exact h
/-- z = [elt for a, b in iter] -/
theorem gss_lcT {α : Type} {xs : List α} {e1 e2 : α → D} {g : α → D} {kk : Nat} (C : Cok X W N sc k) (l i j : Nat) (okj : okL N sc l z = true) (hyl : loc1B sc z = true) (hk : sc.kind = .function) (ok : blkC N sc scope [(x, i), (y, j)] = true) (okl : okL N scope i x = true) (okl2 : okL N scope j y = true) (hi : GIw X G (.Tuple [.Name x p, .Name y q] kk p3) iter (xs.map fun a => .tuple [e1 a, e2 a])) (hz : xs.length ≤ 16777216)
    (he : ∀ X', Cok X' W N scope k → ∀ a ∈ xs, GE X' (((wipeG G [i, j]).set i (.fz (e1 a))).set j (.fz (e2 a))) elt (g a)) (hl : (p1.line == p2.line) = true) (ha : (scope.names.any fun (n, k) => n == z && (k == .local || k == .cell)) = false) (hs : ∀ x, foldedSetIterable iter X.env x = pure x)
    (hn : GSs X (G.set l (.ow (xs.map g))) sts E) : GSs X G (.Assign [.Name z p1] (.ListComp elt [⟨.Tuple [.Name x p, .Name y q] kk p3, iter, [], 0⟩] scope p2) pos :: sts) E := by
  refine gs_cons (gs_asgLc (bt := fun _ => true) (G1 := fun a => ((wipeG G [i, j]).set i (.fz (e1 a))).set j (.fz (e2 a))) C l [(x, i), (y, j)] okj hyl hk ok hi hz (fun X' C' a ha => gg_two C' i j okl okl2) (fun X' C' a ha => gts_nil) (fun X' C' a ha _ => he X' C' a ha) ?_ hl ha hs)
  rw [show xs.filter (fun _ => true) = xs from List.filter_eq_self.mpr fun _ _ => rfl]
  exact hn
end
theorem ge_listL {X : Cx} {G : Gm} {e : Expr} {ds : List D} {W : Wd} {N : List Str} {sc : Scope} {k : Nat} {p pos : Pos} (C : Cok X W N sc k) (hg : glB sc "list" = true) (hm : W.mg "list" = none) (ha : GL X G e ds) (he : nst e = true) : GE X G (.Call (.Name "list" p) [e] [] pos) (.list ds) := GO.ge (go_list C hg hm ha he)
end DW

namespace DW
open PySem PySem.Spec PyProof.Rows L2
def way (P Q : P3) : P3 := ⟨Q.x - P.x, Q.y - P.y, Q.z - P.z⟩
def cross (u v : P3) : P3 := ⟨u.y * v.z - u.z * v.y, u.z * v.x - u.x * v.z, u.x * v.y - u.y * v.x⟩
def prod (u v : P3) : Int := u.x * v.x + u.y * v.y + u.z * v.z
def lift (P Q R S : P3) : Int := prod (cross (way P Q) (way P R)) (way P S)
structure P3.Bd (n : Nat) (u : P3) : Prop where
  x : DW.Bd n u.x
  y : DW.Bd n u.y
  z : DW.Bd n u.z
theorem P3.ext {u v : P3} (h1 : u.x = v.x) (h2 : u.y = v.y) (h3 : u.z = v.z) : u = v := by
  obtain ⟨a, b, c⟩ := u
  obtain ⟨a', b', c'⟩ := v
  cases h1
  cases h2
  cases h3
  rfl
def sideA (p : Pl) (P : P3) : Int := if prod p.n P - p.d > 0 then 1 else if prod p.n P - p.d < 0 then -1 else 0
theorem P3.Bd.mono {n m : Nat} {u : P3} (h : P3.Bd n u) (e : n ≤ m) : P3.Bd m u := ⟨h.x.mono e, h.y.mono e, h.z.mono e⟩
theorem P3.Bd.way {n : Nat} {u v : P3} (h : P3.Bd n u) (g : P3.Bd n v) : P3.Bd (n + 1) (way u v) := ⟨(g.x.sub h.x).mono (by omega), (g.y.sub h.y).mono (by omega), (g.z.sub h.z).mono (by omega)⟩
theorem P3.Bd.cross {n : Nat} {u v : P3} (h : P3.Bd n u) (g : P3.Bd n v) : P3.Bd (n + n + 1) (cross u v) := ⟨((h.y.mul g.z).sub (h.z.mul g.y)).mono (by omega), ((h.z.mul g.x).sub (h.x.mul g.z)).mono (by omega), ((h.x.mul g.y).sub (h.y.mul g.x)).mono (by omega)⟩
theorem P3.Bd.prod {n : Nat} {u v : P3} (h : P3.Bd n u) (g : P3.Bd n v) : DW.Bd (n + n + 2) (prod u v) := (((h.x.mul g.x).add (h.y.mul g.y)).add (h.z.mul g.z)).mono (by omega)
def p3g (w : P3) : Int := Int.gcd (Int.gcd w.x w.y) w.z
theorem p3g_pos {w : P3} (h : ¬(w.x = 0 ∧ w.y = 0 ∧ w.z = 0)) : 0 < p3g w := by
  unfold p3g
  have h0 : Int.gcd (Int.gcd w.x w.y) w.z ≠ 0 := by
    intro e
    rw [Int.gcd_eq_zero_iff] at e
    have e2 : Int.gcd w.x w.y = 0 := by omega
    rw [Int.gcd_eq_zero_iff] at e2
    exact h ⟨e2.1, e2.2, e.2⟩
  omega
theorem p3g_bd {w : P3} {n : Nat} (h : P3.Bd n w) (hp : 0 < p3g w) : Bd n (p3g w) := by
  have d1 : (p3g w) ∣ w.x := Int.dvd_trans (Int.gcd_dvd_left ..) (Int.gcd_dvd_left ..)
  have d2 : (p3g w) ∣ w.y := Int.dvd_trans (Int.gcd_dvd_left ..) (Int.gcd_dvd_right ..)
  have d3 : (p3g w) ∣ w.z := Int.gcd_dvd_right ..
  have key : ∀ z : Int, Bd n z → p3g w ∣ z → z ≠ 0 → Bd n (p3g w) := fun z hz hd h0 => by
    have := Nat.le_of_dvd (by omega) (Int.natAbs_dvd_natAbs.mpr hd)
    exact Nat.lt_of_le_of_lt this hz
  by_cases hx : w.x = 0
  · by_cases hy : w.y = 0
    · by_cases hz : w.z = 0
      · exfalso
        unfold p3g at hp
        rw [hx, hy, hz] at hp
        exact absurd hp (by decide)
      · exact key _ h.z d3 hz
    · exact key _ h.y d2 hy
  · exact key _ h.x d1 hx
def divP (w : P3) (m : Int) : P3 := ⟨w.x / m, w.y / m, w.z / m⟩
def planeOf (c P : P3) : Pl := ⟨divP c (p3g c), prod (divP c (p3g c)) P⟩
def planeA (P Q R : P3) : Pl := planeOf (cross (way P Q) (way P R)) P
theorem P3.Bd.divP {n : Nat} {w : P3} {m : Int} (h : P3.Bd n w) (hm : 0 < m) : P3.Bd n (divP w m) := ⟨h.x.div hm, h.y.div hm, h.z.div hm⟩
theorem gcd_nat_left (a b : Int) : Int.gcd ((Int.gcd 0 a : Nat) : Int) b = Int.gcd a b := by
  rw [Int.gcd_zero_left]
  show Nat.gcd (Int.natAbs ((a.natAbs : Nat) : Int)) b.natAbs = Nat.gcd a.natAbs b.natAbs
  rw [Int.natAbs_natCast]
theorem p3g_fold (w : P3) : ((Int.gcd ((Int.gcd ((Int.gcd 0 w.x : Nat) : Int) w.y : Nat) : Int) w.z : Nat) : Int) = p3g w := by
  unfold p3g
  rw [gcd_nat_left]
theorem p3g_div {w : P3} (h : 0 < p3g w) : w.x = (w.x / p3g w) * p3g w ∧ w.y = (w.y / p3g w) * p3g w ∧ w.z = (w.z / p3g w) * p3g w := by
  have d1 : (p3g w) ∣ w.x := Int.dvd_trans (Int.gcd_dvd_left ..) (Int.gcd_dvd_left ..)
  have d2 : (p3g w) ∣ w.y := Int.dvd_trans (Int.gcd_dvd_left ..) (Int.gcd_dvd_right ..)
  have d3 : (p3g w) ∣ w.z := Int.gcd_dvd_right ..
  exact ⟨(Int.ediv_mul_cancel d1).symm, (Int.ediv_mul_cancel d2).symm, (Int.ediv_mul_cancel d3).symm⟩
theorem P3.Bd.mem {n : Nat} {u : P3} {a : Int} (h : P3.Bd n u) (m : a ∈ [u.x, u.y, u.z]) : DW.Bd n a := by
  simp only [List.mem_cons, List.not_mem_nil, or_false] at m
  rcases m with rfl | rfl | rfl
  · exact h.x
  · exact h.y
  · exact h.z
theorem lagrange (u v : P3) : prod (cross u v) (cross u v) + prod u v * prod u v = prod u u * prod v v := by
  obtain ⟨a, b, c⟩ := u
  obtain ⟨d, e, f⟩ := v
  simp only [prod, cross]
  grind
theorem sgn_mul {z g l : Int} (hg : 0 < g) (key : l = z * g) : (if z > 0 then (1 : Int) else if z < 0 then -1 else 0) = (if l > 0 then 1 else 0) - (if l < 0 then 1 else 0) := by
  subst key
  rcases Int.lt_trichotomy z 0 with h | h | h
  · have : z * g < 0 := Int.mul_neg_of_neg_of_pos h hg
    rw [if_neg (by omega), if_pos h, if_neg (by omega), if_pos this]
    rfl
  · subst h
    simp
  · have : 0 < z * g := Int.mul_pos h hg
    rw [if_pos h, if_pos this, if_neg (by omega)]
    rfl
theorem lift_plane {P Q S T : P3} (hg : 0 < p3g (cross (way P Q) (way P S))) : lift P Q S T = (prod (planeA P Q S).n T - (planeA P Q S).d) * p3g (cross (way P Q) (way P S)) := by
  obtain ⟨q1, q2, q3⟩ := p3g_div hg
  show prod (cross (way P Q) (way P S)) (way P T) = (prod (divP _ _) T - prod (divP _ _) P) * _
  generalize p3g (cross (way P Q) (way P S)) = g at q1 q2 q3
  generalize cross (way P Q) (way P S) = c at q1 q2 q3
  simp only [prod, way, divP]
  generalize c.x / g = a at q1
  generalize c.y / g = b at q2
  generalize c.z / g = d at q3
  rw [q1, q2, q3]
  obtain ⟨p1, p2, p3⟩ := P
  obtain ⟨t1, t2, t3⟩ := T
  clear q1 q2 q3 hg
  grind
theorem faces_zero (P Q S T : P3) : (⟨(cross (way P Q) (way P S)).x + ((cross (way P S) (way P T)).x + ((cross (way P T) (way P Q)).x + ((cross (way Q T) (way Q S)).x + 0))), (cross (way P Q) (way P S)).y + ((cross (way P S) (way P T)).y + ((cross (way P T) (way P Q)).y + ((cross (way Q T) (way Q S)).y + 0))), (cross (way P Q) (way P S)).z + ((cross (way P S) (way P T)).z + ((cross (way P T) (way P Q)).z + ((cross (way Q T) (way Q S)).z + 0)))⟩ : P3) = ⟨0, 0, 0⟩ := by
  simp only [cross, way]
  apply P3.ext
  all_goals
    dsimp only
    grind
theorem P3.Bd.at {n : Nat} {u : P3} {a : Int} (h : P3.Bd n u) : DW.Bd n (u.at a) := by
  unfold P3.at
  split
  · exact h.x
  · split
    · exact h.y
    · exact h.z
theorem cross_cyc (P Q S : P3) : cross (way Q S) (way Q P) = cross (way P Q) (way P S) := by
  apply P3.ext
  all_goals
    simp only [cross, way]
    grind
def negP (u : P3) : P3 := ⟨-u.x, -u.y, -u.z⟩
theorem cross_sw (u v : P3) : cross v u = negP (cross u v) := by
  apply P3.ext
  all_goals
    simp only [cross, negP]
    grind
theorem p3g_neg (u : P3) : p3g (negP u) = p3g u := by
  unfold p3g negP
  simp only [Int.gcd_neg, Int.neg_gcd]
theorem lift_self (P Q S : P3) : lift P Q S Q = 0 ∧ lift P Q S S = 0 := by
  simp only [lift, prod, cross, way]
  constructor
  · grind
  · grind
theorem plane_on {P Q S : P3} (hg : 0 < p3g (cross (way P Q) (way P S))) : prod (planeA P Q S).n Q = (planeA P Q S).d ∧ prod (planeA P Q S).n S = (planeA P Q S).d := by
  have h1 := lift_plane (T := Q) hg
  have h2 := lift_plane (T := S) hg
  rw [(lift_self P Q S).1] at h1
  rw [(lift_self P Q S).2] at h2
  have e1 := (Int.mul_eq_zero.mp h1.symm).resolve_right (by omega)
  have e2 := (Int.mul_eq_zero.mp h2.symm).resolve_right (by omega)
  omega
theorem planeA_cyc {P Q S : P3} (hg : 0 < p3g (cross (way P Q) (way P S))) : planeA Q S P = planeA P Q S := by
  have h := (plane_on hg).1
  show planeOf (cross (way Q S) (way Q P)) Q = planeOf (cross (way P Q) (way P S)) P
  rw [cross_cyc]
  unfold planeOf
  congr 1
theorem divP_neg {c : P3} (hg : 0 < p3g c) : divP (negP c) (p3g c) = negP (divP c (p3g c)) := by
  have d1 : (p3g c) ∣ c.x := Int.dvd_trans (Int.gcd_dvd_left ..) (Int.gcd_dvd_left ..)
  have d2 : (p3g c) ∣ c.y := Int.dvd_trans (Int.gcd_dvd_left ..) (Int.gcd_dvd_right ..)
  have d3 : (p3g c) ∣ c.z := Int.gcd_dvd_right ..
  unfold divP negP
  rw [Int.neg_ediv_of_dvd d1, Int.neg_ediv_of_dvd d2, Int.neg_ediv_of_dvd d3]
theorem planeA_sw {P Q S : P3} (hg : 0 < p3g (cross (way P Q) (way P S))) : planeA P S Q = ⟨negP (planeA P Q S).n, -(planeA P Q S).d⟩ := by
  show planeOf (cross (way P S) (way P Q)) P = ⟨negP (divP (cross (way P Q) (way P S)) (p3g (cross (way P Q) (way P S)))), -(prod (divP (cross (way P Q) (way P S)) (p3g (cross (way P Q) (way P S)))) P)⟩
  rw [cross_sw]
  generalize cross (way P Q) (way P S) = c at hg
  unfold planeOf
  rw [p3g_neg, divP_neg hg]
  generalize divP c (p3g c) = n
  congr 1
  simp only [prod, negP]
  grind
end DW

set_option autoImplicit false
namespace DW
/-! ### vectors -/
def det (u a b : P3) : Int := prod (cross u a) b
def sm (k : Int) (u : P3) : P3 := ⟨k * u.x, k * u.y, k * u.z⟩
def ad (u v : P3) : P3 := ⟨u.x + v.x, u.y + v.y, u.z + v.z⟩
def P3.O : P3 := ⟨0, 0, 0⟩
theorem P3.eta (u : P3) : (⟨u.x, u.y, u.z⟩ : P3) = u := rfl
theorem prod_sm (w : P3) (k : Int) (u : P3) : prod w (sm k u) = k * prod w u := by
  simp only [prod, sm]
  grind
theorem prod_ad (w u v : P3) : prod w (ad u v) = prod w u + prod w v := by
  simp only [prod, ad]
  grind
theorem sm_prod (w : P3) (k : Int) (u : P3) : prod (sm k u) w = k * prod u w := by
  simp only [prod, sm]
  grind
theorem ad_prod (w u v : P3) : prod (ad u v) w = prod u w + prod v w := by
  simp only [prod, ad]
  grind
theorem prod_comm (u v : P3) : prod u v = prod v u := by
  simp only [prod]
  grind
theorem prod_way (w P Q : P3) : prod w (way P Q) = prod w Q - prod w P := by
  simp only [prod, way]
  grind
theorem det_rot (u a b : P3) : det u a b = prod u (cross a b) := by
  simp only [det, prod, cross]
  grind
theorem det_sw (u a b : P3) : det u b a = -det u a b := by
  simp only [det, prod, cross]
  grind
theorem det_self (u a : P3) : det u a a = 0 := by
  simp only [det, prod, cross]
  grind
theorem det_cyc (u a b : P3) : det a b u = det u a b := by
  simp only [det, prod, cross]
  grind
theorem det4 (w u a b c : P3) : det a b c * prod w u + det u a c * prod w b = det u b c * prod w a + det u a b * prod w c := by
  simp only [det, prod, cross]
  grind
theorem msn (a : Int) : 0 ≤ a * a := by
  rcases Int.le_total 0 a with h | h
  · exact Int.mul_nonneg h h
  · exact Int.mul_nonneg_of_nonpos_of_nonpos h h
theorem sq_nonneg (u : P3) : 0 ≤ prod u u := by
  have h1 := msn u.x
  have h2 := msn u.y
  have h3 := msn u.z
  simp only [prod]
  omega
theorem mul_self_zero {a : Int} (h : a * a = 0) : a = 0 := by
  rcases Int.mul_eq_zero.mp h with h | h <;> exact h
theorem sq_zero {u : P3} (h : prod u u ≤ 0) : u = P3.O := by
  have h1 := msn u.x
  have h2 := msn u.y
  have h3 := msn u.z
  simp only [prod] at h
  exact P3.ext (mul_self_zero (by omega)) (mul_self_zero (by omega)) (mul_self_zero (by omega))
theorem sq_pos {u : P3} (h : u ≠ P3.O) : 0 < prod u u := by
  have := sq_nonneg u
  rcases Int.lt_or_le 0 (prod u u) with q | q
  · exact q
  · exact (h (sq_zero q)).elim
theorem way_zero {P Q : P3} (h : way P Q = P3.O) : Q = P := by
  simp only [way, P3.O, P3.mk.injEq] at h
  exact P3.ext (by omega) (by omega) (by omega)
theorem way_self (P : P3) : way P P = P3.O := by
  simp only [way, P3.O, Int.sub_self]
theorem way_ne {P Q : P3} (h : Q ≠ P) : way P Q ≠ P3.O := fun e => h (way_zero e)
/-- three ways in one plane through nought have no room -/
theorem det_flat {n a b c : P3} (hn : n ≠ P3.O) (ha : prod n a = 0) (hb : prod n b = 0) (hc : prod n c = 0) : det a b c = 0 := by
  have h := det4 n n a b c
  -- det a b c * |n|^2 + ... = 0
  rw [ha, hb, hc] at h
  have hp := sq_pos hn
  have h' : det a b c * prod n n = 0 := by
    simp only [Int.mul_zero, Int.add_zero] at h
    exact h
  rcases Int.mul_eq_zero.mp h' with q | q
  · exact q
  · omega
/-- w (b) (u a c) = .. -/
theorem det_mid {w u a b c : P3} (h : det a b c = 0 ∨ prod w u = 0) : det u a c * prod w b = det u b c * prod w a + det u a b * prod w c := by
  have := det4 w u a b c
  rcases h with h | h
  · rw [h] at this
    omega
  · rw [h] at this
    omega
/-! ### big numbers -/
theorem bigM {α : Type} (f g : α → Int) : ∀ xs : List α, (∀ x ∈ xs, 0 ≤ f x ∧ (f x = 0 → 0 < g x)) → ∃ M0 : Int, 0 < M0 ∧ ∀ M, M0 ≤ M → ∀ x ∈ xs, 0 < M * f x + g x
  | [], _ => ⟨1, by decide, fun _ _ _ h => by cases h⟩
  | x :: xs, h => by
    obtain ⟨M1, p1, h1⟩ := bigM f g xs fun y hy => h y (List.mem_cons_of_mem _ hy)
    obtain ⟨h2, h3⟩ := h x List.mem_cons_self
    have hx : ∃ M2 : Int, 0 < M2 ∧ ∀ M, M2 ≤ M → 0 < M * f x + g x := by
      by_cases e : f x = 0
      · refine ⟨1, by decide, fun M _ => ?_⟩
        rw [e, Int.mul_zero]
        have := h3 e
        omega
      · refine ⟨(if g x < 0 then -(g x) else 0) + 1, by split <;> omega, fun M hM => ?_⟩
        have h4 : M * 1 ≤ M * f x := Int.mul_le_mul_of_nonneg_left (by omega) (by split at hM <;> omega)
        split at hM <;> omega
    obtain ⟨M2, p2, h4⟩ := hx
    refine ⟨max M1 M2, by omega, fun M hM y hy => ?_⟩
    rcases List.mem_cons.mp hy with e | e
    · subst e
      exact h4 M (by omega)
    · exact h1 M (by omega) y e
/-! ### the best of a list -/
section
variable {α : Type}
def bestS (skip : α → Bool) (cond : α → α → Bool) (o : Option α) (r : α) : Option α :=
  if skip r then o else match o with
  | none => some r
  | some b => if cond b r then some r else some b
def bestOf (skip : α → Bool) (cond : α → α → Bool) (xs : List α) : Option α := xs.foldl (bestS skip cond) none
def BestI (skip : α → Bool) (le : α → α → Prop) (ps : List α) : Option α → Prop
  | none => ∀ r ∈ ps, skip r = true
  | some b => b ∈ ps ∧ skip b = false ∧ ∀ r ∈ ps, skip r = false → le b r
theorem best_step {skip : α → Bool} {cond : α → α → Bool} {le : α → α → Prop} {D : α → Prop}
    (h1 : ∀ b r, D b → D r → cond b r = true → le r b) (h2 : ∀ b r, D b → D r → cond b r = false → le b r) (tr : ∀ a b c, D a → D b → D c → le a b → le b c → le a c) (rf : ∀ a, D a → le a a)
    {ps : List α} {r : α} {o : Option α} (hp : ∀ x ∈ ps, skip x = false → D x) (hr : skip r = false → D r) (I : BestI skip le ps o) : BestI skip le (ps ++ [r]) (bestS skip cond o r) := by
  unfold bestS
  cases hs : skip r with
  | true =>
    rw [if_pos rfl]
    cases o with
    | none =>
      intro x hx
      rcases List.mem_append.mp hx with q | q
      · exact I x q
      · rw [List.mem_singleton.mp q]
        exact hs
    | some b =>
      obtain ⟨i1, i2, i3⟩ := I
      refine ⟨List.mem_append_left _ i1, i2, fun x hx hx2 => ?_⟩
      rcases List.mem_append.mp hx with q | q
      · exact i3 x q hx2
      · rw [List.mem_singleton.mp q, hs] at hx2
        cases hx2
  | false =>
    rw [if_neg (by decide)]
    have dr := hr hs
    cases o with
    | none =>
      refine ⟨List.mem_append_right _ (List.mem_singleton.mpr rfl), hs, fun x hx hx2 => ?_⟩
      rcases List.mem_append.mp hx with q | q
      · rw [I x q] at hx2
        cases hx2
      · rw [List.mem_singleton.mp q]
        exact rf r dr
    | some b =>
      obtain ⟨i1, i2, i3⟩ := I
      have db := hp b i1 i2
      show BestI skip le (ps ++ [r]) (if cond b r = true then some r else some b)
      cases hc : cond b r with
      | true =>
        rw [if_pos rfl]
        refine ⟨List.mem_append_right _ (List.mem_singleton.mpr rfl), hs, fun x hx hx2 => ?_⟩
        rcases List.mem_append.mp hx with q | q
        · exact tr r b x dr db (hp x q hx2) (h1 b r db dr hc) (i3 x q hx2)
        · rw [List.mem_singleton.mp q]
          exact rf r dr
      | false =>
        rw [if_neg (by decide)]
        refine ⟨List.mem_append_left _ i1, i2, fun x hx hx2 => ?_⟩
        rcases List.mem_append.mp hx with q | q
        · exact i3 x q hx2
        · rw [List.mem_singleton.mp q]
          exact h2 b r db dr hc
theorem best_all {skip : α → Bool} {cond : α → α → Bool} {le : α → α → Prop} {D : α → Prop}
    (h1 : ∀ b r, D b → D r → cond b r = true → le r b) (h2 : ∀ b r, D b → D r → cond b r = false → le b r) (tr : ∀ a b c, D a → D b → D c → le a b → le b c → le a c) (rf : ∀ a, D a → le a a) :
    ∀ (xs ps : List α) (o : Option α), (∀ x ∈ ps ++ xs, skip x = false → D x) → BestI skip le ps o → BestI skip le (ps ++ xs) (xs.foldl (bestS skip cond) o)
  | [], ps, o, _, I => by
    rw [List.append_nil]
    exact I
  | r :: xs, ps, o, hp, I => by
    have e : ps ++ r :: xs = (ps ++ [r]) ++ xs := by simp
    rw [e, List.foldl_cons]
    refine best_all h1 h2 tr rf xs (ps ++ [r]) _ (by rw [← e]; exact hp) (best_step h1 h2 tr rf (fun x hx => hp x (List.mem_append_left _ hx)) (hp r (List.mem_append_right _ List.mem_cons_self)) I)
theorem best_ok {skip : α → Bool} {cond : α → α → Bool} {le : α → α → Prop} {D : α → Prop}
    (h1 : ∀ b r, D b → D r → cond b r = true → le r b) (h2 : ∀ b r, D b → D r → cond b r = false → le b r) (tr : ∀ a b c, D a → D b → D c → le a b → le b c → le a c) (rf : ∀ a, D a → le a a)
    (xs : List α) (hp : ∀ x ∈ xs, skip x = false → D x) : BestI skip le xs (bestOf skip cond xs) := by
  have := best_all h1 h2 tr rf xs [] none (by simpa using hp) (fun _ h => by cases h)
  simpa [bestOf] using this
end
/-! ### extreme points -/
structure Ext (S : List P3) (v : P3) : Prop where
  mem : v ∈ S
  ex : ∃ w : P3, ∀ R ∈ S, R ≠ v → 0 < prod w (way v R)
def LeP (u v : P3) : Prop := u.x < v.x ∨ (u.x = v.x ∧ (u.y < v.y ∨ (u.y = v.y ∧ u.z ≤ v.z)))
theorem LeP.antisymm {u v : P3} (h : LeP u v) (g : LeP v u) : u = v := by
  unfold LeP at h g
  exact P3.ext (by omega) (by omega) (by omega)
theorem least_ext {S : List P3} {v : P3} (hm : v ∈ S) (h : ∀ R ∈ S, LeP v R) : Ext S v := by
  refine ⟨hm, ?_⟩
  obtain ⟨M1, _, h1⟩ := bigM (fun R : P3 => R.y - v.y) (fun R => R.z - v.z) (S.filter fun R => decide (R ≠ v ∧ R.x = v.x)) (fun R hR => by
    obtain ⟨q1, q2⟩ := List.mem_filter.mp hR
    obtain ⟨q3, q4⟩ := of_decide_eq_true q2
    have q5 := h R q1
    unfold LeP at q5
    refine ⟨by omega, fun e => ?_⟩
    have : R.z ≠ v.z := fun e2 => q3 (P3.ext q4 (by omega) e2)
    omega)
  obtain ⟨M2, _, h2⟩ := bigM (fun R : P3 => R.x - v.x) (fun R => M1 * (R.y - v.y) + (R.z - v.z)) (S.filter fun R => decide (R ≠ v)) (fun R hR => by
    obtain ⟨q1, q2⟩ := List.mem_filter.mp hR
    have q3 := of_decide_eq_true q2
    have q5 := h R q1
    unfold LeP at q5
    refine ⟨by omega, fun e => ?_⟩
    exact h1 M1 (Int.le_refl _) R (List.mem_filter.mpr ⟨q1, decide_eq_true ⟨q3, by omega⟩⟩))
  refine ⟨⟨M2, M1, 1⟩, fun R hR hne => ?_⟩
  have := h2 M2 (Int.le_refl _) R (List.mem_filter.mpr ⟨hR, decide_eq_true hne⟩)
  simp only [prod, way]
  omega
end DW

set_option autoImplicit false
namespace DW
/-! ### the next one on a ring -/
def tn (n P Q R : P3) : Int := prod n (cross (way P Q) (way P R))
def GoodE (n P Q R : P3) : Prop := 0 < tn n P Q R ∨ (tn n P Q R = 0 ∧ prod (way P R) (way P R) ≤ prod (way P Q) (way P Q))
def nxCond (n P B Q : P3) : Bool := decide (tn n P B Q < 0 ∨ (tn n P B Q = 0 ∧ prod (way P B) (way P B) < prod (way P Q) (way P Q)))
def nextOn (n P : P3) (S : List P3) : Option P3 := bestOf (fun Q => decide (Q = P)) (nxCond n P) S
structure Edge (n : P3) (S : List P3) (P Q : P3) : Prop where
  p : P ∈ S
  q : Q ∈ S
  ne : Q ≠ P
  all : ∀ R ∈ S, R ≠ P → GoodE n P Q R
def OnP (n : P3) (S : List P3) : Prop := ∃ d, ∀ R ∈ S, prod n R = d
theorem OnP.way {n : P3} {S : List P3} (h : OnP n S) {P Q : P3} (hp : P ∈ S) (hq : Q ∈ S) : prod n (way P Q) = 0 := by
  obtain ⟨d, h⟩ := h
  rw [prod_way, h P hp, h Q hq]
  omega
theorem tn_det (n P Q R : P3) : tn n P Q R = det n (way P Q) (way P R) := (det_rot _ _ _).symm
theorem tn_sw (n P Q R : P3) : tn n P R Q = -tn n P Q R := by
  rw [tn_det, tn_det, det_sw]
theorem tn_back (n P Q R : P3) : tn n Q P R = -tn n P Q R := by
  simp only [tn, prod, cross, DW.way]
  grind
theorem tn_cyc (n P Q R : P3) : tn n Q R P = tn n P Q R := by
  simp only [tn, prod, cross, DW.way]
  grind
theorem tn_self (n P Q : P3) : tn n P Q Q = 0 := by
  rw [tn_det, det_self]
theorem tn_zero (n P Q : P3) : tn n P Q P = 0 := by
  simp only [tn, prod, cross, DW.way]
  grind
theorem next_ok {n P : P3} {S : List P3} (hn : n ≠ P3.O) (ho : OnP n S) (he : Ext S P) : match nextOn n P S with
    | none => ∀ R ∈ S, R = P
    | some Q => Edge n S P Q := by
  obtain ⟨hm, w, hw⟩ := he
  have key := best_ok (skip := fun Q => decide (Q = P)) (cond := nxCond n P) (le := GoodE n P) (D := fun R => prod n (way P R) = 0 ∧ 0 < prod w (way P R))
    (fun b r _ _ hc => by
      unfold nxCond at hc
      have := of_decide_eq_true hc
      unfold GoodE
      rw [tn_sw]
      omega) (fun b r _ _ hc => by
      unfold nxCond at hc
      have := of_decide_eq_false hc
      unfold GoodE
      omega) (fun a b c ⟨a1, a2⟩ ⟨b1, b2⟩ ⟨c1, c2⟩ h1 h2 => by
      unfold GoodE at *
      rw [tn_det] at *
      have m := det_mid (w := w) (u := n) (.inl (det_flat hn a1 b1 c1))
      generalize prod w (way P a) = wa at *
      generalize prod w (way P b) = wb at *
      generalize prod w (way P c) = wc at *
      generalize det n (way P a) (way P b) = ab at *
      generalize det n (way P b) (way P c) = bc at *
      generalize det n (way P a) (way P c) = ac at *
      have k1 : 0 ≤ ab := by omega
      have k2 : 0 ≤ bc := by omega
      have k3 : 0 ≤ bc * wa := Int.mul_nonneg k2 (by omega)
      have k4 : 0 ≤ ab * wc := Int.mul_nonneg k1 (by omega)
      rcases h1 with h1 | ⟨h1, h1'⟩
      · have k5 : 0 < ab * wc := Int.mul_pos h1 c2
        refine .inl ?_
        exact Int.pos_of_mul_pos_left (b := wb) (by omega) b2
      · rcases h2 with h2 | ⟨h2, h2'⟩
        · have k5 : 0 < bc * wa := Int.mul_pos h2 a2
          refine .inl ?_
          exact Int.pos_of_mul_pos_left (b := wb) (by omega) b2
        · refine .inr ⟨?_, by omega⟩
          subst h1 h2
          rw [Int.zero_mul, Int.zero_mul] at m
          rcases Int.mul_eq_zero.mp (show ac * wb = 0 by omega) with q | q
          · exact q
          · omega) (fun a _ => .inr ⟨tn_self _ _ _, Int.le_refl _⟩) S (fun x hx hs => ⟨ho.way hm hx, hw x hx (of_decide_eq_false hs)⟩)
  unfold nextOn
  cases hb : bestOf (fun Q => decide (Q = P)) (nxCond n P) S with
  | none =>
    rw [hb] at key
    exact fun R hR => of_decide_eq_true (key R hR)
  | some Q =>
    rw [hb] at key
    obtain ⟨k1, k2, k3⟩ := key
    exact ⟨hm, k1, of_decide_eq_false k2, fun R hR hne => k3 R hR (decide_eq_false hne)⟩
theorem Edge.tn {n P Q R : P3} {S : List P3} (e : Edge n S P Q) (hR : R ∈ S) : 0 ≤ tn n P Q R := by
  by_cases h : R = P
  · subst h
    rw [tn_zero]
    exact Int.le_refl _
  · rcases e.all R hR h with q | q
    · omega
    · omega
theorem sq_far {P Q R : P3} (h : prod (way P R) (way P R) ≤ prod (way P Q) (way P Q)) (hne : R ≠ Q) : 0 < prod (way Q P) (way Q R) := by
  have h1 := sq_pos (way_ne hne)
  simp only [prod, DW.way] at *
  grind
theorem Edge.ext {n P Q : P3} {S : List P3} (e : Edge n S P Q) : Ext S Q := by
  have key : ∀ R, prod (cross n (way P Q)) (way Q R) = DW.tn n P Q R := fun R => by
    simp only [DW.tn, prod, cross, DW.way]
    grind
  obtain ⟨M, _, hM⟩ := bigM (fun R => DW.tn n P Q R) (fun R => prod (way Q P) (way Q R)) (S.filter fun R => decide (R ≠ Q)) (fun R hR => by
    obtain ⟨q1, q2⟩ := List.mem_filter.mp hR
    have q3 := of_decide_eq_true q2
    refine ⟨e.tn q1, fun z => ?_⟩
    by_cases hp : R = P
    · subst hp
      exact sq_pos (way_ne e.ne.symm)
    · rcases e.all R q1 hp with q | ⟨_, q⟩
      · omega
      · exact sq_far q q3)
  refine ⟨e.q, ad (sm M (cross n (way P Q))) (way Q P), fun R hR hne => ?_⟩
  rw [ad_prod, sm_prod, key]
  exact hM M (Int.le_refl _) R (List.mem_filter.mpr ⟨hR, decide_eq_true hne⟩)
theorem par_of {n a b : P3} (hn : n ≠ P3.O) (ha : prod n a = 0) (hb : prod n b = 0) (h : det n a b = 0) : cross a b = P3.O := by
  have hp := sq_pos hn
  have h2 : prod n (cross a b) = 0 := by
    rw [← det_rot]
    exact h
  have h3 : cross n (cross a b) = P3.O := by
    have e : cross n (cross a b) = ad (sm (prod n b) a) (sm (-prod n a) b) := by
      apply P3.ext
      all_goals
        simp only [cross, ad, sm, prod]
        grind
    rw [e, ha, hb]
    simp only [ad, sm, P3.O, Int.zero_mul, Int.neg_zero, Int.add_zero]
  have h4 : prod (cross n (cross a b)) (cross n (cross a b)) + prod n (cross a b) * prod n (cross a b) = prod n n * prod (cross a b) (cross a b) := by
    generalize cross a b = c
    simp only [prod, cross]
    grind
  rw [h3, h2] at h4
  have h5 : prod P3.O P3.O = 0 := rfl
  rw [h5] at h4
  rcases Int.mul_eq_zero.mp h4.symm with q | q
  · omega
  · exact sq_zero (by omega)
theorem par_eq {a b : P3} (h : cross a b = P3.O) (w v : P3) : prod w a * prod v b = prod w b * prod v a := by
  have e : prod (cross w v) (cross a b) = prod w a * prod v b - prod w b * prod v a := by
    simp only [cross, prod]
    grind
  rw [h] at e
  have : prod (cross w v) P3.O = 0 := by
    simp only [prod, P3.O, Int.mul_zero, Int.add_zero]
  omega
theorem no_btw {P R Q w w' : P3} (hc : cross (way P Q) (way P R) = P3.O) (a1 : 0 < prod w (way P Q)) (a2 : 0 < prod w (way P R)) (hs : prod (way P R) (way P R) ≤ prod (way P Q) (way P Q)) (a3 : 0 < prod w' (way R P)) (a4 : 0 < prod w' (way R Q)) : False := by
  have hne : R ≠ P := fun e => by
    subst e
    rw [way_self] at a2
    simp [prod, P3.O] at a2
  have b1 := par_eq hc w w'
  have b2 := par_eq hc w (way P Q)
  have b3 := par_eq hc w (way P R)
  have e1 : prod w' (way R P) = -prod w' (way P R) := by
    simp only [prod_way]
    omega
  have e2 : prod w' (way R Q) = prod w' (way P Q) - prod w' (way P R) := by
    simp only [prod_way]
    omega
  rw [e1] at a3
  rw [e2] at a4
  have e3 : prod (way P R) (way P Q) = prod (way P Q) (way P R) := prod_comm _ _
  rw [e3] at b3
  generalize prod w (way P Q) = al at *
  generalize prod w (way P R) = rh at *
  generalize prod w' (way P Q) = wa at *
  generalize prod w' (way P R) = wr at *
  generalize prod (way P Q) (way P R) = ar at *
  generalize prod (way P Q) (way P Q) = aa at *
  have hrr := sq_pos (way_ne hne)
  generalize prod (way P R) (way P R) = rr at *
  clear e1 e2 e3 hc
  have c1 : rh * wa < 0 := by
    rw [← b1]
    exact Int.mul_neg_of_pos_of_neg a1 (by omega)
  have c2 : wa < 0 := by
    rcases Int.lt_or_le wa 0 with q | q
    · exact q
    · have := Int.mul_nonneg (show 0 ≤ rh by omega) q
      omega
  have c3 : al < rh := by
    rcases Int.lt_or_le al rh with q | q
    · exact q
    · have d1 : al * wr < al * wa := Int.mul_lt_mul_of_pos_left (by omega) a1
      have d2 : al * wa ≤ rh * wa := Int.mul_le_mul_of_nonpos_right q (by omega)
      omega
  have c4 : al * al * rr = rh * rh * aa := by
    have : al * (al * rr) = rh * (al * ar) := by
      rw [b3]
      grind
    rw [b2] at this
    grind
  have c5 : al * al * rr < rh * rh * rr := by
    have d1 : al * al < al * rh := Int.mul_lt_mul_of_pos_left c3 a1
    have d2 : al * rh < rh * rh := Int.mul_lt_mul_of_pos_right c3 (by omega)
    have : al * al < rh * rh := by omega
    exact Int.mul_lt_mul_of_pos_right this hrr
  have c6 : rh * rh * rr ≤ rh * rh * aa := Int.mul_le_mul_of_nonneg_left hs (msn rh)
  omega
theorem Edge.inj {n P P' Q : P3} {S : List P3} (hn : n ≠ P3.O) (ho : OnP n S) (e : Edge n S P Q) (e' : Edge n S P' Q) (x : Ext S P) (x' : Ext S P') : P' = P := by
  refine Decidable.byContradiction fun hne => ?_
  have h1 := e.tn e'.p
  have h2 := e'.tn e.p
  have h3 : DW.tn n P' Q P = -DW.tn n P Q P' := by rw [tn_cyc, tn_sw]
  have h0 : DW.tn n P Q P' = 0 := by omega
  have hs : prod (way P P') (way P P') ≤ prod (way P Q) (way P Q) := by
    rcases e.all P' e'.p hne with q | ⟨_, q⟩
    · omega
    · exact q
  have hc : cross (way P Q) (way P P') = P3.O := par_of hn (ho.way e.p e.q) (ho.way e.p e'.p) (by rw [← tn_det]; exact h0)
  obtain ⟨_, w, hw⟩ := x
  obtain ⟨_, w', hw'⟩ := x'
  exact no_btw hc (hw Q e.q e.ne) (hw P' e'.p hne) hs (hw' P e.p (fun z => hne z.symm)) (hw' Q e.q e'.ne)
/-- two from one -/
theorem Edge.uniq {n P Q Q' : P3} {S : List P3} (hn : n ≠ P3.O) (ho : OnP n S) (e : Edge n S P Q) (e' : Edge n S P Q') (x : Ext S P) : Q' = Q := by
  have h1 := e.tn e'.q
  have h2 := e'.tn e.q
  have h3 : DW.tn n P Q' Q = -DW.tn n P Q Q' := tn_sw _ _ _ _
  have h0 : DW.tn n P Q Q' = 0 := by omega
  have s1 : prod (way P Q') (way P Q') ≤ prod (way P Q) (way P Q) := by
    rcases e.all Q' e'.q e'.ne with q | ⟨_, q⟩
    · omega
    · exact q
  have s2 : prod (way P Q) (way P Q) ≤ prod (way P Q') (way P Q') := by
    rcases e'.all Q e.q e.ne with q | ⟨_, q⟩
    · omega
    · exact q
  have hc : cross (way P Q) (way P Q') = P3.O := par_of hn (ho.way e.p e.q) (ho.way e.p e'.q) (by rw [← tn_det]; exact h0)
  obtain ⟨_, w, hw⟩ := x
  have a1 := hw Q e.q e.ne
  have a2 := hw Q' e'.q e'.ne
  have b2 := par_eq hc w (way P Q)
  have b3 := par_eq hc w (way P Q')
  rw [prod_comm (way P Q') (way P Q)] at b3
  have hz : prod (way Q Q') (way Q Q') = prod (way P Q) (way P Q) - 2 * prod (way P Q) (way P Q') + prod (way P Q') (way P Q') := by
    simp only [prod, DW.way]
    grind
  refine way_zero (sq_zero ?_)
  rw [hz]
  have hrr := sq_pos (way_ne e.ne)
  have s3 : prod (way P Q') (way P Q') = prod (way P Q) (way P Q) := Int.le_antisymm s1 s2
  rw [s3] at b3 ⊢
  generalize prod (way P Q) (way P Q) = aa at *
  generalize prod (way P Q) (way P Q') = ar at *
  generalize prod w (way P Q) = al at *
  generalize prod w (way P Q') = rh at *
  -- al*ar = rh*aa ; al*aa = rh*ar
  have c1 : (al * al) * aa = (rh * rh) * aa := by
    have : al * (al * aa) = rh * (al * ar) := by
      rw [b3]
      grind
    rw [b2] at this
    grind
  have c2 : al * al = rh * rh := Int.eq_of_mul_eq_mul_right (by omega) c1
  have c3 : (al - rh) * (al + rh) = 0 := by grind
  have c4 : al = rh := by
    rcases Int.mul_eq_zero.mp c3 with q | q <;> omega
  subst c4
  have c5 : ar = aa := Int.eq_of_mul_eq_mul_left (by omega) b2
  omega
end DW

set_option autoImplicit false
namespace DW
/-! ### going round -/
section
variable {α : Type}
def iter (f : α → α) : Nat → α → α
  | 0, v => v
  | k + 1, v => f (iter f k v)
theorem iter_add (f : α → α) (a b : Nat) (v : α) : iter f (a + b) v = iter f a (iter f b v) := by
  induction a with
  | zero => rw [Nat.zero_add]; rfl
  | succ a ih =>
    rw [Nat.succ_add]
    show f (iter f (a + b) v) = f (iter f a (iter f b v))
    rw [ih]
theorem iter_mem {f : α → α} {E : α → Prop} (h : ∀ v, E v → E (f v)) {v : α} (hv : E v) : ∀ k, E (iter f k v)
  | 0 => hv
  | k + 1 => h _ (iter_mem h hv k)
theorem iter_inj {f : α → α} {E : α → Prop} (h : ∀ v, E v → E (f v)) (inj : ∀ u v, E u → E v → f u = f v → u = v) {u v : α} (hu : E u) (hv : E v) : ∀ k, iter f k u = iter f k v → u = v
  | 0, e => e
  | k + 1, e => iter_inj h inj hu hv k (inj _ _ (iter_mem h hu k) (iter_mem h hv k) e)
theorem cycle_ex [DecidableEq α] {f : α → α} {E : α → Prop} {xs : List α} (h : ∀ v, E v → E (f v)) (inj : ∀ u v, E u → E v → f u = f v → u = v) (hx : ∀ v, E v → v ∈ xs) {v : α} (hv : E v) : ∃ k, 0 < k ∧ k ≤ xs.length ∧ iter f k v = v := by
  refine Classical.byContradiction fun hno => ?_
  have hd : ∀ i j, i < j → j ≤ xs.length → iter f i v ≠ iter f j v := fun i j hij hj e => by
    apply hno
    refine ⟨j - i, by omega, by omega, ?_⟩
    have : iter f j v = iter f i (iter f (j - i) v) := by
      rw [← iter_add]
      congr 1
      omega
    rw [this] at e
    exact (iter_inj h inj hv (iter_mem h hv _) i e).symm
  have nd : ((List.range (xs.length + 1)).map fun i => iter f i v).Nodup := by
    rw [List.nodup_iff_pairwise_ne, List.pairwise_map]
    refine List.Pairwise.imp_of_mem (R := fun a b => a < b) ?_ List.pairwise_lt_range
    intro a b ha hb hab
    exact hd a b hab (by have := List.mem_range.mp hb; omega)
  have := List.Nodup.length_le_of_subset nd (l₂ := xs) (fun x hx2 => by
    obtain ⟨i, _, rfl⟩ := List.mem_map.mp hx2
    exact hx _ (iter_mem h hv i))
  rw [List.length_map, List.length_range] at this
  omega
/-- the least one -/
theorem least_nat {p : Nat → Prop} (h : ∃ k, p k) : ∃ k, p k ∧ ∀ i, i < k → ¬ p i := by
  obtain ⟨k, hk⟩ := h
  induction k using Nat.strongRecOn with
  | ind k ih =>
    by_cases hx : ∃ i, i < k ∧ p i
    · obtain ⟨i, hi, hp⟩ := hx
      exact ih i hi hp
    · exact ⟨k, hk, fun i hi hp => hx ⟨i, hi, hp⟩⟩
theorem period_ex [DecidableEq α] {f : α → α} {E : α → Prop} {xs : List α} (h : ∀ v, E v → E (f v)) (inj : ∀ u v, E u → E v → f u = f v → u = v) (hx : ∀ v, E v → v ∈ xs) {v : α} (hv : E v) :
    ∃ k, 0 < k ∧ k ≤ xs.length ∧ iter f k v = v ∧ ∀ i, 0 < i → i < k → iter f i v ≠ v := by
  obtain ⟨k, ⟨h1, h2, h3⟩, h4⟩ := least_nat (cycle_ex h inj hx hv)
  exact ⟨k, h1, h2, h3, fun i i0 ik e => h4 i ik ⟨i0, by omega, e⟩⟩
def roundL (f : α → α) (k : Nat) (v : α) : List α := (List.range k).map fun i => iter f i v
theorem roundL_len (f : α → α) (k : Nat) (v : α) : (roundL f k v).length = k := by
  unfold roundL
  rw [List.length_map, List.length_range]
theorem roundL_get {f : α → α} {k i : Nat} {v : α} (h : i < k) : (roundL f k v)[i]? = some (iter f i v) := by
  unfold roundL
  rw [List.getElem?_map, List.getElem?_range h]
  rfl
theorem roundL_nodup [DecidableEq α] {f : α → α} {E : α → Prop} (h : ∀ v, E v → E (f v)) (inj : ∀ u v, E u → E v → f u = f v → u = v) {v : α} (hv : E v) {k : Nat} (hk : ∀ i, 0 < i → i < k → iter f i v ≠ v) : (roundL f k v).Nodup := by
  unfold roundL
  rw [List.nodup_iff_pairwise_ne, List.pairwise_map]
  refine List.Pairwise.imp_of_mem (R := fun a b => a < b) ?_ List.pairwise_lt_range
  intro i j ha hb hij e
  have hj := List.mem_range.mp hb
  have : iter f j v = iter f i (iter f (j - i) v) := by
    rw [← iter_add]
    congr 1
    omega
  rw [this] at e
  exact hk (j - i) (by omega) (by omega) (iter_inj h inj hv (iter_mem h hv _) i e).symm
theorem mem_roundL {f : α → α} {k : Nat} {v u : α} : u ∈ roundL f k v ↔ ∃ i, i < k ∧ iter f i v = u := by
  unfold roundL
  rw [List.mem_map]
  constructor
  · rintro ⟨i, hi, e⟩
    exact ⟨i, List.mem_range.mp hi, e⟩
  · rintro ⟨i, hi, e⟩
    exact ⟨i, List.mem_range.mpr hi, e⟩
theorem roundL_step {f : α → α} {k : Nat} {v u : α} (hk : iter f k v = v) (h0 : 0 < k) (h : u ∈ roundL f k v) : f u ∈ roundL f k v := by
  obtain ⟨i, hi, rfl⟩ := mem_roundL.mp h
  by_cases e : i + 1 = k
  · refine mem_roundL.mpr ⟨0, h0, ?_⟩
    show v = f (iter f i v)
    rw [show f (iter f i v) = iter f (i + 1) v from rfl, e, hk]
  · exact mem_roundL.mpr ⟨i + 1, by omega, rfl⟩
theorem roundL_pred {f : α → α} {k : Nat} {v u : α} (hk : iter f k v = v) (h0 : 0 < k) (h : u ∈ roundL f k v) : ∃ t ∈ roundL f k v, f t = u := by
  obtain ⟨i, hi, rfl⟩ := mem_roundL.mp h
  cases i with
  | zero => exact ⟨iter f (k - 1) v, mem_roundL.mpr ⟨k - 1, by omega, rfl⟩, by
      show f (iter f (k - 1) v) = v
      rw [show f (iter f (k - 1) v) = iter f (k - 1 + 1) v from rfl, show k - 1 + 1 = k by omega, hk]⟩
  | succ i => exact ⟨iter f i v, mem_roundL.mpr ⟨i, by omega, rfl⟩, rfl⟩
theorem min_ex (f : α → Int) : ∀ xs : List α, xs ≠ [] → ∃ v ∈ xs, ∀ u ∈ xs, f v ≤ f u
  | [], h => (h rfl).elim
  | [x], _ => ⟨x, List.mem_cons_self, fun u hu => by rw [List.mem_singleton.mp hu]; exact Int.le_refl _⟩
  | x :: y :: xs, _ => by
    obtain ⟨v, hv, h⟩ := min_ex f (y :: xs) (by simp)
    by_cases e : f x ≤ f v
    · refine ⟨x, List.mem_cons_self, fun u hu => ?_⟩
      rcases List.mem_cons.mp hu with q | q
      · rw [q]
        exact Int.le_refl _
      · exact Int.le_trans e (h u q)
    · refine ⟨v, List.mem_cons_of_mem _ hv, fun u hu => ?_⟩
      rcases List.mem_cons.mp hu with q | q
      · rw [q]
        omega
      · exact h u q
end
/-! ### the ring of a flat set -/
def Spans (S : List P3) : Prop := ∃ A ∈ S, ∃ B ∈ S, ∃ C ∈ S, cross (way A B) (way A C) ≠ P3.O
theorem par_par {a b c : P3} (ha : a ≠ P3.O) (hb : cross a b = P3.O) (hc : cross a c = P3.O) : cross b c = P3.O := by
  have hp := sq_pos ha
  have k1 : ∀ w v : P3, prod w a * prod v b = prod w b * prod v a := par_eq hb
  have k2 : ∀ w v : P3, prod w a * prod v c = prod w c * prod v a := par_eq hc
  -- |a|^2 b = (a b) a
  have hx : ∀ e : P3, prod a a * prod a a * prod e (cross b c) = 0 := fun e => by
    have e1 : prod e (cross b c) = prod (cross e b) c := by
      simp only [prod, cross]
      grind
    have e2 : prod a a * prod (cross e b) c = prod a c * prod (cross e b) a := k2 a _
    have e3 : prod (cross e b) a = -prod (cross e a) b := by
      simp only [prod, cross]
      grind
    have e4 : prod a a * prod (cross e a) b = prod a b * prod (cross e a) a := k1 a _
    have e5 : prod (cross e a) a = 0 := by
      simp only [prod, cross]
      grind
    rw [e1, Int.mul_assoc, e2, e3]
    have : prod a a * (prod a c * -prod (cross e a) b) = -(prod a c * (prod a a * prod (cross e a) b)) := by grind
    rw [this, e4, e5]
    simp
  have h0 : ∀ e : P3, prod e (cross b c) = 0 := fun e => by
    rcases Int.mul_eq_zero.mp (hx e) with q | q
    · have := mul_self_zero q
      omega
    · exact q
  have hh := h0 (cross b c)
  exact sq_zero (by omega)
def nxt (n : P3) (S : List P3) (P : P3) : P3 := (nextOn n P S).getD P
structure Flt (n : P3) (S : List P3) : Prop where
  n0 : n ≠ P3.O
  on : OnP n S
  sp : Spans S
section
variable {n : P3} {S : List P3}
theorem Flt.other (h : Flt n S) (P : P3) : ∃ R ∈ S, R ≠ P := by
  obtain ⟨A, hA, B, hB, C, hC, hne⟩ := h.sp
  refine Classical.byContradiction fun hno => ?_
  have e : ∀ R ∈ S, R = P := fun R hR => Decidable.byContradiction fun z => hno ⟨R, hR, z⟩
  rw [e A hA, e B hB, e C hC, way_self] at hne
  exact hne rfl
theorem Flt.nxt (h : Flt n S) {P : P3} (hP : Ext S P) : Edge n S P (nxt n S P) := by
  have k := next_ok h.n0 h.on hP
  unfold DW.nxt
  cases hb : nextOn n P S with
  | none =>
    rw [hb] at k
    obtain ⟨R, hR, hne⟩ := h.other P
    exact (hne (k R hR)).elim
  | some Q =>
    rw [hb] at k
    exact k
theorem Flt.nxt_ext (h : Flt n S) {P : P3} (hP : Ext S P) : Ext S (DW.nxt n S P) := (h.nxt hP).ext
theorem Flt.nxt_inj (h : Flt n S) {P Q : P3} (hP : Ext S P) (hQ : Ext S Q) (e : DW.nxt n S P = DW.nxt n S Q) : P = Q := by
  have h1 := h.nxt hP
  have h2 := h.nxt hQ
  rw [← e] at h2
  exact (h1.inj h.n0 h.on h2 hP hQ).symm
/-- a corner of the ring turns to the left -/
theorem Flt.turn (h : Flt n S) {P : P3} (hP : Ext S P) : 0 < tn n P (DW.nxt n S P) (DW.nxt n S (DW.nxt n S P)) := by
  have e1 := h.nxt hP
  have hQ := h.nxt_ext hP
  have e2 := h.nxt hQ
  generalize DW.nxt n S P = Q at *
  have hT := e2.ext
  generalize DW.nxt n S Q = T at *
  have h0 := e1.tn e2.q
  rcases Int.lt_or_le 0 (tn n P Q T) with q | q
  · exact q
  exfalso
  have hz : tn n P Q T = 0 := by omega
  by_cases hTP : T = P
  · subst hTP
    -- all on one line
    have hall : ∀ R ∈ S, cross (way T Q) (way T R) = P3.O := fun R hR => by
      refine par_of h.n0 (h.on.way e1.p e1.q) (h.on.way e1.p hR) ?_
      rw [← tn_det]
      have a1 := e1.tn hR
      have a2 := e2.tn hR
      rw [tn_back] at a2
      omega
    obtain ⟨A, hA, B, hB, C, hC, hne⟩ := h.sp
    apply hne
    have hq : way T Q ≠ P3.O := way_ne e1.ne
    have x1 := hall A hA
    have lin : ∀ R ∈ S, cross (way T Q) (way A R) = P3.O := fun R hR => by
      have x2 := hall R hR
      have : cross (way T Q) (way A R) = ad (cross (way T Q) (way T R)) (sm (-1) (cross (way T Q) (way T A))) := by
        apply P3.ext
        all_goals
          simp only [cross, ad, sm, way]
          grind
      rw [this, x1, x2]
      rfl
    exact par_par hq (lin B hB) (lin C hC)
  · obtain ⟨_, w, hw⟩ := hQ
    obtain ⟨_, w', hw'⟩ := hP
    have hz2 : tn n Q T P = 0 := by rw [tn_cyc]; exact hz
    have hc : cross (way Q T) (way Q P) = P3.O := par_of h.n0 (h.on.way e2.p e2.q) (h.on.way e2.p e1.p) (by rw [← tn_det]; exact hz2)
    have hs : prod (way Q P) (way Q P) ≤ prod (way Q T) (way Q T) := by
      rcases e2.all P e1.p e1.ne.symm with q | ⟨_, q⟩
      · omega
      · exact q
    exact no_btw hc (hw T e2.q e2.ne) (hw P e1.p e1.ne.symm) hs (hw' Q e1.q e1.ne) (hw' T e2.q hTP)
/-- what lies on the plane, seen from a corner -/
theorem corner_dec {P Q T y w : P3} (hn : n ≠ P3.O) (h1 : prod n (way Q P) = 0) (h2 : prod n (way Q T) = 0) (h3 : prod n y = 0) :
    tn n P Q T * prod w y = det n y (way Q P) * prod w (way Q T) + det n (way Q T) y * prod w (way Q P) := by
  have m := det_mid (w := w) (u := n) (a := way Q T) (b := y) (c := way Q P) (.inl (det_flat hn h2 h3 h1))
  rw [← tn_cyc, tn_det]
  exact m
/-- all extreme ones are on a ring -/
theorem Flt.complete (h : Flt n S) {r : List P3} (hr : r ≠ []) (he : ∀ v ∈ r, Ext S v) (hc : ∀ v ∈ r, DW.nxt n S v ∈ r) (hp : ∀ v ∈ r, ∃ u ∈ r, DW.nxt n S u = v) {e : P3} (hx : Ext S e) : e ∈ r := by
  obtain ⟨hm, w, hw⟩ := hx
  obtain ⟨v, hv, hmin⟩ := min_ex (fun v => prod w v) r hr
  obtain ⟨u, hu, huv⟩ := hp v hv
  have ht := h.turn (he u hu)
  have e1 := h.nxt (he u hu)
  rw [huv] at ht e1
  have e2 := h.nxt (he v hv)
  have hq := hmin _ (hc v hv)
  have hq2 := hmin u hu
  generalize DW.nxt n S v = q at *
  by_cases hev : v = e
  · exact hev ▸ hv
  exfalso
  have d := corner_dec (w := w) (y := way v e) h.n0 (h.on.way e1.q e1.p) (h.on.way e2.p e2.q) (h.on.way e1.q hm)
  have t1 : det n (way v e) (way v u) = tn n u v e := by rw [← tn_det, ← tn_cyc, ← tn_cyc, ← tn_cyc, tn_cyc, tn_cyc]
  have t2 : det n (way v q) (way v e) = tn n v q e := by rw [← tn_det]
  rw [t1, t2] at d
  have p1 := Int.mul_nonneg (e1.tn hm) (show 0 ≤ prod w (way v q) by rw [prod_way]; omega)
  have p2 := Int.mul_nonneg (e2.tn hm) (show 0 ≤ prod w (way v u) by rw [prod_way]; omega)
  have p3 := hw v e1.q hev
  have p4 : prod w (way v e) = -prod w (way e v) := by
    simp only [prod_way]
    omega
  rw [p4] at d
  have p5 : tn n u v q * -prod w (way e v) < 0 := Int.mul_neg_of_pos_of_neg ht (by omega)
  omega
end
end DW

set_option autoImplicit false
namespace DW
/-! ### planes in lowest terms -/
theorem p3gz_pos {w : P3} (h : w ≠ P3.O) : 0 < p3g w := by
  unfold p3g
  have h0 : Int.gcd (Int.gcd w.x w.y) w.z ≠ 0 := by
    intro e
    rw [Int.gcd_eq_zero_iff] at e
    have e2 : Int.gcd w.x w.y = 0 := by omega
    rw [Int.gcd_eq_zero_iff] at e2
    exact h (P3.ext e2.1 e2.2 e.2)
  omega
theorem p3g_dvd (w : P3) : p3g w ∣ w.x ∧ p3g w ∣ w.y ∧ p3g w ∣ w.z := ⟨Int.dvd_trans (Int.gcd_dvd_left ..) (Int.gcd_dvd_left ..), Int.dvd_trans (Int.gcd_dvd_left ..) (Int.gcd_dvd_right ..), Int.gcd_dvd_right ..⟩
theorem dvd_p3g {w : P3} {d : Int} (h1 : d ∣ w.x) (h2 : d ∣ w.y) (h3 : d ∣ w.z) : d ∣ p3g w := Int.dvd_coe_gcd (Int.dvd_coe_gcd h1 h2) h3
theorem divP_sm (w : P3) : w = sm (p3g w) (divP w (p3g w)) := by
  obtain ⟨h1, h2, h3⟩ := p3g_dvd w
  exact P3.ext (Int.mul_ediv_cancel' h1).symm (Int.mul_ediv_cancel' h2).symm (Int.mul_ediv_cancel' h3).symm
theorem p3g_sm (k : Int) (w : P3) : p3g (sm k w) = k.natAbs * p3g w := by
  unfold p3g
  simp only [sm]
  rw [Int.gcd_mul_left]
  have : ((k.natAbs * Int.gcd w.x w.y : Nat) : Int) = (k.natAbs : Int) * (Int.gcd w.x w.y : Int) := by push_cast; rfl
  rw [this]
  have e : Int.gcd ((k.natAbs : Int) * (Int.gcd w.x w.y : Int)) (k * w.z) = Int.gcd (k * (Int.gcd w.x w.y : Int)) (k * w.z) := by
    show Nat.gcd (Int.natAbs _) (Int.natAbs _) = Nat.gcd (Int.natAbs _) (Int.natAbs _)
    rw [Int.natAbs_mul, Int.natAbs_mul, Int.natAbs_natCast, Int.natAbs_mul]
  rw [e, Int.gcd_mul_left]
  push_cast
  rfl
theorem divP_prim {w : P3} (h : w ≠ P3.O) : p3g (divP w (p3g w)) = 1 := by
  have hp := p3gz_pos h
  have e := divP_sm w
  have e2 : p3g w = (p3g w).natAbs * p3g (divP w (p3g w)) := by
    have := p3g_sm (p3g w) (divP w (p3g w))
    rw [← e] at this
    exact this
  have e3 : ((p3g w).natAbs : Int) = p3g w := by omega
  rw [e3] at e2
  have : p3g w * 1 = p3g w * p3g (divP w (p3g w)) := by omega
  exact (Int.eq_of_mul_eq_mul_left (by omega) this).symm
theorem prim_ne {n : P3} (h : p3g n = 1) : n ≠ P3.O := by
  rintro rfl
  exact absurd h (by decide)
/-- plane through P, Q, R -/
theorem planeA_c {P Q R : P3} (h : cross (way P Q) (way P R) ≠ P3.O) : cross (way P Q) (way P R) = sm (p3g (cross (way P Q) (way P R))) (planeA P Q R).n ∧ 0 < p3g (cross (way P Q) (way P R)) ∧ p3g (planeA P Q R).n = 1 := ⟨divP_sm _, p3gz_pos h, divP_prim h⟩
theorem planeA_P (P Q R : P3) : prod (planeA P Q R).n P = (planeA P Q R).d := rfl
theorem planeA_lift {P Q R : P3} (h : cross (way P Q) (way P R) ≠ P3.O) (T : P3) : lift P Q R T = p3g (cross (way P Q) (way P R)) * (prod (planeA P Q R).n T - (planeA P Q R).d) := by
  obtain ⟨h1, _, _⟩ := planeA_c h
  show prod (cross (way P Q) (way P R)) (way P T) = _
  rw [show prod (cross (way P Q) (way P R)) (way P T) = prod (sm (p3g (cross (way P Q) (way P R))) (planeA P Q R).n) (way P T) from by rw [← h1], sm_prod, prod_way, planeA_P]
theorem lift_on (P Q R : P3) : lift P Q R P = 0 ∧ lift P Q R Q = 0 ∧ lift P Q R R = 0 := by
  refine ⟨?_, ?_, ?_⟩
  all_goals
    simp only [lift, prod, cross, way]
    grind
theorem planeA_on {P Q R : P3} (h : cross (way P Q) (way P R) ≠ P3.O) : prod (planeA P Q R).n Q = (planeA P Q R).d ∧ prod (planeA P Q R).n R = (planeA P Q R).d := by
  have hp := p3gz_pos h
  have h1 := planeA_lift h Q
  have h2 := planeA_lift h R
  rw [(lift_on P Q R).2.1] at h1
  rw [(lift_on P Q R).2.2] at h2
  constructor
  · rcases Int.mul_eq_zero.mp h1.symm with q | q <;> omega
  · rcases Int.mul_eq_zero.mp h2.symm with q | q <;> omega
def negV (u : P3) : P3 := ⟨-u.x, -u.y, -u.z⟩
theorem prim_par {n n' : P3} (h : p3g n = 1) (h' : p3g n' = 1) (hc : cross n n' = P3.O) : n' = n ∨ n' = negV n := by
  have hy : n.y * n'.z = n.z * n'.y ∧ n.z * n'.x = n.x * n'.z ∧ n.x * n'.y = n.y * n'.x := by
    simp only [cross, P3.O, P3.mk.injEq] at hc
    omega
  obtain ⟨q1, q2, q3⟩ := hy
  have ab : ∀ a b : Int, sm a n' = sm b n → a.natAbs = b.natAbs := fun a b e => by
    have e1 := p3g_sm a n'
    have e2 := p3g_sm b n
    rw [e, e2, h, h'] at e1
    omega
  have ax : n.x.natAbs = n'.x.natAbs := ab _ _ (P3.ext (Int.mul_comm _ _) (by simp only [sm]; rw [q3, Int.mul_comm]) (by simp only [sm]; rw [← q2, Int.mul_comm]))
  have ay : n.y.natAbs = n'.y.natAbs := ab _ _ (P3.ext (by simp only [sm]; rw [← q3, Int.mul_comm]) (Int.mul_comm _ _) (by simp only [sm]; rw [q1, Int.mul_comm]))
  have az : n.z.natAbs = n'.z.natAbs := ab _ _ (P3.ext (by simp only [sm]; rw [q2, Int.mul_comm]) (by simp only [sm]; rw [← q1, Int.mul_comm]) (Int.mul_comm _ _))
  have hn := prim_ne h
  obtain ⟨x, y, z⟩ := n
  obtain ⟨x', y', z'⟩ := n'
  simp only at ax ay az q1 q2 q3
  simp only [negV, P3.mk.injEq]
  have hx : x' = x ∨ x' = -x := by omega
  have hy : y' = y ∨ y' = -y := by omega
  have hz : z' = z ∨ z' = -z := by omega
  clear hy hz hx
  have can : ∀ a b c : Int, a ≠ 0 → a * b = a * c → b = c := fun a b c h e => Int.eq_of_mul_eq_mul_left h e
  have hn' : x ≠ 0 ∨ y ≠ 0 ∨ z ≠ 0 := by
    refine Classical.byContradiction fun hno => hn ?_
    simp only [P3.O, P3.mk.injEq]
    omega
  rcases hn' with k | k | k
  · have hx : x' = x ∨ x' = -x := by omega
    rcases hx with e | e
    · subst e
      exact .inl ⟨rfl, can _ _ _ k (by rw [q3, Int.mul_comm]), can _ _ _ k (by rw [← q2, Int.mul_comm])⟩
    · subst e
      exact .inr ⟨rfl, can _ _ _ k (by rw [q3]; grind), can _ _ _ k (by rw [← q2]; grind)⟩
  · have hx : y' = y ∨ y' = -y := by omega
    rcases hx with e | e
    · subst e
      exact .inl ⟨can _ _ _ k (by rw [← q3, Int.mul_comm]), rfl, can _ _ _ k (by rw [q1, Int.mul_comm])⟩
    · subst e
      exact .inr ⟨can _ _ _ k (by rw [← q3]; grind), rfl, can _ _ _ k (by rw [q1]; grind)⟩
  · have hx : z' = z ∨ z' = -z := by omega
    rcases hx with e | e
    · subst e
      exact .inl ⟨can _ _ _ k (by rw [q2, Int.mul_comm]), can _ _ _ k (by rw [← q1, Int.mul_comm]), rfl⟩
    · subst e
      exact .inr ⟨can _ _ _ k (by rw [q2]; grind), can _ _ _ k (by rw [← q1]; grind), rfl⟩
end DW

set_option autoImplicit false
namespace DW
def ons (pts : List P3) (p : Pl) : List P3 := pts.filter fun P => decide (prod p.n P = p.d)
theorem mem_ons {pts : List P3} {p : Pl} {P : P3} : P ∈ ons pts p ↔ P ∈ pts ∧ prod p.n P = p.d := by
  unfold ons
  rw [List.mem_filter, decide_eq_true_eq]
def Dim3 (pts : List P3) : Prop := ∃ A ∈ pts, ∃ B ∈ pts, ∃ C ∈ pts, ∃ D ∈ pts, lift A B C D ≠ 0
structure Face (pts : List P3) (p : Pl) : Prop where
  sup : ∀ R ∈ pts, prod p.n R ≤ p.d
  prim : p3g p.n = 1
  sp : Spans (ons pts p)
theorem Dim3.off {pts : List P3} (h : Dim3 pts) {n : P3} (hn : n ≠ P3.O) (d : Int) : ∃ R ∈ pts, prod n R ≠ d := by
  refine Classical.byContradiction fun hno => ?_
  have e : ∀ R ∈ pts, prod n R = d := fun R hR => Classical.byContradiction fun z => hno ⟨R, hR, z⟩
  obtain ⟨A, hA, B, hB, C, hC, D, hD, hne⟩ := h
  apply hne
  have w : ∀ R ∈ pts, prod n (way A R) = 0 := fun R hR => by
    rw [prod_way, e R hR, e A hA]
    omega
  exact det_flat hn (w B hB) (w C hC) (w D hD)
section
variable {pts : List P3} {p p' : Pl}
theorem Face.n0 (h : Face pts p) : p.n ≠ P3.O := prim_ne h.prim
theorem Face.flt (h : Face pts p) : Flt p.n (ons pts p) := ⟨h.n0, ⟨p.d, fun _ hR => (mem_ons.mp hR).2⟩, h.sp⟩
/-- one plane alone through three -/
theorem Face.uniq (hd : Dim3 pts) (h : Face pts p) (h' : Face pts p') {A B C : P3} (hA : A ∈ ons pts p) (hB : B ∈ ons pts p) (hC : C ∈ ons pts p) (hA' : prod p'.n A = p'.d) (hB' : prod p'.n B = p'.d) (hC' : prod p'.n C = p'.d) (hne : cross (way A B) (way A C) ≠ P3.O) : p' = p := by
  have a1 := (mem_ons.mp hA).2
  have b1 := (mem_ons.mp hB).2
  have c1 := (mem_ons.mp hC).2
  have par : ∀ {n : P3}, prod n (way A B) = 0 → prod n (way A C) = 0 → cross (cross (way A B) (way A C)) n = P3.O := fun {n} e1 e2 => by
    have e : cross (cross (way A B) (way A C)) n = ad (sm (prod n (way A B)) (way A C)) (sm (-prod n (way A C)) (way A B)) := by
      generalize way A B = u
      generalize way A C = v
      apply P3.ext
      all_goals
        simp only [cross, ad, sm, prod]
        grind
    rw [e, e1, e2]
    simp only [ad, sm, P3.O, Int.zero_mul, Int.neg_zero, Int.add_zero]
  have k1 := par (n := p.n) (by rw [prod_way]; omega) (by rw [prod_way]; omega)
  have k2 := par (n := p'.n) (by rw [prod_way]; omega) (by rw [prod_way]; omega)
  have k3 := par_par hne k1 k2
  rcases prim_par h.prim h'.prim k3 with q | q
  · have : p'.d = p.d := by
      rw [q] at hA'
      omega
    cases p
    cases p'
    simp only at q this
    rw [q, this]
  · exfalso
    obtain ⟨R, hR, hno⟩ := hd.off h.n0 p.d
    have e1 : ∀ R, prod p'.n R = -prod p.n R := fun R => by
      rw [q]
      simp only [prod, negV]
      grind
    have s1 := h.sup R hR
    have s2 := h'.sup R hR
    rw [e1] at s2 hA'
    omega
/-- an extreme point of all is one of a face's -/
theorem ext_ons {v : P3} (h : Ext pts v) (hv : prod p.n v = p.d) : Ext (ons pts p) v := by
  obtain ⟨hm, w, hw⟩ := h
  exact ⟨mem_ons.mpr ⟨hm, hv⟩, w, fun R hR hne => hw R (mem_ons.mp hR).1 hne⟩
/-- .. and the other way about -/
theorem Face.ext (h : Face pts p) {v : P3} (hv : Ext (ons pts p) v) : Ext pts v := by
  obtain ⟨hm, w, hw⟩ := hv
  obtain ⟨hm1, hm2⟩ := mem_ons.mp hm
  obtain ⟨M, _, hM⟩ := bigM (fun R => p.d - prod p.n R) (fun R => prod w (way v R)) (pts.filter fun R => decide (R ≠ v)) (fun R hR => by
    obtain ⟨q1, q2⟩ := List.mem_filter.mp hR
    have q3 := of_decide_eq_true q2
    have := h.sup R q1
    exact ⟨by omega, fun z => hw R (mem_ons.mpr ⟨q1, by omega⟩) q3⟩)
  refine ⟨hm1, ad (sm (-M) p.n) w, fun R hR hne => ?_⟩
  have := hM M (Int.le_refl _) R (List.mem_filter.mpr ⟨hR, decide_eq_true hne⟩)
  rw [ad_prod, sm_prod, prod_way p.n, hm2]
  have e : -M * (prod p.n R - p.d) = M * (p.d - prod p.n R) := by grind
  rw [e]
  exact this
end
/-! ### the plane behind two points -/
def onLine (P Q R : P3) : Bool := decide (cross (way P Q) (way P R) = P3.O)
def behindC (P Q B R : P3) : Bool := decide (0 < lift P Q B R)
def bestB (pts : List P3) (P Q : P3) : Option P3 := bestOf (onLine P Q) (behindC P Q) pts
def planeB (pts : List P3) (P Q : P3) : Pl := planeA P Q ((bestB pts P Q).getD P)
theorem bestB_ok {pts : List P3} {P Q w : P3} (hu : prod w (way P Q) = 0) (hw : ∀ R ∈ pts, onLine P Q R = false → 0 < prod w (way P R)) (hx : ∃ R ∈ pts, onLine P Q R = false) :
    ∃ B ∈ pts, bestB pts P Q = some B ∧ cross (way P Q) (way P B) ≠ P3.O ∧ ∀ R ∈ pts, lift P Q B R ≤ 0 := by
  have key := best_ok (skip := onLine P Q) (cond := behindC P Q) (le := fun a b => lift P Q a b ≤ 0) (D := fun R => 0 < prod w (way P R))
    (fun b r _ _ hc => by
      unfold behindC at hc
      have := of_decide_eq_true hc
      have e : lift P Q r b = -lift P Q b r := det_sw _ _ _
      omega) (fun b r _ _ hc => by
      unfold behindC at hc
      have := of_decide_eq_false hc
      omega) (fun a b c a2 b2 c2 h1 h2 => by
      have m : lift P Q a c * prod w (way P b) = lift P Q b c * prod w (way P a) + lift P Q a b * prod w (way P c) := det_mid (.inr hu)
      generalize prod w (way P a) = wa at *
      generalize prod w (way P b) = wb at *
      generalize prod w (way P c) = wc at *
      generalize lift P Q a b = ab at *
      generalize lift P Q b c = bc at *
      generalize lift P Q a c = ac at *
      have k3 : bc * wa ≤ 0 := Int.mul_nonpos_of_nonpos_of_nonneg h2 (by omega)
      have k4 : ab * wc ≤ 0 := Int.mul_nonpos_of_nonpos_of_nonneg h1 (by omega)
      rcases Int.lt_or_le 0 ac with q | q
      · have := Int.mul_pos q b2
        omega
      · exact q) (fun a _ => by
      have : lift P Q a a = 0 := det_self _ _
      omega) pts (fun x hx hs => hw x hx hs)
  unfold bestB
  cases hb : bestOf (onLine P Q) (behindC P Q) pts with
  | none =>
    rw [hb] at key
    obtain ⟨R, hR, hs⟩ := hx
    rw [key R hR] at hs
    cases hs
  | some B =>
    rw [hb] at key
    obtain ⟨k1, k2, k3⟩ := key
    refine ⟨B, k1, rfl, of_decide_eq_false k2, fun R hR => ?_⟩
    by_cases hs : onLine P Q R = false
    · exact k3 R hR hs
    · have hz := of_decide_eq_true (Bool.not_eq_false _ ▸ hs)
      have e : lift P Q B R = -prod (cross (way P Q) (way P R)) (way P B) := det_sw _ _ _
      rw [e, hz]
      simp [prod, P3.O]
theorem planeB_ok {pts : List P3} {P Q w : P3} (hu : prod w (way P Q) = 0) (hw : ∀ R ∈ pts, onLine P Q R = false → 0 < prod w (way P R)) (hx : ∃ R ∈ pts, onLine P Q R = false) :
    ∃ B ∈ pts, planeB pts P Q = planeA P Q B ∧ bestB pts P Q = some B ∧ cross (way P Q) (way P B) ≠ P3.O ∧ ∀ R ∈ pts, prod (planeA P Q B).n R ≤ (planeA P Q B).d := by
  obtain ⟨B, h1, h2, h3, h4⟩ := bestB_ok hu hw hx
  refine ⟨B, h1, by unfold planeB; rw [h2]; rfl, h2, h3, fun R hR => ?_⟩
  have e := planeA_lift h3 R
  have hp := p3gz_pos h3
  have h5 := h4 R hR
  rw [e] at h5
  rcases Int.lt_or_le 0 (prod (planeA P Q B).n R - (planeA P Q B).d) with q | q
  · have := Int.mul_pos hp q
    omega
  · omega
section
variable {pts : List P3} {p p' : Pl}
theorem cross_way {u : P3} {A B P : P3} (h1 : cross u (way P A) = P3.O) (h2 : cross u (way P B) = P3.O) : cross u (way A B) = P3.O := by
  have : cross u (way A B) = ad (cross u (way P B)) (sm (-1) (cross u (way P A))) := by
    apply P3.ext
    all_goals
      simp only [cross, ad, sm, way]
      grind
  rw [this, h1, h2]
  rfl
theorem Dim3.offLine (hd : Dim3 pts) {P Q : P3} (hq : Q ≠ P) : ∃ R ∈ pts, onLine P Q R = false := by
  refine Classical.byContradiction fun hno => ?_
  have e : ∀ R ∈ pts, cross (way P Q) (way P R) = P3.O := fun R hR => Classical.byContradiction fun z => hno ⟨R, hR, decide_eq_false z⟩
  obtain ⟨A, hA, B, hB, C, hC, D, hD, hne⟩ := hd
  apply hne
  have k := par_par (way_ne hq) (cross_way (e A hA) (e B hB)) (cross_way (e A hA) (e C hC))
  show prod (cross (way A B) (way A C)) _ = 0
  rw [k]
  simp [prod, P3.O]
theorem sum_prod (w : P3) : ∀ xs : List P3, prod w (xs.foldr ad P3.O) = (xs.map fun R => prod w R).sum
  | [] => by simp [prod, P3.O]
  | x :: xs => by
    rw [List.foldr_cons, prod_ad, sum_prod w xs, List.map_cons, List.sum_cons]
/-- the face on the other side of an edge -/
structure Nb (pts : List P3) (p : Pl) (v q : P3) (p' : Pl) : Prop where
  face : Face pts p'
  ne : p' ≠ p
  ext : Ext (ons pts p') q
  nx : nxt p'.n (ons pts p') q = v
  mv : prod p'.n v = p'.d
theorem Face.nb (hd : Dim3 pts) (h : Face pts p) {v : P3} (hv : Ext (ons pts p) v) : Nb pts p v (nxt p.n (ons pts p) v) (planeB pts (nxt p.n (ons pts p) v) v) := by
  have e := h.flt.nxt hv
  have hq := h.flt.nxt_ext hv
  generalize nxt p.n (ons pts p) v = q at *
  obtain ⟨hv1, hv2⟩ := mem_ons.mp e.p
  obtain ⟨hq1, hq2⟩ := mem_ons.mp e.q
  have nuv : ∀ R, prod (cross p.n (way v q)) (way q R) = DW.tn p.n v q R := fun R => by
    simp only [DW.tn, prod, cross, DW.way]
    grind
  have hline : ∀ {R}, R ∈ ons pts p → DW.tn p.n v q R = 0 → onLine q v R = true := fun {R} hR hz => by
    refine decide_eq_true ?_
    refine par_of h.n0 (h.flt.on.way e.q e.p) (h.flt.on.way e.q hR) ?_
    rw [← tn_det, tn_back]
    omega
  obtain ⟨M, _, hM⟩ := bigM (fun R => p.d - prod p.n R) (fun R => DW.tn p.n v q R) (pts.filter fun R => !onLine q v R) (fun R hR => by
    obtain ⟨q1, q2⟩ := List.mem_filter.mp hR
    have := h.sup R q1
    refine ⟨by omega, fun z => ?_⟩
    have hR2 : R ∈ ons pts p := mem_ons.mpr ⟨q1, by omega⟩
    have k := e.tn hR2
    rcases Int.lt_or_le 0 (DW.tn p.n v q R) with x | x
    · exact x
    · rw [hline hR2 (by omega)] at q2
      cases q2)
  obtain ⟨B, hB, eB, _, hc, hsup⟩ := planeB_ok (pts := pts) (P := q) (Q := v) (w := ad (sm (-M) p.n) (cross p.n (way v q)))
    (by
      rw [ad_prod, sm_prod, prod_way p.n, nuv, tn_zero, hv2, hq2]
      simp) (fun R hR hs => by
      have := hM M (Int.le_refl _) R (List.mem_filter.mpr ⟨hR, by rw [hs]; rfl⟩)
      rw [ad_prod, sm_prod, prod_way p.n, nuv, hq2]
      have e2 : -M * (prod p.n R - p.d) = M * (p.d - prod p.n R) := by grind
      rw [e2]
      exact this) (hd.offLine e.ne.symm)
  rw [eB]
  obtain ⟨cn, cg, cp⟩ := planeA_c hc
  obtain ⟨ov, oB⟩ := planeA_on hc
  have oq := planeA_P q v B
  have mq : q ∈ ons pts (planeA q v B) := mem_ons.mpr ⟨hq1, oq⟩
  have mv : v ∈ ons pts (planeA q v B) := mem_ons.mpr ⟨hv1, ov⟩
  have mB : B ∈ ons pts (planeA q v B) := mem_ons.mpr ⟨hB, oB⟩
  have hf : Face pts (planeA q v B) := ⟨hsup, cp, q, mq, v, mv, B, mB, hc⟩
  have hnn := sq_pos hf.n0
  have hD : 0 < det (planeA q v B).n (way q v) (way q B) := by
    rw [det_rot, cn, prod_sm]
    exact Int.mul_pos cg hnn
  generalize hp' : planeA q v B = p' at *
  have hne : p' ≠ p := fun z => by
    subst z
    have k := e.tn mB
    rw [tn_back, tn_det] at k
    omega
  have qext := ext_ons (p := p') (h.ext hq) oq
  have hBp : prod p.n B < p.d := by
    have := h.sup B hB
    rcases Int.lt_or_le (prod p.n B) p.d with x | x
    · exact x
    · exact (hne (Face.uniq hd h hf e.q e.p (mem_ons.mpr ⟨hB, by omega⟩) oq ov oB hc)).elim
  have edge : Edge p'.n (ons pts p') q v := by
    refine ⟨mq, mv, e.ne.symm, fun R hR hne2 => ?_⟩
    obtain ⟨hR1, hR2⟩ := mem_ons.mp hR
    have on' := hf.flt.on
    have m := det_mid (w := p.n) (u := p'.n) (a := way q v) (b := way q R) (c := way q B) (.inl (det_flat hf.n0 (on'.way mq mv) (on'.way mq hR) (on'.way mq mB)))
    rw [prod_way p.n q v, prod_way p.n q R, prod_way p.n q B, hv2, hq2, Int.sub_self, Int.mul_zero, Int.zero_add] at m
    rw [GoodE, tn_det]
    have s := h.sup R hR1
    generalize det p'.n (way q v) (way q B) = D at *
    generalize ht : det p'.n (way q v) (way q R) = t at *
    -- D * (n R - d) = t * (n B - d)
    rcases Int.lt_or_le (prod p.n R) p.d with x | x
    · refine .inl ?_
      have k : D * (prod p.n R - p.d) < 0 := Int.mul_neg_of_pos_of_neg hD (by omega)
      rw [m] at k
      rcases Int.lt_or_le 0 t with y | y
      · exact y
      · have := Int.mul_nonneg_of_nonpos_of_nonpos y (show prod p.n B - p.d ≤ 0 by omega)
        omega
    · have z : prod p.n R = p.d := by omega
      rw [z, Int.sub_self, Int.mul_zero] at m
      have t0 : t = 0 := by
        rcases Int.mul_eq_zero.mp m.symm with y | y
        · exact y
        · omega
      subst t0
      refine .inr ⟨rfl, ?_⟩
      have mR : R ∈ ons pts p := mem_ons.mpr ⟨hR1, z⟩
      by_cases hRv : R = v
      · subst hRv
        exact Int.le_refl _
      -- R on the line q v, both on p
      have hcr : cross (way q v) (way q R) = P3.O := par_of hf.n0 (on'.way mq mv) (on'.way mq hR) ht
      have hcr2 : cross (way v q) (way v R) = P3.O := by
        have : cross (way v q) (way v R) = sm (-1) (cross (way q v) (way q R)) := by
          apply P3.ext
          all_goals
            simp only [cross, sm, way]
            grind
        rw [this, hcr]
        rfl
      have tz : DW.tn p.n v q R = 0 := by
        rw [DW.tn, hcr2]
        simp [prod, P3.O]
      have hs : prod (way v R) (way v R) ≤ prod (way v q) (way v q) := by
        rcases e.all R mR hRv with y | ⟨_, y⟩
        · omega
        · exact y
      obtain ⟨_, w, hw⟩ := hv
      have w1 := hw q e.q e.ne
      have w2 := hw R mR hRv
      have b2 := par_eq hcr2 w (way v q)
      have b3 := par_eq hcr2 w (way v R)
      rw [prod_comm (way v R) (way v q)] at b3
      have e1 : prod (way q R) (way q R) = prod (way v q) (way v q) - 2 * prod (way v q) (way v R) + prod (way v R) (way v R) := by
        simp only [prod, DW.way]
        grind
      have e2 : prod (way q v) (way q v) = prod (way v q) (way v q) := by
        simp only [prod, DW.way]
        grind
      rw [e1, e2]
      have haa0 := sq_nonneg (way v q)
      generalize prod w (way v q) = al at *
      generalize prod w (way v R) = rh at *
      generalize prod (way v q) (way v q) = aa at *
      generalize prod (way v R) (way v R) = rr at *
      generalize prod (way v q) (way v R) = ar at *
      have k1 : al * rr ≤ al * aa := Int.mul_le_mul_of_nonneg_left hs (by omega)
      rcases Int.lt_or_le (2 * ar) rr with y | y
      · exfalso
        -- al*rr = rh*ar ; aa>=rr
        have k2 : al * ar = rh * aa := b2
        have k3 : al * rr = rh * ar := b3
        have arp : 0 ≤ ar := by
          rcases Int.lt_or_le ar 0 with x | x
          · have := Int.mul_neg_of_pos_of_neg w1 x
            have : 0 ≤ rh * aa := Int.mul_nonneg (by omega) (by omega)
            omega
          · exact x
        have k4 : al * (2 * ar) < al * rr := Int.mul_lt_mul_of_pos_left y w1
        -- 2 al ar < rh ar  → 2 al < rh (ar>0)  ; al ar = rh aa ≥ rh rr > 2 rh ar → al > 2 rh
        have k5 : rh * rr ≤ rh * aa := Int.mul_le_mul_of_nonneg_left hs (by omega)
        have k6 : rh * (2 * ar) < rh * rr := Int.mul_lt_mul_of_pos_left y w2
        have k7 : 2 * (al * ar) < rh * ar := by grind
        have k8 : 2 * (rh * ar) < al * ar := by grind
        have : 0 ≤ al * ar := Int.mul_nonneg (by omega) arp
        omega
      · omega
  exact ⟨hf, hne, qext, Edge.uniq hf.n0 hf.flt.on edge (hf.flt.nxt qext) qext, ov⟩
end
end DW

set_option autoImplicit false
namespace DW
/-! ### least point, ring of a face -/
def leastP : List P3 → P3
  | [] => P3.O
  | x :: xs => xs.foldl (fun b r => if ltP r b then r else b) x
theorem leastF : ∀ (xs : List P3) (b : P3), (xs.foldl (fun b r => if ltP r b then r else b) b = b ∨ xs.foldl (fun b r => if ltP r b then r else b) b ∈ xs) ∧ LeP (xs.foldl (fun b r => if ltP r b then r else b) b) b ∧ ∀ R ∈ xs, LeP (xs.foldl (fun b r => if ltP r b then r else b) b) R
  | [], b => ⟨.inl rfl, by unfold LeP; simp, fun _ h => by cases h⟩
  | x :: xs, b => by
    rw [List.foldl_cons]
    have tr : ∀ {a b c : P3}, LeP a b → LeP b c → LeP a c := fun {a b c} h g => by
      unfold LeP at *
      omega
    cases hb : ltP x b with
    | true =>
      rw [if_pos rfl]
      have h := of_decide_eq_true hb
      obtain ⟨i1, i2, i3⟩ := leastF xs x
      have hx : LeP x b := by
        unfold LeP
        omega
      refine ⟨.inr ?_, tr i2 hx, fun R hR => ?_⟩
      · rcases i1 with e | e
        · rw [e]
          exact List.mem_cons_self
        · exact List.mem_cons_of_mem _ e
      · rcases List.mem_cons.mp hR with e | e
        · exact e ▸ i2
        · exact i3 R e
    | false =>
      rw [if_neg (by decide)]
      have h := of_decide_eq_false hb
      obtain ⟨i1, i2, i3⟩ := leastF xs b
      have hx : LeP b x := by
        unfold LeP
        omega
      refine ⟨?_, i2, fun R hR => ?_⟩
      · rcases i1 with e | e
        · exact .inl e
        · exact .inr (List.mem_cons_of_mem _ e)
      · rcases List.mem_cons.mp hR with e | e
        · exact e ▸ tr i2 hx
        · exact i3 R e
theorem leastP_ok : ∀ {S : List P3}, S ≠ [] → leastP S ∈ S ∧ ∀ R ∈ S, LeP (leastP S) R
  | [], h => (h rfl).elim
  | x :: xs, _ => by
    obtain ⟨i1, i2, i3⟩ := leastF xs x
    refine ⟨?_, fun R hR => ?_⟩
    · rcases i1 with e | e
      · show leastP (x :: xs) ∈ _
        rw [show leastP (x :: xs) = x from e]
        exact List.mem_cons_self
      · exact List.mem_cons_of_mem _ e
    · rcases List.mem_cons.mp hR with e | e
      · exact e ▸ i2
      · exact i3 R e
open Classical in
noncomputable def perK (f : P3 → P3) (v : P3) : Nat := if h : ∃ k, 0 < k ∧ iter f k v = v ∧ ∀ i, 0 < i → i < k → iter f i v ≠ v then Classical.choose h else 0
theorem perK_ok {f : P3 → P3} {v : P3} (h : ∃ k, 0 < k ∧ iter f k v = v ∧ ∀ i, 0 < i → i < k → iter f i v ≠ v) : 0 < perK f v ∧ iter f (perK f v) v = v ∧ ∀ i, 0 < i → i < perK f v → iter f i v ≠ v := by
  unfold perK
  rw [dif_pos h]
  exact Classical.choose_spec h
noncomputable def ringS (n : P3) (S : List P3) : List P3 := roundL (nxt n S) (perK (nxt n S) (leastP S)) (leastP S)
noncomputable def ringOf (pts : List P3) (p : Pl) : List P3 := ringS p.n (ons pts p)
section
variable {n : P3} {S : List P3}
theorem Flt.least (h : Flt n S) : Ext S (leastP S) := by
  obtain ⟨A, hA, _⟩ := h.sp
  obtain ⟨h1, h2⟩ := leastP_ok (S := S) (fun e => by rw [e] at hA; cases hA)
  exact least_ext h1 h2
theorem Flt.per (h : Flt n S) : 0 < perK (DW.nxt n S) (leastP S) ∧ iter (DW.nxt n S) (perK (DW.nxt n S) (leastP S)) (leastP S) = leastP S ∧ ∀ i, 0 < i → i < perK (DW.nxt n S) (leastP S) → iter (DW.nxt n S) i (leastP S) ≠ leastP S := by
  apply perK_ok
  obtain ⟨k, h1, _, h2, h3⟩ := period_ex (f := DW.nxt n S) (E := Ext S) (xs := S) (fun v => h.nxt_ext) (fun u v hu hv => h.nxt_inj hu hv) (fun v hv => hv.mem) h.least
  exact ⟨k, h1, h2, h3⟩
theorem Flt.ring_ext (h : Flt n S) {v : P3} (hv : v ∈ ringS n S) : Ext S v := by
  obtain ⟨i, _, rfl⟩ := mem_roundL.mp hv
  exact iter_mem (E := Ext S) (fun _ hv => h.nxt_ext hv) h.least i
theorem Flt.ring_ne (h : Flt n S) : ringS n S ≠ [] := fun e => by
  have := congrArg List.length e
  unfold ringS at this
  rw [roundL_len] at this
  have := h.per.1
  simp at *
  omega
theorem Flt.ring_next (h : Flt n S) {v : P3} (hv : v ∈ ringS n S) : DW.nxt n S v ∈ ringS n S := roundL_step h.per.2.1 h.per.1 hv
theorem Flt.ring_pred (h : Flt n S) {v : P3} (hv : v ∈ ringS n S) : ∃ u ∈ ringS n S, DW.nxt n S u = v := roundL_pred h.per.2.1 h.per.1 hv
theorem Flt.ring_iff (h : Flt n S) {v : P3} : v ∈ ringS n S ↔ Ext S v := ⟨h.ring_ext, fun hv => h.complete h.ring_ne (fun _ => h.ring_ext) (fun _ => h.ring_next) (fun _ => h.ring_pred) hv⟩
theorem Flt.ring_nodup (h : Flt n S) : (ringS n S).Nodup := roundL_nodup (E := Ext S) (fun _ hv => h.nxt_ext hv) (fun u v hu hv => h.nxt_inj hu hv) h.least h.per.2.2
theorem Flt.pred (h : Flt n S) {v : P3} (hv : Ext S v) : ∃ u, Ext S u ∧ DW.nxt n S u = v := by
  obtain ⟨u, hu, e⟩ := h.ring_pred (h.ring_iff.mpr hv)
  exact ⟨u, h.ring_ext hu, e⟩
theorem tn_ne {P Q R : P3} (h : 0 < tn n P Q R) : P ≠ Q ∧ Q ≠ R ∧ R ≠ P := by
  refine ⟨fun e => ?_, fun e => ?_, fun e => ?_⟩
  · subst e
    rw [← tn_cyc, tn_zero] at h
    · omega
  · subst e
    rw [tn_self] at h
    omega
  · subst e
    rw [tn_zero] at h
    omega
theorem Flt.ring_len (h : Flt n S) : 3 ≤ (ringS n S).length := by
  have hv := h.least
  have t := tn_ne (h.turn hv)
  have h1 := h.nxt_ext hv
  have h2 := h.nxt_ext h1
  generalize DW.nxt n S (leastP S) = b at *
  generalize DW.nxt n S b = c at *
  have nd : [leastP S, b, c].Nodup := by
    simp only [List.nodup_cons, List.mem_cons, List.not_mem_nil, or_false, not_or, not_false_eq_true, List.nodup_nil, and_true]
    exact ⟨⟨t.1, fun e => t.2.2 e.symm⟩, t.2.1⟩
  exact List.Nodup.length_le_of_subset nd (fun x hx => by
    simp only [List.mem_cons, List.not_mem_nil, or_false] at hx
    rcases hx with rfl | rfl | rfl
    · exact h.ring_iff.mpr hv
    · exact h.ring_iff.mpr h1
    · exact h.ring_iff.mpr h2)
end
/-! ### a set of faces with all that lie beside them -/
def NbC (pts : List P3) (p : Pl) (v : P3) : Pl := planeB pts (nxt p.n (ons pts p) v) v
structure Closed (pts : List P3) (fs : List Pl) : Prop where
  ne : fs ≠ []
  face : ∀ p ∈ fs, Face pts p
  nb : ∀ p ∈ fs, ∀ v, Ext (ons pts p) v → NbC pts p v ∈ fs
section
variable {pts : List P3} {fs : List Pl} {p f : Pl}
/-- third points of a ring's corner lie beneath the faces beside it -/
theorem Face.nb_low (hd : Dim3 pts) (h : Face pts p) {u : P3} (hu : Ext (ons pts p) u) :
    let v := nxt p.n (ons pts p) u
    let q := nxt p.n (ons pts p) v
    prod (NbC pts p u).n u = (NbC pts p u).d ∧ prod (NbC pts p u).n v = (NbC pts p u).d ∧ prod (NbC pts p u).n q < (NbC pts p u).d ∧
    prod (NbC pts p v).n v = (NbC pts p v).d ∧ prod (NbC pts p v).n q = (NbC pts p v).d ∧ prod (NbC pts p v).n u < (NbC pts p v).d := by
  intro v q
  have ht := h.flt.turn hu
  have e1 := h.flt.nxt hu
  have hv := h.flt.nxt_ext hu
  have e2 := h.flt.nxt hv
  have n1 := h.nb hd hu
  have n2 := h.nb hd hv
  show _ ∧ _
  change Nb pts p u v (NbC pts p u) at n1
  change Nb pts p v q (NbC pts p v) at n2
  change 0 < tn p.n u v q at ht
  change Edge p.n (ons pts p) u v at e1
  change Edge p.n (ons pts p) v q at e2
  have hnc : cross (way u v) (way u q) ≠ P3.O := fun z => by
    rw [tn, z] at ht
    simp [prod, P3.O] at ht
  have low : ∀ {p' : Pl}, Face pts p' → p' ≠ p → ∀ {A B C}, A ∈ ons pts p → B ∈ ons pts p → C ∈ ons pts p → prod p'.n A = p'.d → prod p'.n B = p'.d → cross (way A B) (way A C) ≠ P3.O → prod p'.n C < p'.d := fun {p'} hf hne {A B C} hA hB hC a b hn => by
    have := hf.sup C (mem_ons.mp hC).1
    rcases Int.lt_or_le (prod p'.n C) p'.d with x | x
    · exact x
    · exact (hne (Face.uniq hd h hf hA hB hC a b (by omega) hn)).elim
  have q1 := (mem_ons.mp n1.ext.mem).2
  have q2 := (mem_ons.mp n2.ext.mem).2
  have c2 : cross (way v q) (way v u) ≠ P3.O := fun z => by
    rw [← tn_cyc, tn, z] at ht
    simp [prod, P3.O] at ht
  exact ⟨n1.mv, q1, low n1.face n1.ne e1.p e1.q e2.q n1.mv q1 hnc, n2.mv, q2, low n2.face n2.ne e2.p e2.q e1.p n2.mv q2 c2⟩
/-- a weight m at y: on f, and beneath (or on) the faces beside f -/
theorem Closed.K (hd : Dim3 pts) (h : Closed pts fs) (hf : f ∈ fs) {m : Int} {y : P3} (h0 : prod f.n y = m * f.d) (hs : ∀ g ∈ fs, prod g.n y ≤ m * g.d) (w : P3) :
    ∃ v, Ext (ons pts f) v ∧ (∀ u, Ext (ons pts f) u → prod w u ≤ prod w v) ∧ prod w y ≤ m * prod w v := by
  have hF := h.face f hf
  have F := hF.flt
  obtain ⟨v, hv, hmin⟩ := min_ex (fun v => -prod w v) (ringS f.n (ons pts f)) F.ring_ne
  have xv := F.ring_ext hv
  obtain ⟨u, xu, huv⟩ := F.pred xv
  have low := hF.nb_low hd xu
  dsimp only at low
  have ht := F.turn xu
  have e1 := F.nxt xu
  rw [huv] at low ht e1
  have e2 := F.nxt xv
  have i1 := hs _ (h.nb f hf u xu)
  have i2 := hs _ (h.nb f hf v xv)
  have hq := hmin _ (F.ring_next hv)
  have hu := hmin u (F.ring_iff.mpr xu)
  generalize nxt f.n (ons pts f) v = q at *
  obtain ⟨l1, l2, l3, l4, l5, l6⟩ := low
  generalize NbC pts f u = g1 at *
  generalize NbC pts f v = g2 at *
  have ov := (mem_ons.mp e2.p).2
  refine ⟨v, xv, fun t ht => by have := hmin t (F.ring_iff.mpr ht); omega, ?_⟩
  -- z = y - m v
  have dec := fun w => corner_dec (n := f.n) (P := u) (Q := v) (T := q) (y := ad y (sm (-m) v)) (w := w) F.n0 (F.on.way e1.q e1.p) (F.on.way e2.p e2.q) (by
    rw [prod_ad, prod_sm, h0, ov]
    grind)
  have pz : ∀ w, prod w (ad y (sm (-m) v)) = prod w y - m * prod w v := fun w => by
    rw [prod_ad, prod_sm]
    grind
  have d1 := dec g1.n
  have d2 := dec g2.n
  have d3 := dec w
  rw [pz] at d1 d2 d3
  rw [prod_way g1.n v u, prod_way g1.n v q, l1, l2, Int.sub_self, Int.mul_zero, Int.add_zero] at d1
  rw [prod_way g2.n v u, prod_way g2.n v q, l4, l5, Int.sub_self, Int.mul_zero, Int.zero_add] at d2
  rw [prod_way w v u, prod_way w v q] at d3
  generalize det f.n (ad y (sm (-m) v)) (way v u) = a at *
  generalize det f.n (way v q) (ad y (sm (-m) v)) = b at *
  generalize tn f.n u v q = D at *
  have a0 : 0 ≤ a := by
    rcases Int.lt_or_le a 0 with x | x
    · have k1 := Int.mul_pos_of_neg_of_neg x (show prod g1.n q - g1.d < 0 by omega)
      have k2 := Int.mul_nonpos_of_nonneg_of_nonpos (show 0 ≤ D by omega) (show prod g1.n y - m * g1.d ≤ 0 by omega)
      omega
    · exact x
  have b0 : 0 ≤ b := by
    rcases Int.lt_or_le b 0 with x | x
    · have k1 := Int.mul_pos_of_neg_of_neg x (show prod g2.n u - g2.d < 0 by omega)
      have k2 := Int.mul_nonpos_of_nonneg_of_nonpos (show 0 ≤ D by omega) (show prod g2.n y - m * g2.d ≤ 0 by omega)
      omega
    · exact x
  have k1 := Int.mul_nonpos_of_nonneg_of_nonpos a0 (show prod w q - prod w v ≤ 0 by omega)
  have k2 := Int.mul_nonpos_of_nonneg_of_nonpos b0 (show prod w u - prod w v ≤ 0 by omega)
  rcases Int.lt_or_le (m * prod w v) (prod w y) with x | x
  · have := Int.mul_pos ht (show 0 < prod w y - m * prod w v by omega)
    omega
  · exact x
/-- .. its weight is no less than nought -/
theorem Closed.K0 (hd : Dim3 pts) (h : Closed pts fs) (hf : f ∈ fs) {m : Int} {y : P3} (h0 : prod f.n y = m * f.d) (hs : ∀ g ∈ fs, prod g.n y ≤ m * g.d) : 0 ≤ m := by
  rcases Int.lt_or_le m 0 with hm | hm
  · exfalso
    have hF := h.face f hf
    have F := hF.flt
    have xu := F.least
    have low := hF.nb_low hd xu
    have i1 := hs _ (h.nb f hf _ xu)
    have xq := F.nxt_ext (F.nxt_ext xu)
    dsimp only at low
    obtain ⟨_, _, l3, _⟩ := low
    generalize NbC pts f (leastP (ons pts f)) = g at *
    obtain ⟨v, _, hv, k⟩ := h.K hd hf h0 hs (negV g.n)
    have neg : ∀ x, prod (negV g.n) x = -prod g.n x := fun x => by
      simp only [prod, negV]
      grind
    have hv2 := hv _ xq
    rw [neg, neg] at hv2
    rw [neg, neg] at k
    have k2 : m * g.d < m * prod g.n v := Int.mul_lt_mul_of_neg_left (show prod g.n v < g.d by omega) hm
    have k3 : m * -prod g.n v = -(m * prod g.n v) := by grind
    omega
  · exact hm
theorem ratio_min {α : Type} (a b : α → Int) : ∀ xs : List α, xs ≠ [] → (∀ x ∈ xs, 0 < b x) → ∃ x ∈ xs, ∀ y ∈ xs, a x * b y ≤ a y * b x
  | [], h, _ => (h rfl).elim
  | [x], _, _ => ⟨x, List.mem_cons_self, fun y hy => by rw [List.mem_singleton.mp hy]; exact Int.le_refl _⟩
  | x :: x2 :: xs, _, hb => by
    obtain ⟨v, hv, h⟩ := ratio_min a b (x2 :: xs) (by simp) fun y hy => hb y (List.mem_cons_of_mem _ hy)
    have bx := hb x List.mem_cons_self
    have bv := hb v (List.mem_cons_of_mem _ hv)
    by_cases e : a x * b v ≤ a v * b x
    · refine ⟨x, List.mem_cons_self, fun u hu => ?_⟩
      rcases List.mem_cons.mp hu with q | q
      · rw [q]
        exact Int.le_refl _
      · have h2 := h u q
        have bu := hb u (List.mem_cons_of_mem _ q)
        have k1 : a x * b v * b u ≤ a v * b x * b u := Int.mul_le_mul_of_nonneg_right e (by omega)
        have k2 : a v * b u * b x ≤ a u * b v * b x := Int.mul_le_mul_of_nonneg_right h2 (by omega)
        have k3 : (a x * b u) * b v ≤ (a u * b x) * b v := by grind
        exact Int.le_of_mul_le_mul_right k3 bv
    · refine ⟨v, List.mem_cons_of_mem _ hv, fun u hu => ?_⟩
      rcases List.mem_cons.mp hu with q | q
      · rw [q]
        omega
      · exact h u q
theorem sum_le {α : Type} (f : α → Int) (d : Int) : ∀ xs : List α, (∀ x ∈ xs, f x ≤ d) → (xs.map f).sum ≤ (xs.length : Int) * d
  | [], _ => by simp
  | x :: xs, h => by
    have h1 := sum_le f d xs fun y hy => h y (List.mem_cons_of_mem _ hy)
    have h2 := h x List.mem_cons_self
    rw [List.map_cons, List.sum_cons, List.length_cons]
    have : ((xs.length + 1 : Nat) : Int) * d = (xs.length : Int) * d + d := by
      push_cast
      grind
    omega
theorem sum_lt {α : Type} (f : α → Int) (d : Int) : ∀ xs : List α, (∀ x ∈ xs, f x ≤ d) → (∃ x ∈ xs, f x < d) → (xs.map f).sum < (xs.length : Int) * d
  | [], _, ⟨_, h, _⟩ => by cases h
  | x :: xs, h, ⟨y, hy, hlt⟩ => by
    have h2 := h x List.mem_cons_self
    rw [List.map_cons, List.sum_cons, List.length_cons]
    have e : ((xs.length + 1 : Nat) : Int) * d = (xs.length : Int) * d + d := by
      push_cast
      grind
    rcases List.mem_cons.mp hy with q | q
    · subst q
      have h1 := sum_le f d xs fun y hy => h y (List.mem_cons_of_mem _ hy)
      omega
    · have h1 := sum_lt f d xs (fun y hy => h y (List.mem_cons_of_mem _ hy)) ⟨y, q, hlt⟩
      omega
/-- what is beneath all found faces: the face at which the way from the middle to it ends -/
theorem Closed.hit (hd : Dim3 pts) (h : Closed pts fs) {m0 : Int} {y0 : P3} (hs : ∀ g ∈ fs, prod g.n y0 ≤ m0 * g.d) :
    ∃ f ∈ fs, 0 < (pts.length : Int) * f.d - (pts.map fun R => prod f.n R).sum ∧ 0 ≤ ((pts.length : Int) * f.d - (pts.map fun R => prod f.n R).sum) * m0 - (m0 * f.d - prod f.n y0) * pts.length ∧
      ∀ w, ∃ v, Ext (ons pts f) v ∧ ((pts.length : Int) * f.d - (pts.map fun R => prod f.n R).sum) * prod w y0 - (m0 * f.d - prod f.n y0) * (pts.map fun R => prod w R).sum ≤ (((pts.length : Int) * f.d - (pts.map fun R => prod f.n R).sum) * m0 - (m0 * f.d - prod f.n y0) * pts.length) * prod w v := by
  have bpos : ∀ g ∈ fs, 0 < (pts.length : Int) * g.d - (pts.map fun R => prod g.n R).sum := fun g hg => by
    obtain ⟨R, hR, hno⟩ := hd.off (h.face g hg).n0 g.d
    have := sum_lt (fun R => prod g.n R) g.d pts (h.face g hg).sup ⟨R, hR, by have := (h.face g hg).sup R hR; omega⟩
    omega
  obtain ⟨f, hf, hmin⟩ := ratio_min (fun g : Pl => m0 * g.d - prod g.n y0) (fun g => (pts.length : Int) * g.d - (pts.map fun R => prod g.n R).sum) fs h.ne bpos
  refine ⟨f, hf, bpos f hf, ?_⟩
  generalize hB : (pts.length : Int) * f.d - (pts.map fun R => prod f.n R).sum = B at *
  generalize hA : m0 * f.d - prod f.n y0 = A at *
  have val : ∀ w, prod w (ad (sm B y0) (sm (-A) (pts.foldr ad P3.O))) = B * prod w y0 - A * (pts.map fun R => prod w R).sum := fun w => by
    rw [prod_ad, prod_sm, prod_sm, sum_prod]
    grind
  have z0 : prod f.n (ad (sm B y0) (sm (-A) (pts.foldr ad P3.O))) = (B * m0 - A * pts.length) * f.d := by
    rw [val, ← hA, ← hB]
    generalize (pts.map fun R => prod f.n R).sum = s
    grind
  have zs : ∀ g ∈ fs, prod g.n (ad (sm B y0) (sm (-A) (pts.foldr ad P3.O))) ≤ (B * m0 - A * pts.length) * g.d := fun g hg => by
    have := hmin g hg
    rw [val]
    generalize (pts.map fun R => prod g.n R).sum = s at *
    grind
  refine ⟨h.K0 hd hf z0 zs, fun w => ?_⟩
  obtain ⟨v, hv, _, k⟩ := h.K hd hf z0 zs w
  rw [val] at k
  exact ⟨v, hv, k⟩
/-- all faces are found -/
theorem Closed.all (hd : Dim3 pts) (h : Closed pts fs) {g : Pl} (hg : Face pts g) : g ∈ fs := by
  obtain ⟨A, hA, B, hB, C, hC, hne⟩ := hg.sp
  have key : ∀ q ∈ fs, prod q.n (ad A (ad B C)) ≤ 3 * q.d := fun q hq => by
    have s := (h.face q hq).sup
    have a := s A (mem_ons.mp hA).1
    have b := s B (mem_ons.mp hB).1
    have c := s C (mem_ons.mp hC).1
    rw [prod_ad, prod_ad]
    omega
  obtain ⟨f, hf, hb, hm, hk⟩ := h.hit hd key
  obtain ⟨v, hv, k⟩ := hk g.n
  have sf := (h.face f hf).sup
  have fA := sf A (mem_ons.mp hA).1
  have fB := sf B (mem_ons.mp hB).1
  have fC := sf C (mem_ons.mp hC).1
  have gv := hg.sup v (mem_ons.mp hv.mem).1
  have ex : prod f.n (ad A (ad B C)) = prod f.n A + prod f.n B + prod f.n C := by rw [prod_ad, prod_ad]; omega
  have eg : prod g.n (ad A (ad B C)) = 3 * g.d := by
    have a := (mem_ons.mp hA).2
    have b := (mem_ons.mp hB).2
    have c := (mem_ons.mp hC).2
    rw [prod_ad, prod_ad]
    omega
  rw [eg] at k
  rw [ex] at k hm
  have a0 : 0 ≤ 3 * f.d - (prod f.n A + prod f.n B + prod f.n C) := by omega
  generalize hAl : 3 * f.d - (prod f.n A + prod f.n B + prod f.n C) = al at *
  obtain ⟨R, hR, hno⟩ := hd.off hg.n0 g.d
  have lt := sum_lt (fun R => prod g.n R) g.d pts hg.sup ⟨R, hR, by have := hg.sup R hR; omega⟩
  generalize (pts.length : Int) * f.d - (pts.map fun R => prod f.n R).sum = be at *
  generalize (pts.map fun R => prod g.n R).sum = s at *
  have k2 : (be * 3 - al * pts.length) * prod g.n v ≤ (be * 3 - al * pts.length) * g.d := Int.mul_le_mul_of_nonneg_left gv hm
  have k3 : al * ((pts.length : Int) * g.d - s) ≤ 0 := by grind
  have k4 : al = 0 := by
    rcases Int.lt_or_le 0 al with x | x
    · have := Int.mul_pos x (show 0 < (pts.length : Int) * g.d - s by omega)
      omega
    · omega
  have := Face.uniq hd hg (h.face f hf) hA hB hC (by omega) (by omega) (by omega) hne
  exact this ▸ hf
/-- what is beneath (or on) all faces' planes is in the hull: each bound of the points is one of it -/
theorem Closed.hull (hd : Dim3 pts) (h : Closed pts fs) {m0 : Int} {y0 : P3} (hs : ∀ g ∈ fs, prod g.n y0 ≤ m0 * g.d) {w : P3} {d : Int} (hw : ∀ R ∈ pts, prod w R ≤ d) : prod w y0 ≤ m0 * d := by
  obtain ⟨f, hf, hb, hm, hk⟩ := h.hit hd hs
  obtain ⟨v, hv, k⟩ := hk w
  have wv := hw v (mem_ons.mp hv.mem).1
  have le := sum_le (fun R => prod w R) d pts hw
  have a0 := hs f hf
  generalize hB : (pts.length : Int) * f.d - (pts.map fun R => prod f.n R).sum = B at *
  generalize hA : m0 * f.d - prod f.n y0 = A at *
  generalize (pts.map fun R => prod w R).sum = s at *
  have k2 := Int.mul_le_mul_of_nonneg_left wv hm
  have k3 : A * s ≤ A * ((pts.length : Int) * d) := Int.mul_le_mul_of_nonneg_left le (by omega)
  have k4 : B * prod w y0 ≤ B * (m0 * d) := by grind
  exact Int.le_of_mul_le_mul_left k4 hb
/-- each corner is on a face -/
theorem Closed.corner (hd : Dim3 pts) (h : Closed pts fs) {v : P3} (hv : Ext pts v) : ∃ f ∈ fs, prod f.n v = f.d := by
  obtain ⟨hm0, w, hw⟩ := hv
  obtain ⟨f, hf, hb, hm, hk⟩ := h.hit (m0 := 1) (y0 := v) hd (fun g hg => by have := (h.face g hg).sup v hm0; omega)
  obtain ⟨u, hu, k⟩ := hk (negV w)
  have neg : ∀ x, prod (negV w) x = -prod w x := fun x => by
    simp only [prod, negV]
    grind
  have wle : ∀ R ∈ pts, prod (negV w) R ≤ prod (negV w) v := fun R hR => by
    by_cases e : R = v
    · rw [e]
      exact Int.le_refl _
    · have := hw R hR e
      rw [prod_way] at this
      rw [neg, neg]
      omega
  obtain ⟨A, hA, B, hB, _⟩ := hd
  have hR : ∃ R ∈ pts, prod (negV w) R < prod (negV w) v := by
    refine Classical.byContradiction fun hno => ?_
    have all : ∀ R ∈ pts, R = v := fun R hR => Classical.byContradiction fun z => hno ⟨R, hR, by
      have := hw R hR z
      rw [prod_way] at this
      rw [neg, neg]
      omega⟩
    obtain ⟨C, hC, D, hD, hne⟩ := ‹∃ C ∈ pts, _›
    rw [all A hA, all B hB, all C hC, all D hD] at hne
    apply hne
    simp only [lift, way_self]
    rfl
  have lt := sum_lt (fun R => prod (negV w) R) _ pts wle hR
  have wu := wle u (mem_ons.mp hu.mem).1
  have fv := (h.face f hf).sup v hm0
  refine ⟨f, hf, ?_⟩
  generalize hBe : (pts.length : Int) * f.d - (pts.map fun R => prod f.n R).sum = B' at *
  generalize hAl : 1 * f.d - prod f.n v = al at *
  generalize (pts.map fun R => prod (negV w) R).sum = s at *
  have k2 := Int.mul_le_mul_of_nonneg_left wu hm
  have k3 : al * ((pts.length : Int) * prod (negV w) v - s) ≤ 0 := by grind
  rcases Int.lt_or_le 0 al with x | x
  · have := Int.mul_pos x (show 0 < (pts.length : Int) * prod (negV w) v - s by omega)
    omega
  · omega
end
end DW

set_option autoImplicit false
namespace DW
/-! ### the first plane -/
def upP (P : P3) : P3 := ⟨P.x, P.y, P.z + 1⟩
def rowF (pts : List P3) (p : Pl) (L : P3) : List P3 := pts.filter fun P => decide (P ≠ L) && decide (prod p.n P = p.d)
def firstPlane (pts : List P3) : Pl :=
  let L := leastP pts
  let p := planeB pts L (upP L)
  let row := rowF pts p L
  if row.any fun P => !onLine L (row.headD L) P then p else planeB pts L (row.headD L)
section
variable {pts : List P3} {p f : Pl}
theorem Dim3.ne (h : Dim3 pts) : pts ≠ [] := fun e => by
  obtain ⟨A, hA, _⟩ := h
  rw [e] at hA
  cases hA
theorem up_line {L R : P3} : onLine L (upP L) R = false → ¬(R.x = L.x ∧ R.y = L.y) := fun h ⟨hx, hy⟩ => by
  have := of_decide_eq_false h
  apply this
  simp only [cross, way, upP, P3.O, P3.mk.injEq]
  rw [hx, hy]
  refine ⟨by grind, by grind, by grind⟩
/-- the first look: along the third axis at the least point -/
theorem first_up (hd : Dim3 pts) : ∃ B ∈ pts, planeB pts (leastP pts) (upP (leastP pts)) = planeA (leastP pts) (upP (leastP pts)) B ∧ bestB pts (leastP pts) (upP (leastP pts)) = some B ∧ cross (way (leastP pts) (upP (leastP pts))) (way (leastP pts) B) ≠ P3.O ∧
    ∀ R ∈ pts, prod (planeA (leastP pts) (upP (leastP pts)) B).n R ≤ (planeA (leastP pts) (upP (leastP pts)) B).d := by
  obtain ⟨_, hle⟩ := leastP_ok hd.ne
  obtain ⟨M, _, hM⟩ := bigM (fun R : P3 => R.x - (leastP pts).x) (fun R => R.y - (leastP pts).y) (pts.filter fun R => !onLine (leastP pts) (upP (leastP pts)) R) (fun R hR => by
    obtain ⟨q1, q2⟩ := List.mem_filter.mp hR
    have q3 := up_line (by simpa using q2)
    have q5 := hle R q1
    unfold LeP at q5
    omega)
  refine planeB_ok (w := ⟨M, 1, 0⟩) ?_ (fun R hR hs => ?_) (hd.offLine (Q := upP (leastP pts)) (P := leastP pts) ?_)
  · simp only [prod, way, upP]
    omega
  · have := hM M (Int.le_refl _) R (List.mem_filter.mpr ⟨hR, by rw [hs]; rfl⟩)
    simp only [prod, way]
    omega
  · intro e
    have := congrArg P3.z e
    simp only [upP] at this
    omega
theorem mem_rowF {L P : P3} : P ∈ rowF pts p L ↔ P ∈ pts ∧ P ≠ L ∧ prod p.n P = p.d := by
  unfold rowF
  rw [List.mem_filter, Bool.and_eq_true, decide_eq_true_eq, decide_eq_true_eq]
theorem head_mem {α : Type} {xs : List α} {d : α} (h : xs ≠ []) : xs.headD d ∈ xs := by
  cases xs with
  | nil => exact (h rfl).elim
  | cons x xs => exact List.mem_cons_self
/-- .. its row, and the second look -/
theorem first_row (hd : Dim3 pts) : leastP pts ∈ pts ∧ (prod (planeB pts (leastP pts) (upP (leastP pts))).n (leastP pts) = (planeB pts (leastP pts) (upP (leastP pts))).d) ∧ p3g (planeB pts (leastP pts) (upP (leastP pts))).n = 1 ∧ (∀ R ∈ pts, prod (planeB pts (leastP pts) (upP (leastP pts))).n R ≤ (planeB pts (leastP pts) (upP (leastP pts))).d) ∧ rowF pts (planeB pts (leastP pts) (upP (leastP pts))) (leastP pts) ≠ [] := by
  obtain ⟨hL, _⟩ := leastP_ok hd.ne
  obtain ⟨B, hB, e, _, hc, hs⟩ := first_up hd
  obtain ⟨_, oB⟩ := planeA_on hc
  obtain ⟨_, _, cp⟩ := planeA_c hc
  rw [e]
  refine ⟨hL, rfl, cp, hs, fun z => ?_⟩
  have : B ∈ rowF pts (planeA (leastP pts) (upP (leastP pts)) B) (leastP pts) := mem_rowF.mpr ⟨hB, fun q => hc (by
    rw [q, way_self]
    simp [cross, P3.O]), oB⟩
  rw [z] at this
  cases this
/-- where the row lies on one line: the second look -/
theorem first_two (hd : Dim3 pts) (hall : ∀ P ∈ rowF pts (planeB pts (leastP pts) (upP (leastP pts))) (leastP pts), onLine (leastP pts) ((rowF pts (planeB pts (leastP pts) (upP (leastP pts))) (leastP pts)).headD (leastP pts)) P = true) :
    let q := (rowF pts (planeB pts (leastP pts) (upP (leastP pts))) (leastP pts)).headD (leastP pts)
    ∃ B ∈ pts, planeB pts (leastP pts) q = planeA (leastP pts) q B ∧ bestB pts (leastP pts) q = some B ∧ cross (way (leastP pts) q) (way (leastP pts) B) ≠ P3.O ∧ (∀ R ∈ pts, prod (planeA (leastP pts) q B).n R ≤ (planeA (leastP pts) q B).d) ∧ Face pts (planeA (leastP pts) q B) := by
  intro q
  obtain ⟨hL, hon, hp, hs, hne⟩ := first_row hd
  have hq := mem_rowF.mp (head_mem (d := leastP pts) hne)
  change q ∈ pts ∧ q ≠ leastP pts ∧ _ at hq
  obtain ⟨q1, q2, q3⟩ := hq
  have neg : ∀ (n : P3) (x : P3), prod (negV n) x = -prod n x := fun n x => by
    simp only [prod, negV]
    grind
  obtain ⟨B, hB, e, e2, hc, hs2⟩ := planeB_ok (pts := pts) (P := leastP pts) (Q := q) (w := negV (planeB pts (leastP pts) (upP (leastP pts))).n) (by
      rw [neg, prod_way, q3, hon]
      omega) (fun R hR hl => by
      rw [neg, prod_way, hon]
      have h1 := hs R hR
      rcases Int.lt_or_le (prod (planeB pts (leastP pts) (upP (leastP pts))).n R) (planeB pts (leastP pts) (upP (leastP pts))).d with x | x
      · omega
      · exfalso
        by_cases hRL : R = leastP pts
        · have : onLine (leastP pts) q R = true := decide_eq_true (by rw [hRL, way_self]; simp [cross, P3.O])
          rw [this] at hl
          cases hl
        · have : onLine (leastP pts) q R = true := hall R (mem_rowF.mpr ⟨hR, hRL, by omega⟩)
          rw [this] at hl
          cases hl) (hd.offLine q2)
  obtain ⟨oq, oB⟩ := planeA_on hc
  obtain ⟨_, _, cp⟩ := planeA_c hc
  exact ⟨B, hB, e, e2, hc, hs2, hs2, cp, leastP pts, mem_ons.mpr ⟨hL, rfl⟩, q, mem_ons.mpr ⟨q1, oq⟩, B, mem_ons.mpr ⟨hB, oB⟩, hc⟩
theorem firstPlane_face (hd : Dim3 pts) : Face pts (firstPlane pts) := by
  unfold firstPlane
  dsimp only
  obtain ⟨hL, hon, hp, hs, hne⟩ := first_row hd
  split
  · rename_i h
    obtain ⟨P, hP, hl⟩ := List.any_eq_true.mp h
    simp only [Bool.not_eq_true'] at hl
    have hq := mem_rowF.mp (head_mem (d := leastP pts) hne)
    have hP2 := mem_rowF.mp hP
    exact ⟨hs, hp, leastP pts, mem_ons.mpr ⟨hL, hon⟩, _, mem_ons.mpr ⟨hq.1, hq.2.2⟩, P, mem_ons.mpr ⟨hP2.1, hP2.2.2⟩, of_decide_eq_false hl⟩
  · rename_i h
    obtain ⟨B, hB, e, _, hc, _, hf⟩ := first_two hd (fun P hP => by
      cases hx : onLine (leastP pts) ((rowF pts (planeB pts (leastP pts) (upP (leastP pts))) (leastP pts)).headD (leastP pts)) P with
      | true => rfl
      | false => exact (h (List.any_eq_true.mpr ⟨P, hP, by rw [hx]; rfl⟩)).elim)
    rw [e]
    exact hf
/-! ### sides -/
def sidesOf (r : List P3) : List (P3 × P3) := (List.range r.length).map fun k => (r.getD (if k = 0 then r.length - 1 else k - 1) P3.O, r.getD k P3.O)
theorem roundL_getD {f : P3 → P3} {k i : Nat} {v : P3} (h : i < k) : (roundL f k v).getD i P3.O = iter f i v := by
  rw [List.getD_eq_getElem?_getD, roundL_get h]
  rfl
theorem mem_sidesR {f : P3 → P3} {k : Nat} {v P Q : P3} (h0 : 0 < k) (hk : iter f k v = v) : (P, Q) ∈ sidesOf (roundL f k v) ↔ P ∈ roundL f k v ∧ f P = Q := by
  unfold sidesOf
  rw [List.mem_map]
  constructor
  · rintro ⟨i, hi, e⟩
    have hi := List.mem_range.mp hi
    rw [roundL_len] at hi e
    rw [roundL_getD hi] at e
    by_cases i0 : i = 0
    · subst i0
      rw [if_pos rfl, roundL_getD (by omega)] at e
      obtain ⟨rfl, rfl⟩ := Prod.mk.inj e
      refine ⟨mem_roundL.mpr ⟨k - 1, by omega, rfl⟩, ?_⟩
      rw [show f (iter f (k - 1) v) = iter f (k - 1 + 1) v from rfl, show k - 1 + 1 = k by omega, hk]
      rfl
    · rw [if_neg i0, roundL_getD (by omega)] at e
      obtain ⟨rfl, rfl⟩ := Prod.mk.inj e
      refine ⟨mem_roundL.mpr ⟨i - 1, by omega, rfl⟩, ?_⟩
      rw [show f (iter f (i - 1) v) = iter f (i - 1 + 1) v from rfl, show i - 1 + 1 = i by omega]
  · rintro ⟨h, rfl⟩
    obtain ⟨i, hi, rfl⟩ := mem_roundL.mp h
    by_cases hx : i + 1 = k
    · refine ⟨0, List.mem_range.mpr (by rw [roundL_len]; exact h0), ?_⟩
      rw [roundL_len, if_pos rfl, roundL_getD h0, roundL_getD (by omega)]
      rw [show f (iter f i v) = iter f (i + 1) v from rfl, hx, hk, show k - 1 = i by omega]
      rfl
    · refine ⟨i + 1, List.mem_range.mpr (by rw [roundL_len]; omega), ?_⟩
      rw [roundL_len, if_neg (by omega), roundL_getD (show i + 1 < k by omega), roundL_getD (by omega)]
      rw [show i + 1 - 1 = i by omega]
      rfl
theorem Flt.mem_sides {n : P3} {S : List P3} (h : Flt n S) {P Q : P3} : (P, Q) ∈ sidesOf (ringS n S) ↔ Ext S P ∧ DW.nxt n S P = Q := by
  rw [show (P, Q) ∈ sidesOf (ringS n S) ↔ _ from mem_sidesR h.per.1 h.per.2.1]
  rw [show P ∈ roundL (DW.nxt n S) (perK (DW.nxt n S) (leastP S)) (leastP S) ↔ _ from h.ring_iff]
theorem sidesOf_len (r : List P3) : (sidesOf r).length = r.length := by
  unfold sidesOf
  rw [List.length_map, List.length_range]
/-- one face alone has a directed edge -/
theorem Face.edge_one (hd : Dim3 pts) (h : Face pts p) (hf : Face pts f) {P Q : P3} (hp : Ext (ons pts p) P) (hq : DW.nxt p.n (ons pts p) P = Q) (hp' : Ext (ons pts f) P) (hq' : DW.nxt f.n (ons pts f) P = Q) : f = p := by
  have e1 := h.flt.nxt hp
  have t1 := h.flt.turn hp
  have e1' := hf.flt.nxt hp'
  have t1' := hf.flt.turn hp'
  have x1 := h.flt.nxt_ext (h.flt.nxt_ext hp)
  have x1' := hf.flt.nxt_ext (hf.flt.nxt_ext hp')
  rw [hq] at e1 t1 x1
  rw [hq'] at e1' t1' x1'
  generalize DW.nxt p.n (ons pts p) Q = R at *
  generalize DW.nxt f.n (ons pts f) Q = T at *
  refine Classical.byContradiction fun hne => ?_
  have noc : ∀ {n A B C}, 0 < tn n A B C → cross (way A B) (way A C) ≠ P3.O := fun {n A B C} h z => by
    rw [tn, z] at h
    simp [prod, P3.O] at h
  have l1 : prod f.n R < f.d := by
    have := hf.sup R (mem_ons.mp x1.mem).1
    rcases Int.lt_or_le (prod f.n R) f.d with x | x
    · exact x
    · exact (hne (Face.uniq hd h hf e1.p e1.q x1.mem (mem_ons.mp e1'.p).2 (mem_ons.mp e1'.q).2 (by omega) (noc t1))).elim
  have l2 : prod p.n T < p.d := by
    have := h.sup T (mem_ons.mp x1'.mem).1
    rcases Int.lt_or_le (prod p.n T) p.d with x | x
    · exact x
    · exact (hne (Face.uniq hd hf h e1'.p e1'.q x1'.mem (mem_ons.mp e1.p).2 (mem_ons.mp e1.q).2 (by omega) (noc t1')).symm).elim
  -- p.n is along PQ x PR , f.n along PQ x PT
  have o1 := h.flt.on.way e1.p e1.q
  have o2 := h.flt.on.way e1.p x1.mem
  have o3 := hf.flt.on.way e1'.p e1'.q
  have o4 := hf.flt.on.way e1'.p x1'.mem
  have k1 : ∀ w, prod p.n p.n * prod (cross (way P Q) (way P R)) w = tn p.n P Q R * prod p.n w := fun w => by
    rw [tn]
    generalize way P Q = a at *
    generalize way P R = b at *
    generalize p.n = n at *
    have e : ad (sm (prod n n) (cross a b)) (sm (-prod n (cross a b)) n) = ad (sm (prod n a) (cross n b)) (sm (prod n b) (cross a n)) := by
      apply P3.ext
      all_goals
        simp only [ad, sm, prod, cross]
        grind
    rw [o1, o2] at e
    have e2 := congrArg (fun v => prod v w) e
    simp only [ad_prod, sm_prod, Int.zero_mul, Int.add_zero] at e2
    have : -prod n (cross a b) * prod n w = -(prod n (cross a b) * prod n w) := Int.neg_mul _ _
    omega
  have k2 : ∀ w, prod f.n f.n * prod (cross (way P Q) (way P T)) w = tn f.n P Q T * prod f.n w := fun w => by
    rw [tn]
    generalize way P Q = a at *
    generalize way P T = b at *
    generalize f.n = n at *
    have e : ad (sm (prod n n) (cross a b)) (sm (-prod n (cross a b)) n) = ad (sm (prod n a) (cross n b)) (sm (prod n b) (cross a n)) := by
      apply P3.ext
      all_goals
        simp only [ad, sm, prod, cross]
        grind
    rw [o3, o4] at e
    have e2 := congrArg (fun v => prod v w) e
    simp only [ad_prod, sm_prod, Int.zero_mul, Int.add_zero] at e2
    have : -prod n (cross a b) * prod n w = -(prod n (cross a b) * prod n w) := Int.neg_mul _ _
    omega
  have m1 := k1 (way P T)
  have m2 := k2 (way P R)
  rw [prod_way p.n, (mem_ons.mp e1.p).2] at m1
  rw [prod_way f.n, (mem_ons.mp e1'.p).2] at m2
  have sw : prod (cross (way P Q) (way P T)) (way P R) = -prod (cross (way P Q) (way P R)) (way P T) := det_sw _ _ _
  rw [sw] at m2
  have s1 := sq_pos h.n0
  have s2 := sq_pos hf.n0
  have n1 := Int.mul_neg_of_pos_of_neg t1 (show prod p.n T - p.d < 0 by omega)
  have n2 := Int.mul_neg_of_pos_of_neg t1' (show prod f.n R - f.d < 0 by omega)
  generalize prod (cross (way P Q) (way P R)) (way P T) = D at *
  rcases Int.lt_or_le D 0 with x | x
  · have := Int.mul_pos s2 (show 0 < -D by omega)
    omega
  · have := Int.mul_nonneg (show 0 ≤ prod p.n p.n by omega) x
    omega
/-! ### the search for all faces -/
noncomputable def sidesAll (pts : List P3) (rs : List Pl) : List (P3 × P3) := rs.flatMap fun p => sidesOf (ringOf pts p)
structure Found (pts : List P3) (rs : List Pl) : Prop where
  face : ∀ p ∈ rs, Face pts p
  nd : rs.Nodup
  ne : rs ≠ []
variable {rs : List Pl}
theorem Found.mem (h : Found pts rs) {P Q : P3} : (P, Q) ∈ sidesAll pts rs ↔ ∃ p ∈ rs, Ext (ons pts p) P ∧ DW.nxt p.n (ons pts p) P = Q := by
  unfold sidesAll
  rw [List.mem_flatMap]
  constructor
  · rintro ⟨p, hp, hm⟩
    exact ⟨p, hp, (h.face p hp).flt.mem_sides.mp hm⟩
  · rintro ⟨p, hp, hm⟩
    exact ⟨p, hp, (h.face p hp).flt.mem_sides.mpr hm⟩
theorem Found.first (hd : Dim3 pts) : Found pts [firstPlane pts] := ⟨fun p hp => by rw [List.mem_singleton.mp hp]; exact firstPlane_face hd, by simp, by simp⟩
/-- a side whose other side is not found yet -/
theorem Found.step (hd : Dim3 pts) (h : Found pts rs) {P Q : P3} (hm : (P, Q) ∈ sidesAll pts rs) (hn : (Q, P) ∉ sidesAll pts rs) : Found pts (rs ++ [planeB pts Q P]) ∧ (Q, P) ∈ sidesAll pts (rs ++ [planeB pts Q P]) := by
  obtain ⟨p, hp, hP, hQ⟩ := h.mem.mp hm
  have nb := (h.face p hp).nb hd hP
  rw [hQ] at nb
  have hf : Found pts (rs ++ [planeB pts Q P]) := ⟨fun q hq => by
      rcases List.mem_append.mp hq with x | x
      · exact h.face q x
      · rw [List.mem_singleton.mp x]
        exact nb.face, by
      rw [List.nodup_append]
      refine ⟨h.nd, by simp, fun a ha b hb e => ?_⟩
      rw [List.mem_singleton.mp hb] at e
      subst e
      exact hn (h.mem.mpr ⟨_, ha, nb.ext, nb.nx⟩), by simp⟩
  exact ⟨hf, hf.mem.mpr ⟨_, List.mem_append_right _ (List.mem_singleton.mpr rfl), nb.ext, nb.nx⟩⟩
theorem Found.closed (hd : Dim3 pts) (h : Found pts rs) (hc : ∀ P Q, (P, Q) ∈ sidesAll pts rs → (Q, P) ∈ sidesAll pts rs) : Closed pts rs := by
  refine ⟨h.ne, h.face, fun p hp v hv => ?_⟩
  have hF := h.face p hp
  have m := hc v _ (h.mem.mpr ⟨p, hp, hv, rfl⟩)
  obtain ⟨f, hf, hQ, hP⟩ := h.mem.mp m
  have nb := hF.nb hd hv
  have := Face.edge_one hd nb.face (h.face f hf) nb.ext nb.nx hQ hP
  rw [show NbC pts p v = f from this.symm]
  exact hf
theorem Closed.iff (hd : Dim3 pts) (h : Closed pts rs) (p : Pl) : p ∈ rs ↔ Face pts p := ⟨h.face p, h.all hd⟩
theorem ringOf_iff (h : Face pts p) {v : P3} : v ∈ ringOf pts p ↔ Ext (ons pts p) v := h.flt.ring_iff
theorem ringOf_sub (h : Face pts p) {v : P3} (hv : v ∈ ringOf pts p) : v ∈ pts := (mem_ons.mp ((ringOf_iff h).mp hv).mem).1
theorem sides_nodup1 (h : Face pts p) : (sidesOf (ringOf pts p)).Nodup := by
  have nd : (ringOf pts p).Nodup := h.flt.ring_nodup
  unfold sidesOf
  rw [List.nodup_iff_pairwise_ne, List.pairwise_map]
  refine List.Pairwise.imp_of_mem (R := fun a b => a < b) ?_ List.pairwise_lt_range
  intro i j hi hj hij e
  have hj := List.mem_range.mp hj
  have e2 := (Prod.mk.inj e).2
  rw [List.getD_eq_getElem?_getD, List.getD_eq_getElem?_getD, List.getElem?_eq_getElem (show i < (ringOf pts p).length by omega), List.getElem?_eq_getElem hj] at e2
  simp only [Option.getD_some] at e2
  have h3 := List.pairwise_iff_getElem.mp (List.nodup_iff_pairwise_ne.mp nd) i j (by omega) hj hij
  exact h3 e2
theorem sides_nodup (hd : Dim3 pts) (h : Found pts rs) : (sidesAll pts rs).Nodup := by
  unfold sidesAll
  rw [List.nodup_iff_pairwise_ne, List.pairwise_flatMap]
  refine ⟨fun p hp => List.nodup_iff_pairwise_ne.mp (sides_nodup1 (h.face p hp)), ?_⟩
  refine List.Pairwise.imp_of_mem (R := fun a b => a ≠ b) ?_ (List.nodup_iff_pairwise_ne.mp h.nd)
  intro p q hp hq hne x hx y hy e
  subst e
  obtain ⟨P, Q⟩ := x
  obtain ⟨a1, a2⟩ := (h.face p hp).flt.mem_sides.mp hx
  obtain ⟨b1, b2⟩ := (h.face q hq).flt.mem_sides.mp hy
  exact hne (Face.edge_one hd (h.face p hp) (h.face q hq) a1 a2 b1 b2).symm
theorem pairs_len {α : Type} (xs ys : List α) : (xs.flatMap fun a => ys.map fun b => (a, b)).length = xs.length * ys.length := by
  induction xs with
  | nil => simp
  | cons x xs ih =>
    rw [List.flatMap_cons, List.length_append, ih, List.length_map, List.length_cons, Nat.succ_mul]
    omega
theorem sides_len (hd : Dim3 pts) (h : Found pts rs) : (sidesAll pts rs).length ≤ pts.length * pts.length := by
  rw [← pairs_len]
  refine List.Nodup.length_le_of_subset (sides_nodup hd h) fun x hx => ?_
  obtain ⟨P, Q⟩ := x
  obtain ⟨p, hp, h1, h2⟩ := h.mem.mp hx
  have e := (h.face p hp).flt.nxt h1
  rw [h2] at e
  exact List.mem_flatMap.mpr ⟨P, (mem_ons.mp e.p).1, List.mem_map.mpr ⟨Q, (mem_ons.mp e.q).1, rfl⟩⟩
theorem rs_len (hd : Dim3 pts) (h : Found pts rs) : rs.length ≤ pts.length * pts.length := by
  refine Nat.le_trans ?_ (sides_len hd h)
  unfold sidesAll
  have : ∀ xs : List Pl, (∀ p ∈ xs, Face pts p) → xs.length ≤ (xs.flatMap fun p => sidesOf (ringOf pts p)).length := by
    intro xs
    induction xs with
    | nil => simp
    | cons x xs ih =>
      intro hx
      have h1 := ih fun p hp => hx p (List.mem_cons_of_mem _ hp)
      have h2 : 3 ≤ (ringOf pts x).length := (hx x List.mem_cons_self).flt.ring_len
      rw [List.flatMap_cons, List.length_append, sidesOf_len, List.length_cons]
      omega
  exact this rs h.face
/-- all faces, in order -/
def LtPl (p q : Pl) : Prop := p.n.x < q.n.x ∨ (p.n.x = q.n.x ∧ (p.n.y < q.n.y ∨ (p.n.y = q.n.y ∧ (p.n.z < q.n.z ∨ (p.n.z = q.n.z ∧ p.d < q.d)))))
structure Faces (pts : List P3) (fs : List Pl) : Prop where
  ord : fs.Pairwise LtPl
  iff : ∀ p, p ∈ fs ↔ Face pts p
theorem sorted_eq {α : Type} {r : α → α → Prop} (asy : ∀ a b, r a b → r b a → False) (irr : ∀ a, ¬ r a a) : ∀ {xs ys : List α}, xs.Pairwise r → ys.Pairwise r → (∀ a, a ∈ xs ↔ a ∈ ys) → xs = ys
  | [], [], _, _, _ => rfl
  | [], y :: ys, _, _, h => by
    have := (h y).mpr List.mem_cons_self
    cases this
  | x :: xs, [], _, _, h => by
    have := (h x).mp List.mem_cons_self
    cases this
  | x :: xs, y :: ys, hx, hy, h => by
    obtain ⟨hx1, hx2⟩ := List.pairwise_cons.mp hx
    obtain ⟨hy1, hy2⟩ := List.pairwise_cons.mp hy
    have exy : x = y := by
      rcases List.mem_cons.mp ((h x).mp List.mem_cons_self) with e | e
      · exact e
      · rcases List.mem_cons.mp ((h y).mpr List.mem_cons_self) with e2 | e2
        · exact e2.symm
        · exact (asy _ _ (hx1 y e2) (hy1 x e)).elim
    subst exy
    congr 1
    refine sorted_eq asy irr hx2 hy2 fun a => ?_
    constructor
    · intro ha
      rcases List.mem_cons.mp ((h a).mp (List.mem_cons_of_mem _ ha)) with e | e
      · subst e
        exact (irr _ (hx1 _ ha)).elim
      · exact e
    · intro ha
      rcases List.mem_cons.mp ((h a).mpr (List.mem_cons_of_mem _ ha)) with e | e
      · subst e
        exact (irr _ (hy1 _ ha)).elim
      · exact e
theorem LtPl.asy (p q : Pl) (h : LtPl p q) (g : LtPl q p) : False := by
  unfold LtPl at *
  omega
theorem LtPl.irr (p : Pl) : ¬ LtPl p p := fun h => LtPl.asy p p h h
theorem Faces.uniq {fs gs : List Pl} (h : Faces pts fs) (g : Faces pts gs) : fs = gs := sorted_eq LtPl.asy LtPl.irr h.ord g.ord fun p => (h.iff p).trans (g.iff p).symm
open Classical in
noncomputable def facesL (pts : List P3) : List Pl := if h : ∃ fs, Faces pts fs then Classical.choose h else []
theorem Faces.eq {fs : List Pl} (h : Faces pts fs) : facesL pts = fs := by
  unfold facesL
  rw [dif_pos ⟨fs, h⟩]
  exact (Classical.choose_spec (⟨fs, h⟩ : ∃ fs, Faces pts fs)).uniq h
end
end DW

set_option autoImplicit false
namespace DW
/-! ### what the walks need -/
structure Pl.Bd (m : Nat) (p : Pl) : Prop where
  n : P3.Bd m p.n
  d : DW.Bd m p.d
theorem Pl.Bd.mono {n m : Nat} {p : Pl} (h : Pl.Bd n p) (e : n ≤ m) : Pl.Bd m p := ⟨h.n.mono e, h.d.mono e⟩
theorem planeA_bd {n : Nat} {P Q R : P3} (hP : P3.Bd n P) (hQ : P3.Bd n Q) (hR : P3.Bd n R) (h : cross (way P Q) (way P R) ≠ P3.O) : Pl.Bd (3 * n + 5) (planeA P Q R) := by
  have hc := (hP.way hQ).cross (hP.way hR)
  have hd := hc.divP (p3gz_pos h)
  have hn : P3.Bd (2 * n + 3) (planeA P Q R).n := hd.mono (by omega)
  exact ⟨hn.mono (by omega), ((((hn.x.mul hP.x).add (hn.y.mul hP.y)).add (hn.z.mul hP.z))).mono (by omega)⟩
theorem best_skip {α : Type} {skip : α → Bool} {cond : α → α → Bool} {xs : List α} {b : α} (h : bestOf skip cond xs = some b) : b ∈ xs ∧ skip b = false := by
  have k := best_ok (skip := skip) (cond := cond) (le := fun _ _ => True) (D := fun _ => True) (fun _ _ _ _ _ => trivial) (fun _ _ _ _ _ => trivial) (fun _ _ _ _ _ _ _ _ => trivial) (fun _ _ => trivial) xs (fun _ _ _ => trivial)
  rw [h] at k
  exact ⟨k.1, k.2.1⟩
theorem bestOf_take {α : Type} (skip : α → Bool) (cond : α → α → Bool) {xs : List α} {i : Nat} {x : α} (h : xs[i]? = some x) : bestOf skip cond (xs.take (i + 1)) = bestS skip cond (bestOf skip cond (xs.take i)) x := by
  unfold bestOf
  rw [List.take_add_one, h, List.foldl_append]
  rfl
open PySem in
def optP : Option P3 → PyData
  | none => .none
  | some u => u.en
def dimA (pts : List P3) : Int :=
  let one := pts.headD P3.O
  let others := pts.filter fun P => !decide (P = one)
  let two := others.headD P3.O
  let off := others.filter fun P => !onLine one two P
  let three := off.headD P3.O
  if others = [] then 0 else if off = [] then 1 else if (off.filter fun P => !decide (lift one two three P = 0)) = [] then 2 else 3
theorem getD_head {α : Type} {xs : List α} {d : α} (h : xs ≠ []) : xs[0]? = some (xs.headD d) := by
  cases xs with
  | nil => exact (h rfl).elim
  | cons x xs => rfl
theorem filter_nil {α : Type} {p : α → Bool} {xs : List α} (h : ¬ xs.filter p = []) : ∃ x ∈ xs, p x = true := by
  cases e : xs.filter p with
  | nil => exact (h e).elim
  | cons x r =>
    have : x ∈ xs.filter p := by rw [e]; exact List.mem_cons_self
    exact ⟨x, (List.mem_filter.mp this).1, (List.mem_filter.mp this).2⟩
theorem dimA_three {pts : List P3} : dimA pts = 3 ↔ Dim3 pts := by
  unfold dimA
  dsimp only
  constructor
  · intro h
    split at h
    · cases h
    split at h
    · cases h
    split at h
    · cases h
    rename_i h1 h2 h3
    have m2 := head_mem (d := P3.O) h1
    have m3 := head_mem (d := P3.O) h2
    obtain ⟨D, hD, hl⟩ := filter_nil h3
    generalize hone : pts.headD P3.O = one at *
    generalize htwo : (pts.filter fun P => !decide (P = one)).headD P3.O = two at *
    have p2 := (List.mem_filter.mp m2).1
    have p3 := (List.mem_filter.mp (List.mem_filter.mp m3).1).1
    have p4 := (List.mem_filter.mp (List.mem_filter.mp hD).1).1
    have p1 : one ∈ pts := by
      have : pts ≠ [] := fun e => by rw [e] at p2; cases p2
      rw [← hone]
      exact head_mem this
    refine ⟨one, p1, two, p2, _, p3, D, p4, ?_⟩
    simpa using hl
  · rintro ⟨A, hA, B, hB, C, hC, D, hD, hne⟩
    generalize hone : pts.headD P3.O = one
    generalize hot : pts.filter (fun P => !decide (P = one)) = others
    have inO : ∀ {R}, R ∈ pts → R ≠ one → R ∈ others := fun {R} h h2 => by
      rw [← hot]
      exact List.mem_filter.mpr ⟨h, by simp [h2]⟩
    have h1 : others ≠ [] := fun e => by
      have all : ∀ R ∈ pts, R = one := fun R hR => Classical.byContradiction fun z => by
        have := inO hR z
        rw [e] at this
        cases this
      rw [all A hA, all B hB, all C hC, all D hD] at hne
      apply hne
      simp only [lift, way_self]
      rfl
    rw [if_neg h1]
    generalize htwo : others.headD P3.O = two
    have m2 : two ∈ others := htwo ▸ head_mem h1
    have n2 : two ≠ one := by
      rw [← hot] at m2
      simpa using (List.mem_filter.mp m2).2
    generalize hoff : others.filter (fun P => !onLine one two P) = off
    have line_one : onLine one two one = true := decide_eq_true (by rw [way_self]; simp [cross, P3.O])
    have inF : ∀ {R}, R ∈ pts → onLine one two R = false → R ∈ off := fun {R} h h2 => by
      rw [← hoff]
      refine List.mem_filter.mpr ⟨inO h fun e => ?_, by rw [h2]; rfl⟩
      rw [e, line_one] at h2
      cases h2
    obtain ⟨E, hE, hEl⟩ := Dim3.offLine (pts := pts) ⟨A, hA, B, hB, C, hC, D, hD, hne⟩ (P := one) (Q := two) n2
    have h2 : off ≠ [] := fun e => by
      have := inF hE hEl
      rw [e] at this
      cases this
    rw [if_neg h2]
    generalize hthree : off.headD P3.O = three
    have m3 : three ∈ off := hthree ▸ head_mem h2
    have l3 : onLine one two three = false := by
      rw [← hoff] at m3
      simpa using (List.mem_filter.mp m3).2
    have hc : cross (way one two) (way one three) ≠ P3.O := of_decide_eq_false l3
    rw [if_neg]
    intro e
    -- all on the plane through one, two, three
    have flat : ∀ R ∈ pts, prod (cross (way one two) (way one three)) (way one R) = 0 := fun R hR => by
      cases hl : onLine one two R with
      | true =>
        have hz : cross (way one two) (way one R) = P3.O := of_decide_eq_true hl
        have : prod (cross (way one two) (way one three)) (way one R) = -prod (cross (way one two) (way one R)) (way one three) := det_sw _ _ _
        rw [this, hz]
        simp [prod, P3.O]
      | false =>
        have hm := inF hR hl
        refine Classical.byContradiction fun z => ?_
        have : R ∈ off.filter fun P => !decide (lift one two three P = 0) := List.mem_filter.mpr ⟨hm, by
          have : ¬ lift one two three R = 0 := z
          simp [this]⟩
        rw [e] at this
        cases this
    apply hne
    have w : ∀ R ∈ pts, prod (cross (way one two) (way one three)) (way A R) = 0 := fun R hR => by
      have h1 := flat R hR
      have h2 := flat A hA
      rw [prod_way] at *
      omega
    exact det_flat hc (w B hB) (w C hC) (w D hD)
open PySem L2 in
theorem at0 {us : List P3} {u : P3} (h : us[0]? = some u) : atI (us.map P3.en) 0 = some u.en := atI_map (f := P3.en) (atI_nat (xs := us) (j := 0) h)
section
open PySem L2
theorem atI_neg1 {α : Type} {xs : List α} {v : α} (h0 : 0 < xs.length) (h : xs[xs.length - 1]? = some v) : atI xs (-1) = some v := by
  unfold atI ixN
  rw [if_neg (by omega), if_pos (by omega)]
  show xs[((-1 : Int) + (xs.length : Int)).toNat]? = some v
  rw [show ((-1 : Int) + (xs.length : Int)).toNat = xs.length - 1 by omega]
  exact h
theorem get_getD {α : Type} {xs : List α} {j : Nat} {d : α} (h : j < xs.length) : xs[j]? = some (xs.getD j d) := by
  rw [List.getD_eq_getElem?_getD, List.getElem?_eq_getElem h]
  rfl
theorem atI_pos {α β : Type} {f : α → β} {xs : List α} {i : Int} {d : α} (h0 : 0 ≤ i) (h1 : i < (xs.length : Int)) : atI (xs.map f) i = some (f (xs.getD i.toNat d)) := by
  have e : i = ((i.toNat : Nat) : Int) := by omega
  have h := atI_nat (xs := xs) (j := i.toNat) (get_getD (d := d) (by omega))
  rw [← e] at h
  exact atI_map h
theorem atI_prev {α β : Type} {f : α → β} {xs : List α} {i : Int} {d : α} (h0 : 0 ≤ i) (h1 : i < (xs.length : Int)) : atI (xs.map f) (i - 1) = some (f (xs.getD (if i = 0 then xs.length - 1 else i.toNat - 1) d)) := by
  by_cases hi : i = 0
  · subst hi
    rw [if_pos rfl]
    exact atI_map (f := f) (atI_neg1 (by omega) (get_getD (d := d) (by omega)))
  · rw [if_neg hi]
    have e := atI_pos (f := f) (d := d) (xs := xs) (i := i - 1) (by omega) (by omega)
    rw [show (i - 1).toNat = i.toNat - 1 by omega] at e
    exact e
theorem GI.is {X : Cx} {G : Gm} {tg iter : Expr} {items items' : List D} (h : GI X G tg iter items) (e : items = items') : GI X G tg iter items' := e ▸ h
theorem GIw.is {X : Cx} {G : Gm} {tg iter : Expr} {items items' : List D} (h : GIw X G tg iter items) (e : items = items') : GIw X G tg iter items' := e ▸ h
end
theorem Flt.some {n : P3} {S : List P3} (h : Flt n S) {P : P3} (hP : Ext S P) : nextOn n P S ≠ none := fun e => by
  have k := next_ok h.n0 h.on hP
  rw [e] at k
  obtain ⟨R, hR, hne⟩ := h.other P
  exact hne (k R hR)
theorem roundL_succ {α : Type} (f : α → α) (i : Nat) (v : α) : roundL f (i + 1) v = roundL f i v ++ [iter f i v] := by
  unfold roundL
  rw [List.range_succ, List.map_append]
  rfl
theorem ons_side (us : List P3) (p : Pl) : us.filter (fun P => decide (sideA p P = 0)) = ons us p := by
  unfold ons
  congr 1
  funext a
  rw [Bool.eq_iff_iff, decide_eq_true_eq, decide_eq_true_eq]
  unfold sideA
  split
  · omega
  · split <;> omega
end DW

set_option autoImplicit false
namespace DW
open PySem
/-! ### the search, as it is walked -/
def nkPl (p : Pl) : NestedKey := .tup [.num p.n.x, .num p.n.y, .num p.n.z, .num p.d]
theorem nkPl_data (p : Pl) : (nkPl p).data = p.en := rfl
theorem nkPl_dep (p : Pl) : (nkPl p).depth ≤ 8 := by
  simp only [nkPl, NestedKey.depth, NestedKey.depthAll]
  omega
theorem nkPl_inj {p q : Pl} (h : nkPl p = nkPl q) : p = q := by
  unfold nkPl at h
  simp only [NestedKey.tup.injEq, List.cons.injEq, NestedKey.num.injEq, and_true] at h
  obtain ⟨h1, h2, h3, h4⟩ := h
  obtain ⟨⟨x, y, z⟩, d⟩ := p
  obtain ⟨⟨x', y', z'⟩, d'⟩ := q
  simp only at h1 h2 h3 h4
  rw [h1, h2, h3, h4]
theorem dget_map {α : Type} {nk : α → NestedKey} (inj : ∀ a b, nk a = nk b → a = b) (f : α → D) {a : α} : ∀ {rs : List α}, a ∈ rs → dget (rs.map fun a => (nk a, f a)) (nk a) = some (f a)
  | [], h => by cases h
  | b :: rs, h => by
    by_cases e : b = a
    · subst e
      simp only [dget, List.map_cons, List.find?_cons, decide_true, Option.map_some]
    · have e2 : ¬ nk b = nk a := fun z => e (inj _ _ z)
      have : a ∈ rs := (List.mem_cons.mp h).elim (fun z => (e z.symm).elim) id
      have ih := dget_map inj f this
      simp only [dget, List.map_cons, List.find?_cons, decide_eq_false e2] at ih ⊢
      exact ih
theorem dget_none {α : Type} {nk : α → NestedKey} (inj : ∀ a b, nk a = nk b → a = b) (f : α → D) {a : α} : ∀ {rs : List α}, a ∉ rs → dget (rs.map fun a => (nk a, f a)) (nk a) = none
  | [], _ => rfl
  | b :: rs, h => by
    have e2 : ¬ nk b = nk a := fun z => h (inj _ _ z ▸ List.mem_cons_self)
    have ih := dget_none inj f (fun z => h (List.mem_cons_of_mem _ z) : a ∉ rs)
    simp only [dget, List.map_cons, List.find?_cons, decide_eq_false e2] at ih ⊢
    exact ih
theorem dput_new {α : Type} {nk : α → NestedKey} (inj : ∀ a b, nk a = nk b → a = b) (f : α → D) {a : α} {rs : List α} (h : a ∉ rs) : dput (rs.map fun a => (nk a, f a)) (nk a) (f a) = (rs ++ [a]).map fun a => (nk a, f a) := by
  unfold dput
  rw [dget_none inj f h, List.map_append]
  rfl
noncomputable def ringD (us : List P3) (p : Pl) : D := .list ((ringOf us p).map P3.en)
noncomputable def kvF (us : List P3) (rs : List Pl) : Kvs := rs.map fun p => (nkPl p, ringD us p)
noncomputable def faceD (us : List P3) (p : Pl) : D := .tuple [p.en, ringD us p]
noncomputable def facesD (us : List P3) : List D := (facesL us).map (faceD us)
section
variable {us : List P3} {rs : List Pl} {p : Pl}
theorem Face.bd {n : Nat} (hb : ∀ u ∈ us, P3.Bd n u) (h : Face us p) : Pl.Bd (3 * n + 5) p := by
  obtain ⟨A, hA, B, hB, C, hC, hne⟩ := h.sp
  obtain ⟨a1, a2⟩ := mem_ons.mp hA
  obtain ⟨b1, b2⟩ := mem_ons.mp hB
  obtain ⟨c1, c2⟩ := mem_ons.mp hC
  have bA := hb A a1
  have hc := (bA.way (hb B b1)).cross (bA.way (hb C c1))
  have hd := hc.divP (p3gz_pos hne)
  have par : cross (cross (way A B) (way A C)) p.n = P3.O := by
    have e : cross (cross (way A B) (way A C)) p.n = ad (sm (prod p.n (way A B)) (way A C)) (sm (-prod p.n (way A C)) (way A B)) := by
      generalize way A B = u
      generalize way A C = v
      apply P3.ext
      all_goals
        simp only [cross, ad, sm, prod]
        grind
    have e1 : prod p.n (way A B) = 0 := by
      rw [prod_way]
      omega
    have e2 : prod p.n (way A C) = 0 := by
      rw [prod_way]
      omega
    rw [e, e1, e2]
    simp only [ad, sm, P3.O, Int.zero_mul, Int.neg_zero, Int.add_zero]
  have par2 : cross (divP (cross (way A B) (way A C)) (p3g (cross (way A B) (way A C)))) p.n = P3.O := by
    have e := divP_sm (cross (way A B) (way A C))
    generalize divP (cross (way A B) (way A C)) (p3g (cross (way A B) (way A C))) = w at e
    have hg := p3gz_pos hne
    generalize p3g (cross (way A B) (way A C)) = g at e hg
    rw [e] at par
    have e3 : cross (sm g w) p.n = sm g (cross w p.n) := by
      apply P3.ext
      all_goals
        simp only [cross, sm]
        grind
    rw [e3] at par
    simp only [sm, P3.O, P3.mk.injEq] at par
    obtain ⟨q1, q2, q3⟩ := par
    have z : ∀ a : Int, g * a = 0 → a = 0 := fun a e => by
      rcases Int.mul_eq_zero.mp e with x | x
      · omega
      · exact x
    exact P3.ext (z _ q1) (z _ q2) (z _ q3)
  have hn : P3.Bd (2 * n + 3) p.n := by
    rcases prim_par (divP_prim hne) h.prim par2 with e | e
    · rw [e]
      exact hd.mono (by omega)
    · rw [e]
      exact ⟨hd.x.neg.mono (by omega), hd.y.neg.mono (by omega), hd.z.neg.mono (by omega)⟩
  refine ⟨hn.mono (by omega), ?_⟩
  rw [← a2]
  exact (((hn.x.mul bA.x).add (hn.y.mul bA.y)).add (hn.z.mul bA.z)).mono (by omega)
theorem sidesAll_snoc (us : List P3) (rs : List Pl) (p : Pl) : sidesAll us (rs ++ [p]) = sidesAll us rs ++ sidesOf (ringOf us p) := by
  unfold sidesAll
  rw [List.flatMap_append]
  simp
theorem Found.side {P Q : P3} (h : Found us rs) (hm : (P, Q) ∈ sidesAll us rs) : P ∈ us ∧ Q ∈ us ∧ Q ≠ P := by
  obtain ⟨p, hp, h1, h2⟩ := h.mem.mp hm
  have e := (h.face p hp).flt.nxt h1
  rw [h2] at e
  exact ⟨(mem_ons.mp e.p).1, (mem_ons.mp e.q).1, e.ne⟩
theorem Found.best {P Q : P3} (hd : Dim3 us) (h : Found us rs) (hm : (P, Q) ∈ sidesAll us rs) : bestB us Q P ≠ none := by
  obtain ⟨_, _, hne⟩ := h.side hm
  obtain ⟨R, hR, hl⟩ := hd.offLine (P := Q) (Q := P) hne.symm
  intro e
  have k := best_ok (skip := onLine Q P) (cond := behindC Q P) (le := fun _ _ => True) (D := fun _ => True) (fun _ _ _ _ _ => trivial) (fun _ _ _ _ _ => trivial) (fun _ _ _ _ _ _ _ _ => trivial) (fun _ _ => trivial) us (fun _ _ _ => trivial)
  unfold bestB at e
  rw [e] at k
  rw [k R hR] at hl
  cases hl
theorem Found.faces (hd : Dim3 us) (h : Found us rs) (hc : ∀ P Q, (P, Q) ∈ sidesAll us rs → (Q, P) ∈ sidesAll us rs) : facesL us = sortE rs := by
  have cl := h.closed hd hc
  refine Faces.eq ⟨?_, fun p => ?_⟩
  · refine (sortE_lt h.nd).imp fun {a b} hlt => ?_
    have hlt : ltPl a b = true := hlt
    unfold ltPl at hlt
    have h2 := of_decide_eq_true hlt
    exact h2
  · rw [sortE_mem]
    exact cl.iff hd p
end
end DW

set_option autoImplicit false
namespace DW
/-! ### planes of triples -/
theorem neg_prod (n x : P3) : prod (negV n) x = -prod n x := by
  simp only [prod, negV]
  grind
theorem cross_neg (u v : P3) : cross v u = negV (cross u v) := by
  apply P3.ext
  all_goals
    simp only [cross, negV]
    grind
theorem p3g_negV (u : P3) : p3g (negV u) = p3g u := by
  unfold p3g negV
  simp only [Int.gcd_neg, Int.neg_gcd]
theorem divP_negV (c : P3) : divP (negV c) (p3g c) = negV (divP c (p3g c)) := by
  obtain ⟨d1, d2, d3⟩ := p3g_dvd c
  unfold divP negV
  rw [Int.neg_ediv_of_dvd d1, Int.neg_ediv_of_dvd d2, Int.neg_ediv_of_dvd d3]
theorem planeOf_neg (c P : P3) : planeOf (negV c) P = ⟨negV (planeOf c P).n, -(planeOf c P).d⟩ := by
  unfold planeOf
  rw [p3g_negV, divP_negV, neg_prod]
theorem par_prim {c n : P3} (hc : c ≠ P3.O) (par : cross c n = P3.O) : cross (divP c (p3g c)) n = P3.O := by
  have e := divP_sm c
  have hg := p3gz_pos hc
  generalize divP c (p3g c) = w at *
  generalize p3g c = g at *
  rw [e] at par
  have e3 : cross (sm g w) n = sm g (cross w n) := by
    apply P3.ext
    all_goals
      simp only [cross, sm]
      grind
  rw [e3] at par
  simp only [sm, P3.O, P3.mk.injEq] at par
  obtain ⟨q1, q2, q3⟩ := par
  have z : ∀ a : Int, g * a = 0 → a = 0 := fun a e => by
    rcases Int.mul_eq_zero.mp e with x | x
    · omega
    · exact x
  exact P3.ext (z _ q1) (z _ q2) (z _ q3)
theorem planeOf_eq {n c A : P3} {d : Int} (hp : p3g n = 1) (hc : c ≠ P3.O) (par : cross c n = P3.O) (hA : prod n A = d) : (⟨n, d⟩ : Pl) = planeOf c A ∨ (⟨n, d⟩ : Pl) = planeOf (negV c) A := by
  subst hA
  rcases prim_par (divP_prim hc) hp (par_prim hc par) with e | e
  · left
    rw [e]
    rfl
  · right
    rw [planeOf_neg, e, neg_prod]
    rfl
theorem face_par {n u v : P3} (e1 : prod n u = 0) (e2 : prod n v = 0) : cross (cross u v) n = P3.O := by
  have e : cross (cross u v) n = ad (sm (prod n u) v) (sm (-prod n v) u) := by
    apply P3.ext
    all_goals
      simp only [cross, ad, sm, prod]
      grind
  rw [e, e1, e2]
  simp only [ad, sm, P3.O, Int.zero_mul, Int.neg_zero, Int.add_zero]
section
variable {us : List P3} {p f g h : Pl}
theorem Face.tri (hf : Face us p) {A B C : P3} (hA : prod p.n A = p.d) (hB : prod p.n B = p.d) (hC : prod p.n C = p.d) (hne : cross (way A B) (way A C) ≠ P3.O) : p = planeOf (cross (way A B) (way A C)) A ∨ p = planeOf (negV (cross (way A B) (way A C))) A :=
  planeOf_eq hf.prim hne (face_par (by rw [prod_way]; omega) (by rw [prod_way]; omega)) hA
theorem norm_id {n a b : P3} (o1 : prod n a = 0) (o2 : prod n b = 0) (w : P3) : prod n n * prod (cross a b) w = prod n (cross a b) * prod n w := by
  have e : ad (sm (prod n n) (cross a b)) (sm (-prod n (cross a b)) n) = ad (sm (prod n a) (cross n b)) (sm (prod n b) (cross a n)) := by
    apply P3.ext
    all_goals
      simp only [ad, sm, prod, cross]
      grind
  rw [o1, o2] at e
  have e2 := congrArg (fun v => prod v w) e
  simp only [ad_prod, sm_prod, Int.zero_mul, Int.add_zero] at e2
  have : -prod n (cross a b) * prod n w = -(prod n (cross a b) * prod n w) := Int.neg_mul _ _
  omega
theorem Spans.offLine {S : List P3} (hs : Spans S) {P Q : P3} (hq : Q ≠ P) : ∃ R ∈ S, cross (way P Q) (way P R) ≠ P3.O := by
  refine Classical.byContradiction fun hno => ?_
  have e : ∀ R ∈ S, cross (way P Q) (way P R) = P3.O := fun R hR => Classical.byContradiction fun z => hno ⟨R, hR, z⟩
  obtain ⟨A, hA, B, hB, C, hC, hne⟩ := hs
  exact hne (par_par (way_ne hq) (cross_way (e A hA) (e B hB)) (cross_way (e A hA) (e C hC)))
theorem sgn_two {N s r r' X Y : Int} (hN : 0 < N) (hs : s ≠ 0) (hr : r < 0) (hr' : r' < 0) (h1 : N * X = s * r) (h2 : N * Y = s * r') : (0 < X ∧ 0 < Y) ∨ (X < 0 ∧ Y < 0) := by
  have pos : ∀ Z, 0 < N * Z → 0 < Z := fun Z hz => by
    rcases Int.lt_or_le 0 Z with x | x
    · exact x
    · have := Int.mul_nonpos_of_nonneg_of_nonpos (show 0 ≤ N by omega) x
      omega
  have neg : ∀ Z, N * Z < 0 → Z < 0 := fun Z hz => by
    rcases Int.lt_or_le Z 0 with x | x
    · exact x
    · have := Int.mul_nonneg (show 0 ≤ N by omega) x
      omega
  rcases Int.lt_or_gt_of_ne hs with x | x
  · have a := Int.mul_pos_of_neg_of_neg x hr
    have b := Int.mul_pos_of_neg_of_neg x hr'
    exact .inl ⟨pos X (by omega), pos Y (by omega)⟩
  · have a := Int.mul_neg_of_pos_of_neg x hr
    have b := Int.mul_neg_of_pos_of_neg x hr'
    exact .inr ⟨neg X (by omega), neg Y (by omega)⟩
/-- three faces have no two points together -/
theorem three_faces (hd : Dim3 us) (hf : Face us f) (hg : Face us g) (hh : Face us h) (fg : f ≠ g) (fh : f ≠ h) (gh : g ≠ h) {t q : P3} (ht : t ∈ us) (hq : q ∈ us) (hne : q ≠ t)
    (ft : prod f.n t = f.d) (gt : prod g.n t = g.d) (hht : prod h.n t = h.d) (fq : prod f.n q = f.d) (gq : prod g.n q = g.d) (hhq : prod h.n q = h.d) : False := by
  obtain ⟨A, hA, cA⟩ := hf.sp.offLine hne
  obtain ⟨B, hB, cB⟩ := hg.sp.offLine hne
  obtain ⟨C, hC, cC⟩ := hh.sp.offLine hne
  obtain ⟨A1, A2⟩ := mem_ons.mp hA
  obtain ⟨B1, B2⟩ := mem_ons.mp hB
  obtain ⟨C1, C2⟩ := mem_ons.mp hC
  have low : ∀ {p p' : Pl}, Face us p → Face us p' → p ≠ p' → prod p.n t = p.d → prod p.n q = p.d → prod p'.n t = p'.d → prod p'.n q = p'.d → ∀ {X}, X ∈ ons us p' → cross (way t q) (way t X) ≠ P3.O → prod p.n (way t X) < 0 := fun {p p'} k k' kne a b c d X hX hc => by
    have := k.sup X (mem_ons.mp hX).1
    rw [prod_way]
    rcases Int.lt_or_le (prod p.n X) p.d with x | x
    · omega
    · exact (kne (Face.uniq hd k' k (mem_ons.mpr ⟨ht, c⟩) (mem_ons.mpr ⟨hq, d⟩) hX a b (by omega) hc)).elim
  have nz : ∀ {p : Pl}, Face us p → prod p.n t = p.d → prod p.n q = p.d → ∀ {X}, X ∈ ons us p → cross (way t q) (way t X) ≠ P3.O → prod p.n (cross (way t q) (way t X)) ≠ 0 := fun {p} k a b X hX hc z => by
    have h2 := (mem_ons.mp hX).2
    exact hc (par_of k.n0 (by rw [prod_way]; omega) (by rw [prod_way]; omega) (by rw [det_rot]; exact z))
  have nid : ∀ {p : Pl}, prod p.n t = p.d → prod p.n q = p.d → ∀ {X}, X ∈ ons us p → ∀ w, prod p.n p.n * prod (cross (way t q) (way t X)) w = prod p.n (cross (way t q) (way t X)) * prod p.n w := fun {p} a b X hX w => by
    have h2 := (mem_ons.mp hX).2
    exact norm_id (by rw [prod_way]; omega) (by rw [prod_way]; omega) w
  have s1 := sgn_two (sq_pos hf.n0) (nz hf ft fq hA cA) (low hf hg fg ft fq gt gq hB cB) (low hf hh fh ft fq hht hhq hC cC) (nid ft fq hA _) (nid ft fq hA _)
  have s2 := sgn_two (sq_pos hg.n0) (nz hg gt gq hB cB) (low hg hf fg.symm gt gq ft fq hA cA) (low hg hh gh gt gq hht hhq hC cC) (nid gt gq hB _) (nid gt gq hB _)
  have s3 := sgn_two (sq_pos hh.n0) (nz hh hht hhq hC cC) (low hh hf fh.symm hht hhq ft fq hA cA) (low hh hg gh.symm hht hhq gt gq hB cB) (nid hht hhq hC _) (nid hht hhq hC _)
  have e1 : prod (cross (way t q) (way t B)) (way t A) = -prod (cross (way t q) (way t A)) (way t B) := det_sw _ _ _
  have e2 : prod (cross (way t q) (way t C)) (way t A) = -prod (cross (way t q) (way t A)) (way t C) := det_sw _ _ _
  have e3 : prod (cross (way t q) (way t C)) (way t B) = -prod (cross (way t q) (way t B)) (way t C) := det_sw _ _ _
  omega
/-! ### the list of all faces -/
def triples (us : List P3) : List Pl := us.flatMap fun A => us.flatMap fun B => us.map fun C => planeA A B C
theorem Face.cand (hf : Face us p) : p ∈ triples us := by
  obtain ⟨A, hA, B, hB, C, hC, hne⟩ := hf.sp
  obtain ⟨a1, a2⟩ := mem_ons.mp hA
  obtain ⟨b1, b2⟩ := mem_ons.mp hB
  obtain ⟨c1, c2⟩ := mem_ons.mp hC
  have key : ∀ {X Y : P3}, X ∈ us → Y ∈ us → planeA A X Y ∈ triples us := fun {X Y} hX hY => List.mem_flatMap.mpr ⟨A, a1, List.mem_flatMap.mpr ⟨X, hX, List.mem_map.mpr ⟨Y, hY, rfl⟩⟩⟩
  rcases hf.tri a2 b2 c2 hne with e | e
  · rw [e]
    exact key b1 c1
  · rw [e, ← cross_neg]
    exact key c1 b1
theorem ltPl_lt {a b : Pl} (h : ltPl a b = true) : LtPl a b := by
  unfold ltPl at h
  have h2 := of_decide_eq_true h
  exact h2
open Classical in
theorem faces_ex (us : List P3) : ∃ fs, Faces us fs := by
  refine ⟨sortE (ddp ((triples us).filter fun p => decide (Face us p))), ?_, fun p => ?_⟩
  · refine (sortE_lt (ddp_nodup _)).imp fun {a b} hlt => ?_
    exact ltPl_lt hlt
  · rw [sortE_mem, mem_ddp, List.mem_filter, decide_eq_true_eq]
    exact ⟨fun h => h.2, fun h => ⟨h.cand, h⟩⟩
theorem faces_ok (us : List P3) : Faces us (facesL us) := by
  obtain ⟨fs, h⟩ := faces_ex us
  rw [h.eq]
  exact h
theorem mem_faces : p ∈ facesL us ↔ Face us p := (faces_ok us).iff p
theorem faces_closed (hd : Dim3 us) : Closed us (facesL us) := by
  refine ⟨fun e => ?_, fun p hp => mem_faces.mp hp, fun p hp v hv => mem_faces.mpr ((mem_faces.mp hp).nb hd hv).face⟩
  have := mem_faces.mpr (firstPlane_face hd)
  rw [e] at this
  cases this
/-! ### the body -/
noncomputable def bodyA (us : List P3) : List P3 := setE ((facesL us).flatMap (ringOf us))
theorem mem_body (hd : Dim3 us) {v : P3} : v ∈ bodyA us ↔ Ext us v := by
  unfold bodyA
  rw [mem_setE, List.mem_flatMap]
  constructor
  · rintro ⟨p, hp, hv⟩
    have hF := mem_faces.mp hp
    exact hF.ext ((ringOf_iff hF).mp hv)
  · intro hv
    obtain ⟨f, hf, e⟩ := (faces_closed hd).corner hd hv
    exact ⟨f, hf, (ringOf_iff (mem_faces.mp hf)).mpr (ext_ons hv e)⟩
theorem body_sorted (us : List P3) : (bodyA us).Pairwise fun a b => EnO.lt a b = true := setE_lt _
/-- a corner is on three faces -/
theorem ext_three (hd : Dim3 us) {v : P3} (hv : Ext us v) : ∃ f g h : Pl, Face us f ∧ Face us g ∧ Face us h ∧ f ≠ g ∧ f ≠ h ∧ g ≠ h ∧ prod f.n v = f.d ∧ prod g.n v = g.d ∧ prod h.n v = h.d := by
  obtain ⟨f, hf, e⟩ := (faces_closed hd).corner hd hv
  have hF := mem_faces.mp hf
  have xv := ext_ons hv e
  obtain ⟨u, xu, huv⟩ := hF.flt.pred xv
  have low := hF.nb_low hd xu
  have n1 := hF.nb hd xu
  have n2 := hF.nb hd xv
  change Nb us f u _ (NbC us f u) at n1
  change Nb us f v _ (NbC us f v) at n2
  rw [huv] at low
  obtain ⟨l1, l2, l3, l4, l5, l6⟩ := low
  exact ⟨f, NbC us f u, NbC us f v, hF, n1.face, n2.face, n1.ne.symm, n2.ne.symm, fun z => by rw [z] at l1; omega, e, l2, l4⟩
/-- a point of three faces is a corner -/
theorem flat_two (hd : Dim3 us) (hf : Face us f) (hg : Face us g) (hh : Face us h) (fg : f ≠ g) (fh : f ≠ h) (gh : g ≠ h) {v : P3} (hv : v ∈ us)
    (fv : prod f.n v = f.d) (gv : prod g.n v = g.d) (hhv : prod h.n v = h.d) : Ext us v := by
  obtain ⟨t, xt, hmax, hle⟩ := (faces_closed hd).K hd (mem_faces.mpr hf) (m := 1) (y := v) (by omega) (fun k hk => by have := (mem_faces.mp hk).sup v hv; omega) g.n
  have F := hf.flt
  obtain ⟨t1, ft⟩ := mem_ons.mp xt.mem
  have gt : prod g.n t = g.d := by
    have := hg.sup t t1
    omega
  by_cases hvt : v = t
  · rw [hvt]
    exact hf.ext xt
  have ht : prod h.n t < h.d := by
    have := hh.sup t t1
    rcases Int.lt_or_le (prod h.n t) h.d with x | x
    · exact x
    · exact (three_faces hd hf hg hh fg fh gh t1 hv hvt ft gt (by omega) fv gv hhv).elim
  have fin : ∀ {r : P3} {D k : Int}, Ext us r → r ≠ t → 0 < D → 0 ≤ k → (∀ w, D * prod w (way t v) = k * prod w (way t r)) → Ext us v := fun {r D k} xr rt hD hk hw => by
    by_cases hvr : v = r
    · rw [hvr]
      exact xr
    exfalso
    have e1 := hw h.n
    rw [prod_way, prod_way, hhv] at e1
    have sr := hh.sup r xr.mem
    have e2 : k * (prod h.n r - prod h.n t) ≤ k * (h.d - prod h.n t) := Int.mul_le_mul_of_nonneg_left (by omega) hk
    have e3 : D ≤ k := by
      have : D * (h.d - prod h.n t) ≤ k * (h.d - prod h.n t) := by omega
      exact Int.le_of_mul_le_mul_right this (by omega)
    obtain ⟨_, w, hx⟩ := xr
    have a1 := hx t t1 rt.symm
    have a2 := hx v hv hvr
    have e4 := hw w
    rw [prod_way] at a1 a2
    rw [prod_way, prod_way] at e4
    generalize prod w v = x at *
    generalize prod w t = y at *
    generalize prod w r = z at *
    have e5 : D * (x - z) = (k - D) * (z - y) := by grind
    have e6 := Int.mul_pos hD a2
    have e7 := Int.mul_nonpos_of_nonneg_of_nonpos (show 0 ≤ k - D by omega) (show z - y ≤ 0 by omega)
    omega
  obtain ⟨u, xu, hut⟩ := F.pred xt
  have e1 := F.nxt xu
  have tu := F.turn xu
  rw [hut] at e1 tu
  have e2 := F.nxt xt
  have xq := F.nxt_ext xt
  generalize nxt f.n (ons us f) t = q at *
  have hvo : v ∈ ons us f := mem_ons.mpr ⟨hv, fv⟩
  have dec := fun w => corner_dec (n := f.n) (P := u) (Q := t) (T := q) (y := way t v) (w := w) F.n0 (F.on.way e1.q e1.p) (F.on.way e2.p e2.q) (F.on.way xt.mem hvo)
  have a0 := e1.tn hvo
  have b0 := e2.tn hvo
  rw [← tn_cyc, tn_det] at a0
  rw [tn_det] at b0
  have d1 := dec g.n
  rw [prod_way, prod_way, prod_way, gv, gt] at d1
  generalize det f.n (way t v) (way t u) = a at *
  generalize det f.n (way t q) (way t v) = b at *
  have gq := hg.sup q (mem_ons.mp xq.mem).1
  have gu := hg.sup u (mem_ons.mp xu.mem).1
  have k1 := Int.mul_nonpos_of_nonneg_of_nonpos a0 (show prod g.n q - g.d ≤ 0 by omega)
  have k2 := Int.mul_nonpos_of_nonneg_of_nonpos b0 (show prod g.n u - g.d ≤ 0 by omega)
  have k3 : a * (prod g.n q - g.d) = 0 := by
    rw [Int.sub_self, Int.mul_zero] at d1
    omega
  have k4 : b * (prod g.n u - g.d) = 0 := by omega
  have noc : cross (way u t) (way u q) ≠ P3.O := fun z => by
    rw [tn, z] at tu
    simp [prod, P3.O] at tu
  by_cases hu : prod g.n u = g.d
  · have hq : prod g.n q ≠ g.d := fun z => fg (Face.uniq hd hf hg e1.p e1.q e2.q hu gt z noc).symm
    have az : a = 0 := by
      rcases Int.mul_eq_zero.mp k3 with x | x
      · exact x
      · omega
    refine fin (hf.ext xu) e1.ne.symm tu b0 fun w => ?_
    have := dec w
    rw [az, Int.zero_mul, Int.zero_add] at this
    exact this
  · have bz : b = 0 := by
      rcases Int.mul_eq_zero.mp k4 with x | x
      · exact x
      · omega
    refine fin (hf.ext xq) e2.ne tu a0 fun w => ?_
    have := dec w
    rw [bz, Int.zero_mul, Int.add_zero] at this
    exact this
end
end DW

set_option autoImplicit false
namespace DW
/-! ### what the walk of the body needs -/
section
variable {us : List P3}
theorem facesL_nodup (us : List P3) : (facesL us).Nodup := by
  rw [List.nodup_iff_pairwise_ne]
  refine (faces_ok us).ord.imp ?_
  intro a b hlt e
  rw [← e] at hlt
  exact LtPl.irr a hlt
theorem facesL_found (hd : Dim3 us) : Found us (facesL us) := ⟨fun p hp => mem_faces.mp hp, facesL_nodup us, (faces_closed hd).ne⟩
theorem rings_len (us : List P3) : ∀ rs : List Pl, (rs.flatMap (ringOf us)).length = (sidesAll us rs).length
  | [] => rfl
  | r :: rs => by
    have ih := rings_len us rs
    unfold sidesAll at *
    rw [List.flatMap_cons, List.flatMap_cons, List.length_append, List.length_append, ih, sidesOf_len]
theorem corners_len (hd : Dim3 us) (i : Nat) : (((facesL us).take i).flatMap (ringOf us)).length ≤ us.length * us.length := by
  have h1 := sides_len hd (facesL_found hd)
  rw [← rings_len] at h1
  have e : facesL us = (facesL us).take i ++ (facesL us).drop i := (List.take_append_drop i _).symm
  rw [e, List.flatMap_append, List.length_append] at h1
  omega
theorem ddp_sub {α : Type} [DecidableEq α] {xs ys : List α} (h : ∀ a ∈ xs, a ∈ ys) : (ddp xs).length ≤ (ddp ys).length :=
  List.Nodup.length_le_of_subset (ddp_nodup xs) fun a ha => mem_ddp.mpr (h a (mem_ddp.mp ha))
theorem ring_len_le {p : Pl} (hf : Face us p) : (ringOf us p).length ≤ us.length :=
  List.Nodup.length_le_of_subset hf.flt.ring_nodup fun a ha => ringOf_sub hf ha
end
end DW

namespace DW
open PySem PySem.Spec PyProof.Rows L2
instance {n : Nat} {i : Int} : Decidable (Bd n i) := inferInstanceAs (Decidable (i.natAbs < 2 ^ n))
/-! the cells and numbers of the first laws -/
def cellA (ns : List Int) (k : Int) : Int := if k < (ns.length : Int) then ns.getD k.toNat 0 else 7 * k * k + 10 * k + 3
theorem getD_mem {ns : List Int} {k : Nat} (h : k < ns.length) : ns.getD k 0 ∈ ns := by
  rw [List.getD_eq_getElem?_getD, List.getElem?_eq_getElem h]
  exact List.getElem_mem h
theorem cellA_bd {ns : List Int} {k : Int} (hb : ∀ z ∈ ns, Bd 1048576 z) (h0 : 0 ≤ k) (h1 : k ≤ 100) : Bd 1048576 (cellA ns k) := by
  unfold cellA
  split
  · exact hb _ (getD_mem (by omega))
  · have e : Bd 100 (7 * k * k + 10 * k + 3) := by
      have hk : Bd 7 k := by
        show k.natAbs < 2 ^ 7
        omega
      have h7 : Bd 3 7 := by decide
      have h10 : Bd 4 10 := by decide
      have h3 : Bd 2 3 := by decide
      exact ((((h7.mul hk).mul hk).add (h10.mul hk)).add h3).mono (by decide)
    exact e.mono (by decide)
def greatA : Int := 10 ^ 64 * 10 ^ 34
def numA (c : Int) : Int := if c % 5 = 0 then c / 5 * (greatA / 8675309 + 11) % (2 * greatA + 1) - greatA else if c % 5 = 1 then c / 5 % 2000001 - 1000000 else c / 5 % 15 - 7
theorem greatA_bd : Bd 330 greatA := by decide +kernel
theorem greatA_pos : 0 < greatA := by decide +kernel
theorem bd_emod {n : Nat} {a m : Int} (h : 0 < m) (g : Bd n m) : Bd n (a % m) := Bd.mod h g
theorem numA_bd (c : Int) : Bd 400 (numA c) := by
  unfold numA
  split
  · have h1 : Bd 330 (2 * greatA + 1) := by decide +kernel
    have h2 : Bd 330 greatA := by decide +kernel
    exact (Bd.sub (Bd.mod (by decide +kernel) h1) h2).mono (by decide)
  · split
    · have h1 : Bd 30 (2000001 : Int) := by decide
      have h2 : Bd 30 (1000000 : Int) := by decide
      exact (Bd.sub (Bd.mod (by decide) h1) h2).mono (by decide)
    · have h1 : Bd 30 (15 : Int) := by decide
      have h2 : Bd 30 (7 : Int) := by decide
      exact (Bd.sub (Bd.mod (by decide) h1) h2).mono (by decide)
def wayR (c0 c1 c2 : Int) : P3 := if numA c0 = 0 ∧ numA c1 = 0 ∧ numA c2 = 0 then ⟨0, 2, -1⟩ else ⟨numA c0, numA c1, numA c2⟩
def wayN (c0 c1 c2 : Int) : P3 := ⟨(wayR c0 c1 c2).x / p3g (wayR c0 c1 c2), (wayR c0 c1 c2).y / p3g (wayR c0 c1 c2), (wayR c0 c1 c2).z / p3g (wayR c0 c1 c2)⟩
theorem wayR_bd (c0 c1 c2 : Int) : P3.Bd 400 (wayR c0 c1 c2) := by
  unfold wayR
  split
  · exact ⟨by decide, by decide, by decide⟩
  · exact ⟨numA_bd _, numA_bd _, numA_bd _⟩
theorem wayR_pos (c0 c1 c2 : Int) : 0 < p3g (wayR c0 c1 c2) := by
  apply p3g_pos
  unfold wayR
  split
  · decide
  · assumption
theorem wayN_bd (c0 c1 c2 : Int) : P3.Bd 400 (wayN c0 c1 c2) := by
  have h := wayR_bd c0 c1 c2
  have p := wayR_pos c0 c1 c2
  exact ⟨h.x.div p, h.y.div p, h.z.div p⟩

end DW

set_option autoImplicit false
namespace DW
/-! ### the cells and points of the laws of bodies -/
def cellH (ns : List Int) (k : Int) : Int := if k < (ns.length : Int) then ns.getD k.toNat 0 else 6 * k * k + 5 * k + 8
theorem cellH_bd {ns : List Int} {k : Int} (hb : ∀ z ∈ ns, Bd 1048576 z) (h0 : 0 ≤ k) (h1 : k ≤ 100) : Bd 1048576 (cellH ns k) := by
  unfold cellH
  split
  · exact hb _ (getD_mem (by omega))
  · have e : Bd 100 (6 * k * k + 5 * k + 8) := by
      have hk : Bd 7 k := by
        show k.natAbs < 2 ^ 7
        omega
      have h7 : Bd 3 6 := by decide
      have h10 : Bd 4 5 := by decide
      have h3 : Bd 4 8 := by decide
      exact ((((h7.mul hk).mul hk).add (h10.mul hk)).add h3).mono (by decide)
    exact e.mono (by decide)
def stirH (total : Int) : Nat → Int
  | 0 => (total * 40009 + 6007) % 2147483647
  | k + 1 => (stirH total k * stirH total k + 5003 * (k : Int) + 11) % 2147483647
def digH (total wide mid : Int) : P3 := ⟨total % wide - mid, total / wide % wide - mid, total / (wide * wide) % wide - mid⟩
def wideH (way : Int) : Int := if way = 0 then 3 else if way = 1 then 5 else 9
def pointH (total way : Int) : P3 :=
  if way = 3 then digH total 2000000001 1000000000
  else if way = 4 then ⟨stirH total 1 % 2000000011 - 1000000000, stirH total 2 % 2000000011 - 1000000000, stirH total 3 % 2000000011 - 1000000000⟩
  else digH total (wideH way) (wideH way / 2)
theorem mod_bd {n : Nat} {a m c : Int} (hm : 0 < m) (hc : 0 ≤ c) (hcm : c ≤ m) (g : Bd n m) : Bd n (a % m - c) := by
  have h1 := Int.emod_nonneg a (show m ≠ 0 by omega)
  have h2 := Int.emod_lt_of_pos a hm
  have g' : m.natAbs < 2 ^ n := g
  show (a % m - c).natAbs < 2 ^ n
  omega
theorem wideH_in (way : Int) : wideH way = 3 ∨ wideH way = 5 ∨ wideH way = 9 := by
  unfold wideH
  split
  · exact .inl rfl
  · split
    · exact .inr (.inl rfl)
    · exact .inr (.inr rfl)
theorem digH_bd {n : Nat} {total w c : Int} (hm : 0 < w) (hc : 0 ≤ c) (hcm : c ≤ w) (g : Bd n w) : P3.Bd n (digH total w c) := ⟨mod_bd hm hc hcm g, mod_bd hm hc hcm g, mod_bd hm hc hcm g⟩
theorem pointH_bd (total way : Int) : P3.Bd 32 (pointH total way) := by
  unfold pointH
  split
  · exact digH_bd (by decide) (by decide) (by decide) (by decide)
  · split
    · exact ⟨mod_bd (by decide) (by decide) (by decide) (by decide), mod_bd (by decide) (by decide) (by decide) (by decide), mod_bd (by decide) (by decide) (by decide) (by decide)⟩
    · rcases wideH_in way with e | e | e
      · rw [e]
        exact digH_bd (by decide) (by decide) (by decide) (by decide)
      · rw [e]
        exact digH_bd (by decide) (by decide) (by decide) (by decide)
      · rw [e]
        exact digH_bd (by decide) (by decide) (by decide) (by decide)
theorem stirH_bd (total : Int) (i : Nat) : Bd 32 (stirH total i) := by
  cases i with
  | zero => exact bd_emod (by decide) (by decide)
  | succ i => exact bd_emod (by decide) (by decide)
def totH (cs : List Int) (m : Nat) : Nat → List Int
  | 0 => (List.range m).map fun (k : Nat) => 5 * (k : Int) * (k : Int) + 3 * (k : Int)
  | i + 1 => (totH cs m i).set (i % m) ((totH cs m i).getD (i % m) 0 + cs.getD i 0)
theorem totH_len (cs : List Int) (m : Nat) : ∀ i, (totH cs m i).length = m
  | 0 => by unfold totH; rw [List.length_map, List.length_range]
  | i + 1 => by unfold totH; rw [List.length_set, totH_len cs m i]
theorem totH_bd {cs : List Int} {m : Nat} (hm : m ≤ 100) (hm0 : 0 < m) (hc : ∀ c ∈ cs, Bd 1048576 c) : ∀ i, ∀ t ∈ totH cs m i, Bd (1048576 + i) t
  | 0, t, ht => by
    unfold totH at ht
    obtain ⟨k, hk, rfl⟩ := List.mem_map.mp ht
    have hk := List.mem_range.mp hk
    have bk : Bd 7 (k : Int) := by
      show (k : Int).natAbs < 2 ^ 7
      omega
    have h7 : Bd 3 5 := by decide
    have h10 : Bd 4 3 := by decide
    exact (((h7.mul bk).mul bk).add (h10.mul bk)).mono (by decide)
  | i + 1, t, ht => by
    unfold totH at ht
    have ih := totH_bd hm hm0 hc i
    rcases List.mem_or_eq_of_mem_set ht with q | q
    · exact (ih t q).mono (by omega)
    · subst q
      have h1 : Bd (1048576 + i) ((totH cs m i).getD (i % m) 0) := by
        have hl := totH_len cs m i
        have := Nat.mod_lt i hm0
        exact ih _ (getD_mem (by omega))
      have h2 : Bd (1048576 + i) (cs.getD i 0) := by
        by_cases hi : i < cs.length
        · exact (hc _ (getD_mem hi)).mono (by omega)
        · rw [List.getD_eq_getElem?_getD, List.getElem?_eq_none (by omega)]
          show Bd _ (0 : Int)
          exact (show Bd 1 0 by decide).mono (by omega)
      exact (h1.add h2).mono (by omega)
def manyH (ns : List Int) (most : Int) : Nat := (4 + cellH ns 0 % (most - 3)).toNat
theorem manyH_eq {ns : List Int} {most : Int} (h : 4 ≤ most) : ((manyH ns most : Nat) : Int) = 4 + cellH ns 0 % (most - 3) := by
  unfold manyH
  have := Int.emod_nonneg (cellH ns 0) (show most - 3 ≠ 0 by omega)
  omega
theorem manyH_in {ns : List Int} {most : Int} (h : 4 ≤ most) : 4 ≤ manyH ns most ∧ (manyH ns most : Int) ≤ most := by
  have e := manyH_eq (ns := ns) h
  have h1 := Int.emod_nonneg (cellH ns 0) (show most - 3 ≠ 0 by omega)
  have h2 := Int.emod_lt_of_pos (cellH ns 0) (show 0 < most - 3 by omega)
  omega
def restH (ns : List Int) : List Int := (ns.drop 2).take 61
def pointsH (ns : List Int) (most : Int) : List P3 := (totH (restH ns) (manyH ns most) (restH ns).length).map fun t => pointH t (cellH ns 1 % 5)
theorem pointsH_len {ns : List Int} {most : Int} : (pointsH ns most).length = manyH ns most := by
  unfold pointsH
  rw [List.length_map, totH_len]
theorem pointsH_bd {ns : List Int} {most : Int} : ∀ u ∈ pointsH ns most, P3.Bd 32 u := fun u hu => by
  unfold pointsH at hu
  obtain ⟨t, _, rfl⟩ := List.mem_map.mp hu
  exact pointH_bd _ _
/-! ### in space -/
theorem lift_base (P A B C E : P3) : lift A B C E = lift P B C E - lift P A C E + lift P A B E - lift P A B C := by
  simp only [lift, prod, cross, way]
  grind
theorem dim3_base {us : List P3} {P : P3} (h : Dim3 us) : ∃ B ∈ us, ∃ C ∈ us, ∃ E ∈ us, lift P B C E ≠ 0 := by
  obtain ⟨A, hA, B, hB, C, hC, E, hE, hne⟩ := h
  refine Classical.byContradiction fun hno => hne ?_
  have z : ∀ X ∈ us, ∀ Y ∈ us, ∀ Z ∈ us, lift P X Y Z = 0 := fun X hX Y hY Z hZ => Classical.byContradiction fun q => hno ⟨X, hX, Y, hY, Z, hZ, q⟩
  rw [lift_base P, z B hB C hC E hE, z A hA C hC E hE, z A hA B hB E hE, z A hA B hB C hC]
  rfl
def cornersAt (u : P3) : List P3 := [⟨u.x + 1, u.y, u.z⟩, ⟨u.x, u.y + 1, u.z⟩, ⟨u.x, u.y, u.z + 1⟩]
open Classical in
noncomputable def solidH (us : List P3) : List P3 := if Dim3 us then us else us ++ cornersAt (us.headD P3.O)
theorem solidH_dim {us : List P3} (h : us ≠ []) : Dim3 (solidH us) := by
  unfold solidH
  split
  · assumption
  · refine ⟨us.headD P3.O, List.mem_append_left _ (head_mem h), _, List.mem_append_right _ (List.mem_cons_self), _, List.mem_append_right _ (List.mem_cons_of_mem _ List.mem_cons_self), _, List.mem_append_right _ (List.mem_cons_of_mem _ (List.mem_cons_of_mem _ List.mem_cons_self)), ?_⟩
    generalize us.headD P3.O = u
    simp only [lift, prod, cross, way]
    intro h
    grind
theorem solidH_len (us : List P3) : us.length ≤ (solidH us).length ∧ (solidH us).length ≤ us.length + 3 := by
  unfold solidH
  split
  · omega
  · rw [List.length_append]
    show us.length ≤ us.length + 3 ∧ us.length + 3 ≤ us.length + 3
    omega
theorem solidH_bd {n : Nat} {us : List P3} (hn : 1 ≤ n) (h : us ≠ []) (hb : ∀ u ∈ us, P3.Bd n u) : ∀ u ∈ solidH us, P3.Bd (n + 1) u := by
  unfold solidH
  split
  · exact fun u hu => (hb u hu).mono (by omega)
  · intro u hu
    have h1 : Bd n 1 := (show Bd 1 1 by decide).mono hn
    rcases List.mem_append.mp hu with q | q
    · exact (hb u q).mono (by omega)
    · have b := hb _ (head_mem (d := P3.O) h)
      have ax := (b.x.add h1).mono (m := n + 1) (by omega)
      have ay := (b.y.add h1).mono (m := n + 1) (by omega)
      have az := (b.z.add h1).mono (m := n + 1) (by omega)
      have b' := b.mono (m := n + 1) (by omega)
      simp only [cornersAt, List.mem_cons, List.not_mem_nil, or_false] at q
      rcases q with rfl | rfl | rfl
      · exact ⟨ax, b'.y, b'.z⟩
      · exact ⟨b'.x, ay, b'.z⟩
      · exact ⟨b'.x, b'.y, az⟩
/-! ### slanted -/
structure Sl7 where
  a : Int
  b : Int
  c : Int
  d : Int
  e : Int
  f : Int
  m : Int
def Sl7.ds (s : Sl7) : List D := [.int s.a, .int s.b, .int s.c, .int s.d, .int s.e, .int s.f, .int s.m]
def farH (cell : Int) : Int := cell / 1029 * 271828182845904523536 % 200000000000000000001 - 100000000000000000000
def slantsH (cell : Int) : Sl7 :=
  let k := if cell % 3 = 2 then 7654321 else 1
  ⟨(cell / 3 % 7 - 3) * k, (cell / 21 % 7 - 3) * k, (cell / 147 % 7 - 3) * k, farH cell, 0 - farH cell / 7, cell / 1029 % 50, cell / 9 % 2⟩
structure Sl7.Bd (n : Nat) (s : Sl7) : Prop where
  a : DW.Bd n s.a
  b : DW.Bd n s.b
  c : DW.Bd n s.c
  d : DW.Bd n s.d
  e : DW.Bd n s.e
  f : DW.Bd n s.f
theorem slantsH_bd (cell : Int) : Sl7.Bd 80 (slantsH cell) := by
  have h3 : ∀ z : Int, DW.Bd 4 (z % 7 - 3) := fun z => mod_bd (by decide) (by decide) (by decide) (by decide)
  have hk : DW.Bd 30 (if cell % 3 = 2 then 7654321 else 1) := by
    split <;> decide
  have hf : DW.Bd 70 (farH cell) := mod_bd (by decide) (by decide) (by decide) (by decide)
  refine ⟨((h3 _).mul hk).mono (by decide), ((h3 _).mul hk).mono (by decide), ((h3 _).mul hk).mono (by decide), hf.mono (by decide), ?_, ?_⟩
  · exact ((show DW.Bd 70 0 by decide).sub (hf.div (by decide))).mono (by decide)
  · exact (bd_emod (n := 8) (by decide) (by decide)).mono (by decide)
def shX (k : Int) (u : P3) : P3 := ⟨u.x + k * u.y, u.y, u.z⟩
def shY (k : Int) (u : P3) : P3 := ⟨u.x, u.y + k * u.z, u.z⟩
def shZ (k : Int) (u : P3) : P3 := ⟨u.x, u.y, u.z + k * u.x⟩
def swXY (u : P3) : P3 := ⟨u.y, u.x, u.z⟩
def slantH (s : Sl7) (u : P3) : P3 :=
  let v := shZ s.c (shY s.b (shX s.a u))
  ad (if s.m = 1 then swXY v else v) ⟨s.d, s.e, s.f⟩
theorem lift_shX (k : Int) (P A B C : P3) : lift (shX k P) (shX k A) (shX k B) (shX k C) = lift P A B C := by
  simp only [lift, prod, cross, way, shX]
  grind
theorem lift_shY (k : Int) (P A B C : P3) : lift (shY k P) (shY k A) (shY k B) (shY k C) = lift P A B C := by
  simp only [lift, prod, cross, way, shY]
  grind
theorem lift_shZ (k : Int) (P A B C : P3) : lift (shZ k P) (shZ k A) (shZ k B) (shZ k C) = lift P A B C := by
  simp only [lift, prod, cross, way, shZ]
  grind
theorem lift_sw (P A B C : P3) : lift (swXY P) (swXY A) (swXY B) (swXY C) = -lift P A B C := by
  simp only [lift, prod, cross, way, swXY]
  grind
theorem lift_ad (P A B C w : P3) : lift (ad P w) (ad A w) (ad B w) (ad C w) = lift P A B C := by
  simp only [lift, prod, cross, way, ad]
  grind
theorem lift_slant (s : Sl7) (P A B C : P3) : lift (slantH s P) (slantH s A) (slantH s B) (slantH s C) = if s.m = 1 then -lift P A B C else lift P A B C := by
  unfold slantH
  dsimp only
  rw [lift_ad]
  split
  · rw [lift_sw, lift_shZ, lift_shY, lift_shX]
  · rw [lift_shZ, lift_shY, lift_shX]
theorem slantH_dim {us : List P3} (s : Sl7) (h : Dim3 us) : Dim3 (us.map (slantH s)) := by
  obtain ⟨A, hA, B, hB, C, hC, E, hE, hne⟩ := h
  refine ⟨_, List.mem_map_of_mem hA, _, List.mem_map_of_mem hB, _, List.mem_map_of_mem hC, _, List.mem_map_of_mem hE, ?_⟩
  rw [lift_slant]
  split
  · omega
  · exact hne
theorem slantH_bd {s : Sl7} {u : P3} (hs : Sl7.Bd 80 s) (hu : P3.Bd 33 u) : P3.Bd 400 (slantH s u) := by
  have e1 := hu.x.add (hs.a.mul hu.y)
  have e2 := hu.y.add (hs.b.mul hu.z)
  have e3 := hu.z.add (hs.c.mul e1)
  unfold slantH
  dsimp only
  have f1 : ∀ {n x y}, DW.Bd n x → n ≤ 390 → DW.Bd 80 y → DW.Bd 400 (x + y) := fun h1 h2 h3 => (h1.add h3).mono (by omega)
  split
  · exact ⟨f1 e2 (by decide) hs.d, f1 e1 (by decide) hs.e, f1 e3 (by decide) hs.f⟩
  · exact ⟨f1 e1 (by decide) hs.d, f1 e2 (by decide) hs.e, f1 e3 (by decide) hs.f⟩
noncomputable def landH (ns : List Int) (most : Int) : List P3 :=
  if cellH ns 1 / 5 % 3 = 0 then solidH (pointsH ns most) else (solidH (pointsH ns most)).map (slantH (slantsH (cellH ns 1 / 5)))
theorem pointsH_ne {ns : List Int} {most : Int} (h : 4 ≤ most) : pointsH ns most ≠ [] := fun e => by
  have h1 := pointsH_len (ns := ns) (most := most)
  have := manyH_in (ns := ns) h
  rw [e] at h1
  simp only [List.length_nil] at h1
  omega
theorem landH_dim {ns : List Int} {most : Int} (h : 4 ≤ most) : Dim3 (landH ns most) := by
  unfold landH
  have := solidH_dim (pointsH_ne (ns := ns) h)
  split
  · exact this
  · exact slantH_dim _ this
theorem landH_bd {ns : List Int} {most : Int} (h : 4 ≤ most) : ∀ u ∈ landH ns most, P3.Bd 400 u := by
  have hs := solidH_bd (by decide) (pointsH_ne (ns := ns) h) (pointsH_bd (ns := ns) (most := most))
  unfold landH
  split
  · exact fun u hu => (hs u hu).mono (by decide)
  · intro u hu
    obtain ⟨v, hv, rfl⟩ := List.mem_map.mp hu
    exact slantH_bd (slantsH_bd _) (hs v hv)
theorem landH_len {ns : List Int} {most : Int} (h : 4 ≤ most) : 4 ≤ (landH ns most).length ∧ ((landH ns most).length : Int) ≤ most + 3 := by
  have h1 := manyH_in (ns := ns) h
  have h2 := solidH_len (pointsH ns most)
  rw [pointsH_len] at h2
  unfold landH
  split
  · omega
  · rw [List.length_map]
    omega
end DW

set_option autoImplicit false
namespace DW
open Classical in
noncomputable def isBodyA (us : List P3) : Bool := if Dim3 us then decide (us = bodyA us) else false
theorem isBodyA_not {us : List P3} (h : ¬ Dim3 us) : isBodyA us = false := by
  unfold isBodyA
  exact if_neg h
theorem isBodyA_nil : isBodyA [] = false := isBodyA_not fun h => h.ne rfl
theorem isBodyA_of {us : List P3} (h : Dim3 us) : isBodyA us = decide (us = bodyA us) := by
  unfold isBodyA
  rw [if_pos h]
theorem dimA_in (us : List P3) : dimA us = 0 ∨ dimA us = 1 ∨ dimA us = 2 ∨ dimA us = 3 := by
  unfold dimA
  dsimp only
  split
  · exact .inl rfl
  · split
    · exact .inr (.inl rfl)
    · split
      · exact .inr (.inr (.inl rfl))
      · exact .inr (.inr (.inr rfl))
theorem dimA_lt {us : List P3} (h : ¬ Dim3 us) : dimA us < 3 := by
  have h1 := dimA_in us
  have h2 : dimA us ≠ 3 := fun e => h (dimA_three.mp e)
  omega
end DW

set_option autoImplicit false
namespace DW
open PySem
/-! ### the planes of all triples -/
theorem minE_ok : ∀ (xs : List Int) (x : Int), minE x xs ∈ x :: xs ∧ ∀ y ∈ x :: xs, minE x xs ≤ y
  | [], x => ⟨List.mem_cons_self, fun y hy => by rw [List.mem_singleton.mp hy]; exact Int.le_refl _⟩
  | z :: xs, x => by
    have e : minE x (z :: xs) = minE (if EnO.lt z x then z else x) xs := rfl
    rw [e]
    have h : ∀ t : Bool, (if t = true then z else x) ∈ x :: z :: xs := fun t => by
      cases t
      · exact List.mem_cons_self
      · exact List.mem_cons_of_mem _ List.mem_cons_self
    have hle : (if EnO.lt z x = true then z else x) ≤ x ∧ (if EnO.lt z x = true then z else x) ≤ z := by
      cases hb : EnO.lt z x with
      | true =>
        have := of_decide_eq_true (show decide (z < x) = true from hb)
        rw [if_pos rfl]
        omega
      | false =>
        have := of_decide_eq_false (show decide (z < x) = false from hb)
        rw [if_neg (by decide)]
        omega
    have hm := h (EnO.lt z x)
    generalize (if EnO.lt z x = true then z else x) = w at *
    obtain ⟨i1, i2⟩ := minE_ok xs w
    refine ⟨?_, fun y hy => ?_⟩
    · rcases List.mem_cons.mp i1 with q | q
      · rw [q]
        exact hm
      · exact List.mem_cons_of_mem _ (List.mem_cons_of_mem _ q)
    · have iw := i2 w List.mem_cons_self
      rcases List.mem_cons.mp hy with q | q
      · rw [q]
        omega
      · rcases List.mem_cons.mp q with q | q
        · rw [q]
          omega
        · exact i2 y (List.mem_cons_of_mem _ q)
theorem maxE_ok : ∀ (xs : List Int) (x : Int), maxE x xs ∈ x :: xs ∧ ∀ y ∈ x :: xs, y ≤ maxE x xs
  | [], x => ⟨List.mem_cons_self, fun y hy => by rw [List.mem_singleton.mp hy]; exact Int.le_refl _⟩
  | z :: xs, x => by
    have e : maxE x (z :: xs) = maxE (if EnO.lt x z then z else x) xs := rfl
    rw [e]
    have h : ∀ t : Bool, (if t = true then z else x) ∈ x :: z :: xs := fun t => by
      cases t
      · exact List.mem_cons_self
      · exact List.mem_cons_of_mem _ List.mem_cons_self
    have hle : x ≤ (if EnO.lt x z = true then z else x) ∧ z ≤ (if EnO.lt x z = true then z else x) := by
      cases hb : EnO.lt x z with
      | true =>
        have := of_decide_eq_true (show decide (x < z) = true from hb)
        rw [if_pos rfl]
        omega
      | false =>
        have := of_decide_eq_false (show decide (x < z) = false from hb)
        rw [if_neg (by decide)]
        omega
    have hm := h (EnO.lt x z)
    generalize (if EnO.lt x z = true then z else x) = w at *
    obtain ⟨i1, i2⟩ := maxE_ok xs w
    refine ⟨?_, fun y hy => ?_⟩
    · rcases List.mem_cons.mp i1 with q | q
      · rw [q]
        exact hm
      · exact List.mem_cons_of_mem _ (List.mem_cons_of_mem _ q)
    · have iw := i2 w List.mem_cons_self
      rcases List.mem_cons.mp hy with q | q
      · rw [q]
        omega
      · rcases List.mem_cons.mp q with q | q
        · rw [q]
          omega
        · exact i2 y (List.mem_cons_of_mem _ q)
def insP (rs : List Pl) (p : Pl) : List Pl := if p ∈ rs then rs else rs ++ [p]
def kvT (rs : List Pl) : Kvs := rs.map fun p => (nkPl p, .bool true)
theorem mem_insP {rs : List Pl} {p q : Pl} : q ∈ insP rs p ↔ q ∈ rs ∨ q = p := by
  unfold insP
  split
  · rename_i h
    exact ⟨.inl, fun z => z.elim id fun e => e ▸ h⟩
  · rw [List.mem_append, List.mem_singleton]
theorem nodup_insP {rs : List Pl} {p : Pl} (h : rs.Nodup) : (insP rs p).Nodup := by
  unfold insP
  split
  · exact h
  · rename_i hp
    rw [List.nodup_append]
    refine ⟨h, by simp, fun a ha b hb e => ?_⟩
    rw [List.mem_singleton.mp hb] at e
    exact hp (e ▸ ha)
theorem dput_ins (rs : List Pl) (p : Pl) : dput (kvT rs) (nkPl p) (.bool true) = kvT (insP rs p) := by
  unfold insP
  split
  · rename_i h
    unfold dput
    have hg : dget (kvT rs) (nkPl p) = some (.bool true) := dget_map (fun _ _ => nkPl_inj) (fun _ => .bool true) h
    rw [hg]
    show (kvT rs).map (fun q => if q.1 = nkPl p then (q.1, .bool true) else q) = kvT rs
    unfold kvT
    rw [List.map_map]
    refine List.map_congr_left fun q _ => ?_
    show (if nkPl q = nkPl p then (nkPl q, _) else (nkPl q, _)) = _
    split <;> rfl
  · rename_i h
    exact dput_new (fun _ _ => nkPl_inj) (fun _ => .bool true) h
section
variable {us ss : List P3} {rs : List Pl} {A B C : P3} {p : Pl} {D D' : Nat → Nat → Nat → Prop}
theorem negV_ne {c : P3} (h : c ≠ P3.O) : negV c ≠ P3.O := fun e => h (by
  simp only [negV, P3.O, P3.mk.injEq] at e
  exact P3.ext (by have := e.1; show c.x = 0; omega) (by have := e.2.1; show c.y = 0; omega) (by have := e.2.2; show c.z = 0; omega))
theorem face_hi (hA : A ∈ us) (hB : B ∈ us) (hC : C ∈ us) (hall : ∀ R ∈ us, prod (cross (way A B) (way A C)) (way A R) ≤ 0) (hex : ∃ R ∈ us, prod (cross (way A B) (way A C)) (way A R) < 0) :
    cross (way A B) (way A C) ≠ P3.O ∧ Face us (planeOf (cross (way A B) (way A C)) A) := by
  have hc : cross (way A B) (way A C) ≠ P3.O := fun z => by
    obtain ⟨R, _, h⟩ := hex
    rw [z] at h
    simp [prod, P3.O] at h
  refine ⟨hc, ?_⟩
  have hg := p3gz_pos hc
  obtain ⟨oB, oC⟩ := planeA_on hc
  refine ⟨fun R hR => ?_, (planeA_c hc).2.2, A, mem_ons.mpr ⟨hA, planeA_P A B C⟩, B, mem_ons.mpr ⟨hB, oB⟩, C, mem_ons.mpr ⟨hC, oC⟩, hc⟩
  have h1 : lift A B C R ≤ 0 := hall R hR
  rw [planeA_lift hc R] at h1
  rcases Int.lt_or_le 0 (prod (planeA A B C).n R - (planeA A B C).d) with q | q
  · have := Int.mul_pos hg q
    omega
  · show prod (planeA A B C).n R ≤ (planeA A B C).d
    omega
theorem face_lo (hA : A ∈ us) (hB : B ∈ us) (hC : C ∈ us) (hall : ∀ R ∈ us, 0 ≤ prod (cross (way A B) (way A C)) (way A R)) (hex : ∃ R ∈ us, 0 < prod (cross (way A B) (way A C)) (way A R)) :
    cross (way A B) (way A C) ≠ P3.O ∧ Face us (planeOf (negV (cross (way A B) (way A C))) A) := by
  have e : ∀ R, prod (cross (way A C) (way A B)) (way A R) = -prod (cross (way A B) (way A C)) (way A R) := fun R => by rw [cross_neg, neg_prod]
  have h := face_hi hA hC hB (fun R hR => by rw [e]; have := hall R hR; omega) (by
    obtain ⟨R, hR, h⟩ := hex
    exact ⟨R, hR, by rw [e]; omega⟩)
  rw [cross_neg (way A B) (way A C)] at h
  exact ⟨fun z => h.1 (by rw [z]; rfl), h.2⟩
theorem cond_hi (hd : Dim3 us) (hc : cross (way A B) (way A C) ≠ P3.O) (hF : Face us (planeOf (cross (way A B) (way A C)) A)) :
    (∀ R ∈ us, prod (cross (way A B) (way A C)) (way A R) ≤ 0) ∧ ∃ R ∈ us, prod (cross (way A B) (way A C)) (way A R) < 0 := by
  have hg := p3gz_pos hc
  have key : ∀ R, prod (cross (way A B) (way A C)) (way A R) = _ * _ := planeA_lift hc
  have sup : ∀ R ∈ us, prod (planeA A B C).n R ≤ (planeA A B C).d := hF.sup
  refine ⟨fun R hR => ?_, ?_⟩
  · rw [key]
    exact Int.mul_nonpos_of_nonneg_of_nonpos (by omega) (by have := sup R hR; omega)
  · obtain ⟨R, hR, hno⟩ := hd.off hF.n0 (planeOf (cross (way A B) (way A C)) A).d
    have hno : prod (planeA A B C).n R ≠ (planeA A B C).d := hno
    refine ⟨R, hR, ?_⟩
    rw [key]
    exact Int.mul_neg_of_pos_of_neg hg (by have := sup R hR; omega)
theorem cond_lo (hd : Dim3 us) (hc : cross (way A B) (way A C) ≠ P3.O) (hF : Face us (planeOf (negV (cross (way A B) (way A C))) A)) :
    (∀ R ∈ us, 0 ≤ prod (cross (way A B) (way A C)) (way A R)) ∧ ∃ R ∈ us, 0 < prod (cross (way A B) (way A C)) (way A R) := by
  have e : ∀ R, prod (cross (way A C) (way A B)) (way A R) = -prod (cross (way A B) (way A C)) (way A R) := fun R => by rw [cross_neg, neg_prod]
  rw [← cross_neg (way A B) (way A C)] at hF
  obtain ⟨h1, R, hR, h2⟩ := cond_hi hd (by rw [cross_neg]; exact negV_ne hc) hF
  rw [e] at h2
  exact ⟨fun R hR => by have := h1 R hR; rw [e] at this; omega, R, hR, by omega⟩
structure Srch (us ss : List P3) (rs : List Pl) (D : Nat → Nat → Nat → Prop) : Prop where
  nd : rs.Nodup
  face : ∀ p ∈ rs, Face us p
  all : ∀ a b c, D a b c → a < b → b < c → ∀ A B C, ss[a]? = some A → ss[b]? = some B → ss[c]? = some C → ∀ p, Face us p → prod p.n A = p.d → prod p.n B = p.d → prod p.n C = p.d → cross (way A B) (way A C) ≠ P3.O → p ∈ rs
theorem Srch.weak (h : Srch us ss rs D) (k : ∀ a b c, a < b → b < c → c < ss.length → D' a b c → D a b c) : Srch us ss rs D' :=
  ⟨h.nd, h.face, fun a b c hD h1 h2 A B C hA hB hC => h.all a b c (k a b c h1 h2 (List.getElem?_eq_some_iff.mp hC).1 hD) h1 h2 A B C hA hB hC⟩
theorem Srch.ins (h : Srch us ss rs D) {q : Pl} (hq : Face us q) : Srch us ss (insP rs q) D :=
  ⟨nodup_insP h.nd, fun p hp => (mem_insP.mp hp).elim (h.face p) fun e => e ▸ hq, fun a b c hD h1 h2 A B C hA hB hC p hF k1 k2 k3 k4 => mem_insP.mpr (.inl (h.all a b c hD h1 h2 A B C hA hB hC p hF k1 k2 k3 k4))⟩
theorem Srch.add (h : Srch us ss rs D) {i j k : Nat} (hA : ss[i]? = some A) (hB : ss[j]? = some B) (hC : ss[k]? = some C)
    (h1 : Face us (planeOf (cross (way A B) (way A C)) A) → cross (way A B) (way A C) ≠ P3.O → planeOf (cross (way A B) (way A C)) A ∈ rs) (h2 : Face us (planeOf (negV (cross (way A B) (way A C))) A) → cross (way A B) (way A C) ≠ P3.O → planeOf (negV (cross (way A B) (way A C))) A ∈ rs) :
    Srch us ss rs (fun a b c => D a b c ∨ (a = i ∧ b = j ∧ c = k)) := by
  refine ⟨h.nd, h.face, fun a b c hD q1 q2 A' B' C' eA eB eC p hF k1 k2 k3 k4 => ?_⟩
  rcases hD with hD | ⟨rfl, rfl, rfl⟩
  · exact h.all a b c hD q1 q2 A' B' C' eA eB eC p hF k1 k2 k3 k4
  · rw [hA] at eA
    rw [hB] at eB
    rw [hC] at eC
    cases eA
    cases eB
    cases eC
    rcases hF.tri k1 k2 k3 k4 with e | e
    · rw [e] at hF ⊢
      exact h1 hF k4
    · rw [e] at hF ⊢
      exact h2 hF k4
def n3 (A B C : P3) : P3 := cross (way A B) (way A C)
theorem n3_sw (A B C : P3) : n3 A C B = negV (n3 A B C) := cross_neg _ _
theorem n3_cyc (A B C : P3) : n3 B C A = n3 A B C := cross_cyc A B C
theorem n3_ne (h : n3 A B C ≠ P3.O) : n3 A C B ≠ P3.O := by
  rw [n3_sw]
  exact negV_ne h
theorem n3_cy (h : n3 A B C ≠ P3.O) : n3 B C A ≠ P3.O := by
  rw [n3_cyc]
  exact h
theorem n3_d (h : n3 A B C ≠ P3.O) : A ≠ B ∧ A ≠ C ∧ B ≠ C := by
  refine ⟨fun e => h ?_, fun e => h ?_, fun e => h ?_⟩
  · subst e
    simp only [n3, way_self]
    simp [cross, P3.O]
  · subst e
    simp only [n3, way_self]
    simp [cross, P3.O]
  · subst e
    apply P3.ext
    all_goals
      simp only [n3, cross, P3.O]
      grind
theorem Srch.fin (hs : ∀ v, v ∈ us → v ∈ ss) (h : Srch us ss rs D) (hD : ∀ a b c, a < b → b < c → c < ss.length → D a b c) : sortE rs = facesL us := by
  refine (Faces.eq ⟨?_, fun p => ?_⟩).symm
  · exact (sortE_lt h.nd).imp fun {a b} hlt => ltPl_lt hlt
  · rw [sortE_mem]
    refine ⟨h.face p, fun hF => ?_⟩
    obtain ⟨A, hA, B, hB, C, hC, hne⟩ := hF.sp
    obtain ⟨a1, a2⟩ := mem_ons.mp hA
    obtain ⟨b1, b2⟩ := mem_ons.mp hB
    obtain ⟨c1, c2⟩ := mem_ons.mp hC
    obtain ⟨a, ea⟩ := List.getElem?_of_mem (hs A a1)
    obtain ⟨b, eb⟩ := List.getElem?_of_mem (hs B b1)
    obtain ⟨c, ec⟩ := List.getElem?_of_mem (hs C c1)
    have hne : n3 A B C ≠ P3.O := hne
    obtain ⟨d1, d2, d3⟩ := n3_d hne
    have e1 : a ≠ b := fun e => d1 (by rw [e, eb] at ea; exact (Option.some.inj ea).symm)
    have e2 : a ≠ c := fun e => d2 (by rw [e, ec] at ea; exact (Option.some.inj ea).symm)
    have e3 : b ≠ c := fun e => d3 (by rw [e, ec] at eb; exact (Option.some.inj eb).symm)
    have go : ∀ {x y z X Y Z}, x < y → y < z → ss[x]? = some X → ss[y]? = some Y → ss[z]? = some Z → prod p.n X = p.d → prod p.n Y = p.d → prod p.n Z = p.d → n3 X Y Z ≠ P3.O → p ∈ rs := fun {x y z X Y Z} q1 q2 hX hY hZ x1 x2 x3 hn => h.all x y z (hD x y z q1 q2 (List.getElem?_eq_some_iff.mp hZ).1) q1 q2 X Y Z hX hY hZ p hF x1 x2 x3 hn
    rcases Nat.lt_or_gt_of_ne e1 with q1 | q1
    · rcases Nat.lt_or_gt_of_ne e3 with q2 | q2
      · exact go q1 q2 ea eb ec a2 b2 c2 hne
      · rcases Nat.lt_or_gt_of_ne e2 with q3 | q3
        · exact go q3 q2 ea ec eb a2 c2 b2 (n3_ne hne)
        · exact go q3 q1 ec ea eb c2 a2 b2 (n3_cy (n3_cy hne))
    · rcases Nat.lt_or_gt_of_ne e2 with q2 | q2
      · exact go q1 q2 eb ea ec b2 a2 c2 (n3_cy (n3_cy (n3_ne hne)))
      · rcases Nat.lt_or_gt_of_ne e3 with q3 | q3
        · exact go q3 q2 eb ec ea b2 c2 a2 (n3_cy hne)
        · exact go q3 q1 ec eb ea c2 b2 a2 (n3_cy (n3_ne hne))
theorem Srch.len (hd : Dim3 us) (h : Srch us ss rs D) : rs.length ≤ us.length * us.length := by
  by_cases e : rs = []
  · rw [e]
    exact Nat.zero_le _
  · exact rs_len hd ⟨h.face, h.nd, e⟩
/-! ### corners by planes -/
def onsP (fs : List Pl) (v : P3) : List Pl := fs.filter fun p => decide (prod p.n v = p.d)
theorem mem_onsP {fs : List Pl} {v : P3} : p ∈ onsP fs v ↔ p ∈ fs ∧ prod p.n v = p.d := by
  unfold onsP
  rw [List.mem_filter, decide_eq_true_eq]
theorem three_of {α : Type} {xs : List α} (hn : xs.Nodup) (h : 3 ≤ xs.length) : ∃ f g k, f ∈ xs ∧ g ∈ xs ∧ k ∈ xs ∧ f ≠ g ∧ f ≠ k ∧ g ≠ k := by
  match xs, hn, h with
  | a :: b :: c :: r, hn, _ =>
    simp only [List.nodup_cons, List.mem_cons, not_or] at hn
    exact ⟨a, b, c, List.mem_cons_self, List.mem_cons_of_mem _ List.mem_cons_self, List.mem_cons_of_mem _ (List.mem_cons_of_mem _ List.mem_cons_self), hn.1.1, hn.1.2.1, hn.2.1.1⟩
theorem ext_iff3 (hd : Dim3 us) {v : P3} (hv : v ∈ us) : Ext us v ↔ 2 < (onsP (facesL us) v).length := by
  constructor
  · intro h
    obtain ⟨f, g, k, hf, hg, hk, fg, fk, gk, f1, g1, k1⟩ := ext_three hd h
    have nd : [f, g, k].Nodup := by
      simp only [List.nodup_cons, List.mem_cons, List.not_mem_nil, or_false, not_or, not_false_eq_true, List.nodup_nil, and_true]
      exact ⟨⟨fg, fk⟩, gk⟩
    exact List.Nodup.length_le_of_subset nd fun x hx => by
      simp only [List.mem_cons, List.not_mem_nil, or_false] at hx
      rcases hx with rfl | rfl | rfl
      · exact mem_onsP.mpr ⟨mem_faces.mpr hf, f1⟩
      · exact mem_onsP.mpr ⟨mem_faces.mpr hg, g1⟩
      · exact mem_onsP.mpr ⟨mem_faces.mpr hk, k1⟩
  · intro h
    have nd : (onsP (facesL us) v).Nodup := List.Pairwise.filter _ (facesL_nodup us)
    obtain ⟨f, g, k, hf, hg, hk, fg, fk, gk⟩ := three_of nd h
    obtain ⟨f1, f2⟩ := mem_onsP.mp hf
    obtain ⟨g1, g2⟩ := mem_onsP.mp hg
    obtain ⟨k1, k2⟩ := mem_onsP.mp hk
    exact flat_two hd (mem_faces.mp f1) (mem_faces.mp g1) (mem_faces.mp k1) fg fk gk hv f2 g2 k2
theorem corners_eq (hd : Dim3 us) : (setE us).filter (fun v => decide ((2 : Int) < ((onsP (facesL us) v).length : Int))) = bodyA us := by
  refine strict_eq ((setE_lt us).filter _) (body_sorted us) fun v => ?_
  rw [List.mem_filter, mem_setE, mem_body hd, decide_eq_true_eq]
  constructor
  · rintro ⟨h1, h2⟩
    exact (ext_iff3 hd h1).mpr (by omega)
  · intro h
    exact ⟨h.mem, by have := (ext_iff3 hd h.mem).mp h; omega⟩
end
end DW

set_option autoImplicit false
namespace DW
/-! ### the worth of a corner -/
def sumN (fs : List Pl) : P3 := ⟨(fs.map fun p => p.n.x).sum, (fs.map fun p => p.n.y).sum, (fs.map fun p => p.n.z).sum⟩
theorem prod_sumN (w : P3) : ∀ fs : List Pl, prod (sumN fs) w = (fs.map fun p => prod p.n w).sum
  | [] => by simp [sumN, prod]
  | f :: fs => by
    have ih := prod_sumN w fs
    simp only [sumN, prod, List.map_cons, List.sum_cons] at ih ⊢
    grind
theorem sum_abs {α : Type} {n : Nat} (f : α → Int) : ∀ xs : List α, (∀ x ∈ xs, Bd n (f x)) → (xs.map f).sum.natAbs ≤ xs.length * 2 ^ n
  | [], _ => by simp
  | x :: xs, h => by
    have h1 := sum_abs f xs fun y hy => h y (List.mem_cons_of_mem _ hy)
    have h2 : (f x).natAbs < 2 ^ n := h x List.mem_cons_self
    rw [List.map_cons, List.sum_cons, List.length_cons, Nat.succ_mul]
    omega
theorem sum_bd {α : Type} {n k : Nat} {f : α → Int} {xs : List α} (h : ∀ x ∈ xs, Bd n (f x)) (hk : xs.length < 2 ^ k) : Bd (n + k) (xs.map f).sum := by
  have h1 := sum_abs f xs h
  show _ < 2 ^ (n + k)
  have h2 : xs.length * 2 ^ n < 2 ^ k * 2 ^ n := Nat.mul_lt_mul_of_pos_right hk (Nat.two_pow_pos n)
  rw [Nat.pow_add, Nat.mul_comm (2 ^ n)]
  omega
theorem sumN_bd {fs : List Pl} {n k : Nat} (h : ∀ p ∈ fs, P3.Bd n p.n) (hk : fs.length < 2 ^ k) : P3.Bd (n + k) (sumN fs) :=
  ⟨sum_bd (fun p hp => (h p hp).x) hk, sum_bd (fun p hp => (h p hp).y) hk, sum_bd (fun p hp => (h p hp).z) hk⟩
theorem highest_ok {us : List P3} {v : P3} (hd : Dim3 us) (hv : Ext us v) : ∀ R ∈ us, R ≠ v → prod (sumN (onsP (facesL us) v)) (way v R) < 0 := fun R hR hne => by
  rw [prod_sumN]
  have term : ∀ p ∈ onsP (facesL us) v, prod p.n (way v R) ≤ 0 := fun p hp => by
    obtain ⟨h1, h2⟩ := mem_onsP.mp hp
    have := (mem_faces.mp h1).sup R hR
    rw [prod_way]
    omega
  have h := sum_lt (fun p : Pl => prod p.n (way v R)) 0 (onsP (facesL us) v) term ?_
  · omega
  · have nd : (onsP (facesL us) v).Nodup := List.Pairwise.filter _ (facesL_nodup us)
    obtain ⟨f, g, k, hf, hg, hk, fg, fk, gk⟩ := three_of nd ((ext_iff3 hd hv.mem).mp hv)
    obtain ⟨f1, f2⟩ := mem_onsP.mp hf
    obtain ⟨g1, g2⟩ := mem_onsP.mp hg
    obtain ⟨k1, k2⟩ := mem_onsP.mp hk
    refine Classical.byContradiction fun hno => ?_
    have all : ∀ p ∈ onsP (facesL us) v, prod p.n R = p.d := fun p hp => by
      have h1 := term p hp
      have h2 : ¬ prod p.n (way v R) < 0 := fun z => hno ⟨p, hp, z⟩
      have h3 := (mem_onsP.mp hp).2
      rw [prod_way] at h1 h2
      omega
    exact three_faces hd (mem_faces.mp f1) (mem_faces.mp g1) (mem_faces.mp k1) fg fk gk hv.mem hR hne f2 g2 k2 (all f hf) (all g hg) (all k hk)
end DW

set_option autoImplicit false
namespace DW
/-! ### the same hull -/
theorem ext_min (w : P3) {S : List P3} (hS : S ≠ []) : ∃ c, Ext S c ∧ ∀ R ∈ S, prod w c ≤ prod w R := by
  obtain ⟨m, hm, hmin⟩ := min_ex (fun R => prod w R) S hS
  have mT : ∀ {R}, R ∈ (S.filter fun R => decide (prod w R = prod w m)) ↔ R ∈ S ∧ prod w R = prod w m := fun {R} => by
    rw [List.mem_filter, decide_eq_true_eq]
  have hT : (S.filter fun R => decide (prod w R = prod w m)) ≠ [] := fun e => by
    have := mT.mpr ⟨hm, rfl⟩
    rw [e] at this
    cases this
  generalize (S.filter fun R => decide (prod w R = prod w m)) = T at mT hT
  obtain ⟨l1, l2⟩ := leastP_ok hT
  obtain ⟨_, w', hw'⟩ := least_ext l1 l2
  generalize leastP T = c at *
  obtain ⟨c1, c2⟩ := mT.mp l1
  obtain ⟨M, _, hM⟩ := bigM (fun R => prod w R - prod w m) (fun R => prod w' (way c R)) (S.filter fun R => decide (R ≠ c)) (fun R hR => by
    obtain ⟨q1, q2⟩ := List.mem_filter.mp hR
    have q3 := of_decide_eq_true q2
    have := hmin R q1
    refine ⟨by omega, fun e => hw' R (mT.mpr ⟨q1, by omega⟩) q3⟩)
  refine ⟨c, ⟨c1, ad (sm M w) w', fun R hR hne => ?_⟩, fun R hR => by have := hmin R hR; omega⟩
  have := hM M (Int.le_refl _) R (List.mem_filter.mpr ⟨hR, decide_eq_true hne⟩)
  rw [ad_prod, sm_prod, prod_way w, c2]
  exact this
structure SameH (us vs : List P3) : Prop where
  le : ∀ w d, (∀ R ∈ us, prod w R ≤ d) ↔ (∀ R ∈ vs, prod w R ≤ d)
section
variable {us vs : List P3} {p : Pl} {v : P3}
theorem SameH.symm (h : SameH us vs) : SameH vs us := ⟨fun w d => (h.le w d).symm⟩
theorem SameH.refl (us : List P3) : SameH us us := ⟨fun _ _ => Iff.rfl⟩
theorem SameH.trans {ws : List P3} (h : SameH us vs) (g : SameH vs ws) : SameH us ws := ⟨fun w d => (h.le w d).trans (g.le w d)⟩
theorem SameH.of_mem (h : ∀ v, v ∈ us ↔ v ∈ vs) : SameH us vs := ⟨fun w d => ⟨fun k R hR => k R ((h R).mpr hR), fun k R hR => k R ((h R).mp hR)⟩⟩
theorem SameH.of_ext (h1 : ∀ w d, (∀ R ∈ us, prod w R ≤ d) → ∀ R ∈ vs, prod w R ≤ d) (h2 : ∀ v, Ext us v → v ∈ vs) : SameH us vs := ⟨fun w d => ⟨h1 w d, fun k R hR => by
  obtain ⟨c, hc, hmin⟩ := ext_min (negV w) (S := us) (fun e => by rw [e] at hR; cases hR)
  have a := k c (h2 c hc)
  have b := hmin R hR
  rw [neg_prod, neg_prod] at b
  omega⟩⟩
theorem SameH.lo (h : SameH us vs) {w : P3} {d : Int} (k : ∀ R ∈ us, d ≤ prod w R) : ∀ R ∈ vs, d ≤ prod w R := fun R hR => by
  have := (h.le (negV w) (-d)).mp (fun R hR => by have := k R hR; rw [neg_prod]; omega) R hR
  rw [neg_prod] at this
  omega
theorem SameH.ext (h : SameH us vs) (hv : Ext us v) : Ext vs v := by
  obtain ⟨hm, w, hw⟩ := hv
  have ge : ∀ R ∈ us, prod w v ≤ prod w R := fun R hR => by
    by_cases e : R = v
    · rw [e]
      exact Int.le_refl _
    · have := hw R hR e
      rw [prod_way] at this
      omega
  have lo := h.lo ge
  have key : ∀ c ∈ vs, prod w c = prod w v → c = v := fun c hc e => by
    refine Classical.byContradiction fun hne => ?_
    have hpos := sq_pos (way_ne (P := c) (Q := v) (fun z => hne z.symm))
    obtain ⟨M, _, hM⟩ := bigM (fun R => prod w (way v R)) (fun R => prod (way c v) (way v R)) (us.filter fun R => decide (R ≠ v)) (fun R hR => by
      obtain ⟨q1, q2⟩ := List.mem_filter.mp hR
      have := hw R q1 (of_decide_eq_true q2)
      exact ⟨by omega, fun z => by omega⟩)
    have k := h.lo (w := ad (sm M w) (way c v)) (d := prod (ad (sm M w) (way c v)) v) (fun R hR => by
      by_cases e2 : R = v
      · rw [e2]
        exact Int.le_refl _
      · have := hM M (Int.le_refl _) R (List.mem_filter.mpr ⟨hR, decide_eq_true e2⟩)
        rw [prod_way w, prod_way (way c v)] at this
        rw [ad_prod, ad_prod, sm_prod, sm_prod]
        have e3 : M * (prod w R - prod w v) = M * prod w R - M * prod w v := Int.mul_sub _ _ _
        omega) c hc
    rw [ad_prod, ad_prod, sm_prod, sm_prod, e] at k
    rw [prod_way (way c v)] at hpos
    omega
  have mem : v ∈ vs := by
    refine Classical.byContradiction fun hno => ?_
    have all : ∀ R ∈ vs, prod w v + 1 ≤ prod w R := fun R hR => by
      have a := lo R hR
      have b : prod w R ≠ prod w v := fun e => hno (key R hR e ▸ hR)
      omega
    have := h.symm.lo all v hm
    omega
  exact ⟨mem, w, fun R hR hne => by
    rw [prod_way]
    have a := lo R hR
    have b : prod w R ≠ prod w v := fun e => hne (key R hR e)
    omega⟩
theorem SameH.ext_iff (h : SameH us vs) : Ext us v ↔ Ext vs v := ⟨h.ext, h.symm.ext⟩
theorem perp_ex (u : P3) : ∃ n : P3, n ≠ P3.O ∧ prod n u = 0 := by
  by_cases hx : u.x = 0 ∧ u.y = 0
  · refine ⟨⟨1, 0, 0⟩, by decide, ?_⟩
    simp only [prod, hx.1]
    omega
  · refine ⟨⟨-u.y, u.x, 0⟩, fun e => hx ?_, ?_⟩
    · simp only [P3.O, P3.mk.injEq] at e
      omega
    · simp only [prod]
      grind
theorem flat_of_not (hn : ¬ Dim3 us) (h0 : us ≠ []) : ∃ n d, n ≠ P3.O ∧ ∀ R ∈ us, prod n R = d := by
  obtain ⟨A, hA⟩ : ∃ A, A ∈ us := ⟨_, head_mem (d := P3.O) h0⟩
  by_cases hB : ∃ B ∈ us, ∃ C ∈ us, cross (way A B) (way A C) ≠ P3.O
  · obtain ⟨B, hB, C, hC, hne⟩ := hB
    refine ⟨_, prod (cross (way A B) (way A C)) A, hne, fun R hR => ?_⟩
    have : lift A B C R = 0 := Classical.byContradiction fun z => hn ⟨A, hA, B, hB, C, hC, R, hR, z⟩
    unfold lift at this
    rw [prod_way] at this
    omega
  · have all : ∀ B ∈ us, ∀ C ∈ us, cross (way A B) (way A C) = P3.O := fun B hB' C hC => Classical.byContradiction fun z => hB ⟨B, hB', C, hC, z⟩
    by_cases hB2 : ∃ B ∈ us, B ≠ A
    · obtain ⟨B, hB', hne⟩ := hB2
      obtain ⟨n, n0, hnu⟩ := perp_ex (way A B)
      refine ⟨n, prod n A, n0, fun R hR => ?_⟩
      have k := par_eq (all B hB' R hR) (way A B) n
      rw [hnu, Int.mul_zero] at k
      have hp := sq_pos (way_ne hne)
      rcases Int.mul_eq_zero.mp k with q | q
      · omega
      · rw [prod_way] at q
        omega
    · refine ⟨⟨1, 0, 0⟩, A.x, by decide, fun R hR => ?_⟩
      have : R = A := Classical.byContradiction fun z => hB2 ⟨R, hR, z⟩
      rw [this]
      simp only [prod]
      omega
theorem SameH.ne (h : SameH us vs) (hv : us ≠ []) : vs ≠ [] := fun e => by
  have hA := head_mem (d := P3.O) hv
  have := (h.le ⟨1, 0, 0⟩ ((us.headD P3.O).x - 1)).mpr (fun R hR => by rw [e] at hR; cases hR) _ hA
  simp only [prod] at this
  omega
theorem SameH.dim (h : SameH us vs) (hd : Dim3 us) : Dim3 vs := by
  refine Classical.byContradiction fun hn => ?_
  obtain ⟨n, d, n0, hall⟩ := flat_of_not hn (h.ne hd.ne)
  obtain ⟨R, hR, hne⟩ := hd.off n0 d
  have a := (h.le n d).mpr (fun R hR => Int.le_of_eq (hall R hR)) R hR
  have b := h.symm.lo (w := n) (d := d) (fun R hR => Int.le_of_eq (hall R hR).symm) R hR
  omega
theorem Face.three (hf : Face us p) : ∃ A B C, Ext us A ∧ Ext us B ∧ Ext us C ∧ prod p.n A = p.d ∧ prod p.n B = p.d ∧ prod p.n C = p.d ∧ cross (way A B) (way A C) ≠ P3.O := by
  have F := hf.flt
  have x0 := F.least
  have t := F.turn x0
  have x1 := F.nxt_ext x0
  have x2 := F.nxt_ext x1
  refine ⟨_, _, _, hf.ext x0, hf.ext x1, hf.ext x2, (mem_ons.mp x0.mem).2, (mem_ons.mp x1.mem).2, (mem_ons.mp x2.mem).2, fun z => ?_⟩
  rw [tn, z] at t
  simp [prod, P3.O] at t
theorem SameH.face (h : SameH us vs) (hf : Face us p) : Face vs p := by
  obtain ⟨A, B, C, xA, xB, xC, a, b, c, hne⟩ := hf.three
  exact ⟨(h.le _ _).mp hf.sup, hf.prim, A, mem_ons.mpr ⟨(h.ext xA).mem, a⟩, B, mem_ons.mpr ⟨(h.ext xB).mem, b⟩, C, mem_ons.mpr ⟨(h.ext xC).mem, c⟩, hne⟩
theorem SameH.face_iff (h : SameH us vs) : Face us p ↔ Face vs p := ⟨h.face, h.symm.face⟩
theorem SameH.faces (h : SameH us vs) : facesL vs = facesL us := Faces.eq ⟨(faces_ok us).ord, fun _ => ((faces_ok us).iff _).trans h.face_iff⟩
theorem SameH.body (h : SameH us vs) (hd : Dim3 us) : bodyA vs = bodyA us :=
  strict_eq (body_sorted vs) (body_sorted us) fun _ => (mem_body (h.dim hd)).trans (h.ext_iff.symm.trans (mem_body hd).symm)
theorem SameH.ons_ext (h : SameH us vs) (hf : Face us p) : Ext (ons us p) v ↔ Ext (ons vs p) v := by
  have key : ∀ {us vs : List P3}, SameH us vs → Face us p → Ext (ons us p) v → Ext (ons vs p) v := fun {us vs} h hf hv =>
    ext_ons (h.ext (hf.ext hv)) (mem_ons.mp hv.mem).2
  exact ⟨key h hf, key h.symm (h.face hf)⟩
theorem Edge.sub {n P Q : P3} {S T : List P3} (e : Edge n S P Q) (hs : ∀ R ∈ T, R ∈ S) (hP : P ∈ T) (hQ : Q ∈ T) : Edge n T P Q := ⟨hP, hQ, e.ne, fun R hR hne => e.all R (hs R hR) hne⟩
theorem Ext.sub {S T : List P3} (e : Ext S v) (hs : ∀ R ∈ T, R ∈ S) (hv : v ∈ T) : Ext T v := by
  obtain ⟨_, w, hw⟩ := e
  exact ⟨hv, w, fun R hR hne => hw R (hs R hR) hne⟩
theorem OnP.sub {n : P3} {S T : List P3} (h : OnP n S) (hs : ∀ R ∈ T, R ∈ S) : OnP n T := by
  obtain ⟨d, h⟩ := h
  exact ⟨d, fun R hR => h R (hs R hR)⟩
theorem nxt_same {n : P3} {S T : List P3} (hS : Flt n S) (hT : Flt n T) (he : ∀ v, Ext S v ↔ Ext T v) (hv : Ext S v) : nxt n S v = nxt n T v := by
  have e1 := hS.nxt hv
  have e2 := hT.nxt ((he v).mp hv)
  have q1 := hS.nxt_ext hv
  have q2 := hT.nxt_ext ((he v).mp hv)
  have mE : ∀ {R}, R ∈ (S.filter fun R => decide (R ∈ T)) ↔ R ∈ S ∧ R ∈ T := fun {R} => by
    rw [List.mem_filter, decide_eq_true_eq]
  generalize (S.filter fun R => decide (R ∈ T)) = E at mE
  have a := mE.mpr ⟨hv.mem, ((he v).mp hv).mem⟩
  have b := mE.mpr ⟨q1.mem, ((he _).mp q1).mem⟩
  have c := mE.mpr ⟨((he _).mpr q2).mem, q2.mem⟩
  exact (e2.sub (T := E) (fun R hR => (mE.mp hR).2) a c).uniq hS.n0 (hS.on.sub fun R hR => (mE.mp hR).1) (e1.sub (T := E) (fun R hR => (mE.mp hR).1) a b) (hv.sub (fun R hR => (mE.mp hR).1) a)
theorem iter_same {f g : P3 → P3} {E : P3 → Prop} (hE : ∀ v, E v → E (f v)) (hg : ∀ v, E v → f v = g v) (hv : E v) : ∀ k, iter f k v = iter g k v
  | 0 => rfl
  | k + 1 => by
    show f (iter f k v) = g (iter g k v)
    rw [← iter_same hE hg hv k]
    exact hg _ (iter_mem hE hv k)
theorem ringS_same {n : P3} {S T : List P3} (hS : Flt n S) (hT : Flt n T) (he : ∀ v, Ext S v ↔ Ext T v) : ringS n S = ringS n T := by
  have l1 := hS.least
  have l2 := hT.least
  have nS : S ≠ [] := fun e => by rw [e] at l1; cases l1.mem
  have nT : T ≠ [] := fun e => by rw [e] at l2; cases l2.mem
  have el : leastP S = leastP T := LeP.antisymm ((leastP_ok nS).2 _ ((he _).mpr l2).mem) ((leastP_ok nT).2 _ ((he _).mp l1).mem)
  have hit : ∀ k, iter (nxt n S) k (leastP S) = iter (nxt n T) k (leastP S) := iter_same (E := Ext S) (fun v hv => hS.nxt_ext hv) (fun v hv => nxt_same hS hT he hv) l1
  unfold ringS
  rw [← el]
  have pk : perK (nxt n S) (leastP S) = perK (nxt n T) (leastP S) := by
    obtain ⟨a1, a2, a3⟩ := hS.per
    obtain ⟨b1, b2, b3⟩ := hT.per
    rw [← el] at b1 b2 b3
    rcases Nat.lt_trichotomy (perK (nxt n S) (leastP S)) (perK (nxt n T) (leastP S)) with q | q | q
    · exact (b3 _ a1 q (by rw [← hit]; exact a2)).elim
    · exact q
    · exact (a3 _ b1 q (by rw [hit]; exact b2)).elim
  rw [← pk]
  unfold roundL
  exact List.map_congr_left fun i _ => hit i
theorem SameH.ring (h : SameH us vs) (hf : Face us p) : ringOf vs p = ringOf us p := (ringS_same hf.flt (h.face hf).flt fun _ => h.ons_ext hf).symm
theorem SameH.facesD (h : SameH us vs) : facesD vs = facesD us := by
  unfold DW.facesD
  rw [h.faces]
  refine List.map_congr_left fun p hp => ?_
  unfold faceD ringD
  rw [h.ring (mem_faces.mp hp)]
theorem same_body (hd : Dim3 us) : SameH us (bodyA us) := .of_ext (fun w d k R hR => k R ((mem_body hd).mp hR).mem) fun v hv => (mem_body hd).mpr hv
theorem same_btw (hd : Dim3 us) (h1 : ∀ v ∈ vs, v ∈ us) (h2 : ∀ v ∈ bodyA us, v ∈ vs) : SameH us vs := .of_ext (fun w d k R hR => k R (h1 R hR)) fun v hv => h2 v ((mem_body hd).mpr hv)
theorem SameH.isBody (h : SameH us vs) (hd : Dim3 us) : isBodyA vs = decide (vs = bodyA us) := by
  rw [isBodyA_of (h.dim hd), h.body hd]
end
end DW

set_option autoImplicit false
namespace DW
open PySem L2
theorem body_nodup (us : List P3) : (bodyA us).Nodup := by
  rw [List.nodup_iff_pairwise_ne]
  refine (body_sorted us).imp fun {a b} hlt e => ?_
  subst e
  have h := lt_tl a a
  rw [hlt, decide_eq_true_eq] at h
  exact List.lt_irrefl _ h
theorem setE_sorted {us : List P3} (h : us.Pairwise fun a b => EnO.lt a b = true) : setE us = us := strict_eq (setE_lt _) h fun _ => mem_setE
theorem setE_body (us : List P3) : setE (bodyA us) = bodyA us := setE_sorted (body_sorted us)
theorem body_ne {us : List P3} (hd : Dim3 us) : bodyA us ≠ [] := fun e => by
  have := (same_body hd).ne hd.ne
  exact this e
theorem body_len {us : List P3} (hd : Dim3 us) : (bodyA us).length ≤ us.length := List.Nodup.length_le_of_subset (body_nodup us) fun v hv => ((mem_body hd).mp hv).mem
theorem cut_last {α : Type} {f : α → D} {xs : List α} (d : α) (h : xs ≠ []) : cutD (xs.map f) (some (-1)) none = [f (xs.getLastD d)] := by
  have hl : 0 < xs.length := List.length_pos_iff.mpr h
  have e : cutD (xs.map f) (some (-1)) none = ((xs.drop (xs.length - 1)).take 1).map f := by
    unfold cutD
    have e1 : HT.sIx (xs.map f).length 0 (some (-1)) = xs.length - 1 := by
      rw [List.length_map]
      simp only [HT.sIx]
      split <;> omega
    have e2 : HT.sIx (xs.map f).length (xs.map f).length none = xs.length := by
      rw [List.length_map]
      simp only [HT.sIx]
    rw [e1, e2, show xs.length - (xs.length - 1) = 1 by omega, ← List.map_drop, ← List.map_take]
  rw [e]
  have e3 : xs.drop (xs.length - 1) = [xs.getLast h] := by
    rw [List.drop_eq_getElem_cons (by omega), List.getLast_eq_getElem, show xs.length - 1 + 1 = xs.length by omega, List.drop_length]
  rw [e3]
  show [f (xs.getLast h)] = _
  rw [List.getLastD_eq_getLast?, List.getLast?_eq_some_getLast h]
  rfl
theorem mem_last {α : Type} {xs : List α} (d : α) (h : xs ≠ []) : xs.getLastD d ∈ xs := by
  rw [List.getLastD_eq_getLast?, List.getLast?_eq_some_getLast h]
  exact List.getLast_mem h
theorem mem_sortP {us : List P3} {v : P3} : v ∈ sortP us ↔ v ∈ us := (List.mergeSort_perm us _).mem_iff
theorem pick13 {us : List P3} (hd : Dim3 us) (i : Int) (h0 : 0 ≤ i) (h1 : i < 4) :
    ∃ ws : List P3, atI [PyData.list ((bodyA us ++ [(bodyA us).getLastD P3.O]).map P3.en), .list ((bodyA us).reverse.map P3.en), .list ((sortP us).map P3.en), .list ((bodyA us).map P3.en)] i = some (.list (ws.map P3.en)) ∧ (∀ v ∈ ws, v ∈ us) ∧ (∀ v ∈ bodyA us, v ∈ ws) ∧ ws.length ≤ us.length + 1 := by
  have sub : ∀ v ∈ bodyA us, v ∈ us := fun v hv => ((mem_body hd).mp hv).mem
  have hl := body_len hd
  have hi : i = 0 ∨ i = 1 ∨ i = 2 ∨ i = 3 := by omega
  rcases hi with rfl | rfl | rfl | rfl
  · refine ⟨_, rfl, fun v hv => ?_, fun v hv => List.mem_append_left _ hv, ?_⟩
    · rcases List.mem_append.mp hv with q | q
      · exact sub v q
      · rw [List.mem_singleton.mp q]
        exact sub _ (mem_last _ (body_ne hd))
    · rw [List.length_append]
      show _ + 1 ≤ _
      omega
  · refine ⟨_, rfl, fun v hv => sub v (List.mem_reverse.mp hv), fun v hv => List.mem_reverse.mpr hv, ?_⟩
    rw [List.length_reverse]
    omega
  · refine ⟨_, rfl, fun v hv => mem_sortP.mp hv, fun v hv => mem_sortP.mpr (sub v hv), ?_⟩
    unfold sortP
    rw [List.length_mergeSort]
    omega
  · exact ⟨_, rfl, sub, fun v hv => hv, by omega⟩
end DW

set_option autoImplicit false
namespace DW
open PySem L2
section
variable {α : Type} [DecidableEq α] [En α] [EnO α]
theorem lt_irrE (a : α) : EnO.lt a a = true → False := fun z => EnO.asy _ _ z z
theorem strictO : ∀ {xs ys : List α}, (xs.Pairwise fun a b => EnO.lt a b = true) → (ys.Pairwise fun a b => EnO.lt a b = true) → (∀ a, a ∈ xs ↔ a ∈ ys) → xs = ys
  | [], [], _, _, _ => rfl
  | [], y :: ys, _, _, h => by
    have := (h y).mpr List.mem_cons_self
    cases this
  | x :: xs, [], _, _, h => by
    have := (h x).mp List.mem_cons_self
    cases this
  | x :: xs, y :: ys, hx, hy, h => by
    obtain ⟨hx1, hx2⟩ := List.pairwise_cons.mp hx
    obtain ⟨hy1, hy2⟩ := List.pairwise_cons.mp hy
    have exy : x = y := by
      rcases List.mem_cons.mp ((h x).mp List.mem_cons_self) with e | e
      · exact e
      · rcases List.mem_cons.mp ((h y).mpr List.mem_cons_self) with e2 | e2
        · exact e2.symm
        · exact (EnO.asy _ _ (hx1 y e2) (hy1 x e)).elim
    subst exy
    congr 1
    refine strictO hx2 hy2 fun a => ?_
    constructor
    · intro ha
      rcases List.mem_cons.mp ((h a).mp (List.mem_cons_of_mem _ ha)) with e | e
      · subst e
        exact (lt_irrE _ (hx1 _ ha)).elim
      · exact e
    · intro ha
      rcases List.mem_cons.mp ((h a).mpr (List.mem_cons_of_mem _ ha)) with e | e
      · subst e
        exact (lt_irrE _ (hy1 _ ha)).elim
      · exact e
/-- sorted, each once -/
def srtE (us : List α) : List α := sortE (ddp us)
theorem mem_srtE {us : List α} {a : α} : a ∈ srtE us ↔ a ∈ us := sortE_mem.trans mem_ddp
theorem srtE_lt (us : List α) : (srtE us).Pairwise fun a b => EnO.lt a b = true := sortE_lt (ddp_nodup us)
theorem srtE_of {us ws : List α} (h : ws.Nodup) (m : ∀ a, a ∈ ws ↔ a ∈ us) : sortE ws = srtE us := strictO (sortE_lt h) (srtE_lt us) fun a => by
  rw [sortE_mem, mem_srtE]
  exact m a
theorem strict_nodup {us : List α} (h : us.Pairwise fun a b => EnO.lt a b = true) : us.Nodup := by
  rw [List.nodup_iff_pairwise_ne]
  refine h.imp fun {a b} hlt e => ?_
  subst e
  exact lt_irrE _ hlt
end
/-! ### dicts whose keys are put in one by one -/
section
variable {α : Type} [DecidableEq α]
def insG (rs : List α) (p : α) : List α := if p ∈ rs then rs else rs ++ [p]
theorem mem_insG {rs : List α} {p q : α} : q ∈ insG rs p ↔ q ∈ rs ∨ q = p := by
  unfold insG
  split
  · rename_i h
    exact ⟨.inl, fun z => z.elim id fun e => e ▸ h⟩
  · rw [List.mem_append, List.mem_singleton]
theorem nodup_insG {rs : List α} {p : α} (h : rs.Nodup) : (insG rs p).Nodup := by
  unfold insG
  split
  · exact h
  · rename_i hn
    rw [List.nodup_append]
    refine ⟨h, by simp, fun a ha b hb e => ?_⟩
    rw [List.mem_singleton] at hb
    subst hb e
    exact hn ha
theorem dput_insG {nk : α → NestedKey} (inj : ∀ a b, nk a = nk b → a = b) (v : D) (rs : List α) (p : α) : dput (rs.map fun a => (nk a, v)) (nk p) v = (insG rs p).map fun a => (nk a, v) := by
  unfold insG
  split
  · rename_i h
    unfold dput
    rw [dget_map inj (fun _ => v) h]
    show (rs.map fun a => (nk a, v)).map _ = _
    rw [List.map_map]
    refine List.map_congr_left fun a ha => ?_
    show (if _ then _ else _) = _
    split
    · rename_i e
      rfl
    · rfl
  · rename_i h
    exact dput_new inj (fun _ => v) h
end
/-! ### edges -/
def nk3 (u : P3) : NestedKey := .tup [.num u.x, .num u.y, .num u.z]
def nkE (e : P3 × P3) : NestedKey := .tup [nk3 e.1, nk3 e.2]
theorem nkE_data (e : P3 × P3) : (nkE e).data = En.en e := rfl
theorem nkE_dep (e : P3 × P3) : (nkE e).depth ≤ 8 := by
  simp only [nkE, nk3, NestedKey.depth, NestedKey.depthAll]
  omega
theorem nk3_inj {u v : P3} (h : nk3 u = nk3 v) : u = v := by
  unfold nk3 at h
  simp only [NestedKey.tup.injEq, List.cons.injEq, NestedKey.num.injEq, and_true] at h
  exact P3.ext h.1 h.2.1 h.2.2
theorem nkE_inj (e f : P3 × P3) (h : nkE e = nkE f) : e = f := by
  unfold nkE at h
  simp only [NestedKey.tup.injEq, List.cons.injEq, and_true] at h
  exact Prod.ext (nk3_inj h.1) (nk3_inj h.2)
def edgeOf (P Q : P3) : P3 × P3 := if EnO.lt Q P = true then (Q, P) else (P, Q)
theorem sortP_two (P Q : P3) : sortP [P, Q] = [(edgeOf P Q).1, (edgeOf P Q).2] := by
  unfold sortP edgeOf
  rw [show (P3.en : P3 → D) = En.en from rfl, leE_data]
  cases h : EnO.lt Q P with
  | true => simp [List.mergeSort, List.MergeSort.Internal.splitInTwo, List.merge, leE, h]
  | false => simp [List.mergeSort, List.MergeSort.Internal.splitInTwo, List.merge, leE, h]
theorem edgeOf_cases (P Q : P3) : edgeOf P Q = (P, Q) ∨ edgeOf P Q = (Q, P) := by
  unfold edgeOf
  split
  · exact .inr rfl
  · exact .inl rfl
theorem edgeOf_sw {P Q : P3} : edgeOf P Q = edgeOf Q P := by
  unfold edgeOf
  cases h : EnO.lt Q P with
  | true =>
    cases g : EnO.lt P Q with
    | true => exact (EnO.asy _ _ h g).elim
    | false => rfl
  | false =>
    cases g : EnO.lt P Q with
    | true => rfl
    | false =>
      rcases EnO.tot P Q with x | x | x
      · rw [x] at g
        cases g
      · rw [x]
      · rw [x] at h
        cases h
theorem edgeOf_lt {P Q : P3} (h : P ≠ Q) : EnO.lt (edgeOf P Q).1 (edgeOf P Q).2 = true := by
  unfold edgeOf
  cases g : EnO.lt Q P with
  | true => exact g
  | false =>
    rcases EnO.tot P Q with x | x | x
    · exact x
    · exact (h x).elim
    · rw [x] at g
      cases g
noncomputable def edgesA (us : List P3) : List (P3 × P3) := srtE ((sidesAll us (facesL us)).map fun s => edgeOf s.1 s.2)
section
variable {us vs : List P3} {p f : Pl} {P Q : P3}
theorem mem_sidesAll (hd : Dim3 us) : (P, Q) ∈ sidesAll us (facesL us) ↔ ∃ p, Face us p ∧ Ext (ons us p) P ∧ DW.nxt p.n (ons us p) P = Q := by
  rw [(facesL_found hd).mem]
  constructor
  · rintro ⟨p, hp, h⟩
    exact ⟨p, mem_faces.mp hp, h⟩
  · rintro ⟨p, hp, h⟩
    exact ⟨p, mem_faces.mpr hp, h⟩
theorem mem_edges {e : P3 × P3} : e ∈ edgesA us ↔ ∃ P Q, (P, Q) ∈ sidesAll us (facesL us) ∧ edgeOf P Q = e := by
  unfold edgesA
  rw [mem_srtE, List.mem_map]
  constructor
  · rintro ⟨⟨P, Q⟩, h, e⟩
    exact ⟨P, Q, h, e⟩
  · rintro ⟨P, Q, h, e⟩
    exact ⟨(P, Q), h, e⟩
/-- each side is the side of another face, the other way round -/
theorem side_back (hd : Dim3 us) (h : (P, Q) ∈ sidesAll us (facesL us)) : (Q, P) ∈ sidesAll us (facesL us) := by
  obtain ⟨p, hp, hP, hQ⟩ := (mem_sidesAll hd).mp h
  have nb := hp.nb hd hP
  rw [hQ] at nb
  exact (mem_sidesAll hd).mpr ⟨_, nb.face, nb.ext, nb.nx⟩
/-- .. which is another one -/
theorem side_other (hd : Dim3 us) (hp : Face us p) (hP : Ext (ons us p) P) (hQ : DW.nxt p.n (ons us p) P = Q) : ∃ f, Face us f ∧ f ≠ p ∧ Ext (ons us f) Q ∧ DW.nxt f.n (ons us f) Q = P ∧ prod f.n P = f.d ∧ prod f.n Q = f.d := by
  have nb := hp.nb hd hP
  rw [hQ] at nb
  exact ⟨_, nb.face, nb.ne, nb.ext, nb.nx, nb.mv, (mem_ons.mp nb.ext.mem).2⟩
theorem far_on {n P Q R : P3} {S : List P3} (hn : n ≠ P3.O) (ho : OnP n S) (xP : Ext S P) (xQ : Ext S Q) (hne : Q ≠ P) (hR : R ∈ S) (hR0 : R ≠ P) (hz : tn n P Q R = 0) : prod (way P R) (way P R) ≤ prod (way P Q) (way P Q) := by
  refine Classical.byContradiction fun hlt => ?_
  have hlt : prod (way P Q) (way P Q) < prod (way P R) (way P R) := by omega
  have hRQ : R ≠ Q := fun e => by
    subst e
    omega
  obtain ⟨_, w, hw⟩ := xP
  obtain ⟨_, w', hw'⟩ := xQ
  have hc : cross (way P R) (way P Q) = P3.O := par_of hn (ho.way (by assumption) hR) (ho.way (by assumption) (by assumption)) (by rw [← tn_det, tn_sw, hz]; rfl)
  exact no_btw hc (hw R hR hR0) (hw Q (by assumption) hne) (by omega) (hw' P (by assumption) hne.symm) (hw' R hR hRQ)
/-- two corners that two faces have are a side -/
theorem side_of_two (hd : Dim3 us) (hp : Face us p) (hf : Face us f) (hne : f ≠ p) (xP : Ext us P) (xQ : Ext us Q) (hPQ : P ≠ Q) (p1 : prod p.n P = p.d) (p2 : prod p.n Q = p.d) (f1 : prod f.n P = f.d) (f2 : prod f.n Q = f.d) : (P, Q) ∈ sidesAll us (facesL us) := by
  have F := hp.flt
  have eP := ext_ons xP p1
  have eQ := ext_ons xQ p2
  obtain ⟨A, hA, cA⟩ := hp.sp.offLine (P := P) (Q := Q) hPQ.symm
  obtain ⟨A1, A2⟩ := mem_ons.mp hA
  have hDne : tn p.n P Q A ≠ 0 := fun z => cA (par_of hp.n0 (F.on.way eP.mem eQ.mem) (F.on.way eP.mem hA) (by rw [← tn_det]; exact z))
  have fA : prod f.n A < f.d := by
    have := hf.sup A A1
    rcases Int.lt_or_le (prod f.n A) f.d with x | x
    · exact x
    · exact (hne (Face.uniq hd hp hf eP.mem eQ.mem hA f1 f2 (by omega) cA)).elim
  -- for R on p: tn P Q A * (f R - f P) = tn P Q R * (f A - f P)
  have m : ∀ R ∈ ons us p, tn p.n P Q A * (prod f.n R - f.d) = tn p.n P Q R * (prod f.n A - f.d) := fun R hR => by
    have := det_mid (w := f.n) (u := p.n) (a := way P Q) (b := way P R) (c := way P A) (.inl (det_flat hp.n0 (F.on.way eP.mem eQ.mem) (F.on.way eP.mem hR) (F.on.way eP.mem hA)))
    rw [prod_way f.n P Q, prod_way f.n P R, prod_way f.n P A, f1, f2, Int.sub_self, Int.mul_zero, Int.zero_add, ← tn_det, ← tn_det] at this
    exact this
  have sgn : (0 < tn p.n P Q A ∧ ∀ R ∈ ons us p, 0 ≤ tn p.n P Q R) ∨ (tn p.n P Q A < 0 ∧ ∀ R ∈ ons us p, tn p.n P Q R ≤ 0) := by
    rcases Int.lt_or_gt_of_ne hDne with x | x
    · refine .inr ⟨x, fun R hR => ?_⟩
      have e := m R hR
      have s := hf.sup R (mem_ons.mp hR).1
      have k := Int.mul_nonneg_of_nonpos_of_nonpos (show tn p.n P Q A ≤ 0 by omega) (show prod f.n R - f.d ≤ 0 by omega)
      rw [e] at k
      rcases Int.lt_or_le 0 (tn p.n P Q R) with y | y
      · have := Int.mul_neg_of_pos_of_neg y (show prod f.n A - f.d < 0 by omega)
        omega
      · exact y
    · refine .inl ⟨x, fun R hR => ?_⟩
      have e := m R hR
      have s := hf.sup R (mem_ons.mp hR).1
      have k := Int.mul_nonpos_of_nonneg_of_nonpos (show 0 ≤ tn p.n P Q A by omega) (show prod f.n R - f.d ≤ 0 by omega)
      rw [e] at k
      rcases Int.lt_or_le (tn p.n P Q R) 0 with y | y
      · have := Int.mul_pos_of_neg_of_neg y (show prod f.n A - f.d < 0 by omega)
        omega
      · exact y
  rcases sgn with ⟨_, hs⟩ | ⟨_, hs⟩
  · have e : Edge p.n (ons us p) P Q := ⟨eP.mem, eQ.mem, hPQ.symm, fun R hR hRP => by
      have := hs R hR
      rcases Int.lt_or_le 0 (tn p.n P Q R) with x | x
      · exact .inl x
      · have z : tn p.n P Q R = 0 := by omega
        exact .inr ⟨z, far_on hp.n0 F.on eP eQ hPQ.symm hR hRP z⟩⟩
    exact (mem_sidesAll hd).mpr ⟨p, hp, eP, (e.uniq hp.n0 F.on (F.nxt eP) eP)⟩
  · have e : Edge p.n (ons us p) Q P := ⟨eQ.mem, eP.mem, hPQ, fun R hR hRQ => by
      have := hs R hR
      have b : tn p.n Q P R = -tn p.n P Q R := tn_back _ _ _ _
      rcases Int.lt_or_le 0 (tn p.n Q P R) with x | x
      · exact .inl x
      · have z : tn p.n Q P R = 0 := by omega
        exact .inr ⟨z, far_on hp.n0 F.on eQ eP hPQ hR hRQ z⟩⟩
    exact side_back hd ((mem_sidesAll hd).mpr ⟨p, hp, eQ, (e.uniq hp.n0 F.on (F.nxt eQ) eQ)⟩)
theorem two_of {α : Type} {xs : List α} (hn : xs.Nodup) : 1 < xs.length ↔ ∃ a b, a ∈ xs ∧ b ∈ xs ∧ a ≠ b := by
  constructor
  · intro h
    match xs, hn, h with
    | a :: b :: xs, hn, _ => exact ⟨a, b, List.mem_cons_self, List.mem_cons_of_mem _ List.mem_cons_self, fun e => by
        have := (List.nodup_cons.mp hn).1
        rw [e] at this
        exact this List.mem_cons_self⟩
  · rintro ⟨a, b, ha, hb, hne⟩
    match xs, ha, hb with
    | [x], ha, hb =>
      rw [List.mem_singleton] at ha hb
      exact (hne (ha.trans hb.symm)).elim
    | x :: y :: xs, _, _ => simp
def bothP (fs : List Pl) (a b : P3) : List Pl := fs.filter fun p => decide (prod p.n a = p.d) && decide (prod p.n b = p.d)
theorem mem_bothP {fs : List Pl} {a b : P3} : p ∈ bothP fs a b ↔ p ∈ fs ∧ prod p.n a = p.d ∧ prod p.n b = p.d := by
  unfold bothP
  rw [List.mem_filter, Bool.and_eq_true, decide_eq_true_eq, decide_eq_true_eq]
/-- edges, by planes -/
theorem edge_iff (hd : Dim3 us) {a b : P3} : (a, b) ∈ edgesA us ↔ Ext us a ∧ Ext us b ∧ EnO.lt a b = true ∧ 1 < (bothP (facesL us) a b).length := by
  have nd : (bothP (facesL us) a b).Nodup := List.Pairwise.filter _ (facesL_nodup us)
  rw [two_of nd, mem_edges]
  constructor
  · rintro ⟨P, Q, hs, e⟩
    obtain ⟨p, hp, hP, hQ⟩ := (mem_sidesAll hd).mp hs
    have hne := (facesL_found hd).side hs
    obtain ⟨f, hf, fne, _, _, f1, f2⟩ := side_other hd hp hP hQ
    have xQ := hp.ext (hQ ▸ hp.flt.nxt_ext hP)
    have xP := hp.ext hP
    have p1 := (mem_ons.mp hP.mem).2
    have p2 : prod p.n Q = p.d := by
      have := (mem_ons.mp (hp.flt.nxt_ext hP).mem).2
      rw [hQ] at this
      exact this
    have hlt := edgeOf_lt (P := P) (Q := Q) (fun z => hne.2.2 z.symm)
    rw [e] at hlt
    rcases edgeOf_cases P Q with q | q
    · rw [q] at e
      obtain ⟨rfl, rfl⟩ := Prod.mk.inj e
      exact ⟨xP, xQ, hlt, p, f, mem_bothP.mpr ⟨mem_faces.mpr hp, p1, p2⟩, mem_bothP.mpr ⟨mem_faces.mpr hf, f1, f2⟩, fne.symm⟩
    · rw [q] at e
      obtain ⟨rfl, rfl⟩ := Prod.mk.inj e
      exact ⟨xQ, xP, hlt, p, f, mem_bothP.mpr ⟨mem_faces.mpr hp, p2, p1⟩, mem_bothP.mpr ⟨mem_faces.mpr hf, f2, f1⟩, fne.symm⟩
  · rintro ⟨xa, xb, hlt, p, f, hp, hf, hne⟩
    obtain ⟨p0, p1, p2⟩ := mem_bothP.mp hp
    obtain ⟨f0, f1, f2⟩ := mem_bothP.mp hf
    have hab : a ≠ b := fun e => by
      subst e
      exact lt_irrE _ hlt
    refine ⟨a, b, side_of_two hd (mem_faces.mp p0) (mem_faces.mp f0) hne.symm xa xb hab p1 p2 f1 f2, ?_⟩
    unfold edgeOf
    rw [if_neg fun z => EnO.asy _ _ hlt z]
theorem SameH.edges (h : SameH us vs) (hd : Dim3 us) : edgesA vs = edgesA us :=
  strictO (srtE_lt _) (srtE_lt _) fun e => by
    obtain ⟨a, b⟩ := e
    show (a, b) ∈ edgesA vs ↔ (a, b) ∈ edgesA us
    rw [edge_iff (h.dim hd), edge_iff hd, h.faces, h.ext_iff (v := a), h.ext_iff (v := b)]
end
end DW

set_option autoImplicit false
namespace DW
open PySem L2
/-! ### where a point lies -/
noncomputable def insB (us : List P3) (P : P3) : Bool := (facesL us).all fun p => decide (prod p.n P < p.d)
noncomputable def inHB (us : List P3) (P : P3) : Bool := (facesL us).all fun p => decide (prod p.n P ≤ p.d)
noncomputable def whereA (us : List P3) (P : P3) : Int := if insB us P then 1 else if inHB us P then 0 else -1
section
variable {us vs : List P3} {P : P3}
theorem insB_iff : insB us P = true ↔ ∀ p, Face us p → prod p.n P < p.d := by
  unfold insB
  rw [List.all_eq_true]
  exact ⟨fun h p hp => of_decide_eq_true (h p (mem_faces.mpr hp)), fun h p hp => decide_eq_true (h p (mem_faces.mp hp))⟩
theorem inHB_iff : inHB us P = true ↔ ∀ p, Face us p → prod p.n P ≤ p.d := by
  unfold inHB
  rw [List.all_eq_true]
  exact ⟨fun h p hp => of_decide_eq_true (h p (mem_faces.mpr hp)), fun h p hp => decide_eq_true (h p (mem_faces.mp hp))⟩
theorem inHB_hull (hd : Dim3 us) : inHB us P = true ↔ ∀ w d, (∀ R ∈ us, prod w R ≤ d) → prod w P ≤ d := by
  rw [inHB_iff]
  constructor
  · intro h w d hw
    have := (faces_closed hd).hull hd (m0 := 1) (y0 := P) (fun g hg => by have := h g (mem_faces.mp hg); omega) hw
    omega
  · exact fun h p hp => h _ _ hp.sup
theorem insB_hull (hd : Dim3 us) : insB us P = true ↔ ∀ w d, w ≠ P3.O → (∀ R ∈ us, prod w R ≤ d) → prod w P < d := by
  rw [insB_iff]
  constructor
  · intro h w d hw0 hw
    obtain ⟨M, hM0, hM⟩ := bigM (fun p : Pl => p.d - prod p.n P) (fun p => -prod p.n w) (facesL us) (fun p hp => by
      have := h p (mem_faces.mp hp)
      exact ⟨by omega, fun z => by omega⟩)
    have key := (faces_closed hd).hull hd (m0 := M) (y0 := ad (sm M P) w) (fun g hg => by
      have := hM M (Int.le_refl _) g hg
      rw [prod_ad, prod_sm]
      have e : M * (g.d - prod g.n P) = M * g.d - M * prod g.n P := Int.mul_sub _ _ _
      omega) hw
    rw [prod_ad, prod_sm] at key
    have hp := sq_pos hw0
    rcases Int.lt_or_le (prod w P) d with x | x
    · exact x
    · have := Int.mul_le_mul_of_nonneg_left x (show 0 ≤ M by omega)
      omega
  · exact fun h p hp => h _ _ hp.n0 hp.sup
theorem insB_inH (h : insB us P = true) : inHB us P = true := inHB_iff.mpr fun p hp => by have := insB_iff.mp h p hp; omega
theorem bool_iff {a b : Bool} (h : a = true ↔ b = true) : a = b := by
  cases a <;> cases b <;> simp_all
theorem where_cong {us vs : List P3} {P Q : P3} (h1 : insB us P = insB vs Q) (h2 : inHB us P = inHB vs Q) : whereA us P = whereA vs Q := by
  unfold whereA
  rw [h1, h2]
theorem SameH.where (h : SameH us vs) : whereA vs P = whereA us P := by
  unfold whereA insB inHB
  rw [h.faces]
theorem where_max (s : Int) (ss : List Int) (h : ∀ z, z ∈ s :: ss ↔ ∃ p ∈ facesL us, sideA p P = z) : 0 - maxE s ss = whereA us P := by
  obtain ⟨m1, m2⟩ := maxE_ok ss s
  obtain ⟨q, hq, e⟩ := (h _).mp m1
  have all : ∀ p ∈ facesL us, sideA p P ≤ maxE s ss := fun p hp => m2 _ ((h _).mpr ⟨p, hp, rfl⟩)
  generalize maxE s ss = m at *
  unfold whereA
  split
  · rename_i hi
    have := insB_iff.mp hi q (mem_faces.mp hq)
    unfold sideA at e
    rw [if_neg (by omega), if_pos (by omega)] at e
    omega
  · rename_i hi
    split
    · rename_i ho
      have a := inHB_iff.mp ho q (mem_faces.mp hq)
      have : m ≠ -1 := fun z => hi (insB_iff.mpr fun p hp => by
        have := all p (mem_faces.mpr hp)
        unfold sideA at this
        rw [z] at this
        split at this
        · omega
        · split at this <;> omega)
      unfold sideA at e
      rw [if_neg (by omega)] at e
      split at e <;> omega
    · rename_i ho
      have : 0 < m := by
        rcases Int.lt_or_le 0 m with x | x
        · exact x
        · exact (ho (inHB_iff.mpr fun p hp => by
            have := all p (mem_faces.mpr hp)
            unfold sideA at this
            split at this
            · omega
            · omega)).elim
      unfold sideA at e
      split at e
      · omega
      · split at e <;> omega
theorem where_due (s : Int) (ss : List Int) (h : ∀ z, z ∈ s :: ss ↔ ∃ p ∈ facesL us, prod p.n P - p.d = z) : (if decide (maxE s ss < 0) then (1 : Int) else 0) - (if decide (0 < maxE s ss) then 1 else 0) = whereA us P := by
  obtain ⟨m1, m2⟩ := maxE_ok ss s
  obtain ⟨q, hq, e⟩ := (h _).mp m1
  have all : ∀ p ∈ facesL us, prod p.n P - p.d ≤ maxE s ss := fun p hp => m2 _ ((h _).mpr ⟨p, hp, rfl⟩)
  generalize maxE s ss = m at *
  simp only [decide_eq_true_eq]
  unfold whereA
  by_cases hi : insB us P = true
  · rw [if_pos (c := insB us P = true) hi]
    have := insB_iff.mp hi q (mem_faces.mp hq)
    rw [if_pos (by omega), if_neg (by omega)]
    rfl
  · rw [if_neg (c := insB us P = true) hi]
    have n0 : ¬ m < 0 := fun z => hi (insB_iff.mpr fun p hp => by
      have := all p (mem_faces.mpr hp)
      omega)
    by_cases ho : inHB us P = true
    · rw [if_pos (c := inHB us P = true) ho]
      have a := inHB_iff.mp ho q (mem_faces.mp hq)
      rw [if_neg n0, if_neg (by omega)]
      rfl
    · rw [if_neg (c := inHB us P = true) ho]
      have : 0 < m := by
        rcases Int.lt_or_le 0 m with x | x
        · exact x
        · exact (ho (inHB_iff.mpr fun p hp => by
            have := all p (mem_faces.mpr hp)
            omega)).elim
      rw [if_neg n0, if_pos this]
      rfl
end
end DW

set_option autoImplicit false
namespace DW
open PySem PySem.Spec PyProof.Rows L2
/-! ### more of comprehensions -/
theorem ixl3 {u : P3} {a : Int} (h0 : 0 ≤ a) (h1 : a < 3) : IxV (.s (.list [.int u.x, .int u.y, .int u.z])) a (.int (u.at a)) := by
  have h : a = 0 ∨ a = 1 ∨ a = 2 := by omega
  rcases h with h | h | h
  · subst h
    exact .lst rfl
  · subst h
    exact .lst rfl
  · subst h
    exact .lst rfl
section
variable {X : Cx} {G : Gm} {elt iter c : Expr} {W : Wd} {N : List Str} {sc scope : Scope} {k : Nat} {pos p1 p2 p3 p q r : Pos} {sts : List Stmt} {E : DE} {x y z w : Str}
theorem gg_three {X : Cx} {G : Gm} {W : Wd} {N : List Str} {sc : Scope} {k kk : Nat} {a b c : Str} {p1 p2 p3 pos : Pos} {d1 d2 d3 : D} (C : Cok X W N sc k) (i j l : Nat) (h : okL N sc i a = true) (h2 : okL N sc j b = true) (h3 : okL N sc l c = true) : GG X G (.Tuple [.Name a p1, .Name b p2, .Name c p3] kk pos) (.tuple [d1, d2, d3]) (((G.set i (.fz d1)).set j (.fz d2)).set l (.fz d3)) [i, j, l] :=
  gg_tupN C (ggs_cons C i h (by simp) (ggs_cons C j h2 (by simp) (ggs_cons C l h3 (by simp) ggs_nil))) rfl rfl
/-- [elt for x, y, z in iter], points -/
theorem go_lc3 {xs : List P3} {g : P3 → D} {kk : Nat} (C : Cok X W N sc k) (i j l : Nat) (ok : blkC N sc scope [(x, i), (y, j), (z, l)] = true) (okl : okL N scope i x = true) (okl2 : okL N scope j y = true) (okl3 : okL N scope l z = true) (hi : GIw X G (.Tuple [.Name x p, .Name y q, .Name z r] kk p3) iter (xs.map P3.en)) (hz : xs.length ≤ 16777216)
    (he : ∀ X', Cok X' W N scope k → ∀ a ∈ xs, GE X' ((((wipeG G [i, j, l]).set i (.fz (.int a.x))).set j (.fz (.int a.y))).set l (.fz (.int a.z))) elt (g a)) (hs : ∀ x, foldedSetIterable iter X.env x = pure x) :
    GO X G (.ListComp elt [⟨.Tuple [.Name x p, .Name y q, .Name z r] kk p3, iter, [], 0⟩] scope pos) (xs.map g) := by
  have h := go_lc (bt := fun _ => true) (G1 := fun a : P3 => (((wipeG G [i, j, l]).set i (.fz (.int a.x))).set j (.fz (.int a.y))).set l (.fz (.int a.z))) (pos := pos) C [(x, i), (y, j), (z, l)] ok hi hz (fun X' C' a ha => gg_three C' i j l okl okl2 okl3) (fun X' C' a ha => gts_nil) (fun X' C' a ha _ => he X' C' a ha) hs
  rw [show xs.filter (fun _ => true) = xs from List.filter_eq_self.mpr fun _ _ => rfl] at h
  exact h
theorem gss_lc3 {xs : List P3} {g : P3 → D} {kk : Nat} (C : Cok X W N sc k) (m i j l : Nat) (okj : okL N sc m w = true) (hyl : loc1B sc w = true) (hk : sc.kind = .function) (ok : blkC N sc scope [(x, i), (y, j), (z, l)] = true) (okl : okL N scope i x = true) (okl2 : okL N scope j y = true) (okl3 : okL N scope l z = true) (hi : GIw X G (.Tuple [.Name x p, .Name y q, .Name z r] kk p3) iter (xs.map P3.en)) (hz : xs.length ≤ 16777216)
    (he : ∀ X', Cok X' W N scope k → ∀ a ∈ xs, GE X' ((((wipeG G [i, j, l]).set i (.fz (.int a.x))).set j (.fz (.int a.y))).set l (.fz (.int a.z))) elt (g a)) (hl : (p1.line == p2.line) = true) (ha : (scope.names.any fun (n, k) => n == w && (k == .local || k == .cell)) = false) (hs : ∀ x, foldedSetIterable iter X.env x = pure x)
    (hn : GSs X (G.set m (.ow (xs.map g))) sts E) : GSs X G (.Assign [.Name w p1] (.ListComp elt [⟨.Tuple [.Name x p, .Name y q, .Name z r] kk p3, iter, [], 0⟩] scope p2) pos :: sts) E := by
  refine gs_cons (gs_asgLc (bt := fun _ => true) (G1 := fun a : P3 => (((wipeG G [i, j, l]).set i (.fz (.int a.x))).set j (.fz (.int a.y))).set l (.fz (.int a.z))) C m [(x, i), (y, j), (z, l)] okj hyl hk ok hi hz (fun X' C' a ha => gg_three C' i j l okl okl2 okl3) (fun X' C' a ha => gts_nil) (fun X' C' a ha _ => he X' C' a ha) ?_ hl ha hs)
  rw [show xs.filter (fun _ => true) = xs from List.filter_eq_self.mpr fun _ _ => rfl]
  exact hn
end
/-! ### points taken so many times -/
theorem lift_sm (k : Int) (P A B C : P3) : lift (sm k P) (sm k A) (sm k B) (sm k C) = k * (k * (k * lift P A B C)) := by
  simp only [lift, prod, cross, way, sm]
  grind
theorem dim3_sm {k : Int} {us : List P3} (hk : k ≠ 0) (h : Dim3 us) : Dim3 (us.map (sm k)) := by
  obtain ⟨A, hA, B, hB, C, hC, E, hE, hne⟩ := h
  refine ⟨_, List.mem_map_of_mem hA, _, List.mem_map_of_mem hB, _, List.mem_map_of_mem hC, _, List.mem_map_of_mem hE, ?_⟩
  rw [lift_sm]
  exact Int.mul_ne_zero hk (Int.mul_ne_zero hk (Int.mul_ne_zero hk hne))
theorem P3.Bd.sm {n m : Nat} {k : Int} {u : P3} (hk : DW.Bd n k) (hu : P3.Bd m u) : P3.Bd (n + m) (DW.sm k u) := ⟨hk.mul hu.x, hk.mul hu.y, hk.mul hu.z⟩
/-! ### the points drawn of k22 -/
def mapP (f : Int → Int) : P3 := ⟨f 0, f 1, f 2⟩
theorem rng3 {β : Type} (f : Int → β) : (rngL 0 3).map f = [f 0, f 1, f 2] := rfl
def pickC (c k : Int) (us : List P3) : P3 := us.getD (c / k % (us.length : Int)).toNat P3.O
theorem pickC_mem {c k : Int} {us : List P3} (h : us ≠ []) : pickC c k us ∈ us := by
  have hl := List.length_pos_iff.mpr h
  have h1 := Int.emod_nonneg (c / k) (show (us.length : Int) ≠ 0 by omega)
  have h2 := Int.emod_lt_of_pos (c / k) (show 0 < (us.length : Int) by omega)
  unfold pickC
  rw [List.getD_eq_getElem?_getD, List.getElem?_eq_getElem (by omega)]
  exact List.getElem_mem _
theorem pickC_at {c k : Int} {us : List P3} (h : us ≠ []) : atI (us.map P3.en) (c / k % (us.length : Int)) = some (P3.en (pickC c k us)) := by
  have hl := List.length_pos_iff.mpr h
  have h1 := Int.emod_nonneg (c / k) (show (us.length : Int) ≠ 0 by omega)
  have h2 := Int.emod_lt_of_pos (c / k) (show 0 < (us.length : Int) by omega)
  exact atI_pos h1 h2
def drawnQ (c : Int) (o t h : P3) : P3 := if c % 6 = 3 then mapP fun k => (o.at k + 7 * t.at k + 8 * h.at k) / 16 else mapP fun k => (o.at k + t.at k) / 2
def drawnP (c : Int) (us : List P3) : P3 :=
  let o := pickC c 6 us
  let t := pickC c 70 us
  let h := pickC c 800 us
  if c % 6 = 0 then o else if c % 6 = 1 then mapP fun k => (o.at k + t.at k) / 2
  else if c % 6 = 2 then mapP fun k => (o.at k + t.at k + h.at k) / 3
  else if c % 6 = 4 then mapP fun k => (drawnQ c o t h).at k + (c / 9000 * (k + 5) % (2 * 10 ^ 30 + 1) - 10 ^ 30)
  else mapP fun k => (drawnQ c o t h).at k + c / (9000 * (k + 1)) % 3 - 1
theorem mapP_bd {n : Nat} {f : Int → Int} (h : ∀ k, Bd n (f k)) : P3.Bd n (mapP f) := ⟨h 0, h 1, h 2⟩
theorem drawnQ_bd {c : Int} {o t h : P3} (ho : P3.Bd 500 o) (ht : P3.Bd 500 t) (hh : P3.Bd 500 h) : P3.Bd 600 (drawnQ c o t h) := by
  unfold drawnQ
  have b7 : Bd 3 7 := by decide
  have b8 : Bd 4 8 := by decide
  split
  · exact mapP_bd fun k => ((((ho.at (a := k)).add (b7.mul ht.at)).add (b8.mul hh.at)).div (by decide)).mono (by decide)
  · exact mapP_bd fun k => (((ho.at (a := k)).add ht.at).div (by decide)).mono (by decide)
theorem drawnP_bd {c : Int} {us : List P3} (h : us ≠ []) (hb : ∀ u ∈ us, P3.Bd 500 u) : P3.Bd 2000 (drawnP c us) := by
  have ho := hb _ (pickC_mem (c := c) (k := 6) h)
  have ht := hb _ (pickC_mem (c := c) (k := 70) h)
  have hh := hb _ (pickC_mem (c := c) (k := 800) h)
  have hq := drawnQ_bd (c := c) ho ht hh
  unfold drawnP
  dsimp only
  split
  · exact ho.mono (by decide)
  · split
    · exact mapP_bd fun k => (((ho.at (a := k)).add ht.at).div (by decide)).mono (by decide)
    · split
      · exact mapP_bd fun k => ((((ho.at (a := k)).add ht.at).add hh.at).div (by decide)).mono (by decide)
      · split
        · exact mapP_bd fun k => ((hq.at (a := k)).add (mod_bd (n := 200) (by decide) (by decide) (by decide) (by decide +kernel))).mono (by decide)
        · refine mapP_bd fun k => (((hq.at (a := k)).add (Bd.mod (m := 2) (by decide) (by decide))).sub (show Bd 1 1 by decide)).mono (by decide)
end DW

set_option autoImplicit false
namespace DW
open PySem PySem.Spec PyProof.Rows L2
/-! ### // by any number but 0; a name told by a call that may tell one of several lists -/
def CDivA (_ j : Int) : Prop := j ≠ 0 ∧ j.natAbs.log2 < 9000
theorem op_fdivA {X : Cx} : OpR X (binaryOp .FloorDiv) (rI CDivA fun i j => .int (i.fdiv j)) := opI fun i j _ _ _ _ _ hc q => floordiv_int hc.1 q (.inl (PyProof.noPylong_of_log2 hc.2))
theorem ge_fdiv {X : Cx} {G : Gm} {a b : Expr} {i j : Int} {pos : Pos} {n : Nat} (ha : GE X G a (.int i)) (hb : GE X G b (.int j)) (h : j ≠ 0) (g : Bd n j) (e : n < 9000) : GE X G (.BinOp a .FloorDiv b pos) (.int (i.fdiv j)) :=
  ge_op op_fdivA ha hb (r2d_I (Cc := CDivA) ⟨h, Nat.lt_of_le_of_lt (Nat.le_of_lt_succ (log2_lt (Nat.succ_pos n) (g.mono (Nat.le_succ n)))) e⟩ fun _ => .int _)
section
variable {X : Cx} {G : Gm} {e : Expr} {es : List Expr} {ds : List D} {W : Wd} {N : List Str} {sc : Scope} {k j : Nat} {pos p1 pc p : Pos} {nm x : Str} {c : Ct} {sts : List Stmt} {E : DE}
theorem gss_asgR (P : List D → Prop) (C : Cok X W N sc k) (i : Nat) (h : okL N sc i x = true) (Hs : Has W j nm c) (hj : j ≤ k) (hg : glB sc nm = true) (ha : GA X G (e :: es) ds) (hc : ∀ R : Rs → Prop, (∀ us, P us → R (.ow us)) → c ds R) (he : nst e = true) (hpl : es.all nst = true)
    (hs : swapsWith (.Call (.Name nm p) (e :: es) [] pc) (some (.Name x p1)) pos.line X.env = pure false) (hn : ∀ us, P us → GSs X (G.set i (.ow us)) sts E) : GSs X G (.Assign [.Name x p1] (.Call (.Name nm p) (e :: es) [] pc) pos :: sts) E := by
  obtain ⟨f, fd, ps, h1, h2, h3, h4⟩ := Hs.ex
  have hw := C.wd
  subst hw
  obtain ⟨g1, g2⟩ := okL_of h
  obtain ⟨l1, l2⟩ := C.loc x g2
  refine gs_cons ⟨fun bs B σ H S De m => inS (ps_set (by rw [C.N]; exact C.nd) (by rw [C.N]; exact g1) l1 (pe_call (E := E0) h4 (C.room.mono hj) (C.gl nm hg).1 h1 h2 h3 .nil passL pA (C.gl nm hg).2 (star_cons he) (star_all hpl)) hs l2) (ha.run bs B σ H S _ fun vs B1 H1 gg r1 => ?_)⟩
  refine ⟨B1, ds, fun r => ∃ us, P us ∧ r = .ow us, gg.bh, by rw [List.append_nil]; exact r1, hc _ fun us hu => ⟨us, hu, rfl⟩, (fun _ _ _ _ e' => by obtain ⟨_, _, e'⟩ := e'; cases e'), fun es' p us' B' H' e' g h0 h1 h2 r => ?_, (fun _ _ _ _ _ e' => by obtain ⟨_, _, e'⟩ := e'; cases e')⟩
  obtain ⟨us, hu, e'⟩ := e'
  cases e'
  have g3 := gg.trans g
  have q0 := same_none gg.h h0
  exact m.nx _ B' _ H' (hn _ hu) (S.setO g3 q0 rfl ⟨p, us', rfl, same_none S.gr.h q0, h1, h2, r⟩)
end
theorem ixl3s {u : P3} {a : Int} (h0 : 0 ≤ a) (h1 : a < 3) : IxV (.s (.list [.int u.x, .int u.y, .int u.z])) a (.int (u.at a)) := ixl3 h0 h1
/-! ### sums -/
theorem mem_sums {us vs : List P3} {p : P3} : p ∈ (us.flatMap fun u => vs.map fun v => ad u v) ↔ ∃ u ∈ us, ∃ v ∈ vs, ad u v = p := by
  rw [List.mem_flatMap]
  constructor
  · rintro ⟨u, hu, h⟩
    obtain ⟨v, hv, e⟩ := List.mem_map.mp h
    exact ⟨u, hu, v, hv, e⟩
  · rintro ⟨u, hu, v, hv, e⟩
    exact ⟨u, hu, List.mem_map.mpr ⟨v, hv, e⟩⟩
end DW

set_option autoImplicit false
namespace DW
open PySem PySem.Spec PyProof.Rows L2
/-! ### xs[a:b:c] of a list -/
def pickL {α : Type} (xs : List α) (lo hi st : Option Int) : List α := (sliceRange (sliceBounds lo hi st xs.length).1 (sliceBounds lo hi st xs.length).2.1 (sliceBounds lo hi st xs.length).2.2).filterMap (xs[·]?)
theorem pick_map {α β : Type} (f : α → β) (xs : List α) (lo hi st : Option Int) : pickL (xs.map f) lo hi st = (pickL xs lo hi st).map f := by
  unfold pickL
  rw [List.length_map, List.map_filterMap]
  congr 1
  funext i
  rw [List.getElem?_map]
theorem mem_pick {α : Type} {xs : List α} {lo hi st : Option Int} {a : α} (h : a ∈ pickL xs lo hi st) : a ∈ xs := by
  obtain ⟨i, _, hi⟩ := List.mem_filterMap.mp h
  exact List.mem_of_getElem? hi
theorem vals_pick {vs : List V} {us : List Value} (r : Vals vs us) : ∀ is : List Nat, Vals (is.filterMap (vs[·]?)) (is.filterMap (us[·]?))
  | [] => .nil
  | i :: is => by
    cases h : vs[i]? with
    | none =>
      have h2 : us[i]? = none := by
        rw [List.getElem?_eq_none_iff] at h ⊢
        have := r.length
        omega
      rw [List.filterMap_cons_none h, List.filterMap_cons_none h2]
      exact vals_pick r is
    | some x =>
      obtain ⟨u, hu, ru⟩ := r.get h
      rw [List.filterMap_cons_some h, List.filterMap_cons_some hu]
      exact .cons ru (vals_pick r is)
theorem dpa_pick {K : PySem.W.Frag} {B : Hp} {vs : List V} {ds : List D} (r : DpAll K B vs ds) : ∀ is : List Nat, DpAll K B (is.filterMap (vs[·]?)) (is.filterMap (ds[·]?))
  | [] => .nil
  | i :: is => by
    have ll := dpa_len r
    cases h : vs[i]? with
    | none =>
      have h2 : ds[i]? = none := by
        rw [List.getElem?_eq_none_iff] at h ⊢
        omega
      rw [List.filterMap_cons_none h, List.filterMap_cons_none h2]
      exact dpa_pick r is
    | some x =>
      obtain ⟨u, hu, ru⟩ := dpa_getV r h
      rw [List.filterMap_cons_some h, List.filterMap_cons_some hu]
      exact .cons ru (dpa_pick r is)
def tStepL (K : PySem.W.Frag) (te : TE) (tl th ts : TO) : TE := fun σ H Q => te σ H fun x H1 => tl σ H1 fun l H2 => th σ H2 fun h H3 => ts σ H3 fun st H4 => ∃ a xs, x = .ref a ∧ SqL K H4 a xs ∧ st ≠ some 0 ∧ ∀ p, H4 p = none → Q (.ref p) (upd H4 p (.lst (pickL xs l h st)))
theorem pe_stepL {X : Cx} {e s : Expr} {lo hi : Option Expr} {te : TE} {tl th ts : TO} {p2 pos : Pos} (he : PE X e te) (hl : PO X lo tl) (hh : PO X hi th) (hs : PO X (some s) ts) : PE X (.Subscript e (.Slice lo hi (some s) p2) pos) (tStepL X.K te tl th ts) := by
  refine ⟨fun pins s0 σ H Q I h => ?_⟩
  refine Subscript_ (thn (he.run pins s0 σ H _ I h) fun v s1 ⟨x, H1, I1, r1, q1⟩ => ?_)
  refine wpAny_Slice (thn (hl.run pins s1 σ H1 _ I1 q1) fun vl s2 ⟨l, H2, I2, pl, q2⟩ => thn (hh.run pins s2 σ H2 _ I2 q2) fun vu s3 ⟨u, H3, I3, pu, q3⟩ => thn (hs.run pins s3 σ H3 _ I3 q3) fun vs s4 ⟨st, H4, I4, ps, q4⟩ => ?_)
  obtain ⟨a, xs, ex, hx, h0, q⟩ := q4
  subst ex
  cases r1
  have I5 : Inv X pins σ H4 { s4 with heap := s4.heap.push { cls := .type "slice", data := .fields #[vl, vu, vs] } } := I4.kept (t' := s4.toks) fun b ob q => Heap.get?_push_of_some _ q
  obtain ⟨its, r, ht, hz⟩ := I5.list hx
  have hlen := r.length
  show wpAny (model X.prog X.w) X.A (subscriptTail e (.Slice lo hi (some s) p2) (.ref a) (.ref s4.heap.objs.size)) (EP X pins σ Q) X.xe { s4 with heap := s4.heap.push { cls := .type "slice", data := .fields #[vl, vu, vs] } }
  refine tail_any (ops := [.ref a, .ref s4.heap.objs.size]) ht.isList.typeIs (PySem.slot_list_getitem.lookup) ?_ (by with_unfolding_all rfl)
  refine wpAny_getItem_list_slice ht.isList (Heap.IsSliceOf.new _ vl vu vs) pl pu ps h0 ?_ (by rw [List.size_toArray]; omega)
  have e : slicePick its.toArray l u st = (pickL its l u st).toArray := by
    unfold slicePick pickL
    rw [List.size_toArray]
    congr 2
    funext i
    rw [List.getElem?_toArray]
  have hrv : Vals (pickL xs l u st) (pickL its l u st) := by
    unfold pickL
    rw [← hlen]
    exact vals_pick r _
  have hsz := slicePick_size_le its.toArray l u st
  rw [e, List.size_toArray, List.size_toArray] at hsz
  rw [e]
  refine ⟨.ref _, _, I5.laid (t' := s4.toks) (o := .lst (pickL xs l u st)) (fun b ob q => Heap.get?_push_of_some _ q) (Nat.le_refl _) ?_, rfl, q _ (I5.hok.fresh (Nat.le_refl _))⟩
  exact ⟨by rw [hrv.length]; omega, _, 0, hrv, Heap.get?_push_size _ rfl⟩
/-- xs[a:b:c], a new list -/
theorem go_stepL {X : Cx} {G : Gm} {a s : Expr} {ds : List D} {lo hi : Option Expr} {l h : Option Int} {st : Int} {p2 pos : Pos} (ha : GL X G a ds) (hl : GP X G lo l) (hh : GP X G hi h) (hs : GE X G s (.int st)) (h0 : st ≠ 0) : GO X G (.Subscript a (.Slice lo hi (some s) p2) pos) (pickL ds l h (some st)) :=
  ⟨fun bs B σ H S Q q => inE (pe_stepL pE pP pP pP) (ha.run bs B σ H S _ fun p vs B1 H1 g1 r1 h2 => hl.run bs B1 σ H1 (S.gro g1) _ fun B2 H2 g2 => hh.run bs B2 σ H2 (S.gro (g1.trans g2)) _ fun B3 H3 g3 => (gp_yes hs).run bs B3 σ H3 (S.gro ((g1.trans g2).trans g3)) _ fun B4 H4 g4 => by
    have gg := ((g1.trans g2).trans g3).trans g4
    refine ⟨p, vs, rfl, ((g2.h.trans g3.h).trans g4.h).seq r1, fun z => h0 (Option.some.inj z), fun p' hp => ?_⟩
    have g : Grow B4 H4 B4 (upd H4 p' (.lst (pickL vs l h (some st)))) := .own g4.bh hp
    refine q p' _ _ _ (gg.trans g) (same_none gg.h hp) (same_none g4.bh hp) upd_same ?_
    have ll := dpa_len h2
    unfold pickL
    rw [ll]
    exact moA (dpa_pick h2 _) ((g2.b.trans g3.b).trans g4.b))⟩
end DW

set_option autoImplicit false
namespace DW
open PySem L2
/-! ### maps of space that keep planes -/
structure Aff (f : P3 → P3) : Prop where
  push : ∀ w, ∃ w' e k, 0 < k ∧ (w ≠ P3.O → w' ≠ P3.O) ∧ ∀ R, k * prod w R = prod w' (f R) + e
  pull : ∀ w, ∃ w' e, (w ≠ P3.O → w' ≠ P3.O) ∧ ∀ R, prod w (f R) = prod w' R + e
  lf : ∃ c, c ≠ 0 ∧ ∀ P A B C, lift (f P) (f A) (f B) (f C) = c * lift P A B C
theorem Aff.comp {f g : P3 → P3} (hf : Aff f) (hg : Aff g) : Aff fun u => g (f u) := by
  refine ⟨fun w => ?_, fun w => ?_, ?_⟩
  · obtain ⟨w1, e1, k1, p1, n1, h1⟩ := hf.push w
    obtain ⟨w2, e2, k2, p2, n2, h2⟩ := hg.push w1
    refine ⟨w2, e2 + k2 * e1, k2 * k1, Int.mul_pos p2 p1, fun h => n2 (n1 h), fun R => ?_⟩
    have a := h1 R
    have b := h2 (f R)
    rw [Int.mul_assoc, a, Int.mul_add, b]
    omega
  · obtain ⟨w1, e1, n1, h1⟩ := hg.pull w
    obtain ⟨w2, e2, n2, h2⟩ := hf.pull w1
    refine ⟨w2, e2 + e1, fun h => n2 (n1 h), fun R => ?_⟩
    rw [h1, h2]
    omega
  · obtain ⟨c, hc, h1⟩ := hf.lf
    obtain ⟨d, hd, h2⟩ := hg.lf
    refine ⟨d * c, Int.mul_ne_zero hd hc, fun P A B C => ?_⟩
    rw [h2, h1, Int.mul_assoc]
theorem ne_of_co {u : P3} {a b c : Int} (h : u = ⟨a, b, c⟩) (hn : u ≠ P3.O) : ¬ (a = 0 ∧ b = 0 ∧ c = 0) := fun ⟨h1, h2, h3⟩ => hn (by rw [h, h1, h2, h3]; rfl)
theorem co_ne {a b c : Int} (h : ¬ (a = 0 ∧ b = 0 ∧ c = 0)) : (⟨a, b, c⟩ : P3) ≠ P3.O := fun e => by
  simp only [P3.O, P3.mk.injEq] at e
  exact h e
theorem aff_shX (k : Int) : Aff (shX k) := by
  refine ⟨fun w => ⟨⟨w.x, w.y - k * w.x, w.z⟩, 0, 1, by decide, fun h => co_ne fun ⟨h1, h2, h3⟩ => ne_of_co (P3.eta w).symm h ⟨h1, by rw [h1] at h2; omega, h3⟩, fun R => ?_⟩, fun w => ⟨⟨w.x, w.y + k * w.x, w.z⟩, 0, fun h => co_ne fun ⟨h1, h2, h3⟩ => ne_of_co (P3.eta w).symm h ⟨h1, by rw [h1] at h2; omega, h3⟩, fun R => ?_⟩, 1, by decide, fun P A B C => by rw [lift_shX, Int.one_mul]⟩
  · simp only [prod, shX]
    grind
  · simp only [prod, shX]
    grind
theorem aff_shY (k : Int) : Aff (shY k) := by
  refine ⟨fun w => ⟨⟨w.x, w.y, w.z - k * w.y⟩, 0, 1, by decide, fun h => co_ne fun ⟨h1, h2, h3⟩ => ne_of_co (P3.eta w).symm h ⟨h1, h2, by rw [h2] at h3; omega⟩, fun R => ?_⟩, fun w => ⟨⟨w.x, w.y, w.z + k * w.y⟩, 0, fun h => co_ne fun ⟨h1, h2, h3⟩ => ne_of_co (P3.eta w).symm h ⟨h1, h2, by rw [h2] at h3; omega⟩, fun R => ?_⟩, 1, by decide, fun P A B C => by rw [lift_shY, Int.one_mul]⟩
  · simp only [prod, shY]
    grind
  · simp only [prod, shY]
    grind
theorem aff_shZ (k : Int) : Aff (shZ k) := by
  refine ⟨fun w => ⟨⟨w.x - k * w.z, w.y, w.z⟩, 0, 1, by decide, fun h => co_ne fun ⟨h1, h2, h3⟩ => ne_of_co (P3.eta w).symm h ⟨by rw [h3] at h1; omega, h2, h3⟩, fun R => ?_⟩, fun w => ⟨⟨w.x + k * w.z, w.y, w.z⟩, 0, fun h => co_ne fun ⟨h1, h2, h3⟩ => ne_of_co (P3.eta w).symm h ⟨by rw [h3] at h1; omega, h2, h3⟩, fun R => ?_⟩, 1, by decide, fun P A B C => by rw [lift_shZ, Int.one_mul]⟩
  · simp only [prod, shZ]
    grind
  · simp only [prod, shZ]
    grind
theorem aff_sw : Aff swXY := by
  refine ⟨fun w => ⟨⟨w.y, w.x, w.z⟩, 0, 1, by decide, fun h => co_ne fun ⟨h1, h2, h3⟩ => ne_of_co (P3.eta w).symm h ⟨h2, h1, h3⟩, fun R => ?_⟩, fun w => ⟨⟨w.y, w.x, w.z⟩, 0, fun h => co_ne fun ⟨h1, h2, h3⟩ => ne_of_co (P3.eta w).symm h ⟨h2, h1, h3⟩, fun R => ?_⟩, -1, by decide, fun P A B C => by rw [lift_sw]; omega⟩
  · simp only [prod, swXY]
    grind
  · simp only [prod, swXY]
    grind
theorem aff_ad (v : P3) : Aff fun u => ad u v := by
  refine ⟨fun w => ⟨w, -prod w v, 1, by decide, fun h => h, fun R => ?_⟩, fun w => ⟨w, prod w v, fun h => h, fun R => ?_⟩, 1, by decide, fun P A B C => by rw [lift_ad, Int.one_mul]⟩
  · rw [prod_ad]
    omega
  · rw [prod_ad]
theorem aff_id : Aff fun u => u := ⟨fun w => ⟨w, 0, 1, by decide, fun h => h, fun R => by omega⟩, fun w => ⟨w, 0, fun h => h, fun R => by omega⟩, 1, by decide, fun P A B C => by omega⟩
theorem aff_slant (s : Sl7) : Aff (slantH s) := by
  have h := ((aff_shX s.a).comp (aff_shY s.b)).comp (aff_shZ s.c)
  by_cases hm : s.m = 1
  · have h2 := (h.comp aff_sw).comp (aff_ad ⟨s.d, s.e, s.f⟩)
    have e : slantH s = fun u => ad (swXY (shZ s.c (shY s.b (shX s.a u)))) ⟨s.d, s.e, s.f⟩ := by
      funext u
      unfold slantH
      dsimp only
      rw [if_pos hm]
    rw [e]
    exact h2
  · have h2 := h.comp (aff_ad ⟨s.d, s.e, s.f⟩)
    have e : slantH s = fun u => ad (shZ s.c (shY s.b (shX s.a u))) ⟨s.d, s.e, s.f⟩ := by
      funext u
      unfold slantH
      dsimp only
      rw [if_neg hm]
    rw [e]
    exact h2
theorem aff_sm {t : Int} (ht : t ≠ 0) : Aff (sm t) := by
  refine ⟨fun w => ?_, fun w => ⟨sm t w, 0, fun h => ?_, fun R => ?_⟩, t * (t * t), Int.mul_ne_zero ht (Int.mul_ne_zero ht ht), fun P A B C => ?_⟩
  · rcases Int.lt_or_gt_of_ne ht with h | h
    · refine ⟨sm (-1) w, 0, -t, by omega, fun hn => ?_, fun R => ?_⟩
      · refine co_ne fun ⟨h1, h2, h3⟩ => ne_of_co (P3.eta w).symm hn ⟨by omega, by omega, by omega⟩
      · rw [prod_sm, sm_prod]
        grind
    · refine ⟨w, 0, t, h, fun hn => hn, fun R => ?_⟩
      rw [prod_sm]
      omega
  · refine co_ne fun ⟨h1, h2, h3⟩ => ne_of_co (P3.eta w).symm h ⟨?_, ?_, ?_⟩
    · exact (Int.mul_eq_zero.mp h1).resolve_left ht
    · exact (Int.mul_eq_zero.mp h2).resolve_left ht
    · exact (Int.mul_eq_zero.mp h3).resolve_left ht
  · rw [prod_sm, sm_prod]
    omega
  · rw [lift_sm]
    grind
section
variable {f : P3 → P3} {us : List P3} {v P Q : P3} {p q : Pl}
theorem Aff.inj (h : Aff f) (e : f P = f Q) : P = Q := by
  have key : ∀ w, prod w P = prod w Q := fun w => by
    obtain ⟨w', e0, k, hk, _, hR⟩ := h.push w
    have a := hR P
    have b := hR Q
    rw [e] at a
    exact Int.eq_of_mul_eq_mul_left (by omega) (a.trans b.symm)
  have a := key ⟨1, 0, 0⟩
  have b := key ⟨0, 1, 0⟩
  have c := key ⟨0, 0, 1⟩
  simp only [prod] at a b c
  exact P3.ext (by omega) (by omega) (by omega)
theorem Aff.ext (h : Aff f) : Ext (us.map f) (f v) ↔ Ext us v := by
  constructor
  · rintro ⟨hm, w, hw⟩
    obtain ⟨u, hu, e⟩ := List.mem_map.mp hm
    rw [h.inj e] at hu
    obtain ⟨w', e0, _, hR⟩ := h.pull w
    refine ⟨hu, w', fun R hR' hne => ?_⟩
    have := hw (f R) (List.mem_map_of_mem hR') fun z => hne (h.inj z)
    rw [prod_way, hR, hR] at this
    rw [prod_way]
    omega
  · rintro ⟨hm, w, hw⟩
    obtain ⟨w', e0, k, hk, _, hR⟩ := h.push w
    refine ⟨List.mem_map_of_mem hm, w', fun R hR' hne => ?_⟩
    obtain ⟨u, hu, rfl⟩ := List.mem_map.mp hR'
    have := hw u hu fun z => hne (by rw [z])
    have a := hR u
    have b := hR v
    rw [prod_way] at this ⊢
    have := Int.mul_pos hk this
    rw [Int.mul_sub] at this
    omega
theorem Aff.dim (h : Aff f) (hd : Dim3 us) : Dim3 (us.map f) := by
  obtain ⟨c, hc, hl⟩ := h.lf
  obtain ⟨A, hA, B, hB, C, hC, E, hE, hne⟩ := hd
  refine ⟨_, List.mem_map_of_mem hA, _, List.mem_map_of_mem hB, _, List.mem_map_of_mem hC, _, List.mem_map_of_mem hE, ?_⟩
  rw [hl]
  exact Int.mul_ne_zero hc hne
theorem Aff.in_hull (h : Aff f) : (∀ w d, (∀ R ∈ us.map f, prod w R ≤ d) → prod w (f P) ≤ d) ↔ ∀ w d, (∀ R ∈ us, prod w R ≤ d) → prod w P ≤ d := by
  constructor
  · intro k w d hw
    obtain ⟨w', e0, c, hc, _, hR⟩ := h.push w
    have := k w' (c * d - e0) (fun R hR' => by
      obtain ⟨u, hu, rfl⟩ := List.mem_map.mp hR'
      have a := hR u
      have b := Int.mul_le_mul_of_nonneg_left (hw u hu) (show 0 ≤ c by omega)
      omega)
    have a := hR P
    exact Int.le_of_mul_le_mul_left (show c * prod w P ≤ c * d by omega) hc
  · intro k w d hw
    obtain ⟨w', e0, _, hR⟩ := h.pull w
    rw [hR]
    have := k w' (d - e0) (fun R hR' => by
      have := hw (f R) (List.mem_map_of_mem hR')
      rw [hR] at this
      omega)
    omega
theorem Aff.ins_hull (h : Aff f) : (∀ w d, w ≠ P3.O → (∀ R ∈ us.map f, prod w R ≤ d) → prod w (f P) < d) ↔ ∀ w d, w ≠ P3.O → (∀ R ∈ us, prod w R ≤ d) → prod w P < d := by
  constructor
  · intro k w d hn hw
    obtain ⟨w', e0, c, hc, n', hR⟩ := h.push w
    have := k w' (c * d - e0) (n' hn) (fun R hR' => by
      obtain ⟨u, hu, rfl⟩ := List.mem_map.mp hR'
      have a := hR u
      have b := Int.mul_le_mul_of_nonneg_left (hw u hu) (show 0 ≤ c by omega)
      omega)
    have a := hR P
    exact Int.lt_of_mul_lt_mul_left (show c * prod w P < c * d by omega) (by omega)
  · intro k w d hn hw
    obtain ⟨w', e0, n', hR⟩ := h.pull w
    rw [hR]
    have := k w' (d - e0) (n' hn) (fun R hR' => by
      have := hw (f R) (List.mem_map_of_mem hR')
      rw [hR] at this
      omega)
    omega
theorem Aff.where (h : Aff f) (hd : Dim3 us) : whereA (us.map f) (f P) = whereA us P :=
  where_cong (bool_iff ((insB_hull (h.dim hd)).trans (h.ins_hull.trans (insB_hull hd).symm))) (bool_iff ((inHB_hull (h.dim hd)).trans (h.in_hull.trans (inHB_hull hd).symm)))
theorem Aff.body (h : Aff f) (hd : Dim3 us) : bodyA (us.map f) = sortE ((bodyA us).map f) := by
  refine strictO (body_sorted _) (sortE_lt ?_) fun v => ?_
  · rw [List.nodup_iff_pairwise_ne, List.pairwise_map]
    exact (List.nodup_iff_pairwise_ne.mp (body_nodup us)).imp fun {a b} hne e => hne (h.inj e)
  · rw [mem_body (h.dim hd), sortE_mem, List.mem_map]
    constructor
    · intro hv
      obtain ⟨u, _, rfl⟩ := List.mem_map.mp hv.mem
      exact ⟨u, (mem_body hd).mpr (h.ext.mp hv), rfl⟩
    · rintro ⟨u, hu, rfl⟩
      exact h.ext.mpr ((mem_body hd).mp hu)
theorem Aff.same (h : Aff f) {vs : List P3} (hs : SameH us vs) : SameH (us.map f) (vs.map f) := by
  have key : ∀ {us vs : List P3}, SameH us vs → ∀ w d, (∀ R ∈ us.map f, prod w R ≤ d) → ∀ R ∈ vs.map f, prod w R ≤ d := fun {us vs} hs w d k R hR' => by
    obtain ⟨w', e0, _, hR⟩ := h.pull w
    obtain ⟨u, hu, rfl⟩ := List.mem_map.mp hR'
    have := (hs.le w' (d - e0)).mp (fun R hR'' => by
      have := k (f R) (List.mem_map_of_mem hR'')
      rw [hR] at this
      omega) u hu
    rw [hR]
    omega
  exact ⟨fun w d => ⟨key hs w d, key hs.symm w d⟩⟩
/-- a face goes to a face -/
theorem Aff.face (h : Aff f) (hd : Dim3 us) (hp : Face us p) : ∃ q, Face (us.map f) q ∧ (∃ g k, 0 < g ∧ 0 < k ∧ ∀ R, g * (prod q.n (f R) - q.d) = k * (prod p.n R - p.d)) := by
  obtain ⟨A, hA, B, hB, C, hC, hne⟩ := hp.sp
  obtain ⟨A1, A2⟩ := mem_ons.mp hA
  obtain ⟨B1, B2⟩ := mem_ons.mp hB
  obtain ⟨C1, C2⟩ := mem_ons.mp hC
  obtain ⟨w, e0, k, hk, n', hR⟩ := h.push p.n
  have w0 := n' hp.n0
  have hg := p3gz_pos w0
  have hw := divP_sm w
  have key : ∀ R, p3g w * (prod (divP w (p3g w)) (f R) - prod (divP w (p3g w)) (f A)) = k * (prod p.n R - p.d) := fun R => by
    rw [Int.mul_sub, ← sm_prod, ← sm_prod, ← hw, Int.mul_sub]
    have a := hR R
    have b := hR A
    rw [A2] at b
    omega
  refine ⟨⟨divP w (p3g w), prod (divP w (p3g w)) (f A)⟩, ⟨fun R hR' => ?_, divP_prim w0, f A, ?_, f B, ?_, f C, ?_, ?_⟩, p3g w, k, hg, hk, key⟩
  · obtain ⟨u, hu, rfl⟩ := List.mem_map.mp hR'
    have a := key u
    have b := Int.mul_nonpos_of_nonneg_of_nonpos (show 0 ≤ k by omega) (show prod p.n u - p.d ≤ 0 by have := hp.sup u hu; omega)
    dsimp only
    rcases Int.lt_or_le 0 (prod (divP w (p3g w)) (f u) - prod (divP w (p3g w)) (f A)) with x | x
    · have := Int.mul_pos hg x
      omega
    · omega
  · exact mem_ons.mpr ⟨List.mem_map_of_mem A1, rfl⟩
  · refine mem_ons.mpr ⟨List.mem_map_of_mem B1, ?_⟩
    have a := key B
    rw [B2, Int.sub_self, Int.mul_zero] at a
    rcases Int.mul_eq_zero.mp a with x | x
    · omega
    · dsimp only
      omega
  · refine mem_ons.mpr ⟨List.mem_map_of_mem C1, ?_⟩
    have a := key C
    rw [C2, Int.sub_self, Int.mul_zero] at a
    rcases Int.mul_eq_zero.mp a with x | x
    · omega
    · dsimp only
      omega
  · intro z
    obtain ⟨R, hR', hno⟩ := hd.off hp.n0 p.d
    obtain ⟨c, hc, hl⟩ := h.lf
    have l1 : lift (f A) (f B) (f C) (f R) = 0 := by
      unfold lift
      rw [z]
      simp [prod, P3.O]
    rw [hl] at l1
    have l2 := (Int.mul_eq_zero.mp l1).resolve_left hc
    have par := face_par (n := p.n) (u := way A B) (v := way A C) (by rw [prod_way]; omega) (by rw [prod_way]; omega)
    have := par_eq par (cross (way A B) (way A C)) (way A R)
    rw [prod_comm (way A R) (cross (way A B) (way A C))] at this
    unfold lift at l2
    rw [l2, Int.mul_zero] at this
    rcases Int.mul_eq_zero.mp this with x | x
    · have := sq_pos hne
      omega
    · rw [prod_comm, prod_way] at x
      omega
/-- .. and comes from one -/
theorem Aff.back (h : Aff f) (hd : Dim3 us) (hq : Face (us.map f) q) : ∃ p, Face us p ∧ (∃ g k, 0 < g ∧ 0 < k ∧ ∀ R, g * (prod q.n (f R) - q.d) = k * (prod p.n R - p.d)) := by
  obtain ⟨A', hA, B', hB, C', hC, hne⟩ := hq.sp
  obtain ⟨A1, A2⟩ := mem_ons.mp hA
  obtain ⟨B1, B2⟩ := mem_ons.mp hB
  obtain ⟨C1, C2⟩ := mem_ons.mp hC
  obtain ⟨A, A3, rfl⟩ := List.mem_map.mp A1
  obtain ⟨B, B3, rfl⟩ := List.mem_map.mp B1
  obtain ⟨C, C3, rfl⟩ := List.mem_map.mp C1
  obtain ⟨w, e0, n', hR⟩ := h.pull q.n
  have w0 := n' hq.n0
  have hg := p3gz_pos w0
  have hw := divP_sm w
  have key : ∀ R, 1 * (prod q.n (f R) - q.d) = p3g w * (prod (divP w (p3g w)) R - prod (divP w (p3g w)) A) := fun R => by
    rw [Int.mul_sub (p3g w), ← sm_prod, ← sm_prod, ← hw]
    have a := hR R
    have b := hR A
    rw [A2] at b
    omega
  have on : ∀ {R}, prod q.n (f R) = q.d → prod (divP w (p3g w)) R = prod (divP w (p3g w)) A := fun {R} e => by
    have a := key R
    rw [e, Int.sub_self] at a
    rcases Int.mul_eq_zero.mp (show p3g w * _ = 0 from by rw [← a]; rfl) with x | x
    · omega
    · omega
  refine ⟨⟨divP w (p3g w), prod (divP w (p3g w)) A⟩, ⟨fun R hR' => ?_, divP_prim w0, A, mem_ons.mpr ⟨A3, rfl⟩, B, mem_ons.mpr ⟨B3, on B2⟩, C, mem_ons.mpr ⟨C3, on C2⟩, ?_⟩, 1, p3g w, by decide, hg, key⟩
  · have a := key R
    have b := hq.sup (f R) (List.mem_map_of_mem hR')
    dsimp only
    rcases Int.lt_or_le 0 (prod (divP w (p3g w)) R - prod (divP w (p3g w)) A) with x | x
    · have := Int.mul_pos hg x
      omega
    · omega
  · intro z
    obtain ⟨R', hR', hno⟩ := (h.dim hd).off hq.n0 q.d
    obtain ⟨R, hR0, rfl⟩ := List.mem_map.mp hR'
    obtain ⟨c, hc, hl⟩ := h.lf
    have l1 : lift (f A) (f B) (f C) (f R) = 0 := by
      rw [hl]
      unfold lift
      rw [z]
      simp [prod, P3.O]
    have par := face_par (n := q.n) (u := way (f A) (f B)) (v := way (f A) (f C)) (by rw [prod_way]; omega) (by rw [prod_way]; omega)
    have := par_eq par (cross (way (f A) (f B)) (way (f A) (f C))) (way (f A) (f R))
    rw [prod_comm (way (f A) (f R)) (cross (way (f A) (f B)) (way (f A) (f C)))] at this
    unfold lift at l1
    rw [l1, Int.mul_zero] at this
    rcases Int.mul_eq_zero.mp this with x | x
    · have := sq_pos hne
      omega
    · rw [prod_comm, prod_way] at x
      omega
theorem pos_zero {g k x y : Int} (hg : 0 < g) (hk : 0 < k) (e : g * x = k * y) : x = 0 ↔ y = 0 := by
  constructor
  · intro h
    rw [h, Int.mul_zero] at e
    exact (Int.mul_eq_zero.mp e.symm).resolve_left (by omega)
  · intro h
    rw [h, Int.mul_zero] at e
    exact (Int.mul_eq_zero.mp e).resolve_left (by omega)
theorem edge_two (hd : Dim3 us) {a b : P3} : (a, b) ∈ edgesA us ↔ Ext us a ∧ Ext us b ∧ EnO.lt a b = true ∧ ∃ p q, Face us p ∧ Face us q ∧ p ≠ q ∧ prod p.n a = p.d ∧ prod p.n b = p.d ∧ prod q.n a = q.d ∧ prod q.n b = q.d := by
  have nd : (bothP (facesL us) a b).Nodup := List.Pairwise.filter _ (facesL_nodup us)
  rw [edge_iff hd, two_of nd]
  constructor
  · rintro ⟨h1, h2, h3, p, q, hp, hq, hne⟩
    obtain ⟨p0, p1, p2⟩ := mem_bothP.mp hp
    obtain ⟨q0, q1, q2⟩ := mem_bothP.mp hq
    exact ⟨h1, h2, h3, p, q, mem_faces.mp p0, mem_faces.mp q0, hne, p1, p2, q1, q2⟩
  · rintro ⟨h1, h2, h3, p, q, p0, q0, hne, p1, p2, q1, q2⟩
    exact ⟨h1, h2, h3, p, q, mem_bothP.mpr ⟨mem_faces.mpr p0, p1, p2⟩, mem_bothP.mpr ⟨mem_faces.mpr q0, q1, q2⟩, hne⟩
/-- unlike faces: a point of one off the other -/
theorem face_apart (hd : Dim3 us) (hp : Face us p) (hq : Face us q) (hne : p ≠ q) : ∃ R ∈ us, prod p.n R = p.d ∧ prod q.n R ≠ q.d := by
  obtain ⟨A, hA, B, hB, C, hC, hn⟩ := hp.sp
  refine Classical.byContradiction fun hno => ?_
  have all : ∀ R ∈ ons us p, prod q.n R = q.d := fun R hR => Classical.byContradiction fun z => hno ⟨R, (mem_ons.mp hR).1, (mem_ons.mp hR).2, z⟩
  exact hne (Face.uniq hd hp hq hA hB hC (all A hA) (all B hB) (all C hC) hn).symm
theorem Aff.edges (h : Aff f) (hd : Dim3 us) : edgesA (us.map f) = srtE ((edgesA us).map fun e => edgeOf (f e.1) (f e.2)) :=
  strictO (srtE_lt _) (srtE_lt _) fun e => by
    obtain ⟨a', b'⟩ := e
    show (a', b') ∈ edgesA (us.map f) ↔ _
    rw [mem_srtE, List.mem_map]
    constructor
    · intro he
      obtain ⟨xa, xb, hlt, p, q, hp, hq, hne, p1, p2, q1, q2⟩ := (edge_two (h.dim hd)).mp he
      obtain ⟨a, _, rfl⟩ := List.mem_map.mp xa.mem
      obtain ⟨b, _, rfl⟩ := List.mem_map.mp xb.mem
      obtain ⟨p0, hp0, g, k, hg, hk, hR⟩ := h.back hd hp
      obtain ⟨q0, hq0, g', k', hg', hk', hR'⟩ := h.back hd hq
      have on1 : ∀ R, prod p.n (f R) = p.d ↔ prod p0.n R = p0.d := fun R => by
        have := pos_zero hg hk (hR R)
        omega
      have on2 : ∀ R, prod q.n (f R) = q.d ↔ prod q0.n R = q0.d := fun R => by
        have := pos_zero hg' hk' (hR' R)
        omega
      have hne0 : p0 ≠ q0 := fun z => by
        obtain ⟨R', hR', r1, r2⟩ := face_apart (h.dim hd) hp hq hne
        obtain ⟨R, _, rfl⟩ := List.mem_map.mp hR'
        have a := (on1 R).mp r1
        rw [z] at a
        exact r2 ((on2 R).mpr a)
      have hab : a ≠ b := fun z => by
        rw [z] at hlt
        exact lt_irrE _ hlt
      rcases edgeOf_cases a b with ec | ec
      · refine ⟨(a, b), (edge_two hd).mpr ⟨h.ext.mp xa, h.ext.mp xb, ?_, p0, q0, hp0, hq0, hne0, (on1 a).mp p1, (on1 b).mp p2, (on2 a).mp q1, (on2 b).mp q2⟩, ?_⟩
        · have := edgeOf_lt hab
          rw [ec] at this
          exact this
        · unfold edgeOf
          rw [if_neg fun z => EnO.asy _ _ hlt z]
      · refine ⟨(b, a), (edge_two hd).mpr ⟨h.ext.mp xb, h.ext.mp xa, ?_, p0, q0, hp0, hq0, hne0, (on1 b).mp p2, (on1 a).mp p1, (on2 b).mp q2, (on2 a).mp q1⟩, ?_⟩
        · have := edgeOf_lt hab
          rw [ec] at this
          exact this
        · show edgeOf (f b) (f a) = _
          unfold edgeOf
          rw [if_pos hlt]
    · rintro ⟨⟨a, b⟩, he, e⟩
      obtain ⟨xa, xb, hlt, p, q, hp, hq, hne, p1, p2, q1, q2⟩ := (edge_two hd).mp he
      obtain ⟨p0, hp0, g, k, hg, hk, hR⟩ := h.face hd hp
      obtain ⟨q0, hq0, g', k', hg', hk', hR'⟩ := h.face hd hq
      have on1 : ∀ R, prod p0.n (f R) = p0.d ↔ prod p.n R = p.d := fun R => by
        have := pos_zero hg hk (hR R)
        omega
      have on2 : ∀ R, prod q0.n (f R) = q0.d ↔ prod q.n R = q.d := fun R => by
        have := pos_zero hg' hk' (hR' R)
        omega
      have hne0 : p0 ≠ q0 := fun z => by
        obtain ⟨R, hR', r1, r2⟩ := face_apart hd hp hq hne
        have a := (on1 R).mpr r1
        rw [z] at a
        exact r2 ((on2 R).mp a)
      have hab : f a ≠ f b := fun z => by
        rw [h.inj z] at hlt
        exact lt_irrE _ hlt
      have hl := edgeOf_lt hab
      change edgeOf (f a) (f b) = (a', b') at e
      rw [e] at hl
      rcases edgeOf_cases (f a) (f b) with ec | ec
      · rw [ec] at e
        obtain ⟨rfl, rfl⟩ := Prod.mk.inj e
        exact (edge_two (h.dim hd)).mpr ⟨h.ext.mpr xa, h.ext.mpr xb, hl, p0, q0, hp0, hq0, hne0, (on1 a).mpr p1, (on1 b).mpr p2, (on2 a).mpr q1, (on2 b).mpr q2⟩
      · rw [ec] at e
        obtain ⟨rfl, rfl⟩ := Prod.mk.inj e
        exact (edge_two (h.dim hd)).mpr ⟨h.ext.mpr xb, h.ext.mpr xa, hl, p0, q0, hp0, hq0, hne0, (on1 b).mpr p2, (on1 a).mpr p1, (on2 b).mpr q2, (on2 a).mpr q1⟩
end
end DW

set_option autoImplicit false
namespace DW
open PySem L2
/-! ### pairs of corners in order, some of them -/
def rowD (f : P3 × P3 → Bool) (cs : List P3) (i m : Nat) : List (P3 × P3) := ((List.range m).map fun t => (cs.getD i P3.O, cs.getD (i + 1 + t) P3.O)).filter f
def rowsD (f : P3 × P3 → Bool) (cs : List P3) (k : Nat) : List (P3 × P3) := (List.range k).flatMap fun i => rowD f cs i (cs.length - (i + 1))
theorem rowD_succ (f : P3 × P3 → Bool) (cs : List P3) (i m : Nat) : rowD f cs i (m + 1) = rowD f cs i m ++ (if f (cs.getD i P3.O, cs.getD (i + 1 + m) P3.O) = true then [(cs.getD i P3.O, cs.getD (i + 1 + m) P3.O)] else []) := by
  unfold rowD
  rw [List.range_succ, List.map_append, List.filter_append]
  congr 1
  rw [List.map_cons, List.map_nil, List.filter_cons, List.filter_nil]
theorem rowsD_succ (f : P3 × P3 → Bool) (cs : List P3) (k : Nat) : rowsD f cs (k + 1) = rowsD f cs k ++ rowD f cs k (cs.length - (k + 1)) := by
  unfold rowsD
  rw [List.range_succ, List.flatMap_append]
  simp
theorem rowD_len (f : P3 × P3 → Bool) (cs : List P3) (i m : Nat) : (rowD f cs i m).length ≤ m := by
  unfold rowD
  refine Nat.le_trans (List.length_filter_le _ _) ?_
  rw [List.length_map, List.length_range]
  exact Nat.le_refl _
theorem rowsD_len (f : P3 × P3 → Bool) (cs : List P3) : ∀ k, (rowsD f cs k).length ≤ k * cs.length
  | 0 => by simp [rowsD]
  | k + 1 => by
    rw [rowsD_succ, List.length_append, Nat.succ_mul]
    have h1 := rowsD_len f cs k
    have h2 := rowD_len f cs k (cs.length - (k + 1))
    omega
theorem mem_rowD {f : P3 × P3 → Bool} {cs : List P3} {i m : Nat} {e : P3 × P3} : e ∈ rowD f cs i m ↔ (∃ t, t < m ∧ (cs.getD i P3.O, cs.getD (i + 1 + t) P3.O) = e) ∧ f e = true := by
  unfold rowD
  rw [List.mem_filter, List.mem_map]
  constructor
  · rintro ⟨⟨t, h1, h2⟩, h3⟩
    exact ⟨⟨t, List.mem_range.mp h1, h2⟩, h3⟩
  · rintro ⟨⟨t, h1, h2⟩, h3⟩
    exact ⟨⟨t, List.mem_range.mpr h1, h2⟩, h3⟩
theorem srt_get {cs : List P3} (h : cs.Pairwise fun a b => EnO.lt a b = true) {i j : Nat} (hij : i < j) (hj : j < cs.length) : EnO.lt (cs.getD i P3.O) (cs.getD j P3.O) = true := by
  rw [List.getD_eq_getElem?_getD, List.getD_eq_getElem?_getD, List.getElem?_eq_getElem (show i < cs.length by omega), List.getElem?_eq_getElem hj]
  exact List.pairwise_iff_getElem.mp h i j (by omega) hj hij
theorem lt_pair {a b c d : P3} : EnO.lt (a, b) (c, d) = if a = c then EnO.lt b d else EnO.lt a c := rfl
theorem rowsD_lt (f : P3 × P3 → Bool) {cs : List P3} (h : cs.Pairwise fun a b => EnO.lt a b = true) : (rowsD f cs cs.length).Pairwise fun a b => EnO.lt a b = true := by
  unfold rowsD
  rw [List.pairwise_flatMap]
  constructor
  · intro i _
    unfold rowD
    refine List.Pairwise.filter _ ?_
    rw [List.pairwise_map]
    refine List.Pairwise.imp_of_mem (R := fun a b => a < b) ?_ List.pairwise_lt_range
    intro t t' ht ht' hlt
    have ht' := List.mem_range.mp ht'
    rw [lt_pair, if_pos rfl]
    exact srt_get h (by omega) (by omega)
  · refine List.Pairwise.imp_of_mem (R := fun a b => a < b) ?_ List.pairwise_lt_range
    intro i j hi hj hij x hx y hy
    have hj := List.mem_range.mp hj
    obtain ⟨⟨t, ht, rfl⟩, _⟩ := mem_rowD.mp hx
    obtain ⟨⟨t', ht', rfl⟩, _⟩ := mem_rowD.mp hy
    have hl := srt_get h hij hj
    rw [lt_pair, if_neg fun e => by rw [e] at hl; exact lt_irrE _ hl]
    exact hl
theorem mem_rowsD {f : P3 × P3 → Bool} {cs : List P3} (h : cs.Pairwise fun a b => EnO.lt a b = true) {a b : P3} : (a, b) ∈ rowsD f cs cs.length ↔ a ∈ cs ∧ b ∈ cs ∧ EnO.lt a b = true ∧ f (a, b) = true := by
  have gm : ∀ {i}, i < cs.length → cs.getD i P3.O ∈ cs := fun {i} hi => by
    rw [List.getD_eq_getElem?_getD, List.getElem?_eq_getElem hi]
    exact List.getElem_mem hi
  have gi : ∀ {v}, v ∈ cs → ∃ i, i < cs.length ∧ cs.getD i P3.O = v := fun {v} hv => by
    obtain ⟨i, hi⟩ := List.mem_iff_getElem?.mp hv
    refine ⟨i, (List.getElem?_eq_some_iff.mp hi).1, ?_⟩
    rw [List.getD_eq_getElem?_getD, hi]
    rfl
  unfold rowsD
  rw [List.mem_flatMap]
  constructor
  · rintro ⟨i, hi, hx⟩
    have hi := List.mem_range.mp hi
    obtain ⟨⟨t, ht, e⟩, hf⟩ := mem_rowD.mp hx
    obtain ⟨rfl, rfl⟩ := Prod.mk.inj e
    exact ⟨gm hi, gm (by omega), srt_get h (by omega) (by omega), hf⟩
  · rintro ⟨ha, hb, hlt, hf⟩
    obtain ⟨i, hi, rfl⟩ := gi ha
    obtain ⟨j, hj, rfl⟩ := gi hb
    have hij : i < j := by
      rcases Nat.lt_trichotomy i j with q | q | q
      · exact q
      · subst q
        exact (lt_irrE _ hlt).elim
      · exact (EnO.asy _ _ hlt (srt_get h q hi)).elim
    exact ⟨i, List.mem_range.mpr hi, mem_rowD.mpr ⟨⟨j - (i + 1), by omega, by rw [show i + 1 + (j - (i + 1)) = j by omega]⟩, hf⟩⟩
def bothF (fs : List Pl) (e : P3 × P3) : Bool := decide ((1 : Int) < ((bothP fs e.1 e.2).length : Int))
theorem due_edges {us : List P3} (hd : Dim3 us) : rowsD (bothF (facesL us)) (bodyA us) (bodyA us).length = edgesA us :=
  strictO (rowsD_lt _ (body_sorted us)) (srtE_lt _) fun e => by
    obtain ⟨a, b⟩ := e
    show _ ↔ (a, b) ∈ edgesA us
    rw [mem_rowsD (body_sorted us), edge_iff hd, mem_body hd, mem_body hd]
    unfold bothF
    rw [decide_eq_true_eq]
    dsimp only
    exact ⟨fun ⟨h1, h2, h3, h4⟩ => ⟨h1, h2, h3, by omega⟩, fun ⟨h1, h2, h3, h4⟩ => ⟨h1, h2, h3, by omega⟩⟩
theorem edges_len {us : List P3} (hd : Dim3 us) : (edgesA us).length ≤ us.length * us.length := by
  rw [← due_edges hd]
  have h1 := rowsD_len (bothF (facesL us)) (bodyA us) (bodyA us).length
  have h2 := body_len hd
  exact Nat.le_trans h1 (Nat.mul_le_mul h2 h2)
end DW

set_option autoImplicit false
namespace DW
/-! ### a height that orders points as tuples are ordered -/
theorem lt3 (a b : P3) : EnO.lt a b = decide (a.x < b.x ∨ (a.x = b.x ∧ (a.y < b.y ∨ (a.y = b.y ∧ a.z < b.z)))) := rfl
theorem lex_ex (us : List P3) : ∃ w : P3, ∀ a ∈ us, ∀ b ∈ us, EnO.lt a b = true → prod w a < prod w b := by
  have mp : ∀ {a b : P3}, (a, b) ∈ (us.flatMap fun a => us.map fun b => (a, b)) ↔ a ∈ us ∧ b ∈ us := fun {a b} => by
    rw [List.mem_flatMap]
    constructor
    · rintro ⟨c, hc, h⟩
      obtain ⟨d, hd, e⟩ := List.mem_map.mp h
      obtain ⟨rfl, rfl⟩ := Prod.mk.inj e
      exact ⟨hc, hd⟩
    · rintro ⟨h1, h2⟩
      exact ⟨a, h1, List.mem_map.mpr ⟨b, h2, rfl⟩⟩
  generalize (us.flatMap fun a => us.map fun b => (a, b)) = L at mp
  obtain ⟨M1, _, h1⟩ := bigM (fun e : P3 × P3 => e.2.y - e.1.y) (fun e => e.2.z - e.1.z) (L.filter fun e => decide (e.1.x = e.2.x ∧ EnO.lt e.1 e.2 = true)) (fun e he => by
    obtain ⟨_, q⟩ := List.mem_filter.mp he
    obtain ⟨q1, q2⟩ := of_decide_eq_true q
    rw [lt3] at q2
    have q3 := of_decide_eq_true q2
    exact ⟨by omega, fun z => by omega⟩)
  obtain ⟨M2, _, h2⟩ := bigM (fun e : P3 × P3 => e.2.x - e.1.x) (fun e => M1 * (e.2.y - e.1.y) + (e.2.z - e.1.z)) (L.filter fun e => decide (EnO.lt e.1 e.2 = true)) (fun e he => by
    obtain ⟨hL, q⟩ := List.mem_filter.mp he
    have q2 := of_decide_eq_true q
    have q2' := q2
    rw [lt3] at q2'
    have q3 := of_decide_eq_true q2'
    refine ⟨by omega, fun z => ?_⟩
    exact h1 M1 (Int.le_refl _) e (List.mem_filter.mpr ⟨hL, decide_eq_true ⟨by omega, q2⟩⟩))
  refine ⟨⟨M2, M1, 1⟩, fun a ha b hb hlt => ?_⟩
  have := h2 M2 (Int.le_refl _) (a, b) (List.mem_filter.mpr ⟨mp.mpr ⟨ha, hb⟩, decide_eq_true hlt⟩)
  simp only [prod]
  have e1 : M2 * (b.x - a.x) = M2 * b.x - M2 * a.x := Int.mul_sub _ _ _
  have e2 : M1 * (b.y - a.y) = M1 * b.y - M1 * a.y := Int.mul_sub _ _ _
  dsimp only at this
  omega
structure Lex (us : List P3) (w : P3) : Prop where
  lt : ∀ a ∈ us, ∀ b ∈ us, EnO.lt a b = true → prod w a < prod w b
theorem Lex.iff {us : List P3} {w a b : P3} (h : Lex us w) (ha : a ∈ us) (hb : b ∈ us) : EnO.lt a b = true ↔ prod w a < prod w b := by
  refine ⟨h.lt a ha b hb, fun k => ?_⟩
  rcases EnO.tot a b with q | q | q
  · exact q
  · subst q
    omega
  · have := h.lt b hb a ha q
    omega
theorem Lex.inj {us : List P3} {w a b : P3} (h : Lex us w) (ha : a ∈ us) (hb : b ∈ us) (e : prod w a = prod w b) : a = b := by
  rcases EnO.tot a b with q | q | q
  · have := h.lt a ha b hb q
    omega
  · exact q
  · have := h.lt b hb a ha q
    omega
section
variable {us : List P3} {w v : P3} {p f : Pl}
/-- a face at v whose next corner is below, and that has a point above -/
structure Mix (us : List P3) (w v : P3) (p : Pl) : Prop where
  face : Face us p
  ext : Ext (ons us p) v
  dn : prod w (nxt p.n (ons us p) v) < prod w v
  up : ∃ R ∈ ons us p, prod w v < prod w R
theorem mix_prev (m : Mix us w v p) : ∃ u, Ext (ons us p) u ∧ DW.nxt p.n (ons us p) u = v ∧ prod w v < prod w u := by
  have F := m.face.flt
  obtain ⟨u, xu, hu⟩ := F.pred m.ext
  refine ⟨u, xu, hu, ?_⟩
  have e1 := F.nxt xu
  have t := F.turn xu
  rw [hu] at e1 t
  have e2 := F.nxt m.ext
  obtain ⟨R, hR, hup⟩ := m.up
  have hdn := m.dn
  generalize DW.nxt p.n (ons us p) v = q at *
  have d := corner_dec (w := w) (y := way v R) F.n0 (F.on.way e1.q e1.p) (F.on.way e2.p e2.q) (F.on.way e1.q hR)
  rw [prod_way w v R, prod_way w v q, prod_way w v u] at d
  have a0 : 0 ≤ det p.n (way v R) (way v u) := by rw [← tn_det, tn_cyc]; exact e1.tn hR
  have b0 : 0 ≤ det p.n (way v q) (way v R) := by rw [← tn_det]; exact e2.tn hR
  generalize det p.n (way v R) (way v u) = a at *
  generalize det p.n (way v q) (way v R) = b at *
  have k1 := Int.mul_pos t (show 0 < prod w R - prod w v by omega)
  have k2 := Int.mul_nonpos_of_nonneg_of_nonpos a0 (show prod w q - prod w v ≤ 0 by omega)
  rcases Int.lt_or_le 0 (prod w u - prod w v) with x | x
  · omega
  · have := Int.mul_nonpos_of_nonneg_of_nonpos b0 x
    omega
/-- the way along a face that stays at one height -/
theorem mix_way (m : Mix us w v p) : ∃ (a b : P3) (al be T : Int), 0 < al ∧ 0 < be ∧ 0 < T ∧ prod p.n a = 0 ∧ prod p.n b = 0 ∧ (∀ n : P3, (∀ R ∈ us, prod n R ≤ prod n v) → prod n a ≤ 0 ∧ prod n b ≤ 0) ∧ (∀ x, T * prod (cross w p.n) x = prod p.n p.n * (al * prod a x + be * prod b x)) ∧ (∀ f, Face us f → prod f.n v = f.d → prod f.n a = 0 → prod f.n b = 0 → Dim3 us → f = p) := by
  have F := m.face.flt
  obtain ⟨u, xu, hu, hup⟩ := mix_prev m
  have e1 := F.nxt xu
  have t := F.turn xu
  rw [hu] at e1 t
  have e2 := F.nxt m.ext
  have hdn := m.dn
  generalize DW.nxt p.n (ons us p) v = q at *
  have o1 := F.on.way e2.p e2.q
  have o2 := F.on.way e1.q e1.p
  have tq : tn p.n u v q = prod p.n (cross (way v q) (way v u)) := by
    rw [← tn_cyc]
    rfl
  rw [tq] at t
  refine ⟨way v q, way v u, prod w u - prod w v, prod w v - prod w q, _, by omega, by omega, t, o1, o2, fun n hn => ?_, fun x => ?_, fun f hf hv ha hb hd => ?_⟩
  · have h1 := hn q (mem_ons.mp e2.q).1
    have h2 := hn u (mem_ons.mp e1.p).1
    rw [prod_way, prod_way]
    omega
  · have k := norm_id o1 o2 (cross x w)
    have i1 : prod p.n (cross x w) = prod (cross w p.n) x := by
      simp only [prod, cross]
      grind
    have i2 : prod (cross (way v q) (way v u)) (cross x w) = prod (way v q) x * prod (way v u) w - prod (way v q) w * prod (way v u) x := by
      simp only [prod, cross]
      grind
    rw [i1, i2, prod_comm (way v u) w, prod_comm (way v q) w, prod_way w v u, prod_way w v q] at k
    rw [← k]
    grind
  · have hne : cross (way v q) (way v u) ≠ P3.O := fun z => by
      rw [z] at t
      simp [prod, P3.O] at t
    rw [prod_way] at ha hb
    exact Face.uniq hd m.face hf e2.p e2.q e1.p hv (by omega) (by omega) hne
theorem mix_one (hd : Dim3 us) (m : Mix us w v p) (m' : Mix us w v f) : f = p := by
  obtain ⟨a, b, al, be, T, h1, h2, h3, _, _, h6, h7, h8⟩ := mix_way m
  obtain ⟨a', b', al', be', T', g1, g2, g3, _, _, g6, g7, g8⟩ := mix_way m'
  have pv := (mem_ons.mp m.ext.mem).2
  have fv := (mem_ons.mp m'.ext.mem).2
  obtain ⟨fa, fb⟩ := h6 f.n (fun R hR => by have := m'.face.sup R hR; omega)
  obtain ⟨pa, pb⟩ := g6 p.n (fun R hR => by have := m.face.sup R hR; omega)
  have k1 := h7 f.n
  have k2 := g7 p.n
  rw [prod_comm a, prod_comm b] at k1
  rw [prod_comm a', prod_comm b'] at k2
  have sw : prod (cross w f.n) p.n = -prod (cross w p.n) f.n := by
    simp only [prod, cross]
    grind
  rw [sw] at k2
  have n1 := sq_pos m.face.n0
  have n2 := sq_pos m'.face.n0
  have c1 := Int.mul_nonpos_of_nonneg_of_nonpos (show 0 ≤ al by omega) fa
  have c2 := Int.mul_nonpos_of_nonneg_of_nonpos (show 0 ≤ be by omega) fb
  have c3 := Int.mul_nonpos_of_nonneg_of_nonpos (show 0 ≤ al' by omega) pa
  have c4 := Int.mul_nonpos_of_nonneg_of_nonpos (show 0 ≤ be' by omega) pb
  have s1 := Int.mul_nonpos_of_nonneg_of_nonpos (show 0 ≤ prod p.n p.n by omega) (show al * prod f.n a + be * prod f.n b ≤ 0 by omega)
  have s2 := Int.mul_nonpos_of_nonneg_of_nonpos (show 0 ≤ prod f.n f.n by omega) (show al' * prod p.n a' + be' * prod p.n b' ≤ 0 by omega)
  have z0 : prod (cross w p.n) f.n = 0 := by
    rcases Int.lt_trichotomy (prod (cross w p.n) f.n) 0 with q | q | q
    · have := Int.mul_pos g3 (show 0 < -prod (cross w p.n) f.n by omega)
      omega
    · exact q
    · have := Int.mul_pos h3 q
      omega
  rw [z0, Int.mul_zero] at k1
  have z1 : al * prod f.n a + be * prod f.n b = 0 := (Int.mul_eq_zero.mp k1.symm).resolve_left (by omega)
  have za : prod f.n a = 0 := (Int.mul_eq_zero.mp (show al * prod f.n a = 0 by omega)).resolve_left (by omega)
  have zb : prod f.n b = 0 := (Int.mul_eq_zero.mp (show be * prod f.n b = 0 by omega)).resolve_left (by omega)
  exact h8 f m'.face fv za zb hd
/-- .. where points lie above and below v there is one -/
theorem mix_ex (hd : Dim3 us) (hL : Lex us w) (xv : Ext us v) (hup : ∃ R ∈ us, prod w v < prod w R) (hdn : ∃ R ∈ us, prod w R < prod w v) : ∃ p, Mix us w v p := by
  obtain ⟨hv, z, hz⟩ := xv
  have xv : Ext us v := ⟨hv, z, hz⟩
  -- pairs: one above, one below
  let hor : P3 × P3 → P3 := fun e => ad (sm (prod w (way v e.1)) (way v e.2)) (sm (-prod w (way v e.2)) (way v e.1))
  have mp : ∀ {a b : P3}, (a, b) ∈ ((us.filter fun R => decide (prod w v < prod w R)).flatMap fun a => (us.filter fun R => decide (prod w R < prod w v)).map fun b => (a, b)) ↔ (a ∈ us ∧ prod w v < prod w a) ∧ (b ∈ us ∧ prod w b < prod w v) := fun {a b} => by
    rw [List.mem_flatMap]
    constructor
    · rintro ⟨c, hc, h⟩
      obtain ⟨d, hd, e⟩ := List.mem_map.mp h
      obtain ⟨rfl, rfl⟩ := Prod.mk.inj e
      obtain ⟨c1, c2⟩ := List.mem_filter.mp hc
      obtain ⟨d1, d2⟩ := List.mem_filter.mp hd
      exact ⟨⟨c1, of_decide_eq_true c2⟩, ⟨d1, of_decide_eq_true d2⟩⟩
    · rintro ⟨⟨h1, h2⟩, ⟨h3, h4⟩⟩
      exact ⟨a, List.mem_filter.mpr ⟨h1, decide_eq_true h2⟩, List.mem_map.mpr ⟨b, List.mem_filter.mpr ⟨h3, decide_eq_true h4⟩, rfl⟩⟩
  generalize ((us.filter fun R => decide (prod w v < prod w R)).flatMap fun a => (us.filter fun R => decide (prod w R < prod w v)).map fun b => (a, b)) = L at mp
  have hw : ∀ e, prod w (hor e) = 0 := fun e => by
    show prod w (ad _ _) = 0
    rw [prod_ad, prod_sm, prod_sm, Int.neg_mul, Int.mul_comm (prod w (way v e.1))]
    omega
  have hpos : ∀ e ∈ L, 0 < prod z (hor e) := fun e he => by
    obtain ⟨⟨h1, h2⟩, h3, h4⟩ := mp.mp he
    have n1 : e.1 ≠ v := fun q => by rw [q] at h2; omega
    have n2 : e.2 ≠ v := fun q => by rw [q] at h4; omega
    have p1 := hz e.1 h1 n1
    have p2 := hz e.2 h3 n2
    show 0 < prod z (ad _ _)
    rw [prod_ad, prod_sm, prod_sm, prod_way w, prod_way w]
    have := Int.mul_pos (show 0 < prod w e.1 - prod w v by omega) p2
    have := Int.mul_pos (show 0 < -(prod w e.2 - prod w v) by omega) p1
    omega
  obtain ⟨R0, hR0, hR0'⟩ := hup
  obtain ⟨S0, hS0, hS0'⟩ := hdn
  have w0 : w ≠ P3.O := fun q => by
    rw [q] at hR0'
    simp [prod, P3.O] at hR0'
  have key := best_ok (skip := fun _ => false) (cond := fun b r => decide (det w (hor b) (hor r) < 0)) (le := fun a b => 0 ≤ det w (hor a) (hor b)) (D := fun e => 0 < prod z (hor e))
    (fun b r _ _ hc => by
      have := of_decide_eq_true hc
      have e := det_sw w (hor b) (hor r)
      omega) (fun b r _ _ hc => by
      have := of_decide_eq_false hc
      omega) (fun a b c ha hb hc h1 h2 => by
      have m := det_mid (w := z) (u := w) (a := hor a) (b := hor b) (c := hor c) (.inl (det_flat w0 (hw a) (hw b) (hw c)))
      have k1 := Int.mul_nonneg h2 (show 0 ≤ prod z (hor a) by omega)
      have k2 := Int.mul_nonneg h1 (show 0 ≤ prod z (hor c) by omega)
      rcases Int.lt_or_le (det w (hor a) (hor c)) 0 with q | q
      · have := Int.mul_neg_of_neg_of_pos q hb
        omega
      · exact q) (fun a _ => by rw [det_self]; exact Int.le_refl _) L (fun e he _ => hpos e he)
  cases hb : bestOf (fun _ => false) (fun b r => decide (det w (hor b) (hor r) < 0)) L with
  | none =>
    rw [hb] at key
    have := key (R0, S0) (mp.mpr ⟨⟨hR0, hR0'⟩, hS0, hS0'⟩)
    cases this
  | some e =>
    rw [hb] at key
    obtain ⟨he, _, hbest⟩ := key
    obtain ⟨Rs, Ss⟩ := e
    obtain ⟨⟨r1, r2⟩, s1, s2⟩ := mp.mp he
    have rv : Rs ≠ v := fun q => by rw [q] at r2; omega
    have sv : Ss ≠ v := fun q => by rw [q] at s2; omega
    have zr := hz Rs r1 rv
    have zs := hz Ss s1 sv
    have al : 0 < prod w (way v Rs) := by rw [prod_way]; omega
    have be : 0 < -prod w (way v Ss) := by rw [prod_way]; omega
    have hne : cross (way v Ss) (way v Rs) ≠ P3.O := fun q => by
      have k := par_eq q w z
      have k1 := Int.mul_pos be zr
      have k2 := Int.mul_pos al zs
      rw [Int.neg_mul] at k1
      omega
    have W := sq_pos w0
    have low : ∀ X ∈ us, prod (cross (way v Ss) (way v Rs)) (way v X) ≤ 0 := fun X hX => by
      have d4 := det4 w w (way v Ss) (way v Rs) (way v X)
      by_cases hXv : X = v
      · rw [hXv, way_self]
        simp [prod, P3.O]
      · have hh : prod w X ≠ prod w v := fun q => hXv (hL.inj hX hv q)
        have fin : ∀ {c : Int}, 0 < c → 0 ≤ c * (-(prod w w * det (way v Ss) (way v Rs) (way v X))) → det (way v Ss) (way v Rs) (way v X) ≤ 0 := fun {c} hc k => by
          rcases Int.lt_or_le 0 (det (way v Ss) (way v Rs) (way v X)) with q | q
          · have a := Int.mul_pos W q
            have b := Int.mul_neg_of_pos_of_neg hc (show -(prod w w * det (way v Ss) (way v Rs) (way v X)) < 0 by omega)
            omega
          · exact q
        show det (way v Ss) (way v Rs) (way v X) ≤ 0
        rcases Int.lt_or_gt_of_ne hh with q | q
        · have b := hbest (Rs, X) (mp.mpr ⟨⟨r1, r2⟩, hX, q⟩) rfl
          refine fin al ?_
          have e : det w (hor (Rs, Ss)) (hor (Rs, X)) = prod w (way v Rs) * (-(prod w w * det (way v Ss) (way v Rs) (way v X))) := by
            have ex : det w (hor (Rs, Ss)) (hor (Rs, X)) = prod w (way v Rs) * (prod w (way v Rs) * det w (way v Ss) (way v X) + -prod w (way v X) * det w (way v Ss) (way v Rs) + -prod w (way v Ss) * det w (way v Rs) (way v X)) := by
              show det w (ad (sm (prod w (way v Rs)) (way v Ss)) (sm (-prod w (way v Ss)) (way v Rs))) (ad (sm (prod w (way v Rs)) (way v X)) (sm (-prod w (way v X)) (way v Rs))) = _
              generalize way v Ss = a
              generalize way v Rs = b
              generalize way v X = c
              generalize prod w a = pa
              generalize prod w b = pb
              generalize prod w c = pc
              simp only [det, prod, cross, ad, sm]
              grind
            rw [ex]
            congr 1
            rw [Int.mul_comm (det (way v Ss) (way v Rs) (way v X))] at d4
            grind
          rw [← e]
          exact b
        · have b := hbest (X, Ss) (mp.mpr ⟨⟨hX, q⟩, s1, s2⟩) rfl
          refine fin be ?_
          have e : det w (hor (Rs, Ss)) (hor (X, Ss)) = -prod w (way v Ss) * (-(prod w w * det (way v Ss) (way v Rs) (way v X))) := by
            have ex : det w (hor (Rs, Ss)) (hor (X, Ss)) = -prod w (way v Ss) * (prod w (way v Rs) * det w (way v Ss) (way v X) + -prod w (way v X) * det w (way v Ss) (way v Rs) + -prod w (way v Ss) * det w (way v Rs) (way v X)) := by
              show det w (ad (sm (prod w (way v Rs)) (way v Ss)) (sm (-prod w (way v Ss)) (way v Rs))) (ad (sm (prod w (way v X)) (way v Ss)) (sm (-prod w (way v Ss)) (way v X))) = _
              generalize way v Ss = a
              generalize way v Rs = b
              generalize way v X = c
              generalize prod w a = pa
              generalize prod w b = pb
              generalize prod w c = pc
              simp only [det, prod, cross, ad, sm]
              grind
            rw [ex]
            congr 1
            rw [Int.mul_comm (det (way v Ss) (way v Rs) (way v X))] at d4
            grind
          rw [← e]
          exact b
    -- the face
    have hg := p3gz_pos hne
    have hc := divP_sm (cross (way v Ss) (way v Rs))
    have val : ∀ X, prod (cross (way v Ss) (way v Rs)) (way v X) = p3g (cross (way v Ss) (way v Rs)) * (prod (planeA v Ss Rs).n X - (planeA v Ss Rs).d) := fun X => planeA_lift hne X
    have hF : Face us (planeA v Ss Rs) := by
      obtain ⟨_, _, hp⟩ := planeA_c hne
      obtain ⟨o1, o2⟩ := planeA_on hne
      refine ⟨fun X hX => ?_, hp, v, mem_ons.mpr ⟨hv, rfl⟩, Ss, mem_ons.mpr ⟨s1, o1⟩, Rs, mem_ons.mpr ⟨r1, o2⟩, hne⟩
      have a := low X hX
      rw [val X] at a
      rcases Int.lt_or_le 0 (prod (planeA v Ss Rs).n X - (planeA v Ss Rs).d) with q | q
      · have := Int.mul_pos hg q
        omega
      · omega
    obtain ⟨o1, o2⟩ := planeA_on hne
    have mS : Ss ∈ ons us (planeA v Ss Rs) := mem_ons.mpr ⟨s1, o1⟩
    have mR : Rs ∈ ons us (planeA v Ss Rs) := mem_ons.mpr ⟨r1, o2⟩
    have xp := ext_ons (p := planeA v Ss Rs) xv rfl
    have hdet : 0 < det (planeA v Ss Rs).n (way v Ss) (way v Rs) := by
      rw [det_rot]
      have e := (planeA_c hne).1
      rw [e, prod_sm]
      exact Int.mul_pos hg (sq_pos hF.n0)
    clear hbest low val
    generalize planeA v Ss Rs = p at *
    refine ⟨p, hF, xp, ?_, Rs, mR, r2⟩
    have F := hF.flt
    obtain ⟨u, xu, hu⟩ := F.pred xp
    have e1 := F.nxt xu
    have t := F.turn xu
    rw [hu] at e1 t
    have e2 := F.nxt xp
    generalize DW.nxt p.n (ons us p) v = q at *
    have dec := fun (y : P3) (hy : y ∈ ons us p) (w : P3) => corner_dec (w := w) (y := way v y) F.n0 (F.on.way e1.q e1.p) (F.on.way e2.p e2.q) (F.on.way e1.q hy)
    have x0 : ∀ y ∈ ons us p, 0 ≤ det p.n (way v y) (way v u) := fun y hy => by rw [← tn_det, tn_cyc]; exact e1.tn hy
    have y0 : ∀ y ∈ ons us p, 0 ≤ det p.n (way v q) (way v y) := fun y hy => by rw [← tn_det]; exact e2.tn hy
    have dS := dec Ss mS w
    have dR := dec Rs mR w
    have dP := dec Rs mR (cross p.n (way v Ss))
    have c1 : ∀ x, prod (cross p.n (way v Ss)) x = det p.n (way v Ss) x := fun x => rfl
    rw [c1, c1, c1] at dP
    have xS := x0 Ss mS
    have yS := y0 Ss mS
    have xR := x0 Rs mR
    have yR := y0 Rs mR
    have sw1 : det p.n (way v Ss) (way v q) = -det p.n (way v q) (way v Ss) := det_sw _ _ _
    rw [sw1] at dP
    have kS := Int.mul_neg_of_pos_of_neg t (show prod w (way v Ss) < 0 by omega)
    have kR := Int.mul_pos t al
    have kP := Int.mul_pos t hdet
    rcases Int.lt_or_le (prod w q) (prod w v) with g | g
    · exact g
    exfalso
    have hq0 : 0 ≤ prod w (way v q) := by rw [prod_way]; omega
    have q1 := Int.mul_nonneg xS hq0
    -- u is below
    have hu0 : prod w (way v u) < 0 := by
      rcases Int.lt_or_le (prod w (way v u)) 0 with g2 | g2
      · exact g2
      · have := Int.mul_nonneg yS g2
        omega
    generalize det p.n (way v Ss) (way v u) = x1 at *
    generalize det p.n (way v q) (way v Ss) = y1 at *
    generalize det p.n (way v Rs) (way v u) = x2 at *
    generalize det p.n (way v q) (way v Rs) = y2 at *
    generalize prod w (way v q) = PQ at *
    generalize hN : -prod w (way v u) = N at *
    have hU : prod w (way v u) = -N := by omega
    rw [hU] at dS dR hu0
    rw [Int.mul_neg] at dS dR
    -- x1 PQ < y1 N, x2 PQ > y2 N, x1 y2 > x2 y1
    have i1 : x1 * PQ < y1 * N := by omega
    have i2 : y2 * N < x2 * PQ := by omega
    have i3 : 0 < y2 * x1 - x2 * y1 := by
      have e : x2 * -y1 = -(x2 * y1) := Int.mul_neg _ _
      rw [e] at dP
      omega
    have j1 : y2 * (x1 * PQ) ≤ y2 * (y1 * N) := Int.mul_le_mul_of_nonneg_left (by omega) yR
    have j2 : y1 * (y2 * N) ≤ y1 * (x2 * PQ) := Int.mul_le_mul_of_nonneg_left (by omega) yS
    have j3 : (y2 * x1 - x2 * y1) * PQ ≤ 0 := by grind
    rcases Int.lt_or_le 0 PQ with g3 | g3
    · have := Int.mul_pos i3 g3
      omega
    · have : PQ = 0 := by omega
      subst this
      have := Int.mul_nonneg yR (show 0 ≤ N by omega)
      omega
end
end DW

set_option autoImplicit false
namespace DW
/-! ### corners and faces are two more than edges -/
theorem len_sum {α β : Type} [DecidableEq β] (f : α → β) : ∀ (L : List α) (V : List β), V.Nodup → (∀ x ∈ L, f x ∈ V) → L.length = (V.map fun v => (L.filter fun x => decide (f x = v)).length).sum
  | [], V, _, _ => by
    show 0 = (V.map fun _ => 0).sum
    have z : ∀ V : List β, 0 = (V.map fun _ => 0).sum := fun V => by
      induction V with
      | nil => rfl
      | cons v V ih => rw [List.map_cons, List.sum_cons, ← ih]
    exact z V
  | x :: L, V, hn, h => by
    have ih := len_sum f L V hn fun y hy => h y (List.mem_cons_of_mem _ hy)
    have hx := h x List.mem_cons_self
    have key : ∀ V : List β, V.Nodup → f x ∈ V → (V.map fun v => ((x :: L).filter fun x => decide (f x = v)).length).sum = (V.map fun v => (L.filter fun x => decide (f x = v)).length).sum + 1 := fun V hn hx => by
      induction V with
      | nil => cases hx
      | cons v V ihV =>
        obtain ⟨n1, n2⟩ := List.nodup_cons.mp hn
        simp only [List.map_cons, List.sum_cons]
        by_cases e : f x = v
        · have hV : (V.map fun v => ((x :: L).filter fun x => decide (f x = v)).length) = V.map fun v => (L.filter fun x => decide (f x = v)).length := by
            refine List.map_congr_left fun u hu => ?_
            have : f x ≠ u := fun z => n1 (by rw [← e, z]; exact hu)
            rw [List.filter_cons, decide_eq_false this, if_neg (by decide)]
          rw [hV, List.filter_cons, decide_eq_true e, if_pos rfl, List.length_cons]
          omega
        · have hxV : f x ∈ V := by
            rcases List.mem_cons.mp hx with q | q
            · exact (e q).elim
            · exact q
          rw [ihV n2 hxV, List.filter_cons, decide_eq_false e, if_neg (by decide)]
          omega
    rw [List.length_cons, key V hn hx, ← ih]
theorem sum_add {β : Type} (f g : β → Nat) (V : List β) : (V.map fun v => f v + g v).sum = (V.map f).sum + (V.map g).sum := by
  induction V with
  | nil => rfl
  | cons v V ih =>
    simp only [List.map_cons, List.sum_cons]
    omega
theorem sum_ind {β : Type} (q : β → Bool) (V : List β) : (V.map fun v => if q v = true then 1 else 0).sum = (V.filter q).length := by
  induction V with
  | nil => rfl
  | cons v V ih =>
    simp only [List.map_cons, List.sum_cons, List.filter_cons]
    cases h : q v with
    | true => simp [ih]; omega
    | false => simp [ih]
theorem filter_ne {β : Type} [DecidableEq β] {V : List β} (h : V.Nodup) {a : β} (ha : a ∈ V) : (V.filter fun v => decide (v ≠ a)).length + 1 = V.length := by
  induction V with
  | nil => cases ha
  | cons v V ih =>
    obtain ⟨n1, n2⟩ := List.nodup_cons.mp h
    by_cases e : v = a
    · subst e
      have : V.filter (fun x => decide (x ≠ v)) = V := List.filter_eq_self.mpr fun x hx => decide_eq_true fun z => n1 (z ▸ hx)
      rw [List.filter_cons, if_neg (by simp), this, List.length_cons]
    · have ha' : a ∈ V := by
        rcases List.mem_cons.mp ha with q | q
        · exact (e q.symm).elim
        · exact q
      rw [List.filter_cons, if_pos (by simpa using e), List.length_cons, List.length_cons, ih n2 ha']
theorem filter_ne2 {β : Type} [DecidableEq β] {V : List β} (h : V.Nodup) {a b : β} (ha : a ∈ V) (hb : b ∈ V) (hab : a ≠ b) : (V.filter fun v => decide (v ≠ a ∧ v ≠ b)).length + 2 = V.length := by
  have h1 := filter_ne h ha
  have h2 := filter_ne (V := V.filter fun v => decide (v ≠ a)) (List.Pairwise.filter _ h) (a := b) (List.mem_filter.mpr ⟨hb, decide_eq_true hab.symm⟩)
  rw [List.filter_filter] at h2
  have e : (V.filter fun v => decide (v ≠ b) && decide (v ≠ a)) = V.filter fun v => decide (v ≠ a ∧ v ≠ b) := by
    congr 1
    funext v
    rw [Bool.eq_iff_iff]
    simp [and_comm]
  rw [e] at h2
  omega
theorem len_eq_of {α : Type} [DecidableEq α] {xs ys : List α} (hx : xs.Nodup) (hy : ys.Nodup) (h : ∀ a, a ∈ xs ↔ a ∈ ys) : xs.length = ys.length :=
  Nat.le_antisymm (List.Nodup.length_le_of_subset hx fun a ha => (h a).mp ha) (List.Nodup.length_le_of_subset hy fun a ha => (h a).mpr ha)
section
variable {us : List P3} {w v : P3} {p f : Pl}
/-- the highest of a face -/
noncomputable def topP (us : List P3) (w : P3) (p : Pl) : P3 := leastP (((ons us p).filter fun R => (ons us p).all fun S => decide (prod w S ≤ prod w R)))
theorem topP_ok (w : P3) (hp : Face us p) : topP us w p ∈ ons us p ∧ ∀ S ∈ ons us p, prod w S ≤ prod w (topP us w p) := by
  obtain ⟨A, hA, _⟩ := hp.sp
  obtain ⟨m, hm, hmin⟩ := min_ex (fun R => -prod w R) (ons us p) (fun e => by rw [e] at hA; cases hA)
  have hm2 : m ∈ ((ons us p).filter fun R => (ons us p).all fun S => decide (prod w S ≤ prod w R)) := List.mem_filter.mpr ⟨hm, List.all_eq_true.mpr fun S hS => decide_eq_true (by have := hmin S hS; omega)⟩
  have := (leastP_ok (S := ((ons us p).filter fun R => (ons us p).all fun S => decide (prod w S ≤ prod w R))) (fun e => by rw [e] at hm2; cases hm2)).1
  obtain ⟨h1, h2⟩ := List.mem_filter.mp this
  exact ⟨h1, fun S hS => of_decide_eq_true (List.all_eq_true.mp h2 S hS)⟩
theorem top_ext (hL : Lex us w) (hp : Face us p) : Ext (ons us p) (topP us w p) := by
  obtain ⟨h1, h2⟩ := topP_ok w hp
  refine ⟨h1, negV w, fun R hR hne => ?_⟩
  rw [neg_prod, prod_way]
  have a := h2 R hR
  have b : prod w R ≠ prod w (topP us w p) := fun e => hne (hL.inj (mem_ons.mp hR).1 (mem_ons.mp h1).1 e)
  omega
theorem top_iff (hL : Lex us w) (hp : Face us p) (hv : v ∈ ons us p) : topP us w p = v ↔ ∀ S ∈ ons us p, prod w S ≤ prod w v := by
  obtain ⟨h1, h2⟩ := topP_ok w hp
  constructor
  · rintro rfl
    exact h2
  · intro h
    have a := h _ h1
    have b := h2 v hv
    exact hL.inj (mem_ons.mp h1).1 (mem_ons.mp hv).1 (by omega)
/-- faces at v whose next corner is below -/
noncomputable def downF (us : List P3) (w v : P3) : List Pl := (facesL us).filter fun p => decide (prod p.n v = p.d) && decide (prod w (nxt p.n (ons us p) v) < prod w v)
theorem mem_downF : p ∈ downF us w v ↔ Face us p ∧ prod p.n v = p.d ∧ prod w (nxt p.n (ons us p) v) < prod w v := by
  unfold downF
  rw [List.mem_filter, mem_faces, Bool.and_eq_true, decide_eq_true_eq, decide_eq_true_eq]
/-- edges with v on top are as many -/
theorem top_edges (hd : Dim3 us) (hL : Lex us w) (xv : Ext us v) : ((edgesA us).filter fun e => decide (e.2 = v)).length = (downF us w v).length := by
  have nd : (downF us w v).Nodup := List.Pairwise.filter _ (facesL_nodup us)
  have inj : ((downF us w v).map fun p => (nxt p.n (ons us p) v, v)).Nodup := by
    rw [List.nodup_iff_pairwise_ne, List.pairwise_map]
    refine List.Pairwise.imp_of_mem (R := fun a b => a ≠ b) ?_ (List.nodup_iff_pairwise_ne.mp nd)
    intro p q hp hq hne e
    obtain ⟨p1, p2, p3⟩ := mem_downF.mp hp
    obtain ⟨q1, q2, q3⟩ := mem_downF.mp hq
    have e1 := (Prod.mk.inj e).1
    exact hne (Face.edge_one hd p1 q1 (ext_ons xv p2) rfl (ext_ons xv q2) e1.symm).symm
  rw [← List.length_map (as := downF us w v) (f := fun p => (nxt p.n (ons us p) v, v))]
  refine len_eq_of (List.Pairwise.filter _ (strict_nodup (srtE_lt _))) inj fun e => ?_
  obtain ⟨a, b⟩ := e
  rw [List.mem_filter, List.mem_map, decide_eq_true_eq]
  constructor
  · rintro ⟨he, hb⟩
    change b = v at hb
    subst hb
    obtain ⟨P, Q, hs, e⟩ := mem_edges.mp he
    have hlt := (edge_iff hd).mp he
    have hs2 : (b, a) ∈ sidesAll us (facesL us) := by
      rcases edgeOf_cases P Q with q | q
      · rw [q] at e
        obtain ⟨rfl, rfl⟩ := Prod.mk.inj e
        exact side_back hd hs
      · rw [q] at e
        obtain ⟨rfl, rfl⟩ := Prod.mk.inj e
        exact hs
    obtain ⟨p, hp, hP, hQ⟩ := (mem_sidesAll hd).mp hs2
    refine ⟨p, mem_downF.mpr ⟨hp, (mem_ons.mp hP.mem).2, ?_⟩, by rw [hQ]⟩
    rw [hQ]
    exact (hL.iff hlt.1.mem xv.mem).mp hlt.2.2.1
  · rintro ⟨p, hp, e⟩
    obtain ⟨rfl, rfl⟩ := Prod.mk.inj e
    obtain ⟨p1, p2, p3⟩ := mem_downF.mp hp
    have hP := ext_ons xv p2
    have xq := p1.ext (p1.flt.nxt_ext hP)
    have hs : (v, nxt p.n (ons us p) v) ∈ sidesAll us (facesL us) := (mem_sidesAll hd).mpr ⟨p, p1, hP, rfl⟩
    refine ⟨mem_edges.mpr ⟨v, _, hs, ?_⟩, rfl⟩
    have hlt := (hL.iff xq.mem xv.mem).mpr p3
    unfold edgeOf
    rw [if_pos hlt]
theorem top_faces (hd : Dim3 us) (hL : Lex us w) (xv : Ext us v) : (downF us w v).length = ((facesL us).filter fun p => decide (topP us w p = v)).length + (if (us.any fun R => decide (prod w v < prod w R)) && (us.any fun R => decide (prod w R < prod w v)) then 1 else 0) := by
  have nd : (downF us w v).Nodup := List.Pairwise.filter _ (facesL_nodup us)
  have nt : ((facesL us).filter fun p => decide (topP us w p = v)).Nodup := List.Pairwise.filter _ (facesL_nodup us)
  have mt : ∀ p, p ∈ ((facesL us).filter fun p => decide (topP us w p = v)) ↔ Face us p ∧ prod p.n v = p.d ∧ ∀ S ∈ ons us p, prod w S ≤ prod w v := fun p => by
    rw [List.mem_filter, mem_faces, decide_eq_true_eq]
    constructor
    · rintro ⟨h1, h2⟩
      have hv : v ∈ ons us p := h2 ▸ (topP_ok w h1).1
      exact ⟨h1, (mem_ons.mp hv).2, (top_iff hL h1 hv).mp h2⟩
    · rintro ⟨h1, h2, h3⟩
      exact ⟨h1, (top_iff hL h1 (mem_ons.mpr ⟨xv.mem, h2⟩)).mpr h3⟩
  have sub : ∀ p, p ∈ ((facesL us).filter fun p => decide (topP us w p = v)) → p ∈ downF us w v := fun p hp => by
    obtain ⟨h1, h2, h3⟩ := (mt p).mp hp
    have e := h1.flt.nxt (ext_ons xv h2)
    refine mem_downF.mpr ⟨h1, h2, ?_⟩
    have a := h3 _ e.q
    have b : prod w (nxt p.n (ons us p) v) ≠ prod w v := fun z => e.ne (hL.inj (mem_ons.mp e.q).1 xv.mem z)
    omega
  have mixOf : ∀ p, p ∈ downF us w v → p ∉ ((facesL us).filter fun p => decide (topP us w p = v)) → Mix us w v p := fun p hp hn => by
    obtain ⟨p1, p2, p3⟩ := mem_downF.mp hp
    refine ⟨p1, ext_ons xv p2, p3, Classical.byContradiction fun hno => hn ((mt p).mpr ⟨p1, p2, fun S hS => ?_⟩)⟩
    rcases Int.lt_or_le (prod w v) (prod w S) with x | x
    · exact (hno ⟨S, hS, x⟩).elim
    · exact x
  by_cases hboth : (us.any fun R => decide (prod w v < prod w R)) = true ∧ (us.any fun R => decide (prod w R < prod w v)) = true
  · obtain ⟨hu, hl⟩ := hboth
    rw [hu, hl, if_pos (by decide)]
    obtain ⟨R, hR, hR2⟩ := List.any_eq_true.mp hu
    obtain ⟨S, hS, hS2⟩ := List.any_eq_true.mp hl
    obtain ⟨m, hm⟩ := mix_ex hd hL xv ⟨R, hR, of_decide_eq_true hR2⟩ ⟨S, hS, of_decide_eq_true hS2⟩
    have hm1 : m ∈ downF us w v := mem_downF.mpr ⟨hm.face, (mem_ons.mp hm.ext.mem).2, hm.dn⟩
    have hm2 : m ∉ ((facesL us).filter fun p => decide (topP us w p = v)) := fun h => by
      obtain ⟨_, _, h3⟩ := (mt m).mp h
      obtain ⟨R, hR, hup⟩ := hm.up
      have := h3 R hR
      omega
    have nm : (m :: ((facesL us).filter fun p => decide (topP us w p = v))).Nodup := List.nodup_cons.mpr ⟨hm2, nt⟩
    refine (len_eq_of nd nm fun p => ?_).trans (List.length_cons)
    rw [List.mem_cons]
    constructor
    · intro hp
      by_cases hq : p ∈ ((facesL us).filter fun p => decide (topP us w p = v))
      · exact .inr hq
      · exact .inl (mix_one hd hm (mixOf p hp hq))
    · rintro (rfl | h)
      · exact hm1
      · exact sub p h
  · rw [if_neg (by rw [Bool.and_eq_true]; exact hboth), Nat.add_zero]
    refine len_eq_of nd nt fun p => ⟨fun hp => ?_, sub p⟩
    refine Classical.byContradiction fun hq => hboth ?_
    have m := mixOf p hp hq
    obtain ⟨R, hR, hup⟩ := m.up
    have e := m.face.flt.nxt m.ext
    exact ⟨List.any_eq_true.mpr ⟨R, (mem_ons.mp hR).1, decide_eq_true hup⟩, List.any_eq_true.mpr ⟨_, (mem_ons.mp e.q).1, decide_eq_true m.dn⟩⟩
theorem euler (hd : Dim3 us) : (bodyA us).length + (facesL us).length = (edgesA us).length + 2 := by
  obtain ⟨w, hw⟩ := lex_ex us
  have hL : Lex us w := ⟨hw⟩
  have nV := body_nodup us
  have hE := len_sum (fun e : P3 × P3 => e.2) (edgesA us) (bodyA us) nV (fun e he => by
    obtain ⟨a, b⟩ := e
    exact (mem_body hd).mpr ((edge_iff hd).mp he).2.1)
  have hF := len_sum (fun p : Pl => topP us w p) (facesL us) (bodyA us) nV (fun p hp => by
    have h1 := mem_faces.mp hp
    exact (mem_body hd).mpr (h1.ext (top_ext hL h1)))
  have hsum : ((bodyA us).map fun v => ((edgesA us).filter fun e => decide (e.2 = v)).length) = (bodyA us).map fun v => ((facesL us).filter fun p => decide (topP us w p = v)).length + (if (us.any fun R => decide (prod w v < prod w R)) && (us.any fun R => decide (prod w R < prod w v)) then 1 else 0) := by
    refine List.map_congr_left fun v hv => ?_
    have xv := (mem_body hd).mp hv
    rw [top_edges hd hL xv, top_faces hd hL xv]
  rw [hsum, sum_add, sum_ind, ← hF] at hE
  -- the highest and the lowest
  obtain ⟨lo, xlo, hlo⟩ := ext_min w hd.ne
  obtain ⟨hi, xhi, hhi⟩ := ext_min (negV w) hd.ne
  have hhi : ∀ R ∈ us, prod w R ≤ prod w hi := fun R hR => by
    have := hhi R hR
    rw [neg_prod, neg_prod] at this
    omega
  have hne : lo ≠ hi := fun e => by
    obtain ⟨A, hA, B, hB, C, hC, E, hE, hl⟩ := hd
    have eq1 : ∀ R ∈ us, R = lo := fun R hR => hL.inj hR xlo.mem (by
      have a := hlo R hR
      have b := hhi R hR
      rw [← e] at b
      omega)
    rw [eq1 A hA, eq1 B hB, eq1 C hC, eq1 E hE] at hl
    exact hl (lift_on _ _ _).1
  have hcount := filter_ne2 nV ((mem_body hd).mpr xlo) ((mem_body hd).mpr xhi) hne
  have hflt : ((bodyA us).filter fun v => (us.any fun R => decide (prod w v < prod w R)) && (us.any fun R => decide (prod w R < prod w v))) = (bodyA us).filter fun v => decide (v ≠ lo ∧ v ≠ hi) := by
    refine List.filter_congr fun v hv => ?_
    have xv := ((mem_body hd).mp hv).mem
    rw [Bool.eq_iff_iff, Bool.and_eq_true, List.any_eq_true, List.any_eq_true, decide_eq_true_eq]
    constructor
    · rintro ⟨⟨R, hR, h1⟩, S, hS, h2⟩
      have h1 := of_decide_eq_true h1
      have h2 := of_decide_eq_true h2
      refine ⟨fun e => ?_, fun e => ?_⟩
      · rw [e] at h2
        have := hlo S hS
        omega
      · rw [e] at h1
        have := hhi R hR
        omega
    · rintro ⟨h1, h2⟩
      refine ⟨⟨hi, xhi.mem, decide_eq_true ?_⟩, lo, xlo.mem, decide_eq_true ?_⟩
      · have a := hhi v xv
        have b : prod w v ≠ prod w hi := fun e => h2 (hL.inj xv xhi.mem e)
        omega
      · have a := hlo v xv
        have b : prod w v ≠ prod w lo := fun e => h1 (hL.inj xv xlo.mem e)
        omega
  rw [hflt] at hE
  omega
/-! ### sides and edges -/
theorem sides_two (hd : Dim3 us) : (sidesAll us (facesL us)).length = 2 * (edgesA us).length := by
  have nS := sides_nodup hd (facesL_found hd)
  have nE := strict_nodup (srtE_lt ((sidesAll us (facesL us)).map fun s => edgeOf s.1 s.2))
  have nX : (edgesA us ++ (edgesA us).map fun e => (e.2, e.1)).Nodup := by
    rw [List.nodup_append]
    refine ⟨nE, ?_, fun a ha b hb e => ?_⟩
    · rw [List.nodup_iff_pairwise_ne, List.pairwise_map]
      exact (List.nodup_iff_pairwise_ne.mp nE).imp fun {a b} hne e => hne (Prod.ext (Prod.mk.inj e).2 (Prod.mk.inj e).1)
    · obtain ⟨c, hc, rfl⟩ := List.mem_map.mp hb
      subst e
      obtain ⟨x, y⟩ := c
      have h1 := ((edge_iff hd).mp ha).2.2.1
      have h2 := ((edge_iff hd).mp hc).2.2.1
      exact EnO.asy _ _ h1 h2
  have := len_eq_of nS nX fun s => by
    obtain ⟨P, Q⟩ := s
    rw [List.mem_append, List.mem_map]
    constructor
    · intro hs
      have hm : edgeOf P Q ∈ edgesA us := mem_edges.mpr ⟨P, Q, hs, rfl⟩
      rcases edgeOf_cases P Q with e | e
      · rw [e] at hm
        exact .inl hm
      · rw [e] at hm
        exact .inr ⟨(Q, P), hm, rfl⟩
    · have bk : ∀ {a b : P3}, (a, b) ∈ edgesA us → (a, b) ∈ sidesAll us (facesL us) := fun {a b} h => by
        obtain ⟨P, Q, hs, e⟩ := mem_edges.mp h
        rcases edgeOf_cases P Q with q | q
        · rw [q] at e
          obtain ⟨rfl, rfl⟩ := Prod.mk.inj e
          exact hs
        · rw [q] at e
          obtain ⟨rfl, rfl⟩ := Prod.mk.inj e
          exact side_back hd hs
      rintro (h | ⟨c, hc, e⟩)
      · exact bk h
      · obtain ⟨x, y⟩ := c
        obtain ⟨rfl, rfl⟩ := Prod.mk.inj e
        exact side_back hd (bk hc)
  rw [this, List.length_append, List.length_map]
  omega
theorem edge_side (hd : Dim3 us) {a b : P3} (h : (a, b) ∈ edgesA us) : (a, b) ∈ sidesAll us (facesL us) ∧ (b, a) ∈ sidesAll us (facesL us) := by
  obtain ⟨P, Q, hs, e⟩ := mem_edges.mp h
  rcases edgeOf_cases P Q with q | q
  · rw [q] at e
    obtain ⟨rfl, rfl⟩ := Prod.mk.inj e
    exact ⟨hs, side_back hd hs⟩
  · rw [q] at e
    obtain ⟨rfl, rfl⟩ := Prod.mk.inj e
    exact ⟨side_back hd hs, hs⟩
/-- edges at a corner are as many as faces at it -/
theorem edges_at (hd : Dim3 us) (xv : Ext us v) : ((edgesA us).filter fun e => decide (v = e.1) || decide (v = e.2)).length = (onsP (facesL us) v).length := by
  have nd : (onsP (facesL us) v).Nodup := List.Pairwise.filter _ (facesL_nodup us)
  have mo : ∀ {p}, p ∈ onsP (facesL us) v ↔ Face us p ∧ prod p.n v = p.d := fun {p} => by rw [mem_onsP, mem_faces]
  have key : ∀ {p}, p ∈ onsP (facesL us) v → (v, nxt p.n (ons us p) v) ∈ sidesAll us (facesL us) := fun {p} hp => by
    obtain ⟨p1, p2⟩ := mo.mp hp
    exact (mem_sidesAll hd).mpr ⟨p, p1, ext_ons xv p2, rfl⟩
  have inj : ((onsP (facesL us) v).map fun p => edgeOf v (nxt p.n (ons us p) v)).Nodup := by
    rw [List.nodup_iff_pairwise_ne, List.pairwise_map]
    refine List.Pairwise.imp_of_mem (R := fun a b => a ≠ b) ?_ (List.nodup_iff_pairwise_ne.mp nd)
    intro p q hp hq hne e
    obtain ⟨p1, p2⟩ := mo.mp hp
    obtain ⟨q1, q2⟩ := mo.mp hq
    have n1 := (p1.flt.nxt (ext_ons xv p2)).ne
    have n2 := (q1.flt.nxt (ext_ons xv q2)).ne
    have e1 : nxt p.n (ons us p) v = nxt q.n (ons us q) v := by
      rcases edgeOf_cases v (nxt p.n (ons us p) v) with x | x
      · rcases edgeOf_cases v (nxt q.n (ons us q) v) with y | y
        · rw [x, y] at e
          exact (Prod.mk.inj e).2
        · rw [x, y] at e
          exact (n2 (Prod.mk.inj e).1.symm).elim
      · rcases edgeOf_cases v (nxt q.n (ons us q) v) with y | y
        · rw [x, y] at e
          exact (n1 (Prod.mk.inj e).1).elim
        · rw [x, y] at e
          exact (Prod.mk.inj e).1
    exact hne (Face.edge_one hd p1 q1 (ext_ons xv p2) rfl (ext_ons xv q2) e1.symm).symm
  rw [← List.length_map (as := onsP (facesL us) v) (f := fun p => edgeOf v (nxt p.n (ons us p) v))]
  refine len_eq_of (List.Pairwise.filter _ (strict_nodup (srtE_lt _))) inj fun e => ?_
  obtain ⟨a, b⟩ := e
  rw [List.mem_filter, List.mem_map, Bool.or_eq_true, decide_eq_true_eq, decide_eq_true_eq]
  constructor
  · rintro ⟨he, hv⟩
    obtain ⟨s1, s2⟩ := edge_side hd he
    have hlt := ((edge_iff hd).mp he).2.2.1
    rcases hv with hv | hv
    · change v = a at hv
      subst hv
      obtain ⟨p, hp, hP, hQ⟩ := (mem_sidesAll hd).mp s1
      refine ⟨p, mo.mpr ⟨hp, (mem_ons.mp hP.mem).2⟩, ?_⟩
      rw [hQ]
      unfold edgeOf
      rw [if_neg fun z => EnO.asy _ _ hlt z]
    · change v = b at hv
      subst hv
      obtain ⟨p, hp, hP, hQ⟩ := (mem_sidesAll hd).mp s2
      refine ⟨p, mo.mpr ⟨hp, (mem_ons.mp hP.mem).2⟩, ?_⟩
      rw [hQ]
      unfold edgeOf
      rw [if_pos hlt]
  · rintro ⟨p, hp, e⟩
    refine ⟨mem_edges.mpr ⟨_, _, key hp, e⟩, ?_⟩
    rcases edgeOf_cases v (nxt p.n (ons us p) v) with x | x
    · rw [x] at e
      exact .inl (Prod.mk.inj e).1
    · rw [x] at e
      exact .inr (Prod.mk.inj e).2
end
end DW

set_option autoImplicit false
namespace DW
open PySem PySem.Spec PyProof.Rows L2
/-! ### an own list handed to a call that tells a truth -/
theorem ge_lend {X : Cx} {G : Gm} {e : Expr} {ds : List D} {b : Bool} (i : Nat) (hi : G[i]? = some (.ow ds)) (he : GE X (G.set i (.fz (.list ds))) e (.bool b)) : GE X G e (.bool b) :=
  ⟨fun bs B σ H S Q q => by
    obtain ⟨B1, e1, S1⟩ := S.settle hi
    exact he.run bs B1 σ H S1 Q fun v B' H' g r => by
      have hv := dp_bl r
      subst hv
      exact q _ B H' ⟨Same.refl _, g.h, S.gr.bh.trans g.h, fun _ _ h => h⟩ (.bl _)⟩
/-! ### the bodies of the laws of sums -/
def cellK (ns : List Int) (k : Int) : Int := if k < (ns.length : Int) then ns.getD k.toNat 0 else 11 * k * k + 5 * k + 3
theorem cellK_bd {ns : List Int} {k : Int} (hb : ∀ z ∈ ns, Bd 1048576 z) (h0 : 0 ≤ k) (h1 : k ≤ 100) : Bd 1048576 (cellK ns k) := by
  unfold cellK
  split
  · exact hb _ (getD_mem (by omega))
  · have e : Bd 100 (11 * k * k + 5 * k + 3) := by
      have hk : Bd 7 k := by
        show k.natAbs < 2 ^ 7
        omega
      have h7 : Bd 4 11 := by decide
      have h10 : Bd 4 5 := by decide
      have h3 : Bd 4 3 := by decide
      exact ((((h7.mul hk).mul hk).add (h10.mul hk)).add h3).mono (by decide)
    exact e.mono (by decide)
def putK (s : P3) (far : Int) (p : P3) : P3 :=
  let v := shZ s.z (shY s.y (shX s.x p))
  ⟨v.x + far, v.y - 2 * far, v.z + far / 3⟩
theorem putK_ad (s : P3) (far : Int) (p : P3) : putK s far p = ad (shZ s.z (shY s.y (shX s.x p))) ⟨far, -(2 * far), far / 3⟩ := by
  apply P3.ext
  all_goals
    simp only [putK, ad]
    try omega
theorem aff_put (s : P3) (far : Int) : Aff (putK s far) := by
  have h := (((aff_shX s.x).comp (aff_shY s.y)).comp (aff_shZ s.z)).comp (aff_ad ⟨far, -(2 * far), far / 3⟩)
  have e : putK s far = fun u => ad (shZ s.z (shY s.y (shX s.x u))) ⟨far, -(2 * far), far / 3⟩ := by
    funext u
    exact putK_ad s far u
  rw [e]
  exact h
theorem putK_bd {s : P3} {far : Int} {p : P3} (hs : P3.Bd 22 s) (hf : Bd 70 far) (hp : P3.Bd 24 p) : P3.Bd 130 (putK s far p) := by
  have e1 := hp.x.add (hs.x.mul hp.y)
  have e2 := hp.y.add (hs.y.mul hp.z)
  have e3 := hp.z.add (hs.z.mul e1)
  exact ⟨(e1.add hf).mono (by decide), (e2.sub ((show Bd 2 2 by decide).mul hf)).mono (by decide), (e3.add (hf.div (by decide))).mono (by decide)⟩
def moreP (shape cell : Int) : P3 := if shape / 648 % 3 = 1 then ⟨cell * 48271 % 2000003 - 1000001, cell * 16811 % 2000003 - 1000001, cell * 69623 % 2000003 - 1000001⟩ else ⟨cell % 7 - 3, cell / 7 % 7 - 3, cell / 49 % 7 - 3⟩
def base4 (shape : Int) : List P3 := [⟨0, 0, 0⟩, ⟨1 + shape % 2, 0, 0⟩, ⟨0, 1, 0⟩, ⟨shape / 2 % 2, shape / 4 % 2, 1⟩]
def ptsK (ns : List Int) (start : Int) (more : Nat) : List P3 := base4 (cellK ns start) ++ (List.range more).map fun (k : Nat) => moreP (cellK ns start) (cellK ns (start + 1 + (k : Int)))
def slK (shape : Int) : P3 := if shape / 216 % 3 = 1 then ⟨shape * 48271 % 2000003 - 1000001, shape * 16811 % 2000003 - 1000001, shape / 216 % 7 - 3⟩ else ⟨shape / 8 % 3 - 1, shape / 24 % 3 - 1, shape / 72 % 3 - 1⟩
def farK (shape : Int) : Int := if shape / 216 % 3 = 1 then shape * (10 ^ (19 : Int).toNat + 51) % (2 * 10 ^ (20 : Int).toNat + 1) - 10 ^ (20 : Int).toNat else 0
def rawK (ns : List Int) (start : Int) (more : Nat) : List P3 := (ptsK ns start more).map (putK (slK (cellK ns start)) (farK (cellK ns start)))
noncomputable def bodyK (ns : List Int) (start : Int) (more : Nat) : List P3 := bodyA (rawK ns start more)
theorem moreP_bd (shape cell : Int) : P3.Bd 22 (moreP shape cell) := by
  unfold moreP
  split
  · exact ⟨mod_bd (by decide) (by decide) (by decide) (by decide), mod_bd (by decide) (by decide) (by decide) (by decide), mod_bd (by decide) (by decide) (by decide) (by decide)⟩
  · exact ⟨(mod_bd (n := 4) (by decide) (by decide) (by decide) (by decide)).mono (by decide), (mod_bd (n := 4) (by decide) (by decide) (by decide) (by decide)).mono (by decide), (mod_bd (n := 4) (by decide) (by decide) (by decide) (by decide)).mono (by decide)⟩
theorem base4_bd (shape : Int) : ∀ u ∈ base4 shape, P3.Bd 22 u := fun u hu => by
  have m2 : ∀ c : Int, Bd 22 (c % 2) := fun c => (Bd.mod (m := 2) (by decide) (by decide)).mono (by decide)
  have z : Bd 22 0 := by decide
  have o : Bd 22 1 := by decide
  simp only [base4, List.mem_cons, List.not_mem_nil, or_false] at hu
  rcases hu with rfl | rfl | rfl | rfl
  · exact ⟨z, z, z⟩
  · exact ⟨((show Bd 1 1 by decide).add (Bd.mod (i := shape) (j := 2) (m := 2) (by decide) (by decide))).mono (by decide), z, z⟩
  · exact ⟨z, o, z⟩
  · exact ⟨m2 _, m2 _, o⟩
theorem ptsK_bd (ns : List Int) (start : Int) (more : Nat) : ∀ u ∈ ptsK ns start more, P3.Bd 24 u := fun u hu => by
  unfold ptsK at hu
  rcases List.mem_append.mp hu with q | q
  · exact (base4_bd _ u q).mono (by decide)
  · obtain ⟨k, _, rfl⟩ := List.mem_map.mp q
    exact (moreP_bd _ _).mono (by decide)
theorem slK_bd (shape : Int) : P3.Bd 22 (slK shape) := by
  unfold slK
  split
  · exact ⟨mod_bd (by decide) (by decide) (by decide) (by decide), mod_bd (by decide) (by decide) (by decide) (by decide), (mod_bd (n := 4) (by decide) (by decide) (by decide) (by decide)).mono (by decide)⟩
  · exact ⟨(mod_bd (n := 4) (by decide) (by decide) (by decide) (by decide)).mono (by decide), (mod_bd (n := 4) (by decide) (by decide) (by decide) (by decide)).mono (by decide), (mod_bd (n := 4) (by decide) (by decide) (by decide) (by decide)).mono (by decide)⟩
theorem farK_bd (shape : Int) : Bd 70 (farK shape) := by
  unfold farK
  split
  · exact mod_bd (by decide +kernel) (by decide +kernel) (by decide +kernel) (by decide +kernel)
  · decide
theorem rawK_bd (ns : List Int) (start : Int) (more : Nat) : ∀ u ∈ rawK ns start more, P3.Bd 130 u := fun u hu => by
  unfold rawK at hu
  obtain ⟨v, hv, rfl⟩ := List.mem_map.mp hu
  exact putK_bd (slK_bd _) (farK_bd _) (ptsK_bd _ _ _ v hv)
theorem ptsK_dim (ns : List Int) (start : Int) (more : Nat) : Dim3 (ptsK ns start more) := by
  have m : ∀ u, u ∈ base4 (cellK ns start) → u ∈ ptsK ns start more := fun u hu => List.mem_append_left _ hu
  refine ⟨_, m ⟨0, 0, 0⟩ (by simp [base4]), _, m ⟨1 + cellK ns start % 2, 0, 0⟩ (by simp [base4]), _, m ⟨0, 1, 0⟩ (by simp [base4]), _, m ⟨cellK ns start / 2 % 2, cellK ns start / 4 % 2, 1⟩ (by simp [base4]), ?_⟩
  simp only [lift, prod, cross, way]
  have := Int.emod_nonneg (cellK ns start) (show (2 : Int) ≠ 0 by decide)
  generalize cellK ns start % 2 = a at *
  intro h
  have e : (0 - 0) * (0 - 0) - (0 - 0) * (1 - 0) = (0 : Int) := rfl
  grind
theorem rawK_dim (ns : List Int) (start : Int) (more : Nat) : Dim3 (rawK ns start more) := (aff_put _ _).dim (ptsK_dim ns start more)
theorem rawK_len (ns : List Int) (start : Int) (more : Nat) : (rawK ns start more).length = 4 + more := by
  unfold rawK ptsK base4
  rw [List.length_map, List.length_append, List.length_map, List.length_range]
  rfl
theorem bodyK_ok (ns : List Int) (start : Int) (more : Nat) : Dim3 (bodyK ns start more) ∧ (∀ u ∈ bodyK ns start more, P3.Bd 130 u) ∧ (bodyK ns start more).length ≤ 4 + more ∧ (∀ v ∈ bodyK ns start more, Ext (bodyK ns start more) v) ∧ (bodyK ns start more).Pairwise (fun a b => EnO.lt a b = true) ∧ bodyA (bodyK ns start more) = bodyK ns start more := by
  have hd := rawK_dim ns start more
  have hs := same_body hd
  refine ⟨hs.dim hd, fun u hu => rawK_bd ns start more u ((mem_body hd).mp hu).mem, ?_, fun v hv => hs.ext ((mem_body hd).mp hv), body_sorted _, hs.body hd⟩
  have := body_len hd
  rw [rawK_len] at this
  exact this
/-! ### the planes of a list of unlike points, as they are found -/
theorem gcd_p3g (n : P3) : ((Int.gcd ((Int.gcd n.x n.y : Nat) : Int) n.z : Nat) : Int) = p3g n := rfl
theorem fdiv_neg {a g : Int} (h : g ∣ a) : a.fdiv (-g) = -(a / g) := by
  obtain ⟨k, rfl⟩ := h
  by_cases hg : g = 0
  · subst hg
    simp
  · rw [Int.fdiv_eq_ediv_of_dvd (Int.neg_dvd.mpr (Int.dvd_mul_right g k)), Int.ediv_neg, Int.mul_ediv_cancel_left _ hg]
structure Pls (us : List P3) (rs : List Pl) : Prop where
  nd : rs.Nodup
  iff : ∀ p, p ∈ rs ↔ Face us p
theorem Pls.count {us : List P3} {rs : List Pl} (h : Pls us rs) (v : P3) : (onsP rs v).length = (onsP (facesL us) v).length :=
  len_eq_of (List.Pairwise.filter _ h.nd) (List.Pairwise.filter _ (facesL_nodup us)) fun p => by
    rw [mem_onsP, mem_onsP, h.iff, mem_faces]
theorem Pls.len {us : List P3} {rs : List Pl} (h : Pls us rs) : rs.length = (facesL us).length := len_eq_of h.nd (facesL_nodup us) fun p => by rw [h.iff, mem_faces]
/-- found so far: triples i > j > k -/
structure Srh (us : List P3) (rs : List Pl) (D : Nat → Nat → Nat → Prop) : Prop where
  nd : rs.Nodup
  face : ∀ p ∈ rs, Face us p
  all : ∀ a b c, D a b c → c < b → b < a → ∀ A B C, us[a]? = some A → us[b]? = some B → us[c]? = some C → ∀ p, Face us p → prod p.n A = p.d → prod p.n B = p.d → prod p.n C = p.d → cross (way A B) (way A C) ≠ P3.O → p ∈ rs
section
variable {us : List P3} {rs : List Pl} {D D' : Nat → Nat → Nat → Prop} {A B C : P3}
theorem Srh.weak (h : Srh us rs D) (k : ∀ a b c, c < b → b < a → a < us.length → D' a b c → D a b c) : Srh us rs D' :=
  ⟨h.nd, h.face, fun a b c hD h1 h2 A B C hA hB hC => h.all a b c (k a b c h1 h2 (List.getElem?_eq_some_iff.mp hA).1 hD) h1 h2 A B C hA hB hC⟩
theorem Srh.snoc (h : Srh us rs D) {q : Pl} (hq : Face us q) (hn : q ∉ rs) : Srh us (rs ++ [q]) D := by
  refine ⟨?_, fun p hp => ?_, fun a b c hD h1 h2 A B C hA hB hC p hF k1 k2 k3 k4 => List.mem_append_left _ (h.all a b c hD h1 h2 A B C hA hB hC p hF k1 k2 k3 k4)⟩
  · rw [List.nodup_append]
    exact ⟨h.nd, by simp, fun a ha b hb e => by
      rw [List.mem_singleton] at hb
      subst hb e
      exact hn ha⟩
  · rcases List.mem_append.mp hp with x | x
    · exact h.face p x
    · rw [List.mem_singleton.mp x]
      exact hq
theorem Srh.add (h : Srh us rs D) {i j k : Nat} (hA : us[i]? = some A) (hB : us[j]? = some B) (hC : us[k]? = some C)
    (h1 : Face us (planeOf (cross (way A B) (way A C)) A) → cross (way A B) (way A C) ≠ P3.O → planeOf (cross (way A B) (way A C)) A ∈ rs) (h2 : Face us (planeOf (negV (cross (way A B) (way A C))) A) → cross (way A B) (way A C) ≠ P3.O → planeOf (negV (cross (way A B) (way A C))) A ∈ rs) :
    Srh us rs (fun a b c => D a b c ∨ (a = i ∧ b = j ∧ c = k)) := by
  refine ⟨h.nd, h.face, fun a b c hD q1 q2 A' B' C' eA eB eC p hF k1 k2 k3 k4 => ?_⟩
  rcases hD with hD | ⟨rfl, rfl, rfl⟩
  · exact h.all a b c hD q1 q2 A' B' C' eA eB eC p hF k1 k2 k3 k4
  · rw [hA] at eA
    rw [hB] at eB
    rw [hC] at eC
    cases eA
    cases eB
    cases eC
    rcases hF.tri k1 k2 k3 k4 with e | e
    · rw [e] at hF ⊢
      exact h1 hF k4
    · rw [e] at hF ⊢
      exact h2 hF k4
theorem cross_rot {A B C : P3} : cross (way B A) (way B C) = negV (cross (way A B) (way A C)) := by
  apply P3.ext
  all_goals
    simp only [cross, way, negV]
    grind
theorem Srh.fin (h : Srh us rs D) (hD : ∀ a b c, c < b → b < a → a < us.length → D a b c) : Pls us rs := by
  refine ⟨h.nd, fun p => ⟨h.face p, fun hF => ?_⟩⟩
  obtain ⟨A, hA, B, hB, C, hC, hne⟩ := hF.sp
  obtain ⟨a1, a2⟩ := mem_ons.mp hA
  obtain ⟨b1, b2⟩ := mem_ons.mp hB
  obtain ⟨c1, c2⟩ := mem_ons.mp hC
  obtain ⟨a, ha⟩ := List.mem_iff_getElem?.mp a1
  obtain ⟨b, hb⟩ := List.mem_iff_getElem?.mp b1
  obtain ⟨c, hc⟩ := List.mem_iff_getElem?.mp c1
  obtain ⟨d1, d2, d3⟩ := n3_d hne
  have key : ∀ {x y z : Nat} {X Y Z : P3}, us[x]? = some X → us[y]? = some Y → us[z]? = some Z → prod p.n X = p.d → prod p.n Y = p.d → prod p.n Z = p.d → cross (way X Y) (way X Z) ≠ P3.O → z < y → y < x → p ∈ rs := fun {x y z X Y Z} hx hy hz e1 e2 e3 e4 h1 h2 =>
    h.all x y z (hD x y z h1 h2 (List.getElem?_eq_some_iff.mp hx).1) h1 h2 X Y Z hx hy hz p hF e1 e2 e3 e4
  have nab : a ≠ b := fun e => d1 (by subst e; rw [ha] at hb; exact Option.some.inj hb)
  have nac : a ≠ c := fun e => d2 (by subst e; rw [ha] at hc; exact Option.some.inj hc)
  have nbc : b ≠ c := fun e => d3 (by subst e; rw [hb] at hc; exact Option.some.inj hc)
  have e1 : cross (way A C) (way A B) ≠ P3.O := n3_ne hne
  have e2 : cross (way B A) (way B C) ≠ P3.O := by rw [cross_rot]; exact negV_ne hne
  have e3 : cross (way B C) (way B A) ≠ P3.O := n3_ne e2
  have e4 : cross (way C A) (way C B) ≠ P3.O := by rw [cross_rot (A := A) (B := C) (C := B)]; exact negV_ne e1
  have e5 : cross (way C B) (way C A) ≠ P3.O := n3_ne e4
  rcases Nat.lt_trichotomy a b with q1 | q1 | q1
  · rcases Nat.lt_trichotomy b c with q2 | q2 | q2
    · exact key hc hb ha c2 b2 a2 e5 q1 q2
    · exact (nbc q2).elim
    · rcases Nat.lt_trichotomy a c with q3 | q3 | q3
      · exact key hb hc ha b2 c2 a2 e3 q3 q2
      · exact (nac q3).elim
      · exact key hb ha hc b2 a2 c2 e2 q3 q1
  · exact (nab q1).elim
  · rcases Nat.lt_trichotomy b c with q2 | q2 | q2
    · rcases Nat.lt_trichotomy a c with q3 | q3 | q3
      · exact key hc ha hb c2 a2 b2 e4 q1 q3
      · exact (nac q3).elim
      · exact key ha hc hb a2 c2 b2 e1 q2 q3
    · exact (nbc q2).elim
    · exact key ha hb hc a2 b2 c2 hne q2 q1
theorem Srh.len (hd : Dim3 us) (h : Srh us rs D) : rs.length ≤ us.length * us.length := Nat.le_trans (List.Nodup.length_le_of_subset h.nd fun p hp => mem_faces.mpr (h.face p hp)) (rs_len hd (facesL_found hd))
/-- the plane by a hand: all points at or beneath it -/
theorem face_of_sup {P Q R : P3} (hP : P ∈ us) (hQ : Q ∈ us) (hR : R ∈ us) (hne : cross (way P Q) (way P R) ≠ P3.O) {n : P3} (hn : n = cross (way P Q) (way P R) ∨ n = negV (cross (way P Q) (way P R))) (hs : ∀ v ∈ us, prod (planeOf n P).n v ≤ (planeOf n P).d) : Face us (planeOf n P) := by
  have hn0 : n ≠ P3.O := by
    rcases hn with e | e
    · rw [e]
      exact hne
    · rw [e]
      exact negV_ne hne
  obtain ⟨o1, o2⟩ := planeA_on hne
  refine ⟨hs, divP_prim hn0, P, mem_ons.mpr ⟨hP, rfl⟩, Q, mem_ons.mpr ⟨hQ, ?_⟩, R, mem_ons.mpr ⟨hR, ?_⟩, hne⟩
  · rcases hn with e | e
    · rw [e]
      exact o1
    · rw [e, planeOf_neg]
      show prod (negV _) Q = -_
      rw [neg_prod]
      exact congrArg (fun z => -z) o1
  · rcases hn with e | e
    · rw [e]
      exact o2
    · rw [e, planeOf_neg]
      show prod (negV _) R = -_
      rw [neg_prod]
      exact congrArg (fun z => -z) o2
end
/-- dividing by a hand of the divisor -/
theorem hand_way {c A m : P3} {hand : Int} (h0 : hand ≠ 0) (hh : (hand = p3g c ∧ m = c) ∨ (hand = 0 - p3g c ∧ m = negV c)) : P3.en ⟨c.x.fdiv hand, c.y.fdiv hand, c.z.fdiv hand⟩ = P3.en (planeOf m A).n := by
  have d1 : (p3g c) ∣ c.x := Int.dvd_trans (Int.gcd_dvd_left ..) (Int.gcd_dvd_left ..)
  have d2 : (p3g c) ∣ c.y := Int.dvd_trans (Int.gcd_dvd_left ..) (Int.gcd_dvd_right ..)
  have d3 : (p3g c) ∣ c.z := Int.gcd_dvd_right ..
  refine congrArg P3.en ?_
  rcases hh with ⟨rfl, rfl⟩ | ⟨rfl, rfl⟩
  · apply P3.ext
    · exact Int.fdiv_eq_ediv_of_dvd d1
    · exact Int.fdiv_eq_ediv_of_dvd d2
    · exact Int.fdiv_eq_ediv_of_dvd d3
  · rw [planeOf_neg, Int.zero_sub]
    apply P3.ext
    · exact fdiv_neg d1
    · exact fdiv_neg d2
    · exact fdiv_neg d3
theorem p3g_zero {c : P3} (h : p3g c = 0) : c = P3.O := by
  refine Classical.byContradiction fun hne => ?_
  have := p3gz_pos hne
  omega
theorem hand_bd {c A m : P3} {n : Nat} (hb : P3.Bd n c) (hc : c ≠ P3.O) (hh : m = c ∨ m = negV c) : P3.Bd (n + 1) (planeOf m A).n := by
  have h := hb.divP (p3gz_pos hc)
  rcases hh with rfl | rfl
  · exact ⟨h.x.mono (by omega), h.y.mono (by omega), h.z.mono (by omega)⟩
  · rw [planeOf_neg]
    exact ⟨h.x.neg.mono (by omega), h.y.neg.mono (by omega), h.z.neg.mono (by omega)⟩
end DW

set_option autoImplicit false
namespace DW
open PySem L2
theorem slantH_bdn {s : Sl7} {u : P3} (hs : Sl7.Bd 80 s) (hu : P3.Bd 100 u) : P3.Bd 500 (slantH s u) := by
  have e1 := hu.x.add (hs.a.mul hu.y)
  have e2 := hu.y.add (hs.b.mul hu.z)
  have e3 := hu.z.add (hs.c.mul e1)
  unfold slantH
  dsimp only
  have f1 : ∀ {n x y}, DW.Bd n x → n ≤ 490 → DW.Bd 80 y → DW.Bd 500 (x + y) := fun h1 h2 h3 => (h1.add h3).mono (by omega)
  split
  · exact ⟨f1 e2 (by decide) hs.d, f1 e1 (by decide) hs.e, f1 e3 (by decide) hs.f⟩
  · exact ⟨f1 e1 (by decide) hs.d, f1 e2 (by decide) hs.e, f1 e3 (by decide) hs.f⟩
theorem pick24 (i : Int) (h0 : 0 ≤ i) (h1 : i < 7) : ∃ t : Int, atI ([-3, -2, -1, 2, 10 ^ (60 : Int).toNat, 5, 10 ^ (9 : Int).toNat].map PyData.int) i = some (.int t) ∧ t ≠ 0 ∧ Bd 210 t := by
  have hi : i = 0 ∨ i = 1 ∨ i = 2 ∨ i = 3 ∨ i = 4 ∨ i = 5 ∨ i = 6 := by omega
  rcases hi with rfl | rfl | rfl | rfl | rfl | rfl | rfl
  · exact ⟨_, rfl, by decide, by decide⟩
  · exact ⟨_, rfl, by decide, by decide⟩
  · exact ⟨_, rfl, by decide, by decide⟩
  · exact ⟨_, rfl, by decide, by decide⟩
  · exact ⟨_, rfl, by decide +kernel, by decide +kernel⟩
  · exact ⟨_, rfl, by decide, by decide⟩
  · exact ⟨_, rfl, by decide +kernel, by decide +kernel⟩
theorem same_sortP (us : List P3) : SameH us (sortP us) := .of_mem fun _ => mem_sortP.symm
theorem sortP_len (us : List P3) : (sortP us).length = us.length := by
  unfold sortP
  rw [List.length_mergeSort]
theorem edgeOf_inj {f : P3 → P3} (h : Aff f) {a b c d : P3} (h1 : EnO.lt a b = true) (h2 : EnO.lt c d = true) (e : edgeOf (f a) (f b) = edgeOf (f c) (f d)) : (a, b) = (c, d) := by
  rcases edgeOf_cases (f a) (f b) with x | x
  · rcases edgeOf_cases (f c) (f d) with y | y
    · rw [x, y] at e
      obtain ⟨e1, e2⟩ := Prod.mk.inj e
      rw [h.inj e1, h.inj e2]
    · rw [x, y] at e
      obtain ⟨e1, e2⟩ := Prod.mk.inj e
      rw [h.inj e1, h.inj e2] at h1
      exact (EnO.asy _ _ h1 h2).elim
  · rcases edgeOf_cases (f c) (f d) with y | y
    · rw [x, y] at e
      obtain ⟨e1, e2⟩ := Prod.mk.inj e
      rw [h.inj e1, h.inj e2] at h1
      exact (EnO.asy _ _ h1 h2).elim
    · rw [x, y] at e
      obtain ⟨e1, e2⟩ := Prod.mk.inj e
      rw [h.inj e1, h.inj e2]
theorem edges_map_nodup {f : P3 → P3} (h : Aff f) {us : List P3} (hd : Dim3 us) : ((edgesA us).map fun e => edgeOf (f e.1) (f e.2)).Nodup := by
  rw [List.nodup_iff_pairwise_ne, List.pairwise_map]
  refine List.Pairwise.imp_of_mem (R := fun a b => a ≠ b) ?_ (List.nodup_iff_pairwise_ne.mp (strict_nodup (srtE_lt _)))
  intro p q hp hq hne e
  obtain ⟨a, b⟩ := p
  obtain ⟨c, d⟩ := q
  exact hne (edgeOf_inj h ((edge_two hd).mp hp).2.2.1 ((edge_two hd).mp hq).2.2.1 e)
theorem near_bd {v a : Int} (hv : Bd 40 v) : Bd 50 (v + a % 5 - 2) :=
  ((hv.add (Bd.mod (i := a) (j := 5) (m := 3) (by decide) (by decide))).sub (show Bd 2 2 by decide)).mono (by decide)
end DW

set_option autoImplicit false
namespace DW
open PySem PySem.Spec PyProof.Rows L2
/-! ### sums of bodies -/
def sumP (us vs : List P3) : List P3 := us.flatMap fun u => vs.map fun v => ad u v
section
variable {us vs us' vs' : List P3} {p w : P3}
theorem mem_sumP : p ∈ sumP us vs ↔ ∃ u ∈ us, ∃ v ∈ vs, ad u v = p := mem_sums
theorem sumP_len (us vs : List P3) : (sumP us vs).length = us.length * vs.length := by
  induction us with
  | nil =>
    rw [List.length_nil, Nat.zero_mul]
    rfl
  | cons u us ih =>
    show (vs.map (fun v => ad u v) ++ sumP us vs).length = _
    rw [List.length_append, List.length_map, ih, List.length_cons, Nat.succ_mul, Nat.add_comm]
theorem sumP_dim (hd : Dim3 us) (hv : vs ≠ []) : Dim3 (sumP us vs) := by
  cases vs with
  | nil => exact (hv rfl).elim
  | cons v vs =>
    obtain ⟨A, hA, B, hB, C, hC, D, hD, h⟩ := (aff_ad v).dim hd
    have key : ∀ R, R ∈ us.map (fun u => ad u v) → R ∈ sumP us (v :: vs) := fun R hR => by
      obtain ⟨u, hu, e⟩ := List.mem_map.mp hR
      exact mem_sumP.mpr ⟨u, hu, v, List.mem_cons_self, e⟩
    exact ⟨A, key A hA, B, key B hB, C, key C hC, D, key D hD, h⟩
theorem sumP_bd {n : Nat} (h1 : ∀ u ∈ us, P3.Bd n u) (h2 : ∀ u ∈ vs, P3.Bd n u) : ∀ u ∈ sumP us vs, P3.Bd (n + 1) u := fun r hr => by
  obtain ⟨u, hu, v, hv, rfl⟩ := mem_sumP.mp hr
  have a := h1 u hu
  have b := h2 v hv
  exact ⟨(a.x.add b.x).mono (by omega), (a.y.add b.y).mono (by omega), (a.z.add b.z).mono (by omega)⟩
theorem ad_comm (u v : P3) : ad u v = ad v u := by
  apply P3.ext
  all_goals
    simp only [ad]
    omega
theorem same_comm : SameH (sumP us vs) (sumP vs us) := .of_mem fun p => by
  rw [mem_sumP, mem_sumP]
  constructor
  · rintro ⟨u, hu, v, hv, e⟩
    exact ⟨v, hv, u, hu, by rw [ad_comm]; exact e⟩
  · rintro ⟨u, hu, v, hv, e⟩
    exact ⟨v, hv, u, hu, by rw [ad_comm]; exact e⟩
theorem SameH.sum (h : SameH us us') (g : SameH vs vs') : SameH (sumP us vs) (sumP us' vs') := by
  have half : ∀ {us us' vs vs' : List P3}, SameH us us' → SameH vs vs' → ∀ (w : P3) (d : Int), (∀ R ∈ sumP us vs, prod w R ≤ d) → ∀ R ∈ sumP us' vs', prod w R ≤ d := fun {us us' vs vs'} h g w d k R hR => by
    obtain ⟨u', hu', v', hv', rfl⟩ := mem_sumP.mp hR
    have k1 : ∀ v ∈ vs, ∀ u ∈ us, prod w u ≤ d - prod w v := fun v hv u hu => by
      have := k _ (mem_sumP.mpr ⟨u, hu, v, hv, rfl⟩)
      rw [prod_ad] at this
      omega
    have k2 : ∀ v ∈ vs, prod w v ≤ d - prod w u' := fun v hv => by
      have := (h.le w _).mp (k1 v hv) u' hu'
      omega
    have k3 := (g.le w _).mp k2 v' hv'
    rw [prod_ad]
    omega
  exact ⟨fun w d => ⟨half h g w d, half h.symm g.symm w d⟩⟩
def pairsP (us vs : List P3) : List (P3 × P3) := us.flatMap fun u => vs.map fun v => (u, v)
theorem sumP_pairs (us vs : List P3) : sumP us vs = (pairsP us vs).map fun e => ad e.1 e.2 := by
  unfold sumP pairsP
  rw [List.map_flatMap]
  refine congrArg (fun f => us.flatMap f) ?_
  funext u
  rw [List.map_map]
  rfl
theorem mem_pairsP {e : P3 × P3} : e ∈ pairsP us vs ↔ e.1 ∈ us ∧ e.2 ∈ vs := by
  obtain ⟨a, b⟩ := e
  unfold pairsP
  rw [List.mem_flatMap]
  constructor
  · rintro ⟨u, hu, h⟩
    obtain ⟨v, hv, e⟩ := List.mem_map.mp h
    cases e
    exact ⟨hu, hv⟩
  · rintro ⟨h1, h2⟩
    exact ⟨a, h1, List.mem_map.mpr ⟨b, h2, rfl⟩⟩
theorem pairsP_nodup (h1 : us.Nodup) (h2 : vs.Nodup) : (pairsP us vs).Nodup := by
  unfold pairsP List.Nodup
  rw [List.pairwise_flatMap]
  refine ⟨fun u _ => ?_, List.Pairwise.imp (fun {a b} hab x hx y hy => ?_) h1⟩
  · rw [List.pairwise_map]
    exact List.Pairwise.imp (fun {a b} hab e => hab (congrArg Prod.snd e)) h2
  · obtain ⟨_, _, rfl⟩ := List.mem_map.mp hx
    obtain ⟨_, _, rfl⟩ := List.mem_map.mp hy
    exact fun e => hab (congrArg Prod.fst e)
theorem one_pair (h1 : us.Nodup) (h2 : vs.Nodup) (hx : Ext (sumP us vs) p) : ((sumP us vs).filter fun q => decide (q = p)).length = 1 := by
  obtain ⟨hm, z, hz⟩ := hx
  replace hz : ∀ R ∈ sumP us vs, R ≠ p → prod z p < prod z R := fun R hR hne => by
    have := hz R hR hne
    rw [prod_way] at this
    omega
  obtain ⟨u0, hu0, v0, hv0, e0⟩ := mem_sumP.mp hm
  have hle : ∀ R ∈ sumP us vs, prod z p ≤ prod z R := fun R hR => by
    by_cases e : R = p
    · rw [e]
      exact Int.le_refl _
    · exact Int.le_of_lt (hz R hR e)
  have cancel : ∀ {a b c : P3}, ad a b = ad a c → b = c := fun {a b c} h => by
    have e1 := congrArg P3.x h
    have e2 := congrArg P3.y h
    have e3 := congrArg P3.z h
    simp only [ad] at e1 e2 e3
    exact P3.ext (by omega) (by omega) (by omega)
  rw [sumP_pairs, List.filter_map, List.length_map]
  refine len_eq_of (ys := [(u0, v0)]) (List.Pairwise.filter _ (pairsP_nodup h1 h2)) (by simp) fun e => ?_
  rw [List.mem_filter, mem_pairsP, List.mem_singleton]
  constructor
  · rintro ⟨⟨a1, a2⟩, a3⟩
    obtain ⟨u, v⟩ := e
    have a3 : ad u v = p := of_decide_eq_true a3
    have m1 := hle _ (mem_sumP.mpr ⟨u, a1, v0, hv0, rfl⟩)
    have m2 := hle _ (mem_sumP.mpr ⟨u0, hu0, v, a2, rfl⟩)
    have q1 : prod z (ad u v) = prod z p := by rw [a3]
    have q2 : prod z (ad u0 v0) = prod z p := by rw [e0]
    rw [prod_ad] at m1 m2 q1 q2
    have r1 : ad u v0 = p := Classical.byContradiction fun hne => by
      have := hz _ (mem_sumP.mpr ⟨u, a1, v0, hv0, rfl⟩) hne
      rw [prod_ad] at this
      omega
    have s1 : v = v0 := cancel (a := u) (a3.trans r1.symm)
    have s2 : u = u0 := by
      refine cancel (a := v0) ?_
      rw [ad_comm v0 u, ad_comm v0 u0, r1, e0]
    rw [s1, s2]
  · rintro rfl
    exact ⟨⟨hu0, hv0⟩, decide_eq_true e0⟩
/-- the greatest and the least product -/
def supW (w : P3) (us : List P3) : Int := match us.map (prod w) with | [] => 0 | a :: t => maxE a t
def infW (w : P3) (us : List P3) : Int := match us.map (prod w) with | [] => 0 | a :: t => minE a t
theorem supW_ok (h : us ≠ []) (w : P3) : (∃ u ∈ us, prod w u = supW w us) ∧ ∀ u ∈ us, prod w u ≤ supW w us := by
  have mem : ∀ z, z ∈ us.map (prod w) ↔ ∃ u ∈ us, prod w u = z := fun z => List.mem_map
  have hne : us.map (prod w) ≠ [] := fun e => h (List.map_eq_nil_iff.mp e)
  unfold supW
  generalize us.map (prod w) = ws at mem hne
  cases ws with
  | nil => exact (hne rfl).elim
  | cons a t =>
    obtain ⟨m1, m2⟩ := maxE_ok t a
    obtain ⟨u, hu, e⟩ := (mem _).mp m1
    exact ⟨⟨u, hu, e⟩, fun u hu => m2 _ ((mem _).mpr ⟨u, hu, rfl⟩)⟩
theorem infW_ok (h : us ≠ []) (w : P3) : (∃ u ∈ us, prod w u = infW w us) ∧ ∀ u ∈ us, infW w us ≤ prod w u := by
  have mem : ∀ z, z ∈ us.map (prod w) ↔ ∃ u ∈ us, prod w u = z := fun z => List.mem_map
  have hne : us.map (prod w) ≠ [] := fun e => h (List.map_eq_nil_iff.mp e)
  unfold infW
  generalize us.map (prod w) = ws at mem hne
  cases ws with
  | nil => exact (hne rfl).elim
  | cons a t =>
    obtain ⟨m1, m2⟩ := minE_ok t a
    obtain ⟨u, hu, e⟩ := (mem _).mp m1
    exact ⟨⟨u, hu, e⟩, fun u hu => m2 _ ((mem _).mpr ⟨u, hu, rfl⟩)⟩
theorem supW_same (h : us ≠ []) (hs : SameH us vs) (w : P3) : supW w vs = supW w us := by
  obtain ⟨⟨u, hu, e1⟩, a1⟩ := supW_ok h w
  obtain ⟨⟨v, hv, e2⟩, a2⟩ := supW_ok (hs.ne h) w
  have b1 := (hs.le w _).mp a1 v hv
  have b2 := (hs.le w _).mpr a2 u hu
  omega
theorem infW_same (h : us ≠ []) (hs : SameH us vs) (w : P3) : infW w vs = infW w us := by
  obtain ⟨⟨u, hu, e1⟩, a1⟩ := infW_ok h w
  obtain ⟨⟨v, hv, e2⟩, a2⟩ := infW_ok (hs.ne h) w
  have b1 := hs.lo a1 v hv
  have b2 := hs.symm.lo a2 u hu
  omega
theorem sumP_ne (h1 : us ≠ []) (h2 : vs ≠ []) : sumP us vs ≠ [] := fun e => by
  have := sumP_len us vs
  rw [e, List.length_nil] at this
  have q1 := List.length_pos_iff.mpr h1
  have q2 := List.length_pos_iff.mpr h2
  have := Nat.mul_pos q1 q2
  omega
theorem supW_sum (h1 : us ≠ []) (h2 : vs ≠ []) (w : P3) : supW w (sumP us vs) = supW w us + supW w vs := by
  obtain ⟨⟨u, hu, e1⟩, a1⟩ := supW_ok h1 w
  obtain ⟨⟨v, hv, e2⟩, a2⟩ := supW_ok h2 w
  obtain ⟨⟨r, hr, e3⟩, a3⟩ := supW_ok (sumP_ne h1 h2) w
  obtain ⟨u', hu', v', hv', rfl⟩ := mem_sumP.mp hr
  have b1 := a1 u' hu'
  have b2 := a2 v' hv'
  have b3 := a3 _ (mem_sumP.mpr ⟨u, hu, v, hv, rfl⟩)
  rw [prod_ad] at e3 b3
  omega
theorem infW_sum (h1 : us ≠ []) (h2 : vs ≠ []) (w : P3) : infW w (sumP us vs) = infW w us + infW w vs := by
  obtain ⟨⟨u, hu, e1⟩, a1⟩ := infW_ok h1 w
  obtain ⟨⟨v, hv, e2⟩, a2⟩ := infW_ok h2 w
  obtain ⟨⟨r, hr, e3⟩, a3⟩ := infW_ok (sumP_ne h1 h2) w
  obtain ⟨u', hu', v', hv', rfl⟩ := mem_sumP.mp hr
  have b1 := a1 u' hu'
  have b2 := a2 v' hv'
  have b3 := a3 _ (mem_sumP.mpr ⟨u, hu, v, hv, rfl⟩)
  rw [prod_ad] at e3 b3
  omega
theorem prod_negV (w u : P3) : prod w (negV u) = -prod w u := by
  simp only [prod, negV]
  grind
theorem map_ne {f : P3 → P3} (h : us ≠ []) : us.map f ≠ [] := fun e => h (List.map_eq_nil_iff.mp e)
theorem supW_neg (h : us ≠ []) (w : P3) : supW w (us.map negV) = -infW w us := by
  obtain ⟨⟨u, hu, e1⟩, a1⟩ := infW_ok h w
  obtain ⟨⟨v, hv, e2⟩, a2⟩ := supW_ok (map_ne (f := negV) h) w
  obtain ⟨u', hu', rfl⟩ := List.mem_map.mp hv
  have b1 := a1 u' hu'
  have b2 := a2 _ (List.mem_map_of_mem hu)
  rw [prod_negV] at e2 b2
  omega
theorem infW_neg (h : us ≠ []) (w : P3) : infW w (us.map negV) = -supW w us := by
  obtain ⟨⟨u, hu, e1⟩, a1⟩ := supW_ok h w
  obtain ⟨⟨v, hv, e2⟩, a2⟩ := infW_ok (map_ne (f := negV) h) w
  obtain ⟨u', hu', rfl⟩ := List.mem_map.mp hv
  have b1 := a1 u' hu'
  have b2 := a2 _ (List.mem_map_of_mem hu)
  rw [prod_negV] at e2 b2
  omega
theorem supW_sm {k : Int} (hk : 0 < k) (h : us ≠ []) (w : P3) : supW w (us.map (sm k)) = k * supW w us := by
  obtain ⟨⟨u, hu, e1⟩, a1⟩ := supW_ok h w
  obtain ⟨⟨v, hv, e2⟩, a2⟩ := supW_ok (map_ne (f := sm k) h) w
  obtain ⟨u', hu', rfl⟩ := List.mem_map.mp hv
  have b1 := Int.mul_le_mul_of_nonneg_left (a1 u' hu') (Int.le_of_lt hk)
  have b2 := a2 _ (List.mem_map_of_mem hu)
  rw [prod_sm] at e2 b2
  rw [← e1] at b1 ⊢
  omega
theorem infW_sm {k : Int} (hk : 0 < k) (h : us ≠ []) (w : P3) : infW w (us.map (sm k)) = k * infW w us := by
  obtain ⟨⟨u, hu, e1⟩, a1⟩ := infW_ok h w
  obtain ⟨⟨v, hv, e2⟩, a2⟩ := infW_ok (map_ne (f := sm k) h) w
  obtain ⟨u', hu', rfl⟩ := List.mem_map.mp hv
  have b1 := Int.mul_le_mul_of_nonneg_left (a1 u' hu') (Int.le_of_lt hk)
  have b2 := a2 _ (List.mem_map_of_mem hu)
  rw [prod_sm] at e2 b2
  rw [← e1] at b1 ⊢
  omega
end
/-! ### the slanted box -/
def slB (shape : Int) : P3 := if shape / 27 % 3 = 1 then ⟨shape * 48271 % 2000003 - 1000001, shape * 16811 % 2000003 - 1000001, shape / 27 % 7 - 3⟩ else ⟨shape % 3 - 1, shape / 3 % 3 - 1, shape / 9 % 3 - 1⟩
def farB (shape : Int) : Int := if shape / 27 % 3 = 1 then shape * (10 ^ (19 : Int).toNat + 51) % (2 * 10 ^ (20 : Int).toNat + 1) - 10 ^ (20 : Int).toNat else 0
def wideB (c : Int) : P3 := ⟨1 + c % 3, 1 + c / 3 % 3, 1 + c / 9 % 3⟩
def boxP (w : P3) (k : Int) : P3 := ⟨k % 2 * w.x, k / 2 % 2 * w.y, k / 4 * w.z⟩
def ptsB (c : Int) : List P3 := (rngL 0 8).map (boxP (wideB c))
def rawB (ns : List Int) (start : Int) : List P3 := (ptsB (cellK ns (start + 1))).map (putK (slB (cellK ns start)) (farB (cellK ns start)))
def boxK (ns : List Int) (start : Int) : List P3 := sortP (rawB ns start)
theorem slB_bd (shape : Int) : P3.Bd 22 (slB shape) := by
  unfold slB
  split
  · exact ⟨mod_bd (by decide) (by decide) (by decide) (by decide), mod_bd (by decide) (by decide) (by decide) (by decide), (mod_bd (n := 4) (by decide) (by decide) (by decide) (by decide)).mono (by decide)⟩
  · exact ⟨(mod_bd (n := 4) (by decide) (by decide) (by decide) (by decide)).mono (by decide), (mod_bd (n := 4) (by decide) (by decide) (by decide) (by decide)).mono (by decide), (mod_bd (n := 4) (by decide) (by decide) (by decide) (by decide)).mono (by decide)⟩
theorem farB_bd (shape : Int) : Bd 70 (farB shape) := by
  unfold farB
  split
  · exact mod_bd (by decide +kernel) (by decide +kernel) (by decide +kernel) (by decide +kernel)
  · decide
theorem wideB_in (c : Int) : (1 ≤ (wideB c).x ∧ (wideB c).x ≤ 3) ∧ (1 ≤ (wideB c).y ∧ (wideB c).y ≤ 3) ∧ (1 ≤ (wideB c).z ∧ (wideB c).z ≤ 3) := by
  unfold wideB
  refine ⟨⟨?_, ?_⟩, ⟨?_, ?_⟩, ⟨?_, ?_⟩⟩
  all_goals
    dsimp only
    omega
theorem ptsB_eq (c : Int) : ptsB c = [⟨0, 0, 0⟩, ⟨(wideB c).x, 0, 0⟩, ⟨0, (wideB c).y, 0⟩, ⟨(wideB c).x, (wideB c).y, 0⟩, ⟨0, 0, (wideB c).z⟩, ⟨(wideB c).x, 0, (wideB c).z⟩, ⟨0, (wideB c).y, (wideB c).z⟩, ⟨(wideB c).x, (wideB c).y, (wideB c).z⟩] := by
  unfold ptsB
  generalize wideB c = w
  obtain ⟨x, y, z⟩ := w
  have e : rngL 0 8 = [0, 1, 2, 3, 4, 5, 6, 7] := by decide
  rw [e]
  simp [boxP]
theorem ptsB_bd (c : Int) : ∀ u ∈ ptsB c, P3.Bd 24 u := fun u hu => by
  rw [ptsB_eq] at hu
  obtain ⟨⟨a1, a2⟩, ⟨b1, b2⟩, ⟨c1, c2⟩⟩ := wideB_in c
  have x : Bd 24 (wideB c).x := by
    show (wideB c).x.natAbs < 2 ^ 24
    omega
  have y : Bd 24 (wideB c).y := by
    show (wideB c).y.natAbs < 2 ^ 24
    omega
  have z : Bd 24 (wideB c).z := by
    show (wideB c).z.natAbs < 2 ^ 24
    omega
  have o : Bd 24 0 := by decide
  simp only [List.mem_cons, List.not_mem_nil, or_false] at hu
  rcases hu with rfl | rfl | rfl | rfl | rfl | rfl | rfl | rfl <;> exact ⟨by assumption, by assumption, by assumption⟩
theorem ptsB_dim (c : Int) : Dim3 (ptsB c) := by
  rw [ptsB_eq]
  obtain ⟨⟨a1, a2⟩, ⟨b1, b2⟩, ⟨c1, c2⟩⟩ := wideB_in c
  refine ⟨⟨0, 0, 0⟩, by simp, ⟨(wideB c).x, 0, 0⟩, by simp, ⟨0, (wideB c).y, 0⟩, by simp, ⟨0, 0, (wideB c).z⟩, by simp, ?_⟩
  generalize (wideB c).x = x at *
  generalize (wideB c).y = y at *
  generalize (wideB c).z = z at *
  have e : lift ⟨0, 0, 0⟩ ⟨x, 0, 0⟩ ⟨0, y, 0⟩ ⟨0, 0, z⟩ = x * y * z := by
    simp [lift, prod, cross, way]
  rw [e]
  have := Int.mul_pos (Int.mul_pos (show 0 < x by omega) (show 0 < y by omega)) (show 0 < z by omega)
  omega
theorem ptsB_nodup (c : Int) : (ptsB c).Nodup := by
  rw [ptsB_eq]
  obtain ⟨⟨a1, a2⟩, ⟨b1, b2⟩, ⟨c1, c2⟩⟩ := wideB_in c
  generalize (wideB c).x = x at *
  generalize (wideB c).y = y at *
  generalize (wideB c).z = z at *
  have hx : x ≠ 0 := by omega
  have hy : y ≠ 0 := by omega
  have hz : z ≠ 0 := by omega
  simp [List.nodup_cons, P3.mk.injEq, hx, hy, hz, hx.symm, hy.symm, hz.symm]
theorem putK_inj {s : P3} {far : Int} {a b : P3} (h : putK s far a = putK s far b) : a = b := by
  have e1 := congrArg P3.x h
  have e2 := congrArg P3.y h
  have e3 := congrArg P3.z h
  simp only [putK, shX, shY, shZ] at e1 e2 e3
  have x1 : a.x + s.x * a.y = b.x + s.x * b.y := by omega
  rw [x1] at e3
  have z1 : a.z = b.z := by omega
  rw [z1] at e2
  have y1 : a.y = b.y := by omega
  rw [y1] at x1
  exact P3.ext (by omega) y1 z1
theorem boxK_ok (ns : List Int) (start : Int) : Dim3 (boxK ns start) ∧ (∀ u ∈ boxK ns start, P3.Bd 130 u) ∧ (boxK ns start).length = 8 ∧ (boxK ns start).Nodup := by
  have hd : Dim3 (rawB ns start) := (aff_put _ _).dim (ptsB_dim _)
  have hl : (rawB ns start).length = 8 := by
    unfold rawB
    rw [List.length_map, ptsB_eq]
    rfl
  refine ⟨(same_sortP _).dim hd, fun u hu => ?_, ?_, ?_⟩
  · have hu := mem_sortP.mp hu
    unfold rawB at hu
    obtain ⟨v, hv, rfl⟩ := List.mem_map.mp hu
    exact putK_bd (slB_bd _) (farB_bd _) (ptsB_bd _ v hv)
  · unfold boxK
    rw [sortP_len, hl]
  · unfold boxK
    refine (List.mergeSort_perm _ _).nodup_iff.mpr ?_
    unfold rawB List.Nodup
    rw [List.pairwise_map]
    exact List.Pairwise.imp (fun {a b} hab e => hab (putK_inj e)) (ptsB_nodup _)
theorem sortP_id {us : List P3} (h : us.Pairwise fun a b => EnO.lt a b = true) : sortP us = us := by
  have e : sortP us = sortE us := by
    unfold sortP sortE
    rw [show (P3.en : P3 → D) = En.en from rfl, leE_data]
  rw [e]
  exact strictO (sortE_lt (strict_nodup h)) h fun a => sortE_mem
theorem one_pair' {us vs : List P3} {p : P3} (h1 : us.Nodup) (h2 : vs.Nodup) (hd : Dim3 us) (hv : vs ≠ []) (hx : p ∈ bodyA (sumP us vs)) : ((sumP us vs).filter fun q => decide (q = p)).length = 1 := one_pair h1 h2 ((mem_body (sumP_dim hd hv)).mp hx)
/-- the greatest of all products with a face's plane is the plane's height -/
theorem face_max {us : List P3} {p : Pl} (hf : Face us p) : supW p.n us = p.d := by
  obtain ⟨A, hA, _⟩ := hf.sp
  obtain ⟨a1, a2⟩ := mem_ons.mp hA
  obtain ⟨⟨u, hu, e⟩, h2⟩ := supW_ok (List.ne_nil_of_mem a1) p.n
  have h3 := hf.sup u hu
  have h4 := h2 A a1
  omega
end DW

set_option autoImplicit false
namespace DW
open PySem PySem.Spec PyProof.Rows L2
def numB3 (c : Int) : Int := if c % 3 = 1 then c * (10 ^ (19 : Int).toNat + 51) % (2 * 10 ^ (20 : Int).toNat + 1) - 10 ^ (20 : Int).toNat else c / 3 % 11 - 5
theorem numB3_bd (c : Int) : Bd 80 (numB3 c) := by
  unfold numB3
  split
  · exact mod_bd (by decide +kernel) (by decide +kernel) (by decide +kernel) (by decide +kernel)
  · exact (mod_bd (n := 5) (by decide) (by decide) (by decide) (by decide)).mono (by decide)
theorem rgC_6 : ∀ m : Nat, m < 64 → RgC 6 (m : Int) 3 ((m - 6 + 2) / 3) := by
  unfold RgC
  decide +kernel
theorem ne_of_dim {us : List P3} (h : Dim3 us) : us ≠ [] := by
  obtain ⟨A, hA, _⟩ := h
  exact List.ne_nil_of_mem hA
theorem body_ok {us : List P3} {n m : Nat} (hd : Dim3 us) (hb : ∀ u ∈ us, P3.Bd n u) (hl : us.length ≤ m) : Dim3 (bodyA us) ∧ (∀ u ∈ bodyA us, P3.Bd n u) ∧ (bodyA us).length ≤ m ∧ (∀ w, supW w (bodyA us) = supW w us) ∧ (∀ w, infW w (bodyA us) = infW w us) := by
  have hs := same_body hd
  have hn := ne_of_dim hd
  exact ⟨hs.dim hd, fun u hu => hb u ((mem_body hd).mp hu).mem, Nat.le_trans (body_len hd) hl, fun w => supW_same hn hs w, fun w => infW_same hn hs w⟩
theorem supW_bd {us : List P3} {w : P3} {n m : Nat} (hn : us ≠ []) (hw : P3.Bd n w) (hb : ∀ u ∈ us, P3.Bd m u) : Bd (n + m + 2) (supW w us) := by
  obtain ⟨⟨u, hu, e⟩, _⟩ := supW_ok hn w
  rw [← e]
  exact (((hw.x.mul (hb u hu).x).add (hw.y.mul (hb u hu).y)).add (hw.z.mul (hb u hu).z)).mono (by omega)
theorem infW_bd {us : List P3} {w : P3} {n m : Nat} (hn : us ≠ []) (hw : P3.Bd n w) (hb : ∀ u ∈ us, P3.Bd m u) : Bd (n + m + 2) (infW w us) := by
  obtain ⟨⟨u, hu, e⟩, _⟩ := infW_ok hn w
  rw [← e]
  exact (((hw.x.mul (hb u hu).x).add (hw.y.mul (hb u hu).y)).add (hw.z.mul (hb u hu).z)).mono (by omega)
end DW

set_option autoImplicit false
namespace DW
open PySem PySem.Spec PyProof.Rows L2
section
variable {X : Cx} {G : Gm} {c e : Expr} {t : Bool} {d : D} {A1 A2 sts : List Stmt} {pos p1 : Pos} {E : DE} {W : Wd} {N : List Str} {sc : Scope} {x : Str}
theorem gss_join2 (P : Gm → Prop) (hc : GT X G c t) (h1 : t = true → GSs X G A1 ⟨P, E.rt, E.bk, E.ct⟩) (h2 : t = false → GSs X G A2 ⟨P, E.rt, E.bk, E.ct⟩) (h3 : ∀ G', P G' → GSs X G' sts E) : GSs X G (.If c A1 A2 pos :: sts) E :=
  gs_cons (GS.mono (gs_if (E := ⟨P, E.rt, E.bk, E.ct⟩) hc h1 h2) h3)
theorem gss_asgN (C : Cnm X W N sc) (i : Nat) (h : okL N sc i x = true) (he : GE X G e d) (hs : swapsWith e (some (.Name x p1)) pos.line X.env = pure false) (hn : GSs X (G.set i (.fz d)) sts E) : GSs X G (.Assign [.Name x p1] e pos :: sts) E := by
  obtain ⟨h1, h2⟩ := okL_of h
  obtain ⟨l1, l2⟩ := C.loc x h2
  exact gs_cons ⟨fun bs B σ H S De m => inS (ps_set (by rw [C.N]; exact C.nd) (by rw [C.N]; exact h1) l1 pE hs l2) (he.run bs B σ H S _ fun v B1 H1 g r => m.nx _ B1 _ H1 hn ((S.gro g).setF r))⟩
end
def timesF (c : Int) : Int :=
  let x := if c % 3 = 1 then c / 3 * (10 ^ (59 : Int).toNat + 51) % (2 * 10 ^ (60 : Int).toNat + 1) - 10 ^ (60 : Int).toNat else c / 3 % 41 - 20
  if x = 0 then -1 else x
theorem timesF_ok (c : Int) : timesF c ≠ 0 ∧ Bd 210 (timesF c) := by
  unfold timesF
  dsimp only
  have hb : Bd 210 (if c % 3 = 1 then c / 3 * (10 ^ (59 : Int).toNat + 51) % (2 * 10 ^ (60 : Int).toNat + 1) - 10 ^ (60 : Int).toNat else c / 3 % 41 - 20) := by
    split
    · exact mod_bd (by decide +kernel) (by decide +kernel) (by decide +kernel) (by decide +kernel)
    · exact (mod_bd (n := 6) (by decide) (by decide) (by decide) (by decide)).mono (by decide)
  generalize (if c % 3 = 1 then c / 3 * (10 ^ (59 : Int).toNat + 51) % (2 * 10 ^ (60 : Int).toNat + 1) - 10 ^ (60 : Int).toNat else c / 3 % 41 - 20) = x at hb
  split
  · exact ⟨by decide, by decide⟩
  · rename_i h
    exact ⟨h, hb⟩
section
variable {us : List P3}
theorem sortP_E4 (us : List P3) : sortP us = sortE us := by
  unfold sortP sortE
  rw [show (P3.en : P3 → D) = En.en from rfl, leE_data]
/-- a body's fold: its corners so many times, in order -/
theorem fold_body {t : Int} (ht : t ≠ 0) (hd : Dim3 us) (hb : bodyA us = us) : bodyA (us.map (sm t)) = sortP (us.map (sm t)) := by
  rw [(aff_sm ht).body hd, hb, sortP_E4]
theorem fold_fold {s t : Int} (hs : s ≠ 0) (ht : t ≠ 0) (hd : Dim3 us) (hb : bodyA us = us) : bodyA ((sortP (us.map (sm s))).map (sm t)) = sortP (us.map (sm (s * t))) := by
  have hst : s * t ≠ 0 := Int.mul_ne_zero hs ht
  rw [← fold_body hst hd hb]
  refine SameH.body (.of_mem fun p => ?_) ((aff_sm hst).dim hd)
  have e : ∀ u : P3, sm t (sm s u) = sm (s * t) u := fun u => by
    apply P3.ext
    all_goals
      simp only [sm]
      rw [Int.mul_comm s t, Int.mul_assoc]
  rw [List.mem_map, List.mem_map]
  constructor
  · rintro ⟨u, hu, rfl⟩
    exact ⟨sm s u, mem_sortP.mpr (List.mem_map_of_mem hu), e u⟩
  · rintro ⟨v, hv, rfl⟩
    obtain ⟨u, hu, rfl⟩ := List.mem_map.mp (mem_sortP.mp hv)
    exact ⟨u, hu, (e u).symm⟩
end
end DW

set_option autoImplicit false
namespace DW
open PySem PySem.Spec PyProof.Rows L2
/-! ### tests and walks that let an error out -/
structure GTx (X : Cx) (G : Gm) (e : Expr) (x : Str) : Prop where
  run : ∀ (bs : Bs) (B : Hp) (σ : L2.St) (H : Hp), Sat X.K bs G B σ H → ∀ Wx : WX, Takes X Wx → (∀ C B' H', X.mg x = some (.ref C) → Grow B H B' H' → Wx (.ref C) none σ H') → ∀ Q : Bool → Hp → Prop, tT X e σ H Q
section
variable {X : Cx} {G : Gm} {a b c iter tg : Expr} {A1 A2 body sts : List Stmt} {pos : Pos} {E : DE} {x : Str} {W : Wd} {N : List Str} {sc : Scope} {k : Nat}
theorem gtx_lt (ha : GEx X G a x) (hm : behindInMarks .Lt b = false) : GTx X G (.Compare a [.Lt] [b] pos) x :=
  ⟨fun bs B σ H S Wx tk q Q => inT (pt_cmpR op_lt pE pE hm) (ha.run bs B σ H S Wx tk q _)⟩
theorem gss_ifX (hc : GTx X G c x) (h : E.rt (.ex x G)) : GSs X G (.If c A1 A2 pos :: sts) E := by
  refine gs_cons ⟨fun bs B σ H S De mm => ?_⟩
  obtain ⟨Wx, tk, q⟩ := mm.xm.xe
  exact inS (ps_if pT pB pB) (hc.run bs B σ H S Wx tk (fun C B' H' hm g => q x C G B' σ H' h hm (S.gro g)) _)
theorem gss_forX (C : Cok X W N sc k) (he : GEx X G iter x) (h : E.rt (.ex x G)) (hf : ∀ x, foldedSetIterable iter X.env x = pure x) : GSs X G (.For tg iter body [] pos :: sts) E := by
  refine gs_cons ⟨fun bs B σ H S De mm => ?_⟩
  obtain ⟨Wx, tk, q⟩ := mm.xm.xe
  exact inS (ps_for C.pown C.calm (pi_list pE) pG pB hf) (he.run bs B σ H S Wx tk (fun C B' H' hm g => q x C G B' σ H' h hm (S.gro g)) _)
end
end DW

set_option autoImplicit false
namespace DW
open PySem PySem.Spec PyProof.Rows L2
/-! ### several names at once, of which one is a cell -/
section
variable {x y z : Str} {a b c : Expr} {p1 p2 p4 pt pt2 : Pos} {kt k2 : Nat} {env : Env} {W : Wd} {N : List Str} {sc : Scope} {X : Cx}
theorem swst_cel (h : (env.kindOf x == some .local) = false) : swappedStores [.Tuple [.Name x p1, .Name y p2, .Name z p4] kt pt] (.Tuple [a, b, c] k2 pt2) env = pure none := by
  have hl : ∀ l : Nat, (([Expr.Name x p1, .Name y p2, .Name z p4] : List Expr).filterMap fun t => match t with
      | .Name id pos => if env.kindOf id == some .local && pos.line == l then some id else none
      | _ => none).length ≠ 3 := fun l => by
    have e : (env.kindOf x == some .local && p1.line == l) = false := by
      rw [h]
      rfl
    rw [List.filterMap_cons_none (by show (if (env.kindOf x == some .local && p1.line == l) = true then some x else none) = none; rw [e]; rfl)]
    have := List.length_filterMap_le (fun t => match t with
      | .Name id pos => if env.kindOf id == some .local && pos.line == l then some id else none
      | _ => none) ([.Name y p2, .Name z p4] : List Expr)
    rw [show ([.Name y p2, .Name z p4] : List Expr).length = 2 from rfl] at this
    omega
  unfold swappedStores
  dsimp only
  split
  · rfl
  split
  · rfl
  have := hl p1.line
  rw [if_pos]
  simp only [Bool.or_eq_true, bne_iff_ne, ne_eq]
  exact .inl (hl _)
theorem kind_cel (C : Cnm X W N sc) (hc : celB sc x = true) : (X.env.kindOf x == some .local) = false := by
  have := C.fr x (.inl (celB_of hc))
  unfold Env.kindOf
  rcases this with e | e
  · rw [e]
    rfl
  · rw [e]
    rfl
end
/-! ### the bodies of the laws of papers and rooms -/
def cellZ (ns : List Int) (k : Int) : Int := if k < (ns.length : Int) then ns.getD k.toNat 0 else 0
theorem cellZ_bd {ns : List Int} {k : Int} (hb : ∀ z ∈ ns, Bd 1048576 z) (h0 : 0 ≤ k) : Bd 1048576 (cellZ ns k) := by
  unfold cellZ
  split
  · exact hb _ (getD_mem (by omega))
  · exact (show Bd 1 0 by decide).mono (by decide)
def greatN (c : Int) : P3 := ⟨(c * 1000003 + 10 ^ (12 : Int).toNat) % (2 * 10 ^ (12 : Int).toNat + 1) - 10 ^ (12 : Int).toNat, (c * c * 7919 + 10 ^ (12 : Int).toNat) % (2 * 10 ^ (12 : Int).toNat + 1) - 10 ^ (12 : Int).toNat, (c * c * c + 10 ^ (12 : Int).toNat) % (2 * 10 ^ (12 : Int).toNat + 1) - 10 ^ (12 : Int).toNat⟩
theorem greatN_bd (c : Int) : P3.Bd 45 (greatN c) := ⟨mod_bd (by decide +kernel) (by decide +kernel) (by decide +kernel) (by decide +kernel), mod_bd (by decide +kernel) (by decide +kernel) (by decide +kernel) (by decide +kernel), mod_bd (by decide +kernel) (by decide +kernel) (by decide +kernel) (by decide +kernel)⟩
def abcN (c : Int) : P3 := if c / 7 % 2 = 1 then ⟨(1 + c / 14 % 3) * 10 ^ (6 : Int).toNat + 1, (1 + c / 42 % 3) * 10 ^ (7 : Int).toNat + 3, (1 + c / 126 % 3) * 10 ^ (8 : Int).toNat + 9⟩ else ⟨1 + c / 14 % 3, 1 + c / 42 % 3, 1 + c / 126 % 3⟩
theorem abcN_in (c : Int) : (1 ≤ (abcN c).x ∧ (abcN c).x ≤ 3000001) ∧ (1 ≤ (abcN c).y ∧ (abcN c).y ≤ 30000003) ∧ (1 ≤ (abcN c).z ∧ (abcN c).z ≤ 300000009) := by
  have e6 : ((10 : Int) ^ (6 : Int).toNat) = 1000000 := by decide
  have e7 : ((10 : Int) ^ (7 : Int).toNat) = 10000000 := by decide
  have e8 : ((10 : Int) ^ (8 : Int).toNat) = 100000000 := by decide
  unfold abcN
  rw [e6, e7, e8]
  split
  all_goals
    dsimp only
    omega
def boxN (w : P3) (k : Int) : P3 := ⟨k % 2 * w.x, k / 2 % 2 * w.y, k / 4 * w.z⟩
def bowlN (k : Int) : P3 := ⟨k, k * k, 0⟩
def someN (kind cell : Int) : P3 := if kind = 5 ∨ (kind = 6 ∧ cell % 2 = 1) then greatN (cell / 2) else ⟨cell % 7 - 3, cell / 7 % 7 - 3, cell / 49 % 7 - 3⟩
def fewN (ns : List Int) : List Int := (ns.drop 4).take 5
def twoN (w : P3) : List (Int × Int) := [(0, 0), (w.x, 0), (0, w.y)]
def nearN (ns : List Int) : List P3 :=
  let c := cellZ ns 0
  let w := abcN c
  if c % 7 = 0 then (rngL 0 8).map (boxN w)
  else if c % 7 = 1 then [⟨w.x, 0, 0⟩, ⟨0 - w.y, 0, 0⟩, ⟨0, w.y, 0⟩, ⟨0, 0 - w.z, 0⟩, ⟨0, 0, w.z⟩, ⟨0, 0, 0 - w.x⟩]
  else if c % 7 = 2 then ((twoN w).map fun s => (⟨s.1, s.2, 0⟩ : P3)) ++ (twoN w).map fun s => ⟨s.1 + w.z, s.2, w.x + w.y⟩
  else if c % 7 = 3 then (rngL 0 (3 + (c / 378 % 8).toNat)).map bowlN ++ [w]
  else [⟨0, 0, 0⟩, ⟨w.x, 0, 0⟩, ⟨0, w.y, 0⟩, ⟨0, 0, w.z⟩] ++ (fewN ns).map (someN (c % 7))
theorem someN_bd (kind cell : Int) : P3.Bd 45 (someN kind cell) := by
  unfold someN
  split
  · exact greatN_bd _
  · exact ⟨(mod_bd (n := 4) (by decide) (by decide) (by decide) (by decide)).mono (by decide), (mod_bd (n := 4) (by decide) (by decide) (by decide) (by decide)).mono (by decide), (mod_bd (n := 4) (by decide) (by decide) (by decide) (by decide)).mono (by decide)⟩
theorem boxN_eq (w : P3) : (rngL 0 8).map (boxN w) = [⟨0, 0, 0⟩, ⟨w.x, 0, 0⟩, ⟨0, w.y, 0⟩, ⟨w.x, w.y, 0⟩, ⟨0, 0, w.z⟩, ⟨w.x, 0, w.z⟩, ⟨0, w.y, w.z⟩, ⟨w.x, w.y, w.z⟩] := by
  have e : rngL 0 8 = [0, 1, 2, 3, 4, 5, 6, 7] := by decide
  rw [e]
  simp [boxN]
theorem nearN_bd (ns : List Int) : ∀ u ∈ nearN ns, P3.Bd 45 u := fun u hu => by
  obtain ⟨⟨a1, a2⟩, ⟨b1, b2⟩, ⟨c1, c2⟩⟩ := abcN_in (cellZ ns 0)
  unfold nearN at hu
  dsimp only at hu
  generalize abcN (cellZ ns 0) = w at *
  generalize cellZ ns 0 = c at hu
  obtain ⟨x, y, z⟩ := w
  dsimp only at *
  have sm' : ∀ i : Int, -1000000000 ≤ i → i ≤ 1000000000 → Bd 45 i := fun i h1 h2 => by
    show i.natAbs < 2 ^ 45
    omega
  have tr : ∀ a b c : Int, (-1000000000 ≤ a ∧ a ≤ 1000000000) → (-1000000000 ≤ b ∧ b ≤ 1000000000) → (-1000000000 ≤ c ∧ c ≤ 1000000000) → P3.Bd 45 ⟨a, b, c⟩ := fun a b c h1 h2 h3 => ⟨sm' _ h1.1 h1.2, sm' _ h2.1 h2.2, sm' _ h3.1 h3.2⟩
  split at hu
  · rw [boxN_eq] at hu
    simp only [List.mem_cons, List.not_mem_nil, or_false] at hu
    rcases hu with rfl | rfl | rfl | rfl | rfl | rfl | rfl | rfl
    all_goals exact tr _ _ _ (by omega) (by omega) (by omega)
  split at hu
  · simp only [List.mem_cons, List.not_mem_nil, or_false] at hu
    rcases hu with rfl | rfl | rfl | rfl | rfl | rfl
    all_goals exact tr _ _ _ (by omega) (by omega) (by omega)
  split at hu
  · simp only [twoN, List.map_cons, List.map_nil, List.cons_append, List.nil_append, List.mem_cons, List.not_mem_nil, or_false] at hu
    rcases hu with rfl | rfl | rfl | rfl | rfl | rfl
    all_goals exact tr _ _ _ (by omega) (by omega) (by omega)
  split at hu
  · rcases List.mem_append.mp hu with q | q
    · obtain ⟨k, hk, rfl⟩ := List.mem_map.mp q
      have hk' := rngL_mem hk
      have h1 : 0 ≤ k ∧ k ≤ 10 := by omega
      have h2 : k * k ≤ 10 * 10 := Int.mul_le_mul h1.2 h1.2 h1.1 (by decide)
      have h3 : 0 ≤ k * k := Int.mul_nonneg h1.1 h1.1
      exact tr _ _ _ (by omega) (by omega) (by omega)
    · rw [List.mem_singleton] at q
      subst q
      exact tr _ _ _ (by omega) (by omega) (by omega)
  · rcases List.mem_append.mp hu with q | q
    · simp only [List.mem_cons, List.not_mem_nil, or_false] at q
      rcases q with rfl | rfl | rfl | rfl
      all_goals exact tr _ _ _ (by omega) (by omega) (by omega)
    · obtain ⟨k, hk, rfl⟩ := List.mem_map.mp q
      exact someN_bd _ _
theorem nearN_len (ns : List Int) : (nearN ns).length ≤ 11 := by
  unfold nearN
  dsimp only
  split
  · rw [List.length_map, rngL_len]
    decide
  split
  · exact Nat.le_of_ble_eq_true rfl
  split
  · exact Nat.le_of_ble_eq_true rfl
  split
  · rw [List.length_append, List.length_map, rngL_len, List.length_singleton]
    omega
  · rw [List.length_append, List.length_map]
    have : (fewN ns).length ≤ 5 := by
      unfold fewN
      rw [List.length_take]
      omega
    show 4 + _ ≤ _
    omega
theorem dim_of {us : List P3} {A B C D : P3} (h : lift A B C D ≠ 0) (hA : A ∈ us) (hB : B ∈ us) (hC : C ∈ us) (hD : D ∈ us) : Dim3 us := ⟨A, hA, B, hB, C, hC, D, hD, h⟩
theorem nearN_dim (ns : List Int) : Dim3 (nearN ns) := by
  obtain ⟨⟨a1, a2⟩, ⟨b1, b2⟩, ⟨c1, c2⟩⟩ := abcN_in (cellZ ns 0)
  unfold nearN
  dsimp only
  generalize abcN (cellZ ns 0) = w at *
  generalize cellZ ns 0 = c
  obtain ⟨x, y, z⟩ := w
  dsimp only at *
  have m3 : ∀ {p q r : Int}, 0 < p → 0 < q → 0 < r → p * q * r ≠ 0 := fun h1 h2 h3 => by
    have := Int.mul_pos (Int.mul_pos h1 h2) h3
    omega
  split
  · rw [boxN_eq]
    refine dim_of (A := ⟨0, 0, 0⟩) (B := ⟨x, 0, 0⟩) (C := ⟨0, y, 0⟩) (D := ⟨0, 0, z⟩) ?_ (by simp) (by simp) (by simp) (by simp)
    rw [show lift ⟨0, 0, 0⟩ ⟨x, 0, 0⟩ ⟨0, y, 0⟩ ⟨0, 0, z⟩ = x * y * z by simp [lift, prod, cross, way]]
    exact m3 (by omega) (by omega) (by omega)
  split
  · refine dim_of (A := ⟨0 - y, 0, 0⟩) (B := ⟨x, 0, 0⟩) (C := ⟨0, y, 0⟩) (D := ⟨0, 0, z⟩) ?_ (by simp) (by simp) (by simp) (by simp)
    rw [show lift ⟨0 - y, 0, 0⟩ ⟨x, 0, 0⟩ ⟨0, y, 0⟩ ⟨0, 0, z⟩ = (x + y) * y * z by
      simp only [lift, prod, cross, way]
      grind]
    exact m3 (by omega) (by omega) (by omega)
  split
  · refine dim_of (A := ⟨0, 0, 0⟩) (B := ⟨x, 0, 0⟩) (C := ⟨0, y, 0⟩) (D := ⟨0 + z, 0, x + y⟩) ?_ (by simp [twoN]) (by simp [twoN]) (by simp [twoN]) (by simp [twoN])
    rw [show lift ⟨0, 0, 0⟩ ⟨x, 0, 0⟩ ⟨0, y, 0⟩ ⟨0 + z, 0, x + y⟩ = x * y * (x + y) by
      simp only [lift, prod, cross, way]
      grind]
    exact m3 (by omega) (by omega) (by omega)
  split
  · have hm : ∀ k : Nat, k < 3 → bowlN (k : Int) ∈ (rngL 0 (3 + (c / 378 % 8).toNat)).map bowlN ++ [(⟨x, y, z⟩ : P3)] := fun k hk => by
      refine List.mem_append_left _ (List.mem_map_of_mem ?_)
      unfold rngL
      refine List.mem_map.mpr ⟨k, List.mem_range.mpr (by omega), ?_⟩
      omega
    have h0 := hm 0 (by omega)
    have h1 := hm 1 (by omega)
    have h2 := hm 2 (by omega)
    refine dim_of ?_ h0 h1 h2 (List.mem_append_right _ (List.mem_singleton.mpr rfl))
    rw [show lift (bowlN ((0 : Nat) : Int)) (bowlN ((1 : Nat) : Int)) (bowlN ((2 : Nat) : Int)) ⟨x, y, z⟩ = 2 * z by
      simp only [lift, prod, cross, way, bowlN]
      grind]
    omega
  · refine dim_of (A := ⟨0, 0, 0⟩) (B := ⟨x, 0, 0⟩) (C := ⟨0, y, 0⟩) (D := ⟨0, 0, z⟩) ?_ (by simp) (by simp) (by simp) (by simp)
    rw [show lift ⟨0, 0, 0⟩ ⟨x, 0, 0⟩ ⟨0, y, 0⟩ ⟨0, 0, z⟩ = x * y * z by simp [lift, prod, cross, way]]
    exact m3 (by omega) (by omega) (by omega)
/-! ### moved -/
def mostN (c : Int) : Int := if c % 2 = 1 then 10 ^ (6 : Int).toNat else 3
theorem mostN_in (c : Int) : 0 < mostN c ∧ Bd 20 (mostN c) := by
  unfold mostN
  split
  · exact ⟨by decide +kernel, by decide +kernel⟩
  · exact ⟨by decide, by decide⟩
theorem mostN_at (c : Int) : atI [PyData.int 3, .int (10 ^ (6 : Int).toNat)] (c % 2) = some (.int (mostN c)) := by
  rcases (show c % 2 = 0 ∨ c % 2 = 1 by omega) with e | e
  · rw [show mostN c = 3 from if_neg (by omega), e]
    rfl
  · rw [show mostN c = 10 ^ (6 : Int).toNat from if_pos e, e]
    rfl
def swXZ (u : P3) : P3 := ⟨u.z, u.y, u.x⟩
theorem lift_swXZ (P A B C : P3) : lift (swXZ P) (swXZ A) (swXZ B) (swXZ C) = -lift P A B C := by
  simp only [lift, prod, cross, way, swXZ]
  grind
theorem aff_swXZ : Aff swXZ := by
  refine ⟨fun w => ⟨⟨w.z, w.y, w.x⟩, 0, 1, by decide, fun h => co_ne fun ⟨h1, h2, h3⟩ => ne_of_co (P3.eta w).symm h ⟨h3, h2, h1⟩, fun R => ?_⟩, fun w => ⟨⟨w.z, w.y, w.x⟩, 0, fun h => co_ne fun ⟨h1, h2, h3⟩ => ne_of_co (P3.eta w).symm h ⟨h3, h2, h1⟩, fun R => ?_⟩, -1, by decide, fun P A B C => by rw [lift_swXZ]; omega⟩
  · simp only [prod, swXZ]
    grind
  · simp only [prod, swXZ]
    grind
def slantN (c : Int) (u : P3) : P3 := shZ (c * 48611 / 4 % mostN c) (shY (-(c * c / 16 % mostN c)) (shX (c / 4 % mostN c) u))
def turnN (c : Int) (u : P3) : P3 := if c / 2 % 2 = 1 then swXZ u else u
def offN (f : Int) : P3 := ⟨(f * 48611 + 10 ^ (20 : Int).toNat) % (2 * 10 ^ (20 : Int).toNat + 1) - 10 ^ (20 : Int).toNat, (f * f * 7919 + 10 ^ (20 : Int).toNat) % (2 * 10 ^ (20 : Int).toNat + 1) - 10 ^ (20 : Int).toNat, (f * f * f + 10 ^ (20 : Int).toNat) % (2 * 10 ^ (20 : Int).toNat + 1) - 10 ^ (20 : Int).toNat⟩
def movedN (ns : List Int) (u : P3) : P3 := ad (turnN (cellZ ns 1) (slantN (cellZ ns 1) u)) (offN (cellZ ns 2))
theorem aff_turnN (c : Int) : Aff (turnN c) := by
  by_cases h : c / 2 % 2 = 1
  · rw [show turnN c = swXZ from funext fun u => if_pos h]
    exact aff_swXZ
  · rw [show turnN c = fun u => u from funext fun u => if_neg h]
    exact aff_id
theorem aff_movedN (ns : List Int) : Aff (movedN ns) :=
  ((((aff_shX _).comp (aff_shY _)).comp (aff_shZ _)).comp (aff_turnN (cellZ ns 1))).comp (aff_ad (offN (cellZ ns 2)))
theorem offN_bd (f : Int) : P3.Bd 70 (offN f) := ⟨mod_bd (by decide +kernel) (by decide +kernel) (by decide +kernel) (by decide +kernel), mod_bd (by decide +kernel) (by decide +kernel) (by decide +kernel) (by decide +kernel), mod_bd (by decide +kernel) (by decide +kernel) (by decide +kernel) (by decide +kernel)⟩
theorem slantN_bd {c : Int} {u : P3} (hu : P3.Bd 45 u) : P3.Bd 120 (slantN c u) := by
  obtain ⟨m0, mb⟩ := mostN_in c
  have md : ∀ a : Int, Bd 20 (a % mostN c) := fun a => Bd.mod m0 mb
  have e1 := hu.x.add ((md (c / 4)).mul hu.y)
  have e2 := hu.y.add (((md (c * c / 16)).neg).mul hu.z)
  have e3 := hu.z.add ((md (c * 48611 / 4)).mul e1)
  exact ⟨e1.mono (by decide), e2.mono (by decide), e3.mono (by decide)⟩
theorem turnN_bd {c : Int} {n : Nat} {u : P3} (hu : P3.Bd n u) : P3.Bd n (turnN c u) := by
  unfold turnN
  split
  · exact ⟨hu.z, hu.y, hu.x⟩
  · exact hu
theorem movedN_bd {ns : List Int} {u : P3} (hu : P3.Bd 45 u) : P3.Bd 130 (movedN ns u) := by
  have h1 := turnN_bd (c := cellZ ns 1) (slantN_bd (c := cellZ ns 1) hu)
  have h2 := offN_bd (cellZ ns 2)
  exact ⟨(h1.x.add h2.x).mono (by decide), (h1.y.add h2.y).mono (by decide), (h1.z.add h2.z).mono (by decide)⟩
/-! ### a name told by a call that may tell one of several data -/
section
variable {X : Cx} {G : Gm} {e : Expr} {es : List Expr} {ds : List D} {W : Wd} {N : List Str} {sc : Scope} {k j : Nat} {pos p1 pc p : Pos} {nm x : Str} {c : Ct} {sts : List Stmt} {E : DE}
theorem gss_asgRd (P : D → Prop) (C : Cok X W N sc k) (i : Nat) (h : okL N sc i x = true) (Hs : Has W j nm c) (hj : j ≤ k) (hg : glB sc nm = true) (ha : GA X G (e :: es) ds) (hc : ∀ R : Rs → Prop, (∀ d, P d → R (.fz d)) → c ds R) (he : nst e = true) (hpl : es.all nst = true)
    (hs : swapsWith (.Call (.Name nm p) (e :: es) [] pc) (some (.Name x p1)) pos.line X.env = pure false) (hn : ∀ d, P d → GSs X (G.set i (.fz d)) sts E) : GSs X G (.Assign [.Name x p1] (.Call (.Name nm p) (e :: es) [] pc) pos :: sts) E := by
  obtain ⟨f, fd, ps, h1, h2, h3, h4⟩ := Hs.ex
  have hw := C.wd
  subst hw
  obtain ⟨g1, g2⟩ := okL_of h
  obtain ⟨l1, l2⟩ := C.loc x g2
  refine gs_cons ⟨fun bs B σ H S De m => inS (ps_set (by rw [C.N]; exact C.nd) (by rw [C.N]; exact g1) l1 (pe_call (E := E0) h4 (C.room.mono hj) (C.gl nm hg).1 h1 h2 h3 .nil passL pA (C.gl nm hg).2 (star_cons he) (star_all hpl)) hs l2) (ha.run bs B σ H S _ fun vs B1 H1 gg r1 => ?_)⟩
  refine ⟨B1, ds, fun r => ∃ d, P d ∧ r = .fz d, gg.bh, by rw [List.append_nil]; exact r1, hc _ fun d hd => ⟨d, hd, rfl⟩, fun d' v B' H' e' g r => ?_, (fun _ _ _ _ _ e' => by obtain ⟨_, _, e'⟩ := e'; cases e'), (fun _ _ _ _ _ e' => by obtain ⟨_, _, e'⟩ := e'; cases e')⟩
  obtain ⟨d, hd, e'⟩ := e'
  cases e'
  exact m.nx _ B' _ H' (hn _ hd) ((S.gro (gg.trans g)).setF r)
end
def barsN (p : Pl) (us : List P3) (P : P3) : Bool := (us.all fun u => decide (prod p.n u - p.d ≤ 0)) && decide (0 < prod p.n P - p.d)
theorem barsN_eq {p : Pl} {us : List P3} {P : P3} {w0 : Int} {wt : List Int} (h : us.map (fun u => prod p.n u - p.d) = w0 :: wt) : barsN p us P = (decide (maxE w0 wt ≤ 0) && decide (p.d < prod p.n P)) := by
  obtain ⟨m1, m2⟩ := maxE_ok wt w0
  have mem : ∀ z, z ∈ w0 :: wt ↔ ∃ u ∈ us, prod p.n u - p.d = z := fun z => by
    rw [← h]
    exact List.mem_map
  unfold barsN
  have e1 : (us.all fun u => decide (prod p.n u - p.d ≤ 0)) = decide (maxE w0 wt ≤ 0) := by
    rw [Bool.eq_iff_iff, List.all_eq_true, decide_eq_true_eq]
    constructor
    · intro k
      obtain ⟨u, hu, e⟩ := (mem _).mp m1
      have := of_decide_eq_true (k u hu)
      omega
    · intro k u hu
      have := m2 _ ((mem _).mpr ⟨u, hu, rfl⟩)
      exact decide_eq_true (by omega)
  have e2 : decide (0 < prod p.n P - p.d) = decide (p.d < prod p.n P) := by
    rw [Bool.eq_iff_iff, decide_eq_true_eq, decide_eq_true_eq]
    omega
  rw [e1, e2]
theorem atI_mem3 {a b c i : Int} (h0 : 0 ≤ i) (h1 : i < 3) : ∃ t, atI [PyData.int a, .int b, .int c] i = some (.int t) ∧ (t = a ∨ t = b ∨ t = c) := by
  rcases (show i = 0 ∨ i = 1 ∨ i = 2 by omega) with rfl | rfl | rfl
  · exact ⟨a, rfl, .inl rfl⟩
  · exact ⟨b, rfl, .inr (.inl rfl)⟩
  · exact ⟨c, rfl, .inr (.inr rfl)⟩
theorem atI_mem2 {a b i : Int} (h0 : 0 ≤ i) (h1 : i < 2) : ∃ t, atI [PyData.int a, .int b] i = some (.int t) ∧ (t = a ∨ t = b) := by
  rcases (show i = 0 ∨ i = 1 by omega) with rfl | rfl
  · exact ⟨a, rfl, .inl rfl⟩
  · exact ⟨b, rfl, .inr rfl⟩
theorem atI_mem5 {i : Int} (h0 : 0 ≤ i) (h1 : i < 5) : ∃ t, atI [PyData.int 0, .int 1, .int (-1), .int 0, .int 0] i = some (.int t) ∧ Bd 4 t := by
  rcases (show i = 0 ∨ i = 1 ∨ i = 2 ∨ i = 3 ∨ i = 4 by omega) with rfl | rfl | rfl | rfl | rfl
  · exact ⟨0, rfl, by decide⟩
  · exact ⟨1, rfl, by decide⟩
  · exact ⟨-1, rfl, by decide⟩
  · exact ⟨0, rfl, by decide⟩
  · exact ⟨0, rfl, by decide⟩
theorem rest_ne {n : Nat} {i j : Int} (h : 3 ≤ n) : ((rngL 0 n).filter fun k => !decide (k = i) && !decide (k = j)) ≠ [] := fun e => by
  have mem : ∀ k : Nat, k < n → (k : Int) ∈ rngL 0 n := fun k hk => by
    unfold rngL
    exact List.mem_map.mpr ⟨k, List.mem_range.mpr hk, by omega⟩
  have no : ∀ k : Nat, k < n → (k : Int) = i ∨ (k : Int) = j := fun k hk => by
    have := List.filter_eq_nil_iff.mp e k (mem k hk)
    simp only [Bool.and_eq_true, Bool.not_eq_true', decide_eq_false_iff_not] at this
    omega
  have h0 := no 0 (by omega)
  have h1 := no 1 (by omega)
  have h2 := no 2 (by omega)
  omega
theorem getD_memG {α : Type} {xs : List α} {d : α} {k : Nat} (h : k < xs.length) : xs.getD k d ∈ xs := by
  rw [List.getD_eq_getElem?_getD, List.getElem?_eq_getElem h]
  exact List.getElem_mem h
theorem atI_getDG {α : Type} {xs : List α} {d : α} {c : Int} (h0 : 0 ≤ c) (h1 : c < (xs.length : Int)) : atI xs c = some (xs.getD c.toNat d) := by
  have h : c.toNat < xs.length := by omega
  have e := atI_nat (get_getD (d := d) h)
  rwa [show ((c.toNat : Nat) : Int) = c by omega] at e
theorem dim_four {us : List P3} (hd : Dim3 us) : 4 ≤ us.length := by
  obtain ⟨A, hA, B, hB, C, hC, D, hD, h⟩ := hd
  have z : ∀ P Q R S : P3, (P = Q ∨ P = R ∨ P = S ∨ Q = R ∨ Q = S ∨ R = S) → lift P Q R S = 0 := fun P Q R S e => by
    rcases e with rfl | rfl | rfl | rfl | rfl | rfl
    all_goals
      simp only [lift, prod, cross, way]
      grind
  have nd : [A, B, C, D].Nodup := by
    simp only [List.nodup_cons, List.mem_cons, List.not_mem_nil, or_false, not_or, not_false_eq_true, List.nodup_nil, and_true]
    refine ⟨⟨?_, ?_, ?_⟩, ⟨?_, ?_⟩, ?_⟩
    all_goals
      intro e
      exact h (z _ _ _ _ (by simp [e]))
  have sub : ∀ v ∈ [A, B, C, D], v ∈ us := fun v hv => by
    simp only [List.mem_cons, List.not_mem_nil, or_false] at hv
    rcases hv with rfl | rfl | rfl | rfl <;> assumption
  exact List.Nodup.length_le_of_subset nd sub
end DW

set_option autoImplicit false
namespace DW
open PySem PySem.Spec PyProof.Rows L2
def combP (o w v : P3) (a b : Int) : P3 := ⟨o.x + a * w.x + b * v.x, o.y + a * w.y + b * v.y, o.z + a * w.z + b * v.z⟩
theorem flat_comb {us : List P3} {o w v : P3} (h : ∀ u ∈ us, ∃ a b, u = combP o w v a b) : ¬ Dim3 us := fun ⟨A, hA, B, hB, C, hC, D, hD, hne⟩ => by
  obtain ⟨a1, b1, rfl⟩ := h A hA
  obtain ⟨a2, b2, rfl⟩ := h B hB
  obtain ⟨a3, b3, rfl⟩ := h C hC
  obtain ⟨a4, b4, rfl⟩ := h D hD
  have e1 : cross (way (combP o w v a1 b1) (combP o w v a2 b2)) (way (combP o w v a1 b1) (combP o w v a3 b3)) = sm ((a2 - a1) * (b3 - b1) - (b2 - b1) * (a3 - a1)) (cross w v) := by
    apply P3.ext
    all_goals
      simp only [cross, way, combP, sm]
      grind
  have e2 : ∀ k : Int, prod (sm k (cross w v)) (way (combP o w v a1 b1) (combP o w v a4 b4)) = 0 := fun k => by
    simp only [prod, sm, cross, way, combP]
    grind
  exact hne (by
    show prod (cross _ _) _ = 0
    rw [e1]
    exact e2 _)
def cell16 (ns : List Int) (k : Int) : Int := if k < (ns.length : Int) then ns.getD k.toNat 0 else 6 * k * k + 5 * k + 8
theorem cell16_bd {ns : List Int} {k : Int} (hb : ∀ z ∈ ns, Bd 1048576 z) (h0 : 0 ≤ k) (h1 : k ≤ 100) : Bd 1048576 (cell16 ns k) := by
  unfold cell16
  split
  · exact hb _ (getD_memG (by omega))
  · have hk : k * k ≤ 100 * 100 := Int.mul_le_mul h1 h1 h0 (by decide)
    have hk0 : 0 ≤ k * k := Int.mul_nonneg h0 h0
    have e : Bd 20 (6 * k * k + 5 * k + 8) := by
      rw [Int.mul_assoc]
      show (6 * (k * k) + 5 * k + 8).natAbs < 2 ^ 20
      generalize k * k = q at *
      omega
    exact e.mono (by decide)
def wayD (c w : Int) : P3 := ⟨c % w - w / 2, c / w % w - w / 2, c / (w * w) % w - w / 2⟩
theorem wayD_bd {c w : Int} (h : 0 < w) (hb : Bd 70 w) : P3.Bd 72 (wayD c w) := by
  have e : ∀ a : Int, Bd 72 (a % w - w / 2) := fun a => ((Bd.mod h hb).sub (hb.div (by decide))).mono (by decide)
  exact ⟨e _, e _, e _⟩
/-- a flat list of points, not too many -/
structure Fl16 (us : List P3) : Prop where
  ne : us ≠ []
  flat : ¬ Dim3 us
  len : us.length ≤ 40
  bd : ∀ u ∈ us, P3.Bd 300 u
theorem wide16 {i : Int} (h0 : 0 ≤ i) (h1 : i < 4) : ∃ t, atI [PyData.int 7, .int 2001, .int (2 * 10 ^ (9 : Int).toNat + 1), .int (2 * 10 ^ (20 : Int).toNat + 1)] i = some (.int t) ∧ 0 < t ∧ Bd 70 t := by
  rcases (show i = 0 ∨ i = 1 ∨ i = 2 ∨ i = 3 by omega) with rfl | rfl | rfl | rfl
  · exact ⟨_, rfl, by decide, by decide⟩
  · exact ⟨_, rfl, by decide, by decide⟩
  · exact ⟨_, rfl, by decide +kernel, by decide +kernel⟩
  · exact ⟨_, rfl, by decide +kernel, by decide +kernel⟩
theorem many16 {i : Int} (h0 : 0 ≤ i) (h1 : i < 4) : ∃ t : Int, atI [PyData.int 9, .int 9, .int 9, .int 40] i = some (.int t) ∧ 0 < t ∧ t ≤ 40 := by
  rcases (show i = 0 ∨ i = 1 ∨ i = 2 ∨ i = 3 by omega) with rfl | rfl | rfl | rfl
  · exact ⟨9, rfl, by decide, by decide⟩
  · exact ⟨9, rfl, by decide, by decide⟩
  · exact ⟨9, rfl, by decide, by decide⟩
  · exact ⟨40, rfl, by decide, by decide⟩
theorem more_dim {us : List P3} {P : P3} (h : P ∈ us) : Dim3 (us ++ [⟨P.x + 1, P.y, P.z⟩, ⟨P.x, P.y + 1, P.z⟩, ⟨P.x, P.y, P.z + 1⟩]) := by
  refine ⟨P, List.mem_append_left _ h, ⟨P.x + 1, P.y, P.z⟩, by simp, ⟨P.x, P.y + 1, P.z⟩, by simp, ⟨P.x, P.y, P.z + 1⟩, by simp, ?_⟩
  rw [show lift P ⟨P.x + 1, P.y, P.z⟩ ⟨P.x, P.y + 1, P.z⟩ ⟨P.x, P.y, P.z + 1⟩ = 1 by
    simp only [lift, prod, cross, way]
    grind]
  decide
/-! ### is, is not of truths -/
section
variable {X : Cx} {G : Gm} {a b : Expr} {pos : Pos} {s t : Bool}
def rBB (f : Bool → Bool → Bool) : R2 := fun x y H Q => ∃ p q : Bool, x = .bl p ∧ y = .bl q ∧ Q (.bl (f p q)) H
theorem op_isT : OpR X (compareOp .Is) (rBB fun p q => decide (p = q)) := by
  intro pins s σ H x y v u Q I rx ry h
  obtain ⟨p, q, rfl, rfl, k⟩ := h
  cases (show v = Value.bool p from rx)
  cases (show u = Value.bool q from ry)
  by_cases e : p = q
  · subst e
    exact wpAny_is_self rfl ⟨.bl true, H, I, rfl, by simpa using k⟩
  · exact wpAny_is_other rfl (fun z => e (Value.bool.inj z)) ⟨.bl false, H, I, rfl, by simpa [e] using k⟩
theorem op_isNotT : OpR X (compareOp .IsNot) (rBB fun p q => !decide (p = q)) := by
  intro pins s σ H x y v u Q I rx ry h
  obtain ⟨p, q, rfl, rfl, k⟩ := h
  cases (show v = Value.bool p from rx)
  cases (show u = Value.bool q from ry)
  by_cases e : p = q
  · subst e
    exact wpAny_isNot_self rfl ⟨.bl false, H, I, rfl, by simpa using k⟩
  · exact wpAny_isNot_other rfl (fun z => e (Value.bool.inj z)) ⟨.bl true, H, I, rfl, by simpa [e] using k⟩
theorem r2h_BB {K : PySem.W.Frag} {f : Bool → Bool → Bool} {p q : Bool} : R2H K (rBB f) (.bool p) (.bool q) (.bool (f p q)) := fun B H v w s h1 h2 Q k => ⟨p, q, dp_bl h1, dp_bl h2, k _ B H (.refl s) (.bl _)⟩
theorem gt_isNot (hm : behindInMarks .IsNot b = false) (ha : GH X G a (.bool s)) (hb : GH X G b (.bool t)) : GT X G (.Compare a [.IsNot] [b] pos) (!decide (s = t)) := gt_cmp op_isNotT hm ha hb r2h_BB
theorem ge_is (hm : behindInMarks .Is b = false) (ha : GH X G a (.bool s)) (hb : GH X G b (.bool t)) : GE X G (.Compare a [.Is] [b] pos) (.bool (decide (s = t))) :=
  ⟨fun bs B σ H S Q q => inE (pe_cmpR op_isT pE pE hm) (ha.run bs B σ H S _ fun v B1 H1 g1 r1 => hb.run bs B1 σ H1 (S.gro g1) _ fun w B2 H2 g2 r2 =>
    r2h_BB B2 H2 v w g2.bh (moD r1 g2.h) r2 _ fun u B3 H3 g3 r3 => q _ B3 H3 ((g1.trans g2).trans g3) r3)⟩
end
theorem cut_nine {xs : List D} : cutD xs none (some 9) = xs.take 9 := by
  unfold cutD
  have e0 : HT.sIx xs.length 0 none = 0 := rfl
  have e9 : HT.sIx xs.length xs.length (some 9) = min 9 xs.length := by
    exact HT.sIx_nat xs.length xs.length 9
  rw [e0, e9, List.drop_zero, Nat.sub_zero]
  rcases Nat.le_total 9 xs.length with h | h
  · rw [Nat.min_eq_left h]
  · rw [Nat.min_eq_right h, List.take_of_length_le (Nat.le_refl _), List.take_of_length_le h]
end DW

set_option autoImplicit false
namespace DW
open PySem PySem.Spec PyProof.Rows L2
def midP (u v : P3) : P3 := ⟨(u.x + v.x) / 2, (u.y + v.y) / 2, (u.z + v.z) / 2⟩
theorem cut_to {α : Type} {f : α → D} {n : Nat} {xs : List α} (h : n ≤ xs.length) : cutD (xs.map f) none (some (n : Int)) = (xs.take n).map f := by
  unfold cutD
  rw [HT.sIx_none, HT.sIx_nat, List.length_map, List.drop_zero, Nat.sub_zero, Nat.min_eq_left h, List.map_take]
theorem cut_off {α : Type} {f : α → D} {n : Nat} {xs : List α} (h : n ≤ xs.length) : cutD (xs.map f) (some (n : Int)) none = (xs.drop n).map f := by
  unfold cutD
  rw [HT.sIx_none, HT.sIx_nat, List.length_map, Nat.min_eq_left h, ← List.map_drop, List.take_of_length_le (by rw [List.length_map, List.length_drop]; omega)]
/-- the points in another order, some of them twice, with middles put in -/
structure Chg (us os : List P3) : Prop where
  all : ∀ u ∈ us, u ∈ os
  of : ∀ v ∈ os, v ∈ us ∨ ∃ a ∈ us, ∃ b ∈ us, v = midP a b
theorem Chg.put {us os : List P3} (h : Chg us os) {a b : P3} (ha : a ∈ us) (hb : b ∈ us) (n : Nat) : Chg us (os.take n ++ [midP a b, a] ++ os.drop n) := by
  refine ⟨fun u hu => ?_, fun v hv => ?_⟩
  · have := h.all u hu
    rw [← List.take_append_drop n os] at this
    rcases List.mem_append.mp this with q | q
    · exact List.mem_append_left _ (List.mem_append_left _ q)
    · exact List.mem_append_right _ q
  · rcases List.mem_append.mp hv with q | q
    · rcases List.mem_append.mp q with q | q
      · exact h.of v (List.mem_of_mem_take q)
      · simp only [List.mem_cons, List.not_mem_nil, or_false] at q
        rcases q with rfl | rfl
        · exact .inr ⟨a, ha, b, hb, rfl⟩
        · exact .inl ha
    · exact h.of v (List.mem_of_mem_drop q)
/-- twice as great points: a middle is a half of a sum, the hull stays -/
theorem Chg.same {us os : List P3} (h : Chg (us.map (sm 2)) os) : SameH (us.map (sm 2)) os := by
  refine ⟨fun w d => ⟨fun k R hR => ?_, fun k R hR => k R (h.all R hR)⟩⟩
  rcases h.of R hR with q | ⟨a, ha, b, hb, rfl⟩
  · exact k R q
  · have h1 := k a ha
    have h2 := k b hb
    obtain ⟨u, hu, rfl⟩ := List.mem_map.mp ha
    obtain ⟨v, hv, rfl⟩ := List.mem_map.mp hb
    have e : midP (sm 2 u) (sm 2 v) = ad u v := by
      apply P3.ext
      all_goals
        simp only [midP, sm, ad]
        omega
    rw [e, prod_ad]
    rw [prod_sm] at h1 h2
    omega
section
variable {us : List P3}
theorem body_rev (hd : Dim3 us) : isBodyA (bodyA us).reverse = false := by
  have hs : SameH us (bodyA us).reverse := (same_body hd).trans (.of_mem fun v => List.mem_reverse.symm)
  rw [hs.isBody hd]
  refine decide_eq_false fun e => ?_
  have s1 := body_sorted us
  have s2 : (bodyA us).reverse.Pairwise (fun a b => EnO.lt b a = true) := List.pairwise_reverse.mpr s1
  rw [e] at s2
  have h4 := dim_four ((same_body hd).dim hd)
  generalize bodyA us = cs at s1 s2 h4
  match cs, h4, s1, s2 with
  | a :: b :: t, _, s1, s2 =>
    have x := (List.pairwise_cons.mp s1).1 b List.mem_cons_self
    have y := (List.pairwise_cons.mp s2).1 b List.mem_cons_self
    exact EnO.asy a b x y
theorem body_twice (hd : Dim3 us) : isBodyA ((bodyA us).take 1 ++ bodyA us) = false := by
  have hs : SameH us ((bodyA us).take 1 ++ bodyA us) := (same_body hd).trans (.of_mem fun v => by
    rw [List.mem_append]
    exact ⟨.inr, fun h => h.elim List.mem_of_mem_take id⟩)
  rw [hs.isBody hd]
  refine decide_eq_false fun e => ?_
  have h4 := dim_four ((same_body hd).dim hd)
  have h := congrArg List.length e
  rw [List.length_append, List.length_take] at h
  omega
theorem body_mid {vs : List P3} (hd : Dim3 (vs.map (sm 2))) {a b : P3} (ha : a ∈ bodyA (vs.map (sm 2))) (hb : b ∈ bodyA (vs.map (sm 2))) : isBodyA (sortP (bodyA (vs.map (sm 2)) ++ [midP a b])) = false := by
  have m : ∀ {v}, v ∈ bodyA (vs.map (sm 2)) → v ∈ vs.map (sm 2) := fun h => ((mem_body hd).mp h).mem
  have hs : SameH (vs.map (sm 2)) (sortP (bodyA (vs.map (sm 2)) ++ [midP a b])) := by
    refine .of_ext (fun w d k R hR => ?_) fun v hv => mem_sortP.mpr (List.mem_append_left _ ((mem_body hd).mpr hv))
    rcases List.mem_append.mp (mem_sortP.mp hR) with q | q
    · exact k R (m q)
    · rw [List.mem_singleton] at q
      subst q
      exact ((Chg.same (us := vs) (os := vs.map (sm 2) ++ [midP a b]) ⟨fun u hu => List.mem_append_left _ hu, fun v hv => (List.mem_append.mp hv).elim .inl fun h => .inr ⟨a, m ha, b, m hb, List.mem_singleton.mp h⟩⟩).le w d).mp k _ (List.mem_append_right _ (List.mem_singleton.mpr rfl))
  rw [hs.isBody hd]
  refine decide_eq_false fun e => ?_
  have h := congrArg List.length e
  rw [sortP_len, List.length_append] at h
  exact absurd h (by simp)
theorem body_fewer (hd : Dim3 us) (h : Dim3 ((bodyA us).drop 1)) : isBodyA ((bodyA us).drop 1) = true := by
  rw [isBodyA_of h]
  refine decide_eq_true (Eq.symm ?_)
  refine strictO (body_sorted _) ((body_sorted us).sublist (List.drop_sublist 1 _)) fun v => ?_
  rw [mem_body h]
  refine ⟨fun e => e.mem, fun e => ?_⟩
  exact ((mem_body hd).mp (List.mem_of_mem_drop e)).sub (fun R hR => ((mem_body hd).mp (List.mem_of_mem_drop hR)).mem) e
theorem faces_ne (hd : Dim3 us) : facesL us ≠ [] := fun e => by
  have := mem_faces.mpr (firstPlane_face hd)
  rw [e] at this
  cases this
end
theorem atI_last {cs : List P3} (h : cs ≠ []) : atI (cs.map P3.en) (-1) = some (P3.en (cs.getLast h)) := by
  have hl := List.length_pos_iff.mpr h
  have e : (cs.map P3.en)[cs.length - 1]? = some (P3.en (cs.getLast h)) := by
    rw [List.getElem?_map, List.getLast_eq_getElem h, List.getElem?_eq_getElem (by omega)]
    rfl
  exact atI_neg1 (by rw [List.length_map]; exact hl) (by rw [List.length_map]; exact e)
section
variable {X : Cx} {G : Gm} {tg e : Expr} {es : List Expr} {ds : List D} {W : Wd} {N : List Str} {sc : Scope} {k j : Nat} {pos pc p : Pos} {nm : Str} {c : Ct} {sts : List Stmt} {E : DE}
theorem gss_unpR (P : List D → Prop) (C : Cok X W N sc k) (Hs : Has W j nm c) (hj : j ≤ k) (hg : glB sc nm = true) (ha : GA X G (e :: es) ds) (hc : ∀ R : Rs → Prop, (∀ us, P us → R (.ow us)) → c ds R) (he : nst e = true) (hpl : es.all nst = true)
    (hs : swapsWithSole [tg] (.Call (.Name nm p) (e :: es) [] pc) pos.line X.env = pure false) (hw : swappedStores [tg] (.Call (.Name nm p) (e :: es) [] pc) X.env = pure none) (h1 : (assignEach [tg] X.env).map (·.2) = [assign tg X.env])
    (hn : ∀ us, P us → ∃ G' ws, GG X G tg (.list us) G' ws ∧ GSs X G' sts E) : GSs X G (.Assign [tg] (.Call (.Name nm p) (e :: es) [] pc) pos :: sts) E := by
  obtain ⟨f, fd, ps, k1, k2, k3, k4⟩ := Hs.ex
  have hwd := C.wd
  subst hwd
  refine gs_cons ⟨fun bs B σ H S De m => inS (ps_asg (pe_call (E := E0) k4 (C.room.mono hj) (C.gl nm hg).1 k1 k2 k3 .nil passL pA (C.gl nm hg).2 (star_cons he) (star_all hpl)) pG hs hw h1) (ha.run bs B σ H S _ fun vs B1 H1 gg r1 => ?_)⟩
  refine ⟨B1, ds, fun r => ∃ us, P us ∧ r = .ow us, gg.bh, by rw [List.append_nil]; exact r1, hc _ fun us hu => ⟨us, hu, rfl⟩, (fun _ _ _ _ e' => by obtain ⟨_, _, e'⟩ := e'; cases e'), fun es' p us' B' H' e' g h0 h1 h2 r => ?_, (fun _ _ _ _ _ e' => by obtain ⟨_, _, e'⟩ := e'; cases e')⟩
  obtain ⟨us, hu, e'⟩ := e'
  cases e'
  obtain ⟨G', ws, hG, hS⟩ := hn _ hu
  have g3 := gg.trans g
  have sb : Same B' (upd B' p (.lst us')) := same_new h1
  have g4 : Grow B H (upd B' p (.lst us')) H' := g3.settle (same_none gg.h h0) h1 h2
  exact hG.run bs _ σ H' _ (S.gro g4) (dpl upd_same (moA r sb)) _ fun σ' _ S' => m.nx G' _ σ' H' hS S'
end
end DW

set_option autoImplicit false
namespace DW
open PySem PySem.Spec PyProof.Rows L2
/-! ### what is due: the dimension, told another way -/
def waysP (us : List P3) : List P3 := (us.filter fun R => !decide (R = us.headD P3.O)).map (way (us.headD P3.O))
def crossL (us : List P3) : List P3 := ((waysP us).map (cross ((waysP us).getLastD P3.O))).filter fun c => !decide (c = P3.O)
def dueA (us : List P3) : Int := if waysP us = [] then 0 else if crossL us = [] then 1 else 2 + (if ((waysP us).filter fun w => !decide (prod ((crossL us).getLastD P3.O) w = 0)) = [] then 0 else 1)
theorem lastD_eq {α : Type} {xs : List α} {d : α} (h : xs ≠ []) : xs.getLastD d = xs.getLast h := by
  cases xs with
  | nil => exact (h rfl).elim
  | cons x t =>
    rw [List.getLastD_cons, List.getLast_eq_getLastD]
theorem lastD_mem {α : Type} {xs : List α} {d : α} (h : xs ≠ []) : xs.getLastD d ∈ xs := by
  rw [lastD_eq h]
  exact List.getLast_mem h
theorem mem_waysP {us : List P3} {w : P3} : w ∈ waysP us ↔ ∃ R ∈ us, R ≠ us.headD P3.O ∧ way (us.headD P3.O) R = w := by
  unfold waysP
  rw [List.mem_map]
  constructor
  · rintro ⟨R, hR, rfl⟩
    obtain ⟨h1, h2⟩ := List.mem_filter.mp hR
    exact ⟨R, h1, by simpa using h2, rfl⟩
  · rintro ⟨R, h1, h2, rfl⟩
    exact ⟨R, List.mem_filter.mpr ⟨h1, by rw [decide_eq_false h2]; rfl⟩, rfl⟩
theorem ways_ne {us : List P3} {w : P3} (h : w ∈ waysP us) : w ≠ P3.O := by
  obtain ⟨R, _, h2, rfl⟩ := mem_waysP.mp h
  exact way_ne h2
theorem dim_le3 (us : List P3) : dimA us = 0 ∨ dimA us = 1 ∨ dimA us = 2 ∨ dimA us = 3 := by
  unfold dimA
  dsimp only
  split
  · exact .inl rfl
  split
  · exact .inr (.inl rfl)
  split
  · exact .inr (.inr (.inl rfl))
  · exact .inr (.inr (.inr rfl))
theorem due_dim {us : List P3} (hne : us ≠ []) : dueA us = dimA us := by
  have h3 := dimA_three (pts := us)
  have hP := head_mem (d := P3.O) hne
  have mw := fun w => mem_waysP (us := us) (w := w)
  unfold dimA at h3 ⊢
  unfold dueA
  dsimp only at h3 ⊢
  have eW : waysP us = (us.filter fun R => !decide (R = us.headD P3.O)).map (way (us.headD P3.O)) := rfl
  generalize hO : (us.filter fun R => !decide (R = us.headD P3.O)) = others at *
  have h0 : waysP us = [] ↔ others = [] := by rw [eW, List.map_eq_nil_iff]
  by_cases o0 : others = []
  · rw [if_pos o0, if_pos (h0.mpr o0)]
  rw [if_neg o0] at h3 ⊢
  rw [if_neg (fun z => o0 (h0.mp z))]
  have w0 : waysP us ≠ [] := fun z => o0 (h0.mp z)
  have mO : ∀ R, R ∈ others → way (us.headD P3.O) R ∈ waysP us := fun R hR => by
    rw [eW]
    exact List.mem_map_of_mem hR
  have oM : ∀ w, w ∈ waysP us → ∃ R ∈ others, way (us.headD P3.O) R = w := fun w hw => by
    rw [eW] at hw
    obtain ⟨R, h1, h2⟩ := List.mem_map.mp hw
    exact ⟨R, h1, h2⟩
  have m2 := head_mem (d := P3.O) o0
  generalize others.headD P3.O = two at *
  have mW := lastD_mem (d := P3.O) w0
  have eC : crossL us = ((waysP us).map (cross ((waysP us).getLastD P3.O))).filter fun c => !decide (c = P3.O) := rfl
  generalize (waysP us).getLastD P3.O = W at *
  have hc : crossL us = [] ↔ ∀ w ∈ waysP us, cross W w = P3.O := by
    rw [eC, List.filter_eq_nil_iff]
    constructor
    · intro h w hw
      have := h _ (List.mem_map_of_mem hw)
      simpa using this
    · intro h c hc
      obtain ⟨w, hw, rfl⟩ := List.mem_map.mp hc
      simp [h w hw]
  have hf : (others.filter fun P => !onLine (us.headD P3.O) two P) = [] ↔ ∀ w ∈ waysP us, cross (way (us.headD P3.O) two) w = P3.O := by
    rw [List.filter_eq_nil_iff]
    constructor
    · intro h w hw
      obtain ⟨R, hR, rfl⟩ := oM w hw
      have := h R hR
      unfold onLine at this
      simpa using this
    · intro h R hR
      unfold onLine
      rw [decide_eq_true (h _ (mO R hR))]
      simp
  have m2w := mO two m2
  have hcf : crossL us = [] ↔ (others.filter fun P => !onLine (us.headD P3.O) two P) = [] := by
    rw [hc, hf]
    constructor
    · intro h w hw
      exact par_par (ways_ne mW) (h _ m2w) (h w hw)
    · intro h w hw
      exact par_par (ways_ne m2w) (h _ mW) (h w hw)
  by_cases c0 : crossL us = []
  · rw [if_pos c0, if_pos (hcf.mp c0)]
  rw [if_neg c0]
  have f0 := fun z => c0 (hcf.mpr z)
  rw [if_neg f0] at h3 ⊢
  generalize (others.filter fun P => !onLine (us.headD P3.O) two P) = off at *
  have mC := lastD_mem (d := P3.O) c0
  have hcC : ∃ w ∈ waysP us, cross W w = (crossL us).getLastD P3.O ∧ (crossL us).getLastD P3.O ≠ P3.O := by
    have mC' := mC
    generalize (crossL us).getLastD P3.O = c at mC' ⊢
    rw [eC] at mC'
    obtain ⟨h1, h2⟩ := List.mem_filter.mp mC'
    obtain ⟨w, hw, rfl⟩ := List.mem_map.mp h1
    exact ⟨w, hw, rfl, by simpa using h2⟩
  obtain ⟨w, hw, ec, hc0⟩ := hcC
  generalize (crossL us).getLastD P3.O = c at *
  have hD : ((waysP us).filter fun w => !decide (prod c w = 0)) = [] ↔ ¬ Dim3 us := by
    constructor
    · intro h hd
      obtain ⟨R, hR, hne⟩ := hd.off hc0 (prod c (us.headD P3.O))
      have hRP : R ≠ us.headD P3.O := fun e => hne (by rw [e])
      have := List.filter_eq_nil_iff.mp h _ (mem_waysP.mpr ⟨R, hR, hRP, rfl⟩)
      rw [prod_way, decide_eq_false (by omega)] at this
      exact this rfl
    · intro h
      rw [List.filter_eq_nil_iff]
      intro v hv z
      apply h
      obtain ⟨A, a1, a2, rfl⟩ := mem_waysP.mp mW
      obtain ⟨B, b1, b2, rfl⟩ := mem_waysP.mp hw
      obtain ⟨C, c1, c2, rfl⟩ := mem_waysP.mp hv
      refine ⟨_, hP, A, a1, B, b1, C, c1, ?_⟩
      unfold lift
      rw [ec]
      simpa using z
  split
  · rename_i h
    have hnd := hD.mp h
    split
    · rfl
    · rename_i q
      rw [if_neg q] at h3
      exact (hnd (h3.mp rfl)).elim
  · rename_i h
    have hd : Dim3 us := Classical.byContradiction fun z => h (hD.mpr z)
    have := h3.mpr hd
    split
    · rename_i q
      rw [if_pos q] at this
      cases this
    · rfl
theorem atI_lastD {α : Type} {f : α → D} {xs : List α} {d : α} (h : xs ≠ []) : atI (xs.map f) (-1) = some (f (xs.getLastD d)) := by
  have e : xs.getLastD d = xs.getLast h := lastD_eq h
  rw [e]
  unfold atI
  have hl : 0 < xs.length := List.length_pos_iff.mpr h
  rw [List.length_map, show ixN xs.length (-1) = some (xs.length - 1) from by
    unfold ixN
    rw [if_neg (by omega), if_pos (by omega)]
    congr 1
    omega]
  show (xs.map f)[xs.length - 1]? = _
  rw [List.getElem?_map, ← List.getLast?_eq_getElem?, List.getLast?_eq_some_getLast h]
  rfl
/-! ### the points -/
def byH (ns : List Int) (k : Int) : Int := (pickL ns (some (2 + k % 5)) (some 63) (some 5)).foldl (fun t c => t + c / (1 + k / 5)) 0 + k * k
theorem by_part {xs : List Int} {n : Nat} {q : Int} (hb : ∀ z ∈ xs, Bd n z) (hq : 0 < q) : ∀ t : Int, (xs.foldl (fun t c => t + c / q) t).natAbs ≤ t.natAbs + xs.length * 2 ^ n := by
  induction xs with
  | nil => intro t; simp
  | cons x xs ih =>
    intro t
    rw [List.foldl_cons, List.length_cons]
    have h1 := ih (fun z hz => hb z (List.mem_cons_of_mem _ hz)) (t + x / q)
    have h2 : (x / q).natAbs < 2 ^ n := (hb x List.mem_cons_self).div hq
    rw [Nat.add_mul, Nat.one_mul]
    omega
theorem pick_len (xs : List Int) (lo hi : Option Int) : (pickL xs lo hi (some 5)).length ≤ xs.length := by
  have := slicePick_size_le (xs.map fun i => Value.int i 0).toArray lo hi (some 5)
  have e : slicePick (xs.map fun i => Value.int i 0).toArray lo hi (some 5) = (pickL (xs.map fun i => Value.int i 0) lo hi (some 5)).toArray := by
    unfold slicePick pickL
    rw [List.size_toArray]
    congr 2
    funext i
    rw [List.getElem?_toArray]
  rw [e, List.size_toArray, List.size_toArray, pick_map, List.length_map, List.length_map] at this
  exact this
theorem byH_bd {ns : List Int} {k : Int} (hl : ns.length ≤ 63) (hb : ∀ z ∈ ns, Bd 1048576 z) (h0 : 0 ≤ k) (h1 : k ≤ 200) : Bd 1048583 (byH ns k) := by
  have hp := by_part (xs := pickL ns (some (2 + k % 5)) (some 63) (some 5)) (n := 1048576) (q := 1 + k / 5) (fun z hz => hb z (mem_pick hz)) (by omega) 0
  have hn := pick_len ns (some (2 + k % 5)) (some 63)
  have hk : k * k ≤ 200 * 200 := Int.mul_le_mul h1 h1 h0 (by decide)
  have hk0 : 0 ≤ k * k := Int.mul_nonneg h0 h0
  have hm : (pickL ns (some (2 + k % 5)) (some 63) (some 5)).length * 2 ^ 1048576 ≤ 63 * 2 ^ 1048576 := Nat.mul_le_mul_right _ (by omega)
  have e1 : Bd 1048582 ((pickL ns (some (2 + k % 5)) (some 63) (some 5)).foldl (fun t c => t + c / (1 + k / 5)) 0) := by
    show Int.natAbs _ < 2 ^ 1048582
    rw [show (1048582 : Nat) = 6 + 1048576 from rfl, Nat.pow_add]
    have : (0 : Nat) < 2 ^ 1048576 := Nat.two_pow_pos _
    rw [Int.natAbs_zero, Nat.zero_add] at hp
    refine Nat.lt_of_le_of_lt (Nat.le_trans hp hm) ?_
    generalize (2 : Nat) ^ 1048576 = z at *
    omega
  have e2 : Bd 20 (k * k) := by
    show (k * k).natAbs < 2 ^ 20
    generalize k * k = q at *
    omega
  exact (e1.add (e2.mono (m := 1048582) (by decide))).mono (by decide)
def wayB (ns : List Int) (k w : Int) : P3 := ⟨byH ns (3 * k + 0) * (if w > 10000 then 40009 else 1) % w - w / 2, byH ns (3 * k + 1) * (if w > 10000 then 40009 else 1) % w - w / 2, byH ns (3 * k + 2) * (if w > 10000 then 40009 else 1) % w - w / 2⟩
theorem wayB_bd {ns : List Int} {k w : Int} (h : 0 < w) (hb : Bd 140 w) : P3.Bd 142 (wayB ns k w) := by
  have e : ∀ a : Int, Bd 142 (a % w - w / 2) := fun a => ((Bd.mod h hb).sub (hb.div (by decide))).mono (by decide)
  exact ⟨e _, e _, e _⟩
def P3.ln (u : P3) : D := .list [.int u.x, .int u.y, .int u.z]
theorem wide11 {i : Int} (h0 : 0 ≤ i) (h1 : i < 4) : ∃ t, atI [PyData.int 7, .int 2001, .int (2 * 10 ^ (9 : Int).toNat + 1), .int (2 * 10 ^ (40 : Int).toNat + 1)] i = some (.int t) ∧ 0 < t ∧ Bd 140 t := by
  rcases (show i = 0 ∨ i = 1 ∨ i = 2 ∨ i = 3 by omega) with rfl | rfl | rfl | rfl
  · exact ⟨_, rfl, by decide, by decide⟩
  · exact ⟨_, rfl, by decide, by decide⟩
  · exact ⟨_, rfl, by decide +kernel, by decide +kernel⟩
  · exact ⟨_, rfl, by decide +kernel, by decide +kernel⟩
theorem ln_at {u : P3} {j : Int} (h0 : 0 ≤ j) (h1 : j ≤ 2) : atI [PyData.int u.x, .int u.y, .int u.z] j = some (.int (u.at j)) := by
  rcases (show j = 0 ∨ j = 1 ∨ j = 2 by omega) with rfl | rfl | rfl
  · rfl
  · rfl
  · rfl
theorem at_bd {u : P3} {n : Nat} (h : P3.Bd n u) (j : Int) : Bd n (u.at j) := by
  unfold P3.at
  split
  · exact h.x
  · split
    · exact h.y
    · exact h.z
theorem many11 {i : Int} (h0 : 0 ≤ i) (h1 : i < 4) : ∃ t : Int, atI [PyData.int 9, .int 9, .int 9, .int 40] i = some (.int t) ∧ 0 < t ∧ t ≤ 40 := many16 h0 h1
/-- what the points come to be -/
structure Pts11 (us : List P3) : Prop where
  ne : us ≠ []
  len : us.length ≤ 40
  bd : ∀ u ∈ us, P3.Bd 200 u
end DW

set_option autoImplicit false
namespace DW
open PySem PySem.Spec PyProof.Rows L2
/-! ### in and not in of a dict of one's own -/
section
variable {X : Cx} {G : Gm} {e : Expr} {W : Wd} {N : List Str} {sc : Scope} {k : Nat} {pos p1 : Pos} {x : Str} {kvs : Kvs} {key : NestedKey}
def rDI (W : Wd) (f : Bool → Bool) : R2 := fun x y H Q => ∃ (B : Hp) (p b : Addr) (kvs : Kvs) (xs : Ent) (key : NestedKey), x = .ref b ∧ y = .ref p ∧ Same B H ∧ H p = some (dE W p xs) ∧ Paired (KvR W.K B) kvs xs ∧ key.depth ≤ 8 ∧ Dp W.K B (.ref b) key.data ∧ Q (.bl (f (dget kvs key).isSome)) H
theorem op_inDX (hw : wdOf X = W) (hu : X.A.units + 64 < cLine) : OpR X (compareOp .In) (rDI W fun t => t) := by
  intro pins s σ H x y v u Q I rx ry h
  obtain ⟨B, p, b, kvs, xs, key, rfl, rfl, sB, hp, r, hd, hb, q⟩ := h
  obtain rfl : v = Value.ref b := rx
  obtain rfl : u = Value.ref p := ry
  obtain ⟨h1, h2, dd⟩ := dE_of hw I sB hp r
  subst hw
  have hk : (nestedKind X.prog X.w).is s.heap key b := ⟨dp_nest I key _ _ (moD hb sB) rfl, hd⟩
  refine wpAny_in_heap (by show X.A.units + 1 + 8 < cLine; omega) hk h1 dd ?_
  rw [← kv_isSome r key]
  exact ⟨.bl (dget kvs key).isSome, H, I.tok _, rfl, q⟩
theorem op_ninDX (hw : wdOf X = W) (hu : X.A.units + 64 < cLine) : OpR X (compareOp .NotIn) (rDI W fun t => !t) := by
  intro pins s σ H x y v u Q I rx ry h
  obtain ⟨B, p, b, kvs, xs, key, rfl, rfl, sB, hp, r, hd, hb, q⟩ := h
  obtain rfl : v = Value.ref b := rx
  obtain rfl : u = Value.ref p := ry
  obtain ⟨h1, h2, dd⟩ := dE_of hw I sB hp r
  subst hw
  have hk : (nestedKind X.prog X.w).is s.heap key b := ⟨dp_nest I key _ _ (moD hb sB) rfl, hd⟩
  refine wpAny_notIn_heap (by show X.A.units + 1 + 8 < cLine; omega) hk h1 dd ?_
  rw [← kv_isSome r key]
  exact ⟨.bl (!(dget kvs key).isSome), H, I.tok _, rfl, q⟩
theorem gt_inD {op : CmpOp} {f : Bool → Bool} (ho : OpR X (compareOp op) (rDI W f)) (C : Cok X W N sc k) (i : Nat) (h : okV N sc i x = true) (hG : G[i]? = some (.ob (dictO W kvs))) (he : GE X G e key.data) (hd : key.depth ≤ 8) (hk : ∃ ks, key = .tup ks) (hm : behindInMarks op (.Name x p1) = false) : GT X G (.Compare e [op] [.Name x p1] pos) (f (dget kvs key).isSome) := by
  obtain ⟨h1, h2, h3, h4⟩ := okV_of h
  have hw := C.wd
  refine ⟨fun bs B σ H S Q q => inT (pt_cmpR ho pE (pe_var (i := i) (by rw [C.N]; exact h1) (C.vis x h2) h3 h4) hm) (he.run bs B σ H S _ fun v B1 H1 g r => ?_)⟩
  obtain ⟨p, e1, q0, q1, q2, xs, q3, q4⟩ := (S.gro g).obj hG
  subst hw
  obtain ⟨ks, rfl⟩ := hk
  obtain ⟨b, vs, rfl, hb1, hb2⟩ := dp_tup (ds := NestedKey.datas ks) r
  exact ⟨_, e1, B1, p, b, kvs, xs, .tup ks, rfl, rfl, g.bh, q3, q4, hd, r, _, rfl, q B1 H1 g⟩
end
/-! ### x.get(key, other) of a dict of one's own -/
section
variable {X : Cx} {o e f a : Expr} {apos cpos pos p1 : Pos} {td ty tx : TE} {W : Wd} {N : List Str} {sc : Scope} {k : Nat} {x : Str} {kvs : Kvs} {key : NestedKey} {G : Gm} {d other : D}
def tDGX (W : Wd) (td ty tx : TE) : TE := fun σ H Q => td σ H fun x H1 => ∃ (B1 : Hp) (p : Addr) (xs : Ent) (kvs : Kvs), x = .ref p ∧ Same B1 H1 ∧ H1 p = some (dE W p xs) ∧ Paired (KvR W.K B1) kvs xs ∧ ty σ H1 fun y H2 => tx σ H2 fun z H3 => ∃ (B : Hp) (b : Addr) (key : NestedKey), y = .ref b ∧ Same B H3 ∧ H3 p = some (dE W p xs) ∧ Paired (KvR W.K B) kvs xs ∧ key.depth ≤ 8 ∧ Dp W.K B (.ref b) key.data ∧ (∀ d, dget kvs key = some d → ∀ v, Dp W.K B v d → Q v H3) ∧ (dget kvs key = none → Q z H3)
theorem pe_dgetD (hw : wdOf X = W) (hu : X.A.units + 64 < cLine) (ho : PE X o td) (he : PE X e ty) (hf : PE X f tx) (m : M2 X o "get" apos e f cpos) : PE X (.Call (.Attribute o "get" apos) [e, f] [] cpos) (tDGX W td ty tx) := by
  refine ⟨fun pins s σ H Q I h => ?_⟩
  refine wpAny_Call_method m.base m.few m.line PySem.F.plainAttrs_dict PySem.F.slot_dict_get PySem.F.type_dict_get (thn (ho.run pins s σ H _ I h) fun u s1 ⟨x, H1, I1, rx, B1, p, xs, kvs, ex, sB1, hp1, r1, q1⟩ => ?_)
  subst ex
  obtain rfl : u = Value.ref p := rx
  obtain ⟨hd, _, dd⟩ := dE_of hw I1 sB1 hp1 r1
  refine ⟨dd.typeIs, dictOfH_noDict dd, ?_⟩
  rw [m.trees]
  refine Calls.callWith_builtin rfl (Calls.evalArgs_plain (Calls.spliced_cons (thn (he.run pins s1 σ H1 _ I1 q1) fun iv s2 ⟨y, H2, I2, ry, q2⟩ =>
    Calls.spliced_cons (thn (hf.run pins s2 σ H2 _ I2 q2) fun fv s3 ⟨z, H3, I3, rz, B, b, key, ey, sB, hp, r, hk, hb, h1, h2⟩ => Calls.spliced_nil ?_))))
  subst ey
  obtain rfl : iv = Value.ref b := ry
  obtain ⟨_, _, d3⟩ := dE_of hw I3 sB hp r
  subst hw
  have hkey : (nestedKind X.prog X.w).is s3.heap key b := ⟨dp_nest I3 key _ _ (moD hb sB) rfl, hk⟩
  refine call_meetsIn PySem.F.slot_dict_get d3.typeIs PySem.F.entry_dict_get (PySem.F.args_dict_get_3 _ _ _) (meetsH_dict_get_default (nestedKind X.prog X.w) p b hd fv) ⟨by show X.A.units + 1 + 8 < cLine; omega, key, xs, hkey, d3, ?_⟩
  rcases kv_get r key with ⟨g1, g2⟩ | ⟨d', a', w', g1, g2, v, rv, hv⟩
  · rw [g2]
    exact ⟨z, H3, I3.tok _, rz, h2 g1⟩
  · rw [g2]
    exact ⟨v, H3, I3.tok _, rv, h1 _ g1 v hv⟩
end
section
variable {X : Cx} {e f : Expr} {apos cpos pos p p1 : Pos} {W : Wd} {N : List Str} {sc : Scope} {k : Nat} {x : Str} {kvs : Kvs} {key : NestedKey} {G : Gm} {d other : D}
theorem ge_dgetd (C : Cok X W N sc k) (i : Nat) (h : okV N sc i x = true) (hG : G[i]? = some (.ob (dictO W kvs))) (he : GE X G e key.data) (hf : GE X G f other) (hd : key.depth ≤ 8) (hk : ∃ ks, key = .tup ks) (m : M2 X (.Name x p1) "get" apos e f cpos) : GE X G (.Call (.Attribute (.Name x p1) "get" apos) [e, f] [] cpos) ((dget kvs key).getD other) := by
  obtain ⟨h1, h2, h3, h4⟩ := okV_of h
  have hw := C.wd
  refine ⟨fun bs B σ H S Q q => inE (pe_dgetD hw (by have := C.room.un; omega) (pe_var (i := i) (by rw [C.N]; exact h1) (C.vis x h2) h3 h4) pE pE m) ?_⟩
  obtain ⟨p, e1, q0, q1, q2, xs, q3, q4⟩ := S.obj hG
  refine ⟨_, e1, B, p, xs, kvs, rfl, S.bh, q3, q4, he.run bs B σ H S _ fun y B1 H1 g r => hf.run bs B1 σ H1 (S.gro g) _ fun z B2 H2 g2 r2 => ?_⟩
  subst hw
  obtain ⟨ks, rfl⟩ := hk
  have r3 := dp_mono g2.b _ _ r
  obtain ⟨b, vs, rfl, hb1, hb2⟩ := dp_tup (ds := NestedKey.datas ks) r3
  refine ⟨B2, b, .tup ks, rfl, g2.bh, g2.h _ _ (g.h _ _ q3), kv_mono g2.b (kv_mono g.b q4), hd, r3, fun d hg v hv => ?_, fun hg => ?_⟩
  · refine q v B2 H2 (g.trans g2) ?_
    rw [hg]
    exact hv
  · refine q z B2 H2 (g.trans g2) ?_
    rw [hg]
    exact r2
/-- len(x), x a dict of one's own -/
def rLenDX (W : Wd) : List V → Hp → VK → Prop := fun vs H Q => ∃ (B : Hp) (p : Addr) (kvs : Kvs) (xs : Ent), vs = [V.ref p] ∧ Same B H ∧ H p = some (dE W p xs) ∧ Paired (KvR W.K B) kvs xs ∧ Q (.int ((kvs.length : Nat) : Int)) H
theorem cr_lenDX (hw : wdOf X = W) : CallR X (.builtin "len") (rLenDX W) := by
  intro pins s σ H vs us Q I r h
  obtain ⟨B, p, kvs, xs, rfl, sB, hp, hr, q⟩ := h
  rw [Vals.ref1 r]
  obtain ⟨h1, h2, dd⟩ := dE_of hw I sB hp hr
  have hl : kvs.length = xs.length := Paired.length hr
  refine call_len_dictH h1 dd (by rw [sizeLine_eq] at h2; omega) ?_
  rw [← hl]
  exact ⟨.int ((kvs.length : Nat) : Int), H, I.tok _, ⟨_, rfl⟩, q⟩
theorem ge_lenD (C : Cok X W N sc k) (i : Nat) (hg : glB sc "len" = true) (hm : W.mg "len" = none) (h : okV N sc i x = true) (hG : G[i]? = some (.ob (dictO W kvs))) : GE X G (.Call (.Name "len" p) [.Name x p1] [] pos) (.int ((kvs.length : Nat) : Int)) := by
  have hw := C.wd
  obtain ⟨v1, v2, v3, v4⟩ := okV_of h
  refine ⟨fun bs' B σ H S Q q => inE (pe_callB (cr_lenDX hw) (C.gl _ hg).1 (by subst hw; exact hm) (by decide +kernel) (pa_cons (pe_var (i := i) (by rw [C.N]; exact v1) (C.vis x v2) v3 v4) pa_nil (star_cons rfl)) (by decide) (C.gl _ hg).2 (star_cons rfl) (star_all rfl)) ?_⟩
  obtain ⟨a, e1, q0, q1, q2, xs, q3, q4⟩ := S.obj hG
  refine ⟨_, e1, B, a, kvs, xs, rfl, S.bh, q3, q4, ?_⟩
  subst hw
  exact q _ B H (.refl S.bh) (.int _)
end
/-! ### < of points -/
theorem lex_p3 (u v : P3) : HT.lexLt [u.x, u.y, u.z] [v.x, v.y, v.z] = EnO.lt u v := by
  show _ = ltP u v
  unfold ltP
  rw [Bool.eq_iff_iff, decide_eq_true_eq]
  simp only [HT.lexLt]
  split
  · split
    · split
      · constructor
        · intro h
          cases h
        · intro h
          omega
      · rw [decide_eq_true_eq]
        omega
    · rw [decide_eq_true_eq]
      omega
  · rw [decide_eq_true_eq]
    omega
section
variable {X : Cx} {G : Gm} {a b : Expr} {W : Wd} {N : List Str} {sc : Scope} {k : Nat} {pos : Pos} {u v : P3}
theorem gt_lt3 (C : Cok X W N sc k) (ha : GE X G a u.en) (hb : GE X G b v.en) (hm : behindInMarks .Lt b = false) : GT X G (.Compare a [.Lt] [b] pos) (EnO.lt u v) := by
  have hu := C.room.un
  refine gt_cmp (op_ltT (by have := C.room.un; omega)) hm ha.gh hb.gh fun B H p q s h1 h2 Q k' => ?_
  obtain ⟨x, xs, rfl, q1, q2⟩ := dp_tup h1
  obtain ⟨y, ys, rfl, q3, q4⟩ := dp_tup h2
  have e1 := dpa_ints (ns := [u.x, u.y, u.z]) q2
  have e2 := dpa_ints (ns := [v.x, v.y, v.z]) q4
  subst e1 e2
  refine ⟨x, y, [u.x, u.y, u.z], [v.x, v.y, v.z], rfl, rfl, q1, q3, ?_⟩
  rw [lex_p3]
  exact k' _ B H (.refl s) (.bl _)
end
/-! ### in of a tuple -/
section
variable {X : Cx} {G : Gm} {a b : Expr} {W : Wd} {N : List Str} {sc : Scope} {k : Nat} {pos : Pos} {u : P3} {us : List P3}
def rInTD (K : PySem.W.Frag) : R2 := fun x y H Q => ∃ d ds, Dp K H x d ∧ Dp K H y (.tuple ds) ∧ SeqAt.shaped d = true ∧ SeqAt.shaped (.list ds) = true ∧ Q (.bl (ds.any fun z => PyData.eqv z d)) H
theorem op_inTD (hu : X.A.units + 65 < cLine) : OpR X (compareOp .In) (rInTD X.K) := by
  intro pins s σ H x y v u Q I rx ry h
  obtain ⟨d, ds, hd, he, sd, se, q⟩ := h
  obtain ⟨as, r1⟩ := Dp.reads I d x v hd rx
  obtain ⟨bs, r2⟩ := Dp.reads I (.tuple ds) y u he ry
  exact SeqAt.in_tuple_reads r2 r1 (SeqAt.canLay_of_shaped se) (SeqAt.canLay_of_shaped sd) (room_in_shaped sd hu) ⟨.bl _, H, I, rfl, q⟩
theorem gt_inT3 (C : Cok X W N sc k) (ha : GE X G a u.en) (hb : GE X G b (.tuple (us.map P3.en))) (hm : behindInMarks .In b = false) : GT X G (.Compare a [.In] [b] pos) (decide (u ∈ us)) := by
  have hu := C.room.un
  refine gt_cmp (op_inTD (by have := C.room.un; omega)) hm ha.gh hb.gh fun B H p q s h1 h2 Q k' => ?_
  refine ⟨u.en, us.map P3.en, h1, h2, shaped_en (α := P3) (by decide) u, shaped_en (α := List P3) (by decide) us, ?_⟩
  rw [show ((us.map P3.en).any fun z => PyData.eqv z u.en) = decide (u ∈ us) from any_en (α := P3) u us]
  exact k' _ B H (.refl s) (.bl _)
end
end DW

set_option autoImplicit false
namespace DW
open PySem PySem.Spec PyProof.Rows L2
/-! ### a dict of one's own stands still in a test: it may be walked and read there -/
def dF (W : Wd) (p : Addr) (o : Obj) (xs : Ent) : HO := .ext fun h => h.get? p = some o ∧ (p == sysModules) = false ∧ xs.length ≤ sizeLine ∧ ∃ es ep, o.ExactDict ∧ o.data = .dict es ep ∧ es.toList = xs.map (entryOfKey (nestedKind W.P W.w)) ∧ (xs.map (·.1)).Nodup
def fixD (W : Wd) (p : Addr) (o : Obj) (xs : Ent) (kvs : Kvs) : Ob where
  R B H q := q = p ∧ H p = some (dF W p o xs) ∧ Paired (KvR W.K B) kvs xs
  gr B H B' H' q e1 e2 h := ⟨h.1, e2 _ _ h.2.1, kv_mono e1 h.2.2⟩
  fr B H q r o hne h := by
    obtain ⟨rfl, h2, h3⟩ := h
    exact ⟨rfl, by rw [upd_ne hne.symm]; exact h2, h3⟩
theorem gt_fixD {X : Cx} {G : Gm} {e : Expr} {b : Bool} {W : Wd} {kvs : Kvs} {i : Nat} (hw : wdOf X = W) (hG : G[i]? = some (.ob (dictO W kvs))) (h : ∀ (p : Addr) (o : Obj) (xs : Ent), GT X (G.set i (.ob (fixD W p o xs kvs))) e b) : GT X G e b := by
  refine ⟨fun bs B σ H S Q q pins s I => ?_⟩
  obtain ⟨p, e1, q0, q1, q2, xs, q3, q4⟩ := S.obj hG
  subst hw
  obtain ⟨⟨z1, z2, o, es, ep, z3, z4, z5, z6, z7⟩, _⟩ := I.hok p _ q3
  have I' := d_write (h' := s.heap) (t' := s.toks) (a := p) (ob := dF (wdOf X) p o xs) I (by rw [q3]; exact True.intro) (Heap.SameBut.refl p s.heap) ⟨o, z3⟩ ⟨⟨z3, z1, z2, es, ep, z4, z5, z6, z7⟩, ⟨o, z3⟩, fun h1 h2 q k => ⟨k _ q.1, q.2⟩⟩
  have S' := S.mutO (R' := fixD (wdOf X) p o xs kvs) hG e1 (o' := dF (wdOf X) p o xs) ⟨rfl, upd_same, q4⟩
  refine thn ((h p o xs).run bs B σ _ S' (fun b' H1 => H1 p = some (dF (wdOf X) p o xs) ∧ Q b' (upd H1 p (dE (wdOf X) p xs))) (fun B1 H1 g => ⟨g.h _ _ upd_same, q B1 _ ⟨g.b, fun a u ha => ?_, fun a u ha => ?_, fun a ha hb => g.n a ?_ hb⟩⟩) pins _ I') fun b' s1 ⟨H1, I1, r1, r2⟩ => ?_
  · by_cases ea : a = p
    · subst ea
      rw [q3] at ha
      cases ha
      exact upd_same
    · rw [upd_ne ea]
      exact g.h a u (by rw [upd_ne ea]; exact ha)
  · have ea : a ≠ p := fun z => by
      subst z
      rw [g.n a (by rw [upd_same]; simp) q1] at ha
      cases ha
    rw [upd_ne ea]
    exact g.bh a u ha
  · by_cases ea : a = p
    · subst ea
      rw [upd_same]
      simp
    · rw [upd_ne ea]
      exact ha
  · obtain ⟨⟨w1, w2, w3, es1, ep1, w4, w5, w6, w7⟩, _⟩ := I1.hok p _ r1
    exact ⟨_, d_write (h' := s1.heap) (t' := s1.toks) (a := p) (ob := dE (wdOf X) p xs) I1 (by rw [r1]; exact True.intro) (Heap.SameBut.refl p s1.heap) ⟨o, w1⟩ (dE_new w2 w3 ⟨o, es1, ep1, w1, w4, w5, w6, w7⟩), r2⟩
/-- the keys of a dict that stands still -/
def ItF (W : Wd) (p : Addr) (o : Obj) (xs : Ent) : It := ⟨fun i H => H p = some (dF W p o xs) ∧ i < xs.length, fun i H x H' => H' = H ∧ ∃ q, xs[i]? = some q ∧ x = .ref q.2.1, fun i H => H p = some (dF W p o xs) ∧ xs.length ≤ i⟩
theorem turn_fix {P : Program} {w : World} {K : PySem.W.Frag} {tg : Expr} {W : Wd} {p : Addr} {o : Obj} {xs : Ent} {es : Array DictEntry} {ep : Nat} (it : Addr) (hod : o.data = .dict es ep) : Turn P w K tg (ItF W p o xs) [it] it (fun i h => h.IsKeyIter it p i xs.length ep) where
  mem := by simp
  obj := fun i h st b hb => by
    have e : b = it := by simpa using hb
    subst e
    obtain ⟨oi, e, c, dd⟩ := st
    exact ⟨oi, e, fun v z => by rw [dd] at z; cases z⟩
  keep := fun i h h' st k => by
    obtain ⟨oi, e, r⟩ := st
    exact ⟨oi, k it (by simp) oi e, r⟩
  item := by
    intro X hP hw hK hc i pins s σ H E I hf st hg
    subst hP hw hK
    obtain ⟨hd, hi⟩ := hg
    obtain ⟨f0, f1, f2, f3, f4, f5⟩ := hf it (by simp)
    obtain ⟨⟨hgd, z1, z2, es', ep', z4, hdt, z6, z7⟩, _⟩ := I.hok p _ hd
    rw [hod] at hdt
    cases hdt
    have hsz : es.size = xs.length := by
      have := congrArg List.length z6
      rwa [List.length_map, Array.length_toList] at this
    have hen : es[i]? = some (entryOfKey (nestedKind W.P W.w) xs[i]) := by
      rw [← Array.getElem?_toList, z6, List.getElem?_map, List.getElem?_eq_getElem hi]
      rfl
    refine next_key_item st hgd hod hsz hen fun h' st' sb => ?_
    have I1 : Inv X pins σ H { s with heap := h' } := I.turned (t' := s.toks) (fun b ob hb e => (sb.2 b hb).trans e) f0 f1 f3 f4 f5
    obtain ⟨oi, e, c, dd⟩ := id st'
    exact ⟨_, rfl, go_of (s := { s with heap := h' }) e c dd (by decide) ⟨.ref xs[i].2.1, H, I1, rfl, ⟨rfl, xs[i], List.getElem?_eq_getElem hi, rfl⟩, st', fun b hb => (hf b hb).1⟩⟩
  done := by
    intro X hP hw hK hc i pins s σ H E I hf st hg
    subst hP hw hK
    obtain ⟨hd, hi⟩ := hg
    obtain ⟨f0, f1, f2, f3, f4, f5⟩ := hf it (by simp)
    obtain ⟨⟨hgd, z1, z2, es', ep', z4, hdt, z6, z7⟩, _⟩ := I.hok p _ hd
    rw [hod] at hdt
    cases hdt
    have hsz : es.size = xs.length := by
      have := congrArg List.length z6
      rwa [List.length_map, Array.length_toList] at this
    exact next_key_end (I.ok.hd hc) st hgd hod hsz hi fun h' eb => ⟨rfl, I.turned (t' := s.toks) (fun b ob hb e => eb b ob hb e) f0 f1 f3 f4 f5⟩
  self := fun A i s Q E st h => by
    obtain ⟨oi, e, c, dd⟩ := st
    have ti : s.TypeIs (.ref it) "dict_keyiterator" := ⟨oi, e, c⟩
    refine wpAny_pyIter_slot ti F.slot_dict_keyiterator_iter (wpAny_call_entry F.slot_dict_keyiterator_iter ti F.entry_dict_keyiterator_iter ?_ (F.args_dict_keyiterator_iter_1 _))
    show wpAny _ _ (ret (.ref it)) _ _ s
    exact wpAny_pure ⟨_, rfl, "dict_keyiterator", _, ti, F.slot_dict_keyiterator_next.lookup, h⟩
def iFix (W : Wd) (td : TE) : TI := fun σ H R => td σ H fun x H1 => ∃ p o xs, x = .ref p ∧ H1 p = some (dF W p o xs) ∧ R (ItF W p o xs) H1
theorem pi_fix {X : Cx} {W : Wd} {tg e : Expr} {td : TE} (he : PE X e td) : PI X tg e (iFix W td) := by
  refine ⟨fun pins s σ H R I h => ?_⟩
  refine thn (he.run pins s σ H _ I h) fun u s1 ⟨x, H1, I1, rx, p, o, xs, ex, hd, q⟩ => ?_
  subst ex
  obtain rfl : u = Value.ref p := rx
  obtain ⟨⟨hgd, z1, z2, es, ep, z4, hdt, z6, z7⟩, _⟩ := I1.hok p _ hd
  have hsz : es.size = xs.length := by
    have := congrArg List.length z6
    rwa [List.length_map, Array.length_toList] at this
  refine iter_keys z1 hgd z4 hdt (pi_one (tk := s1.toks) I1 _ (turn_fix (W := W) (xs := xs) _ hdt) ⟨_, Heap.get?_push_size _ rfl, rfl, ?_⟩ q)
  rw [hsz] <;> rfl
theorem paired_get {α β : Type} {R : α → β → Prop} {xs : List α} {ys : List β} (r : Paired R xs ys) {i : Nat} {y : β} (h : ys[i]? = some y) : ∃ x, xs[i]? = some x ∧ R x y := by
  induction r generalizing i with
  | nil => cases h
  | @cons p q ps qs a t ih =>
    cases i with
    | zero =>
      cases h
      exact ⟨p, rfl, a⟩
    | succ i => exact ih h
section
variable {X : Cx} {G : Gm} {tg e : Expr} {W : Wd} {N : List Str} {sc : Scope} {k : Nat} {p1 pos : Pos} {x : Str} {kvs : Kvs} {key : NestedKey} {d : D} {pp : Addr} {o : Obj} {xs : Ent}
theorem giw_fix (C : Cok X W N sc k) (i : Nat) (h : okV N sc i x = true) (hG : G[i]? = some (.ob (fixD W pp o xs kvs))) : GIw X G tg (.Name x p1) (kvs.map fun q => q.1.data) := by
  obtain ⟨v1, v2, v3, v4⟩ := okV_of h
  have hw := C.wd
  refine ⟨fun bs B σ H S R q => inI (pi_fix (W := W) (pe_var (i := i) (by rw [C.N]; exact v1) (C.vis x v2) v3 v4)) ?_⟩
  obtain ⟨p, e1, q0, q1, q2, e2, q3, q4⟩ := S.obj hG
  subst e2 hw
  have ll : kvs.length = xs.length := Paired.length q4
  refine ⟨_, e1, p, o, xs, rfl, q3, q _ B H (.refl S.bh) ⟨fun i H' s hi => ⟨s _ _ q3, ?_⟩, fun i H' s hi => ⟨s _ _ q3, ?_⟩, fun i B' H' y H'' s1 s2 s3 hi yy => ?_⟩⟩
  · rw [List.length_map] at hi
    omega
  · rw [List.length_map] at hi
    omega
  · obtain ⟨e, z, hz, ey⟩ := yy
    subst e ey
    obtain ⟨a, ha, r⟩ := paired_get q4 hz
    refine ⟨a.1.data, B', by rw [List.getElem?_map, ha]; rfl, .refl s3, ?_⟩
    have := r.2.2.1
    rw [← r.1] at this
    exact moD this s2
def rDGF (W : Wd) : R2 := fun x y H Q => ∃ (B : Hp) (p b : Addr) (kvs : Kvs) (o : Obj) (xs : Ent) (key : NestedKey) (d : D), x = .ref p ∧ y = .ref b ∧ Same B H ∧ H p = some (dF W p o xs) ∧ Paired (KvR W.K B) kvs xs ∧ key.depth ≤ 8 ∧ Dp W.K B (.ref b) key.data ∧ dget kvs key = some d ∧ ∀ v, Dp W.K B v d → Q v H
theorem dF_of {pins : List (Addr × Obj)} {σ : L2.St} {H B : Hp} {s : Shared} {p : Addr} {o : Obj} (hw : wdOf X = W) (I : Inv X pins σ H s) (sB : Same B H) (h : H p = some (dF W p o xs)) (r : Paired (KvR W.K B) kvs xs) : s.heap.DictOfH (nestedKind X.prog X.w) p xs := by
  subst hw
  obtain ⟨⟨ho, q1, q2, es, ep, h2, h3, h4, h5⟩, _⟩ := I.hok p _ h
  refine ⟨o, es, ep, ho, h2, h3, h4, fun q hq => ?_, h5⟩
  have : ∀ {kvs : Kvs} {xs : Ent}, Paired (KvR (wdOf X).K B) kvs xs → q ∈ xs → q.1.depth ≤ 8 ∧ Dp X.K B (.ref q.2.1) q.1.data := fun {kvs xs} r hm => by
    induction r with
    | nil => cases hm
    | @cons p q' ps qs h t ih =>
      rcases List.mem_cons.mp hm with e | e
      · subst e
        exact ⟨h.2.1, h.2.2.1⟩
      · exact ih e
  obtain ⟨a1, a2⟩ := this r hq
  exact ⟨dp_nest I q.1 _ _ (moD a2 sB) rfl, a1⟩
theorem pe_dgetF {o i : Expr} {td ty : TE} (hw : wdOf X = W) (hu : X.A.units + 64 < cLine) (ho : PE X o td) (hi : PE X i ty) (hs : NoSl i) : PE X (.Subscript o i pos) (tOp (rDGF W) td ty) := by
  refine ⟨fun pins s σ H Q I h => ?_⟩
  refine subD_of PySem.F.slot_dict_getitem.lookup hs (thn (ho.run pins s σ H _ I h) fun u s1 ⟨x, H1, I1, rx, q1⟩ => thn (hi.run pins s1 σ H1 _ I1 q1) fun iv s2 ⟨y, H2, I2, ry, q2⟩ => ?_)
  obtain ⟨B, p, b, kvs, ob, xs, key, d, rfl, rfl, sB, hp, r, hd, hb, hg, q⟩ := q2
  obtain rfl : u = Value.ref p := rx
  obtain rfl : iv = Value.ref b := ry
  have dd := dF_of hw I2 sB hp r
  subst hw
  refine ⟨dd.typeIs, ?_⟩
  have hk : (nestedKind X.prog X.w).is s2.heap key b := ⟨dp_nest I2 key _ _ (moD hb sB) rfl, hd⟩
  rcases kv_get r key with ⟨z, _⟩ | ⟨d', a, w', g1, g2, v, rv, hv⟩
  · rw [z] at hg
    cases hg
  · rw [g1] at hg
    cases hg
    refine wpAny_getItem_heap (by show X.A.units + 1 + 8 < cLine; omega) hk dd g2 ⟨v, H2, I2.tok _, rv, q v hv⟩
theorem ge_dgetF (C : Cok X W N sc k) (i : Nat) (h : okV N sc i x = true) (hG : G[i]? = some (.ob (fixD W pp o xs kvs))) (he : GE X G e key.data) (hd : key.depth ≤ 8) (hk : ∃ ks, key = .tup ks) (hg : dget kvs key = some d) (hs : NoSl e) : GE X G (.Subscript (.Name x p1) e pos) d := by
  obtain ⟨h1, h2, h3, h4⟩ := okV_of h
  have hw := C.wd
  refine ⟨fun bs B σ H S Q q => inE (pe_dgetF hw (by have := C.room.un; omega) (pe_var (i := i) (by rw [C.N]; exact h1) (C.vis x h2) h3 h4) pE hs) ?_⟩
  obtain ⟨p, e1, q0, q1, q2, e2, q3, q4⟩ := S.obj hG
  subst e2
  refine ⟨_, e1, he.run bs B σ H S _ fun v B1 H1 g r => ?_⟩
  subst hw
  obtain ⟨ks, rfl⟩ := hk
  obtain ⟨b, vs, rfl, hb1, hb2⟩ := dp_tup (ds := NestedKey.datas ks) r
  exact ⟨B1, p, b, kvs, o, xs, .tup ks, d, rfl, rfl, g.bh, g.h _ _ q3, kv_mono g.b q4, hd, r, hg, fun v hv => q v B1 H1 g hv⟩
end
end DW

set_option autoImplicit false
namespace DW
open PySem PySem.Spec PyProof.Rows L2
/-! ### sides in a dict, each told once -/
def kvS (L : List (P3 × P3)) : Kvs := L.map fun s => (nkE s, .int 1)
theorem kvS_none {L : List (P3 × P3)} {s : P3 × P3} (h : s ∉ L) : dget (kvS L) (nkE s) = none := by
  unfold dget kvS
  rw [List.find?_eq_none.mpr, Option.map_none]
  intro q hq
  obtain ⟨t, ht, rfl⟩ := List.mem_map.mp hq
  rw [decide_eq_true_eq]
  exact fun e => h (nkE_inj _ _ e ▸ ht)
theorem kvS_some {L : List (P3 × P3)} {s : P3 × P3} (h : s ∈ L) : dget (kvS L) (nkE s) = some (.int 1) := by
  unfold dget kvS
  induction L with
  | nil => cases h
  | cons t L ih =>
    rw [List.map_cons, List.find?_cons]
    by_cases e : nkE t = nkE s
    · rw [decide_eq_true e]
      rfl
    · rw [decide_eq_false e]
      rcases List.mem_cons.mp h with q | q
      · exact (e (by rw [q])).elim
      · exact ih q
theorem kvS_snoc {L : List (P3 × P3)} {s : P3 × P3} (h : s ∉ L) : dput (kvS L) (nkE s) (.int 1) = kvS (L ++ [s]) := by
  unfold dput
  rw [kvS_none h]
  unfold kvS
  rw [if_neg (by simp), List.map_append]
  rfl
theorem kvS_has {L : List (P3 × P3)} {s : P3 × P3} (h : s ∈ L) : (dget (kvS L) (nkE s)).isSome = true := by
  rw [kvS_some h]
  rfl
section
variable {us : List P3} {v : P3}
theorem rings_at (hd : Dim3 us) (xv : Ext us v) : ((facesL us).filter fun p => decide (v ∈ ringOf us p)).length = (onsP (facesL us) v).length := by
  unfold onsP
  congr 1
  refine List.filter_congr fun p hp => ?_
  have hF := mem_faces.mp hp
  rw [decide_eq_decide, ringOf_iff hF]
  exact ⟨fun h => (mem_ons.mp h.mem).2, fun h => ext_ons xv h⟩
theorem take_snoc {α : Type} {L : List α} {i : Nat} {a : α} (h : L[i]? = some a) : L.take (i + 1) = L.take i ++ [a] := by
  rw [List.take_add_one, h]
  rfl
/-- a side of the ring at hand has not been told yet -/
theorem side_new (hd : Dim3 us) {i j : Nat} {p : Pl} {s : P3 × P3} (hp : (facesL us)[i]? = some p) (hs : (sidesOf (ringOf us p))[j]? = some s) : s ∉ sidesAll us ((facesL us).take i) ++ (sidesOf (ringOf us p)).take j := by
  have nd := sides_nodup hd (facesL_found hd)
  have e : sidesAll us (facesL us) = (sidesAll us ((facesL us).take i) ++ (sidesOf (ringOf us p)).take j) ++ s :: ((sidesOf (ringOf us p)).drop (j + 1) ++ sidesAll us ((facesL us).drop (i + 1))) := by
    have h1 : facesL us = (facesL us).take i ++ p :: (facesL us).drop (i + 1) := by
      obtain ⟨hi, rfl⟩ := List.getElem?_eq_some_iff.mp hp
      rw [← List.drop_eq_getElem_cons hi, List.take_append_drop]
    have h2 : sidesOf (ringOf us p) = (sidesOf (ringOf us p)).take j ++ s :: (sidesOf (ringOf us p)).drop (j + 1) := by
      obtain ⟨hj, rfl⟩ := List.getElem?_eq_some_iff.mp hs
      rw [← List.drop_eq_getElem_cons hj, List.take_append_drop]
    have h3 : sidesAll us (facesL us) = sidesAll us ((facesL us).take i) ++ (sidesOf (ringOf us p) ++ sidesAll us ((facesL us).drop (i + 1))) := by
      conv =>
        lhs
        rw [h1]
      unfold sidesAll
      rw [List.flatMap_append, List.flatMap_cons]
    rw [h3]
    conv =>
      lhs
      rw [h2]
    simp only [List.append_assoc, List.cons_append]
  rw [e] at nd
  intro h
  exact (List.nodup_append.mp nd).2.2 s h s List.mem_cons_self rfl
end
end DW

set_option autoImplicit false
namespace DW
open PySem PySem.Spec PyProof.Rows L2
/-! ### len(set(..)) -/
def rLenSet (K : PySem.W.Frag) (P : Program) (w : World) : List V → Hp → VK → Prop := fun vs H Q => ∃ (B : Hp) (a : Addr) (L : List TK), vs = [V.ref a] ∧ Same B H ∧ H a = some (SetTO P w a L) ∧ (∀ p ∈ L, Dp K B (.ref p.1) (.tuple (p.2.map .int))) ∧ Q (.int ((L.length : Nat) : Int)) H
theorem cr_lenSet {X : Cx} : CallR X (.builtin "len") (rLenSet X.K X.prog X.w) := by
  intro pins s σ H vs us Q I r h
  obtain ⟨B, a, L, rfl, sB, ha, hD, q⟩ := h
  have R0 : SetT0 X.prog X.w s.heap a L := (I.hok a _ ha).1
  have hT : ∀ p ∈ L, IsT X.prog X.w s.heap p.2 p.1 := fun p hp => by
    obtain ⟨b, xs, e, q1, q2⟩ := dp_tup (hD p hp)
    cases e
    rw [dpa_ints q2] at q1
    exact I.isT (same_sqT sB q1)
  obtain ⟨es, ep, t, R⟩ := R0.full hT
  rw [Vals.ref1 r]
  obtain ⟨o, ho, hex, hdat⟩ := R.ob
  have hsz := R.size
  have hfew := R.few
  refine call_len_set ho hex hdat R.fits (by omega) ?_
  rw [hsz]
  exact ⟨.int ((L.length : Nat) : Int), H, I.tok _, ⟨_, rfl⟩, q⟩
theorem ge_lenSet {α : Type} [DecidableEq α] [En α] [EnO α] [EnT α] {X : Cx} {G : Gm} {e : Expr} {W : Wd} {N : List Str} {sc : Scope} {k : Nat} {p p2 pos pos2 : Pos} {us : List α} (C : Cok X W N sc k) (hg : glB sc "len" = true) (hm : W.mg "len" = none) (hg2 : glB sc "set" = true) (hm2 : W.mg "set" = none) (ha : GL X G e (us.map En.en)) (h62 : (ddp us).length ≤ 62) (he : nst e = true) :
    GE X G (.Call (.Name "len" p) [.Call (.Name "set" p2) [e] [] pos2] [] pos) (.int ((ddp us).length : Int)) := by
  have hw := C.wd
  subst hw
  have hu : X.A.units + 64 < cLine := by have := C.room.un; omega
  refine ⟨fun bs B σ H S Q q => inE (pe_callB cr_lenSet (C.gl _ hg).1 hm (by decide +kernel) (pa_cons (pe_callTy (cr_setX C.calm hu) (C.gl _ hg2).1 hm2 (by decide +kernel) (pa_cons pE pa_nil (star_cons he)) (by decide) (C.gl _ hg2).2 (star_cons he) (star_all rfl)) pa_nil (star_cons rfl)) (by decide) (C.gl _ hg).2 (star_cons rfl) (star_all rfl)) (ha.run bs B σ H S _ fun l vs B1 H1 g1 r1 r2 => ?_)⟩
  rw [en_tl] at r2
  refine ⟨B1, l, vs, us.map EnT.tl, (ddp us).map EnT.tl, rfl, g1.bh, r1, r2, fun k hk => ?_, by rw [List.length_map]; exact h62, fun a L ha2 hnd h1 h2 => ?_⟩
  · obtain ⟨u, hu2, rfl⟩ := List.mem_map.mp hk
    exact List.mem_map.mpr ⟨u, mem_ddp.mpr hu2, rfl⟩
  · have g2 : Grow B1 H1 B1 (upd H1 a (SetTO X.prog X.w a L)) := .own g1.bh ha2
    refine ⟨B1, a, L, rfl, g2.bh, upd_same, fun p hp => (h1 p hp).2, ?_⟩
    have hlen : L.length = (ddp us).length := by
      have n2 : ((ddp us).map (EnT.tl (α := α))).Nodup := by
        rw [List.nodup_iff_pairwise_ne, List.pairwise_map]
        exact (List.nodup_iff_pairwise_ne.mp (ddp_nodup us)).imp fun {a b} hne e => hne (EnT.inj _ _ e)
      have := len_eq_of hnd n2 fun k => by
        constructor
        · intro hk
          obtain ⟨p, hp, rfl⟩ := List.mem_map.mp hk
          obtain ⟨u, hu2, e⟩ := List.mem_map.mp (h1 p hp).1
          exact List.mem_map.mpr ⟨u, mem_ddp.mpr hu2, e⟩
        · intro hk
          obtain ⟨u, hu2, rfl⟩ := List.mem_map.mp hk
          exact h2 _ (List.mem_map.mpr ⟨u, mem_ddp.mp hu2, rfl⟩)
      rw [List.length_map, List.length_map] at this
      exact this
    rw [hlen]
    exact q _ B1 _ (g1.trans g2) (.int _)
/-! ### except X: -/
theorem gs_try_only {X : Cx} {G : Gm} {W : Wd} {N : List Str} {sc : Scope} {k : Nat} {E : DE} {bn : Str} {Cb : Addr} {body suite : List Stmt} {b₀ : Stmt} {np pos pos' : Pos} {Hs : Str → Gm → Prop} (C : Cok X W N sc k) (hbn : W.mg bn = some (.ref Cb)) (hgb : glB sc bn = true)
    (hb : ∀ X', Cok X' W N sc k → GSs X' G body ⟨E.nx, orX E.rt Hs, E.bk, E.ct⟩)
    (hs : ∀ x G', Hs x G' → ∃ Ca, ExK W x Ca ∧ PySem.W.exmOne W.K (.ref Ca) (.ref Cb) = some true ∧ ∀ Xs, Cnm Xs W N sc →
      GSs Xs G' (b₀ :: suite) ⟨E.nx, noX E.rt, E.bk, E.ct⟩) :
    GS X G (.Try body [.ExceptHandler (some (.Name bn np)) none (b₀ :: suite) pos'] [] [] pos) E := by
  have hw := C.wd
  subst hw
  refine ⟨fun bs B σ H S De mm => ?_⟩
  obtain ⟨Wx, tk, qx⟩ := mm.xm.xe
  refine inS (ps_try_only (Wout := Wx)
    (tb := fun W' => fun D σ H => ∀ (pn : List (Addr × Obj)) (xe : Value → Shared → Prop), Takes (X.tr pn xe) W' → PassesOwn (model X.prog X.w) X.A X.env xe → tB1 (X.tr pn xe) body D σ H)
    (ts := fun a cls d => fun D σ H => ∀ (oe : Obj) (pn : List (Addr × Obj)), Zc cls d oe → (∃ vs, oe.data = .fields vs) → tB1 (X.suite a ((a, oe) :: pn)) (b₀ :: suite) D σ H)
    mm.xm.top.1 mm.xm.top.2 ⟨(C.gl bn hgb).1, (C.gl bn hgb).2, .inl hbn⟩ tk
    (fun W' pn xe tk' po => ⟨fun pins s σ H D I h => pB.run pins s σ H D I (h pn xe tk' po)⟩)
    (fun a oe cls d pn hz hd => ⟨fun pins s σ H D I h => pB.run pins s σ H D I (h oe pn hz hd)⟩)) ?_
  intro pn xe tk' po
  have C' : Cok (X.tr pn xe) (wdOf X) N sc k := ⟨⟨rfl, C.nd, C.N, C.vis, C.loc, C.loc1, C.gl, C.fr, C.bk⟩, C.calm, C.room, po⟩
  refine (hb (X.tr pn xe) C').run bs B σ H S De ⟨mm.nx, mm.rf, mm.ro, mm.bk, mm.ct, ⟨mm.xm.top, _, tk', fun x C1 G' B' σ' H' hr hm S' => ?_⟩⟩
  obtain ⟨Ca, F, hx, hsu⟩ := hs x G' hr
  have e1 := F.mg.symm.trans hm
  cases e1
  refine ⟨true, hx, fun _ a ha oe pn2 hz hd => ?_, fun z => nomatch z⟩
  have Cs : Cnm (X.suite a ((a, oe) :: pn2)) (wdOf X) N sc := ⟨rfl, C.nd, C.N, C.vis, C.loc, C.loc1, C.gl, C.fr, C.bk⟩
  exact (hsu _ Cs).run bs B' _ H' S' _ ⟨mm.nx, mm.rf, mm.ro, mm.bk, mm.ct, ⟨mm.xm.top, fun _ _ _ _ => False, takes0, fun x C G B σ H hr => hr.elim⟩⟩
/-! ### not in of a dict that stands still -/
section
variable {X : Cx} {G : Gm} {e : Expr} {W : Wd} {N : List Str} {sc : Scope} {k : Nat} {pos p1 : Pos} {x : Str} {kvs : Kvs} {key : NestedKey} {pp : Addr} {o : Obj} {xs : Ent}
def rDIF (W : Wd) : R2 := fun x y H Q => ∃ (B : Hp) (p b : Addr) (kvs : Kvs) (o : Obj) (xs : Ent) (key : NestedKey), x = .ref b ∧ y = .ref p ∧ Same B H ∧ H p = some (dF W p o xs) ∧ Paired (KvR W.K B) kvs xs ∧ key.depth ≤ 8 ∧ Dp W.K B (.ref b) key.data ∧ Q (.bl (!(dget kvs key).isSome)) H
theorem op_ninFX (hw : wdOf X = W) (hu : X.A.units + 64 < cLine) : OpR X (compareOp .NotIn) (rDIF W) := by
  intro pins s σ H x y v u Q I rx ry h
  obtain ⟨B, p, b, kvs, o, xs, key, rfl, rfl, sB, hp, r, hd, hb, q⟩ := h
  obtain rfl : v = Value.ref b := rx
  obtain rfl : u = Value.ref p := ry
  have dd := dF_of hw I sB hp r
  have h1 : (p == sysModules) = false := (I.hok p _ hp).1.2.1
  subst hw
  have hk : (nestedKind X.prog X.w).is s.heap key b := ⟨dp_nest I key _ _ (moD hb sB) rfl, hd⟩
  refine wpAny_notIn_heap (by show X.A.units + 1 + 8 < cLine; omega) hk h1 dd ?_
  rw [← kv_isSome r key]
  exact ⟨.bl (!(dget kvs key).isSome), H, I.tok _, rfl, q⟩
theorem gt_ninF (C : Cok X W N sc k) (i : Nat) (h : okV N sc i x = true) (hG : G[i]? = some (.ob (fixD W pp o xs kvs))) (he : GE X G e key.data) (hd : key.depth ≤ 8) (hk : ∃ ks, key = .tup ks) (hm : behindInMarks .NotIn (.Name x p1) = false) : GT X G (.Compare e [.NotIn] [.Name x p1] pos) (!(dget kvs key).isSome) := by
  obtain ⟨h1, h2, h3, h4⟩ := okV_of h
  have hw := C.wd
  refine ⟨fun bs B σ H S Q q => inT (pt_cmpR (op_ninFX hw (by have := C.room.un; omega)) pE (pe_var (i := i) (by rw [C.N]; exact h1) (C.vis x h2) h3 h4) hm) (he.run bs B σ H S _ fun v B1 H1 g r => ?_)⟩
  obtain ⟨p, e1, q0, q1, q2, e2, q3, q4⟩ := (S.gro g).obj hG
  subst e2 hw
  obtain ⟨ks, rfl⟩ := hk
  obtain ⟨b, vs, rfl, hb1, hb2⟩ := dp_tup (ds := NestedKey.datas ks) r
  exact ⟨_, e1, B1, p, b, kvs, o, xs, .tup ks, rfl, rfl, g.bh, q3, q4, hd, r, _, rfl, q B1 H1 g⟩
end
/-! ### points of a bowl -/
def spotH (t : Int) : P3 := ⟨2 * (t % 13 - 6), 2 * (t / 13 % 13 - 6), 2 * (t % 13 - 6) * (t % 13 - 6) + 2 * (t / 13 % 13 - 6) * (t / 13 % 13 - 6)⟩
structure BowlP (us : List P3) : Prop where
  ext : ∀ v ∈ us, Ext us v
  par : ∀ P ∈ us, ∀ Q ∈ us, 2 * ((P.x + Q.x) / 2) = P.x + Q.x ∧ 2 * ((P.y + Q.y) / 2) = P.y + Q.y ∧ 2 * ((P.z + Q.z) / 2) = P.z + Q.z
  ne : us ≠ []
  len : us.length ≤ 40
  bd : ∀ u ∈ us, P3.Bd 400 u
theorem sq_nn (a : Int) : 0 ≤ a * a := by
  rcases Int.lt_or_le a 0 with h | h
  · have := Int.mul_pos_of_neg_of_neg h h
    omega
  · exact Int.mul_nonneg h h
theorem sq_gt {a : Int} (h : a ≠ 0) : 0 < a * a := by
  rcases Int.lt_or_lt_of_ne h with q | q
  · exact Int.mul_pos_of_neg_of_neg q q
  · exact Int.mul_pos q q
theorem bowl_ext {us : List P3} (h : ∀ v ∈ us, ∃ t, v = spotH t) : ∀ v ∈ us, Ext us v := fun v hv => by
  obtain ⟨t, rfl⟩ := h v hv
  refine ⟨hv, ⟨-(2 * (t % 13 - 6)), -(2 * (t / 13 % 13 - 6)), 1⟩, fun R hR hne => ?_⟩
  obtain ⟨s, rfl⟩ := h R hR
  unfold spotH at hne ⊢
  generalize t % 13 - 6 = a at *
  generalize t / 13 % 13 - 6 = b at *
  generalize s % 13 - 6 = c at *
  generalize s / 13 % 13 - 6 = d at *
  have e : prod (⟨-(2 * a), -(2 * b), 1⟩ : P3) (way (⟨2 * a, 2 * b, 2 * a * a + 2 * b * b⟩ : P3) ⟨2 * c, 2 * d, 2 * c * c + 2 * d * d⟩) = 2 * ((c - a) * (c - a) + (d - b) * (d - b)) := by
    simp only [prod, way]
    grind
  rw [e]
  have h1 := sq_nn (c - a)
  have h2 := sq_nn (d - b)
  by_cases q : c = a ∧ d = b
  · obtain ⟨rfl, rfl⟩ := q
    exact (hne rfl).elim
  · have : 0 < (c - a) * (c - a) ∨ 0 < (d - b) * (d - b) := by
      by_cases q1 : c = a
      · right
        have : d - b ≠ 0 := fun z => q ⟨q1, by omega⟩
        exact sq_gt this
      · left
        have : c - a ≠ 0 := by omega
        exact sq_gt this
    omega
def halfH (t : Int) : P3 := ⟨t % 13 - 6, t / 13 % 13 - 6, (t % 13 - 6) * (t % 13 - 6) + (t / 13 % 13 - 6) * (t / 13 % 13 - 6)⟩
theorem spot_half (t : Int) : spotH t = sm 2 (halfH t) := by
  apply P3.ext
  · rfl
  · rfl
  · show 2 * (t % 13 - 6) * (t % 13 - 6) + 2 * (t / 13 % 13 - 6) * (t / 13 % 13 - 6) = 2 * ((t % 13 - 6) * (t % 13 - 6) + (t / 13 % 13 - 6) * (t / 13 % 13 - 6))
    grind
def linH (s : Sl7) (u : P3) : P3 := if s.m = 1 then swXY (shZ s.c (shY s.b (shX s.a u))) else shZ s.c (shY s.b (shX s.a u))
theorem slant_sm (s : Sl7) (u : P3) : slantH s (sm 2 u) = ad (sm 2 (linH s u)) ⟨s.d, s.e, s.f⟩ := by
  have e : shZ s.c (shY s.b (shX s.a (sm 2 u))) = sm 2 (shZ s.c (shY s.b (shX s.a u))) := by
    apply P3.ext
    all_goals
      simp only [shZ, shY, shX, sm]
      grind
  unfold slantH linH
  dsimp only
  rw [e]
  split
  · rfl
  · rfl
theorem spot_bd (t : Int) : P3.Bd 9 (spotH t) := by
  have hx : Bd 4 (t % 13 - 6) := by
    show (t % 13 - 6).natAbs < 2 ^ 4
    omega
  have hy : Bd 4 (t / 13 % 13 - 6) := by
    show (t / 13 % 13 - 6).natAbs < 2 ^ 4
    omega
  have h1 : ∀ {a : Int}, -6 ≤ a → a ≤ 6 → 0 ≤ a * a ∧ a * a ≤ 36 := fun {a} h h' => by
    refine ⟨sq_nn a, ?_⟩
    have := Int.mul_nonneg (show 0 ≤ 6 - a by omega) (show 0 ≤ 6 + a by omega)
    have e : (6 - a) * (6 + a) = 36 - a * a := by grind
    omega
  have x1 := h1 (a := t % 13 - 6) (by omega) (by omega)
  have y1 := h1 (a := t / 13 % 13 - 6) (by omega) (by omega)
  refine ⟨?_, ?_, ?_⟩
  · show (2 * (t % 13 - 6)).natAbs < 2 ^ 9
    omega
  · show (2 * (t / 13 % 13 - 6)).natAbs < 2 ^ 9
    omega
  · show (2 * (t % 13 - 6) * (t % 13 - 6) + 2 * (t / 13 % 13 - 6) * (t / 13 % 13 - 6)).natAbs < 2 ^ 9
    rw [Int.mul_assoc, Int.mul_assoc]
    generalize (t % 13 - 6) * (t % 13 - 6) = a at *
    generalize (t / 13 % 13 - 6) * (t / 13 % 13 - 6) = b at *
    omega
theorem bowl_plain {ts : List Int} (hn : ts ≠ []) (hl : ts.length ≤ 40) : BowlP (ts.map spotH) := by
  refine ⟨bowl_ext fun v hv => ?_, fun P hP Q hQ => ?_, fun e => hn (List.map_eq_nil_iff.mp e), by rw [List.length_map]; exact hl, fun u hu => ?_⟩
  · obtain ⟨t, _, rfl⟩ := List.mem_map.mp hv
    exact ⟨t, rfl⟩
  · obtain ⟨t, _, rfl⟩ := List.mem_map.mp hP
    obtain ⟨s, _, rfl⟩ := List.mem_map.mp hQ
    rw [spot_half, spot_half]
    simp only [sm]
    omega
  · obtain ⟨t, _, rfl⟩ := List.mem_map.mp hu
    exact (spot_bd t).mono (by decide)
theorem bowl_slant {ts : List Int} {s : Sl7} (bs : Sl7.Bd 80 s) (hn : ts ≠ []) (hl : ts.length ≤ 40) : BowlP ((ts.map spotH).map (slantH s)) := by
  have h0 := bowl_plain hn hl
  have af := aff_slant s
  refine ⟨fun v hv => ?_, fun P hP Q hQ => ?_, fun e => h0.ne (List.map_eq_nil_iff.mp e), by rw [List.length_map]; exact h0.len, fun u hu => ?_⟩
  · obtain ⟨u, hu, rfl⟩ := List.mem_map.mp hv
    exact af.ext.mpr (h0.ext u hu)
  · obtain ⟨u, hu, rfl⟩ := List.mem_map.mp hP
    obtain ⟨v, hv, rfl⟩ := List.mem_map.mp hQ
    obtain ⟨t, _, rfl⟩ := List.mem_map.mp hu
    obtain ⟨r, _, rfl⟩ := List.mem_map.mp hv
    rw [spot_half, spot_half, slant_sm, slant_sm]
    simp only [sm, ad]
    omega
  · obtain ⟨v, hv, rfl⟩ := List.mem_map.mp hu
    obtain ⟨t, _, rfl⟩ := List.mem_map.mp hv
    exact slantH_bd bs ((spot_bd t).mono (by decide))
section
variable {us ms : List P3}
theorem BowlP.mid (h : BowlP us) {a b : P3} (ha : a ∈ us) (hb : b ∈ us) (w : P3) : 2 * prod w (midP a b) = prod w a + prod w b := by
  obtain ⟨h1, h2, h3⟩ := h.par a ha b hb
  have e : ∀ m : P3, 2 * prod w m = w.x * (2 * m.x) + w.y * (2 * m.y) + w.z * (2 * m.z) := fun m => by
    simp only [prod]
    grind
  rw [e]
  show w.x * (2 * ((a.x + b.x) / 2)) + w.y * (2 * ((a.y + b.y) / 2)) + w.z * (2 * ((a.z + b.z) / 2)) = _
  rw [h1, h2, h3]
  simp only [prod]
  grind
theorem BowlP.same (h : BowlP us) (c : Chg us ms) : SameH us ms := by
  refine .of_ext (fun w d k R hR => ?_) fun v hv => c.all v hv.mem
  rcases c.of R hR with q | ⟨a, ha, b, hb, rfl⟩
  · exact k R q
  · have := h.mid ha hb w
    have := k a ha
    have := k b hb
    omega
theorem BowlP.body (h : BowlP us) (hd : Dim3 us) : bodyA us = setE us :=
  strict_eq (body_sorted us) (setE_lt us) fun v => by
    rw [mem_body hd, mem_setE]
    exact ⟨fun x => x.mem, h.ext v⟩
/-! ### flat or not -/
def crossF (us : List P3) : List P3 := ((waysP us).map (cross ((waysP us).headD P3.O))).filter fun c => !decide (c = P3.O)
def flatA (us : List P3) : Bool := if crossF us = [] then true else decide (((waysP us).filter fun w => !decide (prod ((crossF us).headD P3.O) w = 0)) = [])
theorem flat_dim (hw : waysP us ≠ []) : flatA us = true ↔ ¬ Dim3 us := by
  have mW := head_mem (d := P3.O) hw
  have hne : us ≠ [] := fun e => by
    obtain ⟨R, hR, _⟩ := mem_waysP.mp mW
    rw [e] at hR
    cases hR
  have hP := head_mem (d := P3.O) hne
  have eC : crossF us = ((waysP us).map (cross ((waysP us).headD P3.O))).filter fun c => !decide (c = P3.O) := rfl
  unfold flatA
  generalize (waysP us).headD P3.O = W at *
  by_cases c0 : crossF us = []
  · rw [if_pos c0]
    refine ⟨fun _ hd => ?_, fun _ => rfl⟩
    obtain ⟨Q, hQ, hQ0, rfl⟩ := mem_waysP.mp mW
    obtain ⟨E, hE, hl⟩ := hd.offLine (P := us.headD P3.O) (Q := Q) hQ0
    have hc : cross (way (us.headD P3.O) Q) (way (us.headD P3.O) E) ≠ P3.O := of_decide_eq_false hl
    have hEP : E ≠ us.headD P3.O := fun e => hc (by rw [e, way_self]; simp [cross, P3.O])
    have hm : cross (way (us.headD P3.O) Q) (way (us.headD P3.O) E) ∈ crossF us := by
      rw [eC]
      exact List.mem_filter.mpr ⟨List.mem_map_of_mem (mem_waysP.mpr ⟨E, hE, hEP, rfl⟩), by rw [decide_eq_false hc]; rfl⟩
    rw [c0] at hm
    cases hm
  · rw [if_neg c0, decide_eq_true_eq]
    have mC := head_mem (d := P3.O) c0
    have hcC : ∃ w ∈ waysP us, cross W w = (crossF us).headD P3.O ∧ (crossF us).headD P3.O ≠ P3.O := by
      have mC' := mC
      generalize (crossF us).headD P3.O = c at mC' ⊢
      rw [eC] at mC'
      obtain ⟨h1, h2⟩ := List.mem_filter.mp mC'
      obtain ⟨w, hw, rfl⟩ := List.mem_map.mp h1
      exact ⟨w, hw, rfl, by simpa using h2⟩
    obtain ⟨w, hw, ec, hc0⟩ := hcC
    generalize (crossF us).headD P3.O = c at *
    constructor
    · intro h hd
      obtain ⟨R, hR, hne⟩ := hd.off hc0 (prod c (us.headD P3.O))
      have hRP : R ≠ us.headD P3.O := fun e => hne (by rw [e])
      have := List.filter_eq_nil_iff.mp h _ (mem_waysP.mpr ⟨R, hR, hRP, rfl⟩)
      rw [prod_way, decide_eq_false (by omega)] at this
      exact this rfl
    · intro h
      rw [List.filter_eq_nil_iff]
      intro v hv z
      apply h
      obtain ⟨A, a1, a2, rfl⟩ := mem_waysP.mp mW
      obtain ⟨B, b1, b2, rfl⟩ := mem_waysP.mp hw
      obtain ⟨C, c1, c2, rfl⟩ := mem_waysP.mp hv
      refine ⟨_, hP, A, a1, B, b1, C, c1, ?_⟩
      unfold lift
      rw [ec]
      simpa using z
theorem ways_of_two (h : ¬ (ddp us).length < 2) : waysP us ≠ [] := fun e => by
  have all : ∀ R ∈ us, R = us.headD P3.O := fun R hR => Classical.byContradiction fun z => by
    have := mem_waysP.mpr ⟨R, hR, z, rfl⟩
    rw [e] at this
    cases this
  have := List.Nodup.length_le_of_subset (l₂ := [us.headD P3.O]) (ddp_nodup us) fun R hR => List.mem_singleton.mpr (all R (mem_ddp.mp hR))
  rw [List.length_singleton] at this
  omega
theorem flat_of_one (h : (ddp us).length < 2) : ¬ Dim3 us := fun ⟨A, hA, B, hB, C, hC, D, hD, hne⟩ => by
  have e : ∀ {P Q : P3}, P ∈ us → Q ∈ us → P = Q := fun {P Q} hP hQ => Classical.byContradiction fun z => by
    have := List.Nodup.length_le_of_subset (l₁ := [P, Q]) (l₂ := ddp us) (by simp [z]) fun R hR => by
      rw [mem_ddp]
      rcases List.mem_cons.mp hR with q | q
      · exact q ▸ hP
      · rw [List.mem_singleton] at q
        exact q ▸ hQ
    simp only [List.length_cons, List.length_nil] at this
    omega
  rw [e hA hD, e hB hD, e hC hD] at hne
  apply hne
  simp only [lift, way_self]
  rfl
/-! ### spoilt lists of corners -/
theorem BowlP.half (h : BowlP us) (hd : Dim3 us) {a b : P3} (ha : a ∈ bodyA us) (hb : b ∈ bodyA us) : isBodyA (sortP (bodyA us ++ [midP a b])) = false := by
  have m : ∀ {v}, v ∈ bodyA us → v ∈ us := fun h => ((mem_body hd).mp h).mem
  have hs : SameH us (sortP (bodyA us ++ [midP a b])) := by
    refine .of_ext (fun w d k R hR => ?_) fun v hv => mem_sortP.mpr (List.mem_append_left _ ((mem_body hd).mpr hv))
    rcases List.mem_append.mp (mem_sortP.mp hR) with q | q
    · exact k R (m q)
    · rw [List.mem_singleton] at q
      subst q
      have := h.mid (m ha) (m hb) w
      have := k a (m ha)
      have := k b (m hb)
      omega
  rw [hs.isBody hd]
  refine decide_eq_false fun e => ?_
  have h := congrArg List.length e
  rw [sortP_len, List.length_append] at h
  simp at h
theorem body_last (hd : Dim3 us) (R : P3) (hR : R ∈ bodyA us) : isBodyA (bodyA us ++ [R]) = false := by
  have hs : SameH us (bodyA us ++ [R]) := (same_body hd).trans (.of_mem fun v => by
    rw [List.mem_append, List.mem_singleton]
    exact ⟨.inl, fun h => h.elim id fun e => e ▸ hR⟩)
  rw [hs.isBody hd]
  refine decide_eq_false fun e => ?_
  have h := congrArg List.length e
  rw [List.length_append] at h
  simp at h
theorem body_is (hd : Dim3 us) : isBodyA (bodyA us) = true := by
  rw [(same_body hd).isBody hd]
  exact decide_eq_true rfl
end
theorem Chg.put1 {us os : List P3} (h : Chg us os) {a b : P3} (ha : a ∈ us) (hb : b ∈ us) (n : Nat) : Chg us (os.take n ++ [midP a b] ++ os.drop n) := by
  refine ⟨fun u hu => ?_, fun v hv => ?_⟩
  · have := h.all u hu
    rw [← List.take_append_drop n os] at this
    rcases List.mem_append.mp this with q | q
    · exact List.mem_append_left _ (List.mem_append_left _ q)
    · exact List.mem_append_right _ q
  · rcases List.mem_append.mp hv with q | q
    · rcases List.mem_append.mp q with q | q
      · exact h.of v (List.mem_of_mem_take q)
      · exact .inr ⟨a, ha, b, hb, List.mem_singleton.mp q⟩
    · exact h.of v (List.mem_of_mem_drop q)
def ordH (key : Int) (n : Nat) : List (Int × Int) := (rngL 0 n).map fun k => ((k + 1) * (k + key) * 9013 % 10007, k)
theorem ord_chg {us : List P3} (key : Int) : Chg us ((sortE (ordH key us.length)).map fun p => us.getD p.2.toNat P3.O) := by
  refine ⟨fun u hu => ?_, fun v hv => .inl ?_⟩
  · obtain ⟨i, hi, e⟩ := List.mem_iff_getElem.mp hu
    refine List.mem_map.mpr ⟨(((i : Int) + 1) * ((i : Int) + key) * 9013 % 10007, (i : Int)), sortE_mem.mpr (List.mem_map.mpr ⟨(i : Int), ?_, rfl⟩), ?_⟩
    · unfold rngL
      exact List.mem_map.mpr ⟨i, List.mem_range.mpr hi, by omega⟩
    · dsimp only
      rw [Int.toNat_natCast, List.getD_eq_getElem?_getD, List.getElem?_eq_getElem hi]
      exact e
  · obtain ⟨p, hp, rfl⟩ := List.mem_map.mp hv
    obtain ⟨k, hk, rfl⟩ := List.mem_map.mp (sortE_mem.mp hp)
    have hk' := rngL_mem hk
    have hi : k.toNat < us.length := by omega
    dsimp only
    rw [List.getD_eq_getElem?_getD, List.getElem?_eq_getElem hi]
    exact List.getElem_mem hi
theorem ord_at {us : List P3} {key : Int} {p : Int × Int} (hp : p ∈ sortE (ordH key us.length)) : atI (us.map P3.en) p.2 = some (P3.en (us.getD p.2.toNat P3.O)) := by
  obtain ⟨k, hk, rfl⟩ := List.mem_map.mp (sortE_mem.mp hp)
  have hk' := rngL_mem hk
  exact atI_pos (by omega) (by omega)
theorem ord_len (key : Int) (n : Nat) : (sortE (ordH key n)).length = n := by
  rw [sortE_len]
  unfold ordH
  rw [List.length_map, rngL_len]
theorem chg_bd {us ms : List P3} (hb : ∀ u ∈ us, P3.Bd 400 u) (h : Chg us ms) : ∀ u ∈ ms, P3.Bd 500 u := fun u hu => by
  rcases h.of u hu with q | ⟨a, ha, b, hb', rfl⟩
  · exact (hb u q).mono (by decide)
  · have bA := hb a ha
    have bZ := hb b hb'
    exact ⟨((bA.x.add bZ.x).div (by decide)).mono (by decide), ((bA.y.add bZ.y).div (by decide)).mono (by decide), ((bA.z.add bZ.z).div (by decide)).mono (by decide)⟩
end DW

set_option autoImplicit false
namespace DW
open PySem PySem.Spec PyProof.Rows L2
/-! ### zip of two lists -/
theorem wk_zip {α : Type} {K : PySem.W.Frag} {B1 F : Hp} {a b : Addr} {vs us : List V} {xs : List α} {f g : α → D} (h1 : SqL K F a vs) (h2 : SqL K F b us) (r1 : DpAll K B1 vs (xs.map f)) (r2 : DpAll K B1 us (xs.map g)) : Wk K B1 F (Itz K a b) (xs.map fun x => .tuple [f x, g x]) := by
  have l1 := dpa_len r1
  have l2 := dpa_len r2
  rw [List.length_map] at l1 l2
  refine ⟨fun i H' s hi => ⟨vs, us, s.seq h1, s.seq h2, .inl (by rw [List.length_map] at hi; omega)⟩, fun i H' s hi => ?_, fun i B' H' x H'' s1 s2 s3 hi y => ?_⟩
  · rw [List.length_map] at hi
    exact ⟨vs, us, vs[i], us[i], s.seq h1, s.seq h2, List.getElem?_eq_getElem (by omega), List.getElem?_eq_getElem (by omega)⟩
  · rw [List.length_map] at hi
    obtain ⟨T, x', y', rfl, hT, rfl, y1, y2⟩ := y
    obtain ⟨d1, e1, q1⟩ := dpa_getV r1 (y1 vs (s1.seq h1))
    obtain ⟨d2, e2, q2⟩ := dpa_getV r2 (y2 us (s1.seq h2))
    have sb : Same B' (upd B' T (.tup [x', y'])) := same_new (same_none s3 hT)
    obtain ⟨z, hz⟩ : ∃ z, xs[i]? = some z := ⟨xs[i], List.getElem?_eq_getElem hi⟩
    rw [List.getElem?_map, hz] at e1 e2
    cases e1
    cases e2
    exact ⟨_, upd B' T (.tup [x', y']), by rw [List.getElem?_map, hz]; rfl, .new s3 hT, .tup (.inl (.inl upd_same)) (.cons (moD (moD q1 s2) sb) (.cons (moD (moD q2 s2) sb) .nil))⟩
theorem gi_zip {α : Type} {X : Cx} {G : Gm} {e e2 : Expr} {elts : List Expr} {kk : Nat} {xs : List α} {f g : α → D} {W : Wd} {N : List Str} {sc : Scope} {k : Nat} {pos p tpos : Pos} (C : Cok X W N sc k) (hg : glB sc "zip" = true) (hm : W.mg "zip" = none) (ha : GE X G e (.list (xs.map f))) (hb : GE X G e2 (.list (xs.map g))) (he : nst e = true) (he2 : nst e2 = true) :
    GI X G (.Tuple elts kk tpos) (.Call (.Name "zip" p) [e, e2] [] pos) (xs.map fun x => .tuple [f x, g x]) := by
  have hw := C.wd
  subst hw
  refine ⟨fun bs B σ H S R q => inI (pi_zip (C.gl _ hg).1 hm (pa_cons pE (pa_cons pE pa_nil (star_cons he2)) (star_cons he)) (star_cons he) (star_all (by show (nst e2 && true) = true; rw [he2]; rfl))) (ha.run bs B σ H S _ fun v B1 H1 g1 r1 => hb.run bs B1 σ H1 (S.gro g1) _ fun w B2 H2 g2 r2 => ?_)⟩
  obtain ⟨a, vs, rfl, h1, h2⟩ := dp_lst r1
  obtain ⟨b, us, rfl, h3, h4⟩ := dp_lst r2
  refine ⟨a, b, vs, us, rfl, g2.h.seq (g1.bh.seq h1), g2.bh.seq h3, q _ B2 H2 (g1.trans g2) ?_⟩
  exact wk_zip (g2.b.seq h1) h3 (moA h2 g2.b) h4
/-! ### xs.insert(i, e) -/
section
variable {X : Cx} {G : Gm} {a e : Expr} {ds : List D} {d : D} {W : Wd} {N : List Str} {sc : Scope} {k : Nat} {pos p1 p2 p3 : Pos} {E : DE} {x : Str} {sts : List Stmt} {j : Int}
theorem gs_ins (C : Cok X W N sc k) (i : Nat) (h : okV N sc i x = true) (hG : G[i]? = some (.ow ds)) (ha : GE X G a (.int j)) (he : GE X G e d) (h0 : 0 ≤ j) (h1 : j < 2 ^ 63) (hz : ds.length < 16777216) (hn : E.nx (G.set i (.ow (ds.take j.toNat ++ [d] ++ ds.drop j.toNat))))
    (hb : attributeBase (.Name x p1) "insert" X.env (eval (.Name x p1) X.env) = eval (.Name x p1) X.env) (hl : (p2.endLine == p3.line) = true) (hst : nst a = true) (hst2 : nst e = true)
    (hfew : ((backTo p3 (starEach [a, e] X.env)).all (fun x => !x.1) && (backToKw p3 (keywordEach [] X.env)).all (fun x => x.1.isSome) && decide (([a, e] : List Expr).length + ([] : List Keyword).length + (if ([] : List Keyword).isEmpty then 0 else 1) < 30)) = true)
    (hs : swapsWith (.Call (.Attribute (.Name x p1) "insert" p2) [a, e] [] p3) none pos.line X.env = pure false) : GS X G (.Expr (.Call (.Attribute (.Name x p1) "insert" p2) [a, e] [] p3) pos) E := by
  obtain ⟨v1, v2, v3, v4⟩ := okV_of h
  refine ⟨fun bs B σ H S De m => inS (ps_expr (pe_bm (T := "list") (id := "list.insert") PySem.F.plainAttrs_list PySem.F.slot_list_insert PySem.F.type_list_insert mt_insert (pe_var (i := i) (by rw [C.N]; exact v1) (C.vis x v2) v3 v4) (pa_cons pE (pa_cons pE pa_nil (star_cons hst2)) (star_cons hst)) hb hfew hl (star_cons hst) (star_all (by show (nst e && true) = true; rw [hst2]; rfl))) hs) ?_⟩
  obtain ⟨q, vs, e1, r0, r1, r2, r3⟩ := S.ow hG
  refine ⟨_, e1, .inl ⟨rfl, vs, .inl (.inl r2)⟩, ?_⟩
  refine ha.run bs B σ H S _ fun v B1 H1 g r => he.run bs B1 σ H1 (S.gro g) _ fun w B2 H2 g2 rr => ?_
  have S1 := (S.gro g).gro g2
  have l1 := dpa_len r3
  have r4 := moA (moA r3 g.b) g2.b
  refine ⟨q, vs, j, w, rfl, by rw [dp_int r], g2.h q _ (g.h q _ r2), by rw [sizeLine_eq]; omega, h0, h1, m.nx _ B2 σ _ hn (S1.mutL hG e1 (dpa_app (dpa_app (dpa_take _ r4) (.cons rr .nil)) (dpa_drop _ r4)))⟩
theorem gss_ins (C : Cok X W N sc k) (i : Nat) (h : okV N sc i x = true) (hG : G[i]? = some (.ow ds)) (ha : GE X G a (.int j)) (he : GE X G e d) (h0 : 0 ≤ j) (h1 : j < 2 ^ 63) (hz : ds.length < 16777216) (hn : GSs X (G.set i (.ow (ds.take j.toNat ++ [d] ++ ds.drop j.toNat))) sts E)
    (hb : attributeBase (.Name x p1) "insert" X.env (eval (.Name x p1) X.env) = eval (.Name x p1) X.env) (hl : (p2.endLine == p3.line) = true) (hst : nst a = true) (hst2 : nst e = true)
    (hfew : ((backTo p3 (starEach [a, e] X.env)).all (fun x => !x.1) && (backToKw p3 (keywordEach [] X.env)).all (fun x => x.1.isSome) && decide (([a, e] : List Expr).length + ([] : List Keyword).length + (if ([] : List Keyword).isEmpty then 0 else 1) < 30)) = true)
    (hs : swapsWith (.Call (.Attribute (.Name x p1) "insert" p2) [a, e] [] p3) none pos.line X.env = pure false) : GSs X G (.Expr (.Call (.Attribute (.Name x p1) "insert" p2) [a, e] [] p3) pos :: sts) E := gs_cons (gs_ins C i h hG ha he h0 h1 hz hn hb hl hst hst2 hfew hs)
end
/-! ### x *= e -/
theorem ip_mul {X : Cx} : PIp X .Mult (fun x y H Q => ∃ i j, x = .int i ∧ y = .int j ∧ IntMulOk i j ∧ Q (.int (i * j)) H) := by
  intro pins s σ H x y v u Q I r1 r2 h
  obtain ⟨i, j, e1, e2, hm, q⟩ := h
  subst e1; subst e2
  obtain ⟨t, rfl⟩ := r1
  obtain ⟨t', rfl⟩ := r2
  exact imul_int (⟨.int _, H, I.tok _, ⟨_, rfl⟩, q⟩) hm
theorem gss_augM {X : Cx} {G : Gm} {e : Expr} {W : Wd} {N : List Str} {sc : Scope} {k : Nat} {pos p1 : Pos} {E : DE} {x : Str} {sts : List Stmt} (C : Cok X W N sc k) (i : Nat) (h : okL N sc i x = true) {u v : Int} (hG : G[i]? = some (.fz (.int u))) (he : GE X G e (.int v)) (hm : IntMulOk u v) (hn : GSs X (G.set i (.fz (.int (u * v)))) sts E) : GSs X G (.AugAssign (.Name x p1) .Mult e pos :: sts) E := by
  obtain ⟨h1, h2⟩ := okL_of h
  obtain ⟨l1, l2⟩ := C.loc x h2
  refine gs_cons ⟨fun bs B σ H S De m => inS (ps_aug (i := i) (by rw [C.N]; exact C.nd) (by rw [C.N]; exact h1) l1 pE ip_mul l2) ?_⟩
  obtain ⟨w, e1, r⟩ := S.fz hG
  exact ⟨w, e1, he.run bs B σ H S _ fun y B1 H1 g r1 => ⟨u, v, dp_int r, dp_int r1, hm, m.nx _ B1 _ H1 hn ((S.gro g).setF (.int _))⟩⟩
end DW

set_option autoImplicit false
namespace DW
open PySem PySem.Spec PyProof.Rows L2
abbrev Pr := P3 × (Int × Int)
/-! ### shares judged -/
def botP (prs : List Pr) : Int := prs.foldl (fun b q => b * q.2.2) 1
def topsP (prs : List Pr) : List Int := prs.map fun q => q.2.1 * (botP prs / q.2.2)
def dotP (prs : List Pr) (k : Int) : Int := (prs.map fun q => q.2.1 * (botP prs / q.2.2) * q.1.at k).sum
def showA (ls : List P3) (P : P3) (prs : List Pr) : Bool :=
  if (decide ((ddp (prs.map (·.1))).length < prs.length) || !decide ((prs.map (·.1)).filter (fun c => !decide (c ∈ ls)) = [])) = true then false
  else if (prs.any fun q => decide (q.2.1 ≤ 0)) = true then false
  else decide ((topsP prs).sum = botP prs) && (decide (dotP prs 0 = botP prs * P.x) && (decide (dotP prs 1 = botP prs * P.y) && decide (dotP prs 2 = botP prs * P.z)))
structure OkPr (prs : List Pr) : Prop where
  bd : ∀ q ∈ prs, P3.Bd 200 q.1 ∧ Bd 60 q.2.1 ∧ Bd 60 q.2.2 ∧ 0 < q.2.2
  len : prs.length ≤ 9
theorem bot_snoc (prs : List Pr) (q : Pr) : botP (prs ++ [q]) = botP prs * q.2.2 := by
  unfold botP
  rw [List.foldl_append]
  rfl
theorem bot_bd : ∀ {prs : List Pr}, (∀ q ∈ prs, Bd 60 q.2.2) → Bd (60 * prs.length + 2) (botP prs) := fun {prs} => by
  have key : ∀ (n : Nat) (prs : List Pr), prs.length = n → (∀ q ∈ prs, Bd 60 q.2.2) → Bd (60 * n + 2) (botP prs) := fun n => by
    induction n with
    | zero =>
      intro prs h _
      rw [List.length_eq_zero_iff.mp h]
      decide
    | succ n ih =>
      intro prs h hb
      have hne : prs ≠ [] := fun e => by rw [e] at h; cases h
      have e := List.dropLast_concat_getLast hne
      have hl : (prs.dropLast).length = n := by rw [List.length_dropLast]; omega
      have h1 := ih prs.dropLast hl fun q hq => hb q (List.dropLast_subset _ hq)
      have h2 := hb _ (List.getLast_mem hne)
      rw [← e, bot_snoc]
      exact (h1.mul h2).mono (by omega)
  exact key _ prs rfl
theorem OkPr.bot {prs : List Pr} (h : OkPr prs) : Bd 545 (botP prs) := (bot_bd fun q hq => (h.bd q hq).2.2.1).mono (by have := h.len; omega)
theorem OkPr.take {prs : List Pr} (h : OkPr prs) (i : Nat) : Bd 545 (botP (prs.take i)) := (bot_bd fun q hq => (h.bd q (List.mem_of_mem_take hq)).2.2.1).mono (by have := h.len; rw [List.length_take]; omega)
theorem any_take {prs : List Pr} {i : Nat} {q : Pr} (h : prs[i]? = some q) (h0 : ((prs.take i).any fun q => decide (q.2.1 ≤ 0)) = false) (hq : ¬ q.2.1 ≤ 0) : ((prs.take (i + 1)).any fun q => decide (q.2.1 ≤ 0)) = false := by
  rw [List.take_add_one, h, List.any_append, h0]
  simp [hq]
theorem any_here {prs : List Pr} {i : Nat} {q : Pr} (h : prs[i]? = some q) (hq : q.2.1 ≤ 0) : (prs.any fun q => decide (q.2.1 ≤ 0)) = true := List.any_eq_true.mpr ⟨q, List.mem_of_getElem? h, decide_eq_true hq⟩
theorem spot_eq {a b c x y z : Int} : decide ([a, b, c] = [x, y, z]) = (decide (a = x) && (decide (b = y) && decide (c = z))) := by
  rw [Bool.eq_iff_iff]
  simp
/-! ### lowest terms -/
structure LowR (t b a c : Int) : Prop where
  pos : 0 < c
  a : a.natAbs ≤ t.natAbs
  c : c ≤ b
theorem low_of {t b g : Int} (hb : 0 < b) (hg : g = ((Int.gcd t b : Nat) : Int)) : LowR t b (t / g) (b / g) := by
  have hg0 : 0 < Int.gcd t b := Int.gcd_pos_iff.mpr (.inr (by omega))
  have h2 : ((Int.gcd t b : Nat) : Int) ∣ b := Int.gcd_dvd_right ..
  have h1 : ((Int.gcd t b : Nat) : Int) ∣ t := Int.gcd_dvd_left ..
  rw [← hg] at h1 h2
  have hgp : 0 < g := by omega
  obtain ⟨u, rfl⟩ := h1
  obtain ⟨v, rfl⟩ := h2
  rw [Int.mul_ediv_cancel_left _ (by omega), Int.mul_ediv_cancel_left _ (by omega)]
  have hv : 0 < v := Int.pos_of_mul_pos_right hb hgp
  refine ⟨hv, ?_, ?_⟩
  · rw [Int.natAbs_mul]
    exact Nat.le_mul_of_pos_left _ (by omega)
  · have := Int.mul_le_mul_of_nonneg_right (show 1 ≤ g by omega) (show 0 ≤ v by omega)
    omega
theorem LowR.bd {t b a c : Int} {n m : Nat} (h : LowR t b a c) (ht : Bd n t) (hb : Bd m b) : Bd n a ∧ Bd m c := by
  obtain ⟨h1, h2, h3⟩ := h
  refine ⟨Nat.lt_of_le_of_lt h2 ht, ?_⟩
  have : c.natAbs ≤ b.natAbs := by omega
  exact Nat.lt_of_le_of_lt this hb
/-! ### the moved body of k33 -/
def slant33 (c : Int) (u : P3) : P3 := turnN c (shZ (c / 36 % mostN c) (shY (-(c / 12 % mostN c)) (shX (c / 4 % mostN c) u)))
theorem slant33_lf (c : Int) : ∃ e : Int, e ≠ 0 ∧ ∀ P A B C, lift (slant33 c P) (slant33 c A) (slant33 c B) (slant33 c C) = e * lift P A B C := by
  have h4 : ∃ e : Int, e ≠ 0 ∧ ∀ P A B C, lift (turnN c P) (turnN c A) (turnN c B) (turnN c C) = e * lift P A B C := by
    by_cases h : c / 2 % 2 = 1
    · rw [show turnN c = swXZ from funext fun u => if_pos h]
      refine ⟨-1, by decide, fun P A B C => ?_⟩
      rw [lift_swXZ]
      omega
    · rw [show turnN c = fun u => u from funext fun u => if_neg h]
      refine ⟨1, by decide, fun P A B C => ?_⟩
      show lift P A B C = 1 * lift P A B C
      omega
  obtain ⟨e, h1, h3⟩ := h4
  refine ⟨e, h1, fun P A B C => ?_⟩
  unfold slant33
  rw [h3, lift_shZ, lift_shY, lift_shX]
theorem slant33_dim {us : List P3} (hd : Dim3 us) (c : Int) : Dim3 (us.map (slant33 c)) := by
  obtain ⟨e, he, hl⟩ := slant33_lf c
  obtain ⟨A, hA, B, hB, C, hC, D, hD, hne⟩ := hd
  refine ⟨_, List.mem_map_of_mem hA, _, List.mem_map_of_mem hB, _, List.mem_map_of_mem hC, _, List.mem_map_of_mem hD, ?_⟩
  rw [hl]
  exact Int.mul_ne_zero he hne
theorem slant33_bd {c : Int} {u : P3} (hu : P3.Bd 45 u) : P3.Bd 120 (slant33 c u) := by
  obtain ⟨m0, mb⟩ := mostN_in c
  have md : ∀ a : Int, Bd 20 (a % mostN c) := fun a => Bd.mod m0 mb
  have e1 := hu.x.add ((md (c / 4)).mul hu.y)
  have e2 := hu.y.add (((md (c / 12)).neg).mul hu.z)
  have e3 := hu.z.add ((md (c / 36)).mul e1)
  exact turnN_bd (u := shZ (c / 36 % mostN c) (shY (-(c / 12 % mostN c)) (shX (c / 4 % mostN c) u))) ⟨e1.mono (by decide), e2.mono (by decide), e3.mono (by decide)⟩
/-- weights -/
structure Wts (n : Nat) (ws : List Int) : Prop where
  len : ws.length = n
  pos : 0 < ws.sum
  bd : ∀ w ∈ ws, Bd 43 w
theorem sum_neg : ∀ ws : List Int, (ws.map fun w => 0 - w).sum = -ws.sum
  | [] => rfl
  | w :: ws => by
    rw [List.map_cons, List.sum_cons, List.sum_cons, sum_neg ws]
    omega
def lowA (t b : Int) : Int × Int := (t / ((Int.gcd t b : Nat) : Int), b / ((Int.gcd t b : Nat) : Int))
theorem lowA_ok {t b : Int} (hb : 0 < b) : LowR t b (lowA t b).1 (lowA t b).2 := low_of hb rfl
structure Pr33 (prs : List Pr) : Prop where
  bd : ∀ q ∈ prs, P3.Bd 175 q.1 ∧ Bd 50 q.2.1 ∧ Bd 50 q.2.2 ∧ 0 < q.2.2
  len : prs.length ≤ 7
def OkQ (q : Pr) : Prop := P3.Bd 200 q.1 ∧ Bd 60 q.2.1 ∧ Bd 60 q.2.2 ∧ 0 < q.2.2
theorem Pr33.ok {prs : List Pr} (h : Pr33 prs) : ∀ q ∈ prs, OkQ q := fun q hq => by
  obtain ⟨a, b, c, d⟩ := h.bd q hq
  exact ⟨a.mono (by decide), b.mono (by decide), c.mono (by decide), d⟩
theorem okq_low {A : P3} {t b : Int} (hA : P3.Bd 200 A) (ht : Bd 60 t) (hb : Bd 60 b) (h0 : 0 < b) : OkQ (A, lowA t b) := by
  have h := lowA_ok (t := t) h0
  obtain ⟨h1, h2⟩ := h.bd ht hb
  exact ⟨hA, h1, h2, h.pos⟩
theorem ok_app {xs ys : List Pr} (h : ∀ q ∈ xs, OkQ q) (g : ∀ q ∈ ys, OkQ q) : ∀ q ∈ xs ++ ys, OkQ q := fun q hq => by
  rcases List.mem_append.mp hq with z | z
  · exact h q z
  · exact g q z
theorem ok_one {q : Pr} (h : OkQ q) : ∀ r ∈ [q], OkQ r := fun r hr => by
  rw [List.mem_singleton.mp hr]
  exact h
theorem ok_set {xs : List Pr} {q : Pr} (i : Nat) (h : ∀ q ∈ xs, OkQ q) (g : OkQ q) : ∀ r ∈ xs.set i q, OkQ r := fun r hr => by
  rcases List.mem_or_eq_of_mem_set hr with z | z
  · exact h r z
  · exact z ▸ g
theorem bd_put {A S : P3} {t : Int} {n : Nat} (hA : P3.Bd n A) (ht : Bd 46 t) (hS : P3.Bd 4 S) : P3.Bd (max n 50 + 1) (ad A (sm t S)) :=
  ⟨hA.x.add (ht.mul hS.x), hA.y.add (ht.mul hS.y), hA.z.add (ht.mul hS.z)⟩
theorem sum_bdY {m k : Nat} {L : List Int} (h : ∀ x ∈ L, Bd m x) (hl : L.length < 2 ^ k) : Bd (m + k) L.sum := by
  have key : ∀ {L : List Int}, (∀ x ∈ L, Bd m x) → L.sum.natAbs ≤ L.length * 2 ^ m := fun {L} => by
    induction L with
    | nil => intro _; simp
    | cons x L ih =>
      intro h
      have h2 := ih (fun y hy => h y (List.mem_cons_of_mem _ hy))
      have h1 : x.natAbs < 2 ^ m := h x List.mem_cons_self
      rw [List.sum_cons, List.length_cons, Nat.add_mul, Nat.one_mul]
      omega
  show L.sum.natAbs < 2 ^ (m + k)
  refine Nat.lt_of_le_of_lt (key h) ?_
  rw [Nat.pow_add, Nat.mul_comm (2 ^ m)]
  exact Nat.mul_lt_mul_of_pos_right hl (Nat.two_pow_pos m)
theorem CmpD_is {op : CmpOp} {a b : D} {p q : Prop} [Decidable p] [Decidable q] (h : CmpD op a b (!decide p)) (e : p ↔ q) : CmpD op a b (!decide q) := by
  rwa [decide_eq_decide.mpr e] at h
theorem shaped_two {α β : Type} [DecidableEq α] [DecidableEq β] [En α] [En β] (a : α) (b : β) (h1 : En.dp α ≤ 60) (h2 : En.dp β ≤ 60) : SeqAt.shaped (.list [En.en a, En.en b]) = true := by
  have x := En.dle a
  have y := En.dle b
  unfold SeqAt.shaped
  rw [Bool.and_eq_true]
  refine ⟨by simp only [PyData.canLay0, PyData.canLayAll0, En.lay, Bool.and_self], ?_⟩
  rw [decide_eq_true_eq]
  simp only [PyData.depth, PyData.depthAll]
  omega
theorem cut_take {α : Type} {f : α → D} {n : Nat} {xs : List α} : cutD (xs.map f) none (some (n : Int)) = (xs.take n).map f := by
  unfold cutD
  rw [HT.sIx_none, HT.sIx_nat, List.length_map, List.drop_zero, Nat.sub_zero, List.map_take]
  by_cases h : n ≤ xs.length
  · rw [Nat.min_eq_left h]
  · rw [Nat.min_eq_right (by omega), List.take_of_length_le (by rw [List.length_map]; exact Nat.le_refl _), List.take_of_length_le (by rw [List.length_map]; omega)]
end DW

namespace DW
open PySem PySem.Spec PyProof.Rows L2
def topS (i : Nat) : Stmt := PySem.Challenge.pw_stakebodies_k33_shares_judged.main.body.getD i (.Pass ⟨0, 0, 0, 0⟩)
set_option hygiene false in
local macro_rules | `(tactic| walk_at "dw.hc") => `(tactic| (intro R_ h_; repeat' (first
  | exact h_
  | exact rfl
  | (with_reducible assumption)
  | ((with_reducible show P3.Bd _ _); first | refine P3.Bd.mono (by with_reducible assumption) (by decide) | refine P3.Bd.mono (hbA _ ha) (by decide) | refine P3.Bd.mono (hbB _ ha) (by decide) | refine P3.Bd.mono (hbC _ ha) (by decide))
  | ((with_reducible show DW.Bd _ _); first | refine DW.Bd.mono (by with_reducible assumption) (by decide) | (with_reducible exact numA_bd _) | (with_reducible apply hcb))
  | ((with_reducible show _ ≤ _); first | omega | (dsimp only; omega))
  | ((with_reducible show _ < _); first | omega | (dsimp only; omega))
  | ((with_reducible show DW.Pl.Bd _ _); first | refine DW.Pl.Bd.mono (by with_reducible assumption) (by decide) | exact hfb _ (by with_reducible assumption))
  | exact Sq3.t
  | exact Mrow.t
  | exact Mrow.l
  | ((with_reducible show Mv.Bd _ _); refine Mv.Bd.mono (by with_reducible assumption) (by decide))
  | exact Sq3.l
  | exact Sq3.p
  | apply Exists.intro
  | apply And.intro
  | apply Or.inl)))
set_option hygiene false in
local macro_rules | `(tactic| walk_at "dw.v") => `(tactic| first
  | ((with_reducible apply ge_v C _ v0) <;> rfl)
  | ((with_reducible apply ge_v C _ v1) <;> rfl)
  | ((with_reducible apply ge_v C _ v2) <;> rfl)
  | ((with_reducible apply ge_v C _ v3) <;> rfl)
  | ((with_reducible apply ge_v C _ v4) <;> rfl)
  | ((with_reducible apply ge_v C _ v5) <;> rfl)
  | ((with_reducible apply ge_v C _ v6) <;> rfl)
  | ((with_reducible apply ge_v C _ v7) <;> rfl)
  | ((with_reducible apply ge_v C _ v8) <;> rfl)
  | ((with_reducible apply ge_v C _ v9) <;> rfl)
  | ((with_reducible apply ge_v C _ v10) <;> rfl)
  | ((with_reducible apply ge_v C _ v11) <;> rfl)
  | ((with_reducible apply ge_v C _ v12) <;> rfl)
  | ((with_reducible apply ge_v C _ v13) <;> rfl)
  | ((with_reducible apply ge_v C _ v14) <;> rfl)
  | ((with_reducible apply ge_v C _ v15) <;> rfl)
  | ((with_reducible apply ge_v C _ v16) <;> rfl)
  | ((with_reducible apply ge_v C _ v17) <;> rfl)
  | ((with_reducible apply ge_v C _ v18) <;> rfl)
  | ((with_reducible apply ge_v C _ v19) <;> rfl)
  | ((with_reducible apply ge_const C); (case h => with_reducible assumption); (case hg => first | (with_reducible assumption) | decide +kernel))
  | ((with_reducible apply ge_v C 0); (case h => decide +kernel); (case hG => rfl))
  | ((with_reducible apply ge_v C 1); (case h => decide +kernel); (case hG => rfl))
  | ((with_reducible apply ge_v C 2); (case h => decide +kernel); (case hG => rfl))
  | ((with_reducible apply ge_v C 3); (case h => decide +kernel); (case hG => rfl))
  | ((with_reducible apply ge_v C 4); (case h => decide +kernel); (case hG => rfl))
  | ((with_reducible apply ge_v C 5); (case h => decide +kernel); (case hG => rfl))
  | ((with_reducible apply ge_v C 6); (case h => decide +kernel); (case hG => rfl))
  | ((with_reducible apply ge_v C 7); (case h => decide +kernel); (case hG => rfl))
  | ((with_reducible apply ge_v C 8); (case h => decide +kernel); (case hG => rfl))
  | ((with_reducible apply ge_v C 9); (case h => decide +kernel); (case hG => rfl))
  | ((with_reducible apply ge_v C 10); (case h => decide +kernel); (case hG => rfl))
  | ((with_reducible apply ge_v C 11); (case h => decide +kernel); (case hG => rfl))
  | ((with_reducible apply ge_v C 12); (case h => decide +kernel); (case hG => rfl))
  | ((with_reducible apply ge_v C 13); (case h => decide +kernel); (case hG => rfl))
  | ((with_reducible apply ge_v C 14); (case h => decide +kernel); (case hG => rfl))
  | ((with_reducible apply ge_v C 15); (case h => decide +kernel); (case hG => rfl))
  | ((with_reducible apply ge_v C 16); (case h => decide +kernel); (case hG => rfl))
  | ((with_reducible apply ge_v C 17); (case h => decide +kernel); (case hG => rfl))
  | ((with_reducible apply ge_v C 18); (case h => decide +kernel); (case hG => rfl))
  | ((with_reducible apply ge_v C 19); (case h => decide +kernel); (case hG => rfl)))
set_option hygiene false in
local macro_rules | `(tactic| walk_at "dw.o") => `(tactic| (with_reducible show GL _ _ (Expr.Name _ _) _); first
  | ((with_reducible apply gl_v C _ v0) <;> rfl)
  | ((with_reducible apply gl_v C _ v1) <;> rfl)
  | ((with_reducible apply gl_v C _ v2) <;> rfl)
  | ((with_reducible apply gl_v C _ v3) <;> rfl)
  | ((with_reducible apply gl_v C _ v4) <;> rfl)
  | ((with_reducible apply gl_v C _ v5) <;> rfl)
  | ((with_reducible apply gl_v C _ v6) <;> rfl)
  | ((with_reducible apply gl_v C _ v7) <;> rfl)
  | ((with_reducible apply gl_v C _ v8) <;> rfl)
  | ((with_reducible apply gl_v C _ v9) <;> rfl)
  | ((with_reducible apply gl_v C _ v10) <;> rfl)
  | ((with_reducible apply gl_v C _ v11) <;> rfl)
  | ((with_reducible apply gl_v C _ v12) <;> rfl)
  | ((with_reducible apply gl_v C _ v13) <;> rfl)
  | ((with_reducible apply gl_v C _ v14) <;> rfl)
  | ((with_reducible apply gl_v C _ v15) <;> rfl)
  | ((with_reducible apply gl_v C _ v16) <;> rfl)
  | ((with_reducible apply gl_v C _ v17) <;> rfl)
  | ((with_reducible apply gl_v C _ v18) <;> rfl)
  | ((with_reducible apply gl_v C _ v19) <;> rfl)
  | ((with_reducible apply gl_v C 0); (case h => decide +kernel); (case hG => rfl))
  | ((with_reducible apply gl_v C 1); (case h => decide +kernel); (case hG => rfl))
  | ((with_reducible apply gl_v C 2); (case h => decide +kernel); (case hG => rfl))
  | ((with_reducible apply gl_v C 3); (case h => decide +kernel); (case hG => rfl))
  | ((with_reducible apply gl_v C 4); (case h => decide +kernel); (case hG => rfl))
  | ((with_reducible apply gl_v C 5); (case h => decide +kernel); (case hG => rfl))
  | ((with_reducible apply gl_v C 6); (case h => decide +kernel); (case hG => rfl))
  | ((with_reducible apply gl_v C 7); (case h => decide +kernel); (case hG => rfl))
  | ((with_reducible apply gl_v C 8); (case h => decide +kernel); (case hG => rfl))
  | ((with_reducible apply gl_v C 9); (case h => decide +kernel); (case hG => rfl))
  | ((with_reducible apply gl_v C 10); (case h => decide +kernel); (case hG => rfl))
  | ((with_reducible apply gl_v C 11); (case h => decide +kernel); (case hG => rfl))
  | ((with_reducible apply gl_v C 12); (case h => decide +kernel); (case hG => rfl))
  | ((with_reducible apply gl_v C 13); (case h => decide +kernel); (case hG => rfl))
  | ((with_reducible apply gl_v C 14); (case h => decide +kernel); (case hG => rfl))
  | ((with_reducible apply gl_v C 15); (case h => decide +kernel); (case hG => rfl))
  | ((with_reducible apply gl_v C 16); (case h => decide +kernel); (case hG => rfl))
  | ((with_reducible apply gl_v C 17); (case h => decide +kernel); (case hG => rfl))
  | ((with_reducible apply gl_v C 18); (case h => decide +kernel); (case hG => rfl))
  | ((with_reducible apply gl_v C 19); (case h => decide +kernel); (case hG => rfl)))
local macro_rules | `(tactic| walk_at "dw.nf") => `(tactic| (apply GSs.is; (case e => ((try simp only [List.set_cons_zero, List.set_cons_succ]); try exact rfl))))
local macro_rules | `(tactic| walk_at "dw.gl") => `(tactic| first | (with_reducible assumption) | decide +kernel)
set_option hygiene false in
local macro_rules | `(tactic| walk_at "dw.b") => `(tactic| repeat' first
  | (with_reducible assumption)
  | with_reducible apply Bd.mul | with_reducible apply Bd.add | with_reducible apply Bd.sub | with_reducible apply Bd.neg
  | (with_reducible exact Bd.lit (i := OfNat.ofNat _))
  | ((with_reducible show Bd _ (P3.x _)); refine P3.Bd.x (by with_reducible assumption))
  | ((with_reducible show Bd _ (P3.y _)); refine P3.Bd.y (by with_reducible assumption))
  | ((with_reducible show Bd _ (P3.z _)); refine P3.Bd.z (by with_reducible assumption))
  | ((with_reducible apply Bd.mod (by decide)))
  | ((with_reducible refine Bd.div ?_ (by decide)))
  | ((with_reducible show Bd _ (P3.at _ _)); refine P3.Bd.at (by with_reducible assumption))
  | (with_reducible exact P3.Bd.mem (by with_reducible assumption) ha)
  | (with_reducible exact numA_bd _))
set_option hygiene false in
local macro_rules | `(tactic| walk_at "dw.GE") => `(tactic| first
  | ((with_reducible show GE _ _ (Expr.Name _ _) _); walk_at "dw.v")
  | ((with_reducible show GE _ _ (Expr.Subscript _ (Expr.Slice _ _ _ _) _) _); first | (with_reducible apply ge_sl3; walk_at "dw.v") | (with_reducible apply ge_mv1; walk_at "dw.v") | (with_reducible apply ge_mv2; walk_at "dw.v") | (with_reducible apply ge_mv3; walk_at "dw.v") | (with_reducible apply ge_mv4; walk_at "dw.v") | ((with_reducible apply ge_slLd); (case ha => walk_at "dw.v")) | with_reducible apply ge_slT)
  | ((with_reducible show GE _ _ (Expr.ListComp _ _ _ _) _); with_reducible apply GO.ge)
  | ((with_reducible show GE _ _ (Expr.List _ _) _); with_reducible apply GO.ge)
  | with_reducible exact ge_int | with_reducible apply ge_ix | with_reducible apply ge_add | with_reducible apply ge_sub | with_reducible apply ge_mul | with_reducible apply ge_p3 | with_reducible apply ge_p4 | with_reducible exact ge_str | with_reducible exact ge_bl | with_reducible exact ge_non
  | ((with_reducible show GE _ _ (Expr.Call (Expr.Name _ _) _ _ _) _); walk_at "dw.call")
  | with_reducible apply ge_cp C | with_reducible apply ge_div | with_reducible apply ge_mod | with_reducible apply ge_fmod | with_reducible apply ge_pow | with_reducible apply ge_neg | with_reducible apply ge_and | with_reducible apply ge_or | with_reducible apply ge_one | with_reducible apply ge_not | with_reducible apply ge_andT | with_reducible apply ge_orF | with_reducible apply ge_notF | with_reducible apply ge_notT | with_reducible apply ge_slT | with_reducible apply ge_tup)
set_option hygiene false in
local macro_rules | `(tactic| walk_at "dw.call") => `(tactic| first
  | with_reducible apply ge_sumC C | with_reducible apply ge_len C | with_reducible apply ge_abs C | with_reducible apply ge_max C | with_reducible apply ge_min C | with_reducible apply ge_intB C | with_reducible apply ge_isi C | with_reducible apply ge_tupleL C | with_reducible apply ge_listL C
  | ((with_reducible apply ge_call C); (with_reducible case Hs => assumption)))
set_option hygiene false in
local macro_rules | `(tactic| walk_at "dw.1") => `(tactic| first
  | ((with_reducible show GE _ _ _ _); walk_at "dw.GE")
  | ((with_reducible show IxV _ _ _); first | exact IxV.tup rfl | exact IxV.lst rfl | exact IxV.own rfl | exact IxV.lst (at0 (by with_reducible assumption)) | exact IxV.lst (atI_map (atI_nat (by with_reducible assumption))) | exact IxV.own (at0 (by with_reducible assumption)) | exact ix3 (by omega) (by omega) | exact ixM (by omega) (by omega))
  | ((with_reducible show GV _ _ _ _); first | ((with_reducible apply GV.l); walk_at "dw.o") | with_reducible apply GV.s)
  | ((with_reducible show PlainIx _); intro _ _; rfl)
  | ((with_reducible show IntMulOk _ _); refine' Bd.ok ?_a ?_b ?_c; (case _a => walk_at "dw.b"); (case _b => walk_at "dw.b"); (case _c => decide))
  | ((with_reducible show IntMulOk _ _); exact Bd.ok (n := 300) (m := 300) (by decide +kernel) (by decide +kernel) (by decide))
  | ((with_reducible show AddD _ _ _); first | exact AddD.int _ _ | exact AddD.tup _ _ (Nat.le_of_ble_eq_true rfl) | exact AddD.lst _ _ (Nat.le_of_ble_eq_true rfl))
  | ((with_reducible show glB _ _ = true); walk_at "dw.gl")
  | ((with_reducible show Wd.mg _ _ = none); with_reducible first | exact B.len | exact B.isinstance | exact B.int | exact B.bool | exact B.tuple | exact B.range | exact B.abs | exact B.max | exact B.min | exact B.list | exact B.sum | exact B.sorted | exact B.str | exact B.set | exact B.zip | exact B.reversed | exact B.enumerate | exact B.dict)
  | ((with_reducible show bootBuiltins _ = _); with_reducible first | exact bt_int | exact bt_bool | exact bt_tuple | exact bt_list | exact bt_str)
  | ((with_reducible show _ ≠ _); first | (with_reducible assumption) | decide | omega)
  | ((with_reducible show _ ≤ _); with_reducible exact Nat.le_refl _)
  | ((with_reducible show List.length _ ≤ sizeLine); exact Nat.le_of_ble_eq_true rfl)
  | ((with_reducible show (0 : Int) < _); first | decide | assumption | omega)
  | ((with_reducible show CDivW _ _); refine' Bd.dv ?_a ?_b ?_c; (case _a => first | decide | assumption | omega); (case _b => walk_at "dw.b"); (case _c => decide))
  | ((with_reducible show CPow _ _); exact ⟨by decide, by decide, by decide +kernel⟩)
  | ((with_reducible show nst _ = true); rfl) | ((with_reducible show SeqAt.shaped _ = true); rfl) | ((with_reducible show List.all _ _ = true); rfl)
  | ((with_reducible show GH _ _ (Expr.List _ _) _); (with_reducible apply GL.gh); (with_reducible apply GO.gl); (with_reducible apply go_lst))
  | ((with_reducible show GH _ _ (Expr.ListComp _ _ _ _) _); (with_reducible apply GL.gh); (with_reducible apply GO.gl))
  | ((with_reducible show GH _ _ (Expr.Name _ _) _); first | ((with_reducible apply GE.gh); walk_at "dw.v") | ((with_reducible apply GL.gh); walk_at "dw.o"))
  | ((with_reducible show GH _ _ _ _); first | ((with_reducible apply GL.gh); walk_at "dw.o") | with_reducible apply GE.gh)
  | ((with_reducible show CmpD _ _ _ _); first | with_reducible exact cmp_eq3 _ _ | with_reducible exact cmp_ne3 _ _ | with_reducible exact cmp_eq4 _ _ | with_reducible exact cmp_ne4 _ _ | with_reducible apply cmp_ne3F | with_reducible apply cmp_eq3T | with_reducible apply cmp_ne4F | with_reducible apply cmp_eq4T | with_reducible apply cmp_eq3F | with_reducible apply cmp_ne3T | with_reducible exact cmp_in3 _ _ | with_reducible exact cmp_nin3 _ _ | with_reducible exact cmp_neN3 _ | with_reducible exact cmp_eqL3 _ _ | with_reducible exact cmp_neL3 _ _ | with_reducible apply cmp_neL3F | with_reducible apply cmp_eqL3T | with_reducible apply cmp_neL4F | with_reducible exact cmp_eqL4 _ _ | with_reducible exact cmp_neL4 _ _ | with_reducible exact cmp_eqN4 _ | with_reducible exact cmp_neN4 _ | with_reducible exact cmp_eqN3 _ | with_reducible exact cmp_neNI _ | with_reducible exact cmp_eqNI _ | exact CmpD.eqI _ _ | exact CmpD.neI _ _ | exact cmp_eqI [_, _, _] [_, _, _] | exact cmp_neI [_, _, _] [_, _, _] | exact CmpD.lt _ _ | exact CmpD.le _ _ | exact CmpD.gt _ _ | exact CmpD.ge _ _ | exact CmpD.isN _ | exact CmpD.notN _ | exact CmpD.eq _ _ rfl rfl | exact CmpD.ne _ _ rfl rfl | with_reducible exact cmp_eqT rfl | with_reducible exact cmp_neF rfl | ((with_reducible refine' cmp_eqTd rfl ?_); rfl) | ((with_reducible refine' cmp_neFd rfl ?_); rfl) | exact cmp_eqF (by omega) | exact cmp_neT (by omega) | exact cmp_ltT (by omega) | exact cmp_ltF (by omega) | exact cmp_gtT (by omega) | exact cmp_gtF (by omega) | with_reducible apply cmp_eqT | with_reducible apply cmp_neF | with_reducible apply cmp_eqTd | with_reducible apply cmp_neFd)
  | ((with_reducible show behindInMarks _ _ = false); rfl)
  | ((with_reducible show GT _ _ _ _); first | with_reducible apply gt_not | with_reducible apply gt_notF | with_reducible apply gt_notT | with_reducible apply gt_cp C | ((with_reducible apply GW.gt); first | with_reducible apply gw_and | with_reducible apply gw_or | with_reducible apply gw_and1 | with_reducible apply gw_or1 | with_reducible apply gw_orF | with_reducible apply gw_andT) | with_reducible apply gt_val)
  | ((with_reducible show GW _ _ _ _); first | with_reducible apply gw_and | with_reducible apply gw_or | with_reducible apply gw_and1 | with_reducible apply gw_or1 | with_reducible apply gw_orF | with_reducible apply gw_andT)
  | ((with_reducible show GA _ _ _ _); first | with_reducible exact ga_nil | with_reducible apply ga_cons)
  | ((with_reducible show GP _ _ _ _); first | with_reducible exact gp_no | with_reducible apply gp_yes)
  | ((with_reducible show GL _ _ (Expr.Subscript _ (Expr.Slice _ _ _ _) _) _); with_reducible apply GO.gl; with_reducible apply go_slL)
  | ((with_reducible show GL _ _ _ _); first | walk_at "dw.o" | ((with_reducible show GL _ _ (Expr.ListComp _ _ _ _) _); with_reducible apply GO.gl) | with_reducible apply GE.gl)
  | ((with_reducible show GO _ _ (Expr.ListComp _ _ _ _) _); walk_at "dw.lc")
  | ((with_reducible show GO _ _ (Expr.Call (Expr.Name _ _) _ _ _) _); first | with_reducible apply go_sort3 C | with_reducible apply go_list C | with_reducible apply go_sortedSet C | ((with_reducible apply go_call C); (with_reducible case Hs => assumption)))
  | ((with_reducible show GIw _ _ _ _ _); first | ((with_reducible show GIw _ _ _ (Expr.Call _ _ _ _) _); with_reducible apply GI.w) | ((with_reducible apply gw_list); walk_at "dw.o") | with_reducible apply GI.w)
  | ((with_reducible show GI _ _ _ _ _); first | with_reducible apply gi_rng1 C | with_reducible apply gi_rng2 C | with_reducible apply gi_rng3 C | with_reducible apply gi_it)
  | ((with_reducible show ItD _ _); first | exact ItD.lst | exact ItD.tup)
  | ((with_reducible show List.length _ ≤ 16777216); first | exact Nat.le_of_ble_eq_true rfl | (rw [rngL_len]; omega))
  | ((with_reducible show -(2 ^ 62) ≤ _ ∧ _); first | decide | omega)
  | ((with_reducible show LenD _ _); first | exact LenD.lst | exact LenD.tup)
  | ((with_reducible show kitB _ _ = some _); decide +kernel)
  | ((with_reducible show _ = true → _); intro _)
  | ((with_reducible show _ = false → _); intro _)
  | ((with_reducible show ∀ (_ : Rs → Prop), _); walk_at "dw.hc")
  | ((with_reducible show ∀ _, _ = _); intro _; rfl)
  | with_reducible exact PUnit.unit
  | with_reducible apply go_lst
  | ((with_reducible show _ = _); with_reducible rfl)
  | ((with_reducible show _ = _); (fail_if_success (with_reducible show (_ : Int) = _)); (fail_if_success (with_reducible show (_ : PyData) = _)); rfl))
set_option hygiene false in
local macro_rules | `(tactic| walk_at "dw.lc0") => `(tactic| first
  | ((with_reducible apply go_lc1 C 0); (case ok => decide +kernel); (case okl => decide +kernel))
  | ((with_reducible apply go_lc1 C 1); (case ok => decide +kernel); (case okl => decide +kernel))
  | ((with_reducible apply go_lc1 C 2); (case ok => decide +kernel); (case okl => decide +kernel))
  | ((with_reducible apply go_lc1 C 3); (case ok => decide +kernel); (case okl => decide +kernel))
  | ((with_reducible apply go_lc1 C 4); (case ok => decide +kernel); (case okl => decide +kernel))
  | ((with_reducible apply go_lc1 C 5); (case ok => decide +kernel); (case okl => decide +kernel))
  | ((with_reducible apply go_lc1 C 6); (case ok => decide +kernel); (case okl => decide +kernel))
  | ((with_reducible apply go_lc1 C 7); (case ok => decide +kernel); (case okl => decide +kernel))
  | ((with_reducible apply go_lc1 C 8); (case ok => decide +kernel); (case okl => decide +kernel))
  | ((with_reducible apply go_lc1 C 9); (case ok => decide +kernel); (case okl => decide +kernel))
  | ((with_reducible apply go_lc1 C 10); (case ok => decide +kernel); (case okl => decide +kernel))
  | ((with_reducible apply go_lc1 C 11); (case ok => decide +kernel); (case okl => decide +kernel))
  | ((with_reducible apply go_lc1 C 12); (case ok => decide +kernel); (case okl => decide +kernel))
  | ((with_reducible apply go_lc1 C 13); (case ok => decide +kernel); (case okl => decide +kernel))
  | ((with_reducible apply go_lc1 C 14); (case ok => decide +kernel); (case okl => decide +kernel))
  | ((with_reducible apply go_lc1 C 15); (case ok => decide +kernel); (case okl => decide +kernel))
  | ((with_reducible apply go_lc1 C 16); (case ok => decide +kernel); (case okl => decide +kernel))
  | ((with_reducible apply go_lc1 C 17); (case ok => decide +kernel); (case okl => decide +kernel))
  | ((with_reducible apply go_lc1 C 18); (case ok => decide +kernel); (case okl => decide +kernel))
  | ((with_reducible apply go_lc1 C 19); (case ok => decide +kernel); (case okl => decide +kernel)))
set_option hygiene false in
local macro_rules | `(tactic| walk_at "dw.lcP0") => `(tactic| first
  | ((with_reducible apply go_lcP C 0); (case ok => decide +kernel); (case okl => decide +kernel); (case h => first | walk_at "dw.v" | ((with_reducible apply ge_sl3); walk_at "dw.v")))
  | ((with_reducible apply go_lcP C 1); (case ok => decide +kernel); (case okl => decide +kernel); (case h => first | walk_at "dw.v" | ((with_reducible apply ge_sl3); walk_at "dw.v")))
  | ((with_reducible apply go_lcP C 2); (case ok => decide +kernel); (case okl => decide +kernel); (case h => first | walk_at "dw.v" | ((with_reducible apply ge_sl3); walk_at "dw.v")))
  | ((with_reducible apply go_lcP C 3); (case ok => decide +kernel); (case okl => decide +kernel); (case h => first | walk_at "dw.v" | ((with_reducible apply ge_sl3); walk_at "dw.v")))
  | ((with_reducible apply go_lcP C 4); (case ok => decide +kernel); (case okl => decide +kernel); (case h => first | walk_at "dw.v" | ((with_reducible apply ge_sl3); walk_at "dw.v")))
  | ((with_reducible apply go_lcP C 5); (case ok => decide +kernel); (case okl => decide +kernel); (case h => first | walk_at "dw.v" | ((with_reducible apply ge_sl3); walk_at "dw.v")))
  | ((with_reducible apply go_lcP C 6); (case ok => decide +kernel); (case okl => decide +kernel); (case h => first | walk_at "dw.v" | ((with_reducible apply ge_sl3); walk_at "dw.v")))
  | ((with_reducible apply go_lcP C 7); (case ok => decide +kernel); (case okl => decide +kernel); (case h => first | walk_at "dw.v" | ((with_reducible apply ge_sl3); walk_at "dw.v")))
  | ((with_reducible apply go_lcP C 8); (case ok => decide +kernel); (case okl => decide +kernel); (case h => first | walk_at "dw.v" | ((with_reducible apply ge_sl3); walk_at "dw.v")))
  | ((with_reducible apply go_lcP C 9); (case ok => decide +kernel); (case okl => decide +kernel); (case h => first | walk_at "dw.v" | ((with_reducible apply ge_sl3); walk_at "dw.v")))
  | ((with_reducible apply go_lcP C 10); (case ok => decide +kernel); (case okl => decide +kernel); (case h => first | walk_at "dw.v" | ((with_reducible apply ge_sl3); walk_at "dw.v")))
  | ((with_reducible apply go_lcP C 11); (case ok => decide +kernel); (case okl => decide +kernel); (case h => first | walk_at "dw.v" | ((with_reducible apply ge_sl3); walk_at "dw.v")))
  | ((with_reducible apply go_lcP C 12); (case ok => decide +kernel); (case okl => decide +kernel); (case h => first | walk_at "dw.v" | ((with_reducible apply ge_sl3); walk_at "dw.v")))
  | ((with_reducible apply go_lcP C 13); (case ok => decide +kernel); (case okl => decide +kernel); (case h => first | walk_at "dw.v" | ((with_reducible apply ge_sl3); walk_at "dw.v")))
  | ((with_reducible apply go_lcP C 14); (case ok => decide +kernel); (case okl => decide +kernel); (case h => first | walk_at "dw.v" | ((with_reducible apply ge_sl3); walk_at "dw.v")))
  | ((with_reducible apply go_lcP C 15); (case ok => decide +kernel); (case okl => decide +kernel); (case h => first | walk_at "dw.v" | ((with_reducible apply ge_sl3); walk_at "dw.v")))
  | ((with_reducible apply go_lcP C 16); (case ok => decide +kernel); (case okl => decide +kernel); (case h => first | walk_at "dw.v" | ((with_reducible apply ge_sl3); walk_at "dw.v")))
  | ((with_reducible apply go_lcP C 17); (case ok => decide +kernel); (case okl => decide +kernel); (case h => first | walk_at "dw.v" | ((with_reducible apply ge_sl3); walk_at "dw.v")))
  | ((with_reducible apply go_lcP C 18); (case ok => decide +kernel); (case okl => decide +kernel); (case h => first | walk_at "dw.v" | ((with_reducible apply ge_sl3); walk_at "dw.v")))
  | ((with_reducible apply go_lcP C 19); (case ok => decide +kernel); (case okl => decide +kernel); (case h => first | walk_at "dw.v" | ((with_reducible apply ge_sl3); walk_at "dw.v"))))
set_option hygiene false in
local macro_rules | `(tactic| walk_at "dw.lc") => `(tactic| first | (walk_at "dw.lcP0"; (case' he => (intro X C a ha; repeat' (walk_at "dw.1")))) | (walk_at "dw.lc0"; (case' hi => repeat' (walk_at "dw.1")); (case' he => (intro X C a ha; (try have ha' := rngL_mem ha); (try have hba_ := Bd.sm (n := 20) (i := a) (by omega) (by omega) (by decide)); repeat' (walk_at "dw.1")))))
local macro_rules | `(tactic| walk_at "dw.e") => `(tactic| repeat' (walk_at "dw.1"))
set_option hygiene false in
local macro_rules | `(tactic| walk_at "dw.asg0") => `(tactic| first
  | (with_reducible apply gss_asg C _ l0)
  | (with_reducible apply gss_asg C _ l1)
  | (with_reducible apply gss_asg C _ l2)
  | (with_reducible apply gss_asg C _ l3)
  | (with_reducible apply gss_asg C _ l4)
  | (with_reducible apply gss_asg C _ l5)
  | (with_reducible apply gss_asg C _ l6)
  | (with_reducible apply gss_asg C _ l7)
  | (with_reducible apply gss_asg C _ l8)
  | (with_reducible apply gss_asg C _ l9)
  | (with_reducible apply gss_asg C _ l10)
  | (with_reducible apply gss_asg C _ l11)
  | (with_reducible apply gss_asg C _ l12)
  | (with_reducible apply gss_asg C _ l13)
  | (with_reducible apply gss_asg C _ l14)
  | (with_reducible apply gss_asg C _ l15)
  | (with_reducible apply gss_asg C _ l16)
  | (with_reducible apply gss_asg C _ l17)
  | (with_reducible apply gss_asg C _ l18)
  | (with_reducible apply gss_asg C _ l19))
set_option hygiene false in
local macro_rules | `(tactic| walk_at "dw.asgO0") => `(tactic| first
  | (with_reducible apply gss_asgO C _ l0)
  | (with_reducible apply gss_asgO C _ l1)
  | (with_reducible apply gss_asgO C _ l2)
  | (with_reducible apply gss_asgO C _ l3)
  | (with_reducible apply gss_asgO C _ l4)
  | (with_reducible apply gss_asgO C _ l5)
  | (with_reducible apply gss_asgO C _ l6)
  | (with_reducible apply gss_asgO C _ l7)
  | (with_reducible apply gss_asgO C _ l8)
  | (with_reducible apply gss_asgO C _ l9)
  | (with_reducible apply gss_asgO C _ l10)
  | (with_reducible apply gss_asgO C _ l11)
  | (with_reducible apply gss_asgO C _ l12)
  | (with_reducible apply gss_asgO C _ l13)
  | (with_reducible apply gss_asgO C _ l14)
  | (with_reducible apply gss_asgO C _ l15)
  | (with_reducible apply gss_asgO C _ l16)
  | (with_reducible apply gss_asgO C _ l17)
  | (with_reducible apply gss_asgO C _ l18)
  | (with_reducible apply gss_asgO C _ l19))
set_option hygiene false in
local macro_rules | `(tactic| walk_at "dw.asgE0") => `(tactic| first
  | (with_reducible apply gss_asgE C _ l0)
  | (with_reducible apply gss_asgE C _ l1)
  | (with_reducible apply gss_asgE C _ l2)
  | (with_reducible apply gss_asgE C _ l3)
  | (with_reducible apply gss_asgE C _ l4)
  | (with_reducible apply gss_asgE C _ l5)
  | (with_reducible apply gss_asgE C _ l6)
  | (with_reducible apply gss_asgE C _ l7)
  | (with_reducible apply gss_asgE C _ l8)
  | (with_reducible apply gss_asgE C _ l9)
  | (with_reducible apply gss_asgE C _ l10)
  | (with_reducible apply gss_asgE C _ l11)
  | (with_reducible apply gss_asgE C _ l12)
  | (with_reducible apply gss_asgE C _ l13)
  | (with_reducible apply gss_asgE C _ l14)
  | (with_reducible apply gss_asgE C _ l15)
  | (with_reducible apply gss_asgE C _ l16)
  | (with_reducible apply gss_asgE C _ l17)
  | (with_reducible apply gss_asgE C _ l18)
  | (with_reducible apply gss_asgE C _ l19))
set_option hygiene false in
local macro_rules | `(tactic| walk_at "dw.asg") => `(tactic| (show GSs _ _ (List.cons _ _) _; walk_at "dw.asg0"; (case hs => rfl); (case' he => walk_at "dw.e"); (case' hn => walk_at "dw.nf")))
set_option hygiene false in
local macro_rules | `(tactic| walk_at "dw.asgO") => `(tactic| (show GSs _ _ (List.cons _ _) _; walk_at "dw.asgO0"; (case hs => rfl); (case' he => walk_at "dw.e"); (case' hn => walk_at "dw.nf")))
set_option hygiene false in
local macro_rules | `(tactic| walk_at "dw.asgE") => `(tactic| (show GSs _ _ (List.cons _ _) _; walk_at "dw.asgE0"; (case hs => rfl); (case' he => walk_at "dw.e"); (case' hn => walk_at "dw.nf")))
set_option hygiene false in
local macro_rules | `(tactic| walk_at "dw.par") => `(tactic| ((case hi => rfl); (case hj => rfl); (case hij => decide); (case hx => decide +kernel); (case hy => decide +kernel); (case hk => rfl); (case hw => (intro _ h1_ h2_ h3_; unfold swappedStores; simp only [h1_, List.filterMap_cons, List.filterMap_nil, h2_, h3_]; rfl)); (case hs => rfl); (case' ha => walk_at "dw.e"); (case' hn => walk_at "dw.nf")))
set_option hygiene false in
local macro_rules | `(tactic| walk_at "dw.lcs") => `(tactic| ((case okj => assumption); (case hyl => decide +kernel); (case hk => rfl); (case ok => decide +kernel); (case okl => decide +kernel); (case hl => rfl); (case ha => decide +kernel); (case hs => (intro _; rfl)); (case' hi => walk_at "dw.e"); (case' hz => first | exact Nat.le_of_ble_eq_true rfl | (rw [rngL_len]; omega) | (simp only [List.length_map]; omega) | omega | skip); (case' he => (intro X C a ha; (try have ha' := rngL_mem ha); (try have hba_ := Bd.sm (n := 20) (i := a) (by omega) (by omega) (by decide)); repeat' (walk_at "dw.1"))); (case' hn => walk_at "dw.nf")))
set_option hygiene false in
local macro_rules | `(tactic| walk_at "dw.lcs0") => `(tactic| ((case okj => assumption); (case hyl => decide +kernel); (case hk => rfl); (case ok => decide +kernel); (case okl => decide +kernel); (case hl => rfl); (case ha => decide +kernel); (case hs => (intro _; rfl)); (case' hn => walk_at "dw.nf")))
set_option hygiene false in
local macro_rules | `(tactic| walk_at "dw.lcsx") => `(tactic| ((case okj => assumption); (case hyl => decide +kernel); (case hk => rfl); (case ok => decide +kernel); (case okl => decide +kernel); (case hl => rfl); (case ha => decide +kernel); (case hs => (intro _; rfl)); (case' he => (intro X C a ha; (try have ha' := rngL_mem ha); (try have hba_ := Bd.sm (n := 20) (i := a) (by omega) (by omega) (by decide)); repeat' (walk_at "dw.1"))); (case' hn => walk_at "dw.nf")))
set_option hygiene false in
local macro_rules | `(tactic| walk_at "dw.lcsf") => `(tactic| ((case okj => assumption); (case hyl => decide +kernel); (case hk => rfl); (case ok => decide +kernel); (case okl => decide +kernel); (case hl => rfl); (case ha => decide +kernel); (case hs => (intro _; rfl)); (case' hi => walk_at "dw.e"); (case' hz => first | exact Nat.le_of_ble_eq_true rfl | (rw [rngL_len]; omega) | (simp only [List.length_map]; omega) | omega | skip); (case' ht => (intro X C a ha; (try have ha' := rngL_mem ha); (try have hba_ := Bd.sm (n := 20) (i := a) (by omega) (by omega) (by decide)); repeat' (walk_at "dw.1"))); (case' he => (intro X C a ha hbt; (try have ha' := rngL_mem ha); (try have hba_ := Bd.sm (n := 20) (i := a) (by omega) (by omega) (by decide)); repeat' (walk_at "dw.1"))); (case' hn => walk_at "dw.nf")))
set_option hygiene false in
local macro_rules | `(tactic| walk_at "dw.lcsfx") => `(tactic| ((case okj => assumption); (case hyl => decide +kernel); (case hk => rfl); (case ok => decide +kernel); (case okl => decide +kernel); (case hl => rfl); (case ha => decide +kernel); (case hs => (intro _; rfl)); (case' ht => (intro X C a ha; (try have ha' := rngL_mem ha); (try have hba_ := Bd.sm (n := 20) (i := a) (by omega) (by omega) (by decide)); repeat' (walk_at "dw.1"))); (case' he => (intro X C a ha hbt; (try have ha' := rngL_mem ha); (try have hba_ := Bd.sm (n := 20) (i := a) (by omega) (by omega) (by decide)); repeat' (walk_at "dw.1"))); (case' hn => walk_at "dw.nf")))
set_option hygiene false in
local macro_rules | `(tactic| walk_at "dw.par3") => `(tactic| ((case hi => rfl); (case hj => rfl); (case hl => rfl); (case hij => decide); (case hil => decide); (case hjl => decide); (case hx => decide +kernel); (case hy => decide +kernel); (case hz => decide +kernel); (case hk => rfl); (case hw => (intro _ h1_ h2_ h3_ h4_; unfold swappedStores; simp only [h1_, List.filterMap_cons, List.filterMap_nil, h2_, h3_, h4_]; rfl)); (case hs => rfl); (case' ha => walk_at "dw.e"); (case' hn => walk_at "dw.nf")))
set_option hygiene false in
local macro_rules | `(tactic| walk_at "dw.ggs") => `(tactic| repeat' first
  | with_reducible exact ggs_nil
  | ((with_reducible apply ggs_cons C _ l0); (case hw => decide))
  | ((with_reducible apply ggs_cons C _ l1); (case hw => decide))
  | ((with_reducible apply ggs_cons C _ l2); (case hw => decide))
  | ((with_reducible apply ggs_cons C _ l3); (case hw => decide))
  | ((with_reducible apply ggs_cons C _ l4); (case hw => decide))
  | ((with_reducible apply ggs_cons C _ l5); (case hw => decide))
  | ((with_reducible apply ggs_cons C _ l6); (case hw => decide))
  | ((with_reducible apply ggs_cons C _ l7); (case hw => decide))
  | ((with_reducible apply ggs_cons C _ l8); (case hw => decide))
  | ((with_reducible apply ggs_cons C _ l9); (case hw => decide))
  | ((with_reducible apply ggs_cons C _ l10); (case hw => decide))
  | ((with_reducible apply ggs_cons C _ l11); (case hw => decide))
  | ((with_reducible apply ggs_cons C _ l12); (case hw => decide))
  | ((with_reducible apply ggs_cons C _ l13); (case hw => decide))
  | ((with_reducible apply ggs_cons C _ l14); (case hw => decide))
  | ((with_reducible apply ggs_cons C _ l15); (case hw => decide))
  | ((with_reducible apply ggs_cons C _ l16); (case hw => decide))
  | ((with_reducible apply ggs_cons C _ l17); (case hw => decide))
  | ((with_reducible apply ggs_cons C _ l18); (case hw => decide))
  | ((with_reducible apply ggs_cons C _ l19); (case hw => decide))
  | ((with_reducible apply ggs_cons C _ l20); (case hw => decide))
  | ((with_reducible apply ggs_cons C _ l21); (case hw => decide))
  | ((with_reducible apply ggs_cons C _ l22); (case hw => decide))
  | ((with_reducible apply ggs_cons C _ l23); (case hw => decide)))
set_option hygiene false in
local macro_rules | `(tactic| walk_at "dw.gg") => `(tactic| (first | (with_reducible apply gg_tupN C) | (with_reducible apply gg_lstN C)); (case h => walk_at "dw.ggs"); (case hn => rfl); (case hst => rfl))
set_option hygiene false in
local macro_rules | `(tactic| walk_at "dw.unp") => `(tactic| (show GSs _ _ (List.cons _ _) _; (with_reducible apply gss_unp (ws := List.range 40)); (case he => walk_at "dw.e"); (case hg => walk_at "dw.gg"); (case hs => rfl); (case hw => rfl); (case h1 => rfl); (case' hn => walk_at "dw.nf")))
set_option hygiene false in
local macro_rules | `(tactic| walk_at "dw.setI") => `(tactic| ((case h => assumption); (case hG => rfl); (case ha => (intro _; rfl)); (case hs => rfl); (case hw => rfl); (case h1' => rfl); (case' he => walk_at "dw.e"); (case' hj => walk_at "dw.e"); (case hjn => rfl); (case' hn => walk_at "dw.nf")))
set_option hygiene false in
local macro_rules | `(tactic| walk_at "dw.app") => `(tactic| ((case h => assumption); (case hG => rfl); (case hb => rfl); (case hl => rfl); (case hst => rfl); (case hfew => rfl); (case hs => rfl); (case' he => walk_at "dw.e"); (case' hn => walk_at "dw.nf")))
set_option hygiene false in
local macro_rules | `(tactic| walk_at "dw.asgC0") => `(tactic| first
  | (with_reducible apply gss_asgOc C _ l0)
  | (with_reducible apply gss_asgOc C _ l1)
  | (with_reducible apply gss_asgOc C _ l2)
  | (with_reducible apply gss_asgOc C _ l3)
  | (with_reducible apply gss_asgOc C _ l4)
  | (with_reducible apply gss_asgOc C _ l5)
  | (with_reducible apply gss_asgOc C _ l6)
  | (with_reducible apply gss_asgOc C _ l7)
  | (with_reducible apply gss_asgOc C _ l8)
  | (with_reducible apply gss_asgOc C _ l9)
  | (with_reducible apply gss_asgOc C _ l10)
  | (with_reducible apply gss_asgOc C _ l11)
  | (with_reducible apply gss_asgOc C _ l12)
  | (with_reducible apply gss_asgOc C _ l13)
  | (with_reducible apply gss_asgOc C _ l14)
  | (with_reducible apply gss_asgOc C _ l15)
  | (with_reducible apply gss_asgOc C _ l16)
  | (with_reducible apply gss_asgOc C _ l17)
  | (with_reducible apply gss_asgOc C _ l18)
  | (with_reducible apply gss_asgOc C _ l19))
set_option hygiene false in
local macro_rules | `(tactic| walk_at "dw.asgC") => `(tactic| (show GSs _ _ (List.cons _ _) _; walk_at "dw.asgC0"; (case hc => decide +kernel); (case' he => walk_at "dw.e"); (case' hn => walk_at "dw.nf")))
set_option hygiene false in
local macro_rules | `(tactic| walk_at "dw.unpE") => `(tactic| ((case he => walk_at "dw.e"); (case hd => rfl); (case hg => walk_at "dw.gg"); (case hs => rfl); (case hw => rfl); (case h1 => rfl); (case' hn => walk_at "dw.nf")))
set_option hygiene false in
local macro_rules | `(tactic| walk_at "dw.ext") => `(tactic| ((case h => assumption); (case hG => rfl); (case hb => rfl); (case hl => rfl); (case hst => rfl); (case hfew => rfl); (case hs => rfl); (case' he => walk_at "dw.e"); (case' hn => walk_at "dw.nf")))

/-! ### way_between -/
abbrev s_way_between : Stmt := topS 5
abbrev n_way_between : List Str := ["P", "Q"]
theorem sc_way_between : FnScope n_way_between ["P", "Q"] (defScope s_way_between) := ⟨rfl, rfl, rfl, by decide +kernel, rfl, by decide +kernel, by decide +kernel⟩
theorem v0_way_between : okV n_way_between (defScope s_way_between) 0 "P" = true := by decide +kernel
theorem v1_way_between : okV n_way_between (defScope s_way_between) 1 "Q" = true := by decide +kernel
def c_way_between : Ct := fun ds R => ∃ P Q : P3, ds = [P.en, Q.en] ∧ R (.fz (P3.en (way P Q)))
theorem ln_way_between : ∀ ds R, c_way_between ds R → ds.length = 2 := by
  rintro ds R ⟨P, Q, rfl, _⟩
  rfl
theorem bd_way_between {W : Wd} {k : Nat} (B : Bn W) (X : Cx) (C : Cok X W n_way_between (defScope s_way_between) k) (ds : List D) (R : Rs → Prop) (h : c_way_between ds R) :
    GSs X (startG n_way_between ds) (defBody s_way_between) { nx := fun _ => R (.fz .none), rt := R } := by
  obtain ⟨P, Q, rfl, hR⟩ := h
  have v0 := v0_way_between
  have v1 := v1_way_between
  (show GSs X [.fz _, .fz _] (List.cons _ _) _)
  apply gss_ret
  · walk_at "dw.e"
  · exact hR

theorem has_way_between {W : Wd} {k : Nat} (B : Bn W) (F : FunAt W "way_between" s_way_between) : Has W (k + 1) "way_between" c_way_between :=
  has_mk F sc_way_between ln_way_between (fun _ _ _ _ _ _ us hl => match us, hl with | [_, _], _ => rfl) fun X C ds R h => bd_way_between B X C ds R h
/-! ### cross_of -/
abbrev s_cross_of : Stmt := topS 6
abbrev n_cross_of : List Str := ["u", "v"]
theorem sc_cross_of : FnScope n_cross_of ["u", "v"] (defScope s_cross_of) := ⟨rfl, rfl, rfl, by decide +kernel, rfl, by decide +kernel, by decide +kernel⟩
theorem v0_cross_of : okV n_cross_of (defScope s_cross_of) 0 "u" = true := by decide +kernel
theorem v1_cross_of : okV n_cross_of (defScope s_cross_of) 1 "v" = true := by decide +kernel
def c_cross_of : Ct := fun ds R => ∃ u v : P3, ds = [u.en, v.en] ∧ P3.Bd 100000 u ∧ P3.Bd 100000 v ∧ R (.fz (P3.en (cross u v)))
theorem ln_cross_of : ∀ ds R, c_cross_of ds R → ds.length = 2 := by
  rintro ds R ⟨u, v, rfl, _⟩
  rfl
theorem bd_cross_of {W : Wd} {k : Nat} (B : Bn W) (X : Cx) (C : Cok X W n_cross_of (defScope s_cross_of) k) (ds : List D) (R : Rs → Prop) (h : c_cross_of ds R) :
    GSs X (startG n_cross_of ds) (defBody s_cross_of) { nx := fun _ => R (.fz .none), rt := R } := by
  obtain ⟨u, v, rfl, ⟨hux, huy, huz⟩, ⟨hvx, hvy, hvz⟩, hR⟩ := h
  have v0 := v0_cross_of
  have v1 := v1_cross_of
  (show GSs X [.fz _, .fz _] (List.cons _ _) _)
  apply gss_ret
  · walk_at "dw.e"
  · exact hR

theorem has_cross_of {W : Wd} {k : Nat} (B : Bn W) (F : FunAt W "cross_of" s_cross_of) : Has W (k + 1) "cross_of" c_cross_of :=
  has_mk F sc_cross_of ln_cross_of (fun _ _ _ _ _ _ us hl => match us, hl with | [_, _], _ => rfl) fun X C ds R h => bd_cross_of B X C ds R h
/-! ### product_of -/
abbrev s_product_of : Stmt := topS 7
abbrev n_product_of : List Str := ["u", "v"]
theorem sc_product_of : FnScope n_product_of ["u", "v"] (defScope s_product_of) := ⟨rfl, rfl, rfl, by decide +kernel, rfl, by decide +kernel, by decide +kernel⟩
theorem v0_product_of : okV n_product_of (defScope s_product_of) 0 "u" = true := by decide +kernel
theorem v1_product_of : okV n_product_of (defScope s_product_of) 1 "v" = true := by decide +kernel
def c_product_of : Ct := fun ds R => ∃ (du : D) (u v : P3), ds = [du, v.en] ∧ Sq3 du u ∧ P3.Bd 100000 u ∧ P3.Bd 100000 v ∧ R (.fz (.int (prod u v)))
theorem ln_product_of : ∀ ds R, c_product_of ds R → ds.length = 2 := by
  rintro ds R ⟨du, u, v, rfl, _⟩
  rfl
theorem bd_product_of {W : Wd} {k : Nat} (B : Bn W)  (X : Cx) (C : Cok X W n_product_of (defScope s_product_of) k) (ds : List D) (R : Rs → Prop) (h : c_product_of ds R) :
    GSs X (startG n_product_of ds) (defBody s_product_of) { nx := fun _ => R (.fz .none), rt := R } := by
  obtain ⟨du, u, v, rfl, hs, hu, hv, hR⟩ := h
  have v0 := v0_product_of
  have v1 := v1_product_of
  (show GSs X [.fz _, .fz _] (List.cons _ _) _)
  obtain ⟨hux, huy, huz⟩ := hu
  obtain ⟨hvx, hvy, hvz⟩ := hv
  cases hs
  · apply gss_ret
    · walk_at "dw.e"
    · exact hR
  · apply gss_ret
    · walk_at "dw.e"
    · exact hR
  · apply gss_ret
    · walk_at "dw.e"
    · exact hR

theorem has_product_of {W : Wd} {k : Nat} (B : Bn W) (F : FunAt W "product_of" s_product_of) : Has W (k + 1) "product_of" c_product_of :=
  has_mk F sc_product_of ln_product_of (fun _ _ _ _ _ _ us hl => match us, hl with | [_, _], _ => rfl) fun X C ds R h => bd_product_of B X C ds R h
/-! ### lift_of -/
abbrev s_lift_of : Stmt := topS 8
abbrev n_lift_of : List Str := ["P", "Q", "R", "S"]
theorem sc_lift_of : FnScope n_lift_of ["P", "Q", "R", "S"] (defScope s_lift_of) := ⟨rfl, rfl, rfl, by decide +kernel, rfl, by decide +kernel, by decide +kernel⟩
theorem v0_lift_of : okV n_lift_of (defScope s_lift_of) 0 "P" = true := by decide +kernel
theorem v1_lift_of : okV n_lift_of (defScope s_lift_of) 1 "Q" = true := by decide +kernel
theorem v2_lift_of : okV n_lift_of (defScope s_lift_of) 2 "R" = true := by decide +kernel
theorem v3_lift_of : okV n_lift_of (defScope s_lift_of) 3 "S" = true := by decide +kernel
theorem g_product_of_lift_of : glB (defScope s_lift_of) "product_of" = true := by decide +kernel
theorem g_cross_of_lift_of : glB (defScope s_lift_of) "cross_of" = true := by decide +kernel
theorem g_way_between_lift_of : glB (defScope s_lift_of) "way_between" = true := by decide +kernel
def c_lift_of : Ct := fun ds R => ∃ (P Q S T : P3), ds = [P.en, Q.en, S.en, T.en] ∧ P3.Bd 40000 P ∧ P3.Bd 40000 Q ∧ P3.Bd 40000 S ∧ P3.Bd 40000 T ∧ R (.fz (.int (lift P Q S T)))
theorem ln_lift_of : ∀ ds R, c_lift_of ds R → ds.length = 4 := by
  rintro ds R ⟨P, Q, S, T, rfl, _⟩
  rfl
theorem bd_lift_of {W : Wd} {k : Nat} (B : Bn W) (h_product_of : Has W k "product_of" c_product_of) (h_cross_of : Has W k "cross_of" c_cross_of) (h_way_between : Has W k "way_between" c_way_between) (X : Cx) (C : Cok X W n_lift_of (defScope s_lift_of) k) (ds : List D) (R : Rs → Prop) (h : c_lift_of ds R) :
    GSs X (startG n_lift_of ds) (defBody s_lift_of) { nx := fun _ => R (.fz .none), rt := R } := by
  obtain ⟨P, Q, S, T, rfl, hP, hQ, hS, hT, hR⟩ := h
  have v0 := v0_lift_of
  have v1 := v1_lift_of
  have v2 := v2_lift_of
  have v3 := v3_lift_of
  have g_product_of := g_product_of_lift_of
  have g_cross_of := g_cross_of_lift_of
  have g_way_between := g_way_between_lift_of
  (show GSs X [.fz _, .fz _, .fz _, .fz _] (List.cons _ _) _)
  have h1 := hP.way hQ
  have h2 := hP.way hS
  have h3 := hP.way hT
  have h4 := h1.cross h2
  apply gss_retE
  · walk_at "dw.e"
  · exact (rfl : _ = PyData.int (lift P Q S T))
  · exact hR

theorem has_lift_of {W : Wd} {k : Nat} (B : Bn W) (F : FunAt W "lift_of" s_lift_of) (h_product_of : Has W k "product_of" c_product_of) (h_cross_of : Has W k "cross_of" c_cross_of) (h_way_between : Has W k "way_between" c_way_between) : Has W (k + 1) "lift_of" c_lift_of :=
  has_mk F sc_lift_of ln_lift_of (fun _ _ _ _ _ _ us hl => match us, hl with | [_, _, _, _], _ => rfl) fun X C ds R h => bd_lift_of B (h_product_of := h_product_of) (h_cross_of := h_cross_of) (h_way_between := h_way_between) X C ds R h
/-! ### shared_by -/
abbrev s_shared_by : Stmt := topS 9
abbrev n_shared_by : List Str := ["numbers", "found", "number", "other"]
theorem sc_shared_by : FnScope n_shared_by ["numbers"] (defScope s_shared_by) := ⟨rfl, rfl, rfl, by decide +kernel, rfl, by decide +kernel, by decide +kernel⟩
theorem v0_shared_by : okV n_shared_by (defScope s_shared_by) 0 "numbers" = true := by decide +kernel
theorem v1_shared_by : okV n_shared_by (defScope s_shared_by) 1 "found" = true := by decide +kernel
theorem l1_shared_by : okL n_shared_by (defScope s_shared_by) 1 "found" = true := by decide +kernel
theorem v2_shared_by : okV n_shared_by (defScope s_shared_by) 2 "number" = true := by decide +kernel
theorem l2_shared_by : okL n_shared_by (defScope s_shared_by) 2 "number" = true := by decide +kernel
theorem v3_shared_by : okV n_shared_by (defScope s_shared_by) 3 "other" = true := by decide +kernel
theorem l3_shared_by : okL n_shared_by (defScope s_shared_by) 3 "other" = true := by decide +kernel
theorem g_abs_shared_by : glB (defScope s_shared_by) "abs" = true := by decide +kernel
def c_shared_by : Ct := fun ds R => ∃ (u : P3), ds = [u.en] ∧ R (.fz (.int (p3g u)))
theorem ln_shared_by : ∀ ds R, c_shared_by ds R → ds.length = 1 := by
  rintro ds R ⟨u, rfl, _⟩
  rfl
theorem bd_shared_by {W : Wd} {k : Nat} (B : Bn W)  (X : Cx) (C : Cok X W n_shared_by (defScope s_shared_by) k) (ds : List D) (R : Rs → Prop) (h : c_shared_by ds R) :
    GSs X (startG n_shared_by ds) (defBody s_shared_by) { nx := fun _ => R (.fz .none), rt := R } := by
  obtain ⟨u, rfl, hR⟩ := h
  have v0 := v0_shared_by
  have v1 := v1_shared_by
  have l1 := l1_shared_by
  have v2 := v2_shared_by
  have l2 := l2_shared_by
  have v3 := v3_shared_by
  have l3 := l3_shared_by
  have g_abs := g_abs_shared_by
  (show GSs X [.fz _, .no, .no, .no] (List.cons _ _) _)
  walk_at "dw.asg"
  apply gss_for C (fun i G' => ∃ (f : Int) (a b : Sl), G' = [.fz u.en, .fz (.int f), a, b] ∧ 0 ≤ f ∧ f = ([u.x, u.y, u.z].take i).foldl (fun g n => ((Int.gcd g n : Nat) : Int)) 0)
  · walk_at "dw.e"
  · exact ⟨0, _, _, rfl, Int.le_refl _, rfl⟩
  · rintro i d G' hd ⟨f, a, b, rfl, hf, hfe⟩
    obtain ⟨n, rfl, hn⟩ : ∃ n : Int, d = .int n ∧ [u.x, u.y, u.z][i]? = some n := by
      match i, hd with
      | 0, hd => exact ⟨_, (Option.some.inj hd).symm, rfl⟩
      | 1, hd => exact ⟨_, (Option.some.inj hd).symm, rfl⟩
      | 2, hd => exact ⟨_, (Option.some.inj hd).symm, rfl⟩
    refine ⟨_, [2], gg_name C 2 l2 (by simp), ?_⟩
    walk_at "dw.asg"
    apply gss_while C (fun m G2 => ∃ x y : Int, G2 = [.fz u.en, .fz (.int x), .fz (.int n), .fz (.int y)] ∧ y.natAbs = m ∧ 0 ≤ x ∧ 0 ≤ y ∧ Int.gcd x y = Int.gcd f n) n.natAbs
    · refine ⟨f, _, rfl, ?_, hf, ?_, ?_⟩
      · split <;> omega
      · split <;> omega
      · split
        · rw [Int.gcd_neg]
        · rfl
    · rintro m G2 ⟨x, y, rfl, hm, hx, hy, hg⟩
      refine ⟨!decide (y = 0), ?_, ?_, ?_⟩
      · walk_at "dw.e"
      · intro ht
        have hy0 : y ≠ 0 := by simpa using ht
        (show GSs _ _ (List.cons _ _) _)
        apply gss_par C 1 3 (d1 := .int y) (d2 := .int (x.fmod y))
        walk_at "dw.par"
        apply gss_nil
        refine ⟨_, ?_, y, x.fmod y, rfl, rfl, hy, ?_, (gcd_fmod x y).trans hg⟩
        · have := fmod_lt_abs x hy0
          omega
        · exact Int.fmod_nonneg_of_pos x (by omega)
      · intro ht
        have hy0 : y = 0 := by simpa using ht
        subst hy0
        apply gss_nil
        refine ⟨x, _, _, rfl, hx, ?_⟩
        rw [List.take_add_one, hn, List.foldl_append, ← hfe]
        show x = ((Int.gcd f n : Nat) : Int)
        rw [← hg, Int.gcd_zero_right]
        omega
  · rintro G' ⟨f, a, b, rfl, hf, hfe⟩
    apply gss_ret
    · walk_at "dw.e"
    · have e : f = p3g u := hfe.trans (p3g_fold u)
      rw [e]
      exact hR
  · intro x
    rfl

theorem has_shared_by {W : Wd} {k : Nat} (B : Bn W) (F : FunAt W "shared_by" s_shared_by) : Has W (k + 1) "shared_by" c_shared_by :=
  has_mk F sc_shared_by ln_shared_by (fun _ _ _ _ _ _ us hl => match us, hl with | [_], _ => rfl) fun X C ds R h => bd_shared_by B X C ds R h
/-! ### plane_through -/
abbrev s_plane_through : Stmt := topS 10
abbrev n_plane_through : List Str := ["P", "Q", "R", "cross", "many", "a", "b", "c", "number"]
theorem sc_plane_through : FnScope n_plane_through ["P", "Q", "R"] (defScope s_plane_through) := ⟨rfl, rfl, rfl, by decide +kernel, rfl, by decide +kernel, by decide +kernel⟩
theorem v0_plane_through : okV n_plane_through (defScope s_plane_through) 0 "P" = true := by decide +kernel
theorem v1_plane_through : okV n_plane_through (defScope s_plane_through) 1 "Q" = true := by decide +kernel
theorem v2_plane_through : okV n_plane_through (defScope s_plane_through) 2 "R" = true := by decide +kernel
theorem v3_plane_through : okV n_plane_through (defScope s_plane_through) 3 "cross" = true := by decide +kernel
theorem l3_plane_through : okL n_plane_through (defScope s_plane_through) 3 "cross" = true := by decide +kernel
theorem v4_plane_through : okV n_plane_through (defScope s_plane_through) 4 "many" = true := by decide +kernel
theorem l4_plane_through : okL n_plane_through (defScope s_plane_through) 4 "many" = true := by decide +kernel
theorem v5_plane_through : okV n_plane_through (defScope s_plane_through) 5 "a" = true := by decide +kernel
theorem l5_plane_through : okL n_plane_through (defScope s_plane_through) 5 "a" = true := by decide +kernel
theorem v6_plane_through : okV n_plane_through (defScope s_plane_through) 6 "b" = true := by decide +kernel
theorem l6_plane_through : okL n_plane_through (defScope s_plane_through) 6 "b" = true := by decide +kernel
theorem v7_plane_through : okV n_plane_through (defScope s_plane_through) 7 "c" = true := by decide +kernel
theorem l7_plane_through : okL n_plane_through (defScope s_plane_through) 7 "c" = true := by decide +kernel
theorem g_cross_of_plane_through : glB (defScope s_plane_through) "cross_of" = true := by decide +kernel
theorem g_shared_by_plane_through : glB (defScope s_plane_through) "shared_by" = true := by decide +kernel
theorem g_way_between_plane_through : glB (defScope s_plane_through) "way_between" = true := by decide +kernel
theorem g_Flat_plane_through : glB (defScope s_plane_through) "Flat" = true := by decide +kernel
theorem g_product_of_plane_through : glB (defScope s_plane_through) "product_of" = true := by decide +kernel
def c_plane_through : Ct := fun ds R => ∃ (P Q T : P3), ds = [P.en, Q.en, T.en] ∧ P3.Bd 3000 P ∧ P3.Bd 3000 Q ∧ P3.Bd 3000 T ∧ 0 < p3g (cross (way P Q) (way P T)) ∧ R (.fz (Pl.en (planeA P Q T)))
theorem ln_plane_through : ∀ ds R, c_plane_through ds R → ds.length = 3 := by
  rintro ds R ⟨P, Q, T, rfl, _⟩
  rfl
theorem bd_plane_through {W : Wd} {k : Nat} (B : Bn W) (h_cross_of : Has W k "cross_of" c_cross_of) (h_shared_by : Has W k "shared_by" c_shared_by) (h_way_between : Has W k "way_between" c_way_between) (h_product_of : Has W k "product_of" c_product_of) (X : Cx) (C : Cok X W n_plane_through (defScope s_plane_through) k) (ds : List D) (R : Rs → Prop) (h : c_plane_through ds R) :
    GSs X (startG n_plane_through ds) (defBody s_plane_through) { nx := fun _ => R (.fz .none), rt := R } := by
  obtain ⟨P, Q, T, rfl, hP, hQ, hT, hg, hR⟩ := h
  have v0 := v0_plane_through
  have v1 := v1_plane_through
  have v2 := v2_plane_through
  have v3 := v3_plane_through
  have l3 := l3_plane_through
  have v4 := v4_plane_through
  have l4 := l4_plane_through
  have v5 := v5_plane_through
  have l5 := l5_plane_through
  have v6 := v6_plane_through
  have l6 := l6_plane_through
  have v7 := v7_plane_through
  have l7 := l7_plane_through
  have g_cross_of := g_cross_of_plane_through
  have g_shared_by := g_shared_by_plane_through
  have g_way_between := g_way_between_plane_through
  have g_Flat := g_Flat_plane_through
  have g_product_of := g_product_of_plane_through
  (show GSs X [.fz _, .fz _, .fz _, .no, .no, .no, .no, .no, .no] (List.cons _ _) _)
  have w1 := hP.way hQ
  have w2 := hP.way hT
  have hc := w1.cross w2
  walk_at "dw.asgE"
  case hd => show _ = P3.en (cross (way P Q) (way P T)); rfl
  rw [show planeA P Q T = planeOf (cross (way P Q) (way P T)) P from rfl] at hR
  generalize cross (way P Q) (way P T) = c at hc hg hR
  walk_at "dw.asgE"
  case hd => show _ = PyData.int (p3g c); rfl
  have hgb := p3g_bd hc hg
  have hdb := hc.divP hg
  apply gss_not
  · walk_at "dw.e"
  (show GSs _ _ (List.cons _ _) _)
  apply gss_unp (ws := List.range 40) (d := .list [.int (divP c (p3g c)).x, .int (divP c (p3g c)).y, .int (divP c (p3g c)).z])
  case he =>
    apply GO.ge
    refine GO.is (ds := [c.x, c.y, c.z].map fun a => PyData.int (a / p3g c)) ?_ rfl
    apply go_lc1 C 8 (xs := [c.x, c.y, c.z]) (en := .int)
    case ok => decide +kernel
    case okl => decide +kernel
    case hi => walk_at "dw.e"
    case he => intro X C a ha; walk_at "dw.e"
    all_goals walk_at "dw.e"
  case hg => walk_at "dw.gg"
  case hs => rfl
  case hw => rfl
  case h1 => rfl
  generalize hv : divP c (p3g c) = v at hdb
  apply gss_retE (d := Pl.en ⟨v, prod v P⟩)
  · walk_at "dw.e"
  · rfl
  · subst hv
    exact hR

theorem has_plane_through {W : Wd} {k : Nat} (B : Bn W) (F : FunAt W "plane_through" s_plane_through) (h_cross_of : Has W k "cross_of" c_cross_of) (h_shared_by : Has W k "shared_by" c_shared_by) (h_way_between : Has W k "way_between" c_way_between) (h_product_of : Has W k "product_of" c_product_of) : Has W (k + 1) "plane_through" c_plane_through :=
  has_mk F sc_plane_through ln_plane_through (fun _ _ _ _ _ _ us hl => match us, hl with | [_, _, _], _ => rfl) fun X C ds R h => bd_plane_through B (h_cross_of := h_cross_of) (h_shared_by := h_shared_by) (h_way_between := h_way_between) (h_product_of := h_product_of) X C ds R h
/-! ### side_of -/
abbrev s_side_of : Stmt := topS 11
abbrev n_side_of : List Str := ["plane", "P", "height"]
theorem sc_side_of : FnScope n_side_of ["plane", "P"] (defScope s_side_of) := ⟨rfl, rfl, rfl, by decide +kernel, rfl, by decide +kernel, by decide +kernel⟩
theorem v0_side_of : okV n_side_of (defScope s_side_of) 0 "plane" = true := by decide +kernel
theorem v1_side_of : okV n_side_of (defScope s_side_of) 1 "P" = true := by decide +kernel
theorem v2_side_of : okV n_side_of (defScope s_side_of) 2 "height" = true := by decide +kernel
theorem l2_side_of : okL n_side_of (defScope s_side_of) 2 "height" = true := by decide +kernel
theorem g_product_of_side_of : glB (defScope s_side_of) "product_of" = true := by decide +kernel
def c_side_of : Ct := fun ds R => ∃ (p : Pl) (P : P3), ds = [p.en, P.en] ∧ P3.Bd 100000 p.n ∧ P3.Bd 100000 P ∧ R (.fz (.int (sideA p P)))
theorem ln_side_of : ∀ ds R, c_side_of ds R → ds.length = 2 := by
  rintro ds R ⟨p, P, rfl, _⟩
  rfl
theorem bd_side_of {W : Wd} {k : Nat} (B : Bn W) (h_product_of : Has W k "product_of" c_product_of) (X : Cx) (C : Cok X W n_side_of (defScope s_side_of) k) (ds : List D) (R : Rs → Prop) (h : c_side_of ds R) :
    GSs X (startG n_side_of ds) (defBody s_side_of) { nx := fun _ => R (.fz .none), rt := R } := by
  obtain ⟨p, P, rfl, hp, hP, hR⟩ := h
  have v0 := v0_side_of
  have v1 := v1_side_of
  have v2 := v2_side_of
  have l2 := l2_side_of
  have g_product_of := g_product_of_side_of
  (show GSs X [.fz _, .fz _, .no] (List.cons _ _) _)
  walk_at "dw.asg"
  generalize hH : prod p.n P - p.d = H
  rw [show sideA p P = if H > 0 then 1 else if H < 0 then -1 else 0 by rw [← hH]; rfl] at hR
  apply gss_when
  · walk_at "dw.e"
  · intro ht
    apply gss_ret
    · walk_at "dw.e"
    · rwa [if_pos (of_decide_eq_true ht)] at hR
  · intro ht
    rw [if_neg (of_decide_eq_false ht)] at hR
    apply gss_when
    · walk_at "dw.e"
    · intro ht
      apply gss_ret
      · walk_at "dw.e"
      · rwa [if_pos (of_decide_eq_true ht)] at hR
    · intro ht
      rw [if_neg (of_decide_eq_false ht)] at hR
      apply gss_ret
      · walk_at "dw.e"
      · exact hR

theorem has_side_of {W : Wd} {k : Nat} (B : Bn W) (F : FunAt W "side_of" s_side_of) (h_product_of : Has W k "product_of" c_product_of) : Has W (k + 1) "side_of" c_side_of :=
  has_mk F sc_side_of ln_side_of (fun _ _ _ _ _ _ us hl => match us, hl with | [_, _], _ => rfl) fun X C ds R h => bd_side_of B (h_product_of := h_product_of) X C ds R h
/-! ### on_a_line -/
abbrev s_on_a_line : Stmt := topS 14
abbrev n_on_a_line : List Str := ["P", "Q", "R"]
theorem sc_on_a_line : FnScope n_on_a_line ["P", "Q", "R"] (defScope s_on_a_line) := ⟨rfl, rfl, rfl, by decide +kernel, rfl, by decide +kernel, by decide +kernel⟩
theorem v0_on_a_line : okV n_on_a_line (defScope s_on_a_line) 0 "P" = true := by decide +kernel
theorem v1_on_a_line : okV n_on_a_line (defScope s_on_a_line) 1 "Q" = true := by decide +kernel
theorem v2_on_a_line : okV n_on_a_line (defScope s_on_a_line) 2 "R" = true := by decide +kernel
theorem g_NOWAY_on_a_line : glB (defScope s_on_a_line) "NOWAY" = true := by decide +kernel
theorem g_cross_of_on_a_line : glB (defScope s_on_a_line) "cross_of" = true := by decide +kernel
theorem g_way_between_on_a_line : glB (defScope s_on_a_line) "way_between" = true := by decide +kernel
def c_on_a_line : Ct := fun ds R => ∃ (P Q T : P3), ds = [P.en, Q.en, T.en] ∧ (P3.Bd 3000 P) ∧ (P3.Bd 3000 Q) ∧ (P3.Bd 3000 T) ∧ R (.fz (.bool (onLine P Q T)))
theorem ln_on_a_line : ∀ ds R, c_on_a_line ds R → ds.length = 3 := by
  rintro ds R ⟨P, Q, T, rfl, _⟩
  rfl
theorem bd_on_a_line {W : Wd} {k : Nat} (B : Bn W) (k_NOWAY : ConstD W "NOWAY" (.tuple (([0, 0, 0] : List Int).map .int))) (h_cross_of : Has W k "cross_of" c_cross_of) (h_way_between : Has W k "way_between" c_way_between) (X : Cx) (C : Cok X W n_on_a_line (defScope s_on_a_line) k) (ds : List D) (R : Rs → Prop) (h : c_on_a_line ds R) :
    GSs X (startG n_on_a_line ds) (defBody s_on_a_line) { nx := fun _ => R (.fz .none), rt := R } := by
  obtain ⟨P, Q, T, rfl, hP, hQ, hT, hR⟩ := h
  have v0 := v0_on_a_line
  have v1 := v1_on_a_line
  have v2 := v2_on_a_line
  have g_NOWAY := g_NOWAY_on_a_line
  have g_cross_of := g_cross_of_on_a_line
  have g_way_between := g_way_between_on_a_line
  (show GSs X [.fz _, .fz _, .fz _] (List.cons _ _) _)
  have w1 := hP.way hQ
  have w2 := hP.way hT
  apply gss_ret
  · refine ge_cp C (x := P3.en (cross (way P Q) (way P T))) (y := P3.en P3.O) ?_ (GE.gh (ge_const C k_NOWAY g_NOWAY)) (cmp_eq3 _ _) rfl
    walk_at "dw.e"
  · exact hR

theorem has_on_a_line {W : Wd} {k : Nat} (B : Bn W) (k_NOWAY : ConstD W "NOWAY" (.tuple (([0, 0, 0] : List Int).map .int))) (F : FunAt W "on_a_line" s_on_a_line) (h_cross_of : Has W k "cross_of" c_cross_of) (h_way_between : Has W k "way_between" c_way_between) : Has W (k + 1) "on_a_line" c_on_a_line :=
  has_mk F sc_on_a_line ln_on_a_line (fun _ _ _ _ _ _ us hl => match us, hl with | [_, _, _], _ => rfl) fun X C ds R h => bd_on_a_line B (k_NOWAY := k_NOWAY) (h_cross_of := h_cross_of) (h_way_between := h_way_between) X C ds R h
/-! ### dimension_of -/
abbrev s_dimension_of : Stmt := topS 15
abbrev n_dimension_of : List Str := ["points", "one", "others", "P", "two", "off_line", "three"]
theorem sc_dimension_of : FnScope n_dimension_of ["points"] (defScope s_dimension_of) := ⟨rfl, rfl, rfl, by decide +kernel, rfl, by decide +kernel, by decide +kernel⟩
theorem v0_dimension_of : okV n_dimension_of (defScope s_dimension_of) 0 "points" = true := by decide +kernel
theorem v1_dimension_of : okV n_dimension_of (defScope s_dimension_of) 1 "one" = true := by decide +kernel
theorem l1_dimension_of : okL n_dimension_of (defScope s_dimension_of) 1 "one" = true := by decide +kernel
theorem v2_dimension_of : okV n_dimension_of (defScope s_dimension_of) 2 "others" = true := by decide +kernel
theorem l2_dimension_of : okL n_dimension_of (defScope s_dimension_of) 2 "others" = true := by decide +kernel
theorem v4_dimension_of : okV n_dimension_of (defScope s_dimension_of) 4 "two" = true := by decide +kernel
theorem l4_dimension_of : okL n_dimension_of (defScope s_dimension_of) 4 "two" = true := by decide +kernel
theorem v5_dimension_of : okV n_dimension_of (defScope s_dimension_of) 5 "off_line" = true := by decide +kernel
theorem l5_dimension_of : okL n_dimension_of (defScope s_dimension_of) 5 "off_line" = true := by decide +kernel
theorem v6_dimension_of : okV n_dimension_of (defScope s_dimension_of) 6 "three" = true := by decide +kernel
theorem l6_dimension_of : okL n_dimension_of (defScope s_dimension_of) 6 "three" = true := by decide +kernel
theorem g_len_dimension_of : glB (defScope s_dimension_of) "len" = true := by decide +kernel
theorem g_NoPoints_dimension_of : glB (defScope s_dimension_of) "NoPoints" = true := by decide +kernel
def c_dimension_of : Ct := fun ds R => ∃ (us : List P3), ds = [.list (us.map P3.en)] ∧ (∀ u ∈ us, P3.Bd 2000 u) ∧ (us ≠ []) ∧ (us.length ≤ 4000) ∧ R (.fz (.int (dimA us)))
theorem ln_dimension_of : ∀ ds R, c_dimension_of ds R → ds.length = 1 := by
  rintro ds R ⟨us, rfl, _⟩
  rfl
theorem bd_dimension_of {W : Wd} {k : Nat} (B : Bn W) (h_on_a_line : Has W k "on_a_line" c_on_a_line) (h_lift_of : Has W k "lift_of" c_lift_of) (X : Cx) (C : Cok X W n_dimension_of (defScope s_dimension_of) k) (ds : List D) (R : Rs → Prop) (h : c_dimension_of ds R) :
    GSs X (startG n_dimension_of ds) (defBody s_dimension_of) { nx := fun _ => R (.fz .none), rt := R } := by
  obtain ⟨us, rfl, hbA, hne, hlen, hR⟩ := h
  have v0 := v0_dimension_of
  have v1 := v1_dimension_of
  have l1 := l1_dimension_of
  have v2 := v2_dimension_of
  have l2 := l2_dimension_of
  have v4 := v4_dimension_of
  have l4 := l4_dimension_of
  have v5 := v5_dimension_of
  have l5 := l5_dimension_of
  have v6 := v6_dimension_of
  have l6 := l6_dimension_of
  have g_len := g_len_dimension_of
  have g_NoPoints := g_NoPoints_dimension_of
  (show GSs X [.fz _, .no, .no, .no, .no, .no, .no] (List.cons _ _) _)
  have hl0 : ((us.map P3.en).length : Int) ≠ 0 := by
    rw [List.length_map]
    have := List.length_pos_iff.mpr hne
    omega
  apply gss_not
  · walk_at "dw.e"
  unfold dimA at hR
  dsimp only at hR
  have x0 := getD_head (d := P3.O) hne
  have m0 := head_mem (d := P3.O) hne
  generalize us.headD P3.O = one at x0 hR m0
  have b0 := hbA _ m0
  (show GSs _ _ (List.cons _ _) _)
  apply gss_asg C 1 l1 (d := P3.en one)
  case hs => rfl
  case he =>
    walk_at "dw.e"
    try exact .lst (at0 x0)
  walk_at "dw.nf"
  (show GSs _ _ (List.cons _ _) _)
  apply gss_lc1f C 2 3 (xs := us) (en := P3.en) (bt := fun P => !decide (P = one)) (g := P3.en)
  walk_at "dw.lcsf"
  generalize hot : us.filter (fun P => !decide (P = one)) = others at hR
  have hbB : ∀ u ∈ others, P3.Bd 2000 u := fun u hu => hbA u (List.mem_filter.mp (hot ▸ hu)).1
  have lo : others.length ≤ 4000 := hot ▸ Nat.le_trans (List.length_filter_le _ _) hlen
  apply gss_when (t := decide (others = []))
  · walk_at "dw.e"
  · intro ht
    rw [if_pos (of_decide_eq_true ht)] at hR
    apply gss_ret
    · walk_at "dw.e"
    · exact hR
  intro ht
  have hno := of_decide_eq_false ht
  rw [if_neg hno] at hR
  have x1 := getD_head (d := P3.O) hno
  have m1 := head_mem (d := P3.O) hno
  generalize others.headD P3.O = two at x1 hR m1
  have b1 := hbB _ m1
  (show GSs _ _ (List.cons _ _) _)
  apply gss_asg C 4 l4 (d := P3.en two)
  case hs => rfl
  case he =>
    walk_at "dw.e"
    try exact .own (at0 x1)
  walk_at "dw.nf"
  (show GSs _ _ (List.cons _ _) _)
  apply gss_lc1f C 5 3 (xs := others) (en := P3.en) (bt := fun P => !onLine one two P) (g := P3.en)
  walk_at "dw.lcsf"
  generalize hoff : others.filter (fun P => !onLine one two P) = off at hR
  have hbC : ∀ u ∈ off, P3.Bd 2000 u := fun u hu => hbB u (List.mem_filter.mp (hoff ▸ hu)).1
  have lf : off.length ≤ 4000 := hoff ▸ Nat.le_trans (List.length_filter_le _ _) lo
  apply gss_when (t := decide (off = []))
  · walk_at "dw.e"
  · intro ht
    rw [if_pos (of_decide_eq_true ht)] at hR
    apply gss_ret
    · walk_at "dw.e"
    · exact hR
  intro ht
  have hnf := of_decide_eq_false ht
  rw [if_neg hnf] at hR
  have x2 := getD_head (d := P3.O) hnf
  have m2 := head_mem (d := P3.O) hnf
  generalize off.headD P3.O = three at x2 hR m2
  have b2 := hbC _ m2
  (show GSs _ _ (List.cons _ _) _)
  apply gss_asg C 6 l6 (d := P3.en three)
  case hs => rfl
  case he =>
    walk_at "dw.e"
    try exact .own (at0 x2)
  walk_at "dw.nf"
  (show GSs _ _ (List.cons _ _) _)
  apply gss_when (t := decide ((off.filter fun P => !decide (lift one two three P = 0)) = []))
  · refine gt_cp C (GL.gh (GO.gl (go_lc1f C 3 (xs := off) (en := P3.en) (bt := fun P => !decide (lift one two three P = 0)) (g := P3.en) ?_ ?_ ?_ ?_ ?_ ?_ ?_))) (GL.gh (GO.gl (go_lst (x1 := ()) ga_nil (by decide)))) (cmp_eqN3 _) rfl
    · decide +kernel
    · decide +kernel
    · walk_at "dw.e"
    · omega
    · intro X C a ha
      walk_at "dw.e"
    · intro X C a ha h
      walk_at "dw.e"
    · intro _
      rfl
  · intro ht
    rw [if_pos (of_decide_eq_true ht)] at hR
    apply gss_ret
    · walk_at "dw.e"
    · exact hR
  intro ht
  rw [if_neg (of_decide_eq_false ht)] at hR
  apply gss_ret
  · walk_at "dw.e"
  · exact hR

theorem has_dimension_of {W : Wd} {k : Nat} (B : Bn W) (F : FunAt W "dimension_of" s_dimension_of) (h_on_a_line : Has W k "on_a_line" c_on_a_line) (h_lift_of : Has W k "lift_of" c_lift_of) : Has W (k + 1) "dimension_of" c_dimension_of :=
  has_mk F sc_dimension_of ln_dimension_of (fun _ _ _ _ _ _ us hl => match us, hl with | [_], _ => rfl) fun X C ds R h => bd_dimension_of B (h_on_a_line := h_on_a_line) (h_lift_of := h_lift_of) X C ds R h
/-! ### plane_behind -/
abbrev s_plane_behind : Stmt := topS 16
abbrev n_plane_behind : List Str := ["points", "P", "Q", "best", "R"]
theorem sc_plane_behind : FnScope n_plane_behind ["points", "P", "Q"] (defScope s_plane_behind) := ⟨rfl, rfl, rfl, by decide +kernel, rfl, by decide +kernel, by decide +kernel⟩
theorem v0_plane_behind : okV n_plane_behind (defScope s_plane_behind) 0 "points" = true := by decide +kernel
theorem v1_plane_behind : okV n_plane_behind (defScope s_plane_behind) 1 "P" = true := by decide +kernel
theorem v2_plane_behind : okV n_plane_behind (defScope s_plane_behind) 2 "Q" = true := by decide +kernel
theorem v3_plane_behind : okV n_plane_behind (defScope s_plane_behind) 3 "best" = true := by decide +kernel
theorem l3_plane_behind : okL n_plane_behind (defScope s_plane_behind) 3 "best" = true := by decide +kernel
theorem v4_plane_behind : okV n_plane_behind (defScope s_plane_behind) 4 "R" = true := by decide +kernel
theorem l4_plane_behind : okL n_plane_behind (defScope s_plane_behind) 4 "R" = true := by decide +kernel
theorem g_plane_through_plane_behind : glB (defScope s_plane_behind) "plane_through" = true := by decide +kernel
theorem g_on_a_line_plane_behind : glB (defScope s_plane_behind) "on_a_line" = true := by decide +kernel
theorem g_lift_of_plane_behind : glB (defScope s_plane_behind) "lift_of" = true := by decide +kernel
def c_plane_behind : Ct := fun ds R => ∃ (us : List P3) (P Q : P3), ds = [.list (us.map P3.en), P.en, Q.en] ∧ (∀ u ∈ us, P3.Bd 2000 u) ∧ (P3.Bd 2001 P) ∧ (P3.Bd 2001 Q) ∧ (us.length ≤ 4000) ∧ (bestB us P Q ≠ none) ∧ R (.fz (Pl.en (planeB us P Q)))
theorem ln_plane_behind : ∀ ds R, c_plane_behind ds R → ds.length = 3 := by
  rintro ds R ⟨us, P, Q, rfl, _⟩
  rfl
theorem bd_plane_behind {W : Wd} {k : Nat} (B : Bn W) (h_plane_through : Has W k "plane_through" c_plane_through) (h_on_a_line : Has W k "on_a_line" c_on_a_line) (h_lift_of : Has W k "lift_of" c_lift_of) (X : Cx) (C : Cok X W n_plane_behind (defScope s_plane_behind) k) (ds : List D) (R : Rs → Prop) (h : c_plane_behind ds R) :
    GSs X (startG n_plane_behind ds) (defBody s_plane_behind) { nx := fun _ => R (.fz .none), rt := R } := by
  obtain ⟨us, P, Q, rfl, hbA, hP, hQ, hlen, hx, hR⟩ := h
  have v0 := v0_plane_behind
  have v1 := v1_plane_behind
  have v2 := v2_plane_behind
  have v3 := v3_plane_behind
  have l3 := l3_plane_behind
  have v4 := v4_plane_behind
  have l4 := l4_plane_behind
  have g_plane_through := g_plane_through_plane_behind
  have g_on_a_line := g_on_a_line_plane_behind
  have g_lift_of := g_lift_of_plane_behind
  (show GSs X [.fz _, .fz _, .fz _, .no, .no] (List.cons _ _) _)
  (show GSs _ _ (List.cons _ _) _)
  walk_at "dw.asg"
  apply gss_for C (fun i G' => ∃ r, G' = [.fz (.list (us.map P3.en)), .fz P.en, .fz Q.en, .fz (optP (bestB (us.take i) P Q)), r])
  · walk_at "dw.e"
  · exact ⟨_, rfl⟩
  · rintro i d G' hd ⟨r, rfl⟩
    rw [List.getElem?_map] at hd
    obtain ⟨u, hu, rfl⟩ := Option.map_eq_some_iff.mp hd
    refine ⟨_, [4], gg_name C 4 l4 (by simp), ?_⟩
    have bu := hbA u (List.mem_of_getElem? hu)
    have stp : bestB (us.take (i + 1)) P Q = bestS (onLine P Q) (behindC P Q) (bestB (us.take i) P Q) u := bestOf_take _ _ hu
    rw [stp]
    unfold bestS
    have hbst : ∀ b, bestB (us.take i) P Q = some b → P3.Bd 2000 b := fun b h => hbA b (List.mem_of_mem_take (best_skip h).1)
    generalize bestB (us.take i) P Q = best at hbst
    apply gss_when (t := onLine P Q u)
    · walk_at "dw.e"
    · intro ht
      apply gss_cnt
      rw [if_pos ht]
      exact ⟨_, rfl⟩
    · intro ht
      rw [if_neg (by rw [ht]; decide)]
      cases best with
      | none =>
        apply gss_when (t := true)
        · refine GW.gt (gw_or (t := true) ?_ (fun h => by cases h) (u := true))
          refine gt_cp C (x := .none) (y := .none) ?_ ?_ (CmpD.isN _) rfl
          · walk_at "dw.e"
          · walk_at "dw.e"
        · intro _
          walk_at "dw.asg"
          apply gss_nil
          apply gss_nil
          exact ⟨_, rfl⟩
        · intro h
          cases h
      | some b =>
        have bb := hbst b rfl
        (show GSs _ [_, _, _, .fz (P3.en b), _] (List.cons _ _) _)
        apply gss_when (t := behindC P Q b u)
        · refine GT.is (c := false || behindC P Q b u) (GW.gt (gw_or (t := false) ?_ fun _ => gw_or1 ?_)) (Bool.false_or _)
          · refine gt_cp C (x := P3.en b) (y := .none) ?_ ?_ (CmpD.isN _) rfl
            · walk_at "dw.e"
            · walk_at "dw.e"
          · exact gt_cp C (GE.gh (by walk_at "dw.e")) (GE.gh ge_int) (CmpD.gt _ _) rfl
        · intro ht
          (show GSs _ _ (List.cons _ _) _)
          walk_at "dw.asg"
          apply gss_nil
          apply gss_nil
          refine ⟨.fz u.en, ?_⟩
          simp only [ht, if_true]
          rfl
        · intro ht
          apply gss_nil
          refine ⟨.fz u.en, ?_⟩
          simp only [ht, Bool.false_eq_true, if_false]
          rfl
  · rintro G' ⟨r, rfl⟩
    rw [List.length_map, List.take_length]
    cases hb : bestB us P Q with
    | none => exact (hx hb).elim
    | some b =>
      obtain ⟨b1, b2⟩ := best_skip hb
      have bb := hbA b b1
      have hg : 0 < p3g (cross (way P Q) (way P b)) := p3gz_pos (of_decide_eq_false b2)
      (show GSs _ [_, _, _, .fz (P3.en b), _] (List.cons _ _) _)
      apply gss_ret
      · walk_at "dw.e"
      · have : planeB us P Q = planeA P Q b := by
          unfold planeB
          rw [hb]
          rfl
        rw [← this]
        exact hR
  · intro x
    rfl

theorem has_plane_behind {W : Wd} {k : Nat} (B : Bn W) (F : FunAt W "plane_behind" s_plane_behind) (h_plane_through : Has W k "plane_through" c_plane_through) (h_on_a_line : Has W k "on_a_line" c_on_a_line) (h_lift_of : Has W k "lift_of" c_lift_of) : Has W (k + 1) "plane_behind" c_plane_behind :=
  has_mk F sc_plane_behind ln_plane_behind (fun _ _ _ _ _ _ us hl => match us, hl with | [_, _, _], _ => rfl) fun X C ds R h => bd_plane_behind B (h_plane_through := h_plane_through) (h_on_a_line := h_on_a_line) (h_lift_of := h_lift_of) X C ds R h
/-! ### first_plane -/
abbrev s_first_plane : Stmt := topS 17
abbrev n_first_plane : List Str := ["points", "least", "plane", "row", "P"]
theorem sc_first_plane : FnScope n_first_plane ["points"] (defScope s_first_plane) := ⟨rfl, rfl, rfl, by decide +kernel, rfl, by decide +kernel, by decide +kernel⟩
theorem v0_first_plane : okV n_first_plane (defScope s_first_plane) 0 "points" = true := by decide +kernel
theorem v1_first_plane : okV n_first_plane (defScope s_first_plane) 1 "least" = true := by decide +kernel
theorem l1_first_plane : okL n_first_plane (defScope s_first_plane) 1 "least" = true := by decide +kernel
theorem v2_first_plane : okV n_first_plane (defScope s_first_plane) 2 "plane" = true := by decide +kernel
theorem l2_first_plane : okL n_first_plane (defScope s_first_plane) 2 "plane" = true := by decide +kernel
theorem v3_first_plane : okV n_first_plane (defScope s_first_plane) 3 "row" = true := by decide +kernel
theorem l3_first_plane : okL n_first_plane (defScope s_first_plane) 3 "row" = true := by decide +kernel
theorem g_min_first_plane : glB (defScope s_first_plane) "min" = true := by decide +kernel
theorem g_plane_behind_first_plane : glB (defScope s_first_plane) "plane_behind" = true := by decide +kernel
def c_first_plane : Ct := fun ds R => ∃ (us : List P3), ds = [.list (us.map P3.en)] ∧ (∀ u ∈ us, P3.Bd 2000 u) ∧ (us.length ≤ 4000) ∧ (Dim3 us) ∧ R (.fz (Pl.en (firstPlane us)))
theorem ln_first_plane : ∀ ds R, c_first_plane ds R → ds.length = 1 := by
  rintro ds R ⟨us, rfl, _⟩
  rfl
theorem bd_first_plane {W : Wd} {k : Nat} (B : Bn W) (h_plane_behind : Has W k "plane_behind" c_plane_behind) (h_side_of : Has W k "side_of" c_side_of) (h_on_a_line : Has W k "on_a_line" c_on_a_line) (X : Cx) (C : Cok X W n_first_plane (defScope s_first_plane) k) (ds : List D) (R : Rs → Prop) (h : c_first_plane ds R) :
    GSs X (startG n_first_plane ds) (defBody s_first_plane) { nx := fun _ => R (.fz .none), rt := R } := by
  obtain ⟨us, rfl, hbA, hlen, hd3, hR⟩ := h
  have v0 := v0_first_plane
  have v1 := v1_first_plane
  have l1 := l1_first_plane
  have v2 := v2_first_plane
  have l2 := l2_first_plane
  have v3 := v3_first_plane
  have l3 := l3_first_plane
  have g_min := g_min_first_plane
  have g_plane_behind := g_plane_behind_first_plane
  (show GSs X [.fz _, .no, .no, .no, .no] (List.cons _ _) _)
  obtain ⟨mL, hon, hpr, hsup, hne⟩ := first_row hd3
  obtain ⟨B0, hB0, eB0, eB1, hc0, _⟩ := first_up hd3
  have two := first_two hd3
  have bL := hbA _ mL
  have bU : P3.Bd 2001 (upP (leastP us)) := ⟨bL.x.mono (by decide), bL.y.mono (by decide), (bL.z.add (j := 1) (m := 1) (show (1 : Int).natAbs < 2 ^ 1 by decide)).mono (by decide)⟩
  unfold firstPlane at hR
  dsimp only at hR two
  have bp : Pl.Bd 7000 (planeB us (leastP us) (upP (leastP us))) := by
    rw [eB0]
    exact (planeA_bd (bL.mono (by decide)) bU ((hbA _ hB0).mono (by decide)) hc0).mono (by decide)
  have hx0 : bestB us (leastP us) (upP (leastP us)) ≠ none := by
    rw [eB1]
    simp
  clear eB0 eB1 hc0 hsup hpr hon hB0
  cases us with
  | nil => cases mL
  | cons x xs =>
  (show GSs _ _ (List.cons _ _) _)
  apply gss_asg C 1 l1 (d := P3.en (leastP (x :: xs)))
  case hs => rfl
  case he =>
    refine GE.is (ge_minE (x := x) (xs := xs) C g_min B.min ?_ (by decide) rfl) rfl
    walk_at "dw.e"
  walk_at "dw.nf"
  generalize hus : x :: xs = us at *
  generalize hL : leastP us = L at *
  (show GSs _ _ (List.cons _ _) _)
  apply gss_asg C 2 l2 (d := Pl.en (planeB us L (upP L)))
  case hs => rfl
  case he =>
    refine ge_call C h_plane_behind (Nat.le_refl _) g_plane_behind (ga_cons ?_ (ga_cons ?_ (ga_cons (d := P3.en (upP L)) ?_ ga_nil rfl) rfl) rfl) (fun R_ h_ => ⟨us, L, upP L, rfl, hbA, bL.mono (by decide), bU, hlen, hx0, h_⟩) rfl rfl
    · walk_at "dw.e"
    · walk_at "dw.e"
    · walk_at "dw.e"
  walk_at "dw.nf"
  generalize hp : planeB us L (upP L) = p at *
  have bpn := bp.n
  (show GSs _ _ (List.cons _ _) _)
  apply gss_asgOc C 3 l3
  case hc => decide +kernel
  case he =>
    refine go_lc1f C 4 (xs := us) (en := P3.en) (bt := fun P => !decide (P = L) && decide (sideA p P = 0)) (g := P3.en) ?_ ?_ ?_ ?_ ?_ ?_ ?_
    · decide +kernel
    · decide +kernel
    · walk_at "dw.e"
    · omega
    · intro X C a ha
      walk_at "dw.e"
    · intro X C a ha h
      walk_at "dw.e"
    · intro _
      rfl
  walk_at "dw.nf"
  rw [show us.filter (fun P => !decide (P = L) && decide (sideA p P = 0)) = rowF us p L from by
    unfold rowF
    congr 1
    funext a
    congr 1
    · simp
    · rw [Bool.eq_iff_iff, decide_eq_true_eq, decide_eq_true_eq]
      unfold sideA
      split
      · omega
      · split <;> omega]
  have hbB : ∀ u ∈ rowF us p L, P3.Bd 2000 u := fun u hu => hbA u (mem_rowF.mp hu).1
  have lr : (rowF us p L).length ≤ 4000 := Nat.le_trans (List.length_filter_le _ _) hlen
  have xq := getD_head (d := L) hne
  have mq := head_mem (d := L) hne
  generalize hq : (rowF us p L).headD L = q at xq mq hR two
  generalize hrow : rowF us p L = row at *
  have bq := hbB q mq
  apply gss_when (t := row.any fun P => !onLine L q P)
  · refine GT.is (c := !decide (row.filter (fun P => !onLine L q P) = [])) (gt_cp C (GL.gh (GO.gl (go_lc1f C 4 (xs := row) (en := P3.en) (bt := fun P => !onLine L q P) (g := P3.en) ?_ ?_ ?_ ?_ ?_ ?_ ?_))) (GL.gh (GO.gl (go_lst (x1 := ()) ga_nil (by decide)))) (cmp_neN3 _) rfl) ?_
    · decide +kernel
    · decide +kernel
    · walk_at "dw.e"
    · omega
    · intro X C a ha
      refine gt_not (gt_val (ge_call C h_on_a_line (Nat.le_refl _) (by decide +kernel) (ga_cons (d := P3.en L) ?_ (ga_cons (d := P3.en q) ?_ (ga_cons (d := P3.en a) ?_ ga_nil rfl) rfl) rfl) (fun R_ h_ => ⟨L, q, a, rfl, bL.mono (by decide), bq.mono (by decide), (hbB a ha).mono (by decide), h_⟩) rfl rfl) (fun _ => rfl))
      · walk_at "dw.e"
      · walk_at "dw.e"
        try exact .own (at0 xq)
      · walk_at "dw.e"
    · intro X C a ha h
      walk_at "dw.e"
    · intro _
      rfl
    · rw [Bool.eq_iff_iff, Bool.not_eq_true', decide_eq_false_iff_not, List.any_eq_true]
      constructor
      · exact fun h => filter_nil h
      · rintro ⟨P, h1, h2⟩ h3
        have : P ∈ row.filter fun P => !onLine L q P := List.mem_filter.mpr ⟨h1, h2⟩
        rw [h3] at this
        cases this
  · intro ht
    rw [if_pos ht] at hR
    apply gss_ret
    · walk_at "dw.e"
    · exact hR
  intro ht
  rw [if_neg (by rw [ht]; decide)] at hR
  obtain ⟨B1, _, _, eB1, _⟩ := two fun P hP => by
    cases hx : onLine L q P with
    | true => rfl
    | false =>
      have : (row.any fun P => !onLine L q P) = true := List.any_eq_true.mpr ⟨P, hP, by rw [hx]; rfl⟩
      rw [ht] at this
      cases this
  apply gss_ret (d := Pl.en (planeB us L q))
  · refine ge_call C h_plane_behind (Nat.le_refl _) g_plane_behind (ga_cons ?_ (ga_cons ?_ (ga_cons (d := P3.en q) ?_ ga_nil rfl) rfl) rfl) (fun R_ h_ => ⟨us, L, q, rfl, hbA, bL.mono (by decide), bq.mono (by decide), hlen, by rw [eB1]; simp, h_⟩) rfl rfl
    · walk_at "dw.e"
    · walk_at "dw.e"
    · walk_at "dw.e"
      try exact .own (at0 xq)
  · exact hR

theorem has_first_plane {W : Wd} {k : Nat} (B : Bn W) (F : FunAt W "first_plane" s_first_plane) (h_plane_behind : Has W k "plane_behind" c_plane_behind) (h_side_of : Has W k "side_of" c_side_of) (h_on_a_line : Has W k "on_a_line" c_on_a_line) : Has W (k + 1) "first_plane" c_first_plane :=
  has_mk F sc_first_plane ln_first_plane (fun _ _ _ _ _ _ us hl => match us, hl with | [_], _ => rfl) fun X C ds R h => bd_first_plane B (h_plane_behind := h_plane_behind) (h_side_of := h_side_of) (h_on_a_line := h_on_a_line) X C ds R h
/-! ### next_on_ring -/
abbrev s_next_on_ring : Stmt := topS 18
abbrev n_next_on_ring : List Str := ["plane", "some", "P", "best", "Q", "way", "ahead", "turn"]
theorem sc_next_on_ring : FnScope n_next_on_ring ["plane", "some", "P"] (defScope s_next_on_ring) := ⟨rfl, rfl, rfl, by decide +kernel, rfl, by decide +kernel, by decide +kernel⟩
theorem v0_next_on_ring : okV n_next_on_ring (defScope s_next_on_ring) 0 "plane" = true := by decide +kernel
theorem v1_next_on_ring : okV n_next_on_ring (defScope s_next_on_ring) 1 "some" = true := by decide +kernel
theorem v2_next_on_ring : okV n_next_on_ring (defScope s_next_on_ring) 2 "P" = true := by decide +kernel
theorem v3_next_on_ring : okV n_next_on_ring (defScope s_next_on_ring) 3 "best" = true := by decide +kernel
theorem l3_next_on_ring : okL n_next_on_ring (defScope s_next_on_ring) 3 "best" = true := by decide +kernel
theorem v4_next_on_ring : okV n_next_on_ring (defScope s_next_on_ring) 4 "Q" = true := by decide +kernel
theorem l4_next_on_ring : okL n_next_on_ring (defScope s_next_on_ring) 4 "Q" = true := by decide +kernel
theorem v5_next_on_ring : okV n_next_on_ring (defScope s_next_on_ring) 5 "way" = true := by decide +kernel
theorem l5_next_on_ring : okL n_next_on_ring (defScope s_next_on_ring) 5 "way" = true := by decide +kernel
theorem v6_next_on_ring : okV n_next_on_ring (defScope s_next_on_ring) 6 "ahead" = true := by decide +kernel
theorem l6_next_on_ring : okL n_next_on_ring (defScope s_next_on_ring) 6 "ahead" = true := by decide +kernel
theorem v7_next_on_ring : okV n_next_on_ring (defScope s_next_on_ring) 7 "turn" = true := by decide +kernel
theorem l7_next_on_ring : okL n_next_on_ring (defScope s_next_on_ring) 7 "turn" = true := by decide +kernel
theorem g_way_between_next_on_ring : glB (defScope s_next_on_ring) "way_between" = true := by decide +kernel
theorem g_product_of_next_on_ring : glB (defScope s_next_on_ring) "product_of" = true := by decide +kernel
theorem g_cross_of_next_on_ring : glB (defScope s_next_on_ring) "cross_of" = true := by decide +kernel
def c_next_on_ring : Ct := fun ds R => ∃ (p : Pl) (us : List P3) (P : P3), ds = [p.en, .list (us.map P3.en), P.en] ∧ (∀ u ∈ us, P3.Bd 2000 u) ∧ (P3.Bd 20000 p.n) ∧ (P3.Bd 2000 P) ∧ (us.length ≤ 4000) ∧ (nextOn p.n P us ≠ none) ∧ R (.fz (P3.en (nxt p.n us P)))
theorem ln_next_on_ring : ∀ ds R, c_next_on_ring ds R → ds.length = 3 := by
  rintro ds R ⟨p, us, P, rfl, _⟩
  rfl
theorem bd_next_on_ring {W : Wd} {k : Nat} (B : Bn W) (h_way_between : Has W k "way_between" c_way_between) (h_product_of : Has W k "product_of" c_product_of) (h_cross_of : Has W k "cross_of" c_cross_of) (X : Cx) (C : Cok X W n_next_on_ring (defScope s_next_on_ring) k) (ds : List D) (R : Rs → Prop) (h : c_next_on_ring ds R) :
    GSs X (startG n_next_on_ring ds) (defBody s_next_on_ring) { nx := fun _ => R (.fz .none), rt := R } := by
  obtain ⟨p, us, P, rfl, hbA, hp, hP, hlen, hx, hR⟩ := h
  have v0 := v0_next_on_ring
  have v1 := v1_next_on_ring
  have v2 := v2_next_on_ring
  have v3 := v3_next_on_ring
  have l3 := l3_next_on_ring
  have v4 := v4_next_on_ring
  have l4 := l4_next_on_ring
  have v5 := v5_next_on_ring
  have l5 := l5_next_on_ring
  have v6 := v6_next_on_ring
  have l6 := l6_next_on_ring
  have v7 := v7_next_on_ring
  have l7 := l7_next_on_ring
  have g_way_between := g_way_between_next_on_ring
  have g_product_of := g_product_of_next_on_ring
  have g_cross_of := g_cross_of_next_on_ring
  (show GSs X [.fz _, .fz _, .fz _, .no, .no, .no, .no, .no] (List.cons _ _) _)
  (show GSs _ _ (List.cons _ _) _)
  walk_at "dw.asg"
  apply gss_for C (fun i G' => ∃ r a b c, G' = [.fz p.en, .fz (.list (us.map P3.en)), .fz P.en, .fz (optP (nextOn p.n P (us.take i))), r, a, b, c])
  · walk_at "dw.e"
  · exact ⟨_, _, _, _, rfl⟩
  · rintro i d G' hd ⟨r, a0, b0, c0, rfl⟩
    rw [List.getElem?_map] at hd
    obtain ⟨u, hu, rfl⟩ := Option.map_eq_some_iff.mp hd
    refine ⟨_, [4], gg_name C 4 l4 (by simp), ?_⟩
    have bu := hbA u (List.mem_of_getElem? hu)
    have stp : nextOn p.n P (us.take (i + 1)) = bestS (fun Q => decide (Q = P)) (nxCond p.n P) (nextOn p.n P (us.take i)) u := bestOf_take _ _ hu
    rw [stp]
    unfold bestS
    have hbst : ∀ b, nextOn p.n P (us.take i) = some b → P3.Bd 2000 b := fun b h => hbA b (List.mem_of_mem_take (best_skip h).1)
    generalize nextOn p.n P (us.take i) = best at hbst
    apply gss_when (t := decide (u = P))
    · walk_at "dw.e"
    · intro ht
      apply gss_cnt
      rw [if_pos ht]
      exact ⟨_, _, _, _, rfl⟩
    intro ht
    rw [if_neg (by dsimp only; rw [ht]; decide)]
    have rest : ∀ (b : P3) (x5 x6 x7 : Sl) (o : Option P3), P3.Bd 2000 b → o = (if nxCond p.n P b u then some u else some b) → GSs X [.fz p.en, .fz (.list (us.map P3.en)), .fz P.en, .fz b.en, .fz u.en, x5, x6, x7] ((lpB ((defBody s_next_on_ring).drop 1)).drop 2) ⟨fun G' => ∃ r a b c, G' = [.fz p.en, .fz (.list (us.map P3.en)), .fz P.en, .fz (optP o), r, a, b, c], R, fun G' => GSs X G' ((defBody s_next_on_ring).drop 2) { nx := fun _ => R (.fz .none), rt := R }, fun G' => ∃ r a b c, G' = [.fz p.en, .fz (.list (us.map P3.en)), .fz P.en, .fz (optP o), r, a, b, c]⟩ := by
      intro b x5 x6 x7 o hb ho
      subst ho
      (show GSs _ _ (List.cons _ _) _)
      have w1 := hP.way bu
      have w2 := hP.way hb
      have w3 := w2.cross w1
      walk_at "dw.asgE"
      case hd => show _ = P3.en (way P u); rfl
      walk_at "dw.asgE"
      case hd => show _ = P3.en (way P b); rfl
      walk_at "dw.asgE"
      case hd => show _ = PyData.int (tn p.n P b u); rfl
      apply gss_when (t := nxCond p.n P b u)
      · refine GT.is (c := decide (tn p.n P b u < 0) || (decide (tn p.n P b u = 0) && decide (prod (way P b) (way P b) < prod (way P u) (way P u)))) (GW.gt (gw_or ?_ fun _ => gw_or1 (GW.gt (gw_and ?_ fun _ => gw_and1 ?_)))) ?_
        · exact gt_cp C (GE.gh (by walk_at "dw.e")) (GE.gh ge_int) (CmpD.lt _ _) rfl
        · exact gt_cp C (GE.gh (by walk_at "dw.e")) (GE.gh ge_int) (CmpD.eqI _ _) rfl
        · refine gt_cp C (GE.gh ?_) (GE.gh ?_) (CmpD.lt _ _) rfl
          · walk_at "dw.e"
          · walk_at "dw.e"
        · unfold nxCond
          rw [Bool.eq_iff_iff]
          simp only [Bool.or_eq_true, Bool.and_eq_true, decide_eq_true_eq]
      · intro hc
        (show GSs _ _ (List.cons _ _) _)
        walk_at "dw.asg"
        apply gss_nil
        apply gss_nil
        refine ⟨.fz u.en, .fz (way P u).en, .fz (way P b).en, .fz (.int (tn p.n P b u)), ?_⟩
        simp only [hc, if_true]
        rfl
      · intro hc
        apply gss_nil
        refine ⟨.fz u.en, .fz (way P u).en, .fz (way P b).en, .fz (.int (tn p.n P b u)), ?_⟩
        simp only [hc, Bool.false_eq_true, if_false]
        rfl
    cases best with
    | none =>
      apply gss_when (t := true)
      · refine gt_cp C (x := .none) (y := .none) ?_ ?_ (CmpD.isN _) rfl
        · walk_at "dw.e"
        · walk_at "dw.e"
      · intro _
        walk_at "dw.asg"
        apply gss_nil
        refine rest u _ _ _ _ bu ?_
        have : nxCond p.n P u u = false := by
          unfold nxCond
          rw [tn_self]
          exact decide_eq_false (by omega)
        rw [this]
        rfl
      · intro h
        cases h
    | some b =>
      have bb := hbst b rfl
      (show GSs _ [_, _, _, .fz (P3.en b), _, _, _, _] (List.cons _ _) _)
      apply gss_not
      · refine gt_cp C (x := P3.en b) (y := .none) ?_ ?_ (CmpD.isN _) rfl
        · walk_at "dw.e"
        · walk_at "dw.e"
      exact rest b _ _ _ _ bb rfl
  · rintro G' ⟨r, a0, b0, c0, rfl⟩
    rw [List.length_map, List.take_length]
    unfold nxt at hR
    cases hb : nextOn p.n P us with
    | none => exact (hx hb).elim
    | some b =>
      rw [hb] at hR
      (show GSs _ [_, _, _, .fz (P3.en b), _, _, _, _] (List.cons _ _) _)
      apply gss_ret
      · walk_at "dw.e"
      · exact hR
  · intro x
    rfl

theorem has_next_on_ring {W : Wd} {k : Nat} (B : Bn W) (F : FunAt W "next_on_ring" s_next_on_ring) (h_way_between : Has W k "way_between" c_way_between) (h_product_of : Has W k "product_of" c_product_of) (h_cross_of : Has W k "cross_of" c_cross_of) : Has W (k + 1) "next_on_ring" c_next_on_ring :=
  has_mk F sc_next_on_ring ln_next_on_ring (fun _ _ _ _ _ _ us hl => match us, hl with | [_, _, _], _ => rfl) fun X C ds R h => bd_next_on_ring B (h_way_between := h_way_between) (h_product_of := h_product_of) (h_cross_of := h_cross_of) X C ds R h
/-! ### ring_of -/
abbrev s_ring_of : Stmt := topS 19
abbrev n_ring_of : List Str := ["points", "plane", "some", "P", "ring"]
theorem sc_ring_of : FnScope n_ring_of ["points", "plane"] (defScope s_ring_of) := ⟨rfl, rfl, rfl, by decide +kernel, rfl, by decide +kernel, by decide +kernel⟩
theorem v0_ring_of : okV n_ring_of (defScope s_ring_of) 0 "points" = true := by decide +kernel
theorem v1_ring_of : okV n_ring_of (defScope s_ring_of) 1 "plane" = true := by decide +kernel
theorem v2_ring_of : okV n_ring_of (defScope s_ring_of) 2 "some" = true := by decide +kernel
theorem l2_ring_of : okL n_ring_of (defScope s_ring_of) 2 "some" = true := by decide +kernel
theorem v3_ring_of : okV n_ring_of (defScope s_ring_of) 3 "P" = true := by decide +kernel
theorem l3_ring_of : okL n_ring_of (defScope s_ring_of) 3 "P" = true := by decide +kernel
theorem v4_ring_of : okV n_ring_of (defScope s_ring_of) 4 "ring" = true := by decide +kernel
theorem l4_ring_of : okL n_ring_of (defScope s_ring_of) 4 "ring" = true := by decide +kernel
theorem g_next_on_ring_ring_of : glB (defScope s_ring_of) "next_on_ring" = true := by decide +kernel
theorem g_min_ring_of : glB (defScope s_ring_of) "min" = true := by decide +kernel
def c_ring_of : Ct := fun ds R => ∃ (us : List P3) (p : Pl), ds = [.list (us.map P3.en), p.en] ∧ (∀ u ∈ us, P3.Bd 2000 u) ∧ (P3.Bd 20000 p.n) ∧ (us.length ≤ 4000) ∧ (Face us p) ∧ R (.ow (((ringOf us p).map P3.en)))
theorem ln_ring_of : ∀ ds R, c_ring_of ds R → ds.length = 2 := by
  rintro ds R ⟨us, p, rfl, _⟩
  rfl
theorem bd_ring_of {W : Wd} {k : Nat} (B : Bn W) (h_next_on_ring : Has W k "next_on_ring" c_next_on_ring) (h_side_of : Has W k "side_of" c_side_of) (X : Cx) (C : Cok X W n_ring_of (defScope s_ring_of) k) (ds : List D) (R : Rs → Prop) (h : c_ring_of ds R) :
    GSs X (startG n_ring_of ds) (defBody s_ring_of) { nx := fun _ => R (.fz .none), rt := R } := by
  obtain ⟨us, p, rfl, hbA, hp, hlen, hf, hR⟩ := h
  have v0 := v0_ring_of
  have v1 := v1_ring_of
  have v2 := v2_ring_of
  have l2 := l2_ring_of
  have v3 := v3_ring_of
  have l3 := l3_ring_of
  have v4 := v4_ring_of
  have l4 := l4_ring_of
  have g_next_on_ring := g_next_on_ring_ring_of
  have g_min := g_min_ring_of
  (show GSs X [.fz _, .fz _, .no, .no, .no] (List.cons _ _) _)
  (show GSs _ _ (List.cons _ _) _)
  apply gss_lc1f C 2 3 (xs := us) (en := P3.en) (bt := fun P => decide (sideA p P = 0)) (g := P3.en)
  walk_at "dw.lcsf"
  rw [ons_side]
  have F := hf.flt
  have fx := F.least
  have per := F.per
  have hbB : ∀ u ∈ ons us p, P3.Bd 2000 u := fun u hu => hbA u (mem_ons.mp hu).1
  have lS : (ons us p).length ≤ 4000 := Nat.le_trans (List.length_filter_le _ _) hlen
  have hring : ringOf us p = roundL (nxt p.n (ons us p)) (perK (nxt p.n (ons us p)) (leastP (ons us p))) (leastP (ons us p)) := rfl
  rw [hring] at hR
  have hlr : (ringOf us p).length ≤ 4000 := Nat.le_trans (List.Nodup.length_le_of_subset F.ring_nodup fun v hv => (F.ring_ext hv).mem) lS
  rw [hring, roundL_len] at hlr
  clear hring
  generalize hS : ons us p = S at *
  have neS : S ≠ [] := fun e => by rw [e] at fx; cases fx.mem
  (show GSs _ _ (List.cons _ _) _)
  apply gss_asgO C 4 l4 (ds := [P3.en (leastP S)])
  case hs => rfl
  case he =>
    refine go_lst (x1 := ()) (ga_cons ?_ ga_nil rfl) (Nat.le_of_ble_eq_true rfl)
    cases S with
    | nil => exact (neS rfl).elim
    | cons x xs =>
      refine GE.is (ge_minE (x := x) (xs := xs) C g_min B.min ?_ (by decide) rfl) rfl
      walk_at "dw.e"
  walk_at "dw.nf"
  refine gs_settle 2 rfl ?_
  walk_at "dw.nf"
  obtain ⟨k0, k1, k2⟩ := per
  generalize hv0 : leastP S = v0 at *
  generalize hk : perK (nxt p.n S) v0 = kk at *
  have bd : ∀ i, P3.Bd 2000 (iter (nxt p.n S) i v0) := fun i => hbB _ (iter_mem (E := Ext S) (fun _ h => F.nxt_ext h) fx i).mem
  have ex : ∀ i, Ext S (iter (nxt p.n S) i v0) := fun i => iter_mem (E := Ext S) (fun _ h => F.nxt_ext h) fx i
  have b0 := bd 0
  have hx0 : nextOn p.n v0 S ≠ none := F.some fx
  (show GSs _ _ (List.cons _ _) _)
  apply gss_asg C 3 l3 (d := P3.en (iter (nxt p.n S) 1 v0))
  case hs => rfl
  case he =>
    refine ge_call C h_next_on_ring (Nat.le_refl _) g_next_on_ring (ga_cons (d := p.en) ?_ (ga_cons (d := .list (S.map P3.en)) ?_ (ga_cons (d := P3.en v0) ?_ ga_nil rfl) rfl) rfl) (fun R_ h_ => ⟨p, S, v0, rfl, hbB, hp, b0, lS, hx0, h_⟩) rfl rfl
    · walk_at "dw.e"
    · walk_at "dw.e"
    · walk_at "dw.e"
  walk_at "dw.nf"
  apply gss_while C (fun n G' => ∃ i, n = kk - i ∧ 1 ≤ i ∧ i ≤ kk ∧ G' = [.fz (.list (us.map P3.en)), .fz p.en, .fz (.list (S.map P3.en)), .fz (P3.en (iter (nxt p.n S) i v0)), .ow ((roundL (nxt p.n S) i v0).map P3.en)]) (kk - 1)
  · exact ⟨1, rfl, Nat.le_refl _, k0, rfl⟩
  · rintro n G' ⟨i, rfl, hi, hik, rfl⟩
    have bi := bd i
    have hxi := F.some (ex i)
    have a0 : atI ((roundL (nxt p.n S) i v0).map P3.en) 0 = some v0.en := at0 (roundL_get (f := nxt p.n S) (k := i) (i := 0) (v := v0) (by omega))
    refine ⟨!decide (iter (nxt p.n S) i v0 = v0), ?_, ?_, ?_⟩
    · walk_at "dw.e"
      exact .own a0
    · intro ht
      have hne : iter (nxt p.n S) i v0 ≠ v0 := by simpa using ht
      have hlt : i < kk := by
        rcases Nat.lt_or_ge i kk with h | h
        · exact h
        · have : i = kk := by omega
          exact (hne (this ▸ k1)).elim
      (show GSs _ _ (List.cons _ _) _)
      apply gss_app C 4 (ds := (roundL (nxt p.n S) i v0).map P3.en) (d := P3.en (iter (nxt p.n S) i v0))
      case hz =>
        rw [List.length_map, roundL_len]
        omega
      walk_at "dw.app"
      (show GSs _ _ (List.cons _ _) _)
      apply gss_asg C 3 l3 (d := P3.en (iter (nxt p.n S) (i + 1) v0))
      case hs => rfl
      case he =>
        refine ge_call C h_next_on_ring (Nat.le_refl _) g_next_on_ring (ga_cons (d := p.en) ?_ (ga_cons (d := .list (S.map P3.en)) ?_ (ga_cons (d := P3.en (iter (nxt p.n S) i v0)) ?_ ga_nil rfl) rfl) rfl) (fun R_ h_ => ⟨p, S, _, rfl, hbB, hp, bi, lS, hxi, h_⟩) rfl rfl
        · walk_at "dw.e"
        · walk_at "dw.e"
        · walk_at "dw.e"
      walk_at "dw.nf"
      apply gss_nil
      refine ⟨kk - (i + 1), by omega, i + 1, rfl, by omega, hlt, ?_⟩
      rw [roundL_succ, List.map_append]
      rfl
    · intro ht
      have he : iter (nxt p.n S) i v0 = v0 := by simpa using ht
      have hi2 : i = kk := by
        rcases Nat.lt_or_ge i kk with h | h
        · exact (k2 i (by omega) h he).elim
        · omega
      subst hi2
      apply gss_retV C 4 v4
      · rfl
      · exact hR

theorem has_ring_of {W : Wd} {k : Nat} (B : Bn W) (F : FunAt W "ring_of" s_ring_of) (h_next_on_ring : Has W k "next_on_ring" c_next_on_ring) (h_side_of : Has W k "side_of" c_side_of) : Has W (k + 1) "ring_of" c_ring_of :=
  has_mk F sc_ring_of ln_ring_of (fun _ _ _ _ _ _ us hl => match us, hl with | [_, _], _ => rfl) fun X C ds R h => bd_ring_of B (h_next_on_ring := h_next_on_ring) (h_side_of := h_side_of) X C ds R h
/-! ### sides_of -/
abbrev s_sides_of : Stmt := topS 20
abbrev n_sides_of : List Str := ["ring", "k"]
theorem sc_sides_of : FnScope n_sides_of ["ring"] (defScope s_sides_of) := ⟨rfl, rfl, rfl, by decide +kernel, rfl, by decide +kernel, by decide +kernel⟩
theorem v0_sides_of : okV n_sides_of (defScope s_sides_of) 0 "ring" = true := by decide +kernel
theorem g_range_sides_of : glB (defScope s_sides_of) "range" = true := by decide +kernel
theorem g_len_sides_of : glB (defScope s_sides_of) "len" = true := by decide +kernel
def c_sides_of : Ct := fun ds R => ∃ (r : List P3), ds = [.list (r.map P3.en)] ∧ (r.length ≤ 4000) ∧ R (.ow (((sidesOf r).map fun s => .tuple [s.1.en, s.2.en])))
theorem ln_sides_of : ∀ ds R, c_sides_of ds R → ds.length = 1 := by
  rintro ds R ⟨r, rfl, _⟩
  rfl
theorem bd_sides_of {W : Wd} {k : Nat} (B : Bn W)  (X : Cx) (C : Cok X W n_sides_of (defScope s_sides_of) k) (ds : List D) (R : Rs → Prop) (h : c_sides_of ds R) :
    GSs X (startG n_sides_of ds) (defBody s_sides_of) { nx := fun _ => R (.fz .none), rt := R } := by
  obtain ⟨r, rfl, hlen, hR⟩ := h
  have v0 := v0_sides_of
  have g_range := g_range_sides_of
  have g_len := g_len_sides_of
  (show GSs X [.fz _, .no] (List.cons _ _) _)
  apply gss_retO (ds := (sidesOf r).map fun s => .tuple [s.1.en, s.2.en])
  · refine GO.is (go_lc1 C 1 (xs := rngL 0 r.length) (en := .int) (g := fun k => .tuple [(r.getD (if k = 0 then r.length - 1 else k.toNat - 1) P3.O).en, (r.getD k.toNat P3.O).en]) ?_ ?_ ?_ ?_ ?_ ?_) ?_
    · decide +kernel
    · decide +kernel
    · refine GI.w (GI.is (gi_rng1 C ?_ B.range (ge_len C ?_ B.len ?_ (LenD.lst (ds := r.map P3.en)) rfl) ?_ rfl) ?_)
      · walk_at "dw.gl"
      · walk_at "dw.gl"
      · walk_at "dw.e"
      · rw [List.length_map]
        omega
      · rw [List.length_map]
        simp
    · rw [rngL_len]
      omega
    · intro X C a ha
      have ha' := rngL_mem ha
      refine ge_tup (ga_cons ?_ (ga_cons ?_ ga_nil rfl) rfl) (Nat.le_of_ble_eq_true rfl)
      · refine ge_ix (GV.s ?_) (i := a - 1) ?_ (.lst (ds := r.map P3.en) ?_) (fun _ _ => rfl)
        · walk_at "dw.e"
        · walk_at "dw.e"
        · exact atI_prev (by omega) (by omega)
      · refine ge_ix (GV.s ?_) (i := a) ?_ (.lst (ds := r.map P3.en) ?_) (fun _ _ => rfl)
        · walk_at "dw.e"
        · walk_at "dw.e"
        · exact atI_pos (by omega) (by omega)
    · intro _
      rfl
    · unfold sidesOf rngL
      rw [List.map_map, List.map_map]
      refine List.map_congr_left fun k _ => ?_
      show PyData.tuple [(r.getD (if (0 : Int) + (k : Int) = 0 then r.length - 1 else ((0 : Int) + (k : Int)).toNat - 1) P3.O).en, (r.getD ((0 : Int) + (k : Int)).toNat P3.O).en] = _
      have e1 : ((0 : Int) + (k : Int)).toNat = k := by omega
      have e2 : ((0 : Int) + (k : Int) = 0) = (k = 0) := by
        apply propext
        omega
      rw [e1]
      simp only [e2]
      rfl
  · exact hR

theorem has_sides_of {W : Wd} {k : Nat} (B : Bn W) (F : FunAt W "sides_of" s_sides_of) : Has W (k + 1) "sides_of" c_sides_of :=
  has_mk F sc_sides_of ln_sides_of (fun _ _ _ _ _ _ us hl => match us, hl with | [_], _ => rfl) fun X C ds R h => bd_sides_of B X C ds R h
/-! ### faces_of -/
abbrev s_faces_of : Stmt := topS 21
abbrev n_faces_of : List Str := ["points", "plane", "rings", "sides", "at", "P", "Q"]
theorem sc_faces_of : FnScope n_faces_of ["points"] (defScope s_faces_of) := ⟨rfl, rfl, rfl, by decide +kernel, rfl, by decide +kernel, by decide +kernel⟩
theorem v0_faces_of : okV n_faces_of (defScope s_faces_of) 0 "points" = true := by decide +kernel
theorem v1_faces_of : okV n_faces_of (defScope s_faces_of) 1 "plane" = true := by decide +kernel
theorem l1_faces_of : okL n_faces_of (defScope s_faces_of) 1 "plane" = true := by decide +kernel
theorem v2_faces_of : okV n_faces_of (defScope s_faces_of) 2 "rings" = true := by decide +kernel
theorem l2_faces_of : okL n_faces_of (defScope s_faces_of) 2 "rings" = true := by decide +kernel
theorem v3_faces_of : okV n_faces_of (defScope s_faces_of) 3 "sides" = true := by decide +kernel
theorem l3_faces_of : okL n_faces_of (defScope s_faces_of) 3 "sides" = true := by decide +kernel
theorem v4_faces_of : okV n_faces_of (defScope s_faces_of) 4 "at" = true := by decide +kernel
theorem l4_faces_of : okL n_faces_of (defScope s_faces_of) 4 "at" = true := by decide +kernel
theorem v5_faces_of : okV n_faces_of (defScope s_faces_of) 5 "P" = true := by decide +kernel
theorem l5_faces_of : okL n_faces_of (defScope s_faces_of) 5 "P" = true := by decide +kernel
theorem v6_faces_of : okV n_faces_of (defScope s_faces_of) 6 "Q" = true := by decide +kernel
theorem l6_faces_of : okL n_faces_of (defScope s_faces_of) 6 "Q" = true := by decide +kernel
theorem g_first_plane_faces_of : glB (defScope s_faces_of) "first_plane" = true := by decide +kernel
theorem g_sides_of_faces_of : glB (defScope s_faces_of) "sides_of" = true := by decide +kernel
theorem g_dimension_of_faces_of : glB (defScope s_faces_of) "dimension_of" = true := by decide +kernel
theorem g_Flat_faces_of : glB (defScope s_faces_of) "Flat" = true := by decide +kernel
theorem g_ring_of_faces_of : glB (defScope s_faces_of) "ring_of" = true := by decide +kernel
theorem g_len_faces_of : glB (defScope s_faces_of) "len" = true := by decide +kernel
theorem g_plane_behind_faces_of : glB (defScope s_faces_of) "plane_behind" = true := by decide +kernel
theorem g_sorted_faces_of : glB (defScope s_faces_of) "sorted" = true := by decide +kernel
def c_faces_of : Ct := fun ds R => ∃ (us : List P3), ds = [.list (us.map P3.en)] ∧ (∀ u ∈ us, P3.Bd 2000 u) ∧ (us.length ≤ 4000) ∧ (Dim3 us) ∧ R (.ow ((facesD us)))
theorem ln_faces_of : ∀ ds R, c_faces_of ds R → ds.length = 1 := by
  rintro ds R ⟨us, rfl, _⟩
  rfl
theorem bd_faces_of {W : Wd} {k : Nat} (B : Bn W) (h_first_plane : Has W k "first_plane" c_first_plane) (h_sides_of : Has W k "sides_of" c_sides_of) (h_dimension_of : Has W k "dimension_of" c_dimension_of) (h_ring_of : Has W k "ring_of" c_ring_of) (h_plane_behind : Has W k "plane_behind" c_plane_behind) (X : Cx) (C : Cok X W n_faces_of (defScope s_faces_of) k) (ds : List D) (R : Rs → Prop) (h : c_faces_of ds R) :
    GSs X (startG n_faces_of ds) (defBody s_faces_of) { nx := fun _ => R (.fz .none), rt := R } := by
  obtain ⟨us, rfl, hbA, hlen, hd3, hR⟩ := h
  have v0 := v0_faces_of
  have v1 := v1_faces_of
  have l1 := l1_faces_of
  have v2 := v2_faces_of
  have l2 := l2_faces_of
  have v3 := v3_faces_of
  have l3 := l3_faces_of
  have v4 := v4_faces_of
  have l4 := l4_faces_of
  have v5 := v5_faces_of
  have l5 := l5_faces_of
  have v6 := v6_faces_of
  have l6 := l6_faces_of
  have g_first_plane := g_first_plane_faces_of
  have g_sides_of := g_sides_of_faces_of
  have g_dimension_of := g_dimension_of_faces_of
  have g_Flat := g_Flat_faces_of
  have g_ring_of := g_ring_of_faces_of
  have g_len := g_len_faces_of
  have g_plane_behind := g_plane_behind_faces_of
  have g_sorted := g_sorted_faces_of
  (show GSs X [.fz _, .no, .no, .no, .no, .no, .no] (List.cons _ _) _)
  have hn0 := hd3.ne
  have hdim := dimA_three.mpr hd3
  have fF := Found.first hd3
  have hsq : us.length * us.length ≤ 16000000 := Nat.mul_le_mul hlen hlen
  have f1 := firstPlane_face hd3
  apply gss_not
  · walk_at "dw.e"
  (show GSs _ _ (List.cons _ _) _)
  walk_at "dw.asg"
  generalize hp1 : firstPlane us = p1 at fF f1
  have b1 := ((f1.bd hbA).mono (m := 20000) (by decide)).n
  (show GSs _ _ (List.cons _ _) _)
  apply gss_dnew1 C 2 l2 (key := nkPl p1) (d := ringD us p1)
  case hd => exact nkPl_dep _
  case hk => exact ⟨_, rfl⟩
  case hs => rfl
  case ha => exact GE.is (d := p1.en) (by walk_at "dw.e") rfl
  case hv =>
    apply GO.ge
    walk_at "dw.e"
  walk_at "dw.nf"
  have kv1 : ([(nkPl p1, ringD us p1)] : Kvs) = kvF us [p1] := rfl
  rw [kv1]
  have lring : ∀ p, Face us p → (ringOf us p).length ≤ 4000 := fun p hp => Nat.le_trans (List.Nodup.length_le_of_subset hp.flt.ring_nodup fun v hv => ringOf_sub hp hv) hlen
  have lr1 := lring p1 f1
  (show GSs _ _ (List.cons _ _) _)
  apply gss_asgO C 3 l3 (ds := (sidesOf (ringOf us p1)).map fun s => .tuple [s.1.en, s.2.en])
  case hs => rfl
  case he =>
    refine go_call C h_sides_of (Nat.le_refl _) g_sides_of (ga_cons (d := ringD us p1) ?_ ga_nil rfl) (fun R_ h_ => ⟨ringOf us p1, rfl, lr1, h_⟩) rfl rfl
    refine ge_dget C 2 v2 (W := W) (kvs := kvF us [p1]) (key := nkPl p1) rfl ?_ (nkPl_dep _) ⟨_, rfl⟩ (dget_map (fun _ _ => nkPl_inj) _ List.mem_cons_self) (fun _ _ => rfl)
    exact GE.is (d := p1.en) (by walk_at "dw.e") rfl
  walk_at "dw.nf"
  rw [show sidesOf (ringOf us p1) = sidesAll us [p1] from by simp [sidesAll]]
  (show GSs _ _ (List.cons _ _) _)
  walk_at "dw.asg"
  apply gss_while C (fun n G' => ∃ (rs : List Pl) (at_ : Nat) (x1 x5 x6 : Sl), Found us rs ∧ (∀ (i : Nat) P Q, i < at_ → (sidesAll us rs)[i]? = some (P, Q) → (Q, P) ∈ sidesAll us rs) ∧ at_ ≤ (sidesAll us rs).length ∧ n = us.length * us.length - at_ ∧ G' = [.fz (.list (us.map P3.en)), x1, .ob (dictO W (kvF us rs)), .ow ((sidesAll us rs).map fun s => .tuple [s.1.en, s.2.en]), .fz (.int (at_ : Int)), x5, x6]) (us.length * us.length)
  · exact ⟨[p1], 0, _, _, _, fF, fun i _ _ h => by omega, Nat.zero_le _, rfl, rfl⟩
  · rintro n G' ⟨rs, at_, x1, x5, x6, hF, hold, hat, rfl, rfl⟩
    have hsl := sides_len hd3 hF
    have hrl := rs_len hd3 hF
    refine ⟨decide (at_ < (sidesAll us rs).length), ?_, ?_, ?_⟩
    · refine GT.is (gt_cp C (x := .int (at_ : Int)) (y := .int ((sidesAll us rs).length : Int)) (GE.gh ?_) (GE.gh ?_) (CmpD.lt _ _) rfl) ?_
      · walk_at "dw.e"
      · refine GE.is (ge_len C g_len B.len (GL.gh (ds := (sidesAll us rs).map fun s => .tuple [s.1.en, s.2.en]) ?_) LenD.lst rfl) ?_
        · walk_at "dw.e"
        · rw [List.length_map]
      · rw [Bool.eq_iff_iff, decide_eq_true_eq, decide_eq_true_eq]
        omega
    · intro ht
      have hlt := of_decide_eq_true ht
      obtain ⟨⟨P, Q⟩, hPQ⟩ : ∃ s, (sidesAll us rs)[at_]? = some s := ⟨_, List.getElem?_eq_getElem hlt⟩
      have hm := List.mem_of_getElem? hPQ
      obtain ⟨mP, mQ, nQP⟩ := hF.side hm
      have bP := hbA P mP
      have bQ := hbA Q mQ
      have a0 : atI ((sidesAll us rs).map fun s => PyData.tuple [s.1.en, s.2.en]) (at_ : Int) = some (.tuple [P.en, Q.en]) := atI_map (f := fun s : P3 × P3 => PyData.tuple [s.1.en, s.2.en]) (atI_nat hPQ)
      (show GSs _ _ (List.cons _ _) _)
      apply gss_unp (ws := List.range 40) (d := .tuple [P.en, Q.en])
      case he =>
        walk_at "dw.e"
        exact .own a0
      case hg => walk_at "dw.gg"
      case hs => rfl
      case hw => rfl
      case h1 => rfl
      walk_at "dw.nf"
      apply gss_augA C 4 l4 (u := (at_ : Int)) (v := 1)
      case hG => rfl
      case he => walk_at "dw.e"
      walk_at "dw.nf"
      apply gss_when (t := decide ((Q, P) ∈ sidesAll us rs))
      · refine GT.is (gt_cp C (x := En.en (Q, P)) (y := .list ((sidesAll us rs).map En.en)) (GE.gh ?_) (GL.gh ?_) (cmp_inG (α := P3 × P3) (by decide) _ _) rfl) (decide_eq_decide.mpr Iff.rfl)
        · exact GE.is (d := .tuple [Q.en, P.en]) (by walk_at "dw.e") rfl
        · exact gl_v C 3 v3 rfl
      · intro hin
        have hin := of_decide_eq_true hin
        apply gss_cnt
        refine ⟨us.length * us.length - (at_ + 1), by omega, rs, at_ + 1, x1, .fz P.en, .fz Q.en, hF, fun i P' Q' hi he => ?_, hlt, rfl, ?_⟩
        · rcases Nat.lt_or_ge i at_ with h | h
          · exact hold i P' Q' h he
          · have : i = at_ := by omega
            subst this
            rw [hPQ] at he
            cases he
            exact hin
        · congr 4
      · intro hin
        have hin := of_decide_eq_false hin
        obtain ⟨hF2, hin2⟩ := hF.step hd3 hm hin
        have hbs := hF.best hd3 hm
        have fN : Face us (planeB us Q P) := hF2.face _ (List.mem_append_right _ (List.mem_singleton.mpr rfl))
        have nin : planeB us Q P ∉ rs := fun h => by
          have := hF2.nd
          rw [List.nodup_append] at this
          exact this.2.2 _ h _ (List.mem_singleton.mpr rfl) rfl
        have bN := ((fN.bd hbA).mono (m := 20000) (by decide)).n
        have hsl2 := sides_len hd3 hF2
        have bP2 := bP.mono (m := 2001) (by decide)
        have bQ2 := bQ.mono (m := 2001) (by decide)
        (show GSs _ _ (List.cons _ _) _)
        walk_at "dw.asg"
        generalize hpl : planeB us Q P = pl at *
        have lrp := lring pl fN
        (show GSs _ _ (List.cons _ _) _)
        apply gss_dput C 2 v2 (W := W) (kvs := kvF us rs) (key := nkPl pl) (d := ringD us pl)
        case hG => rfl
        case he => exact GE.is (d := pl.en) (by walk_at "dw.e") rfl
        case hv =>
          apply GO.ge
          walk_at "dw.e"
        case hd => exact nkPl_dep _
        case hk => exact ⟨_, rfl⟩
        case hz =>
          unfold kvF
          rw [List.length_map]
          omega
        case hs => rfl
        rw [show dput (kvF us rs) (nkPl pl) (ringD us pl) = kvF us (rs ++ [pl]) from dput_new (fun _ _ => nkPl_inj) _ nin]
        walk_at "dw.nf"
        (show GSs _ _ (List.cons _ _) _)
        apply gss_ext C 3 (ds := (sidesAll us rs).map fun s => .tuple [s.1.en, s.2.en]) (us := (sidesOf (ringOf us pl)).map fun s => .tuple [s.1.en, s.2.en])
        case h => assumption
        case hG => rfl
        case hb => rfl
        case hl => rfl
        case hst => rfl
        case hfew => rfl
        case hs => rfl
        case hz =>
          rw [List.length_map, List.length_map, ← List.length_append, ← sidesAll_snoc]
          omega
        case he =>
          apply GO.gl
          refine go_call C h_sides_of (Nat.le_refl _) g_sides_of (ga_cons (d := ringD us pl) ?_ ga_nil rfl) (fun R_ h_ => ⟨ringOf us pl, rfl, lrp, h_⟩) rfl rfl
          refine ge_dget C 2 v2 (W := W) (kvs := kvF us (rs ++ [pl])) (key := nkPl pl) rfl ?_ (nkPl_dep _) ⟨_, rfl⟩ (dget_map (fun _ _ => nkPl_inj) _ (List.mem_append_right _ (List.mem_singleton.mpr rfl))) (fun _ _ => rfl)
          exact GE.is (d := pl.en) (by walk_at "dw.e") rfl
        rw [← List.map_append, ← sidesAll_snoc]
        walk_at "dw.nf"
        apply gss_nil
        refine ⟨us.length * us.length - (at_ + 1), by omega, rs ++ [pl], at_ + 1, .fz pl.en, .fz P.en, .fz Q.en, hF2, fun i P' Q' hi he => ?_, ?_, rfl, ?_⟩
        · rw [sidesAll_snoc] at he
          rcases Nat.lt_or_ge i at_ with h | h
          · rw [List.getElem?_append_left (by omega)] at he
            rw [sidesAll_snoc]
            exact List.mem_append_left _ (hold i P' Q' h he)
          · have : i = at_ := by omega
            subst this
            rw [List.getElem?_append_left hlt, hPQ] at he
            cases he
            exact hin2
        · rw [sidesAll_snoc, List.length_append]
          omega
        · congr 4
    · intro ht
      have hge := of_decide_eq_false ht
      have hcl : ∀ P Q, (P, Q) ∈ sidesAll us rs → (Q, P) ∈ sidesAll us rs := fun P Q hm => by
        obtain ⟨i, hi⟩ := List.mem_iff_getElem?.mp hm
        exact hold i P Q (by have := (List.getElem?_eq_some_iff.mp hi).1; omega) hi
      have hfs := hF.faces hd3 hcl
      unfold facesD at hR
      rw [hfs] at hR
      apply gss_retO (ds := (sortE rs).map (faceD us))
      · refine go_lc1 C 1 (xs := sortE rs) (en := Pl.en) (g := faceD us) ?_ ?_ ?_ ?_ ?_ ?_
        · decide +kernel
        · decide +kernel
        · refine GI.w (gi_list (GO.ge ?_))
          refine GO.is (go_sortedD C g_sorted B.sorted v2 (kvs := kvF us rs) (bs := rs) (enc := Pl.en) rfl ?_ (.of EnO.alk) (.inl fun d hd => ?_) (fun b _ => Nat.le_trans (En.dle b) (by decide))) ?_
          · unfold kvF
            rw [List.map_map]
            rfl
          · obtain ⟨b, _, rfl⟩ := List.mem_map.mp hd
            exact ⟨_, _, rfl⟩
          · rw [show (Pl.en : Pl → D) = En.en from rfl, leE_data]
            rfl
        · rw [sortE_len]
          omega
        · intro X C a ha
          refine ge_tup (ga_cons ?_ (ga_cons ?_ ga_nil rfl) rfl) (Nat.le_of_ble_eq_true rfl)
          · walk_at "dw.e"
          · refine ge_dget C 2 (by decide +kernel) (W := W) (kvs := kvF us rs) (key := nkPl a) rfl ?_ (nkPl_dep _) ⟨_, rfl⟩ (dget_map (fun _ _ => nkPl_inj) _ (sortE_mem.mp ha)) (fun _ _ => rfl)
            exact GE.is (d := a.en) (by walk_at "dw.e") rfl
        · intro _
          rfl
      · exact hR

theorem has_faces_of {W : Wd} {k : Nat} (B : Bn W) (F : FunAt W "faces_of" s_faces_of) (h_first_plane : Has W k "first_plane" c_first_plane) (h_sides_of : Has W k "sides_of" c_sides_of) (h_dimension_of : Has W k "dimension_of" c_dimension_of) (h_ring_of : Has W k "ring_of" c_ring_of) (h_plane_behind : Has W k "plane_behind" c_plane_behind) : Has W (k + 1) "faces_of" c_faces_of :=
  has_mk F sc_faces_of ln_faces_of (fun _ _ _ _ _ _ us hl => match us, hl with | [_], _ => rfl) fun X C ds R h => bd_faces_of B (h_first_plane := h_first_plane) (h_sides_of := h_sides_of) (h_dimension_of := h_dimension_of) (h_ring_of := h_ring_of) (h_plane_behind := h_plane_behind) X C ds R h
/-! ### body_of -/
abbrev s_body_of : Stmt := topS 22
abbrev n_body_of : List Str := ["points", "corners", "plane", "ring"]
theorem sc_body_of : FnScope n_body_of ["points"] (defScope s_body_of) := ⟨rfl, rfl, rfl, by decide +kernel, rfl, by decide +kernel, by decide +kernel⟩
theorem v0_body_of : okV n_body_of (defScope s_body_of) 0 "points" = true := by decide +kernel
theorem v1_body_of : okV n_body_of (defScope s_body_of) 1 "corners" = true := by decide +kernel
theorem l1_body_of : okL n_body_of (defScope s_body_of) 1 "corners" = true := by decide +kernel
theorem v2_body_of : okV n_body_of (defScope s_body_of) 2 "plane" = true := by decide +kernel
theorem l2_body_of : okL n_body_of (defScope s_body_of) 2 "plane" = true := by decide +kernel
theorem v3_body_of : okV n_body_of (defScope s_body_of) 3 "ring" = true := by decide +kernel
theorem l3_body_of : okL n_body_of (defScope s_body_of) 3 "ring" = true := by decide +kernel
theorem g_faces_of_body_of : glB (defScope s_body_of) "faces_of" = true := by decide +kernel
theorem g_sorted_body_of : glB (defScope s_body_of) "sorted" = true := by decide +kernel
theorem g_set_body_of : glB (defScope s_body_of) "set" = true := by decide +kernel
def c_body_of : Ct := fun ds R => ∃ (us : List P3), ds = [.list (us.map P3.en)] ∧ (∀ u ∈ us, P3.Bd 2000 u) ∧ (us.length ≤ 4000) ∧ (Dim3 us) ∧ ((ddp us).length ≤ 62) ∧ R (.ow (((bodyA us).map P3.en)))
theorem ln_body_of : ∀ ds R, c_body_of ds R → ds.length = 1 := by
  rintro ds R ⟨us, rfl, _⟩
  rfl
theorem bd_body_of {W : Wd} {k : Nat} (B : Bn W) (h_faces_of : Has W k "faces_of" c_faces_of) (X : Cx) (C : Cok X W n_body_of (defScope s_body_of) k) (ds : List D) (R : Rs → Prop) (h : c_body_of ds R) :
    GSs X (startG n_body_of ds) (defBody s_body_of) { nx := fun _ => R (.fz .none), rt := R } := by
  obtain ⟨us, rfl, hbA, hlen, hd3, h62, hR⟩ := h
  have v0 := v0_body_of
  have v1 := v1_body_of
  have l1 := l1_body_of
  have v2 := v2_body_of
  have l2 := l2_body_of
  have v3 := v3_body_of
  have l3 := l3_body_of
  have g_faces_of := g_faces_of_body_of
  have g_sorted := g_sorted_body_of
  have g_set := g_set_body_of
  (show GSs X [.fz _, .no, .no, .no] (List.cons _ _) _)
  have hsq : us.length * us.length ≤ 16000000 := Nat.mul_le_mul hlen hlen
  (show GSs _ _ (List.cons _ _) _)
  walk_at "dw.asgO"
  (show GSs _ _ (List.cons _ _) _)
  apply gss_for C (fun i G' => ∃ x2 x3, G' = [.fz (.list (us.map P3.en)), .ow ((((facesL us).take i).flatMap (ringOf us)).map P3.en), x2, x3]) (items := facesD us)
  case hi =>
    refine gi_list (GO.ge ?_)
    walk_at "dw.e"
  case h0 => exact ⟨_, _, rfl⟩
  case hf =>
    intro x
    rfl
  case hs =>
    rintro i d G' hd ⟨x2, x3, rfl⟩
    unfold facesD at hd
    rw [List.getElem?_map] at hd
    cases hp : (facesL us)[i]? with
    | none =>
      rw [hp] at hd
      cases hd
    | some p =>
      rw [hp] at hd
      have hd := Option.some.inj hd
      subst hd
      have hF : Face us p := mem_faces.mp (List.mem_of_getElem? hp)
      refine ⟨_, List.range 40, (by show GG X _ _ (.tuple [Pl.en p, ringD us p]) _ _; walk_at "dw.gg"), ?_⟩
      walk_at "dw.nf"
      (show GSs _ _ (List.cons _ _) _)
      apply gss_ext C 1 (ds := (((facesL us).take i).flatMap (ringOf us)).map P3.en) (us := (ringOf us p).map P3.en)
      case h => assumption
      case hG => rfl
      case hb => rfl
      case hl => rfl
      case hst => rfl
      case hfew => rfl
      case hs => rfl
      case hz =>
        have h1 := corners_len hd3 i
        have h2 := ring_len_le hF
        rw [List.length_map, List.length_map]
        omega
      case he =>
        apply GE.gl
        walk_at "dw.v"
      walk_at "dw.nf"
      apply gss_nil
      refine ⟨.fz p.en, .fz (ringD us p), ?_⟩
      rw [List.take_add_one, hp, List.flatMap_append, List.map_append]
      simp only [Option.toList, List.flatMap_cons, List.flatMap_nil, List.append_nil]
  case hd =>
    rintro G' ⟨x2, x3, rfl⟩
    have e : (facesD us).length = (facesL us).length := List.length_map ..
    rw [e, List.take_length]
    have hsub : ∀ a ∈ (facesL us).flatMap (ringOf us), a ∈ us := fun a ha => by
      obtain ⟨p, hp, hm⟩ := List.mem_flatMap.mp ha
      exact ringOf_sub (mem_faces.mp hp) hm
    apply gss_retO (ds := (bodyA us).map P3.en)
    · exact go_sortedSet C g_sorted B.sorted g_set B.set (us := (facesL us).flatMap (ringOf us)) (gl_v C 1 v1 rfl) (Nat.le_trans (ddp_sub hsub) h62) rfl
    · exact hR

theorem has_body_of {W : Wd} {k : Nat} (B : Bn W) (F : FunAt W "body_of" s_body_of) (h_faces_of : Has W k "faces_of" c_faces_of) : Has W (k + 1) "body_of" c_body_of :=
  has_mk F sc_body_of ln_body_of (fun _ _ _ _ _ _ us hl => match us, hl with | [_], _ => rfl) fun X C ds R h => bd_body_of B (h_faces_of := h_faces_of) X C ds R h
/-! ### shares_show -/
abbrev s_shares_show : Stmt := topS 24
abbrev n_shares_show : List Str := ["land", "P", "pairs", "corners", "corner", "share", "bottom", "tops", "k", "top"]
theorem sc_shares_show : FnScope n_shares_show ["land", "P", "pairs"] (defScope s_shares_show) := ⟨rfl, rfl, rfl, by decide +kernel, rfl, by decide +kernel, by decide +kernel⟩
theorem v0_shares_show : okV n_shares_show (defScope s_shares_show) 0 "land" = true := by decide +kernel
theorem v1_shares_show : okV n_shares_show (defScope s_shares_show) 1 "P" = true := by decide +kernel
theorem v2_shares_show : okV n_shares_show (defScope s_shares_show) 2 "pairs" = true := by decide +kernel
theorem v3_shares_show : okV n_shares_show (defScope s_shares_show) 3 "corners" = true := by decide +kernel
theorem l3_shares_show : okL n_shares_show (defScope s_shares_show) 3 "corners" = true := by decide +kernel
theorem v4_shares_show : okV n_shares_show (defScope s_shares_show) 4 "corner" = true := by decide +kernel
theorem l4_shares_show : okL n_shares_show (defScope s_shares_show) 4 "corner" = true := by decide +kernel
theorem v5_shares_show : okV n_shares_show (defScope s_shares_show) 5 "share" = true := by decide +kernel
theorem l5_shares_show : okL n_shares_show (defScope s_shares_show) 5 "share" = true := by decide +kernel
theorem v6_shares_show : okV n_shares_show (defScope s_shares_show) 6 "bottom" = true := by decide +kernel
theorem l6_shares_show : okL n_shares_show (defScope s_shares_show) 6 "bottom" = true := by decide +kernel
theorem v7_shares_show : okV n_shares_show (defScope s_shares_show) 7 "tops" = true := by decide +kernel
theorem l7_shares_show : okL n_shares_show (defScope s_shares_show) 7 "tops" = true := by decide +kernel
theorem v8_shares_show : okV n_shares_show (defScope s_shares_show) 8 "k" = true := by decide +kernel
theorem l8_shares_show : okL n_shares_show (defScope s_shares_show) 8 "k" = true := by decide +kernel
theorem g_range_shares_show : glB (defScope s_shares_show) "range" = true := by decide +kernel
theorem g_sum_shares_show : glB (defScope s_shares_show) "sum" = true := by decide +kernel
theorem g_len_shares_show : glB (defScope s_shares_show) "len" = true := by decide +kernel
theorem g_set_shares_show : glB (defScope s_shares_show) "set" = true := by decide +kernel
theorem g_zip_shares_show : glB (defScope s_shares_show) "zip" = true := by decide +kernel
def c_shares_show : Ct := fun ds R => ∃ (ls : List P3) (P : P3) (prs : List Pr), ds = [.list (ls.map P3.en), P.en, .list (prs.map (En.en (α := Pr)))] ∧ (OkPr prs) ∧ (P3.Bd 400 P) ∧ (ls.length ≤ 60) ∧ R (.fz (.bool (showA ls P prs)))
theorem ln_shares_show : ∀ ds R, c_shares_show ds R → ds.length = 3 := by
  rintro ds R ⟨ls, P, prs, rfl, _⟩
  rfl
theorem bd_shares_show {W : Wd} {k : Nat} (B : Bn W)  (X : Cx) (C : Cok X W n_shares_show (defScope s_shares_show) k) (ds : List D) (R : Rs → Prop) (h : c_shares_show ds R) :
    GSs X (startG n_shares_show ds) (defBody s_shares_show) { nx := fun _ => R (.fz .none), rt := R } := by
  obtain ⟨ls, P, prs, rfl, hO, hP, hlen, hR⟩ := h
  have v0 := v0_shares_show
  have v1 := v1_shares_show
  have v2 := v2_shares_show
  have v3 := v3_shares_show
  have l3 := l3_shares_show
  have v4 := v4_shares_show
  have l4 := l4_shares_show
  have v5 := v5_shares_show
  have l5 := l5_shares_show
  have v6 := v6_shares_show
  have l6 := l6_shares_show
  have v7 := v7_shares_show
  have l7 := l7_shares_show
  have v8 := v8_shares_show
  have l8 := l8_shares_show
  have g_range := g_range_shares_show
  have g_sum := g_sum_shares_show
  have g_len := g_len_shares_show
  have g_set := g_set_shares_show
  have g_zip := g_zip_shares_show
  (show GSs X [.fz _, .fz _, .fz _, .no, .no, .no, .no, .no, .no, .no] (List.cons _ _) _)
  have hl9 := hO.len
  have hbot := hO.bot
  unfold showA at hR
  (show GSs _ _ (List.cons _ _) _)
  apply gss_lcT C 3 4 5 (xs := prs) (e1 := fun q => P3.en q.1) (e2 := fun q => .tuple [.int q.2.1, .int q.2.2]) (g := fun q => P3.en q.1)
  case okj => assumption
  case hyl => decide +kernel
  case hk => rfl
  case ok => decide +kernel
  case okl => decide +kernel
  case okl2 => decide +kernel
  case hl => rfl
  case ha => decide +kernel
  case hs =>
    intro _
    rfl
  case hz => omega
  case hi =>
    refine GI.w (gi_list (items := prs.map (En.en (α := Pr))) ?_)
    walk_at "dw.v"
  case he =>
    intro X C e he
    walk_at "dw.v"
  rw [show prs.map (fun q => P3.en q.1) = (prs.map (·.1)).map P3.en from by rw [List.map_map]; rfl]
  refine gs_settle 3 rfl ?_
  walk_at "dw.nf"
  have hcl : (prs.map (·.1)).length ≤ 9 := by
    rw [List.length_map]
    exact hl9
  have h62 : (ddp (prs.map (·.1))).length ≤ 62 := Nat.le_trans (ddp_le _) (by omega)
  apply gss_when (t := decide ((ddp (prs.map (·.1))).length < prs.length) || !decide ((prs.map (·.1)).filter (fun c => !decide (c ∈ ls)) = []))
  · refine GW.gt (gw_or (GT.is (gt_cp C (GE.gh (ge_lenSet C g_len B.len g_set B.set (us := prs.map (·.1)) (GE.gl (by walk_at "dw.v")) h62 rfl)) (GE.gh (ge_len C g_len B.len (GE.gh (d := .list ((prs.map (·.1)).map P3.en)) (by walk_at "dw.v")) (len_map _ _) rfl)) (CmpD.lt _ _) rfl) (by rw [List.length_map, decide_eq_decide]; omega)) fun _ => gw_or1 ?_)
    refine gt_cp C (GL.gh (GO.gl (ds := ((prs.map (·.1)).filter (fun c => !decide (c ∈ ls))).map P3.en) ?_)) (GL.gh (GO.gl (go_lst (x1 := ()) ga_nil (by decide)))) (cmp_neN3 _) rfl
    apply go_lc1f C 4 (xs := prs.map (·.1)) (en := P3.en) (bt := fun c => !decide (c ∈ ls)) (g := P3.en)
    case ok => decide +kernel
    case okl => decide +kernel
    case hz => omega
    case hs =>
      intro _
      rfl
    case hi =>
      refine GI.w (gi_list ?_)
      walk_at "dw.v"
    case ht =>
      intro X C a ha
      exact gt_cp C (GE.gh (d := a.en) (by walk_at "dw.v")) (GE.gh (d := .list (ls.map P3.en)) (by walk_at "dw.v")) (cmp_nin3 _ _) rfl
    case he =>
      intro X C a ha _
      walk_at "dw.v"
  · intro ht
    rw [if_pos ht] at hR
    exact gss_ret ge_bl hR
  intro ht
  rw [if_neg (by rw [ht]; decide)] at hR
  clear ht h62
  (show GSs _ _ (List.cons _ _) _)
  walk_at "dw.asg"
  (show GSs _ _ (List.cons _ _) _)
  apply gss_for C (fun i G' => ∃ (x4 x5 : Sl), G' = [.fz (.list (ls.map P3.en)), .fz P.en, .fz (.list (prs.map (En.en (α := Pr)))), .fz (.list ((prs.map (·.1)).map P3.en)), x4, x5, .fz (.int (botP (prs.take i))), .no, .no, .no] ∧ ((prs.take i).any fun q => decide (q.2.1 ≤ 0)) = false) (items := prs.map (En.en (α := Pr)))
  case hi =>
    refine gi_list ?_
    walk_at "dw.v"
  case h0 => exact ⟨_, _, rfl, rfl⟩
  case hf =>
    intro x
    rfl
  case hs =>
    rintro i d G' hd ⟨x4, x5, rfl, hany⟩
    obtain ⟨q, hq, rfl⟩ := map_at hd
    obtain ⟨_, _, hq3, _⟩ := hO.bd q (List.mem_of_getElem? hq)
    refine ⟨_, List.range 40, (by show GG X _ _ (.tuple [P3.en q.1, .tuple [.int q.2.1, .int q.2.2]]) _ _; walk_at "dw.gg"), ?_⟩
    walk_at "dw.nf"
    apply gss_when (t := decide (q.2.1 ≤ 0))
    · exact gt_cp C (GE.gh (d := .int q.2.1) (ge_ix (GV.s (ge_v C 5 v5 rfl)) (i := 0) ge_int (.tup rfl) (fun _ _ => rfl))) ge_int.gh (.le _ _) rfl
    · intro ht
      rw [if_pos (any_here hq (of_decide_eq_true ht))] at hR
      exact gss_ret ge_bl hR
    intro ht
    have hq0 : ¬ q.2.1 ≤ 0 := of_decide_eq_false ht
    have hnext := any_take hq hany hq0
    have hbs : botP (prs.take (i + 1)) = botP (prs.take i) * q.2.2 := by
      rw [take_snoc hq, bot_snoc]
    have hbt := hO.take i
    rw [hbs]
    generalize botP (prs.take i) = b at *
    have q1 : IntMulOk b q.2.2 := Bd.ok hbt hq3 (by decide)
    (show GSs _ _ (List.cons _ _) _)
    apply gss_augM C 6 l6 (u := b) (v := q.2.2)
    case hG => rfl
    case he => exact ge_ix (GV.s (ge_v C 5 v5 rfl)) (i := 1) ge_int (.tup rfl) (fun _ _ => rfl)
    case hm => exact q1
    walk_at "dw.nf"
    apply gss_nil
    exact ⟨_, _, rfl, hnext⟩
  case hd =>
    rintro G' ⟨x4, x5, rfl, hany⟩
    rw [List.length_map, List.take_length] at hany
    rw [List.length_map, List.take_length]
    rw [if_neg (by rw [hany]; decide)] at hR
    have hbd := hO.bd
    have htop : ∀ q ∈ prs, Bd 610 (q.2.1 * (botP prs / q.2.2)) := fun q hq => by
      obtain ⟨_, h2, _, h4⟩ := hbd q hq
      exact (h2.mul (hbot.div h4)).mono (by decide)
    have eT : topsP prs = prs.map fun q => q.2.1 * (botP prs / q.2.2) := rfl
    have eD : ∀ k, dotP prs k = (prs.map fun q => q.2.1 * (botP prs / q.2.2) * q.1.at k).sum := fun k => rfl
    (show GSs _ _ (List.cons _ _) _)
    generalize botP prs = b at *
    apply gss_lcT C 7 4 5 (xs := prs) (e1 := fun q => P3.en q.1) (e2 := fun q => .tuple [.int q.2.1, .int q.2.2]) (g := fun q => .int (q.2.1 * (b / q.2.2)))
    case okj => assumption
    case hyl => decide +kernel
    case hk => rfl
    case ok => decide +kernel
    case okl => decide +kernel
    case okl2 => decide +kernel
    case hl => rfl
    case ha => decide +kernel
    case hs =>
      intro _
      rfl
    case hz => omega
    case hi =>
      refine GI.w (gi_list (items := prs.map (En.en (α := Pr))) ?_)
      walk_at "dw.v"
    case he =>
      intro X C q hq
      obtain ⟨_, h2, h3, h4⟩ := hbd q hq
      have q1 : IntMulOk q.2.1 (b / q.2.2) := Bd.ok h2 (hbot.div h4) (by decide)
      have q2 : CDivW b q.2.2 := Bd.dv h4 h3 (by decide)
      refine ge_mul (i := q.2.1) ?_ (ge_div (by walk_at "dw.v") ?_ q2) q1
      · exact ge_ix (GV.s (d := .tuple [.int q.2.1, .int q.2.2]) (by walk_at "dw.v")) (i := 0) ge_int (.tup rfl) (fun _ _ => rfl)
      · exact ge_ix (GV.s (d := .tuple [.int q.2.1, .int q.2.2]) (by walk_at "dw.v")) (i := 1) ge_int (.tup rfl) (fun _ _ => rfl)
    refine gs_settle 7 rfl ?_
    walk_at "dw.nf"
    apply gss_when (t := !decide ((topsP prs).sum = b))
    · refine gt_cp C (GE.gh (d := .int (topsP prs).sum) (ge_sum C g_sum B.sum (GE.gh (GE.is (d := .list (prs.map fun q => .int (q.2.1 * (b / q.2.2)))) (by walk_at "dw.v") ?_)) rfl)) (GE.gh (d := .int b) (by walk_at "dw.v")) (.neI _ _) rfl
      rw [eT, List.map_map]
      rfl
    · intro ht
      have : ¬ (topsP prs).sum = b := by simpa using ht
      rw [decide_eq_false this, Bool.false_and] at hR
      exact gss_ret ge_bl hR
    intro ht
    have ht' : (topsP prs).sum = b := by simpa using ht
    rw [decide_eq_true ht', Bool.true_and] at hR
    clear ht ht' eT
    have hPk : ∀ k : Int, 0 ≤ k → k < 3 → atI [PyData.int P.x, .int P.y, .int P.z] k = some (.int (P.at k)) := fun k h0 h1 => ln_at h0 (by omega)
    (show GSs _ _ (List.cons _ _) _)
    apply gss_for C (fun i G' => ∃ (x4 x5 x8 : Sl), G' = [.fz (.list (ls.map P3.en)), .fz P.en, .fz (.list (prs.map (En.en (α := Pr)))), .fz (.list ((prs.map (·.1)).map P3.en)), x4, x5, .fz (.int b), .fz (.list (prs.map fun q => .int (q.2.1 * (b / q.2.2)))), x8, .no] ∧ ∀ j : Nat, j < i → dotP prs (j : Int) = b * P.at (j : Int)) (items := (rngL 0 3).map .int)
    case hi => exact gi_rngC (n := 3) C g_range B.range ge_int rfl (by decide) rfl
    case h0 => exact ⟨_, _, _, rfl, fun j h => absurd h (Nat.not_lt_zero _)⟩
    case hf =>
      intro x
      rfl
    case hs =>
      rintro i d G' hd ⟨x4, x5, x8, rfl, hall⟩
      obtain ⟨hi, rfl⟩ := rng_at hd
      rw [Int.zero_add]
      refine ⟨_, [8], gg_name C 8 l8 (by simp), ?_⟩
      walk_at "dw.nf"
      have q1 : IntMulOk b (P.at (i : Int)) := Bd.ok hbot (at_bd hP _) (by decide)
      apply gss_when (t := !decide (dotP prs (i : Int) = b * P.at (i : Int)))
      · refine gt_cp C (GE.gh (d := .int (dotP prs (i : Int))) ?_) (GE.gh (d := .int (b * P.at (i : Int))) (ge_mul (by walk_at "dw.v") (ge_ix (GV.s (d := .tuple [.int P.x, .int P.y, .int P.z]) (by walk_at "dw.v")) (i := (i : Int)) (by walk_at "dw.v") (.tup (hPk _ (by omega) (by omega))) (fun _ _ => rfl)) q1)) (.neI _ _) rfl
        rw [eD]
        refine ge_sumC C g_sum B.sum (us := prs) (f := fun q => q.2.1 * (b / q.2.2) * q.1.at (i : Int)) ?_ rfl
        refine go_lcT C 9 4 (xs := prs) (e1 := fun q => .int (q.2.1 * (b / q.2.2))) (e2 := fun q => P3.en q.1) (by decide +kernel) (by decide +kernel) (by decide +kernel) (GI.w (gi_zip (xs := prs) C (by walk_at "dw.gl") B.zip (by walk_at "dw.v") ?_ rfl rfl)) (by omega) ?_ (fun _ => rfl)
        · exact GE.is (d := .list ((prs.map (·.1)).map P3.en)) (by walk_at "dw.v") (by rw [List.map_map]; rfl)
        · intro X C q hq
          obtain ⟨h1, _, _, _⟩ := hbd q hq
          have q2 : IntMulOk (q.2.1 * (b / q.2.2)) (q.1.at (i : Int)) := Bd.ok (htop q hq) (at_bd h1 _) (by decide)
          exact ge_mul (by walk_at "dw.v") (ge_ix (GV.s (d := .tuple [.int q.1.x, .int q.1.y, .int q.1.z]) (by walk_at "dw.v")) (i := (i : Int)) (by walk_at "dw.v") (.tup (ln_at (by omega) (by omega))) (fun _ _ => rfl)) q2
      · intro ht
        have hne : ¬ dotP prs (i : Int) = b * P.at (i : Int) := by simpa using ht
        have e : (decide (dotP prs 0 = b * P.x) && (decide (dotP prs 1 = b * P.y) && decide (dotP prs 2 = b * P.z))) = false := by
          rw [Bool.and_eq_false_iff, Bool.and_eq_false_iff, decide_eq_false_iff_not, decide_eq_false_iff_not, decide_eq_false_iff_not]
          rcases (show i = 0 ∨ i = 1 ∨ i = 2 by omega) with rfl | rfl | rfl
          · exact .inl hne
          · exact .inr (.inl hne)
          · exact .inr (.inr hne)
        rw [e] at hR
        exact gss_ret ge_bl hR
      · intro ht
        have he : dotP prs (i : Int) = b * P.at (i : Int) := by simpa using ht
        apply gss_nil
        refine ⟨_, _, _, rfl, fun j hj => ?_⟩
        by_cases e : j = i
        · subst e
          exact he
        · exact hall j (by omega)
    case hd =>
      rintro G' ⟨x4, x5, x8, rfl, hall⟩
      rw [List.length_map, rngL_len] at hall
      have e0 : dotP prs 0 = b * P.x := hall 0 (by decide)
      have e1 : dotP prs 1 = b * P.y := hall 1 (by decide)
      have e2 : dotP prs 2 = b * P.z := hall 2 (by decide)
      rw [decide_eq_true e0, decide_eq_true e1, decide_eq_true e2] at hR
      exact gss_ret ge_bl hR

theorem has_shares_show {W : Wd} {k : Nat} (B : Bn W) (F : FunAt W "shares_show" s_shares_show) : Has W (k + 1) "shares_show" c_shares_show :=
  has_mk F sc_shares_show ln_shares_show (fun _ _ _ _ _ _ us hl => match us, hl with | [_, _, _], _ => rfl) fun X C ds R h => bd_shares_show B X C ds R h
/-! ### _law_cell_at -/
abbrev s_L_cell_at : Stmt := topS 26
abbrev n_L_cell_at : List Str := ["script", "k"]
theorem sc_L_cell_at : FnScope n_L_cell_at ["script", "k"] (defScope s_L_cell_at) := ⟨rfl, rfl, rfl, by decide +kernel, rfl, by decide +kernel, by decide +kernel⟩
theorem v0_L_cell_at : okV n_L_cell_at (defScope s_L_cell_at) 0 "script" = true := by decide +kernel
theorem v1_L_cell_at : okV n_L_cell_at (defScope s_L_cell_at) 1 "k" = true := by decide +kernel
theorem g_len_L_cell_at : glB (defScope s_L_cell_at) "len" = true := by decide +kernel
def c_L_cell_at : Ct := fun ds R => ∃ (ns : List Int) (k : Int), ds = [.list (ns.map .int), .int k] ∧ (0 ≤ k) ∧ (k ≤ 100) ∧ R (.fz (.int (cellZ ns k)))
theorem ln_L_cell_at : ∀ ds R, c_L_cell_at ds R → ds.length = 2 := by
  rintro ds R ⟨ns, k, rfl, _⟩
  rfl
theorem bd_L_cell_at {W : Wd} {k : Nat} (B : Bn W)  (X : Cx) (C : Cok X W n_L_cell_at (defScope s_L_cell_at) k) (ds : List D) (R : Rs → Prop) (h : c_L_cell_at ds R) :
    GSs X (startG n_L_cell_at ds) (defBody s_L_cell_at) { nx := fun _ => R (.fz .none), rt := R } := by
  obtain ⟨ns, k, rfl, h0, h1, hR⟩ := h
  have v0 := v0_L_cell_at
  have v1 := v1_L_cell_at
  have g_len := g_len_L_cell_at
  (show GSs X [.fz _, .fz _] (List.cons _ _) _)
  apply gss_when
  · walk_at "dw.e"
  · intro ht
    have hc := of_decide_eq_true ht
    rw [List.length_map] at hc
    rw [show cellZ ns k = ns.getD k.toNat 0 from if_pos hc] at hR
    apply gss_ret
    · walk_at "dw.e"
      exact IxV.lst (atI_map (atI_getD h0 hc))
    · exact hR
  · intro ht
    have hc := of_decide_eq_false ht
    rw [List.length_map] at hc
    rw [show cellZ ns k = 0 from if_neg hc] at hR
    apply gss_ret
    · walk_at "dw.e"
    · exact hR

theorem has_L_cell_at {W : Wd} {k : Nat} (B : Bn W) (F : FunAt W "_law_cell_at" s_L_cell_at) : Has W (k + 1) "_law_cell_at" c_L_cell_at :=
  has_mk F sc_L_cell_at ln_L_cell_at (fun _ _ _ _ _ _ us hl => match us, hl with | [_, _], _ => rfl) fun X C ds R h => bd_L_cell_at B X C ds R h
/-! ### _law_great -/
abbrev s_L_great : Stmt := topS 27
abbrev n_L_great : List Str := ["cell", "most", "x", "y"]
theorem sc_L_great : FnScope n_L_great ["cell"] (defScope s_L_great) := ⟨rfl, rfl, rfl, by decide +kernel, rfl, by decide +kernel, by decide +kernel⟩
theorem v0_L_great : okV n_L_great (defScope s_L_great) 0 "cell" = true := by decide +kernel
theorem v1_L_great : okV n_L_great (defScope s_L_great) 1 "most" = true := by decide +kernel
theorem l1_L_great : okL n_L_great (defScope s_L_great) 1 "most" = true := by decide +kernel
theorem v2_L_great : okV n_L_great (defScope s_L_great) 2 "x" = true := by decide +kernel
theorem l2_L_great : okL n_L_great (defScope s_L_great) 2 "x" = true := by decide +kernel
theorem v3_L_great : okV n_L_great (defScope s_L_great) 3 "y" = true := by decide +kernel
theorem l3_L_great : okL n_L_great (defScope s_L_great) 3 "y" = true := by decide +kernel
def c_L_great : Ct := fun ds R => ∃ (c : Int), ds = [.int c] ∧ (Bd 1048576 c) ∧ R (.fz (P3.en (greatN c)))
theorem ln_L_great : ∀ ds R, c_L_great ds R → ds.length = 1 := by
  rintro ds R ⟨c, rfl, _⟩
  rfl
theorem bd_L_great {W : Wd} {k : Nat} (B : Bn W)  (X : Cx) (C : Cok X W n_L_great (defScope s_L_great) k) (ds : List D) (R : Rs → Prop) (h : c_L_great ds R) :
    GSs X (startG n_L_great ds) (defBody s_L_great) { nx := fun _ => R (.fz .none), rt := R } := by
  obtain ⟨c, rfl, hc, hR⟩ := h
  have v0 := v0_L_great
  have v1 := v1_L_great
  have l1 := l1_L_great
  have v2 := v2_L_great
  have l2 := l2_L_great
  have v3 := v3_L_great
  have l3 := l3_L_great
  (show GSs X [.fz _, .no, .no, .no] (List.cons _ _) _)
  have h1 : IntMulOk c c := Bd.ok hc hc (by decide)
  have hcc := hc.mul hc
  have h2 : IntMulOk (c * c) c := Bd.ok hcc hc (by decide)
  have h3 : IntMulOk (c * c) 7919 := Bd.ok hcc (show Bd 20 7919 by decide) (by decide)
  have h4 : IntMulOk c 1000003 := Bd.ok hc (show Bd 20 1000003 by decide) (by decide)
  have hmz : (0 : Int) < 2 * 10 ^ (12 : Int).toNat + 1 := by decide +kernel
  (show GSs _ _ (List.cons _ _) _)
  walk_at "dw.asg"
  (show GSs _ _ (List.cons _ _) _)
  walk_at "dw.asg"
  (show GSs _ _ (List.cons _ _) _)
  walk_at "dw.asg"
  apply gss_ret
  · walk_at "dw.e"
  · exact hR

theorem has_L_great {W : Wd} {k : Nat} (B : Bn W) (F : FunAt W "_law_great" s_L_great) : Has W (k + 1) "_law_great" c_L_great :=
  has_mk F sc_L_great ln_L_great (fun _ _ _ _ _ _ us hl => match us, hl with | [_], _ => rfl) fun X C ds R h => bd_L_great B X C ds R h
/-! ### _law_near -/
abbrev s_L_near : Stmt := topS 28
abbrev n_L_near : List Str := ["script", "cell", "a", "b", "c", "kind", "k", "some", "spot"]
theorem sc_L_near : FnScope n_L_near ["script"] (defScope s_L_near) := ⟨rfl, rfl, rfl, by decide +kernel, rfl, by decide +kernel, by decide +kernel⟩
theorem v0_L_near : okV n_L_near (defScope s_L_near) 0 "script" = true := by decide +kernel
theorem v1_L_near : okV n_L_near (defScope s_L_near) 1 "cell" = true := by decide +kernel
theorem l1_L_near : okL n_L_near (defScope s_L_near) 1 "cell" = true := by decide +kernel
theorem v2_L_near : okV n_L_near (defScope s_L_near) 2 "a" = true := by decide +kernel
theorem l2_L_near : okL n_L_near (defScope s_L_near) 2 "a" = true := by decide +kernel
theorem v3_L_near : okV n_L_near (defScope s_L_near) 3 "b" = true := by decide +kernel
theorem l3_L_near : okL n_L_near (defScope s_L_near) 3 "b" = true := by decide +kernel
theorem v4_L_near : okV n_L_near (defScope s_L_near) 4 "c" = true := by decide +kernel
theorem l4_L_near : okL n_L_near (defScope s_L_near) 4 "c" = true := by decide +kernel
theorem v5_L_near : okV n_L_near (defScope s_L_near) 5 "kind" = true := by decide +kernel
theorem l5_L_near : okL n_L_near (defScope s_L_near) 5 "kind" = true := by decide +kernel
theorem v7_L_near : okV n_L_near (defScope s_L_near) 7 "some" = true := by decide +kernel
theorem l7_L_near : okL n_L_near (defScope s_L_near) 7 "some" = true := by decide +kernel
theorem g_L_cell_at_L_near : glB (defScope s_L_near) "_law_cell_at" = true := by decide +kernel
theorem g_range_L_near : glB (defScope s_L_near) "range" = true := by decide +kernel
theorem g_L_great_L_near : glB (defScope s_L_near) "_law_great" = true := by decide +kernel
def c_L_near : Ct := fun ds R => ∃ (ns : List Int), ds = [.list (ns.map .int)] ∧ (ns.length ≤ 63) ∧ (∀ z ∈ ns, Bd 1048576 z) ∧ R (.ow (((nearN ns).map P3.en)))
theorem ln_L_near : ∀ ds R, c_L_near ds R → ds.length = 1 := by
  rintro ds R ⟨ns, rfl, _⟩
  rfl
theorem bd_L_near {W : Wd} {k : Nat} (B : Bn W) (h_L_cell_at : Has W k "_law_cell_at" c_L_cell_at) (h_L_great : Has W k "_law_great" c_L_great) (X : Cx) (C : Cok X W n_L_near (defScope s_L_near) k) (ds : List D) (R : Rs → Prop) (h : c_L_near ds R) :
    GSs X (startG n_L_near ds) (defBody s_L_near) { nx := fun _ => R (.fz .none), rt := R } := by
  obtain ⟨ns, rfl, hl, hb, hR⟩ := h
  have v0 := v0_L_near
  have v1 := v1_L_near
  have l1 := l1_L_near
  have v2 := v2_L_near
  have l2 := l2_L_near
  have v3 := v3_L_near
  have l3 := l3_L_near
  have v4 := v4_L_near
  have l4 := l4_L_near
  have v5 := v5_L_near
  have l5 := l5_L_near
  have v7 := v7_L_near
  have l7 := l7_L_near
  have g_L_cell_at := g_L_cell_at_L_near
  have g_range := g_range_L_near
  have g_L_great := g_L_great_L_near
  (show GSs X [.fz _, .no, .no, .no, .no, .no, .no, .no, .no] (List.cons _ _) _)
  have bc := cellZ_bd (k := 0) hb (by decide)
  have hin := abcN_in (cellZ ns 0)
  have hN : nearN ns = if cellZ ns 0 % 7 = 0 then (rngL 0 8).map (boxN (abcN (cellZ ns 0)))
  else if cellZ ns 0 % 7 = 1 then [⟨(abcN (cellZ ns 0)).x, 0, 0⟩, ⟨0 - (abcN (cellZ ns 0)).y, 0, 0⟩, ⟨0, (abcN (cellZ ns 0)).y, 0⟩, ⟨0, 0 - (abcN (cellZ ns 0)).z, 0⟩, ⟨0, 0, (abcN (cellZ ns 0)).z⟩, ⟨0, 0, 0 - (abcN (cellZ ns 0)).x⟩]
  else if cellZ ns 0 % 7 = 2 then ((twoN (abcN (cellZ ns 0))).map fun s => (⟨s.1, s.2, 0⟩ : P3)) ++ (twoN (abcN (cellZ ns 0))).map fun s => ⟨s.1 + (abcN (cellZ ns 0)).z, s.2, (abcN (cellZ ns 0)).x + (abcN (cellZ ns 0)).y⟩
  else if cellZ ns 0 % 7 = 3 then (rngL 0 (3 + (cellZ ns 0 / 378 % 8).toNat)).map bowlN ++ [abcN (cellZ ns 0)]
  else [⟨0, 0, 0⟩, ⟨(abcN (cellZ ns 0)).x, 0, 0⟩, ⟨0, (abcN (cellZ ns 0)).y, 0⟩, ⟨0, 0, (abcN (cellZ ns 0)).z⟩] ++ (fewN ns).map (someN (cellZ ns 0 % 7)) := rfl
  have hw1 : cellZ ns 0 / 7 % 2 = 1 → abcN (cellZ ns 0) = ⟨(1 + cellZ ns 0 / 14 % 3) * 10 ^ (6 : Int).toNat + 1, (1 + cellZ ns 0 / 42 % 3) * 10 ^ (7 : Int).toNat + 3, (1 + cellZ ns 0 / 126 % 3) * 10 ^ (8 : Int).toNat + 9⟩ := fun h => if_pos h
  have hw2 : ¬ cellZ ns 0 / 7 % 2 = 1 → abcN (cellZ ns 0) = ⟨1 + cellZ ns 0 / 14 % 3, 1 + cellZ ns 0 / 42 % 3, 1 + cellZ ns 0 / 126 % 3⟩ := fun h => if_neg h
  (show GSs _ _ (List.cons _ _) _)
  walk_at "dw.asg"
  generalize cellZ ns 0 = c at *
  (show GSs _ _ (List.cons _ _) _)
  walk_at "dw.asg"
  (show GSs _ _ (List.cons _ _) _)
  walk_at "dw.asg"
  (show GSs _ _ (List.cons _ _) _)
  walk_at "dw.asg"
  apply gss_join (fun G' => G' = [.fz (.list (ns.map .int)), .fz (.int c), .fz (.int (abcN c).x), .fz (.int (abcN c).y), .fz (.int (abcN c).z), .no, .no, .no, .no]) (t := decide (c / 7 % 2 = 1))
  case hc => walk_at "dw.e"
  case h2 =>
    intro ht
    have ht := of_decide_eq_false ht
    rw [hw2 ht]
  case h1 =>
    intro ht
    have ht := of_decide_eq_true ht
    rw [hw1 ht]
    (show GSs _ _ (List.cons _ _) _)
    apply gss_unp (ws := List.range 40) (d := .tuple [.int ((1 + c / 14 % 3) * 10 ^ (6 : Int).toNat + 1), .int ((1 + c / 42 % 3) * 10 ^ (7 : Int).toNat + 3), .int ((1 + c / 126 % 3) * 10 ^ (8 : Int).toNat + 9)])
    case he =>
      have q1 : IntMulOk (1 + c / 14 % 3) (10 ^ (6 : Int).toNat) := Bd.ok (n := 4) (by show (1 + c / 14 % 3).natAbs < 2 ^ 4; omega) (show Bd 30 _ by decide +kernel) (by decide)
      have q2 : IntMulOk (1 + c / 42 % 3) (10 ^ (7 : Int).toNat) := Bd.ok (n := 4) (by show (1 + c / 42 % 3).natAbs < 2 ^ 4; omega) (show Bd 30 _ by decide +kernel) (by decide)
      have q3 : IntMulOk (1 + c / 126 % 3) (10 ^ (8 : Int).toNat) := Bd.ok (n := 4) (by show (1 + c / 126 % 3).natAbs < 2 ^ 4; omega) (show Bd 30 _ by decide +kernel) (by decide)
      walk_at "dw.e"
      all_goals assumption
    case hg => walk_at "dw.gg"
    case hs => rfl
    case hw => exact swst_cel (kind_cel C.toCnm (by decide +kernel))
    case h1 => rfl
    walk_at "dw.nf"
    apply gss_nil
    rfl
  rintro G' rfl
  clear hw1 hw2
  generalize abcN c = w at *
  obtain ⟨⟨a1, a2⟩, ⟨b1, b2⟩, ⟨c1, c2⟩⟩ := hin
  have bwx : Bd 40 w.x := by
    show w.x.natAbs < 2 ^ 40
    omega
  have bwy : Bd 40 w.y := by
    show w.y.natAbs < 2 ^ 40
    omega
  have bwz : Bd 40 w.z := by
    show w.z.natAbs < 2 ^ 40
    omega
  (show GSs _ _ (List.cons _ _) _)
  walk_at "dw.asg"
  apply gss_when (t := decide (c % 7 = 0))
  · walk_at "dw.e"
  · intro ht
    rw [if_pos (of_decide_eq_true ht)] at hN
    apply gss_retO (ds := (nearN ns).map P3.en)
    · refine GO.is (go_lc1 C 6 (xs := rngL 0 8) (en := .int) (g := fun k => P3.en (boxN w k)) (by decide +kernel) (by decide +kernel) (GI.w (gi_rngC C (by walk_at "dw.gl") B.range ge_int rfl (by decide) rfl)) (Nat.le_of_ble_eq_true rfl) ?_ (fun _ => rfl)) (by rw [hN, List.map_map]; rfl)
      intro X C a ha
      have ha' := rngL_mem ha
      have hba_ : Bd 4 a := by
        show a.natAbs < 2 ^ 4
        omega
      have hq : IntMulOk (a / 4) w.z := Bd.ok (hba_.div (by decide)) bwz (by decide)
      have hq2 : IntMulOk (a / 2 % 2) w.y := Bd.ok (n := 4) (Bd.mod (by decide) (by decide)) bwy (by decide)
      have hq3 : IntMulOk (a % 2) w.x := Bd.ok (n := 4) (Bd.mod (by decide) (by decide)) bwx (by decide)
      show GE X _ _ (.tuple [.int (a % 2 * w.x), .int (a / 2 % 2 * w.y), .int (a / 4 * w.z)])
      walk_at "dw.e"
      exact hq
    · exact hR
  intro n0
  rw [if_neg (of_decide_eq_false n0)] at hN
  apply gss_when (t := decide (c % 7 = 1))
  · walk_at "dw.e"
  · intro ht
    rw [if_pos (of_decide_eq_true ht)] at hN
    apply gss_retO (ds := (nearN ns).map P3.en)
    · rw [hN]
      refine GO.is (ds := [.tuple [.int w.x, .int 0, .int 0], .tuple [.int (0 - w.y), .int 0, .int 0], .tuple [.int 0, .int w.y, .int 0], .tuple [.int 0, .int (0 - w.z), .int 0], .tuple [.int 0, .int 0, .int w.z], .tuple [.int 0, .int 0, .int (0 - w.x)]]) ?_ rfl
      walk_at "dw.e"
    · exact hR
  intro n1
  rw [if_neg (of_decide_eq_false n1)] at hN
  apply gss_when (t := decide (c % 7 = 2))
  · walk_at "dw.e"
  · intro ht
    rw [if_pos (of_decide_eq_true ht)] at hN
    (show GSs _ _ (List.cons _ _) _)
    apply gss_asgO C 7 l7 (ds := (twoN w).map fun s => .tuple [.int s.1, .int s.2])
    case hs => rfl
    case he =>
      refine GO.is (ds := [.tuple [.int 0, .int 0], .tuple [.int w.x, .int 0], .tuple [.int 0, .int w.y]]) ?_ rfl
      walk_at "dw.e"
    walk_at "dw.nf"
    apply gss_retO (ds := (nearN ns).map P3.en)
    · refine GO.is (go_add (xs := (twoN w).map fun s => P3.en ⟨s.1, s.2, 0⟩) (ys := (twoN w).map fun s => P3.en ⟨s.1 + w.z, s.2, w.x + w.y⟩) (GO.gl (go_lc1 C 8 (xs := twoN w) (en := fun s => .tuple [.int s.1, .int s.2]) (by decide +kernel) (by decide +kernel) (gw_list (gl_v C 7 v7 rfl)) (Nat.le_of_ble_eq_true rfl) ?_ (fun _ => rfl))) (GO.gl (go_lc1 C 8 (xs := twoN w) (en := fun s => .tuple [.int s.1, .int s.2]) (by decide +kernel) (by decide +kernel) (gw_list (gl_v C 7 v7 rfl)) (Nat.le_of_ble_eq_true rfl) ?_ (fun _ => rfl))) (Nat.le_of_ble_eq_true rfl)) (by rw [hN, List.map_append, List.map_map, List.map_map]; rfl)
      · intro X C a ha
        refine ge_add (x := .tuple [.int a.1, .int a.2]) (y := .tuple [.int 0]) ?_ ?_ (.tup _ _ (Nat.le_of_ble_eq_true rfl))
        · walk_at "dw.v"
        · walk_at "dw.e"
      · intro X C a ha
        show GE X _ _ (.tuple [.int (a.1 + w.z), .int a.2, .int (w.x + w.y)])
        walk_at "dw.e"
    · exact hR
  intro n2
  rw [if_neg (of_decide_eq_false n2)] at hN
  apply gss_when (t := decide (c % 7 = 3))
  · walk_at "dw.e"
  · intro ht
    rw [if_pos (of_decide_eq_true ht)] at hN
    have hz : 3 + c / 378 % 8 = ((3 + (c / 378 % 8).toNat : Nat) : Int) := by omega
    have hz2 : 3 + (c / 378 % 8).toNat ≤ 10 := by omega
    generalize 3 + (c / 378 % 8).toNat = m at *
    apply gss_retO (ds := (nearN ns).map P3.en)
    · refine GO.is (go_add (xs := (rngL 0 m).map fun k => P3.en (bowlN k)) (ys := [P3.en w]) (GO.gl (go_lc1 C 6 (xs := rngL 0 m) (en := .int) (by decide +kernel) (by decide +kernel) (GI.w (gi_rngC C (by walk_at "dw.gl") B.range (z := 3 + c / 378 % 8) (by walk_at "dw.e") hz (by omega) rfl)) (by rw [rngL_len]; omega) ?_ (fun _ => rfl))) (GO.gl (GO.is (ds := [.tuple [.int w.x, .int w.y, .int w.z]]) (by walk_at "dw.e") rfl)) (by rw [List.length_map, rngL_len]; exact Nat.le_trans (Nat.add_le_add_right hz2 _) (Nat.le_of_ble_eq_true rfl))) (by rw [hN, List.map_append, List.map_map]; rfl)
      intro X C a ha
      have ha' := rngL_mem ha
      have hba_ : Bd 5 a := by
        show a.natAbs < 2 ^ 5
        omega
      show GE X _ _ (.tuple [.int a, .int (a * a), .int 0])
      walk_at "dw.e"
    · exact hR
  intro n3
  rw [if_neg (of_decide_eq_false n3)] at hN
  (show GSs _ _ (List.cons _ _) _)
  apply gss_asgO C 7 l7 (ds := (([⟨0, 0, 0⟩, ⟨w.x, 0, 0⟩, ⟨0, w.y, 0⟩, ⟨0, 0, w.z⟩] : List P3) ++ ((fewN ns).take 0).map (someN (c % 7))).map P3.en)
  case hs => rfl
  case he =>
    refine GO.is (ds := [.tuple [.int 0, .int 0, .int 0], .tuple [.int w.x, .int 0, .int 0], .tuple [.int 0, .int w.y, .int 0], .tuple [.int 0, .int 0, .int w.z]]) ?_ rfl
    walk_at "dw.e"
  walk_at "dw.nf"
  have hfb : ∀ z ∈ fewN ns, Bd 1048576 z := fun z hz => hb z (List.mem_of_mem_drop (List.mem_of_mem_take hz))
  have hfl : (fewN ns).length ≤ 5 := by
    unfold fewN
    rw [List.length_take]
    omega
  (show GSs _ _ (List.cons _ _) _)
  apply gss_for C (fun i G' => ∃ x1, G' = [.fz (.list (ns.map .int)), x1, .fz (.int w.x), .fz (.int w.y), .fz (.int w.z), .fz (.int (c % 7)), .no, .ow ((([⟨0, 0, 0⟩, ⟨w.x, 0, 0⟩, ⟨0, w.y, 0⟩, ⟨0, 0, w.z⟩] : List P3) ++ ((fewN ns).take i).map (someN (c % 7))).map P3.en), .no]) (items := (fewN ns).map .int)
  case hi =>
    refine gi_list (GE.is (ge_slLd (by walk_at "dw.v") (gp_yes ge_int) (gp_yes ge_int)) ?_)
    exact congrArg PyData.list (cut_rest ns 4 9 (by decide))
  case h0 => exact ⟨_, rfl⟩
  case hf =>
    intro x
    rfl
  case hs =>
    rintro i d G' hd ⟨x1, rfl⟩
    obtain ⟨e, he, rfl⟩ := map_at hd
    have be := hfb e (List.mem_of_getElem? he)
    have be2 := be.div (j := 2) (by decide)
    refine ⟨_, [1], gg_name C 1 l1 (by simp), ?_⟩
    walk_at "dw.nf"
    have hsx : ((fewN ns).take (i + 1)).map (someN (c % 7)) = ((fewN ns).take i).map (someN (c % 7)) ++ [someN (c % 7) e] := by
      rw [List.take_add_one, he, List.map_append]
      rfl
    have hsl : (((fewN ns).take i).map (someN (c % 7))).length ≤ 5 := by
      rw [List.length_map, List.length_take]
      omega
    have hs1 : (c % 7 = 5 ∨ (c % 7 = 6 ∧ e % 2 = 1)) → someN (c % 7) e = greatN (e / 2) := fun h => if_pos h
    have hs2 : ¬ (c % 7 = 5 ∨ (c % 7 = 6 ∧ e % 2 = 1)) → someN (c % 7) e = ⟨e % 7 - 3, e / 7 % 7 - 3, e / 49 % 7 - 3⟩ := fun h => if_neg h
    rw [hsx]
    generalize ((fewN ns).take i).map (someN (c % 7)) = ss at hsl
    apply gss_join2 (fun G' => G' = [.fz (.list (ns.map .int)), .fz (.int e), .fz (.int w.x), .fz (.int w.y), .fz (.int w.z), .fz (.int (c % 7)), .no, .ow ((([⟨0, 0, 0⟩, ⟨w.x, 0, 0⟩, ⟨0, w.y, 0⟩, ⟨0, 0, w.z⟩] : List P3) ++ (ss ++ [someN (c % 7) e])).map P3.en), .no]) (t := decide (c % 7 = 5 ∨ (c % 7 = 6 ∧ e % 2 = 1)))
    case hc =>
      refine GT.is (GW.gt (gw_or (t := decide (c % 7 = 5)) (u := decide (c % 7 = 6) && decide (e % 2 = 1)) ?_ fun _ => gw_or1 (GW.gt (gw_and (t := decide (c % 7 = 6)) (u := decide (e % 2 = 1)) ?_ fun _ => gw_and1 ?_)))) ?_
      · walk_at "dw.e"
      · walk_at "dw.e"
      · walk_at "dw.e"
      · rw [Bool.eq_iff_iff]
        simp
    case h1 =>
      intro ht
      rw [hs1 (of_decide_eq_true ht)]
      (show GSs _ _ (List.cons _ _) _)
      apply gss_app C 7 (ds := (([⟨0, 0, 0⟩, ⟨w.x, 0, 0⟩, ⟨0, w.y, 0⟩, ⟨0, 0, w.z⟩] : List P3) ++ ss).map P3.en) (d := P3.en (greatN (e / 2)))
      case h => assumption
      case hG => rfl
      case hb => rfl
      case hl => rfl
      case hst => rfl
      case hfew => rfl
      case hs => rfl
      case hz =>
        rw [List.length_map, List.length_append]
        show 4 + ss.length < _
        omega
      case he => exact ge_call C h_L_great (Nat.le_refl _) g_L_great (ga_cons (d := .int (e / 2)) (by walk_at "dw.e") ga_nil rfl) (fun R_ h_ => ⟨e / 2, rfl, be2, h_⟩) rfl rfl
      walk_at "dw.nf"
      apply gss_nil
      simp only [List.map_append, List.map_cons, List.map_nil, List.append_assoc]
    case h2 =>
      intro ht
      rw [hs2 (of_decide_eq_false ht)]
      (show GSs _ _ (List.cons _ _) _)
      apply gss_app C 7 (ds := (([⟨0, 0, 0⟩, ⟨w.x, 0, 0⟩, ⟨0, w.y, 0⟩, ⟨0, 0, w.z⟩] : List P3) ++ ss).map P3.en) (d := P3.en ⟨e % 7 - 3, e / 7 % 7 - 3, e / 49 % 7 - 3⟩)
      case h => assumption
      case hG => rfl
      case hb => rfl
      case hl => rfl
      case hst => rfl
      case hfew => rfl
      case hs => rfl
      case hz =>
        rw [List.length_map, List.length_append]
        show 4 + ss.length < _
        omega
      case he => exact GE.is (d := .tuple [.int (e % 7 - 3), .int (e / 7 % 7 - 3), .int (e / 49 % 7 - 3)]) (by walk_at "dw.e") rfl
      walk_at "dw.nf"
      apply gss_nil
      simp only [List.map_append, List.map_cons, List.map_nil, List.append_assoc]
    rintro G' rfl
    apply gss_nil
    exact ⟨_, rfl⟩
  case hd =>
    rintro G' ⟨x1, rfl⟩
    rw [List.length_map, List.take_length]
    rw [hN] at hR
    exact gss_retV C 7 v7 rfl hR

theorem has_L_near {W : Wd} {k : Nat} (B : Bn W) (F : FunAt W "_law_near" s_L_near) (h_L_cell_at : Has W k "_law_cell_at" c_L_cell_at) (h_L_great : Has W k "_law_great" c_L_great) : Has W (k + 1) "_law_near" c_L_near :=
  has_mk F sc_L_near ln_L_near (fun _ _ _ _ _ _ us hl => match us, hl with | [_], _ => rfl) fun X C ds R h => bd_L_near B (h_L_cell_at := h_L_cell_at) (h_L_great := h_L_great) X C ds R h
/-! ### _law_slanted -/
abbrev s_L_slanted : Stmt := topS 29
abbrev n_L_slanted : List Str := ["spot", "script", "x", "y", "z", "cell", "most"]
theorem sc_L_slanted : FnScope n_L_slanted ["spot", "script"] (defScope s_L_slanted) := ⟨rfl, rfl, rfl, by decide +kernel, rfl, by decide +kernel, by decide +kernel⟩
theorem v0_L_slanted : okV n_L_slanted (defScope s_L_slanted) 0 "spot" = true := by decide +kernel
theorem v1_L_slanted : okV n_L_slanted (defScope s_L_slanted) 1 "script" = true := by decide +kernel
theorem v2_L_slanted : okV n_L_slanted (defScope s_L_slanted) 2 "x" = true := by decide +kernel
theorem l2_L_slanted : okL n_L_slanted (defScope s_L_slanted) 2 "x" = true := by decide +kernel
theorem v3_L_slanted : okV n_L_slanted (defScope s_L_slanted) 3 "y" = true := by decide +kernel
theorem l3_L_slanted : okL n_L_slanted (defScope s_L_slanted) 3 "y" = true := by decide +kernel
theorem v4_L_slanted : okV n_L_slanted (defScope s_L_slanted) 4 "z" = true := by decide +kernel
theorem l4_L_slanted : okL n_L_slanted (defScope s_L_slanted) 4 "z" = true := by decide +kernel
theorem v5_L_slanted : okV n_L_slanted (defScope s_L_slanted) 5 "cell" = true := by decide +kernel
theorem l5_L_slanted : okL n_L_slanted (defScope s_L_slanted) 5 "cell" = true := by decide +kernel
theorem v6_L_slanted : okV n_L_slanted (defScope s_L_slanted) 6 "most" = true := by decide +kernel
theorem l6_L_slanted : okL n_L_slanted (defScope s_L_slanted) 6 "most" = true := by decide +kernel
theorem g_L_cell_at_L_slanted : glB (defScope s_L_slanted) "_law_cell_at" = true := by decide +kernel
def c_L_slanted : Ct := fun ds R => ∃ (ns : List Int) (u : P3), ds = [u.en, .list (ns.map .int)] ∧ (∀ z ∈ ns, Bd 1048576 z) ∧ (P3.Bd 45 u) ∧ R (.fz (P3.en (slant33 (cellZ ns 1) u)))
theorem ln_L_slanted : ∀ ds R, c_L_slanted ds R → ds.length = 2 := by
  rintro ds R ⟨ns, u, rfl, _⟩
  rfl
theorem bd_L_slanted {W : Wd} {k : Nat} (B : Bn W) (h_L_cell_at : Has W k "_law_cell_at" c_L_cell_at) (X : Cx) (C : Cok X W n_L_slanted (defScope s_L_slanted) k) (ds : List D) (R : Rs → Prop) (h : c_L_slanted ds R) :
    GSs X (startG n_L_slanted ds) (defBody s_L_slanted) { nx := fun _ => R (.fz .none), rt := R } := by
  obtain ⟨ns, u, rfl, hb, hu, hR⟩ := h
  have v0 := v0_L_slanted
  have v1 := v1_L_slanted
  have v2 := v2_L_slanted
  have l2 := l2_L_slanted
  have v3 := v3_L_slanted
  have l3 := l3_L_slanted
  have v4 := v4_L_slanted
  have l4 := l4_L_slanted
  have v5 := v5_L_slanted
  have l5 := l5_L_slanted
  have v6 := v6_L_slanted
  have l6 := l6_L_slanted
  have g_L_cell_at := g_L_cell_at_L_slanted
  (show GSs X [.fz _, .fz _, .no, .no, .no, .no, .no] (List.cons _ _) _)
  have bc := cellZ_bd (k := 1) hb (by decide)
  obtain ⟨m0, mb⟩ := mostN_in (cellZ ns 1)
  have md : ∀ a : Int, Bd 20 (a % mostN (cellZ ns 1)) := fun a => Bd.mod m0 mb
  have hat := mostN_at (cellZ ns 1)
  have hS : slant33 (cellZ ns 1) u = turnN (cellZ ns 1) ⟨u.x + cellZ ns 1 / 4 % mostN (cellZ ns 1) * u.y, u.y + -(cellZ ns 1 / 12 % mostN (cellZ ns 1)) * u.z, u.z + cellZ ns 1 / 36 % mostN (cellZ ns 1) * (u.x + cellZ ns 1 / 4 % mostN (cellZ ns 1) * u.y)⟩ := rfl
  have hT1 : cellZ ns 1 / 2 % 2 = 1 → ∀ v, turnN (cellZ ns 1) v = swXZ v := fun h v => if_pos h
  have hT2 : ¬ cellZ ns 1 / 2 % 2 = 1 → ∀ v, turnN (cellZ ns 1) v = v := fun h v => if_neg h
  rw [hS] at hR
  clear hS
  obtain ⟨ux, uy, uz⟩ := hu
  (show GSs _ _ (List.cons _ _) _)
  apply gss_unpE (ws := List.range 40) (d := .tuple [.int u.x, .int u.y, .int u.z])
  walk_at "dw.unpE"
  (show GSs _ _ (List.cons _ _) _)
  walk_at "dw.asg"
  generalize cellZ ns 1 = c at *
  generalize hm : mostN c = m at *
  (show GSs _ _ (List.cons _ _) _)
  apply gss_asg C 6 l6 (d := .int m)
  case hs => rfl
  case he =>
    refine ge_ix (GV.l (GO.gl (go_lst (x1 := ()) (ds := [PyData.int 3, .int (10 ^ (6 : Int).toNat)]) (ga_cons ge_int (ga_cons (by walk_at "dw.e") ga_nil rfl) rfl) (Nat.le_of_ble_eq_true rfl)))) (i := c % 2) (by walk_at "dw.e") (.own hat) (fun _ _ => rfl)
  walk_at "dw.nf"
  have e1 : Bd 100 (u.x + c / 4 % m * u.y) := (ux.add ((md (c / 4)).mul uy)).mono (by decide)
  have e2 : u.y - c / 12 % m * u.z = u.y + -(c / 12 % m) * u.z := by
    rw [Int.neg_mul]
    omega
  have q1 : IntMulOk (c / 4 % m) u.y := Bd.ok (md _) uy (by decide)
  have q2 : IntMulOk (c / 12 % m) u.z := Bd.ok (md _) uz (by decide)
  (show GSs _ _ (List.cons _ _) _)
  apply gss_asg C 2 l2 (d := .int (u.x + c / 4 % m * u.y))
  case hs => rfl
  case he => exact ge_add (x := .int u.x) (y := .int (c / 4 % m * u.y)) (by walk_at "dw.v") (ge_mul (ge_mod (by walk_at "dw.e") (by walk_at "dw.v") m0) (by walk_at "dw.v") q1) (.int _ _)
  walk_at "dw.nf"
  (show GSs _ _ (List.cons _ _) _)
  apply gss_asg C 3 l3 (d := .int (u.y + -(c / 12 % m) * u.z))
  case hs => rfl
  case he =>
    rw [← e2]
    exact ge_sub (by walk_at "dw.v") (ge_mul (ge_mod (by walk_at "dw.e") (by walk_at "dw.v") m0) (by walk_at "dw.v") q2)
  walk_at "dw.nf"
  generalize u.x + c / 4 % m * u.y = x at *
  generalize u.y + -(c / 12 % m) * u.z = y at *
  have q3 : IntMulOk (c / 36 % m) x := Bd.ok (md _) e1 (by decide)
  (show GSs _ _ (List.cons _ _) _)
  apply gss_asg C 4 l4 (d := .int (u.z + c / 36 % m * x))
  case hs => rfl
  case he => exact ge_add (x := .int u.z) (y := .int (c / 36 % m * x)) (by walk_at "dw.v") (ge_mul (ge_mod (by walk_at "dw.e") (by walk_at "dw.v") m0) (by walk_at "dw.v") q3) (.int _ _)
  walk_at "dw.nf"
  generalize u.z + c / 36 % m * x = z at *
  apply gss_join (fun G' => ∃ v : P3, v = turnN c ⟨x, y, z⟩ ∧ G' = [.fz u.en, .fz (.list (ns.map .int)), .fz (.int v.x), .fz (.int v.y), .fz (.int v.z), .fz (.int c), .fz (.int m)]) (t := decide (c / 2 % 2 = 1))
  case hc => walk_at "dw.e"
  case h1 =>
    intro ht
    (show GSs _ _ (List.cons _ _) _)
    apply gss_par C 2 4 (d1 := .int z) (d2 := .int x)
    walk_at "dw.par"
    apply gss_nil
    refine ⟨swXZ ⟨x, y, z⟩, (hT1 (of_decide_eq_true ht) _).symm, rfl⟩
  case h2 =>
    intro ht
    exact ⟨⟨x, y, z⟩, (hT2 (of_decide_eq_false ht) _).symm, rfl⟩
  rintro G' ⟨v, hv, rfl⟩
  rw [← hv] at hR
  apply gss_ret (d := .tuple [.int v.x, .int v.y, .int v.z])
  · walk_at "dw.e"
  · exact hR

theorem has_L_slanted {W : Wd} {k : Nat} (B : Bn W) (F : FunAt W "_law_slanted" s_L_slanted) (h_L_cell_at : Has W k "_law_cell_at" c_L_cell_at) : Has W (k + 1) "_law_slanted" c_L_slanted :=
  has_mk F sc_L_slanted ln_L_slanted (fun _ _ _ _ _ _ us hl => match us, hl with | [_, _], _ => rfl) fun X C ds R h => bd_L_slanted B (h_L_cell_at := h_L_cell_at) X C ds R h
/-! ### _law_low -/
abbrev s_L_low : Stmt := topS 30
abbrev n_L_low : List Str := ["top", "bottom", "one", "other"]
theorem sc_L_low : FnScope n_L_low ["top", "bottom"] (defScope s_L_low) := ⟨rfl, rfl, rfl, by decide +kernel, rfl, by decide +kernel, by decide +kernel⟩
theorem v0_L_low : okV n_L_low (defScope s_L_low) 0 "top" = true := by decide +kernel
theorem v1_L_low : okV n_L_low (defScope s_L_low) 1 "bottom" = true := by decide +kernel
theorem v2_L_low : okV n_L_low (defScope s_L_low) 2 "one" = true := by decide +kernel
theorem l2_L_low : okL n_L_low (defScope s_L_low) 2 "one" = true := by decide +kernel
theorem v3_L_low : okV n_L_low (defScope s_L_low) 3 "other" = true := by decide +kernel
theorem l3_L_low : okL n_L_low (defScope s_L_low) 3 "other" = true := by decide +kernel
theorem g_abs_L_low : glB (defScope s_L_low) "abs" = true := by decide +kernel
def c_L_low : Ct := fun ds R => ∃ (t b : Int), ds = [.int t, .int b] ∧ (0 < b) ∧ (Bd 130 t) ∧ (Bd 130 b) ∧ R (.fz (.tuple [.int (lowA t b).1, .int (lowA t b).2]))
theorem ln_L_low : ∀ ds R, c_L_low ds R → ds.length = 2 := by
  rintro ds R ⟨t, b, rfl, _⟩
  rfl
theorem bd_L_low {W : Wd} {k : Nat} (B : Bn W)  (X : Cx) (C : Cok X W n_L_low (defScope s_L_low) k) (ds : List D) (R : Rs → Prop) (h : c_L_low ds R) :
    GSs X (startG n_L_low ds) (defBody s_L_low) { nx := fun _ => R (.fz .none), rt := R } := by
  obtain ⟨t, b, rfl, hb, bt, bb, hR⟩ := h
  have v0 := v0_L_low
  have v1 := v1_L_low
  have v2 := v2_L_low
  have l2 := l2_L_low
  have v3 := v3_L_low
  have l3 := l3_L_low
  have g_abs := g_abs_L_low
  (show GSs X [.fz _, .fz _, .no, .no] (List.cons _ _) _)
  (show GSs _ _ (List.cons _ _) _)
  walk_at "dw.asg"
  (show GSs _ _ (List.cons _ _) _)
  walk_at "dw.asg"
  apply gss_while C (fun m G2 => ∃ x y : Int, G2 = [.fz (.int t), .fz (.int b), .fz (.int x), .fz (.int y)] ∧ y.natAbs = m ∧ 0 ≤ x ∧ 0 ≤ y ∧ Int.gcd x y = Int.gcd t b) b.natAbs
  · refine ⟨_, _, rfl, rfl, ?_, by omega, ?_⟩
    · split <;> omega
    · split
      · rw [Int.neg_gcd]
      · rfl
  · rintro m G2 ⟨x, y, rfl, hm, hx, hy, hg⟩
    refine ⟨decide (y > 0), ?_, ?_, ?_⟩
    · walk_at "dw.e"
    · intro ht
      have hy0 : y > 0 := of_decide_eq_true ht
      have hyn : y ≠ 0 := by omega
      (show GSs _ _ (List.cons _ _) _)
      apply gss_par C 2 3 (d1 := .int y) (d2 := .int (x.fmod y))
      walk_at "dw.par"
      apply gss_nil
      refine ⟨_, ?_, y, x.fmod y, rfl, rfl, hy, ?_, (gcd_fmod x y).trans hg⟩
      · have := fmod_lt_abs x hyn
        omega
      · exact Int.fmod_nonneg_of_pos x (by omega)
    · intro ht
      have hy0 : y = 0 := by
        have := of_decide_eq_false ht
        omega
      subst hy0
      have hxg : x = ((Int.gcd t b : Nat) : Int) := by
        rw [← hg, Int.gcd_zero_right]
        omega
      have hx0 : 0 < x := by
        have : 0 < Int.gcd t b := Int.gcd_pos_iff.mpr (.inr (by omega))
        omega
      have hlow : lowA t b = (t / x, b / x) := by
        rw [hxg]
        rfl
      have bx : Bd 130 x := by
        have h1 : x ≤ b := by
          rw [hxg]
          exact Int.le_of_dvd hb (Int.gcd_dvd_right ..)
        show x.natAbs < 2 ^ 130
        have h2 : b.natAbs < 2 ^ 130 := bb
        omega
      apply gss_ret (d := .tuple [.int (t / x), .int (b / x)])
      · walk_at "dw.e"
      · rw [hlow] at hR
        exact hR

theorem has_L_low {W : Wd} {k : Nat} (B : Bn W) (F : FunAt W "_law_low" s_L_low) : Has W (k + 1) "_law_low" c_L_low :=
  has_mk F sc_L_low ln_L_low (fun _ _ _ _ _ _ us hl => match us, hl with | [_, _], _ => rfl) fun X C ds R h => bd_L_low B X C ds R h
/-! ### _law_weights -/
abbrev s_L_weights : Stmt := topS 31
abbrev n_L_weights : List Str := ["cell", "many", "way", "found", "k", "weight"]
theorem sc_L_weights : FnScope n_L_weights ["cell", "many", "way"] (defScope s_L_weights) := ⟨rfl, rfl, rfl, by decide +kernel, rfl, by decide +kernel, by decide +kernel⟩
theorem v0_L_weights : okV n_L_weights (defScope s_L_weights) 0 "cell" = true := by decide +kernel
theorem v1_L_weights : okV n_L_weights (defScope s_L_weights) 1 "many" = true := by decide +kernel
theorem v2_L_weights : okV n_L_weights (defScope s_L_weights) 2 "way" = true := by decide +kernel
theorem v3_L_weights : okV n_L_weights (defScope s_L_weights) 3 "found" = true := by decide +kernel
theorem l3_L_weights : okL n_L_weights (defScope s_L_weights) 3 "found" = true := by decide +kernel
theorem v4_L_weights : okV n_L_weights (defScope s_L_weights) 4 "k" = true := by decide +kernel
theorem l4_L_weights : okL n_L_weights (defScope s_L_weights) 4 "k" = true := by decide +kernel
theorem v5_L_weights : okV n_L_weights (defScope s_L_weights) 5 "weight" = true := by decide +kernel
theorem l5_L_weights : okL n_L_weights (defScope s_L_weights) 5 "weight" = true := by decide +kernel
theorem g_range_L_weights : glB (defScope s_L_weights) "range" = true := by decide +kernel
theorem g_sum_L_weights : glB (defScope s_L_weights) "sum" = true := by decide +kernel
def c_L_weights : Ct := fun ds R => ∃ (c : Int) (m : Nat) (way : Int), ds = [.int c, .int (m : Int), .int way] ∧ (0 < m) ∧ (m ≤ 7) ∧ ∀ ws : List Int, Wts m ws → R (.ow (ws.map .int))
theorem ln_L_weights : ∀ ds R, c_L_weights ds R → ds.length = 3 := by
  rintro ds R ⟨c, m, way, rfl, _⟩
  rfl
theorem bd_L_weights {W : Wd} {k : Nat} (B : Bn W)  (X : Cx) (C : Cok X W n_L_weights (defScope s_L_weights) k) (ds : List D) (R : Rs → Prop) (h : c_L_weights ds R) :
    GSs X (startG n_L_weights ds) (defBody s_L_weights) { nx := fun _ => R (.fz .none), rt := R } := by
  obtain ⟨c, m, way, rfl, hm0, hm7, hR⟩ := h
  have v0 := v0_L_weights
  have v1 := v1_L_weights
  have v2 := v2_L_weights
  have v3 := v3_L_weights
  have l3 := l3_L_weights
  have v4 := v4_L_weights
  have l4 := l4_L_weights
  have v5 := v5_L_weights
  have l5 := l5_L_weights
  have g_range := g_range_L_weights
  have g_sum := g_sum_L_weights
  (show GSs X [.fz _, .fz _, .fz _, .no, .no, .no] (List.cons _ _) _)
  have h9 : ((10 : Int) ^ (9 : Int).toNat) = 1000000000 := by decide
  (show GSs _ _ (List.cons _ _) _)
  walk_at "dw.asgO"
  (show GSs _ _ (List.cons _ _) _)
  apply gss_for C (fun i G' => ∃ (ws : List Int) (x4 x5 : Sl), G' = [.fz (.int c), .fz (.int (m : Int)), .fz (.int way), .ow (ws.map .int), x4, x5] ∧ ws.length = i ∧ ∀ w ∈ ws, Bd 42 w) (items := (rngL 0 m).map .int)
  case hi => exact gi_rngC C g_range B.range (ge_v C 1 v1 rfl) rfl (by omega) rfl
  case h0 => exact ⟨[], _, _, rfl, rfl, fun w hw => by cases hw⟩
  case hf =>
    intro x
    rfl
  case hs =>
    rintro i d G' hd ⟨ws, x4, x5, rfl, hwl, hwb⟩
    obtain ⟨hi, rfl⟩ := rng_at hd
    rw [Int.zero_add]
    refine ⟨_, [4], gg_name C 4 l4 (by simp), ?_⟩
    walk_at "dw.nf"
    have k1 : (0 : Int) < (i : Int) + 1 := by omega
    have k7 : (0 : Int) < 7 + (i : Int) := by omega
    have b1 : Bd 5 ((i : Int) + 1) := by
      show ((i : Int) + 1).natAbs < 2 ^ 5
      omega
    have b7 : Bd 5 (7 + (i : Int)) := by
      show (7 + (i : Int)).natAbs < 2 ^ 5
      omega
    have dv1 : ∀ z, CDivW z ((i : Int) + 1) := fun z => Bd.dv k1 b1 (by decide)
    have dv7 : ∀ z, CDivW z (7 + (i : Int)) := fun z => Bd.dv k7 b7 (by decide)
    have hk1 : ∀ {X : Cx} {G : Gm} {p p1 p2 : Pos}, Cok X W n_L_weights (defScope s_L_weights) k → G[4]? = some (.fz (.int (i : Int))) → GE X G (.BinOp (.Name "k" p) .Add (.Constant (.int 1) 0 p1) p2) (.int ((i : Int) + 1)) := fun {X G p p1 p2} C hG => ge_add (x := .int (i : Int)) (y := .int 1) (ge_v C 4 v4 hG) ge_int (.int _ _)
    (show GSs _ _ (List.cons _ _) _)
    apply gss_asg C 5 l5 (d := .int (1 + c / 81 / ((i : Int) + 1) % 9))
    case hs => rfl
    case he =>
      refine ge_add (x := .int 1) (y := .int (c / 81 / ((i : Int) + 1) % 9)) ge_int (ge_mod (ge_div (i := c / 81) (by walk_at "dw.e") (hk1 C rfl) (dv1 _)) ge_int (by decide)) (.int _ _)
    walk_at "dw.nf"
    have w0 : 1 ≤ 1 + c / 81 / ((i : Int) + 1) % 9 ∧ 1 + c / 81 / ((i : Int) + 1) % 9 ≤ 9 := by
      generalize c / 81 / ((i : Int) + 1) = z
      omega
    generalize 1 + c / 81 / ((i : Int) + 1) % 9 = z0 at w0
    (show GSs _ _ (List.cons _ _) _)
    apply gss_join (fun G' => ∃ w : Int, G' = [.fz (.int c), .fz (.int (m : Int)), .fz (.int way), .ow (ws.map .int), .fz (.int (i : Int)), .fz (.int w)] ∧ Bd 42 w) (t := decide (c / 8 % 3 = 1))
    case hc => walk_at "dw.e"
    case h2 =>
      intro _
      refine ⟨z0, rfl, ?_⟩
      show z0.natAbs < 2 ^ 42
      omega
    case h1 =>
      intro _
      have bz : Bd 12 (c / (7 + (i : Int)) % 1000) := by
        show (c / (7 + (i : Int)) % 1000).natAbs < 2 ^ 12
        generalize c / (7 + (i : Int)) = z
        omega
      have q1 : IntMulOk (c / (7 + (i : Int)) % 1000) (10 ^ (9 : Int).toNat) := Bd.ok bz (show Bd 40 _ by decide +kernel) (by decide)
      (show GSs _ _ (List.cons _ _) _)
      apply gss_asg C 5 l5 (d := .int (z0 + c / (7 + (i : Int)) % 1000 * 10 ^ (9 : Int).toNat))
      case hs => rfl
      case he =>
        refine ge_add (x := .int z0) (y := .int (c / (7 + (i : Int)) % 1000 * 10 ^ (9 : Int).toNat)) (by walk_at "dw.v") (ge_mul (ge_mod (ge_div (i := c) (by walk_at "dw.v") (ge_add (x := .int 7) (y := .int (i : Int)) ge_int (by walk_at "dw.v") (.int _ _)) (dv7 _)) ge_int (by decide)) (by walk_at "dw.e") q1) (.int _ _)
      walk_at "dw.nf"
      apply gss_nil
      refine ⟨_, rfl, ?_⟩
      rw [h9]
      show (z0 + c / (7 + (i : Int)) % 1000 * 1000000000).natAbs < 2 ^ 42
      generalize c / (7 + (i : Int)) = z
      omega
    rintro G' ⟨w1, rfl, bw1⟩
    obtain ⟨w2, hat, bw2⟩ : ∃ w2 : Int, atI [PyData.int (-4), .int (-3), .int (-2), .int (-1), .int 1, .int 2, .int 3, .int 4, .int 5, .int 6, .int 7, .int 8, .int 9] (c / 13 / ((i : Int) + 1) % 13) = some (.int w2) ∧ Bd 42 w2 := by
      generalize c / 13 / ((i : Int) + 1) = z
      rcases (show z % 13 = 0 ∨ z % 13 = 1 ∨ z % 13 = 2 ∨ z % 13 = 3 ∨ z % 13 = 4 ∨ z % 13 = 5 ∨ z % 13 = 6 ∨ z % 13 = 7 ∨ z % 13 = 8 ∨ z % 13 = 9 ∨ z % 13 = 10 ∨ z % 13 = 11 ∨ z % 13 = 12 by omega) with e | e | e | e | e | e | e | e | e | e | e | e | e
      all_goals
        rw [e]
        exact ⟨_, rfl, by decide⟩
    (show GSs _ _ (List.cons _ _) _)
    apply gss_join (fun G' => ∃ w : Int, G' = [.fz (.int c), .fz (.int (m : Int)), .fz (.int way), .ow (ws.map .int), .fz (.int (i : Int)), .fz (.int w)] ∧ Bd 42 w) (t := decide (way = 1))
    case hc => walk_at "dw.e"
    case h2 =>
      intro _
      exact ⟨w1, rfl, bw1⟩
    case h1 =>
      intro _
      (show GSs _ _ (List.cons _ _) _)
      apply gss_asg C 5 l5 (d := .int w2)
      case hs => rfl
      case he =>
        refine ge_ix (GV.l (GO.gl (go_lst (x1 := ()) (ds := [PyData.int (-4), .int (-3), .int (-2), .int (-1), .int 1, .int 2, .int 3, .int 4, .int 5, .int 6, .int 7, .int 8, .int 9]) ?_ (Nat.le_of_ble_eq_true rfl)))) (i := c / 13 / ((i : Int) + 1) % 13) (ge_mod (ge_div (i := c / 13) (by walk_at "dw.e") (hk1 C rfl) (dv1 _)) ge_int (by decide)) (.own hat) (fun _ _ => rfl)
        exact ga_cons (ge_neg ge_int) (ga_cons (ge_neg ge_int) (ga_cons (ge_neg ge_int) (ga_cons (ge_neg ge_int) (ga_cons ge_int (ga_cons ge_int (ga_cons ge_int (ga_cons ge_int (ga_cons ge_int (ga_cons ge_int (ga_cons ge_int (ga_cons ge_int (ga_cons ge_int ga_nil rfl) rfl) rfl) rfl) rfl) rfl) rfl) rfl) rfl) rfl) rfl) rfl) rfl
      walk_at "dw.nf"
      apply gss_nil
      exact ⟨w2, rfl, bw2⟩
    clear bw1 w1
    rintro G' ⟨w1, rfl, bw1⟩
    (show GSs _ _ (List.cons _ _) _)
    apply gss_app C 3 (ds := ws.map .int) (d := .int w1)
    case hz =>
      rw [List.length_map]
      omega
    walk_at "dw.app"
    apply gss_nil
    refine ⟨ws ++ [w1], .fz (.int (i : Int)), .fz (.int w1), ?_, ?_, fun w hw => ?_⟩
    · rw [List.map_append]
      rfl
    · rw [List.length_append, hwl]
      rfl
    · rcases List.mem_append.mp hw with q | q
      · exact hwb w q
      · rw [List.mem_singleton.mp q]
        exact bw1
  case hd =>
    rintro G' ⟨ws, x4, x5, rfl, hwl, hwb⟩
    rw [List.length_map, rngL_len] at hwl
    have hg : ∀ (us : List Int), us.length = m → ∃ a, us[0]? = some a ∧ atI (us.map PyData.int) 0 = some (.int a) ∧ a ∈ us := fun us h => by
      have h0 : 0 < us.length := by omega
      refine ⟨us[0], List.getElem?_eq_getElem h0, atI_map (atI_nat (j := 0) (List.getElem?_eq_getElem h0)), List.getElem_mem h0⟩
    (show GSs _ _ (List.cons _ _) _)
    apply gss_join (fun G' => ∃ (ws : List Int) (x4 x5 : Sl), G' = [.fz (.int c), .fz (.int (m : Int)), .fz (.int way), .ow (ws.map .int), x4, x5] ∧ ws.length = m ∧ ∀ w ∈ ws, Bd 42 w) (t := decide (way = 9) && decide ((m : Int) > 1))
    case hc => walk_at "dw.e"
    case h2 =>
      intro _
      exact ⟨ws, x4, x5, rfl, hwl, hwb⟩
    case h1 =>
      intro ht
      have hm1 := of_decide_eq_true ((Bool.and_eq_true _ _).mp ht).2
      obtain ⟨a, _, a0, am⟩ := hg ws hwl
      (show GSs _ _ (List.cons _ _) _)
      apply gss_setI C 3 (ds := ws.map .int) (d := .int a) (j := 1) (jn := 1)
      case h => assumption
      case hG => rfl
      case ha =>
        intro _
        rfl
      case hs => rfl
      case hw => rfl
      case h1' => rfl
      case hjn =>
        unfold ixN
        rw [List.length_map, if_pos (by decide), if_pos (by omega)]
        rfl
      case hj => exact ge_int
      case he => exact ge_ix (GV.l (gl_v C 3 v3 rfl)) (i := 0) ge_int (.own a0) (fun _ _ => rfl)
      walk_at "dw.nf"
      apply gss_nil
      refine ⟨ws.set 1 a, x4, x5, ?_, ?_, fun w hw => ?_⟩
      · rw [List.map_set]
      · rw [List.length_set, hwl]
      · rcases List.mem_or_eq_of_mem_set hw with q | q
        · exact hwb w q
        · exact q ▸ hwb a am
    clear hwl hwb ws x4 x5
    rintro G' ⟨ws, x4, x5, rfl, hwl, hwb⟩
    (show GSs _ _ (List.cons _ _) _)
    apply gss_join (fun G' => ∃ (ws : List Int) (x4 x5 : Sl), G' = [.fz (.int c), .fz (.int (m : Int)), .fz (.int way), .ow (ws.map .int), x4, x5] ∧ ws.length = m ∧ (∀ w ∈ ws, Bd 43 w) ∧ ws.sum ≠ 0) (t := decide (ws.sum = 0))
    case hc => exact gt_cp C (GE.gh (ge_sum C g_sum B.sum (GL.gh (gl_v C 3 v3 rfl)) rfl)) ge_int.gh (.eqI _ _) rfl
    case h2 =>
      intro ht
      exact ⟨ws, x4, x5, rfl, hwl, fun w hw => (hwb w hw).mono (by decide), of_decide_eq_false ht⟩
    case h1 =>
      intro ht
      have hs0 := of_decide_eq_true ht
      obtain ⟨a, ha, a0, am⟩ := hg ws hwl
      have ba := hwb a am
      (show GSs _ _ (List.cons _ _) _)
      apply gss_setI C 3 (ds := ws.map .int) (d := .int (a + 7)) (j := 0) (jn := 0)
      case h => assumption
      case hG => rfl
      case ha =>
        intro _
        rfl
      case hs => rfl
      case hw => rfl
      case h1' => rfl
      case hjn =>
        unfold ixN
        rw [List.length_map, if_pos (by decide), if_pos (by omega)]
        rfl
      case hj => exact ge_int
      case he => exact ge_add (x := .int a) (y := .int 7) (ge_ix (GV.l (gl_v C 3 v3 rfl)) (i := 0) ge_int (.own a0) (fun _ _ => rfl)) ge_int (.int _ _)
      walk_at "dw.nf"
      apply gss_nil
      refine ⟨ws.set 0 (a + 7), x4, x5, ?_, ?_, fun w hw => ?_, ?_⟩
      · rw [List.map_set]
      · rw [List.length_set, hwl]
      · rcases List.mem_or_eq_of_mem_set hw with q | q
        · exact (hwb w q).mono (by decide)
        · exact q ▸ (ba.add (show Bd 3 7 by decide)).mono (by decide)
      · cases ws with
        | nil => cases ha
        | cons b t =>
          cases ha
          rw [List.set_cons_zero, List.sum_cons]
          rw [List.sum_cons] at hs0
          omega
    clear hwl hwb ws x4 x5
    rintro G' ⟨ws, x4, x5, rfl, hwl, hwb, hs0⟩
    apply gss_when (t := decide (ws.sum < 0))
    · exact gt_cp C (GE.gh (ge_sum C g_sum B.sum (GL.gh (gl_v C 3 v3 rfl)) rfl)) ge_int.gh (.lt _ _) rfl
    · intro ht
      have hneg := of_decide_eq_true ht
      apply gss_retO (ds := (ws.map fun w => 0 - w).map .int)
      · refine GO.is (go_lc1 C 5 (xs := ws) (en := .int) (g := fun w => .int (0 - w)) (by decide +kernel) (by decide +kernel) (gw_list (gl_v C 3 v3 rfl)) (by omega) ?_ (fun _ => rfl)) (by rw [List.map_map]; rfl)
        intro X C a ha
        exact ge_sub ge_int (by walk_at "dw.v")
      · refine hR _ ⟨by rw [List.length_map, hwl], by rw [sum_neg]; omega, fun w hw => ?_⟩
        obtain ⟨v, hv, rfl⟩ := List.mem_map.mp hw
        have : v.natAbs < 2 ^ 43 := hwb v hv
        show (0 - v).natAbs < 2 ^ 43
        omega
    · intro ht
      have := of_decide_eq_false ht
      exact gss_retV C 3 v3 rfl (hR ws ⟨hwl, by omega, hwb⟩)

theorem has_L_weights {W : Wd} {k : Nat} (B : Bn W) (F : FunAt W "_law_weights" s_L_weights) : Has W (k + 1) "_law_weights" c_L_weights :=
  has_mk F sc_L_weights ln_L_weights (fun _ _ _ _ _ _ us hl => match us, hl with | [_, _, _], _ => rfl) fun X C ds R h => bd_L_weights B X C ds R h
/-! ### _law_chosen -/
abbrev s_L_chosen : Stmt := topS 32
abbrev n_L_chosen : List Str := ["land", "cell", "many", "start", "step", "k"]
theorem sc_L_chosen : FnScope n_L_chosen ["land", "cell"] (defScope s_L_chosen) := ⟨rfl, rfl, rfl, by decide +kernel, rfl, by decide +kernel, by decide +kernel⟩
theorem v0_L_chosen : okV n_L_chosen (defScope s_L_chosen) 0 "land" = true := by decide +kernel
theorem v1_L_chosen : okV n_L_chosen (defScope s_L_chosen) 1 "cell" = true := by decide +kernel
theorem v2_L_chosen : okV n_L_chosen (defScope s_L_chosen) 2 "many" = true := by decide +kernel
theorem l2_L_chosen : okL n_L_chosen (defScope s_L_chosen) 2 "many" = true := by decide +kernel
theorem v3_L_chosen : okV n_L_chosen (defScope s_L_chosen) 3 "start" = true := by decide +kernel
theorem l3_L_chosen : okL n_L_chosen (defScope s_L_chosen) 3 "start" = true := by decide +kernel
theorem v4_L_chosen : okV n_L_chosen (defScope s_L_chosen) 4 "step" = true := by decide +kernel
theorem l4_L_chosen : okL n_L_chosen (defScope s_L_chosen) 4 "step" = true := by decide +kernel
theorem g_len_L_chosen : glB (defScope s_L_chosen) "len" = true := by decide +kernel
theorem g_min_L_chosen : glB (defScope s_L_chosen) "min" = true := by decide +kernel
theorem g_range_L_chosen : glB (defScope s_L_chosen) "range" = true := by decide +kernel
def c_L_chosen : Ct := fun ds R => ∃ (us : List P3) (c : Int), ds = [.list (us.map P3.en), .int c] ∧ (0 < us.length) ∧ (us.length ≤ 60) ∧ ∀ cs : List P3, cs ≠ [] → cs.length ≤ 7 → (∀ v ∈ cs, v ∈ us) → R (.ow (cs.map P3.en))
theorem ln_L_chosen : ∀ ds R, c_L_chosen ds R → ds.length = 2 := by
  rintro ds R ⟨us, c, rfl, _⟩
  rfl
theorem bd_L_chosen {W : Wd} {k : Nat} (B : Bn W)  (X : Cx) (C : Cok X W n_L_chosen (defScope s_L_chosen) k) (ds : List D) (R : Rs → Prop) (h : c_L_chosen ds R) :
    GSs X (startG n_L_chosen ds) (defBody s_L_chosen) { nx := fun _ => R (.fz .none), rt := R } := by
  obtain ⟨us, c, rfl, h0, hlen, hR⟩ := h
  have v0 := v0_L_chosen
  have v1 := v1_L_chosen
  have v2 := v2_L_chosen
  have l2 := l2_L_chosen
  have v3 := v3_L_chosen
  have l3 := l3_L_chosen
  have v4 := v4_L_chosen
  have l4 := l4_L_chosen
  have g_len := g_len_L_chosen
  have g_min := g_min_L_chosen
  have g_range := g_range_L_chosen
  (show GSs X [.fz _, .fz _, .no, .no, .no, .no] (List.cons _ _) _)
  have huz : (0 : Int) < (us.length : Int) := by omega
  have hlen_ : ∀ {X : Cx} {G : Gm} {sc : Scope} {p p1 p2 : Pos}, Cok X W n_L_chosen sc k → okV n_L_chosen sc 0 "land" = true → glB sc "len" = true → G[0]? = some (.fz (.list (us.map P3.en))) → GE X G (.Call (.Name "len" p) [.Name "land" p1] [] p2) (.int (us.length : Int)) := fun {X G sc p p1 p2} C hv hg hG => ge_len C hg B.len (GE.gh (d := .list (us.map P3.en)) (ge_v C 0 hv hG)) (len_map _ _) rfl
  obtain ⟨m, hm, hm1, hm7⟩ : ∃ m : Int, m = (if (us.length : Int) < 7 then (us.length : Int) else 7) ∧ 0 < m ∧ m ≤ 7 := ⟨_, rfl, by split <;> omega, by split <;> omega⟩
  obtain ⟨n, hn⟩ : ∃ n : Nat, 1 + c / 24 % m = (n : Int) := ⟨(1 + c / 24 % m).toNat, by have := Int.emod_nonneg (c / 24) (show m ≠ 0 by omega); omega⟩
  have hn1 : 1 ≤ n ∧ n ≤ 7 := by
    have h1 := Int.emod_nonneg (c / 24) (show m ≠ 0 by omega)
    have h2 := Int.emod_lt_of_pos (c / 24) hm1
    omega
  (show GSs _ _ (List.cons _ _) _)
  apply gss_asg C 2 l2 (d := .int (n : Int))
  case hs => rfl
  case he =>
    rw [← hn]
    refine ge_add (x := .int 1) (y := .int (c / 24 % m)) ge_int (ge_mod (by walk_at "dw.e") ?_ hm1) (.int _ _)
    refine GE.is (ge_min C g_min B.min ge_int.gh (hlen_ C v0 g_len rfl).gh rfl rfl) ?_
    rw [hm]
  walk_at "dw.nf"
  (show GSs _ _ (List.cons _ _) _)
  apply gss_asg C 3 l3 (d := .int (c / 168 % (us.length : Int)))
  case hs => rfl
  case he => exact ge_mod (by walk_at "dw.e") (hlen_ C v0 g_len rfl) huz
  walk_at "dw.nf"
  have hst0 := Int.emod_nonneg (c / 168) (show (us.length : Int) ≠ 0 by omega)
  have hst1 := Int.emod_lt_of_pos (c / 168) huz
  generalize c / 168 % (us.length : Int) = st at hst0 hst1
  obtain ⟨t, hat, ht0, ht1⟩ : ∃ t : Int, atI [PyData.int 1, .int ((us.length : Int) - 1)] (c / 5 % 2) = some (.int t) ∧ 0 ≤ t ∧ t ≤ 60 := by
    rcases (show c / 5 % 2 = 0 ∨ c / 5 % 2 = 1 by omega) with e | e
    · rw [e]
      exact ⟨1, rfl, by decide, by decide⟩
    · rw [e]
      exact ⟨_, rfl, by omega, by omega⟩
  (show GSs _ _ (List.cons _ _) _)
  apply gss_asg C 4 l4 (d := .int t)
  case hs => rfl
  case he =>
    refine ge_ix (GV.l (GO.gl (go_lst (x1 := ()) (ds := [PyData.int 1, .int ((us.length : Int) - 1)]) (ga_cons ge_int (ga_cons (ge_sub (hlen_ C v0 g_len rfl) ge_int) ga_nil rfl) rfl) (Nat.le_of_ble_eq_true rfl)))) (i := c / 5 % 2) (by walk_at "dw.e") (.own hat) (fun _ _ => rfl)
  walk_at "dw.nf"
  have hgd : ∀ j : Int, 0 ≤ j → j < (us.length : Int) → atI (us.map P3.en) j = some (P3.en (us.getD j.toNat P3.O)) ∧ us.getD j.toNat P3.O ∈ us := fun j h0 h1 => by
    refine ⟨atI_pos h0 h1, ?_⟩
    have hj : j.toNat < us.length := by omega
    rw [List.getD_eq_getElem?_getD, List.getElem?_eq_getElem hj]
    exact List.getElem_mem hj
  apply gss_retO (ds := ((rngL 0 n).map fun k => us.getD ((st + t * k) % (us.length : Int)).toNat P3.O).map P3.en)
  · refine GO.is (go_lc1 C 5 (xs := rngL 0 n) (en := .int) (g := fun k => P3.en (us.getD ((st + t * k) % (us.length : Int)).toNat P3.O)) (by decide +kernel) (by decide +kernel) (GI.w (gi_rngC C (by walk_at "dw.gl") B.range (by walk_at "dw.v") rfl (by omega) rfl)) (by rw [rngL_len]; omega) ?_ (fun _ => rfl)) (by rw [List.map_map]; rfl)
    intro X C a ha
    have ha' := rngL_mem ha
    have bt : Bd 7 t := by
      show t.natAbs < 2 ^ 7
      omega
    have ba : Bd 7 a := by
      show a.natAbs < 2 ^ 7
      omega
    have q1 : IntMulOk t a := Bd.ok bt ba (by decide)
    obtain ⟨g1, g2⟩ := hgd ((st + t * a) % (us.length : Int)) (Int.emod_nonneg _ (by omega)) (Int.emod_lt_of_pos _ huz)
    refine ge_ix (GV.s (by walk_at "dw.v")) (i := (st + t * a) % (us.length : Int)) (ge_mod (ge_add (x := .int st) (y := .int (t * a)) (by walk_at "dw.v") (ge_mul (by walk_at "dw.v") (by walk_at "dw.v") q1) (.int _ _)) (hlen_ C (by decide +kernel) (by decide +kernel) rfl) huz) (.lst g1) (fun _ _ => rfl)
  · refine hR _ (fun e => ?_) (by rw [List.length_map, rngL_len]; omega) fun v hv => ?_
    · have := congrArg List.length e
      rw [List.length_map, rngL_len, List.length_nil] at this
      omega
    · obtain ⟨k, _, rfl⟩ := List.mem_map.mp hv
      exact (hgd _ (Int.emod_nonneg _ (by omega)) (Int.emod_lt_of_pos _ huz)).2

theorem has_L_chosen {W : Wd} {k : Nat} (B : Bn W) (F : FunAt W "_law_chosen" s_L_chosen) : Has W (k + 1) "_law_chosen" c_L_chosen :=
  has_mk F sc_L_chosen ln_L_chosen (fun _ _ _ _ _ _ us hl => match us, hl with | [_, _], _ => rfl) fun X C ds R h => bd_L_chosen B X C ds R h
/-! ### _law_put -/
abbrev s_L_put : Stmt := topS 33
abbrev n_L_put : List Str := ["P", "times", "Q"]
theorem sc_L_put : FnScope n_L_put ["P", "times", "Q"] (defScope s_L_put) := ⟨rfl, rfl, rfl, by decide +kernel, rfl, by decide +kernel, by decide +kernel⟩
theorem v0_L_put : okV n_L_put (defScope s_L_put) 0 "P" = true := by decide +kernel
theorem v1_L_put : okV n_L_put (defScope s_L_put) 1 "times" = true := by decide +kernel
theorem v2_L_put : okV n_L_put (defScope s_L_put) 2 "Q" = true := by decide +kernel
def c_L_put : Ct := fun ds R => ∃ (P : P3) (t : Int) (Q : P3), ds = [P.en, .int t, Q.en] ∧ (Bd 200 t) ∧ (P3.Bd 400 Q) ∧ R (.fz (P3.en (ad P (sm t Q))))
theorem ln_L_put : ∀ ds R, c_L_put ds R → ds.length = 3 := by
  rintro ds R ⟨P, t, Q, rfl, _⟩
  rfl
theorem bd_L_put {W : Wd} {k : Nat} (B : Bn W)  (X : Cx) (C : Cok X W n_L_put (defScope s_L_put) k) (ds : List D) (R : Rs → Prop) (h : c_L_put ds R) :
    GSs X (startG n_L_put ds) (defBody s_L_put) { nx := fun _ => R (.fz .none), rt := R } := by
  obtain ⟨P, t, Q, rfl, bt, bQ, hR⟩ := h
  have v0 := v0_L_put
  have v1 := v1_L_put
  have v2 := v2_L_put
  (show GSs X [.fz _, .fz _, .fz _] (List.cons _ _) _)
  obtain ⟨q1, q2, q3⟩ := bQ
  apply gss_ret (d := .tuple [.int (P.x + t * Q.x), .int (P.y + t * Q.y), .int (P.z + t * Q.z)])
  · walk_at "dw.e"
  · exact hR

theorem has_L_put {W : Wd} {k : Nat} (B : Bn W) (F : FunAt W "_law_put" s_L_put) : Has W (k + 1) "_law_put" c_L_put :=
  has_mk F sc_L_put ln_L_put (fun _ _ _ _ _ _ us hl => match us, hl with | [_, _, _], _ => rfl) fun X C ds R h => bd_L_put B X C ds R h
/-! ### _law_changed -/
abbrev s_L_changed : Stmt := topS 34
abbrev n_L_changed : List Str := ["pairs", "weights", "way", "P", "land", "cell", "some", "corner", "share", "half", "step", "last", "middle", "k"]
theorem sc_L_changed : FnScope n_L_changed ["pairs", "weights", "way", "P", "land", "cell"] (defScope s_L_changed) := ⟨rfl, rfl, rfl, by decide +kernel, rfl, by decide +kernel, by decide +kernel⟩
theorem v0_L_changed : okV n_L_changed (defScope s_L_changed) 0 "pairs" = true := by decide +kernel
theorem v1_L_changed : okV n_L_changed (defScope s_L_changed) 1 "weights" = true := by decide +kernel
theorem v2_L_changed : okV n_L_changed (defScope s_L_changed) 2 "way" = true := by decide +kernel
theorem v3_L_changed : okV n_L_changed (defScope s_L_changed) 3 "P" = true := by decide +kernel
theorem l3_L_changed : okL n_L_changed (defScope s_L_changed) 3 "P" = true := by decide +kernel
theorem v4_L_changed : okV n_L_changed (defScope s_L_changed) 4 "land" = true := by decide +kernel
theorem v5_L_changed : okV n_L_changed (defScope s_L_changed) 5 "cell" = true := by decide +kernel
theorem v6_L_changed : okV n_L_changed (defScope s_L_changed) 6 "some" = true := by decide +kernel
theorem l6_L_changed : okL n_L_changed (defScope s_L_changed) 6 "some" = true := by decide +kernel
theorem v7_L_changed : okV n_L_changed (defScope s_L_changed) 7 "corner" = true := by decide +kernel
theorem l7_L_changed : okL n_L_changed (defScope s_L_changed) 7 "corner" = true := by decide +kernel
theorem v8_L_changed : okV n_L_changed (defScope s_L_changed) 8 "share" = true := by decide +kernel
theorem l8_L_changed : okL n_L_changed (defScope s_L_changed) 8 "share" = true := by decide +kernel
theorem v9_L_changed : okV n_L_changed (defScope s_L_changed) 9 "half" = true := by decide +kernel
theorem l9_L_changed : okL n_L_changed (defScope s_L_changed) 9 "half" = true := by decide +kernel
theorem v10_L_changed : okV n_L_changed (defScope s_L_changed) 10 "step" = true := by decide +kernel
theorem l10_L_changed : okL n_L_changed (defScope s_L_changed) 10 "step" = true := by decide +kernel
theorem v11_L_changed : okV n_L_changed (defScope s_L_changed) 11 "last" = true := by decide +kernel
theorem l11_L_changed : okL n_L_changed (defScope s_L_changed) 11 "last" = true := by decide +kernel
theorem v12_L_changed : okV n_L_changed (defScope s_L_changed) 12 "middle" = true := by decide +kernel
theorem l12_L_changed : okL n_L_changed (defScope s_L_changed) 12 "middle" = true := by decide +kernel
theorem g_list_L_changed : glB (defScope s_L_changed) "list" = true := by decide +kernel
theorem g_L_low_L_changed : glB (defScope s_L_changed) "_law_low" = true := by decide +kernel
theorem g_L_put_L_changed : glB (defScope s_L_changed) "_law_put" = true := by decide +kernel
theorem g_tuple_L_changed : glB (defScope s_L_changed) "tuple" = true := by decide +kernel
theorem g_len_L_changed : glB (defScope s_L_changed) "len" = true := by decide +kernel
theorem g_sum_L_changed : glB (defScope s_L_changed) "sum" = true := by decide +kernel
theorem g_range_L_changed : glB (defScope s_L_changed) "range" = true := by decide +kernel
def c_L_changed : Ct := fun ds R => ∃ (prs : List Pr) (ws : List Int) (way : Int) (P : P3) (us : List P3) (c : Int), ds = [.list (prs.map (En.en (α := Pr))), .list (ws.map .int), .int way, P.en, .list (us.map P3.en), .int c] ∧ (Pr33 prs) ∧ (prs ≠ []) ∧ (ws ≠ []) ∧ (∀ w ∈ ws, Bd 43 w) ∧ (ws.length ≤ 7) ∧ (P3.Bd 180 P) ∧ (∀ u ∈ us, P3.Bd 170 u) ∧ (0 < us.length) ∧ (us.length ≤ 60) ∧ ∀ (sm : List Pr) (P' : P3), OkPr sm → P3.Bd 400 P' → R (.ow [.list (sm.map (En.en (α := Pr))), P'.en])
theorem ln_L_changed : ∀ ds R, c_L_changed ds R → ds.length = 6 := by
  rintro ds R ⟨prs, ws, way, P, us, c, rfl, _⟩
  rfl
theorem bd_L_changed {W : Wd} {k : Nat} (B : Bn W) (h_L_low : Has W k "_law_low" c_L_low) (h_L_put : Has W k "_law_put" c_L_put) (X : Cx) (C : Cok X W n_L_changed (defScope s_L_changed) k) (ds : List D) (R : Rs → Prop) (h : c_L_changed ds R) :
    GSs X (startG n_L_changed ds) (defBody s_L_changed) { nx := fun _ => R (.fz .none), rt := R } := by
  obtain ⟨prs, ws, way, P, us, c, rfl, hp33, hne, hwne, hwb, hwl, bP, hus, hul0, hul, hR⟩ := h
  have v0 := v0_L_changed
  have v1 := v1_L_changed
  have v2 := v2_L_changed
  have v3 := v3_L_changed
  have l3 := l3_L_changed
  have v4 := v4_L_changed
  have v5 := v5_L_changed
  have v6 := v6_L_changed
  have l6 := l6_L_changed
  have v7 := v7_L_changed
  have l7 := l7_L_changed
  have v8 := v8_L_changed
  have l8 := l8_L_changed
  have v9 := v9_L_changed
  have l9 := l9_L_changed
  have v10 := v10_L_changed
  have l10 := l10_L_changed
  have v11 := v11_L_changed
  have l11 := l11_L_changed
  have v12 := v12_L_changed
  have l12 := l12_L_changed
  have g_list := g_list_L_changed
  have g_L_low := g_L_low_L_changed
  have g_L_put := g_L_put_L_changed
  have g_tuple := g_tuple_L_changed
  have g_len := g_len_L_changed
  have g_sum := g_sum_L_changed
  have g_range := g_range_L_changed
  (show GSs X [.fz _, .fz _, .fz _, .fz _, .fz _, .fz _, .no, .no, .no, .no, .no, .no, .no, .no] (List.cons _ _) _)
  have huz : (0 : Int) < (us.length : Int) := by omega
  have hgd : ∀ j : Int, 0 ≤ j → j < (us.length : Int) → atI (us.map P3.en) j = some (P3.en (us.getD j.toNat P3.O)) ∧ us.getD j.toNat P3.O ∈ us := fun j h0 h1 => by
    refine ⟨atI_pos h0 h1, ?_⟩
    have hj : j.toNat < us.length := by omega
    rw [List.getD_eq_getElem?_getD, List.getElem?_eq_getElem hj]
    exact List.getElem_mem hj
  have hok := hp33.ok
  have hprs := hp33.bd
  have hl7 := hp33.len
  have hl0 : 0 < prs.length := List.length_pos_iff.mpr hne
  obtain ⟨⟨A, sa, sb⟩, hq0⟩ : ∃ q : Pr, prs[0]? = some q := ⟨prs[0], List.getElem?_eq_getElem hl0⟩
  obtain ⟨bA1, bsa, bsb, hsb⟩ := hprs _ (List.mem_of_getElem? hq0)
  dsimp only at bA1 bsa bsb hsb
  have a0 : atI (prs.map (En.en (α := Pr))) 0 = some (En.en (α := Pr) (A, (sa, sb))) := atI_map (atI_nat (j := 0) hq0)
  obtain ⟨w0, hw0⟩ : ∃ w0, ws[0]? = some w0 := ⟨ws[0]'(List.length_pos_iff.mpr hwne), List.getElem?_eq_getElem _⟩
  have bw0 := hwb w0 (List.mem_of_getElem? hw0)
  have aw0 : atI (ws.map PyData.int) 0 = some (.int w0) := atI_map (atI_nat (j := 0) hw0)
  have bws : Bd 46 ws.sum := (sum_bdY (k := 3) hwb (by omega)).mono (by decide)
  have bA := bA1.mono (m := 200) (by decide)
  have bP4 := bP.mono (m := 400) (by decide)
  have t2b : Bd 55 (sb * 7) := (bsb.mul (show Bd 3 7 by decide)).mono (by decide)
  have t2a : Bd 55 (sa * 7 + sb) := ((bsa.mul (show Bd 3 7 by decide)).add bsb).mono (by decide)
  have t3a : Bd 55 (sa * 6) := (bsa.mul (show Bd 3 6 by decide)).mono (by decide)
  have t5 : Bd 55 (2 * sb) := ((show Bd 3 2 by decide).mul bsb).mono (by decide)
  have t9 : Bd 55 (2 * sa) := ((show Bd 3 2 by decide).mul bsa).mono (by decide)
  have m7a : IntMulOk sa 7 := Bd.ok bsa (show Bd 3 7 by decide) (by decide)
  have m7b : IntMulOk sb 7 := Bd.ok bsb (show Bd 3 7 by decide) (by decide)
  have m6a : IntMulOk sa 6 := Bd.ok bsa (show Bd 3 6 by decide) (by decide)
  have m2b : IntMulOk 2 sb := Bd.ok (show Bd 3 2 by decide) bsb (by decide)
  have m2a : IntMulOk 2 sa := Bd.ok (show Bd 3 2 by decide) bsa (by decide)
  (show GSs _ _ (List.cons _ _) _)
  apply gss_asgO C 6 l6 (ds := prs.map (En.en (α := Pr)))
  case hs => rfl
  case he => exact go_list C g_list B.list (GE.gl (ge_v C 0 v0 rfl)) rfl
  walk_at "dw.nf"
  (show GSs _ _ (List.cons _ _) _)
  apply gss_unp (ws := List.range 40) (d := .tuple [A.en, .tuple [.int sa, .int sb]])
  case he => exact ge_ix (GV.l (gl_v C 6 v6 rfl)) (i := 0) ge_int (.own a0) (fun _ _ => rfl)
  case hg => walk_at "dw.gg"
  case hs => rfl
  case hw => rfl
  case h1 => rfl
  walk_at "dw.nf"
  obtain ⟨sm, P', x9, x10, x11, x12, x13, hG, hin⟩ : ∃ (sm : List Pr) (P' : P3) (x9 x10 x11 x12 x13 : Sl), [.fz (.list (prs.map (En.en (α := Pr)))), .fz (.list (ws.map .int)), .fz (.int way), .fz P.en, .fz (.list (us.map P3.en)), .fz (.int c), .ow (prs.map (En.en (α := Pr))), .fz A.en, .fz (.tuple [.int sa, .int sb]), .no, .no, .no, .no, .no] = [.fz (.list (prs.map (En.en (α := Pr)))), .fz (.list (ws.map .int)), .fz (.int way), .fz (P3.en P'), .fz (.list (us.map P3.en)), .fz (.int c), .ow (sm.map (En.en (α := Pr))), .fz A.en, .fz (.tuple [.int sa, .int sb]), x9, x10, x11, x12, x13] ∧ ((sm = prs ∧ P' = P) ∨ (way ≤ 1 ∧ (∀ q ∈ sm, OkQ q) ∧ sm.length ≤ 9 ∧ P3.Bd 400 P')) := ⟨prs, P, _, _, _, _, _, rfl, .inl ⟨rfl, rfl⟩⟩
  rw [hG]
  clear hG
  (show GSs _ _ (List.cons _ _) _)
  apply gss_join (fun G' => ∃ (sm : List Pr) (P' : P3) (x9 x10 x11 x12 x13 : Sl), G' = [.fz (.list (prs.map (En.en (α := Pr)))), .fz (.list (ws.map .int)), .fz (.int way), .fz (P3.en P'), .fz (.list (us.map P3.en)), .fz (.int c), .ow (sm.map (En.en (α := Pr))), .fz A.en, .fz (.tuple [.int sa, .int sb]), x9, x10, x11, x12, x13] ∧ ((sm = prs ∧ P' = P) ∨ (way ≤ 2 ∧ (∀ q ∈ sm, OkQ q) ∧ sm.length ≤ 9 ∧ P3.Bd 400 P'))) (t := decide (way = 2))
  case hc => walk_at "dw.e"
  case h2 =>
    intro _
    refine ⟨sm, P', x9, x10, x11, x12, x13, rfl, ?_⟩
    rcases hin with q | ⟨q1, q2⟩
    · exact .inl q
    · exact .inr ⟨by omega, q2⟩
  case h1 =>
    intro ht
    have hw_ : way = 2 := by simpa using ht
    rcases hin with ⟨rfl, rfl⟩ | ⟨q1, _⟩
    · (show GSs _ _ (List.cons _ _) _)
      apply gss_setI C 6 (ds := sm.map (En.en (α := Pr))) (d := En.en (α := Pr) (A, lowA (sa * 7 + sb) (sb * 7))) (j := 0) (jn := 0)
      case h => assumption
      case hG => rfl
      case ha =>
        intro _
        rfl
      case hs => rfl
      case hw => rfl
      case h1' => rfl
      case hjn =>
        unfold ixN
        rw [List.length_map, if_pos (by decide), if_pos (by omega)]
        rfl
      case hj => exact ge_int
      case he =>
        show GE X _ _ (.tuple [P3.en A, .tuple [.int (lowA (sa * 7 + sb) (sb * 7)).1, .int (lowA (sa * 7 + sb) (sb * 7)).2]])
        refine ge_tup (ga_cons (by walk_at "dw.v") (ga_cons ?_ ga_nil rfl) rfl) (Nat.le_of_ble_eq_true rfl)
        refine ge_call C h_L_low (Nat.le_refl _) g_L_low (ga_cons (d := .int (sa * 7 + sb)) ?_ (ga_cons (d := .int (sb * 7)) ?_ ga_nil rfl) rfl) (fun R_ h_ => ⟨sa * 7 + sb, sb * 7, rfl, by omega, (by exact Bd.mono t2a (by decide)), (by exact Bd.mono t2b (by decide)), h_⟩) rfl rfl
        · exact ge_add (x := .int (sa * 7)) (y := .int sb) (ge_mul (ge_ix (d := .int sa) (GV.s (d := .tuple [.int sa, .int sb]) (by walk_at "dw.v")) (i := 0) ge_int (.tup rfl) (fun _ _ => rfl)) ge_int m7a) (ge_ix (d := .int sb) (GV.s (d := .tuple [.int sa, .int sb]) (by walk_at "dw.v")) (i := 1) ge_int (.tup rfl) (fun _ _ => rfl)) (.int _ _)
        · exact ge_mul (ge_ix (d := .int sb) (GV.s (d := .tuple [.int sa, .int sb]) (by walk_at "dw.v")) (i := 1) ge_int (.tup rfl) (fun _ _ => rfl)) ge_int m7b
      walk_at "dw.nf"
      apply gss_nil
      refine ⟨sm.set 0 (A, lowA (sa * 7 + sb) (sb * 7)), P', x9, x10, x11, x12, x13, ?_, .inr ⟨by omega, ok_set 0 hok (okq_low bA (t2a.mono (by decide)) (t2b.mono (by decide)) (by omega)), by rw [List.length_set]; omega, bP4⟩⟩
      rw [List.map_set]
    · omega
  clear hin x9 x10 x11 x12 x13 P' sm
  rintro G' ⟨sm, P', x9, x10, x11, x12, x13, rfl, hin⟩
  (show GSs _ _ (List.cons _ _) _)
  apply gss_join (fun G' => ∃ (sm : List Pr) (P' : P3) (x9 x10 x11 x12 x13 : Sl), G' = [.fz (.list (prs.map (En.en (α := Pr)))), .fz (.list (ws.map .int)), .fz (.int way), .fz (P3.en P'), .fz (.list (us.map P3.en)), .fz (.int c), .ow (sm.map (En.en (α := Pr))), .fz A.en, .fz (.tuple [.int sa, .int sb]), x9, x10, x11, x12, x13] ∧ ((sm = prs ∧ P' = P) ∨ (way ≤ 3 ∧ (∀ q ∈ sm, OkQ q) ∧ sm.length ≤ 9 ∧ P3.Bd 400 P'))) (t := decide (way = 3))
  case hc => walk_at "dw.e"
  case h2 =>
    intro _
    refine ⟨sm, P', x9, x10, x11, x12, x13, rfl, ?_⟩
    rcases hin with q | ⟨q1, q2⟩
    · exact .inl q
    · exact .inr ⟨by omega, q2⟩
  case h1 =>
    intro ht
    have hw_ : way = 3 := by simpa using ht
    rcases hin with ⟨rfl, rfl⟩ | ⟨q1, _⟩
    · (show GSs _ _ (List.cons _ _) _)
      apply gss_setI C 6 (ds := sm.map (En.en (α := Pr))) (d := En.en (α := Pr) (A, lowA (sa * 6) (sb * 7))) (j := 0) (jn := 0)
      case h => assumption
      case hG => rfl
      case ha =>
        intro _
        rfl
      case hs => rfl
      case hw => rfl
      case h1' => rfl
      case hjn =>
        unfold ixN
        rw [List.length_map, if_pos (by decide), if_pos (by omega)]
        rfl
      case hj => exact ge_int
      case he =>
        show GE X _ _ (.tuple [P3.en A, .tuple [.int (lowA (sa * 6) (sb * 7)).1, .int (lowA (sa * 6) (sb * 7)).2]])
        refine ge_tup (ga_cons (by walk_at "dw.v") (ga_cons ?_ ga_nil rfl) rfl) (Nat.le_of_ble_eq_true rfl)
        refine ge_call C h_L_low (Nat.le_refl _) g_L_low (ga_cons (d := .int (sa * 6)) ?_ (ga_cons (d := .int (sb * 7)) ?_ ga_nil rfl) rfl) (fun R_ h_ => ⟨sa * 6, sb * 7, rfl, by omega, (by exact Bd.mono t3a (by decide)), (by exact Bd.mono t2b (by decide)), h_⟩) rfl rfl
        · exact ge_mul (ge_ix (d := .int sa) (GV.s (d := .tuple [.int sa, .int sb]) (by walk_at "dw.v")) (i := 0) ge_int (.tup rfl) (fun _ _ => rfl)) ge_int m6a
        · exact ge_mul (ge_ix (d := .int sb) (GV.s (d := .tuple [.int sa, .int sb]) (by walk_at "dw.v")) (i := 1) ge_int (.tup rfl) (fun _ _ => rfl)) ge_int m7b
      walk_at "dw.nf"
      apply gss_nil
      refine ⟨sm.set 0 (A, lowA (sa * 6) (sb * 7)), P', x9, x10, x11, x12, x13, ?_, .inr ⟨by omega, ok_set 0 hok (okq_low bA (t3a.mono (by decide)) (t2b.mono (by decide)) (by omega)), by rw [List.length_set]; omega, bP4⟩⟩
      rw [List.map_set]
    · omega
  clear hin x9 x10 x11 x12 x13 P' sm
  rintro G' ⟨sm, P', x9, x10, x11, x12, x13, rfl, hin⟩
  (show GSs _ _ (List.cons _ _) _)
  apply gss_join (fun G' => ∃ (sm : List Pr) (P' : P3) (x9 x10 x11 x12 x13 : Sl), G' = [.fz (.list (prs.map (En.en (α := Pr)))), .fz (.list (ws.map .int)), .fz (.int way), .fz (P3.en P'), .fz (.list (us.map P3.en)), .fz (.int c), .ow (sm.map (En.en (α := Pr))), .fz A.en, .fz (.tuple [.int sa, .int sb]), x9, x10, x11, x12, x13] ∧ ((sm = prs ∧ P' = P) ∨ (way ≤ 4 ∧ (∀ q ∈ sm, OkQ q) ∧ sm.length ≤ 9 ∧ P3.Bd 400 P'))) (t := decide (way = 4))
  case hc => walk_at "dw.e"
  case h2 =>
    intro _
    refine ⟨sm, P', x9, x10, x11, x12, x13, rfl, ?_⟩
    rcases hin with q | ⟨q1, q2⟩
    · exact .inl q
    · exact .inr ⟨by omega, q2⟩
  case h1 =>
    intro ht
    have hw_ : way = 4 := by simpa using ht
    rcases hin with ⟨rfl, rfl⟩ | ⟨q1, _⟩
    · obtain ⟨g1, g2⟩ := hgd (c / 2 % (us.length : Int)) (Int.emod_nonneg _ (by omega)) (Int.emod_lt_of_pos _ huz)
      generalize us.getD (c / 2 % (us.length : Int)).toNat P3.O = Q at g1 g2
      have bQ := (hus Q g2).mono (m := 200) (by decide)
      (show GSs _ _ (List.cons _ _) _)
      apply gss_ins C 6 (ds := sm.map (En.en (α := Pr))) (j := c % 2) (d := En.en (α := Pr) (Q, (0, 1)))
      case h => assumption
      case hG => rfl
      case hb => rfl
      case hl => rfl
      case hst => rfl
      case hst2 => rfl
      case hfew => rfl
      case hs => rfl
      case h0 => omega
      case h1 => omega
      case hz =>
        rw [List.length_map]
        omega
      case ha => walk_at "dw.e"
      case he =>
        show GE X _ _ (.tuple [P3.en Q, .tuple [.int 0, .int 1]])
        refine ge_tup (ga_cons ?_ (ga_cons (ge_tup (ga_cons ge_int (ga_cons ge_int ga_nil rfl) rfl) (Nat.le_of_ble_eq_true rfl)) ga_nil rfl) rfl) (Nat.le_of_ble_eq_true rfl)
        exact ge_ix (GV.s (by walk_at "dw.v")) (i := c / 2 % (us.length : Int)) (ge_mod (by walk_at "dw.e") (ge_len C g_len B.len (GE.gh (d := .list (us.map P3.en)) (by walk_at "dw.v")) (len_map _ _) rfl) huz) (.lst g1) (fun _ _ => rfl)
      walk_at "dw.nf"
      apply gss_nil
      refine ⟨sm.take (c % 2).toNat ++ [(Q, (0, 1))] ++ sm.drop (c % 2).toNat, P', x9, x10, x11, x12, x13, ?_, .inr ⟨by omega, ok_app (ok_app (fun q hq => hok q (List.mem_of_mem_take hq)) (ok_one ⟨bQ, (show Bd 60 0 by decide), (show Bd 60 1 by decide), (show (0 : Int) < 1 by decide)⟩)) (fun q hq => hok q (List.mem_of_mem_drop hq)), ?_, bP4⟩⟩
      · simp only [List.map_append, List.map_take, List.map_drop, List.map_cons, List.map_nil]
      · rw [List.length_append, List.length_append, List.length_take, List.length_drop, List.length_singleton]
        omega
    · omega
  clear hin x9 x10 x11 x12 x13 P' sm
  rintro G' ⟨sm, P', x9, x10, x11, x12, x13, rfl, hin⟩
  (show GSs _ _ (List.cons _ _) _)
  apply gss_join (fun G' => ∃ (sm : List Pr) (P' : P3) (x9 x10 x11 x12 x13 : Sl), G' = [.fz (.list (prs.map (En.en (α := Pr)))), .fz (.list (ws.map .int)), .fz (.int way), .fz (P3.en P'), .fz (.list (us.map P3.en)), .fz (.int c), .ow (sm.map (En.en (α := Pr))), .fz A.en, .fz (.tuple [.int sa, .int sb]), x9, x10, x11, x12, x13] ∧ ((sm = prs ∧ P' = P) ∨ (way ≤ 5 ∧ (∀ q ∈ sm, OkQ q) ∧ sm.length ≤ 9 ∧ P3.Bd 400 P'))) (t := decide (way = 5))
  case hc => walk_at "dw.e"
  case h2 =>
    intro _
    refine ⟨sm, P', x9, x10, x11, x12, x13, rfl, ?_⟩
    rcases hin with q | ⟨q1, q2⟩
    · exact .inl q
    · exact .inr ⟨by omega, q2⟩
  case h1 =>
    intro ht
    have hw_ : way = 5 := by simpa using ht
    rcases hin with ⟨rfl, rfl⟩ | ⟨q1, _⟩
    · (show GSs _ _ (List.cons _ _) _)
      apply gss_asg C 9 l9 (d := .tuple [.int (lowA sa (2 * sb)).1, .int (lowA sa (2 * sb)).2])
      case hs => rfl
      case he =>
        refine ge_call C h_L_low (Nat.le_refl _) g_L_low (ga_cons (d := .int sa) ?_ (ga_cons (d := .int (2 * sb)) ?_ ga_nil rfl) rfl) (fun R_ h_ => ⟨sa, 2 * sb, rfl, by omega, (by exact Bd.mono bsa (by decide)), (by exact Bd.mono t5 (by decide)), h_⟩) rfl rfl
        · exact ge_ix (d := .int sa) (GV.s (d := .tuple [.int sa, .int sb]) (by walk_at "dw.v")) (i := 0) ge_int (.tup rfl) (fun _ _ => rfl)
        · exact ge_mul ge_int (ge_ix (d := .int sb) (GV.s (d := .tuple [.int sa, .int sb]) (by walk_at "dw.v")) (i := 1) ge_int (.tup rfl) (fun _ _ => rfl)) m2b
      walk_at "dw.nf"
      have hq5 : OkQ (A, lowA sa (2 * sb)) := okq_low bA (bsa.mono (by decide)) (t5.mono (by decide)) (by omega)
      (show GSs _ _ (List.cons _ _) _)
      apply gss_asgO C 6 l6 (ds := ([(A, lowA sa (2 * sb))] ++ sm.drop 1 ++ [(A, lowA sa (2 * sb))]).map (En.en (α := Pr)))
      case hs => rfl
      case he =>
        rw [List.map_append, List.map_append, ← cut_off (f := En.en (α := Pr)) (n := 1) (by omega)]
        have k1 : (cutD (sm.map (En.en (α := Pr))) (some ((1 : Nat) : Int)) none).length ≤ 10 := by
          rw [cut_off (by omega), List.length_map, List.length_drop]
          omega
        generalize hy : cutD (sm.map (En.en (α := Pr))) (some ((1 : Nat) : Int)) none = ys at k1
        refine go_add (xs := [(A, lowA sa (2 * sb))].map (En.en (α := Pr)) ++ ys) (ys := [(A, lowA sa (2 * sb))].map (En.en (α := Pr))) (GO.gl (go_add (xs := [(A, lowA sa (2 * sb))].map (En.en (α := Pr))) (ys := ys) (GO.gl (go_lst (x1 := ()) (ga_cons ?_ ga_nil rfl) (Nat.le_of_ble_eq_true rfl))) (GO.gl ?_) ?_)) (GO.gl (go_lst (x1 := ()) (ga_cons ?_ ga_nil rfl) (Nat.le_of_ble_eq_true rfl))) ?_
        · exact ge_tup (ga_cons (d := A.en) (by walk_at "dw.v") (ga_cons (d := .tuple [.int (lowA sa (2 * sb)).1, .int (lowA sa (2 * sb)).2]) (by walk_at "dw.v") ga_nil rfl) rfl) (Nat.le_of_ble_eq_true rfl)
        · rw [← hy]
          exact go_slL (gl_v C 6 v6 rfl) (gp_yes ge_int) gp_no
        · rw [List.length_map]
          exact Nat.le_trans (Nat.add_le_add_left k1 _) (Nat.le_of_ble_eq_true rfl)
        · exact ge_tup (ga_cons (d := A.en) (by walk_at "dw.v") (ga_cons (d := .tuple [.int (lowA sa (2 * sb)).1, .int (lowA sa (2 * sb)).2]) (by walk_at "dw.v") ga_nil rfl) rfl) (Nat.le_of_ble_eq_true rfl)
        · rw [List.length_append, List.length_map]
          exact Nat.le_trans (Nat.add_le_add_right (Nat.add_le_add_left k1 _) _) (Nat.le_of_ble_eq_true rfl)
      walk_at "dw.nf"
      apply gss_nil
      refine ⟨[(A, lowA sa (2 * sb))] ++ sm.drop 1 ++ [(A, lowA sa (2 * sb))], P', _, x10, x11, x12, x13, rfl, .inr ⟨by omega, ok_app (ok_app (ok_one hq5) (fun q hq => hok q (List.mem_of_mem_drop hq))) (ok_one hq5), ?_, bP4⟩⟩
      rw [List.length_append, List.length_append, List.length_drop, List.length_singleton]
      omega
    · omega
  clear hin x9 x10 x11 x12 x13 P' sm
  rintro G' ⟨sm, P', x9, x10, x11, x12, x13, rfl, hin⟩
  (show GSs _ _ (List.cons _ _) _)
  apply gss_join (fun G' => ∃ (sm : List Pr) (P' : P3) (x9 x10 x11 x12 x13 : Sl), G' = [.fz (.list (prs.map (En.en (α := Pr)))), .fz (.list (ws.map .int)), .fz (.int way), .fz (P3.en P'), .fz (.list (us.map P3.en)), .fz (.int c), .ow (sm.map (En.en (α := Pr))), .fz A.en, .fz (.tuple [.int sa, .int sb]), x9, x10, x11, x12, x13] ∧ ((sm = prs ∧ P' = P) ∨ (way ≤ 6 ∧ (∀ q ∈ sm, OkQ q) ∧ sm.length ≤ 9 ∧ P3.Bd 400 P'))) (t := decide (way = 6))
  case hc => walk_at "dw.e"
  case h2 =>
    intro _
    refine ⟨sm, P', x9, x10, x11, x12, x13, rfl, ?_⟩
    rcases hin with q | ⟨q1, q2⟩
    · exact .inl q
    · exact .inr ⟨by omega, q2⟩
  case h1 =>
    intro ht
    have hw_ : way = 6 := by simpa using ht
    rcases hin with ⟨rfl, rfl⟩ | ⟨q1, _⟩
    · obtain ⟨S, hS⟩ : ∃ S : P3, S = ⟨c % 5 - 2, c / 5 % 5 - 2, 1 + c / 25 % 3⟩ := ⟨_, rfl⟩
      have bS : P3.Bd 4 S := by
        rw [hS]
        refine ⟨?_, ?_, ?_⟩
        · show (c % 5 - 2).natAbs < 2 ^ 4
          omega
        · show (c / 5 % 5 - 2).natAbs < 2 ^ 4
          omega
        · show (1 + c / 25 % 3).natAbs < 2 ^ 4
          omega
      have bS4 := bS.mono (m := 400) (by decide)
      (show GSs _ _ (List.cons _ _) _)
      apply gss_asg C 10 l10 (d := S.en)
      case hs => rfl
      case he =>
        rw [hS]
        show GE X _ _ (.tuple [.int (c % 5 - 2), .int (c / 5 % 5 - 2), .int (1 + c / 25 % 3)])
        walk_at "dw.e"
      walk_at "dw.nf"
      clear hS
      have bA6 : P3.Bd 200 (ad A (DW.sm ws.sum S)) := (bd_put bA1 bws bS).mono (by decide)
      (show GSs _ _ (List.cons _ _) _)
      apply gss_setI C 6 (ds := sm.map (En.en (α := Pr))) (d := En.en (α := Pr) (ad A (DW.sm ws.sum S), (sa, sb))) (j := 0) (jn := 0)
      case h => assumption
      case hG => rfl
      case ha =>
        intro _
        rfl
      case hs => rfl
      case hw => rfl
      case h1' => rfl
      case hjn =>
        unfold ixN
        rw [List.length_map, if_pos (by decide), if_pos (by omega)]
        rfl
      case hj => exact ge_int
      case he =>
        show GE X _ _ (.tuple [P3.en (ad A (DW.sm ws.sum S)), .tuple [.int sa, .int sb]])
        refine ge_tup (ga_cons ?_ (ga_cons (by walk_at "dw.v") ga_nil rfl) rfl) (Nat.le_of_ble_eq_true rfl)
        exact ge_call C h_L_put (Nat.le_refl _) g_L_put (ga_cons (d := A.en) (by walk_at "dw.v") (ga_cons (d := .int ws.sum) (ge_sum C g_sum B.sum (GE.gh (by walk_at "dw.v")) rfl) (ga_cons (d := S.en) (by walk_at "dw.v") ga_nil rfl) rfl) rfl) (fun R_ h_ => ⟨A, ws.sum, S, rfl, bws.mono (by decide), bS4, h_⟩) rfl rfl
      walk_at "dw.nf"
      (show GSs _ _ (List.cons _ _) _)
      apply gss_asg C 3 l3 (d := P3.en (ad P' (DW.sm w0 S)))
      case hs => rfl
      case he =>
        exact ge_call C h_L_put (Nat.le_refl _) g_L_put (ga_cons (d := P3.en P') (by walk_at "dw.v") (ga_cons (d := .int w0) (ge_ix (GV.s (by walk_at "dw.v")) (i := 0) ge_int (.lst aw0) (fun _ _ => rfl)) (ga_cons (d := S.en) (by walk_at "dw.v") ga_nil rfl) rfl) rfl) (fun R_ h_ => ⟨P', w0, S, rfl, bw0.mono (by decide), bS4, h_⟩) rfl rfl
      walk_at "dw.nf"
      apply gss_nil
      refine ⟨sm.set 0 (ad A (DW.sm ws.sum S), (sa, sb)), ad P' (DW.sm w0 S), x9, .fz (P3.en S), x11, x12, x13, ?_, .inr ⟨by omega, ok_set 0 hok ⟨bA6, bsa.mono (by decide), bsb.mono (by decide), hsb⟩, by rw [List.length_set]; omega, (bd_put bP (bw0.mono (by decide)) bS).mono (by decide)⟩⟩
      rw [List.map_set]
    · omega
  clear hin x9 x10 x11 x12 x13 P' sm
  rintro G' ⟨sm, P', x9, x10, x11, x12, x13, rfl, hin⟩
  (show GSs _ _ (List.cons _ _) _)
  apply gss_join (fun G' => ∃ (sm : List Pr) (P' : P3) (x9 x10 x11 x12 x13 : Sl), G' = [.fz (.list (prs.map (En.en (α := Pr)))), .fz (.list (ws.map .int)), .fz (.int way), .fz (P3.en P'), .fz (.list (us.map P3.en)), .fz (.int c), .ow (sm.map (En.en (α := Pr))), .fz A.en, .fz (.tuple [.int sa, .int sb]), x9, x10, x11, x12, x13] ∧ ((sm = prs ∧ P' = P) ∨ (way ≤ 7 ∧ (∀ q ∈ sm, OkQ q) ∧ sm.length ≤ 9 ∧ P3.Bd 400 P'))) (t := decide (way = 7))
  case hc => walk_at "dw.e"
  case h2 =>
    intro _
    refine ⟨sm, P', x9, x10, x11, x12, x13, rfl, ?_⟩
    rcases hin with q | ⟨q1, q2⟩
    · exact .inl q
    · exact .inr ⟨by omega, q2⟩
  case h1 =>
    intro ht
    have hw_ : way = 7 := by simpa using ht
    rcases hin with ⟨rfl, rfl⟩ | ⟨q1, _⟩
    · (show GSs _ _ (List.cons _ _) _)
      apply gss_asg C 3 l3 (d := P3.en ⟨P'.x, P'.y + 1 + c % 2, P'.z⟩)
      case hs => rfl
      case he =>
        show GE X _ _ (.tuple [.int P'.x, .int (P'.y + 1 + c % 2), .int P'.z])
        walk_at "dw.e"
      walk_at "dw.nf"
      apply gss_nil
      refine ⟨sm, ⟨P'.x, P'.y + 1 + c % 2, P'.z⟩, x9, x10, x11, x12, x13, rfl, .inr ⟨by omega, hok, by omega, ?_⟩⟩
      have b2 : Bd 3 (c % 2) := by
        show (c % 2).natAbs < 2 ^ 3
        omega
      exact ⟨bP.x.mono (by decide), ((bP.y.add (show Bd 3 1 by decide)).add b2).mono (by decide), bP.z.mono (by decide)⟩
    · omega
  clear hin x9 x10 x11 x12 x13 P' sm
  rintro G' ⟨sm, P', x9, x10, x11, x12, x13, rfl, hin⟩
  (show GSs _ _ (List.cons _ _) _)
  apply gss_join (fun G' => ∃ (sm : List Pr) (P' : P3) (x9 x10 x11 x12 x13 : Sl), G' = [.fz (.list (prs.map (En.en (α := Pr)))), .fz (.list (ws.map .int)), .fz (.int way), .fz (P3.en P'), .fz (.list (us.map P3.en)), .fz (.int c), .ow (sm.map (En.en (α := Pr))), .fz A.en, .fz (.tuple [.int sa, .int sb]), x9, x10, x11, x12, x13] ∧ ((sm = prs ∧ P' = P) ∨ (way ≤ 8 ∧ (∀ q ∈ sm, OkQ q) ∧ sm.length ≤ 9 ∧ P3.Bd 400 P'))) (t := decide (way = 8))
  case hc => walk_at "dw.e"
  case h2 =>
    intro _
    refine ⟨sm, P', x9, x10, x11, x12, x13, rfl, ?_⟩
    rcases hin with q | ⟨q1, q2⟩
    · exact .inl q
    · exact .inr ⟨by omega, q2⟩
  case h1 =>
    intro ht
    have hw_ : way = 8 := by simpa using ht
    rcases hin with ⟨rfl, rfl⟩ | ⟨q1, _⟩
    · (show GSs _ _ (List.cons _ _) _)
      apply gss_asgO C 6 l6 (ds := [((P', (1, 1)) : Pr)].map (En.en (α := Pr)))
      case hs => rfl
      case he =>
        refine go_lst (x1 := ()) (ga_cons (d := En.en (α := Pr) (P', (1, 1))) ?_ ga_nil rfl) (Nat.le_of_ble_eq_true rfl)
        show GE X _ _ (.tuple [P3.en P', .tuple [.int 1, .int 1]])
        exact ge_tup (ga_cons (by walk_at "dw.v") (ga_cons (ge_tup (ga_cons ge_int (ga_cons ge_int ga_nil rfl) rfl) (Nat.le_of_ble_eq_true rfl)) ga_nil rfl) rfl) (Nat.le_of_ble_eq_true rfl)
      walk_at "dw.nf"
      apply gss_nil
      exact ⟨[(P', (1, 1))], P', x9, x10, x11, x12, x13, rfl, .inr ⟨by omega, ok_one ⟨bP.mono (by decide), (show Bd 60 1 by decide), (show Bd 60 1 by decide), (show (0 : Int) < 1 by decide)⟩, by simp, bP4⟩⟩
    · omega
  clear hin x9 x10 x11 x12 x13 P' sm
  rintro G' ⟨sm, P', x9, x10, x11, x12, x13, rfl, hin⟩
  (show GSs _ _ (List.cons _ _) _)
  apply gss_join (fun G' => ∃ (sm : List Pr) (P' : P3) (x9 x10 x11 x12 x13 : Sl), G' = [.fz (.list (prs.map (En.en (α := Pr)))), .fz (.list (ws.map .int)), .fz (.int way), .fz (P3.en P'), .fz (.list (us.map P3.en)), .fz (.int c), .ow (sm.map (En.en (α := Pr))), .fz A.en, .fz (.tuple [.int sa, .int sb]), x9, x10, x11, x12, x13] ∧ ((sm = prs ∧ P' = P) ∨ (way ≤ 9 ∧ (∀ q ∈ sm, OkQ q) ∧ sm.length ≤ 9 ∧ P3.Bd 400 P'))) (t := decide (way = 9) && decide (((sm.map (En.en (α := Pr))).length : Int) > 1))
  case hc => exact GW.gt (gw_and (gt_cp C (GE.gh (d := .int way) (by walk_at "dw.v")) ge_int.gh (.eqI _ _) rfl) fun _ => gw_and1 (gt_cp C (GE.gh (ge_len C g_len B.len (GL.gh (gl_v C 6 v6 rfl)) .lst rfl)) ge_int.gh (.gt _ _) rfl))
  case h2 =>
    intro _
    refine ⟨sm, P', x9, x10, x11, x12, x13, rfl, ?_⟩
    rcases hin with q | ⟨q1, q2⟩
    · exact .inl q
    · exact .inr ⟨by omega, q2⟩
  case h1 =>
    intro ht
    have hw_ : way = 9 := by simpa using ((Bool.and_eq_true _ _).mp ht).1
    rcases hin with ⟨rfl, rfl⟩ | ⟨q1, _⟩
    · have hl1 : 1 < sm.length := by
        have := of_decide_eq_true ((Bool.and_eq_true _ _).mp ht).2
        rw [List.length_map] at this
        omega
      obtain ⟨q1, hq1⟩ : ∃ q1, sm[1]? = some q1 := ⟨sm[1], List.getElem?_eq_getElem hl1⟩
      have a1 : atI (sm.map (En.en (α := Pr))) 1 = some (En.en q1) := atI_map (atI_nat (j := 1) hq1)
      have bL := (hok q1 (List.mem_of_getElem? hq1)).1
      obtain ⟨L, ls⟩ := q1
      (show GSs _ _ (List.cons _ _) _)
      apply gss_asg C 11 l11 (d := L.en)
      case hs => rfl
      case he => exact ge_ix (d := L.en) (GV.s (d := .tuple [L.en, .tuple [.int ls.1, .int ls.2]]) (ge_ix (GV.l (gl_v C 6 v6 rfl)) (i := 1) ge_int (.own a1) (fun _ _ => rfl))) (i := 0) ge_int (.tup rfl) (fun _ _ => rfl)
      walk_at "dw.nf"
      have bM : P3.Bd 200 (midP A L) := ⟨((bA1.x.add (m := 175) (hprs _ (List.mem_of_getElem? hq1)).1.x).div (by decide)).mono (by decide), ((bA1.y.add (m := 175) (hprs _ (List.mem_of_getElem? hq1)).1.y).div (by decide)).mono (by decide), ((bA1.z.add (m := 175) (hprs _ (List.mem_of_getElem? hq1)).1.z).div (by decide)).mono (by decide)⟩
      (show GSs _ _ (List.cons _ _) _)
      apply gss_asg C 12 l12 (d := P3.en (midP A L))
      case hs => rfl
      case he =>
        refine GE.is (ge_tupleL C g_tuple B.tuple (GO.gl (go_lc1 C 13 (xs := [0, 1, 2]) (en := .int) (g := fun k => .int ((A.at k + L.at k) / 2)) (by decide +kernel) (by decide +kernel) (GI.w (gi_rngC (n := 3) C (by walk_at "dw.gl") B.range ge_int rfl (by omega) rfl)) (Nat.le_of_ble_eq_true rfl) ?_ (fun _ => rfl))) rfl) rfl
        intro X C k hk
        have k0 : 0 ≤ k ∧ k ≤ 2 := by
          simp only [List.mem_cons, List.not_mem_nil, or_false] at hk
          omega
        refine ge_div (ge_add (x := .int (A.at k)) (y := .int (L.at k)) ?_ ?_ (.int _ _)) ge_int (Bd.dv (by decide) (show Bd 3 2 by decide) (by decide))
        · exact ge_ix (GV.s (d := .tuple [.int A.x, .int A.y, .int A.z]) (by walk_at "dw.v")) (i := k) (by walk_at "dw.v") (.tup (ln_at k0.1 k0.2)) (fun _ _ => rfl)
        · exact ge_ix (GV.s (d := .tuple [.int L.x, .int L.y, .int L.z]) (by walk_at "dw.v")) (i := k) (by walk_at "dw.v") (.tup (ln_at k0.1 k0.2)) (fun _ _ => rfl)
      walk_at "dw.nf"
      have hq9 : OkQ (midP A L, lowA (2 * sa) sb) := okq_low bM (t9.mono (by decide)) (bsb.mono (by decide)) hsb
      (show GSs _ _ (List.cons _ _) _)
      apply gss_asgO C 6 l6 (ds := ([(midP A L, lowA (2 * sa) sb)] ++ sm.drop 2).map (En.en (α := Pr)))
      case hs => rfl
      case he =>
        rw [List.map_append, ← cut_off (f := En.en (α := Pr)) (n := 2) (by omega)]
        have k1 : (cutD (sm.map (En.en (α := Pr))) (some ((2 : Nat) : Int)) none).length ≤ 10 := by
          rw [cut_off (by omega), List.length_map, List.length_drop]
          omega
        generalize hy : cutD (sm.map (En.en (α := Pr))) (some ((2 : Nat) : Int)) none = ys at k1
        refine go_add (xs := [(midP A L, lowA (2 * sa) sb)].map (En.en (α := Pr))) (ys := ys) (GO.gl (go_lst (x1 := ()) (ga_cons ?_ ga_nil rfl) (Nat.le_of_ble_eq_true rfl))) (GO.gl ?_) ?_
        · refine ge_tup (ga_cons (d := P3.en (midP A L)) (by walk_at "dw.v") (ga_cons (d := .tuple [.int (lowA (2 * sa) sb).1, .int (lowA (2 * sa) sb).2]) ?_ ga_nil rfl) rfl) (Nat.le_of_ble_eq_true rfl)
          refine ge_call C h_L_low (Nat.le_refl _) g_L_low (ga_cons (d := .int (2 * sa)) ?_ (ga_cons (d := .int sb) ?_ ga_nil rfl) rfl) (fun R_ h_ => ⟨2 * sa, sb, rfl, hsb, (by exact Bd.mono t9 (by decide)), (by exact Bd.mono bsb (by decide)), h_⟩) rfl rfl
          · exact ge_mul ge_int (ge_ix (d := .int sa) (GV.s (d := .tuple [.int sa, .int sb]) (by walk_at "dw.v")) (i := 0) ge_int (.tup rfl) (fun _ _ => rfl)) m2a
          · exact ge_ix (d := .int sb) (GV.s (d := .tuple [.int sa, .int sb]) (by walk_at "dw.v")) (i := 1) ge_int (.tup rfl) (fun _ _ => rfl)
        · rw [← hy]
          exact go_slL (gl_v C 6 v6 rfl) (gp_yes ge_int) gp_no
        · rw [List.length_map]
          exact Nat.le_trans (Nat.add_le_add_left k1 _) (Nat.le_of_ble_eq_true rfl)
      walk_at "dw.nf"
      apply gss_nil
      refine ⟨[(midP A L, lowA (2 * sa) sb)] ++ sm.drop 2, P', x9, x10, _, _, x13, rfl, .inr ⟨by omega, ok_app (ok_one hq9) (fun q hq => hok q (List.mem_of_mem_drop hq)), ?_, bP4⟩⟩
      rw [List.length_append, List.length_drop, List.length_singleton]
      omega
    · omega
  clear hin x9 x10 x11 x12 x13 P' sm
  rintro G' ⟨sm, P', x9, x10, x11, x12, x13, rfl, hin⟩
  (show GSs _ _ (List.cons _ _) _)
  apply gss_join (fun G' => ∃ (sm : List Pr) (P' : P3) (x9 x10 x11 x12 x13 : Sl), G' = [.fz (.list (prs.map (En.en (α := Pr)))), .fz (.list (ws.map .int)), .fz (.int way), .fz (P3.en P'), .fz (.list (us.map P3.en)), .fz (.int c), .ow (sm.map (En.en (α := Pr))), .fz A.en, .fz (.tuple [.int sa, .int sb]), x9, x10, x11, x12, x13] ∧ ((sm = prs ∧ P' = P) ∨ (way ≤ 10 ∧ (∀ q ∈ sm, OkQ q) ∧ sm.length ≤ 9 ∧ P3.Bd 400 P'))) (t := decide (way = 10))
  case hc => walk_at "dw.e"
  case h2 =>
    intro _
    refine ⟨sm, P', x9, x10, x11, x12, x13, rfl, ?_⟩
    rcases hin with q | ⟨q1, q2⟩
    · exact .inl q
    · exact .inr ⟨by omega, q2⟩
  case h1 =>
    intro ht
    have hw_ : way = 10 := by simpa using ht
    rcases hin with ⟨rfl, rfl⟩ | ⟨q1, _⟩
    · (show GSs _ _ (List.cons _ _) _)
      apply gss_asgO C 6 l6 (ds := ([] : List Pr).map (En.en (α := Pr)))
      case hs => rfl
      case he => exact go_lst (x1 := ()) ga_nil (by decide)
      walk_at "dw.nf"
      apply gss_nil
      exact ⟨[], P', x9, x10, x11, x12, x13, rfl, .inr ⟨by omega, fun q hq => (by cases hq), by simp, bP4⟩⟩
    · omega
  clear hin x9 x10 x11 x12 x13 P' sm
  rintro G' ⟨sm, P', x9, x10, x11, x12, x13, rfl, hin⟩
  refine gs_settle 6 rfl ?_
  walk_at "dw.nf"
  apply gss_retO (ds := [.list (sm.map (En.en (α := Pr))), P3.en P'])
  · exact go_lst (x1 := ()) (ga_cons (by walk_at "dw.v") (ga_cons (by walk_at "dw.v") ga_nil rfl) rfl) (Nat.le_of_ble_eq_true rfl)
  · rcases hin with ⟨rfl, rfl⟩ | ⟨_, h1, h2, h3⟩
    · exact hR _ _ ⟨hok, by omega⟩ bP4
    · exact hR _ _ ⟨h1, h2⟩ h3

theorem has_L_changed {W : Wd} {k : Nat} (B : Bn W) (F : FunAt W "_law_changed" s_L_changed) (h_L_low : Has W k "_law_low" c_L_low) (h_L_put : Has W k "_law_put" c_L_put) : Has W (k + 1) "_law_changed" c_L_changed :=
  has_mk F sc_L_changed ln_L_changed (fun _ _ _ _ _ _ us hl => match us, hl with | [_, _, _, _, _, _], _ => rfl) fun X C ds R h => bd_L_changed B (h_L_low := h_L_low) (h_L_put := h_L_put) X C ds R h
/-! ### _law_due -/
abbrev s_L_due : Stmt := topS 35
abbrev n_L_due : List Str := ["land", "P", "pairs", "points", "pair", "Q", "share", "bottom", "tops", "spot", "j", "k", "number"]
theorem sc_L_due : FnScope n_L_due ["land", "P", "pairs"] (defScope s_L_due) := ⟨rfl, rfl, rfl, by decide +kernel, rfl, by decide +kernel, by decide +kernel⟩
theorem v0_L_due : okV n_L_due (defScope s_L_due) 0 "land" = true := by decide +kernel
theorem v1_L_due : okV n_L_due (defScope s_L_due) 1 "P" = true := by decide +kernel
theorem v2_L_due : okV n_L_due (defScope s_L_due) 2 "pairs" = true := by decide +kernel
theorem v3_L_due : okV n_L_due (defScope s_L_due) 3 "points" = true := by decide +kernel
theorem l3_L_due : okL n_L_due (defScope s_L_due) 3 "points" = true := by decide +kernel
theorem v5_L_due : okV n_L_due (defScope s_L_due) 5 "Q" = true := by decide +kernel
theorem l5_L_due : okL n_L_due (defScope s_L_due) 5 "Q" = true := by decide +kernel
theorem v6_L_due : okV n_L_due (defScope s_L_due) 6 "share" = true := by decide +kernel
theorem l6_L_due : okL n_L_due (defScope s_L_due) 6 "share" = true := by decide +kernel
theorem v7_L_due : okV n_L_due (defScope s_L_due) 7 "bottom" = true := by decide +kernel
theorem l7_L_due : okL n_L_due (defScope s_L_due) 7 "bottom" = true := by decide +kernel
theorem v8_L_due : okV n_L_due (defScope s_L_due) 8 "tops" = true := by decide +kernel
theorem l8_L_due : okL n_L_due (defScope s_L_due) 8 "tops" = true := by decide +kernel
theorem v9_L_due : okV n_L_due (defScope s_L_due) 9 "spot" = true := by decide +kernel
theorem l9_L_due : okL n_L_due (defScope s_L_due) 9 "spot" = true := by decide +kernel
theorem g_sum_L_due : glB (defScope s_L_due) "sum" = true := by decide +kernel
theorem g_len_L_due : glB (defScope s_L_due) "len" = true := by decide +kernel
theorem g_range_L_due : glB (defScope s_L_due) "range" = true := by decide +kernel
theorem g_set_L_due : glB (defScope s_L_due) "set" = true := by decide +kernel
def c_L_due : Ct := fun ds R => ∃ (ls : List P3) (P : P3) (prs : List Pr), ds = [.list (ls.map P3.en), P.en, .list (prs.map (En.en (α := Pr)))] ∧ (OkPr prs) ∧ (P3.Bd 400 P) ∧ (ls.length ≤ 60) ∧ R (.fz (.bool (showA ls P prs)))
theorem ln_L_due : ∀ ds R, c_L_due ds R → ds.length = 3 := by
  rintro ds R ⟨ls, P, prs, rfl, _⟩
  rfl
theorem bd_L_due {W : Wd} {k : Nat} (B : Bn W)  (X : Cx) (C : Cok X W n_L_due (defScope s_L_due) k) (ds : List D) (R : Rs → Prop) (h : c_L_due ds R) :
    GSs X (startG n_L_due ds) (defBody s_L_due) { nx := fun _ => R (.fz .none), rt := R } := by
  obtain ⟨ls, P, prs, rfl, hO, hP, hlen, hR⟩ := h
  have v0 := v0_L_due
  have v1 := v1_L_due
  have v2 := v2_L_due
  have v3 := v3_L_due
  have l3 := l3_L_due
  have v5 := v5_L_due
  have l5 := l5_L_due
  have v6 := v6_L_due
  have l6 := l6_L_due
  have v7 := v7_L_due
  have l7 := l7_L_due
  have v8 := v8_L_due
  have l8 := l8_L_due
  have v9 := v9_L_due
  have l9 := l9_L_due
  have g_sum := g_sum_L_due
  have g_len := g_len_L_due
  have g_range := g_range_L_due
  have g_set := g_set_L_due
  (show GSs X [.fz _, .fz _, .fz _, .no, .no, .no, .no, .no, .no, .no, .no, .no, .no] (List.cons _ _) _)
  have hl9 := hO.len
  have hbot := hO.bot
  unfold showA at hR
  (show GSs _ _ (List.cons _ _) _)
  apply gss_asgOc C 3 l3 (ds := (prs.map (·.1)).map P3.en)
  case hc => decide +kernel
  case he =>
    refine GO.is (go_lc1 C 4 (xs := prs) (en := En.en (α := Pr)) (g := fun q => P3.en q.1) (by decide +kernel) (by decide +kernel) (GI.w (gi_list (by walk_at "dw.v"))) (by omega) ?_ (fun _ => rfl)) (by rw [List.map_map]; rfl)
    intro X C q hq
    exact ge_ix (d := P3.en q.1) (GV.s (d := .tuple [P3.en q.1, .tuple [.int q.2.1, .int q.2.2]]) (by walk_at "dw.v")) (i := 0) ge_int (.tup rfl) (fun _ _ => rfl)
  refine gs_settle 3 rfl ?_
  walk_at "dw.nf"
  have hcl : (prs.map (·.1)).length ≤ 9 := by
    rw [List.length_map]
    exact hl9
  have h62 : (ddp (prs.map (·.1))).length ≤ 62 := Nat.le_trans (ddp_le _) (by omega)
  apply gss_when (t := decide ((ddp (prs.map (·.1))).length < prs.length) || !decide ((prs.map (·.1)).filter (fun c => !decide (c ∈ ls)) = []))
  · refine GW.gt (gw_or (GT.is (gt_cp C (GE.gh (ge_lenSet C g_len B.len g_set B.set (us := prs.map (·.1)) (GE.gl (by walk_at "dw.v")) h62 rfl)) (GE.gh (ge_len C g_len B.len (GE.gh (d := .list ((prs.map (·.1)).map P3.en)) (by walk_at "dw.v")) (len_map _ _) rfl)) (CmpD.lt _ _) rfl) (by rw [List.length_map, decide_eq_decide]; omega)) fun _ => gw_or1 ?_)
    refine gt_cp C (GL.gh (GO.gl (ds := ((prs.map (·.1)).filter (fun c => !decide (c ∈ ls))).map P3.en) ?_)) (GL.gh (GO.gl (go_lst (x1 := ()) ga_nil (by decide)))) (cmp_neN3 _) rfl
    apply go_lc1f C 5 (xs := prs.map (·.1)) (en := P3.en) (bt := fun c => !decide (c ∈ ls)) (g := P3.en)
    case ok => decide +kernel
    case okl => decide +kernel
    case hz => omega
    case hs =>
      intro _
      rfl
    case hi =>
      refine GI.w (gi_list ?_)
      walk_at "dw.v"
    case ht =>
      intro X C a ha
      exact gt_cp C (GE.gh (d := a.en) (by walk_at "dw.v")) (GE.gh (d := .list (ls.map P3.en)) (by walk_at "dw.v")) (cmp_nin3 _ _) rfl
    case he =>
      intro X C a ha _
      walk_at "dw.v"
  · intro ht
    rw [if_pos ht] at hR
    exact gss_ret ge_bl hR
  intro ht
  rw [if_neg (by rw [ht]; decide)] at hR
  clear ht h62
  have hbd := hO.bd
  have hfa : (prs.filter fun q => decide (q.2.1 < 1)) = [] ↔ (prs.any fun q => decide (q.2.1 ≤ 0)) = false := by
    rw [List.filter_eq_nil_iff, List.any_eq_false]
    constructor
    · intro h q hq
      have := h q hq
      rw [decide_eq_true_eq] at this ⊢
      omega
    · intro h q hq
      have := h q hq
      rw [decide_eq_true_eq] at this ⊢
      omega
  apply gss_when (t := !decide ((prs.filter fun q => decide (q.2.1 < 1)) = []))
  · refine gt_cp C (GL.gh (GO.gl (ds := ((prs.filter fun q => decide (q.2.1 < 1)).map fun q => q.2).map (En.en (α := Int × Int))) ?_)) (GL.gh (GO.gl (go_lst (x1 := ()) ga_nil (by decide)))) (CmpD_is (cmp_neN (α := Int × Int) (by decide) _) (by rw [List.map_eq_nil_iff])) rfl
    refine GO.is (go_lcTf C 5 6 (xs := prs) (e1 := fun q => P3.en q.1) (e2 := fun q => .tuple [.int q.2.1, .int q.2.2]) (bt := fun q => decide (q.2.1 < 1)) (g := fun q => .tuple [.int q.2.1, .int q.2.2]) (by decide +kernel) (by decide +kernel) (by decide +kernel) (GI.w (gi_list (items := prs.map (En.en (α := Pr))) (by walk_at "dw.v"))) (by omega) ?_ ?_ (fun _ => rfl)) (by rw [List.map_map]; rfl)
    · intro X C q hq
      exact gt_cp C (GE.gh (d := .int q.2.1) (ge_ix (GV.s (d := .tuple [.int q.2.1, .int q.2.2]) (by walk_at "dw.v")) (i := 0) ge_int (.tup rfl) (fun _ _ => rfl))) ge_int.gh (.lt _ _) rfl
    · intro X C q hq _
      walk_at "dw.v"
  · intro ht
    have : (prs.any fun q => decide (q.2.1 ≤ 0)) = true := by
      cases h : (prs.any fun q => decide (q.2.1 ≤ 0)) with
      | true => rfl
      | false =>
        rw [decide_eq_true (hfa.mpr h)] at ht
        cases ht
    rw [if_pos this] at hR
    exact gss_ret ge_bl hR
  intro ht
  have hany : (prs.any fun q => decide (q.2.1 ≤ 0)) = false := hfa.mp (by simpa using ht)
  rw [if_neg (by rw [hany]; decide)] at hR
  clear ht hfa
  (show GSs _ _ (List.cons _ _) _)
  walk_at "dw.asg"
  (show GSs _ _ (List.cons _ _) _)
  apply gss_for C (fun i G' => ∃ (x5 x6 : Sl), G' = [.fz (.list (ls.map P3.en)), .fz P.en, .fz (.list (prs.map (En.en (α := Pr)))), .fz (.list ((prs.map (·.1)).map P3.en)), .no, x5, x6, .fz (.int (botP (prs.take i))), .no, .no, .no, .no, .no]) (items := prs.map (En.en (α := Pr)))
  case hi =>
    refine gi_list ?_
    walk_at "dw.v"
  case h0 => exact ⟨_, _, rfl⟩
  case hf =>
    intro x
    rfl
  case hs =>
    rintro i d G' hd ⟨x5, x6, rfl⟩
    obtain ⟨q, hq, rfl⟩ := map_at hd
    obtain ⟨_, _, hq3, _⟩ := hO.bd q (List.mem_of_getElem? hq)
    refine ⟨_, List.range 40, (by show GG X _ _ (.tuple [P3.en q.1, .tuple [.int q.2.1, .int q.2.2]]) _ _; walk_at "dw.gg"), ?_⟩
    walk_at "dw.nf"
    have hbs : botP (prs.take (i + 1)) = botP (prs.take i) * q.2.2 := by
      rw [take_snoc hq, bot_snoc]
    have hbt := hO.take i
    rw [hbs]
    generalize botP (prs.take i) = b at *
    have q1 : IntMulOk b q.2.2 := Bd.ok hbt hq3 (by decide)
    (show GSs _ _ (List.cons _ _) _)
    apply gss_asg C 7 l7 (d := .int (b * q.2.2))
    case hs => rfl
    case he => exact ge_mul (ge_v C 7 v7 rfl) (ge_ix (GV.s (ge_v C 6 v6 rfl)) (i := 1) ge_int (.tup rfl) (fun _ _ => rfl)) q1
    walk_at "dw.nf"
    apply gss_nil
    exact ⟨_, _, rfl⟩
  case hd =>
    rintro G' ⟨x5, x6, rfl⟩
    rw [List.length_map, List.take_length]
    have htop : ∀ q ∈ prs, Bd 610 (q.2.1 * (botP prs / q.2.2)) := fun q hq => by
      obtain ⟨_, h2, _, h4⟩ := hbd q hq
      exact (h2.mul (hbot.div h4)).mono (by decide)
    have eT : topsP prs = prs.map fun q => q.2.1 * (botP prs / q.2.2) := rfl
    have eD : ∀ k, dotP prs k = (prs.map fun q => q.2.1 * (botP prs / q.2.2) * q.1.at k).sum := fun k => rfl
    generalize botP prs = b at *
    (show GSs _ _ (List.cons _ _) _)
    apply gss_asgOc C 8 l8 (ds := prs.map fun q => .int (q.2.1 * (b / q.2.2)))
    case hc => decide +kernel
    case he =>
      refine go_lcT C 5 6 (xs := prs) (e1 := fun q => P3.en q.1) (e2 := fun q => .tuple [.int q.2.1, .int q.2.2]) (g := fun q => .int (q.2.1 * (b / q.2.2))) (by decide +kernel) (by decide +kernel) (by decide +kernel) (GI.w (gi_list (items := prs.map (En.en (α := Pr))) (by walk_at "dw.v"))) (by omega) ?_ (fun _ => rfl)
      intro X C q hq
      obtain ⟨_, h2, h3, h4⟩ := hbd q hq
      have q1 : IntMulOk q.2.1 (b / q.2.2) := Bd.ok h2 (hbot.div h4) (by decide)
      have q2 : CDivW b q.2.2 := Bd.dv h4 h3 (by decide)
      refine ge_mul (i := q.2.1) ?_ (ge_div (by walk_at "dw.v") ?_ q2) q1
      · exact ge_ix (GV.s (d := .tuple [.int q.2.1, .int q.2.2]) (by walk_at "dw.v")) (i := 0) ge_int (.tup rfl) (fun _ _ => rfl)
      · exact ge_ix (GV.s (d := .tuple [.int q.2.1, .int q.2.2]) (by walk_at "dw.v")) (i := 1) ge_int (.tup rfl) (fun _ _ => rfl)
    refine gs_settle 8 rfl ?_
    walk_at "dw.nf"
    (show GSs _ _ (List.cons _ _) _)
    apply gss_lc1 C 9 11 (xs := [0, 1, 2]) (en := .int) (g := fun k => .int (dotP prs k))
    case hz => exact Nat.le_of_ble_eq_true rfl
    case hi => exact GI.w (gi_rngC (n := 3) C (by walk_at "dw.gl") B.range ge_int rfl (by omega) rfl)
    case he =>
      intro X C k' hk
      have k0 : 0 ≤ k' ∧ k' ≤ 2 := by
        simp only [List.mem_cons, List.not_mem_nil, or_false] at hk
        omega
      rw [eD]
      have hsum : (prs.map fun q => q.2.1 * (b / q.2.2) * q.1.at k').sum = ((rngL 0 prs.length).map fun j => (prs.getD j.toNat (P3.O, (0, 0))).2.1 * (b / (prs.getD j.toNat (P3.O, (0, 0))).2.2) * (prs.getD j.toNat (P3.O, (0, 0))).1.at k').sum := by
        congr 1
        refine List.ext_getElem? fun i => ?_
        rw [List.getElem?_map, List.getElem?_map]
        by_cases hi : i < prs.length
        · rw [rngL_get hi, List.getElem?_eq_getElem hi]
          simp only [Option.map_some]
          rw [show (0 + (i : Int)).toNat = i by omega, List.getD_eq_getElem?_getD, List.getElem?_eq_getElem hi]
          rfl
        · rw [List.getElem?_eq_none (by omega), List.getElem?_eq_none (by rw [rngL_len]; omega)]
          rfl
      rw [hsum]
      refine ge_sumC C (by walk_at "dw.gl") B.sum (us := rngL 0 prs.length) (f := fun j => (prs.getD j.toNat (P3.O, (0, 0))).2.1 * (b / (prs.getD j.toNat (P3.O, (0, 0))).2.2) * (prs.getD j.toNat (P3.O, (0, 0))).1.at k') ?_ rfl
      refine go_lc1 C 10 (xs := rngL 0 prs.length) (en := .int) (by decide +kernel) (by decide +kernel) (GI.w (gi_rngC C (by walk_at "dw.gl") B.range (GE.is (ge_len C (by walk_at "dw.gl") B.len (GE.gh (d := .list ((prs.map (·.1)).map P3.en)) (by walk_at "dw.v")) (len_map _ _) rfl) (by rw [List.length_map])) rfl (by omega) rfl)) (by rw [rngL_len]; omega) ?_ (fun _ => rfl)
      intro X C j hj
      have hj' := rngL_mem hj
      obtain ⟨i, rfl⟩ : ∃ i : Nat, j = (i : Int) := ⟨j.toNat, by omega⟩
      rw [Int.toNat_natCast]
      have hi : i < prs.length := by omega
      have hq := get_getD (d := ((P3.O, (0, 0)) : Pr)) hi
      generalize prs.getD i (P3.O, (0, 0)) = q at hq
      obtain ⟨h1, _, _, _⟩ := hbd q (List.mem_of_getElem? hq)
      have q2 : IntMulOk (q.2.1 * (b / q.2.2)) (q.1.at k') := Bd.ok (htop q (List.mem_of_getElem? hq)) (at_bd h1 _) (by decide)
      have t1 : atI (prs.map fun q => PyData.int (q.2.1 * (b / q.2.2))) (i : Int) = some (.int (q.2.1 * (b / q.2.2))) := atI_map (f := fun q : Pr => PyData.int (q.2.1 * (b / q.2.2))) (atI_nat hq)
      have t2 : atI ((prs.map (·.1)).map P3.en) (i : Int) = some (P3.en q.1) := atI_map (atI_nat (by rw [List.getElem?_map, hq]; rfl))
      refine ge_mul (i := q.2.1 * (b / q.2.2)) ?_ ?_ q2
      · exact ge_ix (GV.s (by walk_at "dw.v")) (i := (i : Int)) (by walk_at "dw.v") (.lst t1) (fun _ _ => rfl)
      · exact ge_ix (GV.s (d := .tuple [.int q.1.x, .int q.1.y, .int q.1.z]) (ge_ix (GV.s (d := .list ((prs.map (·.1)).map P3.en)) (by walk_at "dw.v")) (i := (i : Int)) (by walk_at "dw.v") (.lst t2) (fun _ _ => rfl))) (i := k') (by walk_at "dw.v") (.tup (ln_at k0.1 k0.2)) (fun _ _ => rfl)
    walk_at "dw.lcs0"
    refine gs_settle 9 rfl ?_
    walk_at "dw.nf"
    have m0 : ∀ z, z = P.x ∨ z = P.y ∨ z = P.z → IntMulOk b z := fun z h => by
      rcases h with rfl | rfl | rfl
      · exact Bd.ok hbot hP.x (by decide)
      · exact Bd.ok hbot hP.y (by decide)
      · exact Bd.ok hbot hP.z (by decide)
    apply gss_ret (d := .bool (decide ((topsP prs).sum = b) && decide ([dotP prs 0, dotP prs 1, dotP prs 2] = [b * P.x, b * P.y, b * P.z])))
    · refine ge_and ?_ fun _ => ge_one ?_
      · refine ge_cp C (GE.gh (d := .int (topsP prs).sum) (ge_sum C g_sum B.sum (GE.gh (GE.is (d := .list (prs.map fun q => .int (q.2.1 * (b / q.2.2)))) (by walk_at "dw.v") ?_)) rfl)) (GE.gh (d := .int b) (by walk_at "dw.v")) (.eqI _ _) rfl
        rw [eT, List.map_map]
        rfl
      · refine ge_cp C (GE.gh (d := .list ([dotP prs 0, dotP prs 1, dotP prs 2].map .int)) (by walk_at "dw.v")) (GL.gh (GO.gl (ds := [b * P.x, b * P.y, b * P.z].map .int) (go_lc1 C 12 (xs := [P.x, P.y, P.z]) (en := .int) (g := fun z => .int (b * z)) (by decide +kernel) (by decide +kernel) (GI.w (gi_tup (items := [P.x, P.y, P.z].map .int) (by walk_at "dw.v"))) (Nat.le_of_ble_eq_true rfl) ?_ (fun _ => rfl)))) (cmp_eqG (α := List Int) (by decide) _ _) rfl
        intro X C z hz
        have q1 : IntMulOk b z := m0 z (by simpa using hz)
        exact ge_mul (by walk_at "dw.v") (by walk_at "dw.v") q1
    · rw [spot_eq]
      exact hR

theorem has_L_due {W : Wd} {k : Nat} (B : Bn W) (F : FunAt W "_law_due" s_L_due) : Has W (k + 1) "_law_due" c_L_due :=
  has_mk F sc_L_due ln_L_due (fun _ _ _ _ _ _ us hl => match us, hl with | [_, _, _], _ => rfl) fun X C ds R h => bd_L_due B X C ds R h
/-! ### law -/
abbrev s_law : Stmt := topS 36
abbrev n_law : List Str := ["script", "near", "spot", "plain", "cell", "way", "chosen", "weights", "times", "land", "x", "y", "z", "pairs", "P", "k", "some", "handed", "found"]
theorem sc_law : FnScope n_law ["script"] (defScope s_law) := ⟨rfl, rfl, rfl, by decide +kernel, rfl, by decide +kernel, by decide +kernel⟩
theorem v0_law : okV n_law (defScope s_law) 0 "script" = true := by decide +kernel
theorem v1_law : okV n_law (defScope s_law) 1 "near" = true := by decide +kernel
theorem l1_law : okL n_law (defScope s_law) 1 "near" = true := by decide +kernel
theorem v2_law : okV n_law (defScope s_law) 2 "spot" = true := by decide +kernel
theorem l2_law : okL n_law (defScope s_law) 2 "spot" = true := by decide +kernel
theorem v3_law : okV n_law (defScope s_law) 3 "plain" = true := by decide +kernel
theorem l3_law : okL n_law (defScope s_law) 3 "plain" = true := by decide +kernel
theorem v4_law : okV n_law (defScope s_law) 4 "cell" = true := by decide +kernel
theorem l4_law : okL n_law (defScope s_law) 4 "cell" = true := by decide +kernel
theorem v5_law : okV n_law (defScope s_law) 5 "way" = true := by decide +kernel
theorem l5_law : okL n_law (defScope s_law) 5 "way" = true := by decide +kernel
theorem v6_law : okV n_law (defScope s_law) 6 "chosen" = true := by decide +kernel
theorem l6_law : okL n_law (defScope s_law) 6 "chosen" = true := by decide +kernel
theorem v7_law : okV n_law (defScope s_law) 7 "weights" = true := by decide +kernel
theorem l7_law : okL n_law (defScope s_law) 7 "weights" = true := by decide +kernel
theorem v8_law : okV n_law (defScope s_law) 8 "times" = true := by decide +kernel
theorem l8_law : okL n_law (defScope s_law) 8 "times" = true := by decide +kernel
theorem v9_law : okV n_law (defScope s_law) 9 "land" = true := by decide +kernel
theorem l9_law : okL n_law (defScope s_law) 9 "land" = true := by decide +kernel
theorem v13_law : okV n_law (defScope s_law) 13 "pairs" = true := by decide +kernel
theorem l13_law : okL n_law (defScope s_law) 13 "pairs" = true := by decide +kernel
theorem v14_law : okV n_law (defScope s_law) 14 "P" = true := by decide +kernel
theorem l14_law : okL n_law (defScope s_law) 14 "P" = true := by decide +kernel
theorem v15_law : okV n_law (defScope s_law) 15 "k" = true := by decide +kernel
theorem l15_law : okL n_law (defScope s_law) 15 "k" = true := by decide +kernel
theorem v16_law : okV n_law (defScope s_law) 16 "some" = true := by decide +kernel
theorem l16_law : okL n_law (defScope s_law) 16 "some" = true := by decide +kernel
theorem v17_law : okV n_law (defScope s_law) 17 "handed" = true := by decide +kernel
theorem l17_law : okL n_law (defScope s_law) 17 "handed" = true := by decide +kernel
theorem v18_law : okV n_law (defScope s_law) 18 "found" = true := by decide +kernel
theorem l18_law : okL n_law (defScope s_law) 18 "found" = true := by decide +kernel
theorem g_body_of_law : glB (defScope s_law) "body_of" = true := by decide +kernel
theorem g_L_chosen_law : glB (defScope s_law) "_law_chosen" = true := by decide +kernel
theorem g_L_weights_law : glB (defScope s_law) "_law_weights" = true := by decide +kernel
theorem g_range_law : glB (defScope s_law) "range" = true := by decide +kernel
theorem g_L_changed_law : glB (defScope s_law) "_law_changed" = true := by decide +kernel
theorem g_shares_show_law : glB (defScope s_law) "shares_show" = true := by decide +kernel
theorem g_L_near_law : glB (defScope s_law) "_law_near" = true := by decide +kernel
theorem g_len_law : glB (defScope s_law) "len" = true := by decide +kernel
theorem g_sum_law : glB (defScope s_law) "sum" = true := by decide +kernel
theorem g_L_put_law : glB (defScope s_law) "_law_put" = true := by decide +kernel
theorem g_list_law : glB (defScope s_law) "list" = true := by decide +kernel
theorem g_isinstance_law : glB (defScope s_law) "isinstance" = true := by decide +kernel
theorem g_bool_law : glB (defScope s_law) "bool" = true := by decide +kernel
theorem g_L_due_law : glB (defScope s_law) "_law_due" = true := by decide +kernel
theorem g_L_low_law : glB (defScope s_law) "_law_low" = true := by decide +kernel
theorem bd_law {W : Wd} {k : Nat} (B : Bn W) (h_body_of : Has W k "body_of" c_body_of) (h_L_slanted : Has W k "_law_slanted" c_L_slanted) (h_L_chosen : Has W k "_law_chosen" c_L_chosen) (h_L_weights : Has W k "_law_weights" c_L_weights) (h_L_changed : Has W k "_law_changed" c_L_changed) (h_shares_show : Has W k "shares_show" c_shares_show) (h_L_near : Has W k "_law_near" c_L_near) (h_L_put : Has W k "_law_put" c_L_put) (h_L_due : Has W k "_law_due" c_L_due) (h_L_low : Has W k "_law_low" c_L_low) (X : Cx) (C : Cok X W n_law (defScope s_law) k) (ds : List D) (R : Rs → Prop) (h : c_script ds R) :
    GSs X (startG n_law ds) (defBody s_law) { nx := fun _ => R (.fz .none), rt := R } := by
  obtain ⟨ns, rfl, hl, hb, hR⟩ := h
  have v0 := v0_law
  have v1 := v1_law
  have l1 := l1_law
  have v2 := v2_law
  have l2 := l2_law
  have v3 := v3_law
  have l3 := l3_law
  have v4 := v4_law
  have l4 := l4_law
  have v5 := v5_law
  have l5 := l5_law
  have v6 := v6_law
  have l6 := l6_law
  have v7 := v7_law
  have l7 := l7_law
  have v8 := v8_law
  have l8 := l8_law
  have v9 := v9_law
  have l9 := l9_law
  have v13 := v13_law
  have l13 := l13_law
  have v14 := v14_law
  have l14 := l14_law
  have v15 := v15_law
  have l15 := l15_law
  have v16 := v16_law
  have l16 := l16_law
  have v17 := v17_law
  have l17 := l17_law
  have v18 := v18_law
  have l18 := l18_law
  have g_body_of := g_body_of_law
  have g_L_chosen := g_L_chosen_law
  have g_L_weights := g_L_weights_law
  have g_range := g_range_law
  have g_L_changed := g_L_changed_law
  have g_shares_show := g_shares_show_law
  have g_L_near := g_L_near_law
  have g_len := g_len_law
  have g_sum := g_sum_law
  have g_L_put := g_L_put_law
  have g_list := g_list_law
  have g_isinstance := g_isinstance_law
  have g_bool := g_bool_law
  have g_L_due := g_L_due_law
  have g_L_low := g_L_low_law
  (show GSs X [.fz _, .no, .no, .no, .no, .no, .no, .no, .no, .no, .no, .no, .no, .no, .no, .no, .no, .no, .no] (List.cons _ _) _)
  have hnb := nearN_bd ns
  have hnl := nearN_len ns
  have hnd := slant33_dim (nearN_dim ns) (cellZ ns 1)
  have hmb : ∀ u ∈ (nearN ns).map (slant33 (cellZ ns 1)), P3.Bd 120 u := fun u hu => by
    obtain ⟨v, hv, rfl⟩ := List.mem_map.mp hu
    exact slant33_bd (hnb v hv)
  have hml : ((nearN ns).map (slant33 (cellZ ns 1))).length ≤ 11 := by
    rw [List.length_map]
    exact hnl
  have hm2 : ∀ u ∈ (nearN ns).map (slant33 (cellZ ns 1)), P3.Bd 2000 u := fun u hu => (hmb u hu).mono (by decide)
  have hm4 : ((nearN ns).map (slant33 (cellZ ns 1))).length ≤ 4000 := by omega
  have hm6 : (ddp ((nearN ns).map (slant33 (cellZ ns 1)))).length ≤ 62 := Nat.le_trans (ddp_le _) (by omega)
  have hbL : ∀ u ∈ bodyA ((nearN ns).map (slant33 (cellZ ns 1))), P3.Bd 120 u := fun u hu => hmb u ((mem_body hnd).mp hu).mem
  have hlL : (bodyA ((nearN ns).map (slant33 (cellZ ns 1)))).length ≤ 11 := Nat.le_trans (body_len hnd) hml
  have hneL := body_ne hnd
  (show GSs _ _ (List.cons _ _) _)
  apply gss_lc1 C 1 2 (xs := nearN ns) (en := P3.en) (g := fun u => P3.en (slant33 (cellZ ns 1) u))
  case hz => omega
  case hi =>
    refine GI.w (gi_list (GO.ge ?_))
    exact go_call C h_L_near (Nat.le_refl _) g_L_near (ga_cons (d := .list (ns.map .int)) (by walk_at "dw.v") ga_nil rfl) (fun R_ h_ => ⟨ns, rfl, hl, hb, h_⟩) rfl rfl
  case he =>
    intro X C a ha
    have ba := hnb a ha
    exact ge_call C h_L_slanted (Nat.le_refl _) (by walk_at "dw.gl") (ga_cons (d := a.en) (by walk_at "dw.v") (ga_cons (d := .list (ns.map .int)) (by walk_at "dw.v") ga_nil rfl) rfl) (fun R_ h_ => ⟨ns, a, rfl, hb, ba, h_⟩) rfl rfl
  walk_at "dw.lcs0"
  rw [show (nearN ns).map (fun u => P3.en (slant33 (cellZ ns 1) u)) = ((nearN ns).map (slant33 (cellZ ns 1))).map P3.en from by rw [List.map_map]; rfl]
  refine gs_settle 1 rfl ?_
  walk_at "dw.nf"
  (show GSs _ _ (List.cons _ _) _)
  apply gss_asg C 3 l3 (d := .list ((bodyA ((nearN ns).map (slant33 (cellZ ns 1)))).map P3.en))
  case hs => rfl
  case he => exact GO.ge (go_call C h_body_of (Nat.le_refl _) g_body_of (ga_cons (d := .list (((nearN ns).map (slant33 (cellZ ns 1))).map P3.en)) (by walk_at "dw.v") ga_nil rfl) (fun R_ h_ => ⟨_, rfl, hm2, hm4, hnd, hm6, h_⟩) rfl rfl)
  walk_at "dw.nf"
  generalize (nearN ns).map (slant33 (cellZ ns 1)) = nr at *
  generalize bodyA nr = us at *
  clear hm6 hm4 hm2 hml hmb hnd hnl hnb
  have hul0 : 0 < us.length := List.length_pos_iff.mpr hneL
  have hxs : ∀ z ∈ ((ns.drop 9).take 12 ++ [25]).take 12, Bd 1048576 z := fun z hz => by
    rcases List.mem_append.mp (List.mem_of_mem_take hz) with q | q
    · exact hb z (List.mem_of_mem_drop (List.mem_of_mem_take q))
    · rw [List.mem_singleton.mp q]
      exact (show Bd 6 25 by decide).mono (by decide)
  (show GSs _ _ (List.cons _ _) _)
  apply gss_for C (fun i G' => ∃ (x2 x4 x5 x6 x7 x8 x9 x13 x14 x15 x16 x17 x18 : Sl), G' = [.fz (.list (ns.map .int)), .fz (.list (nr.map P3.en)), x2, .fz (.list (us.map P3.en)), x4, x5, x6, x7, x8, x9, .no, .no, .no, x13, x14, x15, x16, x17, x18]) (items := (((ns.drop 9).take 12 ++ [25]).take 12).map .int)
  case hi =>
    refine gi_list (GE.is (ge_slLd (ds := ((ns.drop 9).take 12 ++ [25]).map PyData.int) ?_ gp_no (gp_yes ge_int)) (congrArg PyData.list (cut_take (n := 12))))
    rw [List.map_append]
    refine ge_add (x := .list (((ns.drop 9).take 12).map PyData.int)) (y := .list ([25].map PyData.int)) (GE.is (ge_slLd (ge_v C 0 v0 rfl) (gp_yes ge_int) (gp_yes ge_int)) (congrArg PyData.list (cut_rest ns 9 21 (by decide)))) (GO.ge (go_lst (x1 := ()) (ga_cons ge_int ga_nil rfl) (Nat.le_of_ble_eq_true rfl))) (.lst _ _ ?_)
    rw [List.length_map, List.length_map, List.length_take]
    exact Nat.le_trans (Nat.add_le_add_right (Nat.min_le_left ..) _) (Nat.le_of_ble_eq_true rfl)
  case h0 => exact ⟨_, _, _, _, _, _, _, _, _, _, _, _, _, rfl⟩
  case hf =>
    intro x
    rfl
  case hs =>
    rintro i d G' hd ⟨x2, x4, x5, x6, x7, x8, x9, x13, x14, x15, x16, x17, x18, rfl⟩
    obtain ⟨c, hc, rfl⟩ := map_at hd
    refine ⟨_, [4], gg_name C 4 l4 (by simp), ?_⟩
    walk_at "dw.nf"
    (show GSs _ _ (List.cons _ _) _)
    walk_at "dw.asg"
    (show GSs _ _ (List.cons _ _) _)
    refine gss_asgR (fun ds => ∃ cs : List P3, cs ≠ [] ∧ cs.length ≤ 7 ∧ (∀ v ∈ cs, v ∈ us) ∧ ds = cs.map P3.en) C 6 l6 h_L_chosen (Nat.le_refl _) g_L_chosen (ga_cons (d := .list (us.map P3.en)) (by walk_at "dw.v") (ga_cons (d := .int (c / 11)) (by walk_at "dw.e") ga_nil rfl) rfl) (fun R_ h_ => ⟨us, c / 11, rfl, hul0, by omega, fun cs h1 h2 h3 => h_ _ ⟨cs, h1, h2, h3, rfl⟩⟩) rfl rfl rfl ?_
    rintro _ ⟨cs, hcn, hc7, hcm, rfl⟩
    refine gs_settle 6 rfl ?_
    walk_at "dw.nf"
    have hc0 : 0 < cs.length := List.length_pos_iff.mpr hcn
    have hcb : ∀ v ∈ cs, P3.Bd 120 v := fun v hv => hbL v (hcm v hv)
    (show GSs _ _ (List.cons _ _) _)
    refine gss_asgR (fun ds => ∃ ws : List Int, Wts cs.length ws ∧ ds = ws.map .int) C 7 l7 h_L_weights (Nat.le_refl _) g_L_weights (ga_cons (d := .int (c / 33)) (by walk_at "dw.e") (ga_cons (d := .int (cs.length : Int)) (ge_len C g_len B.len (GE.gh (d := .list (cs.map P3.en)) (by walk_at "dw.v")) (len_map _ _) rfl) (ga_cons (d := .int (c % 11)) (by walk_at "dw.v") ga_nil rfl) rfl) rfl) (fun R_ h_ => ⟨c / 33, cs.length, c % 11, rfl, hc0, hc7, fun ws h1 => h_ _ ⟨ws, h1, rfl⟩⟩) rfl rfl rfl ?_
    rintro _ ⟨ws, ⟨hwl, hwp, hwb⟩, rfl⟩
    refine gs_settle 7 rfl ?_
    walk_at "dw.nf"
    have hwn : ws ≠ [] := fun e => by
      rw [e] at hwl
      simp at hwl
      omega
    have bsum : Bd 46 ws.sum := (sum_bdY (k := 3) hwb (by omega)).mono (by decide)
    obtain ⟨t, htq⟩ : ∃ t : Int, t = 2 * ws.sum := ⟨_, rfl⟩
    have ht0 : 0 < t := by omega
    have bt : Bd 49 t := by
      rw [htq]
      exact ((show Bd 2 2 by decide).mul bsum).mono (by decide)
    (show GSs _ _ (List.cons _ _) _)
    apply gss_asg C 8 l8 (d := .int t)
    case hs => rfl
    case he =>
      rw [htq]
      exact ge_mul ge_int (ge_sum C g_sum B.sum (GE.gh (by walk_at "dw.v")) rfl) (Bd.ok (show Bd 2 2 by decide) bsum (by decide))
    walk_at "dw.nf"
    (show GSs _ _ (List.cons _ _) _)
    apply gss_lc3 C 9 10 11 12 (xs := us) (g := fun u => P3.en (sm t u))
    case okj => assumption
    case hyl => decide +kernel
    case hk => rfl
    case ok => decide +kernel
    case okl => decide +kernel
    case okl2 => decide +kernel
    case okl3 => decide +kernel
    case hl => rfl
    case ha => decide +kernel
    case hs =>
      intro _
      rfl
    case hz => omega
    case hi => exact GI.w (gi_list (by walk_at "dw.v"))
    case he =>
      intro X C a ha
      have ba := hbL a ha
      have q1 : IntMulOk a.x t := Bd.ok ba.x bt (by decide)
      have q2 : IntMulOk a.y t := Bd.ok ba.y bt (by decide)
      have q3 : IntMulOk a.z t := Bd.ok ba.z bt (by decide)
      have e : P3.en (sm t a) = .tuple [.int (a.x * t), .int (a.y * t), .int (a.z * t)] := by
        rw [Int.mul_comm a.x, Int.mul_comm a.y, Int.mul_comm a.z]
        rfl
      rw [e]
      exact ge_tup (ga_cons (ge_mul (by walk_at "dw.v") (by walk_at "dw.v") q1) (ga_cons (ge_mul (by walk_at "dw.v") (by walk_at "dw.v") q2) (ga_cons (ge_mul (by walk_at "dw.v") (by walk_at "dw.v") q3) ga_nil rfl) rfl) rfl) (Nat.le_of_ble_eq_true rfl)
    rw [show us.map (fun u => P3.en (sm t u)) = (us.map (sm t)).map P3.en from by rw [List.map_map]; rfl]
    refine gs_settle 9 rfl ?_
    walk_at "dw.nf"
    have hLb : ∀ u ∈ us.map (sm t), P3.Bd 170 u := fun u hu => by
      obtain ⟨v, hv, rfl⟩ := List.mem_map.mp hu
      exact (P3.Bd.sm bt (hbL v hv)).mono (by decide)
    have hLl : (us.map (sm t)).length ≤ 11 := by
      rw [List.length_map]
      exact hlL
    have hL0 : 0 < (us.map (sm t)).length := by
      rw [List.length_map]
      exact hul0
    generalize us.map (sm t) = ld at hLb hLl hL0
    (show GSs _ _ (List.cons _ _) _)
    apply gss_asgO C 13 l13 (ds := ([] : List Pr).map (En.en (α := Pr)))
    case hs => rfl
    case he => exact go_lst (x1 := ()) ga_nil (by decide)
    walk_at "dw.nf"
    (show GSs _ _ (List.cons _ _) _)
    apply gss_asg C 14 l14 (d := P3.en P3.O)
    case hs => rfl
    case he =>
      show GE X _ _ (.tuple [.int 0, .int 0, .int 0])
      walk_at "dw.e"
    walk_at "dw.nf"
    have bt200 := bt.mono (m := 200) (by decide)
    have bO : P3.Bd 165 P3.O := ⟨(show Bd 2 0 by decide).mono (by decide), (show Bd 2 0 by decide).mono (by decide), (show Bd 2 0 by decide).mono (by decide)⟩
    (show GSs _ _ (List.cons _ _) _)
    apply gss_for C (fun j G' => ∃ (prs : List Pr) (P : P3) (x15 : Sl), G' = [.fz (.list (ns.map .int)), .fz (.list (nr.map P3.en)), x2, .fz (.list (us.map P3.en)), .fz (.int c), .fz (.int (c % 11)), .fz (.list (cs.map P3.en)), .fz (.list (ws.map .int)), .fz (.int t), .fz (.list (ld.map P3.en)), .no, .no, .no, .ow (prs.map (En.en (α := Pr))), .fz P.en, x15, x16, x17, x18] ∧ (∀ q ∈ prs, P3.Bd 175 q.1 ∧ Bd 50 q.2.1 ∧ Bd 50 q.2.2 ∧ 0 < q.2.2) ∧ prs.length = j ∧ P3.Bd (165 + j) P) (items := (rngL 0 cs.length).map .int)
    case hi => exact gi_rngC C g_range B.range (ge_len C g_len B.len (GE.gh (d := .list (cs.map P3.en)) (ge_v C 6 v6 rfl)) (len_map _ _) rfl) rfl (by omega) rfl
    case h0 => exact ⟨[], P3.O, x15, rfl, fun q hq => (by cases hq), rfl, bO⟩
    case hf =>
      intro x
      rfl
    case hs =>
      rintro j d G' hd ⟨prs, P, x15, rfl, hpb, hpl, bP⟩
      obtain ⟨hj, rfl⟩ := rng_at hd
      rw [Int.zero_add]
      refine ⟨_, [15], gg_name C 15 l15 (by simp), ?_⟩
      walk_at "dw.nf"
      obtain ⟨A, hA⟩ : ∃ A, cs[j]? = some A := ⟨cs[j], List.getElem?_eq_getElem hj⟩
      obtain ⟨w, hw⟩ : ∃ w, ws[j]? = some w := ⟨ws[j]'(by omega), List.getElem?_eq_getElem _⟩
      have bA := hcb A (List.mem_of_getElem? hA)
      have bA4 := bA.mono (m := 400) (by decide)
      have bw := hwb w (List.mem_of_getElem? hw)
      have aA : atI (cs.map P3.en) (j : Int) = some A.en := atI_map (atI_nat hA)
      have aw : atI (ws.map PyData.int) (j : Int) = some (.int w) := atI_map (atI_nat hw)
      have b2w : Bd 45 (2 * w) := ((show Bd 2 2 by decide).mul bw).mono (by decide)
      have m2w : IntMulOk 2 w := Bd.ok (show Bd 2 2 by decide) bw (by decide)
      have hlow := lowA_ok (t := 2 * w) ht0
      obtain ⟨hl1, hl2⟩ := hlow.bd b2w bt
      have bC : P3.Bd 175 (ad P3.O (sm t A)) := ⟨((bO.x.add (bt.mul bA.x))).mono (by decide), ((bO.y.add (bt.mul bA.y))).mono (by decide), ((bO.z.add (bt.mul bA.z))).mono (by decide)⟩
      have bN : P3.Bd (165 + (j + 1)) (ad P (sm (2 * w) A)) := ⟨(bP.x.add ((b2w.mul bA.x).mono (show 45 + 120 ≤ 165 + j by omega))).mono (by omega), (bP.y.add ((b2w.mul bA.y).mono (show 45 + 120 ≤ 165 + j by omega))).mono (by omega), (bP.z.add ((b2w.mul bA.z).mono (show 45 + 120 ≤ 165 + j by omega))).mono (by omega)⟩
      (show GSs _ _ (List.cons _ _) _)
      apply gss_app C 13 (ds := prs.map (En.en (α := Pr))) (d := En.en (α := Pr) (ad P3.O (sm t A), lowA (2 * w) t))
      case h => assumption
      case hG => rfl
      case hb => rfl
      case hl => rfl
      case hst => rfl
      case hfew => rfl
      case hs => rfl
      case hz =>
        rw [List.length_map]
        omega
      case he =>
        show GE X _ _ (.tuple [P3.en (ad P3.O (sm t A)), .tuple [.int (lowA (2 * w) t).1, .int (lowA (2 * w) t).2]])
        refine ge_tup (ga_cons ?_ (ga_cons ?_ ga_nil rfl) rfl) (Nat.le_of_ble_eq_true rfl)
        · refine ge_call C h_L_put (Nat.le_refl _) g_L_put (ga_cons (d := P3.en P3.O) ?_ (ga_cons (d := .int t) (by walk_at "dw.v") (ga_cons (d := A.en) ?_ ga_nil rfl) rfl) rfl) (fun R_ h_ => ⟨P3.O, t, A, rfl, bt200, bA4, h_⟩) rfl rfl
          · show GE X _ _ (.tuple [.int 0, .int 0, .int 0])
            walk_at "dw.e"
          · exact ge_ix (GV.s (by walk_at "dw.v")) (i := (j : Int)) (by walk_at "dw.v") (.lst aA) (fun _ _ => rfl)
        · refine ge_call C h_L_low (Nat.le_refl _) g_L_low (ga_cons (d := .int (2 * w)) ?_ (ga_cons (d := .int t) (by walk_at "dw.v") ga_nil rfl) rfl) (fun R_ h_ => ⟨2 * w, t, rfl, ht0, (by exact Bd.mono b2w (by decide)), (by exact Bd.mono bt (by decide)), h_⟩) rfl rfl
          exact ge_mul ge_int (ge_ix (GV.s (by walk_at "dw.v")) (i := (j : Int)) (by walk_at "dw.v") (.lst aw) (fun _ _ => rfl)) m2w
      walk_at "dw.nf"
      (show GSs _ _ (List.cons _ _) _)
      apply gss_asg C 14 l14 (d := P3.en (ad P (sm (2 * w) A)))
      case hs => rfl
      case he =>
        refine ge_call C h_L_put (Nat.le_refl _) g_L_put (ga_cons (d := P.en) (by walk_at "dw.v") (ga_cons (d := .int (2 * w)) ?_ (ga_cons (d := A.en) ?_ ga_nil rfl) rfl) rfl) (fun R_ h_ => ⟨P, 2 * w, A, rfl, (by exact Bd.mono b2w (by decide)), bA4, h_⟩) rfl rfl
        · exact ge_mul ge_int (ge_ix (GV.s (by walk_at "dw.v")) (i := (j : Int)) (by walk_at "dw.v") (.lst aw) (fun _ _ => rfl)) m2w
        · exact ge_ix (GV.s (by walk_at "dw.v")) (i := (j : Int)) (by walk_at "dw.v") (.lst aA) (fun _ _ => rfl)
      walk_at "dw.nf"
      apply gss_nil
      refine ⟨prs ++ [(ad P3.O (sm t A), lowA (2 * w) t)], ad P (sm (2 * w) A), .fz (.int (j : Int)), ?_, fun q hq => ?_, ?_, bN⟩
      · rw [List.map_append]
        rfl
      · rcases List.mem_append.mp hq with z | z
        · exact hpb q z
        · rw [List.mem_singleton.mp z]
          exact ⟨bC, hl1.mono (by decide), hl2.mono (by decide), hlow.pos⟩
      · rw [List.length_append, hpl]
        rfl
    case hd =>
      rintro G' ⟨prs, P, x15, rfl, hpb, hpl, bP⟩
      rw [List.length_map, rngL_len] at hpl bP
      have hp33 : Pr33 prs := ⟨hpb, by omega⟩
      have hpn : prs ≠ [] := fun e => by
        rw [e] at hpl
        simp at hpl
        omega
      have bP8 := bP.mono (m := 180) (by omega)
      refine gs_settle 13 rfl ?_
      walk_at "dw.nf"
      (show GSs _ _ (List.cons _ _) _)
      refine gss_unpR (fun ds => ∃ (sm : List Pr) (P' : P3), OkPr sm ∧ P3.Bd 400 P' ∧ ds = [.list (sm.map (En.en (α := Pr))), P'.en]) C h_L_changed (Nat.le_refl _) g_L_changed (ga_cons (d := .list (prs.map (En.en (α := Pr)))) (by walk_at "dw.v") (ga_cons (d := .list (ws.map .int)) (by walk_at "dw.v") (ga_cons (d := .int (c % 11)) (by walk_at "dw.v") (ga_cons (d := P.en) (by walk_at "dw.v") (ga_cons (d := .list (ld.map P3.en)) (by walk_at "dw.v") (ga_cons (d := .int (c / 11)) (by walk_at "dw.e") ga_nil rfl) rfl) rfl) rfl) rfl) rfl) (fun R_ h_ => ⟨prs, ws, c % 11, P, ld, c / 11, rfl, hp33, hpn, hwn, hwb, by omega, bP8, hLb, hL0, by omega, fun sm P' h1 h2 => h_ _ ⟨sm, P', h1, h2, rfl⟩⟩) rfl rfl rfl rfl rfl ?_
      rintro _ ⟨sm, P', hO, bP', rfl⟩
      refine ⟨_, List.range 40, (by walk_at "dw.gg"), ?_⟩
      walk_at "dw.nf"
      have hld : ld.length ≤ 60 := by omega
      (show GSs _ _ (List.cons _ _) _)
      apply gss_asg C 17 l17 (d := .list [.list (ld.map P3.en), .list (sm.map (En.en (α := Pr)))])
      case hs => rfl
      case he => exact GO.ge (go_lst (x1 := ()) (ga_cons (GO.ge (go_list C g_list B.list (GE.gl (by walk_at "dw.v")) rfl)) (ga_cons (GO.ge (go_list C g_list B.list (GE.gl (by walk_at "dw.v")) rfl)) ga_nil rfl) rfl) (Nat.le_of_ble_eq_true rfl))
      walk_at "dw.nf"
      (show GSs _ _ (List.cons _ _) _)
      apply gss_asg C 18 l18 (d := .bool (showA ld P' sm))
      case hs => rfl
      case he =>
        refine ge_call C h_shares_show (Nat.le_refl _) g_shares_show (ga_cons (d := .list (ld.map P3.en)) ?_ (ga_cons (d := P'.en) (by walk_at "dw.v") (ga_cons (d := .list (sm.map (En.en (α := Pr)))) ?_ ga_nil rfl) rfl) rfl) (fun R_ h_ => ⟨ld, P', sm, rfl, hO, bP', hld, h_⟩) rfl rfl
        · exact ge_ix (GV.s (by walk_at "dw.v")) (i := 0) ge_int (.lst rfl) (fun _ _ => rfl)
        · exact ge_ix (GV.s (by walk_at "dw.v")) (i := 1) ge_int (.lst rfl) (fun _ _ => rfl)
      walk_at "dw.nf"
      apply gss_not
      · refine GW.gt (gw_orF ?_ (gw_orF ?_ (gw_or1 ?_)))
        · walk_at "dw.e"
        · refine gt_cp C (GE.gh (d := .bool (showA ld P' sm)) (by walk_at "dw.v")) (GE.gh (d := .bool (showA ld P' sm)) ?_) (cmp_neFd rfl rfl) rfl
          exact ge_call C h_L_due (Nat.le_refl _) g_L_due (ga_cons (d := .list (ld.map P3.en)) (by walk_at "dw.v") (ga_cons (d := P'.en) (by walk_at "dw.v") (ga_cons (d := .list (sm.map (En.en (α := Pr)))) (by walk_at "dw.v") ga_nil rfl) rfl) rfl) (fun R_ h_ => ⟨ld, P', sm, rfl, hO, bP', hld, h_⟩) rfl rfl
        · refine gt_cp C (GE.gh (d := .list [.list (ld.map P3.en), .list (sm.map (En.en (α := Pr)))]) (by walk_at "dw.v")) (GL.gh (GO.gl (ds := [.list (ld.map P3.en), .list (sm.map (En.en (α := Pr)))]) (go_lst (x1 := ()) (ga_cons (by walk_at "dw.v") (ga_cons (by walk_at "dw.v") ga_nil rfl) rfl) (Nat.le_of_ble_eq_true rfl)))) (cmp_neFd rfl (shaped_two (α := List P3) (β := List Pr) ld sm (by decide) (by decide))) rfl
      apply gss_nil
      exact ⟨_, _, _, _, _, _, _, _, _, _, _, _, _, rfl⟩
  case hd =>
    rintro G' ⟨x2, x4, x5, x6, x7, x8, x9, x13, x14, x15, x16, x17, x18, rfl⟩
    apply gss_ret (d := .bool true)
    · exact ge_bl
    · exact hR

theorem all_mk {l : PySem.W.OpenLaw} {w : World} {K : PySem.W.Frag} {h : Heap} {mg : Str → Option Value} {fa f0 f1 f2 f3 f4 f5 f6 f7 f8 f9 f10 f11 f12 f13 f14 f15 f16 f17 f18 f19 f20 f21 f22 f23 f24 f25 f26 f27 : Addr} (X : K.In h) (G : h.Ns mainGlobals mg) (hfa : mg "law" = some (.ref fa))
    {od0 an0 od1 an1 od2 an2 od3 an3 od4 an4 od5 an5 od6 an6 od7 an7 od8 an8 od9 an9 od10 an10 od11 an11 od12 an12 od13 an13 od14 an14 od15 an15 od16 an16 od17 an17 od18 an18 od19 an19 od20 an20 od21 an21 od22 an22 od23 an23 od24 an24 od25 an25 od26 an26 od27 an27 : Option Addr} {sl0 sl1 sl2 sl3 sl4 sl5 sl6 sl7 sl8 sl9 sl10 sl11 sl12 sl13 sl14 sl15 sl16 sl17 sl18 sl19 sl20 sl21 sl22 sl23 sl24 sl25 sl26 sl27 : Array (Option Value)} {oc0 kV0 dc0 pm0 cd0 ct0 oc1 kV1 dc1 pm1 cd1 ct1 oc2 kV2 dc2 pm2 cd2 ct2 oc3 kV3 dc3 pm3 cd3 ct3 oc4 kV4 dc4 pm4 cd4 ct4 oc5 kV5 dc5 pm5 cd5 ct5 oc6 kV6 dc6 pm6 cd6 ct6 oc7 kV7 dc7 pm7 cd7 ct7 oc8 kV8 dc8 pm8 cd8 ct8 oc9 kV9 dc9 pm9 cd9 ct9 oc10 kV10 dc10 pm10 cd10 ct10 oc11 kV11 dc11 pm11 cd11 ct11 oc12 kV12 dc12 pm12 cd12 ct12 oc13 kV13 dc13 pm13 cd13 ct13 oc14 kV14 dc14 pm14 cd14 ct14 oc15 kV15 dc15 pm15 cd15 ct15 oc16 kV16 dc16 pm16 cd16 ct16 oc17 kV17 dc17 pm17 cd17 ct17 oc18 kV18 dc18 pm18 cd18 ct18 oc19 kV19 dc19 pm19 cd19 ct19 oc20 kV20 dc20 pm20 cd20 ct20 oc21 kV21 dc21 pm21 cd21 ct21 oc22 kV22 dc22 pm22 cd22 ct22 oc23 kV23 dc23 pm23 cd23 ct23 oc24 kV24 dc24 pm24 cd24 ct24 oc25 kV25 dc25 pm25 cd25 ct25 oc26 kV26 dc26 pm26 cd26 ct26 oc27 kV27 dc27 pm27 cd27 ct27 : Value}
    (a0 : PySem.W.nsIn K mainGlobals "way_between" = some (some (.ref f0))) (q0 : K.lookup f0 = some ⟨oc0, od0, .func (PySem.W.fnOf "way_between" "way_between" (defArgs s_way_between) (defBody s_way_between) (defScope s_way_between) .none kV0 dc0 pm0 an0 cd0 ct0), sl0⟩) (c0 : PySem.W.codeIn K cd0 "way_between" = true) (k0 : PySem.W.keepIn K (.ref f0) = true)
    (a1 : PySem.W.nsIn K mainGlobals "cross_of" = some (some (.ref f1))) (q1 : K.lookup f1 = some ⟨oc1, od1, .func (PySem.W.fnOf "cross_of" "cross_of" (defArgs s_cross_of) (defBody s_cross_of) (defScope s_cross_of) .none kV1 dc1 pm1 an1 cd1 ct1), sl1⟩) (c1 : PySem.W.codeIn K cd1 "cross_of" = true) (k1 : PySem.W.keepIn K (.ref f1) = true)
    (a2 : PySem.W.nsIn K mainGlobals "product_of" = some (some (.ref f2))) (q2 : K.lookup f2 = some ⟨oc2, od2, .func (PySem.W.fnOf "product_of" "product_of" (defArgs s_product_of) (defBody s_product_of) (defScope s_product_of) .none kV2 dc2 pm2 an2 cd2 ct2), sl2⟩) (c2 : PySem.W.codeIn K cd2 "product_of" = true) (k2 : PySem.W.keepIn K (.ref f2) = true)
    (a3 : PySem.W.nsIn K mainGlobals "lift_of" = some (some (.ref f3))) (q3 : K.lookup f3 = some ⟨oc3, od3, .func (PySem.W.fnOf "lift_of" "lift_of" (defArgs s_lift_of) (defBody s_lift_of) (defScope s_lift_of) .none kV3 dc3 pm3 an3 cd3 ct3), sl3⟩) (c3 : PySem.W.codeIn K cd3 "lift_of" = true) (k3 : PySem.W.keepIn K (.ref f3) = true)
    (a4 : PySem.W.nsIn K mainGlobals "shared_by" = some (some (.ref f4))) (q4 : K.lookup f4 = some ⟨oc4, od4, .func (PySem.W.fnOf "shared_by" "shared_by" (defArgs s_shared_by) (defBody s_shared_by) (defScope s_shared_by) .none kV4 dc4 pm4 an4 cd4 ct4), sl4⟩) (c4 : PySem.W.codeIn K cd4 "shared_by" = true) (k4 : PySem.W.keepIn K (.ref f4) = true)
    (a5 : PySem.W.nsIn K mainGlobals "plane_through" = some (some (.ref f5))) (q5 : K.lookup f5 = some ⟨oc5, od5, .func (PySem.W.fnOf "plane_through" "plane_through" (defArgs s_plane_through) (defBody s_plane_through) (defScope s_plane_through) .none kV5 dc5 pm5 an5 cd5 ct5), sl5⟩) (c5 : PySem.W.codeIn K cd5 "plane_through" = true) (k5 : PySem.W.keepIn K (.ref f5) = true)
    (a6 : PySem.W.nsIn K mainGlobals "side_of" = some (some (.ref f6))) (q6 : K.lookup f6 = some ⟨oc6, od6, .func (PySem.W.fnOf "side_of" "side_of" (defArgs s_side_of) (defBody s_side_of) (defScope s_side_of) .none kV6 dc6 pm6 an6 cd6 ct6), sl6⟩) (c6 : PySem.W.codeIn K cd6 "side_of" = true) (k6 : PySem.W.keepIn K (.ref f6) = true)
    (a7 : PySem.W.nsIn K mainGlobals "on_a_line" = some (some (.ref f7))) (q7 : K.lookup f7 = some ⟨oc7, od7, .func (PySem.W.fnOf "on_a_line" "on_a_line" (defArgs s_on_a_line) (defBody s_on_a_line) (defScope s_on_a_line) .none kV7 dc7 pm7 an7 cd7 ct7), sl7⟩) (c7 : PySem.W.codeIn K cd7 "on_a_line" = true) (k7 : PySem.W.keepIn K (.ref f7) = true)
    (a8 : PySem.W.nsIn K mainGlobals "dimension_of" = some (some (.ref f8))) (q8 : K.lookup f8 = some ⟨oc8, od8, .func (PySem.W.fnOf "dimension_of" "dimension_of" (defArgs s_dimension_of) (defBody s_dimension_of) (defScope s_dimension_of) .none kV8 dc8 pm8 an8 cd8 ct8), sl8⟩) (c8 : PySem.W.codeIn K cd8 "dimension_of" = true) (k8 : PySem.W.keepIn K (.ref f8) = true)
    (a9 : PySem.W.nsIn K mainGlobals "plane_behind" = some (some (.ref f9))) (q9 : K.lookup f9 = some ⟨oc9, od9, .func (PySem.W.fnOf "plane_behind" "plane_behind" (defArgs s_plane_behind) (defBody s_plane_behind) (defScope s_plane_behind) .none kV9 dc9 pm9 an9 cd9 ct9), sl9⟩) (c9 : PySem.W.codeIn K cd9 "plane_behind" = true) (k9 : PySem.W.keepIn K (.ref f9) = true)
    (a10 : PySem.W.nsIn K mainGlobals "first_plane" = some (some (.ref f10))) (q10 : K.lookup f10 = some ⟨oc10, od10, .func (PySem.W.fnOf "first_plane" "first_plane" (defArgs s_first_plane) (defBody s_first_plane) (defScope s_first_plane) .none kV10 dc10 pm10 an10 cd10 ct10), sl10⟩) (c10 : PySem.W.codeIn K cd10 "first_plane" = true) (k10 : PySem.W.keepIn K (.ref f10) = true)
    (a11 : PySem.W.nsIn K mainGlobals "next_on_ring" = some (some (.ref f11))) (q11 : K.lookup f11 = some ⟨oc11, od11, .func (PySem.W.fnOf "next_on_ring" "next_on_ring" (defArgs s_next_on_ring) (defBody s_next_on_ring) (defScope s_next_on_ring) .none kV11 dc11 pm11 an11 cd11 ct11), sl11⟩) (c11 : PySem.W.codeIn K cd11 "next_on_ring" = true) (k11 : PySem.W.keepIn K (.ref f11) = true)
    (a12 : PySem.W.nsIn K mainGlobals "ring_of" = some (some (.ref f12))) (q12 : K.lookup f12 = some ⟨oc12, od12, .func (PySem.W.fnOf "ring_of" "ring_of" (defArgs s_ring_of) (defBody s_ring_of) (defScope s_ring_of) .none kV12 dc12 pm12 an12 cd12 ct12), sl12⟩) (c12 : PySem.W.codeIn K cd12 "ring_of" = true) (k12 : PySem.W.keepIn K (.ref f12) = true)
    (a13 : PySem.W.nsIn K mainGlobals "sides_of" = some (some (.ref f13))) (q13 : K.lookup f13 = some ⟨oc13, od13, .func (PySem.W.fnOf "sides_of" "sides_of" (defArgs s_sides_of) (defBody s_sides_of) (defScope s_sides_of) .none kV13 dc13 pm13 an13 cd13 ct13), sl13⟩) (c13 : PySem.W.codeIn K cd13 "sides_of" = true) (k13 : PySem.W.keepIn K (.ref f13) = true)
    (a14 : PySem.W.nsIn K mainGlobals "faces_of" = some (some (.ref f14))) (q14 : K.lookup f14 = some ⟨oc14, od14, .func (PySem.W.fnOf "faces_of" "faces_of" (defArgs s_faces_of) (defBody s_faces_of) (defScope s_faces_of) .none kV14 dc14 pm14 an14 cd14 ct14), sl14⟩) (c14 : PySem.W.codeIn K cd14 "faces_of" = true) (k14 : PySem.W.keepIn K (.ref f14) = true)
    (a15 : PySem.W.nsIn K mainGlobals "body_of" = some (some (.ref f15))) (q15 : K.lookup f15 = some ⟨oc15, od15, .func (PySem.W.fnOf "body_of" "body_of" (defArgs s_body_of) (defBody s_body_of) (defScope s_body_of) .none kV15 dc15 pm15 an15 cd15 ct15), sl15⟩) (c15 : PySem.W.codeIn K cd15 "body_of" = true) (k15 : PySem.W.keepIn K (.ref f15) = true)
    (a16 : PySem.W.nsIn K mainGlobals "shares_show" = some (some (.ref f16))) (q16 : K.lookup f16 = some ⟨oc16, od16, .func (PySem.W.fnOf "shares_show" "shares_show" (defArgs s_shares_show) (defBody s_shares_show) (defScope s_shares_show) .none kV16 dc16 pm16 an16 cd16 ct16), sl16⟩) (c16 : PySem.W.codeIn K cd16 "shares_show" = true) (k16 : PySem.W.keepIn K (.ref f16) = true)
    (a17 : PySem.W.nsIn K mainGlobals "_law_cell_at" = some (some (.ref f17))) (q17 : K.lookup f17 = some ⟨oc17, od17, .func (PySem.W.fnOf "_law_cell_at" "_law_cell_at" (defArgs s_L_cell_at) (defBody s_L_cell_at) (defScope s_L_cell_at) .none kV17 dc17 pm17 an17 cd17 ct17), sl17⟩) (c17 : PySem.W.codeIn K cd17 "_law_cell_at" = true) (k17 : PySem.W.keepIn K (.ref f17) = true)
    (a18 : PySem.W.nsIn K mainGlobals "_law_great" = some (some (.ref f18))) (q18 : K.lookup f18 = some ⟨oc18, od18, .func (PySem.W.fnOf "_law_great" "_law_great" (defArgs s_L_great) (defBody s_L_great) (defScope s_L_great) .none kV18 dc18 pm18 an18 cd18 ct18), sl18⟩) (c18 : PySem.W.codeIn K cd18 "_law_great" = true) (k18 : PySem.W.keepIn K (.ref f18) = true)
    (a19 : PySem.W.nsIn K mainGlobals "_law_near" = some (some (.ref f19))) (q19 : K.lookup f19 = some ⟨oc19, od19, .func (PySem.W.fnOf "_law_near" "_law_near" (defArgs s_L_near) (defBody s_L_near) (defScope s_L_near) .none kV19 dc19 pm19 an19 cd19 ct19), sl19⟩) (c19 : PySem.W.codeIn K cd19 "_law_near" = true) (k19 : PySem.W.keepIn K (.ref f19) = true)
    (a20 : PySem.W.nsIn K mainGlobals "_law_slanted" = some (some (.ref f20))) (q20 : K.lookup f20 = some ⟨oc20, od20, .func (PySem.W.fnOf "_law_slanted" "_law_slanted" (defArgs s_L_slanted) (defBody s_L_slanted) (defScope s_L_slanted) .none kV20 dc20 pm20 an20 cd20 ct20), sl20⟩) (c20 : PySem.W.codeIn K cd20 "_law_slanted" = true) (k20 : PySem.W.keepIn K (.ref f20) = true)
    (a21 : PySem.W.nsIn K mainGlobals "_law_low" = some (some (.ref f21))) (q21 : K.lookup f21 = some ⟨oc21, od21, .func (PySem.W.fnOf "_law_low" "_law_low" (defArgs s_L_low) (defBody s_L_low) (defScope s_L_low) .none kV21 dc21 pm21 an21 cd21 ct21), sl21⟩) (c21 : PySem.W.codeIn K cd21 "_law_low" = true) (k21 : PySem.W.keepIn K (.ref f21) = true)
    (a22 : PySem.W.nsIn K mainGlobals "_law_weights" = some (some (.ref f22))) (q22 : K.lookup f22 = some ⟨oc22, od22, .func (PySem.W.fnOf "_law_weights" "_law_weights" (defArgs s_L_weights) (defBody s_L_weights) (defScope s_L_weights) .none kV22 dc22 pm22 an22 cd22 ct22), sl22⟩) (c22 : PySem.W.codeIn K cd22 "_law_weights" = true) (k22 : PySem.W.keepIn K (.ref f22) = true)
    (a23 : PySem.W.nsIn K mainGlobals "_law_chosen" = some (some (.ref f23))) (q23 : K.lookup f23 = some ⟨oc23, od23, .func (PySem.W.fnOf "_law_chosen" "_law_chosen" (defArgs s_L_chosen) (defBody s_L_chosen) (defScope s_L_chosen) .none kV23 dc23 pm23 an23 cd23 ct23), sl23⟩) (c23 : PySem.W.codeIn K cd23 "_law_chosen" = true) (k23 : PySem.W.keepIn K (.ref f23) = true)
    (a24 : PySem.W.nsIn K mainGlobals "_law_put" = some (some (.ref f24))) (q24 : K.lookup f24 = some ⟨oc24, od24, .func (PySem.W.fnOf "_law_put" "_law_put" (defArgs s_L_put) (defBody s_L_put) (defScope s_L_put) .none kV24 dc24 pm24 an24 cd24 ct24), sl24⟩) (c24 : PySem.W.codeIn K cd24 "_law_put" = true) (k24 : PySem.W.keepIn K (.ref f24) = true)
    (a25 : PySem.W.nsIn K mainGlobals "_law_changed" = some (some (.ref f25))) (q25 : K.lookup f25 = some ⟨oc25, od25, .func (PySem.W.fnOf "_law_changed" "_law_changed" (defArgs s_L_changed) (defBody s_L_changed) (defScope s_L_changed) .none kV25 dc25 pm25 an25 cd25 ct25), sl25⟩) (c25 : PySem.W.codeIn K cd25 "_law_changed" = true) (k25 : PySem.W.keepIn K (.ref f25) = true)
    (a26 : PySem.W.nsIn K mainGlobals "_law_due" = some (some (.ref f26))) (q26 : K.lookup f26 = some ⟨oc26, od26, .func (PySem.W.fnOf "_law_due" "_law_due" (defArgs s_L_due) (defBody s_L_due) (defScope s_L_due) .none kV26 dc26 pm26 an26 cd26 ct26), sl26⟩) (c26 : PySem.W.codeIn K cd26 "_law_due" = true) (k26 : PySem.W.keepIn K (.ref f26) = true)
    (a27 : PySem.W.nsIn K mainGlobals "law" = some (some (.ref f27))) (q27 : K.lookup f27 = some ⟨oc27, od27, .func (PySem.W.fnOf "law" "law" (defArgs s_law) (defBody s_law) (defScope s_law) .none kV27 dc27 pm27 an27 cd27 ct27), sl27⟩) (c27 : PySem.W.codeIn K cd27 "law" = true) (k27 : PySem.W.keepIn K (.ref f27) = true)
    (z_len : PySem.W.nsIn K mainGlobals "len" = some none) (z_abs : PySem.W.nsIn K mainGlobals "abs" = some none) (z_max : PySem.W.nsIn K mainGlobals "max" = some none) (z_min : PySem.W.nsIn K mainGlobals "min" = some none) (z_int : PySem.W.nsIn K mainGlobals "int" = some none) (z_bool : PySem.W.nsIn K mainGlobals "bool" = some none) (z_str : PySem.W.nsIn K mainGlobals "str" = some none) (z_sum : PySem.W.nsIn K mainGlobals "sum" = some none) (z_isinstance : PySem.W.nsIn K mainGlobals "isinstance" = some none) (z_tuple : PySem.W.nsIn K mainGlobals "tuple" = some none) (z_list : PySem.W.nsIn K mainGlobals "list" = some none) (z_dict : PySem.W.nsIn K mainGlobals "dict" = some none) (z_set : PySem.W.nsIn K mainGlobals "set" = some none) (z_sorted : PySem.W.nsIn K mainGlobals "sorted" = some none) (z_range : PySem.W.nsIn K mainGlobals "range" = some none) (z_zip : PySem.W.nsIn K mainGlobals "zip" = some none) (z_reversed : PySem.W.nsIn K mainGlobals "reversed" = some none) (z_enumerate : PySem.W.nsIn K mainGlobals "enumerate" = some none)
    (u_NOWAY : ∃ (a : Addr) (o : Obj) (its : Array Value) (n : Nat), PySem.W.nsIn K mainGlobals "NOWAY" = some (some (.ref a)) ∧ K.lookup a = some o ∧ o.cls = .type "tuple" ∧ o.data = .seq its n ∧ its.size ≤ sizeLine ∧ Vals (([0, 0, 0] : List Int).map V.int) its.toList) :
    ∃ fd : FuncData, (∀ (s : Shared) (v : Value), BindsTo s fd ⟨[v], []⟩ [("script", v)]) ∧ ∀ base : Heap, K.In base → base.Ns mainGlobals mg → FnOk l.prog w K mg base (L2.CX l.prog w) 7 fa fd ["script"] (spL K c_script) := by
  have e := hfa.symm.trans (PySem.W.mg_of X G a27)
  cases e
  have F0 := fun_mk (st := s_way_between) q0 c0 k0
  have F1 := fun_mk (st := s_cross_of) q1 c1 k1
  have F2 := fun_mk (st := s_product_of) q2 c2 k2
  have F3 := fun_mk (st := s_lift_of) q3 c3 k3
  have F4 := fun_mk (st := s_shared_by) q4 c4 k4
  have F5 := fun_mk (st := s_plane_through) q5 c5 k5
  have F6 := fun_mk (st := s_side_of) q6 c6 k6
  have F7 := fun_mk (st := s_on_a_line) q7 c7 k7
  have F8 := fun_mk (st := s_dimension_of) q8 c8 k8
  have F9 := fun_mk (st := s_plane_behind) q9 c9 k9
  have F10 := fun_mk (st := s_first_plane) q10 c10 k10
  have F11 := fun_mk (st := s_next_on_ring) q11 c11 k11
  have F12 := fun_mk (st := s_ring_of) q12 c12 k12
  have F13 := fun_mk (st := s_sides_of) q13 c13 k13
  have F14 := fun_mk (st := s_faces_of) q14 c14 k14
  have F15 := fun_mk (st := s_body_of) q15 c15 k15
  have F16 := fun_mk (st := s_shares_show) q16 c16 k16
  have F17 := fun_mk (st := s_L_cell_at) q17 c17 k17
  have F18 := fun_mk (st := s_L_great) q18 c18 k18
  have F19 := fun_mk (st := s_L_near) q19 c19 k19
  have F20 := fun_mk (st := s_L_slanted) q20 c20 k20
  have F21 := fun_mk (st := s_L_low) q21 c21 k21
  have F22 := fun_mk (st := s_L_weights) q22 c22 k22
  have F23 := fun_mk (st := s_L_chosen) q23 c23 k23
  have F24 := fun_mk (st := s_L_put) q24 c24 k24
  have F25 := fun_mk (st := s_L_changed) q25 c25 k25
  have F26 := fun_mk (st := s_L_due) q26 c26 k26
  have F27 := fun_mk (st := s_law) q27 c27 k27
  refine ⟨PySem.W.fnOf "law" "law" (defArgs s_law) (defBody s_law) (defScope s_law) .none kV27 dc27 pm27 an27 cd27 ct27, fun s v => .of_eq rfl, fun base _ _ => ?_⟩
  have B : Bn ⟨l.prog, w, K, mg, base⟩ := ⟨PySem.W.mg_none_of X G z_len, PySem.W.mg_none_of X G z_abs, PySem.W.mg_none_of X G z_max, PySem.W.mg_none_of X G z_min, PySem.W.mg_none_of X G z_int, PySem.W.mg_none_of X G z_bool, PySem.W.mg_none_of X G z_str, PySem.W.mg_none_of X G z_sum, PySem.W.mg_none_of X G z_isinstance, PySem.W.mg_none_of X G z_tuple, PySem.W.mg_none_of X G z_list, PySem.W.mg_none_of X G z_dict, PySem.W.mg_none_of X G z_set, PySem.W.mg_none_of X G z_sorted, PySem.W.mg_none_of X G z_range, PySem.W.mg_none_of X G z_zip, PySem.W.mg_none_of X G z_reversed, PySem.W.mg_none_of X G z_enumerate⟩
  have k_NOWAY : ConstD ⟨l.prog, w, K, mg, base⟩ "NOWAY" (.tuple (([0, 0, 0] : List Int).map .int)) := const_tup (by obtain ⟨a, o, its, n, q, r⟩ := u_NOWAY; exact ⟨a, o, its, n, PySem.W.mg_of X G q, r⟩)
  have h_way_between : Has ⟨l.prog, w, K, mg, base⟩ 1 "way_between" c_way_between := has_way_between (k := 0) B ⟨_, _, PySem.W.mg_of X G a0, F0⟩
  have h_cross_of : Has ⟨l.prog, w, K, mg, base⟩ 1 "cross_of" c_cross_of := has_cross_of (k := 0) B ⟨_, _, PySem.W.mg_of X G a1, F1⟩
  have h_product_of : Has ⟨l.prog, w, K, mg, base⟩ 1 "product_of" c_product_of := has_product_of (k := 0) B ⟨_, _, PySem.W.mg_of X G a2, F2⟩
  have h_lift_of : Has ⟨l.prog, w, K, mg, base⟩ 2 "lift_of" c_lift_of := has_lift_of (k := 1) B ⟨_, _, PySem.W.mg_of X G a3, F3⟩ (h_product_of := h_product_of.mono (by decide)) (h_cross_of := h_cross_of.mono (by decide)) (h_way_between := h_way_between.mono (by decide))
  have h_shared_by : Has ⟨l.prog, w, K, mg, base⟩ 1 "shared_by" c_shared_by := has_shared_by (k := 0) B ⟨_, _, PySem.W.mg_of X G a4, F4⟩
  have h_plane_through : Has ⟨l.prog, w, K, mg, base⟩ 2 "plane_through" c_plane_through := has_plane_through (k := 1) B ⟨_, _, PySem.W.mg_of X G a5, F5⟩ (h_cross_of := h_cross_of.mono (by decide)) (h_shared_by := h_shared_by.mono (by decide)) (h_way_between := h_way_between.mono (by decide)) (h_product_of := h_product_of.mono (by decide))
  have h_side_of : Has ⟨l.prog, w, K, mg, base⟩ 2 "side_of" c_side_of := has_side_of (k := 1) B ⟨_, _, PySem.W.mg_of X G a6, F6⟩ (h_product_of := h_product_of.mono (by decide))
  have h_on_a_line : Has ⟨l.prog, w, K, mg, base⟩ 2 "on_a_line" c_on_a_line := has_on_a_line (k := 1) B (k_NOWAY := k_NOWAY) ⟨_, _, PySem.W.mg_of X G a7, F7⟩ (h_cross_of := h_cross_of.mono (by decide)) (h_way_between := h_way_between.mono (by decide))
  have h_dimension_of : Has ⟨l.prog, w, K, mg, base⟩ 3 "dimension_of" c_dimension_of := has_dimension_of (k := 2) B ⟨_, _, PySem.W.mg_of X G a8, F8⟩ (h_on_a_line := h_on_a_line.mono (by decide)) (h_lift_of := h_lift_of.mono (by decide))
  have h_plane_behind : Has ⟨l.prog, w, K, mg, base⟩ 3 "plane_behind" c_plane_behind := has_plane_behind (k := 2) B ⟨_, _, PySem.W.mg_of X G a9, F9⟩ (h_plane_through := h_plane_through.mono (by decide)) (h_on_a_line := h_on_a_line.mono (by decide)) (h_lift_of := h_lift_of.mono (by decide))
  have h_first_plane : Has ⟨l.prog, w, K, mg, base⟩ 4 "first_plane" c_first_plane := has_first_plane (k := 3) B ⟨_, _, PySem.W.mg_of X G a10, F10⟩ (h_plane_behind := h_plane_behind.mono (by decide)) (h_side_of := h_side_of.mono (by decide)) (h_on_a_line := h_on_a_line.mono (by decide))
  have h_next_on_ring : Has ⟨l.prog, w, K, mg, base⟩ 2 "next_on_ring" c_next_on_ring := has_next_on_ring (k := 1) B ⟨_, _, PySem.W.mg_of X G a11, F11⟩ (h_way_between := h_way_between.mono (by decide)) (h_product_of := h_product_of.mono (by decide)) (h_cross_of := h_cross_of.mono (by decide))
  have h_ring_of : Has ⟨l.prog, w, K, mg, base⟩ 3 "ring_of" c_ring_of := has_ring_of (k := 2) B ⟨_, _, PySem.W.mg_of X G a12, F12⟩ (h_next_on_ring := h_next_on_ring.mono (by decide)) (h_side_of := h_side_of.mono (by decide))
  have h_sides_of : Has ⟨l.prog, w, K, mg, base⟩ 1 "sides_of" c_sides_of := has_sides_of (k := 0) B ⟨_, _, PySem.W.mg_of X G a13, F13⟩
  have h_faces_of : Has ⟨l.prog, w, K, mg, base⟩ 5 "faces_of" c_faces_of := has_faces_of (k := 4) B ⟨_, _, PySem.W.mg_of X G a14, F14⟩ (h_first_plane := h_first_plane.mono (by decide)) (h_sides_of := h_sides_of.mono (by decide)) (h_dimension_of := h_dimension_of.mono (by decide)) (h_ring_of := h_ring_of.mono (by decide)) (h_plane_behind := h_plane_behind.mono (by decide))
  have h_body_of : Has ⟨l.prog, w, K, mg, base⟩ 6 "body_of" c_body_of := has_body_of (k := 5) B ⟨_, _, PySem.W.mg_of X G a15, F15⟩ (h_faces_of := h_faces_of.mono (by decide))
  have h_shares_show : Has ⟨l.prog, w, K, mg, base⟩ 1 "shares_show" c_shares_show := has_shares_show (k := 0) B ⟨_, _, PySem.W.mg_of X G a16, F16⟩
  have h_L_cell_at : Has ⟨l.prog, w, K, mg, base⟩ 1 "_law_cell_at" c_L_cell_at := has_L_cell_at (k := 0) B ⟨_, _, PySem.W.mg_of X G a17, F17⟩
  have h_L_great : Has ⟨l.prog, w, K, mg, base⟩ 1 "_law_great" c_L_great := has_L_great (k := 0) B ⟨_, _, PySem.W.mg_of X G a18, F18⟩
  have h_L_near : Has ⟨l.prog, w, K, mg, base⟩ 2 "_law_near" c_L_near := has_L_near (k := 1) B ⟨_, _, PySem.W.mg_of X G a19, F19⟩ (h_L_cell_at := h_L_cell_at.mono (by decide)) (h_L_great := h_L_great.mono (by decide))
  have h_L_slanted : Has ⟨l.prog, w, K, mg, base⟩ 2 "_law_slanted" c_L_slanted := has_L_slanted (k := 1) B ⟨_, _, PySem.W.mg_of X G a20, F20⟩ (h_L_cell_at := h_L_cell_at.mono (by decide))
  have h_L_low : Has ⟨l.prog, w, K, mg, base⟩ 1 "_law_low" c_L_low := has_L_low (k := 0) B ⟨_, _, PySem.W.mg_of X G a21, F21⟩
  have h_L_weights : Has ⟨l.prog, w, K, mg, base⟩ 1 "_law_weights" c_L_weights := has_L_weights (k := 0) B ⟨_, _, PySem.W.mg_of X G a22, F22⟩
  have h_L_chosen : Has ⟨l.prog, w, K, mg, base⟩ 1 "_law_chosen" c_L_chosen := has_L_chosen (k := 0) B ⟨_, _, PySem.W.mg_of X G a23, F23⟩
  have h_L_put : Has ⟨l.prog, w, K, mg, base⟩ 1 "_law_put" c_L_put := has_L_put (k := 0) B ⟨_, _, PySem.W.mg_of X G a24, F24⟩
  have h_L_changed : Has ⟨l.prog, w, K, mg, base⟩ 2 "_law_changed" c_L_changed := has_L_changed (k := 1) B ⟨_, _, PySem.W.mg_of X G a25, F25⟩ (h_L_low := h_L_low.mono (by decide)) (h_L_put := h_L_put.mono (by decide))
  have h_L_due : Has ⟨l.prog, w, K, mg, base⟩ 1 "_law_due" c_L_due := has_L_due (k := 0) B ⟨_, _, PySem.W.mg_of X G a26, F26⟩
  exact FnOk.imp (fn_ok F27 sc_law ln_script fun X C ds R h => bd_law B (h_body_of := h_body_of.mono (by decide)) (h_L_slanted := h_L_slanted.mono (by decide)) (h_L_chosen := h_L_chosen.mono (by decide)) (h_L_weights := h_L_weights.mono (by decide)) (h_L_changed := h_L_changed.mono (by decide)) (h_shares_show := h_shares_show.mono (by decide)) (h_L_near := h_L_near.mono (by decide)) (h_L_put := h_L_put.mono (by decide)) (h_L_due := h_L_due.mono (by decide)) (h_L_low := h_L_low.mono (by decide)) X C ds R h) spL_D
end DW
open PySem PySem.W PyProof.Rows
set_option maxHeartbeats 0 in
theorem PySem.Challenge.cw_stakebodies_k33_shares_judged_holds : PySem.Challenge.rw_stakebodies_k33_shares_judged.Holds := by
  w_on; o_law; k_head; (case hw => w_witness2)
  k_fill
  refine L2.walk_ofB (l := PySem.Challenge.rw_stakebodies_k33_shares_judged) (n := 63) (k := 7) (x := "script") (CX := fun w => L2.CX (PySem.Challenge.rw_stakebodies_k33_shares_judged).prog w) (sp := fun w => DW.spL _ DW.c_script) rfl (by decide) rfl ⟨rfl, by decide, by decide⟩ (fun w h Y => PySem.W.kIn_of Y) ?F (fun _ _ a ns hl hb _ hS => DW.sp_script hl hb hS) (fun _ _ _ _ _ h => by obtain ⟨_, _, _, _, _, _, _, _, _, _, _, _, z⟩ := h; exact z)
  case F =>
    intro w mg fa h KX G hmg
    refine' DW.all_mk KX G hmg ?a0 ?q0 ?c0 ?k0 ?a1 ?q1 ?c1 ?k1 ?a2 ?q2 ?c2 ?k2 ?a3 ?q3 ?c3 ?k3 ?a4 ?q4 ?c4 ?k4 ?a5 ?q5 ?c5 ?k5 ?a6 ?q6 ?c6 ?k6 ?a7 ?q7 ?c7 ?k7 ?a8 ?q8 ?c8 ?k8 ?a9 ?q9 ?c9 ?k9 ?a10 ?q10 ?c10 ?k10 ?a11 ?q11 ?c11 ?k11 ?a12 ?q12 ?c12 ?k12 ?a13 ?q13 ?c13 ?k13 ?a14 ?q14 ?c14 ?k14 ?a15 ?q15 ?c15 ?k15 ?a16 ?q16 ?c16 ?k16 ?a17 ?q17 ?c17 ?k17 ?a18 ?q18 ?c18 ?k18 ?a19 ?q19 ?c19 ?k19 ?a20 ?q20 ?c20 ?k20 ?a21 ?q21 ?c21 ?k21 ?a22 ?q22 ?c22 ?k22 ?a23 ?q23 ?c23 ?k23 ?a24 ?q24 ?c24 ?k24 ?a25 ?q25 ?c25 ?k25 ?a26 ?q26 ?c26 ?k26 ?a27 ?q27 ?c27 ?k27 ?z_len ?z_abs ?z_max ?z_min ?z_int ?z_bool ?z_str ?z_sum ?z_isinstance ?z_tuple ?z_list ?z_dict ?z_set ?z_sorted ?z_range ?z_zip ?z_reversed ?z_enumerate ?u_NOWAY
    (case a0 => k_is)
    (case q0 => k_is)
    (case c0 => k_is)
    (case k0 => k_is)
    (case a1 => k_is)
    (case q1 => k_is)
    (case c1 => k_is)
    (case k1 => k_is)
    (case a2 => k_is)
    (case q2 => k_is)
    (case c2 => k_is)
    (case k2 => k_is)
    (case a3 => k_is)
    (case q3 => k_is)
    (case c3 => k_is)
    (case k3 => k_is)
    (case a4 => k_is)
    (case q4 => k_is)
    (case c4 => k_is)
    (case k4 => k_is)
    (case a5 => k_is)
    (case q5 => k_is)
    (case c5 => k_is)
    (case k5 => k_is)
    (case a6 => k_is)
    (case q6 => k_is)
    (case c6 => k_is)
    (case k6 => k_is)
    (case a7 => k_is)
    (case q7 => k_is)
    (case c7 => k_is)
    (case k7 => k_is)
    (case a8 => k_is)
    (case q8 => k_is)
    (case c8 => k_is)
    (case k8 => k_is)
    (case a9 => k_is)
    (case q9 => k_is)
    (case c9 => k_is)
    (case k9 => k_is)
    (case a10 => k_is)
    (case q10 => k_is)
    (case c10 => k_is)
    (case k10 => k_is)
    (case a11 => k_is)
    (case q11 => k_is)
    (case c11 => k_is)
    (case k11 => k_is)
    (case a12 => k_is)
    (case q12 => k_is)
    (case c12 => k_is)
    (case k12 => k_is)
    (case a13 => k_is)
    (case q13 => k_is)
    (case c13 => k_is)
    (case k13 => k_is)
    (case a14 => k_is)
    (case q14 => k_is)
    (case c14 => k_is)
    (case k14 => k_is)
    (case a15 => k_is)
    (case q15 => k_is)
    (case c15 => k_is)
    (case k15 => k_is)
    (case a16 => k_is)
    (case q16 => k_is)
    (case c16 => k_is)
    (case k16 => k_is)
    (case a17 => k_is)
    (case q17 => k_is)
    (case c17 => k_is)
    (case k17 => k_is)
    (case a18 => k_is)
    (case q18 => k_is)
    (case c18 => k_is)
    (case k18 => k_is)
    (case a19 => k_is)
    (case q19 => k_is)
    (case c19 => k_is)
    (case k19 => k_is)
    (case a20 => k_is)
    (case q20 => k_is)
    (case c20 => k_is)
    (case k20 => k_is)
    (case a21 => k_is)
    (case q21 => k_is)
    (case c21 => k_is)
    (case k21 => k_is)
    (case a22 => k_is)
    (case q22 => k_is)
    (case c22 => k_is)
    (case k22 => k_is)
    (case a23 => k_is)
    (case q23 => k_is)
    (case c23 => k_is)
    (case k23 => k_is)
    (case a24 => k_is)
    (case q24 => k_is)
    (case c24 => k_is)
    (case k24 => k_is)
    (case a25 => k_is)
    (case q25 => k_is)
    (case c25 => k_is)
    (case k25 => k_is)
    (case a26 => k_is)
    (case q26 => k_is)
    (case c26 => k_is)
    (case k26 => k_is)
    (case a27 => k_is)
    (case q27 => k_is)
    (case c27 => k_is)
    (case k27 => k_is)
    (case z_len => k_is)
    (case z_abs => k_is)
    (case z_max => k_is)
    (case z_min => k_is)
    (case z_int => k_is)
    (case z_bool => k_is)
    (case z_str => k_is)
    (case z_sum => k_is)
    (case z_isinstance => k_is)
    (case z_tuple => k_is)
    (case z_list => k_is)
    (case z_dict => k_is)
    (case z_set => k_is)
    (case z_sorted => k_is)
    (case z_range => k_is)
    (case z_zip => k_is)
    (case z_reversed => k_is)
    (case z_enumerate => k_is)
    (case u_NOWAY => exact ⟨_, _, _, _, by k_is, by k_is, rfl, rfl, by decide, by repeat' first | exact .nil | refine .cons ⟨_, rfl⟩ ?_⟩)
