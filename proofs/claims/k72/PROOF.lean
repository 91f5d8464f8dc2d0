import PyProof.Rows.All
import Wide.All
import OpenK.AllK
import Wide.FinOn
import HandS.ForMost
import HandS.ForExc
import HandS.Wide
import HandS.IsInst
import HandS.TupAny
import HandS.Deep
import HandS.EndBits
import KE.KOwnCellsLaws
import HandS.Style
import HandS.NoneIn
import HandS.ExcIs
import HandS.ExcOwn
import KE.SortData
import KE.KDictKeyed
import KE.KDictDisplayH
import KE.KDictCopyH
import KE.KDictSum
import KE.DataMinMax
import HandS.TupSets
import PySem.Challenge.RW_stakebodies_k72_moves_done
set_option Elab.async false
set_option linter.all false
set_option maxRecDepth 100000
set_option maxHeartbeats 4000000
set_option autoImplicit false
set_option Elab.async false
set_option linter.all false
set_option maxRecDepth 100000
set_option maxHeartbeats 4000000
set_option autoImplicit false
namespace DW
open PySem PySem.Spec PyProof.Rows L2

abbrev D := PyData
variable {K : PySem.W.Frag}

/-! ### data stays data while what is tracked stands -/
theorem same_sqT {H H' : Hp} {a : Addr} {xs : List V} (e : Same H H') (h : SqT K H a xs) : SqT K H' a xs := by
  rcases h with (h | ⟨o, h⟩) | h
  · exact .inl (.inl (e _ _ h))
  · exact .inl (.inr ⟨o, e _ _ h⟩)
  · exact .inr h
mutual
theorem dp_mono {B B' : Hp} (e : Same B B') : ∀ (d : D) (v : V), Dp K B v d → Dp K B' v d
  | .none, _, h => by
    cases h
    exact .non
  | .bool b, _, h => by
    cases h
    exact .bl _
  | .int i, _, h => by
    cases h
    exact .int _
  | .str x, _, h => by
    cases h
    exact .str _
  | .list ds, _, h => by
    cases h with
    | lst hx ht => exact .lst (e.seq hx) (dpa_mono e ds _ ht)
  | .tuple ds, _, h => by
    cases h with
    | tup hx ht => exact .tup (same_sqT e hx) (dpa_mono e ds _ ht)
  | .dict _, _, h => by
    cases h
theorem dpa_mono {B B' : Hp} (e : Same B B') : ∀ (ds : List D) (vs : List V), DpAll K B vs ds → DpAll K B' vs ds
  | [], _, h => by
    cases h
    exact .nil
  | d :: ds, _, h => by
    cases h with
    | cons h1 h2 => exact .cons (dp_mono e d _ h1) (dpa_mono e ds _ h2)
end
theorem moD {B B' : Hp} {v : V} {d : D} (h : Dp K B v d) (e : Same B B') : Dp K B' v d := dp_mono e d v h
theorem moA {B B' : Hp} {vs : List V} {ds : List D} (h : DpAll K B vs ds) (e : Same B B') : DpAll K B' vs ds := dpa_mono e ds vs h
theorem dpa_len : ∀ {B : Hp} {ds : List D} {vs : List V}, DpAll K B vs ds → vs.length = ds.length
  | _, [], _, h => by
    cases h
    rfl
  | _, d :: ds, _, h => by
    cases h with
    | cons h1 h2 => rw [List.length_cons, List.length_cons, dpa_len h2]
theorem dpa_get : ∀ {B : Hp} {ds : List D} {vs : List V} {i : Nat} {d : D}, DpAll K B vs ds → ds[i]? = some d → ∃ v, vs[i]? = some v ∧ Dp K B v d
  | _, [], _, _, _, _, e => by simp at e
  | _, d :: ds, _, 0, _, h, e => by
    cases h with
    | cons h1 h2 =>
      have e' : d = _ := Option.some.inj e
      subst e'
      exact ⟨_, rfl, h1⟩
  | _, d :: ds, _, i + 1, _, h, e => by
    cases h with
    | cons h1 h2 =>
      obtain ⟨v, a, b⟩ := dpa_get (i := i) h2 (by simpa using e)
      exact ⟨v, by simpa using a, b⟩
theorem dpa_getV : ∀ {B : Hp} {ds : List D} {vs : List V} {i : Nat} {v : V}, DpAll K B vs ds → vs[i]? = some v → ∃ d, ds[i]? = some d ∧ Dp K B v d
  | _, _, [], _, _, _, e => by simp at e
  | _, [], _ :: _, _, _, h, _ => by cases h
  | _, d :: ds, v :: vs, 0, _, h, e => by
    cases h with
    | cons h1 h2 =>
      have e' : v = _ := Option.some.inj e
      subst e'
      exact ⟨_, rfl, h1⟩
  | _, d :: ds, v :: vs, i + 1, _, h, e => by
    cases h with
    | cons h1 h2 =>
      obtain ⟨d', a, b⟩ := dpa_getV (i := i) h2 (by simpa using e)
      exact ⟨d', by simpa using a, b⟩
theorem dpa_app : ∀ {B : Hp} {ds es : List D} {vs us : List V}, DpAll K B vs ds → DpAll K B us es → DpAll K B (vs ++ us) (ds ++ es)
  | _, [], _, _, _, h, g => by
    cases h
    exact g
  | _, d :: ds, _, _, _, h, g => by
    cases h with
    | cons h1 h2 => exact .cons h1 (dpa_app h2 g)
theorem dpa_take : ∀ {B : Hp} {ds : List D} {vs : List V} (n : Nat), DpAll K B vs ds → DpAll K B (vs.take n) (ds.take n)
  | _, _, _, 0, _ => by
    rw [List.take_zero, List.take_zero]
    exact .nil
  | _, [], _, _ + 1, h => by
    cases h
    exact .nil
  | _, d :: ds, _, n + 1, h => by
    cases h with
    | cons h1 h2 => exact .cons h1 (dpa_take n h2)
theorem dpa_drop : ∀ {B : Hp} {ds : List D} {vs : List V} (n : Nat), DpAll K B vs ds → DpAll K B (vs.drop n) (ds.drop n)
  | _, _, _, 0, h => h
  | _, [], _, _ + 1, h => by
    cases h
    exact .nil
  | _, d :: ds, _, n + 1, h => by
    cases h with
    | cons h1 h2 => exact dpa_drop n h2
theorem dpa_set : ∀ {B : Hp} {ds : List D} {vs : List V} {v : V} {d : D} (n : Nat), DpAll K B vs ds → Dp K B v d → DpAll K B (vs.set n v) (ds.set n d)
  | _, [], _, _, _, _, h, _ => by
    cases h
    exact .nil
  | _, e :: ds, _, _, _, 0, h, g => by
    cases h with
    | cons h1 h2 => exact .cons g h2
  | _, e :: ds, _, _, _, n + 1, h, g => by
    cases h with
    | cons h1 h2 => exact .cons h1 (dpa_set n h2 g)
theorem dp_int {B : Hp} {v : V} {i : Int} (h : Dp K B v (.int i)) : v = .int i := by
  cases h
  rfl
theorem dp_bl {B : Hp} {v : V} {i : Bool} (h : Dp K B v (.bool i)) : v = .bl i := by
  cases h
  rfl
theorem dp_str {B : Hp} {v : V} {i : Str} (h : Dp K B v (.str i)) : v = .str i := by
  cases h
  rfl
theorem dp_non {B : Hp} {v : V} (h : Dp K B v .none) : v = .non := by
  cases h
  rfl
theorem dp_tup {B : Hp} {v : V} {ds : List D} (h : Dp K B v (.tuple ds)) : ∃ a xs, v = .ref a ∧ SqT K B a xs ∧ DpAll K B xs ds := by
  cases h with
  | tup h1 h2 => exact ⟨_, _, rfl, h1, h2⟩
theorem dp_lst {B : Hp} {v : V} {ds : List D} (h : Dp K B v (.list ds)) : ∃ a xs, v = .ref a ∧ SqL K B a xs ∧ DpAll K B xs ds := by
  cases h with
  | lst h1 h2 => exact ⟨_, _, rfl, h1, h2⟩

/-! ### growth: B is what is settled, H what is tracked -/
structure Grow (B H B' H' : Hp) : Prop where
  b : Same B B'
  h : Same H H'
  bh : Same B' H'
  n : ∀ a, H a ≠ none → B a = none → B' a = none
section
variable {B H B1 H1 B2 H2 : Hp} {p : Addr} {o : HO}
theorem Grow.refl (e : Same B H) : Grow B H B H := ⟨Same.refl _, Same.refl _, e, fun _ _ h => h⟩
theorem Grow.trans (x : Grow B H B1 H1) (y : Grow B1 H1 B2 H2) : Grow B H B2 H2 := by
  refine ⟨x.b.trans y.b, x.h.trans y.h, y.bh, fun a ha hb => y.n a (fun z => ?_) (x.n a ha hb)⟩
  cases e : H a with
  | none => exact ha e
  | some u =>
    rw [x.h a u e] at z
    cases z
theorem same_new (h : H p = none) : Same H (upd H p o) := fun b u e => by
  rw [upd_ne (ne_of_none e h)]
  exact e
theorem same_out (e : Same B H) (h : B p = none) : Same B (upd H p o) := fun b u q => by
  rw [upd_ne (ne_of_none q h)]
  exact e b u q
theorem same_none (e : Same B H) (h : H p = none) : B p = none := e.free h
theorem Grow.new (e : Same B H) (h : H p = none) : Grow B H (upd B p o) (upd H p o) := by
  refine ⟨same_new (same_none e h), same_new h, fun b u q => ?_, fun a ha hb => ?_⟩
  · by_cases hb : b = p
    · subst hb
      rw [upd_same] at q ⊢
      exact q
    · rw [upd_ne hb] at q ⊢
      exact e b u q
  · rw [upd_ne (fun z => ha (by rw [z]; exact h))]
    exact hb
theorem Grow.own (e : Same B H) (h : H p = none) : Grow B H B (upd H p o) := ⟨Same.refl _, same_new h, same_out e (same_none e h), fun _ _ hb => hb⟩
/-- what was new may be settled -/
theorem Grow.settle (g : Grow B H B1 H1) (h0 : H p = none) (h1 : B1 p = none) (h2 : H1 p = some o) : Grow B H (upd B1 p o) H1 := by
  refine ⟨g.b.trans (same_new h1), g.h, fun b u q => ?_, fun a ha hb => ?_⟩
  · by_cases hb : b = p
    · subst hb
      rw [upd_same] at q
      cases q
      exact h2
    · rw [upd_ne hb] at q
      exact g.bh b u q
  · rw [upd_ne (fun z => ha (by rw [z]; exact h0))]
    exact g.n a ha hb
theorem Grow.bh0 (g : Grow B H B1 H1) : Same B H1 := g.b.trans g.bh
end

/-! ### slots -/
/-- an object of one's own that is no list -/
structure Ob where
  R : Hp → Hp → Addr → Prop
  gr : ∀ B H B' H' p, Same B B' → Same H H' → R B H p → R B' H' p
  fr : ∀ B H p q o, q ≠ p → R B H p → R B (upd H q o) p
inductive Sl where
  | no
  | fz (d : D)
  | ow (ds : List D)
  | ob (R : Ob)
  | ex (a : Addr)
def Sl.own : Sl → Bool
  | .ow _ => true
  | .ob _ => true
  | _ => false
structure Bs where
  B : Hp
  H : Hp
def SlR (K : PySem.W.Frag) (bs : Bs) (B H : Hp) (o : Option V) : Sl → Prop
  | .no => True
  | .fz d => ∃ v, o = some v ∧ Dp K B v d
  | .ow ds => ∃ p vs, o = some (.ref p) ∧ bs.H p = none ∧ B p = none ∧ H p = some (.lst vs) ∧ DpAll K B vs ds
  | .ob R => ∃ p, o = some (.ref p) ∧ bs.H p = none ∧ B p = none ∧ H p ≠ none ∧ R.R B H p
  | .ex a => o = some (.ref a)
abbrev Gm := List Sl
structure Sat (K : PySem.W.Frag) (bs : Bs) (G : Gm) (B : Hp) (σ : L2.St) (H : Hp) : Prop where
  gr : Grow bs.B bs.H B H
  len : σ.length = G.length
  sl : ∀ (i : Nat) s o, G[i]? = some s → σ[i]? = some o → SlR K bs B H o s
  na : ∀ (i j : Nat) s t p, i ≠ j → G[i]? = some s → G[j]? = some t → s.own = true → t.own = true → σ[i]? = some (some (.ref p)) → σ[j]? = some (some (.ref p)) → False
section
variable {bs : Bs} {G : Gm} {B H B' H' : Hp} {σ : L2.St}
theorem SlR.gro {o : Option V} {s : Sl} (h : SlR K bs B H o s) (g : Grow B H B' H') : SlR K bs B' H' o s := by
  cases s with
  | ex a => exact h
  | no => trivial
  | fz d =>
    obtain ⟨v, e, q⟩ := h
    exact ⟨v, e, moD q g.b⟩
  | ow ds =>
    obtain ⟨p, vs, e, q0, q1, q2, q3⟩ := h
    exact ⟨p, vs, e, q0, g.n p (by rw [q2]; simp) q1, g.h p _ q2, moA q3 g.b⟩
  | ob R =>
    obtain ⟨p, e, q0, q1, q2, q3⟩ := h
    refine ⟨p, e, q0, g.n p q2 q1, fun z => ?_, R.gr B H B' H' p g.b g.h q3⟩
    cases e2 : H p with
    | none => exact q2 e2
    | some u =>
      rw [g.h p u e2] at z
      cases z
theorem Sat.bh (S : Sat K bs G B σ H) : Same B H := S.gr.bh
theorem Sat.gro (S : Sat K bs G B σ H) (g : Grow B H B' H') : Sat K bs G B' σ H' := ⟨S.gr.trans g, S.len, fun i s o h1 h2 => (S.sl i s o h1 h2).gro g, S.na⟩
theorem Sat.fz {i : Nat} {d : D} (S : Sat K bs G B σ H) (h : G[i]? = some (.fz d)) : ∃ v, σ[i]? = some (some v) ∧ Dp K B v d := by
  have hi : i < σ.length := by
    rw [S.len]
    exact (List.getElem?_eq_some_iff.mp h).1
  have e : σ[i]? = some σ[i] := List.getElem?_eq_getElem hi
  obtain ⟨v, e2, q⟩ := S.sl i _ _ h e
  exact ⟨v, by rw [e, e2], q⟩
theorem Sat.ow {i : Nat} {ds : List D} (S : Sat K bs G B σ H) (h : G[i]? = some (.ow ds)) : ∃ p vs, σ[i]? = some (some (.ref p)) ∧ bs.H p = none ∧ B p = none ∧ H p = some (.lst vs) ∧ DpAll K B vs ds := by
  have hi : i < σ.length := by
    rw [S.len]
    exact (List.getElem?_eq_some_iff.mp h).1
  have e : σ[i]? = some σ[i] := List.getElem?_eq_getElem hi
  obtain ⟨p, vs, e2, q⟩ := S.sl i _ _ h e
  exact ⟨p, vs, by rw [e, e2], q⟩
theorem Sat.obj {i : Nat} {R : Ob} (S : Sat K bs G B σ H) (h : G[i]? = some (.ob R)) : ∃ p, σ[i]? = some (some (.ref p)) ∧ bs.H p = none ∧ B p = none ∧ H p ≠ none ∧ R.R B H p := by
  have hi : i < σ.length := by
    rw [S.len]
    exact (List.getElem?_eq_some_iff.mp h).1
  have e : σ[i]? = some σ[i] := List.getElem?_eq_getElem hi
  obtain ⟨p, e2, q⟩ := S.sl i _ _ h e
  exact ⟨p, by rw [e, e2], q⟩
/-- one's own things at other slots -/
theorem Sat.apart {i j : Nat} {s t : Sl} {p q : Addr} (S : Sat K bs G B σ H) (hij : i ≠ j) (hi : G[i]? = some s) (hj : G[j]? = some t) (si : s.own = true) (sj : t.own = true) (ei : σ[i]? = some (some (.ref p))) (ej : σ[j]? = some (some (.ref q))) : p ≠ q := fun e => by
  subst e
  exact S.na i j s t p hij hi hj si sj ei ej
theorem set_get {α : Type} {l : List α} {i j : Nat} {x y : α} (h : (l.set i x)[j]? = some y) : (j = i ∧ y = x ∧ i < l.length) ∨ (j ≠ i ∧ l[j]? = some y) := by
  by_cases e : i = j
  · subst e
    by_cases hl : i < l.length
    · rw [List.getElem?_set_self hl] at h
      exact .inl ⟨rfl, (Option.some.inj h).symm, hl⟩
    · rw [List.getElem?_eq_none (by rw [List.length_set]; omega)] at h
      cases h
  · rw [List.getElem?_set_ne e] at h
    exact .inr ⟨fun z => e z.symm, h⟩
/-- a slot gets data -/
theorem Sat.setF {i : Nat} {v : V} {d : D} (S : Sat K bs G B σ H) (q : Dp K B v d) : Sat K bs (G.set i (.fz d)) B (σ.set i (some v)) H := by
  refine ⟨S.gr, by rw [List.length_set, List.length_set, S.len], fun j s o h1 h2 => ?_, fun j k s t p hjk h1 h2 s1 s2 e1 e2 => ?_⟩
  · rcases set_get h1 with ⟨e, es, hl⟩ | ⟨e, h1'⟩
    · subst e es
      rcases set_get h2 with ⟨_, eo, _⟩ | ⟨z, _⟩
      · subst eo
        exact ⟨v, rfl, q⟩
      · exact (z rfl).elim
    · rcases set_get h2 with ⟨z, _, _⟩ | ⟨_, h2'⟩
      · exact (e z).elim
      · exact S.sl j s o h1' h2'
  · rcases set_get h1 with ⟨_, es, _⟩ | ⟨n1, h1'⟩
    · subst es
      cases s1
    · rcases set_get h2 with ⟨_, es, _⟩ | ⟨n2, h2'⟩
      · subst es
        cases s2
      · rcases set_get e1 with ⟨z, _, _⟩ | ⟨_, e1'⟩
        · exact (n1 z).elim
        · rcases set_get e2 with ⟨z, _, _⟩ | ⟨_, e2'⟩
          · exact (n2 z).elim
          · exact S.na j k s t p hjk h1' h2' s1 s2 e1' e2'
/-- a slot forgotten -/
theorem Sat.setN {i : Nat} {o : Option V} (S : Sat K bs G B σ H) : Sat K bs (G.set i .no) B (σ.set i o) H := by
  refine ⟨S.gr, by rw [List.length_set, List.length_set, S.len], fun j s o h1 h2 => ?_, fun j k s t p hjk h1 h2 s1 s2 e1 e2 => ?_⟩
  · rcases set_get h1 with ⟨e, es, hl⟩ | ⟨e, h1'⟩
    · subst e es
      trivial
    · rcases set_get h2 with ⟨z, _, _⟩ | ⟨_, h2'⟩
      · exact (e z).elim
      · exact S.sl j s o h1' h2'
  · rcases set_get h1 with ⟨_, es, _⟩ | ⟨n1, h1'⟩
    · subst es
      cases s1
    · rcases set_get h2 with ⟨_, es, _⟩ | ⟨n2, h2'⟩
      · subst es
        cases s2
      · rcases set_get e1 with ⟨z, _, _⟩ | ⟨_, e1'⟩
        · exact (n1 z).elim
        · rcases set_get e2 with ⟨z, _, _⟩ | ⟨_, e2'⟩
          · exact (n2 z).elim
          · exact S.na j k s t p hjk h1' h2' s1 s2 e1' e2'
/-- a caught exception -/
theorem Sat.setE {i : Nat} {a : Addr} (S : Sat K bs G B σ H) : Sat K bs (G.set i (.ex a)) B (σ.set i (some (.ref a))) H := by
  refine ⟨S.gr, by rw [List.length_set, List.length_set, S.len], fun j s o h1 h2 => ?_, fun j k s t p hjk h1 h2 s1 s2 e1 e2 => ?_⟩
  · rcases set_get h1 with ⟨e, es, hl⟩ | ⟨e, h1'⟩
    · subst e es
      rcases set_get h2 with ⟨_, eo, _⟩ | ⟨z, _⟩
      · exact eo
      · exact (z rfl).elim
    · rcases set_get h2 with ⟨z, _, _⟩ | ⟨_, h2'⟩
      · exact (e z).elim
      · exact S.sl j s o h1' h2'
  · rcases set_get h1 with ⟨_, es, _⟩ | ⟨n1, h1'⟩
    · subst es
      cases s1
    · rcases set_get h2 with ⟨_, es, _⟩ | ⟨n2, h2'⟩
      · subst es
        cases s2
      · rcases set_get e1 with ⟨z, _, _⟩ | ⟨_, e1'⟩
        · exact (n1 z).elim
        · rcases set_get e2 with ⟨z, _, _⟩ | ⟨_, e2'⟩
          · exact (n2 z).elim
          · exact S.na j k s t p hjk h1' h2' s1 s2 e1' e2'
/-- what a slot holds is forgotten, the value stays -/
theorem Sat.forget {i : Nat} (S : Sat K bs G B σ H) : Sat K bs (G.set i .no) B σ H := by
  refine ⟨S.gr, by rw [List.length_set, S.len], fun j s o h1 h2 => ?_, fun j k s t p hjk h1 h2 s1 s2 e1 e2 => ?_⟩
  · rcases set_get h1 with ⟨e, es, hl⟩ | ⟨e, h1'⟩
    · subst e es
      trivial
    · exact S.sl j s o h1' h2
  · rcases set_get h1 with ⟨_, es, _⟩ | ⟨n1, h1'⟩
    · subst es
      cases s1
    · rcases set_get h2 with ⟨_, es, _⟩ | ⟨n2, h2'⟩
      · subst es
        cases s2
      · exact S.na j k s t p hjk h1' h2' s1 s2 e1 e2
/-- a slot gets a thing of one's own that is new since (B, H) -/
theorem Sat.setO {i : Nat} {p : Addr} {s : Sl} (S : Sat K bs G B σ H) (g : Grow B H B' H') (hp : H p = none) (ho : s.own = true) (hs : SlR K bs B' H' (some (.ref p)) s) : Sat K bs (G.set i s) B' (σ.set i (some (.ref p))) H' := by
  have S' := S.gro g
  have old : ∀ (j : Nat) t q, G[j]? = some t → t.own = true → σ[j]? = some (some (.ref q)) → q ≠ p := fun j t q h1 h2 h3 z => by
    subst z
    have r := S.sl j t _ h1 h3
    cases t with
    | ex a => cases h2
    | no => cases h2
    | fz d => cases h2
    | ow ds =>
      obtain ⟨p', vs, e, _, _, q2, _⟩ := r
      cases e
      rw [hp] at q2
      cases q2
    | ob R =>
      obtain ⟨p', e, _, _, q2, _⟩ := r
      cases e
      exact q2 hp
  refine ⟨S'.gr, by rw [List.length_set, List.length_set, S.len], fun j t o h1 h2 => ?_, fun j k t u q hjk h1 h2 s1 s2 e1 e2 => ?_⟩
  · rcases set_get h1 with ⟨e, es, hl⟩ | ⟨e, h1'⟩
    · subst e es
      rcases set_get h2 with ⟨_, eo, _⟩ | ⟨z, _⟩
      · subst eo
        exact hs
      · exact (z rfl).elim
    · rcases set_get h2 with ⟨z, _, _⟩ | ⟨_, h2'⟩
      · exact (e z).elim
      · exact S'.sl j t o h1' h2'
  · rcases set_get h1 with ⟨ej, es, _⟩ | ⟨n1, h1'⟩
    · rcases set_get h2 with ⟨ek, _, _⟩ | ⟨n2, h2'⟩
      · exact hjk (ej.trans ek.symm)
      · rcases set_get e1 with ⟨_, eq, _⟩ | ⟨z, _⟩
        · rcases set_get e2 with ⟨z, _, _⟩ | ⟨_, e2'⟩
          · exact n2 z
          · cases eq
            exact old k u _ h2' s2 e2' rfl
        · exact z ej
    · rcases set_get e1 with ⟨z, _, _⟩ | ⟨_, e1'⟩
      · exact n1 z
      · rcases set_get h2 with ⟨ek, es, _⟩ | ⟨n2, h2'⟩
        · rcases set_get e2 with ⟨_, eq, _⟩ | ⟨z, _⟩
          · cases eq
            exact old j t _ h1' s1 e1' rfl
          · exact z ek
        · rcases set_get e2 with ⟨z, _, _⟩ | ⟨_, e2'⟩
          · exact n2 z
          · exact S'.na j k t u q hjk h1' h2' s1 s2 e1' e2'
/-- one's own list at slot i changes -/
theorem Sat.mutL {i : Nat} {p : Addr} {ds es : List D} {us : List V} (S : Sat K bs G B σ H) (h : G[i]? = some (.ow ds)) (hp : σ[i]? = some (some (.ref p))) (q : DpAll K B us es) : Sat K bs (G.set i (.ow es)) B σ (upd H p (.lst us)) := by
  obtain ⟨p', vs, e, q0, q1, q2, q3⟩ := S.ow h
  rw [hp] at e
  cases e
  have hi : i < G.length := (List.getElem?_eq_some_iff.mp h).1
  refine ⟨⟨S.gr.b, fun b o z => ?_, same_out S.bh q1, S.gr.n⟩, by rw [List.length_set, S.len], fun j s o h1 h2 => ?_, fun j k s t a hjk h1 h2 s1 s2 e1 e2 => ?_⟩
  · rw [upd_ne (ne_of_none z q0)]
    exact S.gr.h b o z
  · rcases set_get h1 with ⟨ej, es, hl⟩ | ⟨ej, h1'⟩
    · subst ej es
      rw [hp] at h2
      cases h2
      exact ⟨p, us, rfl, q0, q1, upd_same, q⟩
    · have r := S.sl j s o h1' h2
      cases s with
      | ex a => exact r
      | no => trivial
      | fz d => exact r
      | ow ds' =>
        obtain ⟨p2, vs2, e2, r0, r1, r2, r3⟩ := r
        subst e2
        have ne : p ≠ p2 := S.apart (fun z => ej z.symm) h h1' rfl rfl hp h2
        exact ⟨p2, vs2, rfl, r0, r1, by rw [upd_ne ne.symm]; exact r2, r3⟩
      | ob R =>
        obtain ⟨p2, e2, r0, r1, r2, r3⟩ := r
        subst e2
        have ne : p ≠ p2 := S.apart (fun z => ej z.symm) h h1' rfl rfl hp h2
        exact ⟨p2, rfl, r0, r1, by rw [upd_ne ne.symm]; exact r2, R.fr B H p2 p _ ne r3⟩
  · have own : ∀ (m : Nat) s, (G.set i (.ow es))[m]? = some s → s.own = true → ∃ s', G[m]? = some s' ∧ s'.own = true := fun m s a1 a2 => by
      rcases set_get a1 with ⟨em, _, _⟩ | ⟨_, a1'⟩
      · subst em
        exact ⟨_, h, rfl⟩
      · exact ⟨s, a1', a2⟩
    obtain ⟨s', g1, g2⟩ := own j s h1 s1
    obtain ⟨t', g3, g4⟩ := own k t h2 s2
    exact S.na j k s' t' a hjk g1 g3 g2 g4 e1 e2
/-- one's own list is settled -/
theorem Sat.settle {i : Nat} {ds : List D} (S : Sat K bs G B σ H) (h : G[i]? = some (.ow ds)) : ∃ B', Same B B' ∧ Sat K bs (G.set i (.fz (.list ds))) B' σ H := by
  obtain ⟨p, vs, e, q0, q1, q2, q3⟩ := S.ow h
  have sb : Same B (upd B p (.lst vs)) := same_new q1
  refine ⟨upd B p (.lst vs), sb, ⟨S.gr.settle q0 q1 q2, by rw [List.length_set, S.len], fun j s o h1 h2 => ?_, fun j k s t a hjk h1 h2 s1 s2 e1 e2 => ?_⟩⟩
  · rcases set_get h1 with ⟨ej, es, hl⟩ | ⟨ej, h1'⟩
    · subst ej es
      rw [e] at h2
      cases h2
      exact ⟨.ref p, rfl, .lst (.inl (.inl upd_same)) (moA q3 sb)⟩
    · have r := S.sl j s o h1' h2
      cases s with
      | ex a => exact r
      | no => trivial
      | fz d =>
        obtain ⟨v, e1, r1⟩ := r
        exact ⟨v, e1, moD r1 sb⟩
      | ow ds' =>
        obtain ⟨p2, vs2, e2, r0, r1, r2, r3⟩ := r
        subst e2
        have ne : p ≠ p2 := S.apart (fun z => ej z.symm) h h1' rfl rfl e h2
        exact ⟨p2, vs2, rfl, r0, by rw [upd_ne ne.symm]; exact r1, r2, moA r3 sb⟩
      | ob R =>
        obtain ⟨p2, e2, r0, r1, r2, r3⟩ := r
        subst e2
        have ne : p ≠ p2 := S.apart (fun z => ej z.symm) h h1' rfl rfl e h2
        refine ⟨p2, rfl, r0, by rw [upd_ne ne.symm]; exact r1, r2, ?_⟩
        exact R.gr B H (upd B p (.lst vs)) H p2 sb (Same.refl _) r3
  · rcases set_get h1 with ⟨_, es, _⟩ | ⟨n1, h1'⟩
    · subst es
      cases s1
    · rcases set_get h2 with ⟨_, es, _⟩ | ⟨n2, h2'⟩
      · subst es
        cases s2
      · exact S.na j k s t a hjk h1' h2' s1 s2 e1 e2
end
end DW

set_option Elab.async false
set_option linter.all false
set_option maxRecDepth 100000
set_option maxHeartbeats 4000000
set_option autoImplicit false
namespace DW
open PySem PySem.Spec PyProof.Rows L2

/-! ### the code's own wish -/
def tE (X : Cx) (e : Expr) : TE := fun σ H Q => ∀ (pins : List (Addr × Obj)) (s : Shared), Inv X pins σ H s → wpAny (model X.prog X.w) X.A (eval e X.env) (EP X pins σ Q) X.xe s
def tT (X : Cx) (e : Expr) : TT := fun σ H Q => ∀ (pins : List (Addr × Obj)) (s : Shared), Inv X pins σ H s → wpAny (model X.prog X.w) X.A (isTrue e X.env (eval e X.env)) (TP X pins σ Q) X.xe s
def tA (X : Cx) (es : List Expr) : TA := fun σ H Q => ∀ (pos : Pos) (pins : List (Addr × Obj)) (s : Shared), Inv X pins σ H s → wpAny (model X.prog X.w) X.A (spliced (backTo pos (starEach es X.env))) (AP X pins σ Q) X.xe s
def tS (X : Cx) (st : Stmt) : TS := fun De σ H => ∀ (pins : List (Addr × Obj)) (s : Shared), Inv X pins σ H s → wpAny (model X.prog X.w) X.A (exec st X.env) (SP X pins De) X.xe s
def tB1 (X : Cx) (st : List Stmt) : TS := fun De σ H => ∀ (pins : List (Addr × Obj)) (s : Shared), Inv X pins σ H s → wpAny (model X.prog X.w) X.A (execs st X.env) (SP X pins De) X.xe s
section
variable {X : Cx} {e : Expr} {es : List Expr} {st : Stmt} {sts : List Stmt} {σ : L2.St} {H : Hp}
theorem pE : PE X e (tE X e) := ⟨fun pins s _ _ _ I h => h pins s I⟩
theorem pT : PT X e (tT X e) := ⟨fun pins s _ _ _ I h => h pins s I⟩
theorem pA : PA X es (tA X es) := ⟨fun pos pins s _ _ _ I h => h pos pins s I⟩
theorem pS : PS X st (tS X st) := ⟨fun pins s _ _ _ I h => h pins s I⟩
theorem pB : PSs X sts (tB1 X sts) := ⟨fun pins s _ _ _ I h => h pins s I⟩
theorem inE {t : TE} {Q : VK} (p : PE X e t) (h : t σ H Q) : tE X e σ H Q := fun pins s I => p.run pins s σ H Q I h
theorem inT {t : TT} {Q : Bool → Hp → Prop} (p : PT X e t) (h : t σ H Q) : tT X e σ H Q := fun pins s I => p.run pins s σ H Q I h
theorem inA {t : TA} {Q : List V → Hp → Prop} (p : PA X es t) (h : t σ H Q) : tA X es σ H Q := fun pos pins s I => p.run pos pins s σ H Q I h
theorem inS {t : TS} {De : Ends} (p : PS X st t) (h : t De σ H) : tS X st De σ H := fun pins s I => p.run pins s σ H De I h
theorem inB {t : TS} {De : Ends} (p : PSs X sts t) (h : t De σ H) : tB1 X sts De σ H := fun pins s I => p.run pins s σ H De I h
end

/-! ### names -/
def visB (sc : Scope) (x : Str) : Bool := match sc.names.lookup x with
  | some .local => true
  | some .cell => true
  | some .free => true
  | _ => false
def locB (sc : Scope) (x : Str) : Bool := match sc.names.lookup x with
  | some .local => true
  | some .cell => true
  | _ => false
def loc1B (sc : Scope) (x : Str) : Bool := match sc.names.lookup x with
  | some .local => true
  | _ => false
def glB (sc : Scope) (x : Str) : Bool := match sc.names.lookup x with
  | some .globalImplicit => !(x == ("__debug__" : Str))
  | _ => false
structure Wd where
  P : Program
  w : World
  K : PySem.W.Frag
  mg : Str → Option Value
  base : Heap
def wdOf (X : Cx) : Wd := ⟨X.prog, X.w, X.K, X.mg, X.base⟩
structure Cnm (X : Cx) (W : Wd) (N : List Str) (sc : Scope) : Prop where
  wd : wdOf X = W
  nd : N.Nodup
  N : X.N = N
  vis : ∀ x, visB sc x = true → Vis X.env.scope x
  loc : ∀ x, locB sc x = true → Loc X.env.scope x ∧ (X.fn x = true ∨ X.env.scope.names.lookup x = some .local)
  loc1 : ∀ x, loc1B sc x = true → X.env.scope.names.lookup x = some .local
  gl : ∀ x, glB sc x = true → Gl X x ∧ (x == ("__debug__" : Str)) = false
  fr : ∀ x, sc.names.lookup x = some .cell ∨ sc.names.lookup x = some .free → X.env.scope.names.lookup x = some .cell ∨ X.env.scope.names.lookup x = some .free
  bk : sc.kind = .function → X.env.blockKind = .function
structure Cok (X : Cx) (W : Wd) (N : List Str) (sc : Scope) (k : Nat) : Prop extends Cnm X W N sc where
  calm : X.calm = true
  room : Room k X.A
  pown : PassesOwn (model X.prog X.w) X.A X.env X.xe
theorem visB_of {sc : Scope} {x : Str} (h : visB sc x = true) : sc.names.lookup x = some .local ∨ sc.names.lookup x = some .cell ∨ sc.names.lookup x = some .free := by
  unfold visB at h
  cases e : sc.names.lookup x with
  | none =>
    rw [e] at h
    cases h
  | some q =>
    rw [e] at h
    cases q <;> first | exact .inl rfl | exact .inr (.inl rfl) | exact .inr (.inr rfl) | cases h
theorem locB_of {sc : Scope} {x : Str} (h : locB sc x = true) : sc.names.lookup x = some .local ∨ sc.names.lookup x = some .cell := by
  unfold locB at h
  cases e : sc.names.lookup x with
  | none =>
    rw [e] at h
    cases h
  | some q =>
    rw [e] at h
    cases q <;> first | exact .inl rfl | exact .inr rfl | cases h
theorem loc1B_of {sc : Scope} {x : Str} (h : loc1B sc x = true) : sc.names.lookup x = some .local := by
  unfold loc1B at h
  cases e : sc.names.lookup x with
  | none =>
    rw [e] at h
    cases h
  | some q =>
    rw [e] at h
    cases q <;> first | rfl | cases h
theorem glB_of {sc : Scope} {x : Str} (h : glB sc x = true) : sc.names.lookup x = some .globalImplicit ∧ (x == ("__debug__" : Str)) = false := by
  unfold glB at h
  cases e : sc.names.lookup x with
  | none =>
    rw [e] at h
    cases h
  | some q =>
    rw [e] at h
    cases q <;> first | exact ⟨rfl, by simpa using h⟩ | cases h
/-- name x stands at slot i -/
def okV (N : List Str) (sc : Scope) (i : Nat) (x : Str) : Bool := decide (N[i]? = some x) && visB sc x && !(x == ("__debug__" : Str)) && !(x == ("__classdict__" : Str))
def okL (N : List Str) (sc : Scope) (i : Nat) (x : Str) : Bool := decide (N[i]? = some x) && locB sc x
theorem okV_of {N : List Str} {sc : Scope} {i : Nat} {x : Str} (h : okV N sc i x = true) : N[i]? = some x ∧ visB sc x = true ∧ (x == ("__debug__" : Str)) = false ∧ (x == ("__classdict__" : Str)) = false := by
  unfold okV at h
  simp only [Bool.and_eq_true, decide_eq_true_eq, Bool.not_eq_true'] at h
  exact ⟨h.1.1.1, h.1.1.2, h.1.2, h.2⟩
theorem okL_of {N : List Str} {sc : Scope} {i : Nat} {x : Str} (h : okL N sc i x = true) : N[i]? = some x ∧ locB sc x = true := by
  unfold okL at h
  simp only [Bool.and_eq_true, decide_eq_true_eq] at h
  exact h

/-! ### what evaluates to what -/
/-- settled data -/
structure GE (X : Cx) (G : Gm) (e : Expr) (d : D) : Prop where
  run : ∀ (bs : Bs) (B : Hp) (σ : L2.St) (H : Hp), Sat X.K bs G B σ H → ∀ Q : VK, (∀ v B' H', Grow B H B' H' → Dp X.K B' v d → Q v H') → tE X e σ H Q
/-- data as it stands now -/
structure GH (X : Cx) (G : Gm) (e : Expr) (d : D) : Prop where
  run : ∀ (bs : Bs) (B : Hp) (σ : L2.St) (H : Hp), Sat X.K bs G B σ H → ∀ Q : VK, (∀ v B' H', Grow B H B' H' → Dp X.K H' v d → Q v H') → tE X e σ H Q
/-- a list as it stands now, its items settled -/
structure GL (X : Cx) (G : Gm) (e : Expr) (ds : List D) : Prop where
  run : ∀ (bs : Bs) (B : Hp) (σ : L2.St) (H : Hp), Sat X.K bs G B σ H → ∀ Q : VK, (∀ p vs B' H', Grow B H B' H' → SqL X.K H' p vs → DpAll X.K B' vs ds → Q (.ref p) H') → tE X e σ H Q
/-- a new list of one's own -/
structure GO (X : Cx) (G : Gm) (e : Expr) (ds : List D) : Prop where
  run : ∀ (bs : Bs) (B : Hp) (σ : L2.St) (H : Hp), Sat X.K bs G B σ H → ∀ Q : VK, (∀ p vs B' H', Grow B H B' H' → H p = none → B' p = none → H' p = some (.lst vs) → DpAll X.K B' vs ds → Q (.ref p) H') → tE X e σ H Q
structure GT (X : Cx) (G : Gm) (e : Expr) (b : Bool) : Prop where
  run : ∀ (bs : Bs) (B : Hp) (σ : L2.St) (H : Hp), Sat X.K bs G B σ H → ∀ Q : Bool → Hp → Prop, (∀ B' H', Grow B H B' H' → Q b H') → tT X e σ H Q
/-- arguments -/
structure GA (X : Cx) (G : Gm) (es : List Expr) (ds : List D) : Prop where
  run : ∀ (bs : Bs) (B : Hp) (σ : L2.St) (H : Hp), Sat X.K bs G B σ H → ∀ Q : List V → Hp → Prop, (∀ vs B' H', Grow B H B' H' → DpAll X.K B' vs ds → Q vs H') → tA X es σ H Q
section
variable {X : Cx} {G : Gm} {e a b : Expr} {d x y z : D} {ds : List D} {W : Wd} {N : List Str} {sc : Scope} {k : Nat} {pos : Pos}
theorem GE.gh (h : GE X G e d) : GH X G e d := ⟨fun bs B σ H S Q q => h.run bs B σ H S Q fun v B' H' g r => q v B' H' g (moD r g.bh)⟩
theorem GE.gl (h : GE X G e (.list ds)) : GL X G e ds := ⟨fun bs B σ H S Q q => h.run bs B σ H S Q fun v B' H' g r => by
  obtain ⟨p, vs, rfl, h1, h2⟩ := dp_lst r
  exact q p vs B' H' g (g.bh.seq h1) h2⟩
theorem GL.gh (h : GL X G e ds) : GH X G e (.list ds) := ⟨fun bs B σ H S Q q => h.run bs B σ H S Q fun p vs B' H' g r1 r2 => q _ B' H' g (.lst r1 (moA r2 g.bh))⟩
theorem GO.ge (h : GO X G e ds) : GE X G e (.list ds) := ⟨fun bs B σ H S Q q => h.run bs B σ H S Q fun p vs B' H' g h0 h1 h2 r => by
  have sb : Same B' (upd B' p (.lst vs)) := same_new h1
  exact q _ _ H' (g.settle h0 h1 h2) (.lst (.inl (.inl upd_same)) (moA r sb))⟩
theorem GO.gl (h : GO X G e ds) : GL X G e ds := ⟨fun bs B σ H S Q q => h.run bs B σ H S Q fun p vs B' H' g h0 h1 h2 r => q p vs B' H' g (.inl (.inl h2)) r⟩
theorem GE.is {d' : D} (h : GE X G e d) (q : d = d') : GE X G e d' := q ▸ h
theorem GT.is {c c' : Bool} (h : GT X G e c) (q : c = c') : GT X G e c' := q ▸ h
theorem GO.is {ds' : List D} (h : GO X G e ds) (q : ds = ds') : GO X G e ds' := q ▸ h

/-! ### names, constants -/
theorem ge_vN (C : Cnm X W N sc) (i : Nat) {x : Str} {d : D} (h : okV N sc i x = true) (hG : G[i]? = some (.fz d)) : GE X G (.Name x pos) d := by
  obtain ⟨h1, h2, h3, h4⟩ := okV_of h
  refine ⟨fun bs B σ H S Q q => inE (pe_var (i := i) (by rw [C.N]; exact h1) (C.vis x h2) h3 h4) ?_⟩
  obtain ⟨v, e, r⟩ := S.fz hG
  exact ⟨v, e, q v B H (.refl S.bh) r⟩
theorem gl_vN (C : Cnm X W N sc) (i : Nat) {x : Str} {ds : List D} (h : okV N sc i x = true) (hG : G[i]? = some (.ow ds)) : GL X G (.Name x pos) ds := by
  obtain ⟨h1, h2, h3, h4⟩ := okV_of h
  refine ⟨fun bs B σ H S Q q => inE (pe_var (i := i) (by rw [C.N]; exact h1) (C.vis x h2) h3 h4) ?_⟩
  obtain ⟨p, vs, e, r0, r1, r2, r3⟩ := S.ow hG
  exact ⟨_, e, q p vs B H (.refl S.bh) (.inl (.inl r2)) r3⟩
theorem ge_v (C : Cok X W N sc k) (i : Nat) {x : Str} {d : D} (h : okV N sc i x = true) (hG : G[i]? = some (.fz d)) : GE X G (.Name x pos) d := ge_vN C.toCnm i h hG
theorem gl_v (C : Cok X W N sc k) (i : Nat) {x : Str} {ds : List D} (h : okV N sc i x = true) (hG : G[i]? = some (.ow ds)) : GL X G (.Name x pos) ds := gl_vN C.toCnm i h hG
theorem ge_int {i : Int} {j : Nat} : GE X G (.Constant (.int i) j pos) (.int i) := ⟨fun bs B σ H S Q q => inE pe_int (q _ B H (.refl S.bh) (.int _))⟩
theorem ge_bl {i : Bool} {j : Nat} : GE X G (.Constant (.bool i) j pos) (.bool i) := ⟨fun bs B σ H S Q q => inE pe_bl (q _ B H (.refl S.bh) (.bl _))⟩
theorem ge_non {j : Nat} : GE X G (.Constant .none j pos) .none := ⟨fun bs B σ H S Q q => inE pe_non (q _ B H (.refl S.bh) .non)⟩
theorem ge_str {i : Str} {j : Nat} : GE X G (.Constant (.str i) j pos) (.str i) := ⟨fun bs B σ H S Q q => inE pe_str (q _ B H (.refl S.bh) (.str _))⟩
/-- a module's number -/
theorem ge_gi (C : Cok X W N sc k) {x : Str} {i : Int} {t : Tok} (h : glB sc x = true) (hm : X.mg x = some (.int i t)) : GE X G (.Name x pos) (.int i) := ⟨fun bs B σ H S Q q => inE (pe_glob (v := .int i) (C.gl x h).1 hm ⟨_, rfl⟩ (C.gl x h).2) (q _ B H (.refl S.bh) (.int _))⟩

/-! ### two-place operations -/
/-- of settled data | of data as they stand -/
def R2D (K : PySem.W.Frag) (r : R2) (x y z : D) : Prop := ∀ (B H : Hp) (v w : V), Same B H → Dp K B v x → Dp K B w y → ∀ Q : VK, (∀ u B' H', Grow B H B' H' → Dp K B' u z → Q u H') → r v w H Q
def R2H (K : PySem.W.Frag) (r : R2) (x y z : D) : Prop := ∀ (B H : Hp) (v w : V), Same B H → Dp K H v x → Dp K H w y → ∀ Q : VK, (∀ u B' H', Grow B H B' H' → Dp K B' u z → Q u H') → r v w H Q
theorem ge_op {op : Operator} {r : R2} (ho : OpR X (binaryOp op) r) (ha : GE X G a x) (hb : GE X G b y) (hz : R2D X.K r x y z) : GE X G (.BinOp a op b pos) z :=
  ⟨fun bs B σ H S Q q => inE (pe_op ho pE pE) (ha.run bs B σ H S _ fun v B1 H1 g1 r1 => hb.run bs B1 σ H1 (S.gro g1) _ fun w B2 H2 g2 r2 =>
    hz B2 H2 v w g2.bh (moD r1 g2.b) r2 Q fun u B3 H3 g3 r3 => q u B3 H3 ((g1.trans g2).trans g3) r3)⟩
theorem ge_cmp {op : CmpOp} {r : R2} (ho : OpR X (compareOp op) r) (hm : behindInMarks op b = false) (ha : GH X G a x) (hb : GH X G b y) (hz : R2H X.K r x y z) : GE X G (.Compare a [op] [b] pos) z :=
  ⟨fun bs B σ H S Q q => inE (pe_cmpR ho pE pE hm) (ha.run bs B σ H S _ fun v B1 H1 g1 r1 => hb.run bs B1 σ H1 (S.gro g1) _ fun w B2 H2 g2 r2 =>
    hz B2 H2 v w g2.bh (moD r1 g2.h) r2 Q fun u B3 H3 g3 r3 => q u B3 H3 ((g1.trans g2).trans g3) r3)⟩
theorem gt_cmp {op : CmpOp} {r : R2} {c : Bool} (ho : OpR X (compareOp op) r) (hm : behindInMarks op b = false) (ha : GH X G a x) (hb : GH X G b y) (hz : R2H X.K r x y (.bool c)) : GT X G (.Compare a [op] [b] pos) c :=
  ⟨fun bs B σ H S Q q => inT (pt_cmpR ho pE pE hm) (ha.run bs B σ H S _ fun v B1 H1 g1 r1 => hb.run bs B1 σ H1 (S.gro g1) _ fun w B2 H2 g2 r2 =>
    hz B2 H2 v w g2.bh (moD r1 g2.h) r2 _ fun u B3 H3 g3 r3 => ⟨c, dp_bl r3, q B3 H3 ((g1.trans g2).trans g3)⟩)⟩
theorem r2d_I0 {K : PySem.W.Frag} {i j : Int} {g : Int → Int → V} {z : D} (h : ∀ B, Dp K B (g i j) z) : R2D K (rI0 g) (.int i) (.int j) z := fun B H v w s h1 h2 Q q => ⟨i, j, dp_int h1, dp_int h2, q _ B H (.refl s) (h B)⟩
theorem r2h_I0 {K : PySem.W.Frag} {i j : Int} {g : Int → Int → V} {z : D} (h : ∀ B, Dp K B (g i j) z) : R2H K (rI0 g) (.int i) (.int j) z := fun B H v w s h1 h2 Q q => ⟨i, j, dp_int h1, dp_int h2, q _ B H (.refl s) (h B)⟩
theorem r2d_I {K : PySem.W.Frag} {i j : Int} {Cc : Int → Int → Prop} {g : Int → Int → V} {z : D} (hc : Cc i j) (h : ∀ B, Dp K B (g i j) z) : R2D K (rI Cc g) (.int i) (.int j) z := fun B H v w s h1 h2 Q q => ⟨i, j, dp_int h1, dp_int h2, hc, q _ B H (.refl s) (h B)⟩
theorem op_mulB : OpR X (binaryOp .Mult) (rI IntMulOk fun i j => .int (i * j)) := opI fun _ _ _ _ _ _ _ hc q => mul_int q hc
theorem dpr {K : PySem.W.Frag} {B : Hp} {a : Addr} {xs : List V} {ds : List D} (h : B a = some (.tup xs)) (q : DpAll K B xs ds) : Dp K B (.ref a) (.tuple ds) := .tup (.inl (.inl h)) q
theorem dpl {K : PySem.W.Frag} {B : Hp} {a : Addr} {xs : List V} {ds : List D} (h : B a = some (.lst xs)) (q : DpAll K B xs ds) : Dp K B (.ref a) (.list ds) := .lst (.inl (.inl h)) q
/-- any two lists put together -/
def rCatL (K : PySem.W.Frag) : R2 := fun x y H Q => ∃ l b xs zs, x = .ref l ∧ y = .ref b ∧ SqL K H l xs ∧ SqL K H b zs ∧ xs.length + zs.length ≤ sizeLine ∧ ∀ p, H p = none → Q (.ref p) (upd H p (.lst (xs ++ zs)))
theorem op_catL {X : Cx} : OpR X (binaryOp .Add) (rCatL X.K) := by
  intro pins s σ H x y v u Q I rx ry h
  obtain ⟨l, b, xs, zs, rfl, rfl, hH, hB, hz, q⟩ := h
  cases rx
  cases ry
  obtain ⟨its, r, pl, _⟩ := I.list hH
  obtain ⟨its2, r2, pl2, _⟩ := I.list hB
  have hl := r.length
  have hl2 := r2.length
  obtain ⟨⟨cls, dd, data, sl⟩, ho, hc, n, hd⟩ := id pl.isList
  obtain ⟨⟨cls2, dd2, data2, sl2⟩, ho2, hc2, n2, hd2⟩ := id pl2.isList
  simp only at hc hd hc2 hd2
  subst hc hd hc2 hd2
  have e : its.toArray ++ its2.toArray = (its ++ its2).toArray := by simp
  refine concat_meets ⟨_, ho, rfl⟩ ⟨_, ho2, rfl⟩ noFill_list_add seq_list_add PySem.F.slot_list_add PySem.F.entry_list_add (PySem.F.args_list_add_2 _ _) (list_addW l b its.toArray its2.toArray n n2 dd dd2 sl sl2 (by simp only [List.size_toArray]; omega)) ⟨ho, ho2, ?_⟩
  rw [e]
  exact ⟨.ref _, _, I.lnew (t' := s.toks) (r.append r2) (by rw [List.length_append]; omega), rfl, q _ I.fresh⟩

end
/-! ### sums, products .. -/
inductive AddD : D → D → D → Prop
  | int (i j : Int) : AddD (.int i) (.int j) (.int (i + j))
  | str (x y : Str) : x.length + y.length ≤ sizeLine → AddD (.str x) (.str y) (.str (x ++ y))
  | tup (xs ys : List D) : xs.length + ys.length ≤ sizeLine → AddD (.tuple xs) (.tuple ys) (.tuple (xs ++ ys))
  | lst (xs ys : List D) : xs.length + ys.length ≤ sizeLine → AddD (.list xs) (.list ys) (.list (xs ++ ys))
theorem r2d_catT {K : PySem.W.Frag} {xs ys : List D} (hz : xs.length + ys.length ≤ sizeLine) : R2D K (rCatA K) (.tuple xs) (.tuple ys) (.tuple (xs ++ ys)) := fun B H v w s h1 h2 Q q => by
  obtain ⟨a, us, rfl, p1, p2⟩ := dp_tup h1
  obtain ⟨b, ws, rfl, p3, p4⟩ := dp_tup h2
  have l1 := dpa_len p2
  have l2 := dpa_len p4
  refine ⟨a, b, us, ws, rfl, rfl, same_sqT s p1, same_sqT s p3, by omega, fun e => ?_, fun _ e => ?_, fun _ _ p hp => ?_⟩
  · subst e
    have : xs = [] := List.eq_nil_of_length_eq_zero (by rw [← l1]; rfl)
    subst this
    exact q _ B H (.refl s) (.tup p3 p4)
  · subst e
    have : ys = [] := List.eq_nil_of_length_eq_zero (by rw [← l2]; rfl)
    subst this
    rw [List.append_nil] at q
    exact q _ B H (.refl s) (.tup p1 p2)
  · have g : Grow B H (upd B p (.tup (us ++ ws))) (upd H p (.tup (us ++ ws))) := .new s hp
    exact q _ _ _ g (dpr upd_same (dpa_app (moA p2 g.b) (moA p4 g.b)))
theorem r2d_catL {K : PySem.W.Frag} {xs ys : List D} (hz : xs.length + ys.length ≤ sizeLine) : R2D K (rCatL K) (.list xs) (.list ys) (.list (xs ++ ys)) := fun B H v w s h1 h2 Q q => by
  obtain ⟨a, us, rfl, p1, p2⟩ := dp_lst h1
  obtain ⟨b, ws, rfl, p3, p4⟩ := dp_lst h2
  have l1 := dpa_len p2
  have l2 := dpa_len p4
  refine ⟨a, b, us, ws, rfl, rfl, s.seq p1, s.seq p3, by omega, fun p hp => ?_⟩
  have g : Grow B H (upd B p (.lst (us ++ ws))) (upd H p (.lst (us ++ ws))) := .new s hp
  exact q _ _ _ g (dpl upd_same (dpa_app (moA p2 g.b) (moA p4 g.b)))
section
variable {X : Cx} {G : Gm} {e a b c : Expr} {es : List Expr} {d x y z : D} {ds : List D} {W : Wd} {N : List Str} {sc : Scope} {k : Nat} {pos : Pos}
theorem ge_add (ha : GE X G a x) (hb : GE X G b y) (hz : AddD x y z) : GE X G (.BinOp a .Add b pos) z := by
  cases hz with
  | int i j => exact ge_op op_add ha hb (r2d_I0 fun _ => .int _)
  | str x y h =>
    refine ge_op op_add_str ha hb fun B H v w s h1 h2 Q q => ?_
    exact ⟨x, y, dp_str h1, dp_str h2, h, q _ B H (.refl s) (.str _)⟩
  | tup xs ys h => exact ge_op op_catA ha hb (r2d_catT h)
  | lst xs ys h => exact ge_op op_catL ha hb (r2d_catL h)
/-- two lists put together: one's own -/
theorem go_add {xs ys : List D} (ha : GL X G a xs) (hb : GL X G b ys) (hz : xs.length + ys.length ≤ sizeLine) : GO X G (.BinOp a .Add b pos) (xs ++ ys) :=
  ⟨fun bs B σ H S Q q => inE (pe_op op_catL pE pE) (ha.run bs B σ H S _ fun v vs B1 H1 g1 r1 t1 => hb.run bs B1 σ H1 (S.gro g1) _ fun w ws B2 H2 g2 r2 t2 => by
    have l1 := dpa_len t1
    have l2 := dpa_len t2
    refine ⟨v, w, vs, ws, rfl, rfl, g2.h.seq r1, r2, by omega, fun p hp => ?_⟩
    have g := (g1.trans g2).trans (Grow.own (p := p) (o := .lst (vs ++ ws)) g2.bh hp)
    exact q p _ _ _ g (same_none (g1.trans g2).h hp) (same_none g2.bh hp) upd_same (dpa_app (moA t1 g2.b) t2))⟩
theorem ge_sub {i j : Int} (ha : GE X G a (.int i)) (hb : GE X G b (.int j)) : GE X G (.BinOp a .Sub b pos) (.int (i - j)) := ge_op op_sub ha hb (r2d_I0 fun _ => .int _)
theorem ge_mul {i j : Int} (ha : GE X G a (.int i)) (hb : GE X G b (.int j)) (h : IntMulOk i j) : GE X G (.BinOp a .Mult b pos) (.int (i * j)) := ge_op op_mulB ha hb (r2d_I h fun _ => .int _)
theorem ge_div {i j : Int} (ha : GE X G a (.int i)) (hb : GE X G b (.int j)) (h : CDivW i j) : GE X G (.BinOp a .FloorDiv b pos) (.int (i / j)) := ge_op op_fdivW ha hb (r2d_I h fun _ => .int _)
theorem ge_mod {i j : Int} (ha : GE X G a (.int i)) (hb : GE X G b (.int j)) (h : 0 < j) : GE X G (.BinOp a .Mod b pos) (.int (i % j)) := ge_op op_mod ha hb (r2d_I (Cc := fun _ j => 0 < j) h fun _ => .int _)
theorem ge_fmod {i j : Int} (ha : GE X G a (.int i)) (hb : GE X G b (.int j)) (h : j ≠ 0) : GE X G (.BinOp a .Mod b pos) (.int (i.fmod j)) := ge_op op_modN ha hb (r2d_I (Cc := fun _ j => j ≠ 0) h fun _ => .int _)
theorem ge_pow {i j : Int} (ha : GE X G a (.int i)) (hb : GE X G b (.int j)) (h : CPow i j) : GE X G (.BinOp a .Pow b pos) (.int (i ^ j.toNat)) := ge_op op_pow ha hb (r2d_I h fun _ => .int _)
theorem ge_neg {i : Int} (ha : GE X G a (.int i)) : GE X G (.UnaryOp .USub a pos) (.int (-i)) :=
  ⟨fun bs B σ H S Q q => inE (pe_un un_neg pE) (ha.run bs B σ H S _ fun v B1 H1 g1 r1 => ⟨i, dp_int r1, q _ B1 H1 g1 (.int _)⟩)⟩

/-! ### comparisons -/
inductive CmpD : CmpOp → D → D → Bool → Prop
  | lt (i j : Int) : CmpD .Lt (.int i) (.int j) (decide (i < j))
  | le (i j : Int) : CmpD .LtE (.int i) (.int j) (decide (i ≤ j))
  | gt (i j : Int) : CmpD .Gt (.int i) (.int j) (decide (j < i))
  | ge (i j : Int) : CmpD .GtE (.int i) (.int j) (decide (j ≤ i))
  | eqI (i j : Int) : CmpD .Eq (.int i) (.int j) (decide (i = j))
  | neI (i j : Int) : CmpD .NotEq (.int i) (.int j) (!decide (i = j))
  | eq (x y : D) : SeqAt.shaped x = true → SeqAt.shaped y = true → CmpD .Eq x y (PyData.eqv x y)
  | ne (x y : D) : SeqAt.shaped x = true → SeqAt.shaped y = true → CmpD .NotEq x y (!PyData.eqv x y)
  | isN (x : D) : CmpD .Is x .none (PyData.eqv x .none)
  | notN (x : D) : CmpD .IsNot x .none (!PyData.eqv x .none)
  | inL (x : D) (ds : List D) : SeqAt.shaped x = true → SeqAt.shaped (.list ds) = true → CmpD .In x (.list ds) (ds.any fun z => PyData.eqv z x)
  | ninL (x : D) (ds : List D) : SeqAt.shaped x = true → SeqAt.shaped (.list ds) = true → CmpD .NotIn x (.list ds) (!ds.any fun z => PyData.eqv z x)
  | inS (x y : Str) : CmpD .In (.str x) (.str y) (!(Builtin.Str.occurrences y x 0 y.length 1).isEmpty)
  | ninS (x y : Str) : CmpD .NotIn (.str x) (.str y) (!(!(Builtin.Str.occurrences y x 0 y.length 1).isEmpty))
theorem eqv_ints (i j : Int) : PyData.eqv (.int i) (.int j) = decide (i = j) := by
  simp only [PyData.eqv]
  by_cases h : i = j <;> simp [h]
theorem dp_isN {K : PySem.W.Frag} {H : Hp} {v : V} {x : D} (h : Dp K H v x) : decide (v = .non) = PyData.eqv x .none := by
  cases h <;> rfl
theorem cmp_run {op : CmpOp} {x y : D} {c : Bool} {kk : Nat} (hr : Room kk X.A) (h : CmpD op x y c) : ∃ r, OpR X (compareOp op) r ∧ R2H X.K r x y (.bool c) := by
  have hu := hr.units
  have hun := hr.un
  cases h with
  | lt i j => exact ⟨_, op_lt, r2h_I0 fun _ => .bl _⟩
  | le i j => exact ⟨_, op_le, r2h_I0 fun _ => .bl _⟩
  | gt i j => exact ⟨_, op_gt, r2h_I0 fun _ => .bl _⟩
  | ge i j => exact ⟨_, op_ge, r2h_I0 fun _ => .bl _⟩
  | eqI i j => exact ⟨_, op_eqD hu, fun B H v w s h1 h2 Q q => ⟨_, _, h1, h2, rfl, rfl, by rw [eqv_ints]; exact q _ B H (.refl s) (.bl _)⟩⟩
  | neI i j => exact ⟨_, op_neD hu, fun B H v w s h1 h2 Q q => ⟨_, _, h1, h2, rfl, rfl, by rw [eqv_ints]; exact q _ B H (.refl s) (.bl _)⟩⟩
  | eq x y sx sy => exact ⟨_, op_eqD hu, fun B H v w s h1 h2 Q q => ⟨_, _, h1, h2, sx, sy, q _ B H (.refl s) (.bl _)⟩⟩
  | ne x y sx sy => exact ⟨_, op_neD hu, fun B H v w s h1 h2 Q q => ⟨_, _, h1, h2, sx, sy, q _ B H (.refl s) (.bl _)⟩⟩
  | isN x => exact ⟨_, op_isN, fun B H v w s h1 h2 Q q => ⟨dp_non h2, by rw [dp_isN h1]; exact q _ B H (.refl s) (.bl _)⟩⟩
  | notN x => exact ⟨_, op_notN, fun B H v w s h1 h2 Q q => ⟨dp_non h2, by rw [dp_isN h1]; exact q _ B H (.refl s) (.bl _)⟩⟩
  | inL x ds sx sy => exact ⟨_, op_inD (by omega), fun B H v w s h1 h2 Q q => ⟨_, _, h1, h2, sx, sy, q _ B H (.refl s) (.bl _)⟩⟩
  | ninL x ds sx sy => exact ⟨_, op_notInD (by omega), fun B H v w s h1 h2 Q q => ⟨_, _, h1, h2, sx, sy, q _ B H (.refl s) (.bl _)⟩⟩
  | inS x y => exact ⟨_, op_in_str, fun B H v w s h1 h2 Q q => ⟨_, _, dp_str h1, dp_str h2, q _ B H (.refl s) (.bl _)⟩⟩
  | ninS x y => exact ⟨_, op_notIn_str, fun B H v w s h1 h2 Q q => ⟨_, _, dp_str h1, dp_str h2, q _ B H (.refl s) (.bl _)⟩⟩
theorem ge_cp {op : CmpOp} {cb : Bool} (C : Cok X W N sc k) (ha : GH X G a x) (hb : GH X G b y) (hz : CmpD op x y cb) (hm : behindInMarks op b = false) : GE X G (.Compare a [op] [b] pos) (.bool cb) := by
  obtain ⟨r, ho, hr⟩ := cmp_run C.room hz
  exact ge_cmp ho hm ha hb hr
theorem gt_cp {op : CmpOp} {cb : Bool} (C : Cok X W N sc k) (ha : GH X G a x) (hb : GH X G b y) (hz : CmpD op x y cb) (hm : behindInMarks op b = false) : GT X G (.Compare a [op] [b] pos) cb := by
  obtain ⟨r, ho, hr⟩ := cmp_run C.room hz
  exact gt_cmp ho hm ha hb hr

/-! ### and, or, not, if -/
end
def tW (X : Cx) (e : Expr) : TT := fun σ H Q => ∀ (whole : Sem Value) (pins : List (Addr × Obj)) (s : Shared), Inv X pins σ H s → wpAny (model X.prog X.w) X.A (isTrue e X.env whole) (TP X pins σ Q) X.xe s
theorem pW {X : Cx} {e : Expr} : PW X e (tW X e) := ⟨fun wh pins s _ _ _ I h => h wh pins s I⟩
theorem inW {X : Cx} {e : Expr} {σ : L2.St} {H : Hp} {t : TT} {Q : Bool → Hp → Prop} (p : PW X e t) (h : t σ H Q) : tW X e σ H Q := fun wh pins s I => p.run wh pins s σ H Q I h
structure GW (X : Cx) (G : Gm) (e : Expr) (b : Bool) : Prop where
  run : ∀ (bs : Bs) (B : Hp) (σ : L2.St) (H : Hp), Sat X.K bs G B σ H → ∀ Q : Bool → Hp → Prop, (∀ B' H', Grow B H B' H' → Q b H') → tW X e σ H Q
section
variable {X : Cx} {G : Gm} {e a b c : Expr} {es rest : List Expr} {d x y z : D} {ds : List D} {W : Wd} {N : List Str} {sc : Scope} {k : Nat} {pos : Pos} {t u : Bool}
theorem GW.gt (h : GW X G e t) : GT X G e t := ⟨fun bs B σ H S Q q => inT pW.pt (h.run bs B σ H S Q q)⟩
theorem gw_and1 (ha : GT X G a t) : GW X G (.BoolOp .And [a] pos) t := ⟨fun bs B σ H S Q q => inW (pw_and1 pT) (ha.run bs B σ H S Q q)⟩
theorem gw_or1 (ha : GT X G a t) : GW X G (.BoolOp .Or [a] pos) t := ⟨fun bs B σ H S Q q => inW (pw_or1 pT) (ha.run bs B σ H S Q q)⟩
theorem gw_and (ha : GT X G a t) (hb : t = true → GW X G (.BoolOp .And (b :: rest) pos) u) : GW X G (.BoolOp .And (a :: b :: rest) pos) (t && u) :=
  ⟨fun bs B σ H S Q q => inW (pw_and pT pW) (ha.run bs B σ H S _ fun B1 H1 g1 => by
    cases t with
    | true => exact iteT ((hb rfl).run bs B1 σ H1 (S.gro g1) _ fun B2 H2 g2 => q B2 H2 (g1.trans g2))
    | false => exact iteF (q B1 H1 g1))⟩
theorem gw_or (ha : GT X G a t) (hb : t = false → GW X G (.BoolOp .Or (b :: rest) pos) u) : GW X G (.BoolOp .Or (a :: b :: rest) pos) (t || u) :=
  ⟨fun bs B σ H S Q q => inW (pw_or pT pW) (ha.run bs B σ H S _ fun B1 H1 g1 => by
    cases t with
    | false => exact iteF ((hb rfl).run bs B1 σ H1 (S.gro g1) _ fun B2 H2 g2 => q B2 H2 (g1.trans g2))
    | true => exact iteT (q B1 H1 g1))⟩
theorem gt_not (ha : GT X G a t) : GT X G (.UnaryOp .Not a pos) (!t) := ⟨fun bs B σ H S Q q => inT (pt_not pT) (ha.run bs B σ H S _ fun B1 H1 g1 => q B1 H1 g1)⟩
/-- .. as values -/
theorem ge_one {op : BoolOp} (ha : GE X G a d) : GE X G (.BoolOp op [a] pos) d := ⟨fun bs B σ H S Q q => inE (pe_one pE) (ha.run bs B σ H S Q q)⟩
theorem ge_and (ha : GE X G a (.bool t)) (hb : t = true → GE X G (.BoolOp .And (b :: rest) pos) (.bool u)) : GE X G (.BoolOp .And (a :: b :: rest) pos) (.bool (t && u)) :=
  ⟨fun bs B σ H S Q q => inE (pe_and pE pE) (ha.run bs B σ H S _ fun v B1 H1 g1 r1 => ⟨t, dp_bl r1, by
    cases t with
    | true => exact iteT ((hb rfl).run bs B1 σ H1 (S.gro g1) _ fun v B2 H2 g2 r2 => q v B2 H2 (g1.trans g2) r2)
    | false => exact iteF (q _ B1 H1 g1 (.bl _))⟩)⟩
theorem ge_or (ha : GE X G a (.bool t)) (hb : t = false → GE X G (.BoolOp .Or (b :: rest) pos) (.bool u)) : GE X G (.BoolOp .Or (a :: b :: rest) pos) (.bool (t || u)) :=
  ⟨fun bs B σ H S Q q => inE (pe_or pE pE) (ha.run bs B σ H S _ fun v B1 H1 g1 r1 => ⟨t, dp_bl r1, by
    cases t with
    | false => exact iteF ((hb rfl).run bs B1 σ H1 (S.gro g1) _ fun v B2 H2 g2 r2 => q v B2 H2 (g1.trans g2) r2)
    | true => exact iteT (q _ B1 H1 g1 (.bl _))⟩)⟩
theorem ge_not (ha : GE X G a (.bool t)) : GE X G (.UnaryOp .Not a pos) (.bool (!t)) :=
  ⟨fun bs B σ H S Q q => inE (pe_not pE) (ha.run bs B σ H S _ fun v B1 H1 g1 r1 => ⟨t, dp_bl r1, q _ B1 H1 g1 (.bl _)⟩)⟩
theorem ge_if {c : Expr} (hc : GT X G c t) (ha : t = true → GE X G a d) (hb : t = false → GE X G b d) : GE X G (.IfExp c a b pos) d :=
  ⟨fun bs B σ H S Q q => inE (pe_ifExp pT pE pE) (hc.run bs B σ H S _ fun B1 H1 g1 => by
    cases t with
    | true => exact iteT ((ha rfl).run bs B1 σ H1 (S.gro g1) _ fun v B2 H2 g2 r2 => q v B2 H2 (g1.trans g2) r2)
    | false => exact iteF ((hb rfl).run bs B1 σ H1 (S.gro g1) _ fun v B2 H2 g2 r2 => q v B2 H2 (g1.trans g2) r2))⟩
/-- an expression that gives a truth, as a test -/
theorem gt_val (h : GE X G e (.bool t)) (he : ∀ whole, isTrue e X.env whole = (do let v ← whole; standAt e.pos; holding [v] (truthy v))) : GT X G e t :=
  ⟨fun bs B σ H S Q q => inT (pt_val pE he) (h.run bs B σ H S _ fun v B1 H1 g1 r1 => ⟨t, dp_bl r1, q B1 H1 g1⟩)⟩
/-! ### displays -/
def nst (e : Expr) : Bool := match e with
  | .Starred .. => false
  | _ => true
theorem star_cons {e : Expr} {es : List Expr} {env : Env} (h : nst e = true) : starEach (e :: es) env = (false, eval e env) :: starEach es env := by
  cases e <;> first | rfl | cases h
theorem star_all {env : Env} {pos : Pos} : ∀ {es : List Expr}, es.all nst = true → (backTo pos (starEach es env)).any (·.1) = false
  | [], _ => rfl
  | e :: es, h => by
    rw [List.all_cons, Bool.and_eq_true] at h
    have e1 := star_all (env := env) (pos := pos) (es := es) h.2
    rw [star_cons h.1]
    exact e1
theorem ga_nil : GA X G [] [] := ⟨fun bs B σ H S Q q => inA pa_nil (q [] B H (.refl S.bh) .nil)⟩
theorem ga_cons (he : GE X G e d) (hr : GA X G es ds) (hs : nst e = true) : GA X G (e :: es) (d :: ds) :=
  ⟨fun bs B σ H S Q q => inA (pa_cons pE pA (star_cons hs)) (he.run bs B σ H S _ fun v B1 H1 g1 r1 => hr.run bs B1 σ H1 (S.gro g1) _ fun vs B2 H2 g2 r2 => q _ B2 H2 (g1.trans g2) (.cons (moD r1 g2.b) r2))⟩
theorem ge_tup {x1 : Nat} (h : GA X G es ds) (hl : ds.length ≤ sizeLine) : GE X G (.Tuple es x1 pos) (.tuple ds) :=
  ⟨fun bs B σ H S Q q => inE (pe_tup pA) (h.run bs B σ H S _ fun vs B1 H1 g1 r1 => ⟨by rw [dpa_len r1]; exact hl, fun p hp => by
    have g : Grow B1 H1 (upd B1 p (.tup vs)) (upd H1 p (.tup vs)) := .new g1.bh hp
    exact q _ _ _ (g1.trans g) (dpr upd_same (moA r1 g.b))⟩)⟩
theorem go_lst (h : GA X G es ds) (hl : ds.length ≤ sizeLine) {x1 : Unit} : GO X G (.List es pos) ds :=
  ⟨fun bs B σ H S Q q => inE (pe_lst pA) (h.run bs B σ H S _ fun vs B1 H1 g1 r1 => ⟨by rw [dpa_len r1]; exact hl, fun p hp => by
    have g : Grow B1 H1 B1 (upd H1 p (.lst vs)) := .own g1.bh hp
    exact q p vs _ _ (g1.trans g) (same_none g1.h hp) (same_none g1.bh hp) upd_same r1⟩)⟩
end
end DW

set_option Elab.async false
set_option linter.all false
set_option maxRecDepth 100000
set_option maxHeartbeats 4000000
set_option autoImplicit false
namespace DW
open PySem PySem.Spec PyProof.Rows L2

/-! ### places and slices -/
theorem dpa_at {K : PySem.W.Frag} {B : Hp} {ds : List D} {vs : List V} {i : Int} {d : D} (h : DpAll K B vs ds) (e : atI ds i = some d) : ∃ v, atI vs i = some v ∧ Dp K B v d := by
  unfold atI at e ⊢
  rw [dpa_len h]
  cases q : ixN ds.length i with
  | none =>
    rw [q] at e
    cases e
  | some j =>
    rw [q] at e
    exact dpa_get h e
def cutD (xs : List D) (lo hi : Option Int) : List D := (xs.drop (HT.sIx xs.length 0 lo)).take (HT.sIx xs.length xs.length hi - HT.sIx xs.length 0 lo)
theorem dpa_cut {K : PySem.W.Frag} {B : Hp} {ds : List D} {vs : List V} {lo hi : Option Int} (h : DpAll K B vs ds) : DpAll K B (cutV vs lo hi) (cutD ds lo hi) := by
  unfold cutV cutD
  rw [dpa_len h]
  exact dpa_take _ (dpa_drop _ h)
theorem cutD_whole {ds : List D} {lo hi : Option Int} (h : HT.sIx ds.length 0 lo = 0 ∧ HT.sIx ds.length ds.length hi = ds.length) : cutD ds lo hi = ds := by
  unfold cutD
  rw [h.1, h.2]
  simp
def tP (X : Cx) (e : Option Expr) : TO := fun σ H Q => ∀ (pins : List (Addr × Obj)) (s : Shared), Inv X pins σ H s → wpAny (model X.prog X.w) X.A (evalPart e X.env) (fun u s' => ∃ o H', Inv X pins σ H' s' ∧ IsPart u o ∧ Q o H') X.xe s
theorem pP {X : Cx} {e : Option Expr} : PO X e (tP X e) := ⟨fun pins s _ _ _ I h => h pins s I⟩
theorem inP {X : Cx} {e : Option Expr} {σ : L2.St} {H : Hp} {t : TO} {Q : Option Int → Hp → Prop} (p : PO X e t) (h : t σ H Q) : tP X e σ H Q := fun pins s I => p.run pins s σ H Q I h
structure GP (X : Cx) (G : Gm) (e : Option Expr) (o : Option Int) : Prop where
  run : ∀ (bs : Bs) (B : Hp) (σ : L2.St) (H : Hp), Sat X.K bs G B σ H → ∀ Q : Option Int → Hp → Prop, (∀ B' H', Grow B H B' H' → Q o H') → tP X e σ H Q
section
variable {X : Cx} {G : Gm} {e a b c : Expr} {es rest : List Expr} {d x y z : D} {ds : List D} {W : Wd} {N : List Str} {sc : Scope} {k : Nat} {pos p2 : Pos} {t u : Bool} {lo hi : Option Expr} {l h : Option Int}
theorem gp_no : GP X G none none := ⟨fun bs B σ H S Q q => inP po_none (q B H (.refl S.bh))⟩
theorem gp_yes {i : Int} (he : GE X G e (.int i)) : GP X G (some e) (some i) := ⟨fun bs B σ H S Q q => inP (po_some pE) (he.run bs B σ H S _ fun v B1 H1 g1 r1 => ⟨i, dp_int r1, q B1 H1 g1⟩)⟩
theorem ge_ixT {i : Int} (ha : GE X G a (.tuple ds)) (hb : GE X G b (.int i)) (hd : atI ds i = some d) (hs : PlainIx b) : GE X G (.Subscript a b pos) d :=
  ⟨fun bs B σ H S Q q => inE (pe_ix ix_tup pE pE hs) (ha.run bs B σ H S _ fun v B1 H1 g1 r1 => hb.run bs B1 σ H1 (S.gro g1) _ fun w B2 H2 g2 r2 => by
    obtain ⟨p, vs, rfl, h1, h2⟩ := dp_tup r1
    obtain ⟨v', h3, h4⟩ := dpa_at h2 hd
    exact ⟨p, vs, i, v', rfl, dp_int r2, same_sqT (g2.b.trans g2.bh) h1, h3, q _ B2 H2 (g1.trans g2) (moD h4 g2.b)⟩)⟩
theorem ge_ixL {i : Int} (ha : GL X G a ds) (hb : GE X G b (.int i)) (hd : atI ds i = some d) (hs : PlainIx b) : GE X G (.Subscript a b pos) d :=
  ⟨fun bs B σ H S Q q => inE (pe_ix ix_list pE pE hs) (ha.run bs B σ H S _ fun p vs B1 H1 g1 r1 h2 => hb.run bs B1 σ H1 (S.gro g1) _ fun w B2 H2 g2 r2 => by
    obtain ⟨v', h3, h4⟩ := dpa_at h2 hd
    exact ⟨p, vs, i, v', rfl, dp_int r2, g2.h.seq r1, h3, q _ B2 H2 (g1.trans g2) (moD h4 g2.b)⟩)⟩
theorem ge_ixS {i : Int} {s : Str} {c : Nat} (ha : GE X G a (.str s)) (hb : GE X G b (.int i)) (hl : s.length ≤ sizeLine) (hd : atI s.cps.toList i = some c) (hs : PlainIx b) : GE X G (.Subscript a b pos) (.str ⟨#[c]⟩) :=
  ⟨fun bs B σ H S Q q => inE (pe_ix ix_str pE pE hs) (ha.run bs B σ H S _ fun p B1 H1 g1 r1 => hb.run bs B1 σ H1 (S.gro g1) _ fun w B2 H2 g2 r2 =>
    ⟨s, i, c, dp_str r1, dp_int r2, hl, hd, q _ B2 H2 (g1.trans g2) (.str _)⟩)⟩
theorem ge_slT (ha : GE X G a (.tuple ds)) (hl : GP X G lo l) (hh : GP X G hi h) : GE X G (.Subscript a (.Slice lo hi none p2) pos) (.tuple (cutD ds l h)) :=
  ⟨fun bs B σ H S Q q => inE (pe_slice sl_tupA pE pP pP) (ha.run bs B σ H S _ fun v B1 H1 g1 r1 => hl.run bs B1 σ H1 (S.gro g1) _ fun B2 H2 g2 => hh.run bs B2 σ H2 (S.gro (g1.trans g2)) _ fun B3 H3 g3 => by
    obtain ⟨p, vs, rfl, h1, h2⟩ := dp_tup r1
    have gb := g2.b.trans g3.b
    have ll := dpa_len h2
    refine ⟨p, vs, rfl, same_sqT (gb.trans g3.bh) h1, fun e => ?_, fun e p' hp => ?_⟩
    · rw [ll] at e
      rw [cutD_whole e] at q
      exact q _ B3 H3 ((g1.trans g2).trans g3) (.tup (same_sqT gb h1) (moA h2 gb))
    · have g : Grow B3 H3 (upd B3 p' (.tup (cutV vs l h))) (upd H3 p' (.tup (cutV vs l h))) := .new g3.bh hp
      exact q _ _ _ (((g1.trans g2).trans g3).trans g) (dpr upd_same (moA (dpa_cut h2) (gb.trans g.b))))⟩
theorem go_slL (ha : GL X G a ds) (hl : GP X G lo l) (hh : GP X G hi h) : GO X G (.Subscript a (.Slice lo hi none p2) pos) (cutD ds l h) :=
  ⟨fun bs B σ H S Q q => inE (pe_slice sl_list pE pP pP) (ha.run bs B σ H S _ fun p vs B1 H1 g1 r1 h2 => hl.run bs B1 σ H1 (S.gro g1) _ fun B2 H2 g2 => hh.run bs B2 σ H2 (S.gro (g1.trans g2)) _ fun B3 H3 g3 => by
    have gg := (g1.trans g2).trans g3
    refine ⟨p, vs, rfl, (g2.h.trans g3.h).seq r1, fun p' hp => ?_⟩
    have g : Grow B3 H3 B3 (upd H3 p' (.lst (cutV vs l h))) := .own g3.bh hp
    exact q p' _ _ _ (gg.trans g) (same_none gg.h hp) (same_none g3.bh hp) upd_same (moA (dpa_cut h2) (g2.b.trans g3.b)))⟩
end

/-! ### calls of built-in things -/
def RcH (X : Cx) (r : List V → Hp → VK → Prop) (ds : List D) (z : D) : Prop := ∀ (B H : Hp) (vs : List V), Same B H → DpAll X.K H vs ds → ∀ Q : VK, (∀ u B' H', Grow B H B' H' → Dp X.K B' u z → Q u H') → r vs H Q
structure GAH (X : Cx) (G : Gm) (es : List Expr) (ds : List D) : Prop where
  run : ∀ (bs : Bs) (B : Hp) (σ : L2.St) (H : Hp), Sat X.K bs G B σ H → ∀ Q : List V → Hp → Prop, (∀ vs B' H', Grow B H B' H' → DpAll X.K H' vs ds → Q vs H') → tA X es σ H Q
section
variable {X : Cx} {G : Gm} {e a b c : Expr} {es rest : List Expr} {d x y z : D} {ds : List D} {W : Wd} {N : List Str} {sc : Scope} {k : Nat} {pos p2 p : Pos} {t u : Bool}
theorem gah_nil : GAH X G [] [] := ⟨fun bs B σ H S Q q => inA pa_nil (q [] B H (.refl S.bh) .nil)⟩
theorem gah_cons (he : GH X G e d) (hr : GAH X G es ds) (hs : nst e = true) : GAH X G (e :: es) (d :: ds) :=
  ⟨fun bs B σ H S Q q => inA (pa_cons pE pA (star_cons hs)) (he.run bs B σ H S _ fun v B1 H1 g1 r1 => hr.run bs B1 σ H1 (S.gro g1) _ fun vs B2 H2 g2 r2 => q _ B2 H2 (g1.trans g2) (.cons (moD r1 g2.h) r2))⟩
theorem ge_cb {nm : Str} {id : String} {r : List V → Hp → VK → Prop} (C : Cok X W N sc k) (hg : glB sc nm = true) (hm : W.mg nm = none) (hv : bootBuiltins nm = some (.builtin id)) (hc : CallR X (.builtin id) r) (ha : GAH X G (e :: es) ds) (hz : RcH X r ds z) (hn : nm ≠ "__name__")
    (he : nst e = true) (hpl : es.all nst = true) : GE X G (.Call (.Name nm p) (e :: es) [] pos) z := by
  have hm' : X.mg nm = none := by
    have := C.wd
    subst this
    exact hm
  exact ⟨fun bs B σ H S Q q => inE (pe_callB hc (C.gl nm hg).1 hm' hv pA hn (C.gl nm hg).2 (star_cons he) (star_all hpl)) (ha.run bs B σ H S _ fun vs B1 H1 g1 r1 => hz B1 H1 vs g1.bh r1 Q fun u B2 H2 g2 r2 => q u B2 H2 (g1.trans g2) r2)⟩
theorem ge_ct {nm : Str} {id : String} {r : List V → Hp → VK → Prop} (C : Cok X W N sc k) (hg : glB sc nm = true) (hm : W.mg nm = none) (hv : bootBuiltins nm = some (.type id)) (hc : CallR X (.type id) r) (ha : GAH X G (e :: es) ds) (hz : RcH X r ds z) (hn : nm ≠ "__name__")
    (he : nst e = true) (hpl : es.all nst = true) : GE X G (.Call (.Name nm p) (e :: es) [] pos) z := by
  have hm' : X.mg nm = none := by
    have := C.wd
    subst this
    exact hm
  exact ⟨fun bs B σ H S Q q => inE (pe_callTy hc (C.gl nm hg).1 hm' hv pA hn (C.gl nm hg).2 (star_cons he) (star_all hpl)) (ha.run bs B σ H S _ fun vs B1 H1 g1 r1 => hz B1 H1 vs g1.bh r1 Q fun u B2 H2 g2 r2 => q u B2 H2 (g1.trans g2) r2)⟩
end
theorem dpa_one {K : PySem.W.Frag} {H : Hp} {vs : List V} {d : D} (h : DpAll K H vs [d]) : ∃ v, vs = [v] ∧ Dp K H v d := by
  cases h with
  | cons h1 h2 =>
    cases h2
    exact ⟨_, rfl, h1⟩
theorem dpa_two {K : PySem.W.Frag} {H : Hp} {vs : List V} {d e : D} (h : DpAll K H vs [d, e]) : ∃ v w, vs = [v, w] ∧ Dp K H v d ∧ Dp K H w e := by
  cases h with
  | cons h1 h2 =>
    obtain ⟨w, rfl, h3⟩ := dpa_one h2
    exact ⟨_, w, rfl, h1, h3⟩
theorem rc_len {X : Cx} {ds : List D} : RcH X (fun xs H Q => ∃ p ys, xs = [.ref p] ∧ (SqL X.K H p ys ∨ SqT X.K H p ys) ∧ Q (.int ys.length) H) [.list ds] (.int (ds.length : Int)) := fun B H vs s h Q q => by
  obtain ⟨v, rfl, h1⟩ := dpa_one h
  obtain ⟨p, us, rfl, h2, h3⟩ := dp_lst h1
  refine ⟨p, us, rfl, .inl h2, ?_⟩
  rw [dpa_len h3]
  exact q _ B H (.refl s) (.int _)
theorem rc_lenT {X : Cx} {ds : List D} : RcH X (fun xs H Q => ∃ p ys, xs = [.ref p] ∧ (SqL X.K H p ys ∨ SqT X.K H p ys) ∧ Q (.int ys.length) H) [.tuple ds] (.int (ds.length : Int)) := fun B H vs s h Q q => by
  obtain ⟨v, rfl, h1⟩ := dpa_one h
  obtain ⟨p, us, rfl, h2, h3⟩ := dp_tup h1
  refine ⟨p, us, rfl, .inr h2, ?_⟩
  rw [dpa_len h3]
  exact q _ B H (.refl s) (.int _)
theorem rc_lenS {X : Cx} {s : Str} (hl : s.length ≤ sizeLine) : RcH X (fun xs H Q => ∃ z, xs = [.str z] ∧ z.length ≤ sizeLine ∧ Q (.int z.length) H) [.str s] (.int (s.length : Int)) := fun B H vs sm h Q q => by
  obtain ⟨v, rfl, h1⟩ := dpa_one h
  exact ⟨s, by rw [dp_str h1], hl, q _ B H (.refl sm) (.int _)⟩
theorem rc_abs {X : Cx} {i : Int} : RcH X (fun xs H Q => ∃ i, xs = [.int i] ∧ Q (.int (if i < 0 then -i else i)) H) [.int i] (.int (if i < 0 then -i else i)) := fun B H vs s h Q q => by
  obtain ⟨v, rfl, h1⟩ := dpa_one h
  exact ⟨i, by rw [dp_int h1], q _ B H (.refl s) (.int _)⟩
theorem rc_max2 {X : Cx} {i j : Int} : RcH X (fun xs H Q => ∃ i j, xs = [.int i, .int j] ∧ Q (.int (if j > i then j else i)) H) [.int i, .int j] (.int (if j > i then j else i)) := fun B H vs s h Q q => by
  obtain ⟨v, w, rfl, h1, h2⟩ := dpa_two h
  exact ⟨i, j, by rw [dp_int h1, dp_int h2], q _ B H (.refl s) (.int _)⟩
theorem rc_min2 {X : Cx} {i j : Int} : RcH X (fun xs H Q => ∃ i j, xs = [.int i, .int j] ∧ Q (.int (if j < i then j else i)) H) [.int i, .int j] (.int (if j < i then j else i)) := fun B H vs s h Q q => by
  obtain ⟨v, w, rfl, h1, h2⟩ := dpa_two h
  exact ⟨i, j, by rw [dp_int h1, dp_int h2], q _ B H (.refl s) (.int _)⟩
theorem rc_intB {X : Cx} {b : Bool} : RcH X (fun xs H Q => (∃ i, xs = [.int i] ∧ Q (.int i) H) ∨ ∃ k, xs = [.bl k] ∧ Q (.int (if k then 1 else 0)) H) [.bool b] (.int (if b then 1 else 0)) := fun B H vs s h Q q => by
  obtain ⟨v, rfl, h1⟩ := dpa_one h
  exact .inr ⟨b, by rw [dp_bl h1], q _ B H (.refl s) (.int _)⟩
theorem dpa_ints {K : PySem.W.Frag} {H : Hp} : ∀ {ns : List Int} {vs : List V}, DpAll K H vs (ns.map PyData.int) → vs = ns.map V.int
  | [], _, h => by
    cases h
    rfl
  | n :: ns, _, h => by
    have h' : DpAll K H _ (PyData.int n :: ns.map PyData.int) := h
    cases h' with
    | cons h1 h2 => rw [dp_int h1, dpa_ints h2, List.map_cons]
theorem rc_sum {X : Cx} {ns : List Int} : RcH X (rSum X.K) [.list (ns.map .int)] (.int ns.sum) := fun B H vs s h Q q => by
  obtain ⟨v, rfl, h1⟩ := dpa_one h
  obtain ⟨p, us, rfl, h2, h3⟩ := dp_lst h1
  rw [dpa_ints h3] at h2
  exact ⟨p, ns, rfl, h2, q _ B H (.refl s) (.int _)⟩
/-- isinstance by a built-in class -/
def tyD : D → String
  | .none => "NoneType"
  | .bool _ => "bool"
  | .int _ => "int"
  | .str _ => "str"
  | .list _ => "list"
  | .tuple _ => "tuple"
  | .dict _ => "dict"
theorem tyx_of {K : PySem.W.Frag} {H : Hp} {v : V} {d : D} (h : Dp K H v d) : TyX K H v (.type (tyD d)) := by
  cases h with
  | non => exact .base .non
  | bl b => exact .base (.bl b)
  | int i => exact .base (.int i)
  | str x => exact .base (.str x)
  | lst h1 h2 =>
    rcases h1 with (h1 | ⟨o, h1⟩) | ⟨o, its, n, h1, h3, _⟩
    · exact .base (.lst h1)
    · exact .base (.frz h1)
    · exact .kList h1 h3
  | tup h1 h2 =>
    rcases h1 with (h1 | ⟨o, h1⟩) | ⟨o, its, n, h1, h3, _⟩
    · exact .base (.tup h1)
    · exact .fTuple h1
    · exact .kTuple h1 h3
section
variable {X : Cx} {G : Gm} {e a b c : Expr} {es rest : List Expr} {d x y z : D} {ds : List D} {W : Wd} {N : List Str} {sc : Scope} {k : Nat} {pos p2 p : Pos} {t u : Bool}
theorem ge_isi {T : Str} {Tn : String} {cb : Bool} (C : Cok X W N sc k) (hg : glB sc "isinstance" = true) (hm : W.mg "isinstance" = none) (hgT : glB sc T = true) (hmT : W.mg T = none) (hvT : bootBuiltins T = some (.type Tn)) (hnT : T ≠ "__name__") (ha : GH X G a d) (hk : kitB (tyD d) Tn = some cb) (he : nst a = true) :
    GE X G (.Call (.Name "isinstance" p) [a, .Name T p2] [] pos) (.bool cb) := by
  have hw := C.wd
  subst hw
  have hT : PE X (.Name T p2) (tC (.ty Tn)) := pe_bltn (v := .ty Tn) (C.gl T hgT).1 hmT hvT rfl hnT (C.gl T hgT).2
  refine ⟨fun bs B σ H S Q q => inE (pe_callB call_isi (C.gl _ hg).1 hm (by decide +kernel) (pa_cons pE (pa_cons hT pa_nil (star_cons rfl)) (star_cons he)) (by decide) (C.gl _ hg).2 (star_cons he) (star_all rfl)) (ha.run bs B σ H S _ fun v B1 H1 g1 r1 => ?_)⟩
  exact ⟨v, .ty Tn, _, _, cb, rfl, .ty Tn, tyx_of r1, kit_ty hk, q _ B1 H1 g1 (.bl _)⟩
end

/-! ### list(x), tuple(x) -/
section
variable {X : Cx} {G : Gm} {e a b c : Expr} {es rest : List Expr} {d x y z : D} {ds : List D} {W : Wd} {N : List Str} {sc : Scope} {k : Nat} {pos p2 p : Pos} {t u : Bool}
theorem go_list (C : Cok X W N sc k) (hg : glB sc "list" = true) (hm : W.mg "list" = none) (ha : GL X G e ds) (he : nst e = true) : GO X G (.Call (.Name "list" p) [e] [] pos) ds := by
  have hw := C.wd
  subst hw
  refine ⟨fun bs B σ H S Q q => inE (pe_callTy call_list_of (C.gl _ hg).1 hm (by decide +kernel) (pa_cons pE pa_nil (star_cons he)) (by decide) (C.gl _ hg).2 (star_cons he) (star_all rfl)) (ha.run bs B σ H S _ fun p vs B1 H1 g1 r1 r2 => ?_)⟩
  refine ⟨p, vs, rfl, .inl r1, fun l hl => ?_⟩
  have g : Grow B1 H1 B1 (upd H1 l (.lst vs)) := .own g1.bh hl
  exact q l vs _ _ (g1.trans g) (same_none g1.h hl) (same_none g1.bh hl) upd_same r2
theorem go_listT (C : Cok X W N sc k) (hg : glB sc "list" = true) (hm : W.mg "list" = none) (ha : GE X G e (.tuple ds)) (he : nst e = true) : GO X G (.Call (.Name "list" p) [e] [] pos) ds := by
  have hw := C.wd
  subst hw
  refine ⟨fun bs B σ H S Q q => inE (pe_callTy call_list_of (C.gl _ hg).1 hm (by decide +kernel) (pa_cons pE pa_nil (star_cons he)) (by decide) (C.gl _ hg).2 (star_cons he) (star_all rfl)) (ha.run bs B σ H S _ fun v B1 H1 g1 r1 => ?_)⟩
  obtain ⟨p, vs, rfl, h1, h2⟩ := dp_tup r1
  refine ⟨p, vs, rfl, .inr (same_sqT g1.bh h1), fun l hl => ?_⟩
  have g : Grow B1 H1 B1 (upd H1 l (.lst vs)) := .own g1.bh hl
  exact q l vs _ _ (g1.trans g) (same_none g1.h hl) (same_none g1.bh hl) upd_same h2
theorem ge_tupleL (C : Cok X W N sc k) (hg : glB sc "tuple" = true) (hm : W.mg "tuple" = none) (ha : GL X G e ds) (he : nst e = true) : GE X G (.Call (.Name "tuple" p) [e] [] pos) (.tuple ds) := by
  have hw := C.wd
  subst hw
  refine ⟨fun bs B σ H S Q q => inE (pe_callTy call_tuple_of (C.gl _ hg).1 hm (by decide +kernel) (pa_cons pE pa_nil (star_cons he)) (by decide) (C.gl _ hg).2 (star_cons he) (star_all rfl)) (ha.run bs B σ H S _ fun p vs B1 H1 g1 r1 r2 => ?_)⟩
  refine ⟨p, vs, rfl, .inl ⟨r1, fun l hl => ?_⟩⟩
  have g : Grow B1 H1 (upd B1 l (.tup vs)) (upd H1 l (.tup vs)) := .new g1.bh hl
  exact q _ _ _ (g1.trans g) (dpr upd_same (moA r2 g.b))
end
end DW

set_option Elab.async false
set_option linter.all false
set_option maxRecDepth 100000
set_option maxHeartbeats 4000000
set_option autoImplicit false
namespace DW
open PySem PySem.Spec PyProof.Rows L2

/-! ### what a def of the text promises, by data -/
inductive Rs where
  | fz (d : D)
  | ow (ds : List D)
  | ex (x : Str) (G : Gm)
abbrev Ct := List D → (Rs → Prop) → Prop
def spD (K : PySem.W.Frag) (mg : Str → Option Value) (c : Ct) : Sp := fun vs H Q E => ∃ (B : Hp) (ds : List D) (R : Rs → Prop), Same B H ∧ DpAll K B vs ds ∧ c ds R ∧ (∀ d v B' H', R (.fz d) → Grow B H B' H' → Dp K B' v d → Q v H') ∧
  (∀ es p us B' H', R (.ow es) → Grow B H B' H' → H p = none → B' p = none → H' p = some (.lst us) → DpAll K B' us es → Q (.ref p) H') ∧
  (∀ x G C B' H', R (.ex x G) → mg x = some (.ref C) → Grow B H B' H' → E (.ref C) none H')
structure Has (W : Wd) (k : Nat) (x : Str) (c : Ct) : Prop where
  ex : ∃ (f : Addr) (fd : FuncData) (ps : List Str), W.mg x = some (.ref f) ∧ PySem.W.keepIn W.K (.ref f) = true ∧ Binds W.K fd ps [] ∧ FnOk W.P W.w W.K W.mg W.base (L2.CX W.P W.w) k f fd ps (spD W.K W.mg c)
section
variable {X : Cx} {G : Gm} {e a b : Expr} {es rest : List Expr} {d x y z : D} {ds : List D} {W : Wd} {N : List Str} {sc : Scope} {k j : Nat} {pos p2 p : Pos} {nm : Str} {c : Ct}
theorem ge_call (C : Cok X W N sc k) (Hs : Has W j nm c) (hj : j ≤ k) (hg : glB sc nm = true) (ha : GA X G (e :: es) ds) (hc : ∀ R : Rs → Prop, R (.fz d) → c ds R) (he : nst e = true) (hpl : es.all nst = true) :
    GE X G (.Call (.Name nm p) (e :: es) [] pos) d := by
  obtain ⟨f, fd, ps, h1, h2, h3, h4⟩ := Hs.ex
  have hw := C.wd
  subst hw
  refine ⟨fun bs B σ H S Q q => inE (pe_call (E := E0) h4 (C.room.mono hj) (C.gl nm hg).1 h1 h2 h3 .nil passL pA (C.gl nm hg).2 (star_cons he) (star_all hpl)) (ha.run bs B σ H S _ fun vs B1 H1 g1 r1 => ?_)⟩
  refine ⟨B1, ds, fun r => r = .fz d, g1.bh, by rw [List.append_nil]; exact r1, hc _ rfl, fun d' v B' H' e' g r => ?_, (fun _ _ _ _ _ e' => by cases e'), (fun _ _ _ _ _ e' => by cases e')⟩
  cases e'
  exact q v B' H' (g1.trans g) r
theorem go_call (C : Cok X W N sc k) (Hs : Has W j nm c) (hj : j ≤ k) (hg : glB sc nm = true) (ha : GA X G (e :: es) ds) {us : List D} (hc : ∀ R : Rs → Prop, R (.ow us) → c ds R) (he : nst e = true) (hpl : es.all nst = true) :
    GO X G (.Call (.Name nm p) (e :: es) [] pos) us := by
  obtain ⟨f, fd, ps, h1, h2, h3, h4⟩ := Hs.ex
  have hw := C.wd
  subst hw
  refine ⟨fun bs B σ H S Q q => inE (pe_call (E := E0) h4 (C.room.mono hj) (C.gl nm hg).1 h1 h2 h3 .nil passL pA (C.gl nm hg).2 (star_cons he) (star_all hpl)) (ha.run bs B σ H S _ fun vs B1 H1 g1 r1 => ?_)⟩
  refine ⟨B1, ds, fun r => r = .ow us, g1.bh, by rw [List.append_nil]; exact r1, hc _ rfl, (fun _ _ _ _ e' => by cases e'), fun es' p us' B' H' e' g h0 h1 h2 r => ?_, (fun _ _ _ _ _ e' => by cases e')⟩
  cases e'
  exact q p us' B' H' (g1.trans g) (same_none g1.h h0) h1 h2 r
end

/-! ### targets -/
def Agr (ws : List Nat) (σ σ' : L2.St) : Prop := σ'.length = σ.length ∧ ∀ i, i ∉ ws → σ'[i]? = σ[i]?
theorem Agr.refl {ws : List Nat} {σ : L2.St} : Agr ws σ σ := ⟨rfl, fun _ _ => rfl⟩
theorem Agr.trans {ws : List Nat} {σ σ' σ'' : L2.St} (a : Agr ws σ σ') (b : Agr ws σ' σ'') : Agr ws σ σ'' := ⟨b.1.trans a.1, fun i h => (b.2 i h).trans (a.2 i h)⟩
theorem Agr.set {ws : List Nat} {σ : L2.St} {i : Nat} {o : Option V} (h : i ∈ ws) : Agr ws σ (σ.set i o) := ⟨List.length_set, fun j hj => List.getElem?_set_ne fun z => hj (by rw [← z]; exact h)⟩
theorem wipe_in {σ : L2.St} {i : Nat} : ∀ {vs : List Nat}, i ∈ vs → i < σ.length → (wipe σ vs)[i]? = some none
  | [], h, _ => by cases h
  | v :: vs, h, hl => by
    unfold wipe
    by_cases e : v = i
    · subst e
      rw [List.getElem?_set_self (by rw [wipe_length]; exact hl)]
    · rw [List.getElem?_set_ne e]
      rcases List.mem_cons.mp h with q | q
      · exact (e q.symm).elim
      · exact wipe_in q hl
theorem wipe_agr {ws : List Nat} {σ σ' : L2.St} (a : Agr ws σ σ') : wipe σ' ws = wipe σ ws := by
  refine List.ext_getElem? fun i => ?_
  by_cases h : i ∈ ws
  · by_cases hl : i < σ.length
    · rw [wipe_in h hl, wipe_in h (by rw [a.1]; exact hl)]
    · rw [List.getElem?_eq_none (by rw [wipe_length, a.1]; omega), List.getElem?_eq_none (by rw [wipe_length]; omega)]
  · rw [wipe_out h, wipe_out h, a.2 i h]
theorem agr_wipe {ws : List Nat} {σ : L2.St} : Agr ws σ (wipe σ ws) := ⟨wipe_length σ ws, fun i h => wipe_out h⟩
def tG (X : Cx) (tg : Expr) : TG := fun v σ H Q => ∀ (pins : List (Addr × Obj)) (s : Shared) (u : Value), Inv X pins σ H s → RelV v u → wpAny (model X.prog X.w) X.A (assign tg X.env u) (fun _ s' => ∃ σ' H', Inv X pins σ' H' s' ∧ Q σ' H') X.xe s
theorem pG {X : Cx} {tg : Expr} : PG X tg (tG X tg) := ⟨fun pins s _ _ _ u _ I r h => h pins s u I r⟩
theorem inG {X : Cx} {tg : Expr} {v : V} {σ : L2.St} {H : Hp} {t : TG} {Q : L2.St → Hp → Prop} (p : PG X tg t) (h : t v σ H Q) : tG X tg v σ H Q := fun pins s u I r => p.run pins s σ H v u Q I r h
structure GG (X : Cx) (G : Gm) (tg : Expr) (d : D) (G' : Gm) (ws : List Nat) : Prop where
  run : ∀ (bs : Bs) (B : Hp) (σ : L2.St) (H : Hp) (v : V), Sat X.K bs G B σ H → Dp X.K B v d → ∀ Q : L2.St → Hp → Prop, (∀ σ', Agr ws σ σ' → Sat X.K bs G' B σ' H → Q σ' H) → tG X tg v σ H Q
section
variable {X : Cx} {G : Gm} {d : D} {W : Wd} {N : List Str} {sc : Scope} {k : Nat} {pos p1 p2 p3 : Pos} {ws : List Nat}
theorem gg_name (C : Cok X W N sc k) (i : Nat) {x : Str} (h : okL N sc i x = true) (hw : i ∈ ws) : GG X G (.Name x pos) d (G.set i (.fz d)) ws := by
  obtain ⟨h1, h2⟩ := okL_of h
  obtain ⟨l1, l2⟩ := C.loc x h2
  exact ⟨fun bs B σ H v S r Q q => inG (pg_name (by rw [C.N]; exact C.nd) (by rw [C.N]; exact h1) l1 l2) (q _ (.set hw) (S.setF r))⟩
theorem gg_tup2 (C : Cok X W N sc k) (i j : Nat) {x y : Str} {d1 d2 : D} {n1 : Nat} (h : okL N sc i x = true) (h' : okL N sc j y = true) (hw : i ∈ ws) (hw' : j ∈ ws) :
    GG X G (.Tuple [.Name x p1, .Name y p2] n1 pos) (.tuple [d1, d2]) ((G.set i (.fz d1)).set j (.fz d2)) ws := by
  obtain ⟨h1, h2⟩ := okL_of h
  obtain ⟨l1, l2⟩ := C.loc x h2
  obtain ⟨h3, h4⟩ := okL_of h'
  obtain ⟨l3, l4⟩ := C.loc y h4
  have nd : X.N.Nodup := by
    rw [C.N]
    exact C.nd
  refine ⟨fun bs B σ H v S r Q q => inG (pg_tup C.calm (pgs_cons (pg_name (i := i) nd (by rw [C.N]; exact h1) l1 l2) (pgs_cons (pg_name (i := j) nd (by rw [C.N]; exact h3) l3 l4) pgs_nil))) ?_⟩
  obtain ⟨a, vs, rfl, q1, q2⟩ := dp_tup r
  obtain ⟨v1, v2, rfl, r1, r2⟩ := dpa_two q2
  refine ⟨a, _, rfl, same_sqT S.bh q1, rfl, v1, [v2], rfl, v2, [], rfl, rfl, ?_⟩
  exact q _ ((Agr.set hw).trans (.set hw')) ((S.setF r1).setF r2)
theorem gg_tup3 (C : Cok X W N sc k) (i j l : Nat) {x y z : Str} {d1 d2 d3 : D} {n1 : Nat} (h : okL N sc i x = true) (h' : okL N sc j y = true) (h'' : okL N sc l z = true) (hw : i ∈ ws) (hw' : j ∈ ws) (hw'' : l ∈ ws) :
    GG X G (.Tuple [.Name x p1, .Name y p2, .Name z p3] n1 pos) (.tuple [d1, d2, d3]) (((G.set i (.fz d1)).set j (.fz d2)).set l (.fz d3)) ws := by
  obtain ⟨h1, h2⟩ := okL_of h
  obtain ⟨l1, l2⟩ := C.loc x h2
  obtain ⟨h3, h4⟩ := okL_of h'
  obtain ⟨l3, l4⟩ := C.loc y h4
  obtain ⟨h5, h6⟩ := okL_of h''
  obtain ⟨l5, l6⟩ := C.loc z h6
  have nd : X.N.Nodup := by
    rw [C.N]
    exact C.nd
  refine ⟨fun bs B σ H v S r Q q => inG (pg_tup C.calm (pgs_cons (pg_name (i := i) nd (by rw [C.N]; exact h1) l1 l2) (pgs_cons (pg_name (i := j) nd (by rw [C.N]; exact h3) l3 l4) (pgs_cons (pg_name (i := l) nd (by rw [C.N]; exact h5) l5 l6) pgs_nil)))) ?_⟩
  obtain ⟨a, vs, rfl, q1, q2⟩ := dp_tup r
  cases q2 with
  | cons r1 q3 =>
    obtain ⟨v2, v3, rfl, r2, r3⟩ := dpa_two q3
    refine ⟨a, _, rfl, same_sqT S.bh q1, rfl, _, [v2, v3], rfl, v2, [v3], rfl, v3, [], rfl, rfl, ?_⟩
    exact q _ (((Agr.set hw).trans (.set hw')).trans (.set hw'')) (((S.setF r1).setF r2).setF r3)
end

/-! ### what is walked -/
def tI (X : Cx) (tg iter : Expr) : TI := fun σ H R => ∀ (pins : List (Addr × Obj)) (s : Shared), Inv X pins σ H s → wpAny (model X.prog X.w) X.A (eval iter X.env) (fun v s1 => wpAny (model X.prog X.w) X.A (pyIter v) (PIE X pins σ tg R) X.xe s1) X.xe s
theorem pI {X : Cx} {tg iter : Expr} : PI X tg iter (tI X tg iter) := ⟨fun pins s _ _ _ I h => h pins s I⟩
theorem inI {X : Cx} {tg iter : Expr} {σ : L2.St} {H : Hp} {t : TI} {R : It → Hp → Prop} (p : PI X tg iter t) (h : t σ H R) : tI X tg iter σ H R := fun pins s I => p.run pins s σ H R I h
/-- J goes through the items while F stands -/
structure Wk (K : PySem.W.Frag) (B1 F : Hp) (J : It) (items : List D) : Prop where
  stop : ∀ i H', Same F H' → items.length ≤ i → J.stop i H'
  go : ∀ i H', Same F H' → i < items.length → J.go i H'
  yld : ∀ i B' H' x H'', Same F H' → Same B1 B' → Same B' H' → i < items.length → J.yld i H' x H'' → ∃ d B'', items[i]? = some d ∧ Grow B' H' B'' H'' ∧ Dp K B'' x d
theorem Wk.weak {K : PySem.W.Frag} {B1 F F' : Hp} {J : It} {items : List D} (w : Wk K B1 F J items) (e : Same F F') : Wk K B1 F' J items :=
  ⟨fun i H' s => w.stop i H' (e.trans s), fun i H' s => w.go i H' (e.trans s), fun i B' H' x H'' s => w.yld i B' H' x H'' (e.trans s)⟩
/-- .. for a loop | for a comprehension -/
structure GI (X : Cx) (G : Gm) (tg iter : Expr) (items : List D) : Prop where
  run : ∀ (bs : Bs) (B : Hp) (σ : L2.St) (H : Hp), Sat X.K bs G B σ H → ∀ R : It → Hp → Prop, (∀ J B1 H1, Grow B H B1 H1 → Wk X.K B1 B1 J items → R J H1) → tI X tg iter σ H R
structure GIw (X : Cx) (G : Gm) (tg iter : Expr) (items : List D) : Prop where
  run : ∀ (bs : Bs) (B : Hp) (σ : L2.St) (H : Hp), Sat X.K bs G B σ H → ∀ R : It → Hp → Prop, (∀ J B1 H1, Grow B H B1 H1 → Wk X.K B1 H1 J items → R J H1) → tI X tg iter σ H R
theorem wk_list {K : PySem.W.Frag} {B1 F : Hp} {p : Addr} {vs : List V} {items : List D} (h : SqL K F p vs) (r : DpAll K B1 vs items) : Wk K B1 F (Itl K p) items := by
  have ll := dpa_len r
  refine ⟨fun i H' s hi => ⟨vs, s.seq h, by omega⟩, fun i H' s hi => ⟨vs, vs[i], s.seq h, List.getElem?_eq_getElem (by omega)⟩, fun i B' H' x H'' s1 s2 s3 hi y => ?_⟩
  obtain ⟨e, y⟩ := y
  subst e
  obtain ⟨d, e1, e2⟩ := dpa_getV r (y vs (s1.seq h))
  exact ⟨d, B', e1, .refl s3, moD e2 s2⟩
theorem wk_tup {K : PySem.W.Frag} {B1 F : Hp} {p : Addr} {vs : List V} {items : List D} (h : SqT K F p vs) (r : DpAll K B1 vs items) : Wk K B1 F (Itt K p) items := by
  have ll := dpa_len r
  refine ⟨fun i H' s hi => ⟨vs, same_sqT s h, by omega⟩, fun i H' s hi => ⟨vs, vs[i], same_sqT s h, List.getElem?_eq_getElem (by omega)⟩, fun i B' H' x H'' s1 s2 s3 hi y => ?_⟩
  obtain ⟨e, y⟩ := y
  subst e
  obtain ⟨d, e1, e2⟩ := dpa_getV r (y vs (same_sqT s1 h))
  exact ⟨d, B', e1, .refl s3, moD e2 s2⟩
/-- lo, lo + 1, .. -/
def rngL (lo : Int) (n : Nat) : List Int := (List.range n).map fun (i : Nat) => lo + (i : Int)
theorem rngL_get {lo : Int} {n i : Nat} (h : i < n) : (rngL lo n)[i]? = some (lo + (i : Int)) := by
  unfold rngL
  rw [List.getElem?_map, List.getElem?_range h]
  rfl
theorem rngL_len {lo : Int} {n : Nat} : (rngL lo n).length = n := by
  unfold rngL
  rw [List.length_map, List.length_range]
theorem wk_rng {K : PySem.W.Frag} {B1 F : Hp} {lo : Int} {n : Nat} : Wk K B1 F (Itr lo n) ((rngL lo n).map PyData.int) := by
  refine ⟨fun i H' s hi => ?_, fun i H' s hi => ?_, fun i B' H' x H'' s1 s2 s3 hi y => ?_⟩
  · rw [List.length_map, rngL_len] at hi
    exact hi
  · rw [List.length_map, rngL_len] at hi
    exact hi
  · rw [List.length_map, rngL_len] at hi
    obtain ⟨rfl, rfl⟩ := y
    exact ⟨_, B', by rw [List.getElem?_map, rngL_get hi]; rfl, .refl s3, .int _⟩
section
variable {X : Cx} {G : Gm} {tg iter e a b : Expr} {items ds : List D} {W : Wd} {N : List Str} {sc : Scope} {k : Nat} {pos p1 p2 p3 p : Pos} {ws : List Nat}
theorem GI.w (h : GI X G tg iter items) : GIw X G tg iter items := ⟨fun bs B σ H S R q => h.run bs B σ H S R fun J B1 H1 g w => q J B1 H1 g (w.weak g.bh)⟩
theorem gi_list (h : GE X G iter (.list items)) : GI X G tg iter items := ⟨fun bs B σ H S R q => inI (pi_list pE) (h.run bs B σ H S _ fun v B1 H1 g r => by
  obtain ⟨p, vs, rfl, h1, h2⟩ := dp_lst r
  exact ⟨p, rfl, ⟨vs, g.bh.seq h1⟩, q _ B1 H1 g (wk_list h1 h2)⟩)⟩
theorem gw_list (h : GL X G iter items) : GIw X G tg iter items := ⟨fun bs B σ H S R q => inI (pi_list pE) (h.run bs B σ H S _ fun p vs B1 H1 g h1 h2 => ⟨p, rfl, ⟨vs, h1⟩, q _ B1 H1 g (wk_list h1 h2)⟩)⟩
theorem gi_tup (h : GE X G iter (.tuple items)) : GI X G tg iter items := ⟨fun bs B σ H S R q => inI (pi_tup pE) (h.run bs B σ H S _ fun v B1 H1 g r => by
  obtain ⟨p, vs, rfl, h1, h2⟩ := dp_tup r
  exact ⟨p, rfl, ⟨vs, same_sqT g.bh h1⟩, q _ B1 H1 g (wk_tup h1 h2)⟩)⟩
theorem gi_rng1 {n : Int} (C : Cok X W N sc k) (hg : glB sc "range" = true) (hm : W.mg "range" = none) (ha : GE X G a (.int n)) (h1 : -(2 ^ 62) ≤ n ∧ n < 2 ^ 62) (he : nst a = true) :
    GI X G tg (.Call (.Name "range" p) [a] [] pos) ((rngL 0 n.toNat).map PyData.int) := by
  have hw := C.wd
  subst hw
  refine ⟨fun bs B σ H S R q => inI (pi_range1 (C.gl _ hg).1 hm (pa_cons pE pa_nil (star_cons he)) (star_cons he)) (ha.run bs B σ H S _ fun v B1 H1 g r => ?_)⟩
  exact ⟨n, by rw [dp_int r], h1.1, h1.2, q _ B1 H1 g wk_rng⟩
theorem gi_rng2 {lo n : Int} (C : Cok X W N sc k) (hg : glB sc "range" = true) (hm : W.mg "range" = none) (ha : GE X G a (.int lo)) (hb : GE X G b (.int n)) (h1 : -(2 ^ 62) ≤ lo ∧ lo < 2 ^ 62 ∧ -(2 ^ 62) ≤ n ∧ n < 2 ^ 62) (he : nst a = true) (he2 : nst b = true) :
    GI X G tg (.Call (.Name "range" p) [a, b] [] pos) ((rngL lo (n - lo).toNat).map PyData.int) := by
  have hw := C.wd
  subst hw
  refine ⟨fun bs B σ H S R q => inI (pi_range2 (C.gl _ hg).1 hm (pa_cons pE (pa_cons pE pa_nil (star_cons he2)) (star_cons he)) (by rw [star_cons he, star_cons he2]; rfl) (star_cons he2)) (ha.run bs B σ H S _ fun v B1 H1 g r => hb.run bs B1 σ H1 (S.gro g) _ fun w B2 H2 g2 r2 => ?_)⟩
  exact ⟨lo, n, by rw [dp_int r, dp_int r2], h1, q _ B2 H2 (g.trans g2) wk_rng⟩
end

/-! ### comprehensions -/
theorem lookup_free {env : Env} : ∀ {names : List (Str × NameKind)} {x : Str}, names.lookup x = some .free →
    (names.map fun (n, k) => if (k == NameKind.free && env.scope.kind == .function && env.kindOf n == some .cell) then (n, NameKind.cell) else (n, k)).lookup x = some .cell ∨
    (names.map fun (n, k) => if (k == NameKind.free && env.scope.kind == .function && env.kindOf n == some .cell) then (n, NameKind.cell) else (n, k)).lookup x = some .free
  | [], _, h => by simp at h
  | (n, k) :: r, x, h => by
    have ih := @lookup_free env r x
    show List.lookup x ((if (k == NameKind.free && env.scope.kind == .function && env.kindOf n == some .cell) = true then (n, NameKind.cell) else (n, k)) :: _) = _ ∨ List.lookup x ((if (k == NameKind.free && env.scope.kind == .function && env.kindOf n == some .cell) = true then (n, NameKind.cell) else (n, k)) :: _) = _
    cases hx : x == n with
    | true =>
      simp only [List.lookup_cons, hx] at h
      cases h
      by_cases hc : (NameKind.free == NameKind.free && env.scope.kind == .function && env.kindOf n == some .cell) = true
      · rw [if_pos hc]
        simp only [List.lookup_cons, hx]
        exact .inl trivial
      · rw [if_neg hc]
        simp only [List.lookup_cons, hx]
        exact .inr trivial
    | false =>
      simp only [List.lookup_cons, hx] at h
      by_cases hc : (k == NameKind.free && env.scope.kind == .function && env.kindOf n == some .cell) = true
      · rw [if_pos hc]
        simp only [List.lookup_cons, hx]
        exact ih h
      · rw [if_neg hc]
        simp only [List.lookup_cons, hx]
        exact ih h
theorem cok_blk {X : Cx} {W : Wd} {N : List Str} {sc scope : Scope} {k : Nat} (C : Cok X W N sc k) {s : Shared} {H : Hp} {cl : List (Str × Addr)} {Cc : Addr} {fp : List Addr} : Cok (X.blk s H scope (compEnvC scope cl Cc X.env) fp) W N scope k := by
  have hl : ∀ x q, (q == NameKind.free) = false → scope.names.lookup x = some q → (compEnvC scope cl Cc X.env).scope.names.lookup x = some q := fun x q h0 h => PySem.oc_lookup_relabel h0 h
  have hf : ∀ x, scope.names.lookup x = some .free → (compEnvC scope cl Cc X.env).scope.names.lookup x = some .cell ∨ (compEnvC scope cl Cc X.env).scope.names.lookup x = some .free := fun x h => lookup_free h
  have bkblk : scope.kind = .function → (compEnvC scope cl Cc X.env).blockKind = .function := fun h => by
    show (if scope.kind.isAnnotationScope then _ else scope.kind) = _
    rw [h]
    rfl
  refine ⟨⟨C.wd, C.nd, C.N, fun x h => ?_, fun x h => ?_, fun x h => ?_, fun x h => ?_, fun x h => ?_, bkblk⟩, C.calm, C.room, .never⟩
  · rcases visB_of h with q | q | q
    · exact .inl (hl x _ rfl q)
    · exact .inr (.inl (hl x _ rfl q))
    · rcases hf x q with q | q
      · exact .inr (.inl q)
      · exact .inr (.inr q)
  · rcases locB_of h with q | q
    · exact ⟨.inl (hl x _ rfl q), .inr (hl x _ rfl q)⟩
    · refine ⟨.inr (hl x _ rfl q), .inl ?_⟩
      show (scope.names.lookup x == some .cell) = true
      rw [q]
      rfl
  · exact hl x _ rfl (loc1B_of h)
  · exact ⟨hl x _ rfl (glB_of h).1, (glB_of h).2⟩
  · rcases h with q | q
    · exact .inl (hl x _ rfl q)
    · exact hf x q
def wipeG (G : Gm) : List Nat → Gm
  | [] => G
  | v :: vs => (wipeG G vs).set v .no
theorem Sat.wipe {K : PySem.W.Frag} {bs : Bs} {G : Gm} {B H : Hp} {σ : L2.St} (S : Sat K bs G B σ H) : ∀ vs : List Nat, Sat K bs (wipeG G vs) B (L2.wipe σ vs) H
  | [] => S
  | v :: vs => (Sat.wipe S vs).setN
def tQ (X : Cx) (ifs : List Expr) : TT := fun σ H Q => ∀ (pins : List (Addr × Obj)) (s : Shared), Inv X pins σ H s →
  wpAny (model X.prog X.w) X.A (forIn ifs true fun c r => if r = true then do let ok ← isTrue c X.env (eval c X.env); pure (ForInStep.yield ok) else pure (ForInStep.yield r)) (TP X pins σ Q) X.xe s
theorem pQ {X : Cx} {ifs : List Expr} : PTs X ifs (tQ X ifs) := ⟨fun pins s _ _ _ I h => h pins s I⟩
theorem inQ {X : Cx} {ifs : List Expr} {σ : L2.St} {H : Hp} {t : TT} {Q : Bool → Hp → Prop} (p : PTs X ifs t) (h : t σ H Q) : tQ X ifs σ H Q := fun pins s I => p.run pins s σ H Q I h
structure GTs (X : Cx) (G : Gm) (ifs : List Expr) (b : Bool) : Prop where
  run : ∀ (bs : Bs) (B : Hp) (σ : L2.St) (H : Hp), Sat X.K bs G B σ H → ∀ Q : Bool → Hp → Prop, (∀ B' H', Grow B H B' H' → Q b H') → tQ X ifs σ H Q
section
variable {X : Cx} {G : Gm} {tg iter elt e a b : Expr} {items ds : List D} {W : Wd} {N : List Str} {sc scope : Scope} {k : Nat} {pos p1 p2 p3 p : Pos} {ws : List Nat} {ifs : List Expr}
theorem gts_nil : GTs X G [] true := ⟨fun bs B σ H S Q q => inQ pts_nil (q B H (.refl S.bh))⟩
theorem gts_one {t : Bool} (h : GT X G e t) : GTs X G [e] t := ⟨fun bs B σ H S Q q => inQ (pts_one pT) (h.run bs B σ H S Q q)⟩
def gBc (X : Cx) (scope : Scope) (tg : Expr) : TG := fun v σ H Q => ∀ (s0 : Shared) (H0 : Hp) (Cc : Addr) (cl : List (Str × Addr)) (fp : List Addr), tG (X.blk s0 H0 scope (compEnvC scope cl Cc X.env) fp) tg v σ H Q
def tBc (X : Cx) (scope : Scope) (ifs : List Expr) : TT := fun σ H Q => ∀ (s0 : Shared) (H0 : Hp) (Cc : Addr) (cl : List (Str × Addr)) (fp : List Addr), tQ (X.blk s0 H0 scope (compEnvC scope cl Cc X.env) fp) ifs σ H Q
def eBc (X : Cx) (scope : Scope) (elt : Expr) : TE := fun σ H Q => ∀ (s0 : Shared) (H0 : Hp) (Cc : Addr) (cl : List (Str × Addr)) (fp : List Addr), tE (X.blk s0 H0 scope (compEnvC scope cl Cc X.env) fp) elt σ H Q
theorem lc_run {α : Type} {xs : List α} {en : α → D} {bt : α → Bool} {g : α → D} {G1 : α → Gm} (C : Cok X W N sc k) (own : List (Str × Nat)) (ok : blkC N sc scope own = true) (hi : GIw X G tg iter (xs.map en)) (hz : xs.length ≤ 16777216)
    (hg : ∀ X', Cok X' W N scope k → ∀ x ∈ xs, GG X' (wipeG G (own.map (·.2))) tg (en x) (G1 x) (own.map (·.2)))
    (ht : ∀ X', Cok X' W N scope k → ∀ x ∈ xs, GTs X' (G1 x) ifs (bt x))
    (he : ∀ X', Cok X' W N scope k → ∀ x ∈ xs, bt x = true → GE X' (G1 x) elt (g x))
    (bs : Bs) (B : Hp) (σ : L2.St) (H : Hp) (S : Sat X.K bs G B σ H) (Q : V → Hp → Prop) (q : ∀ (p : Addr) (vs : List V) (B1 H1 : Hp), Grow B H B1 H1 → H p = none → B1 p = none → H1 p = some (.lst vs) → DpAll X.K B1 vs ((xs.filter bt).map g) → Q (.ref p) H1) :
    tLc (tI X tg iter) (gBc X scope tg) (tBc X scope ifs) (eBc X scope elt) (own.map (·.2)) σ H Q := by
  refine hi.run bs B σ H S _ fun J B1 H1 g1 wk => fun L hL => ?_
  have S1 := (S.gro g1).wipe (own.map (·.2))
  have BL : B1 L = none := same_none g1.bh hL
  let Pv : Nat → Hp → Prop := fun i H' => ∃ B' us, Grow B1 H1 B' H' ∧ B' L = none ∧ H' L = some (.lst us) ∧ DpAll X.K B' us (((xs.take i).filter bt).map g)
  refine ⟨fun i m H' => m = xs.length - i ∧ i ≤ xs.length ∧ Pv i H', ⟨xs.length, by simp, Nat.zero_le _, B1, [], .own g1.bh hL, BL, upd_same, .nil⟩, ?_⟩
  rintro i m H' ⟨rfl, hile, B', us, g2, b2, h2, r2⟩
  by_cases hlt : i < xs.length
  · refine .inr ⟨wk.go i H' g2.h (by rw [List.length_map]; exact hlt), Pv (i + 1), fun H'' p' => ⟨xs.length - (i + 1), by omega, rfl, hlt, p'⟩, fun x H'' y => ?_⟩
    obtain ⟨d, B'', e1, g3, r3⟩ := wk.yld i B' H' x H'' g2.h g2.b g2.bh (by rw [List.length_map]; exact hlt) y
    rw [List.getElem?_map, List.getElem?_eq_getElem hlt] at e1
    cases e1
    have hmem : xs[i] ∈ xs := List.getElem_mem hlt
    have S3 := S1.gro (g2.trans g3)
    have b3 : B'' L = none := g3.n L (by rw [h2]; simp) b2
    have h3 : H'' L = some (.lst us) := g3.h L _ h2
    have take1 : xs.take (i + 1) = xs.take i ++ [xs[i]] := by rw [List.take_add_one, List.getElem?_eq_getElem hlt]; rfl
    intro s0 H0 Cc cl fp
    refine (hg (X.blk s0 H0 scope (compEnvC scope cl Cc X.env) fp) (cok_blk C) _ hmem).run bs B'' _ H'' x S3 r3 _ fun σ' ag S4 => ?_
    refine ⟨(wipe_agr ag).trans (wipe_agr agr_wipe), ?_⟩
    intro s1 H1' Cc1 cl1 fp1
    refine (ht (X.blk s1 H1' scope (compEnvC scope cl1 Cc1 X.env) fp1) (cok_blk C) _ hmem).run bs B'' σ' H'' S4 _ fun B4 H4 g4 => ?_
    have b4 : B4 L = none := g4.n L (by rw [h3]; simp) b3
    have h4 : H4 L = some (.lst us) := g4.h L _ h3
    have r4 := moA (moA r2 g3.b) g4.b
    have cond : ∀ c, bt xs[i] = c → (if c = true then eBc X scope elt σ' H4 (fun y H4' => ∃ acc, H4' L = some (.lst acc) ∧ acc.length < sizeLine ∧ Pv (i + 1) (upd H4' L (.lst (acc ++ [y])))) else Pv (i + 1) H4) := fun c hc => by
      cases c with
      | true =>
        rw [if_pos rfl]
        intro s2 H2' Cc2 cl2 fp2
        refine (he (X.blk s2 H2' scope (compEnvC scope cl2 Cc2 X.env) fp2) (cok_blk C) _ hmem hc).run bs B4 σ' H4 (S4.gro g4) _ fun y B5 H5 g5 r5 => ?_
        have b5 : B5 L = none := g5.n L (by rw [h4]; simp) b4
        have h5 : H5 L = some (.lst us) := g5.h L _ h4
        have lus := dpa_len r4
        rw [List.length_map] at lus
        have lf := List.length_filter_le bt (xs.take i)
        rw [List.length_take] at lf
        have gA := (((g2.trans g3).trans g4).trans g5)
        refine ⟨us, h5, by rw [sizeLine_eq]; omega, B5, us ++ [y], ⟨gA.b, fun b o z => ?_, same_out g5.bh b5, gA.n⟩, b5, upd_same, ?_⟩
        · rw [upd_ne (ne_of_none z hL)]
          exact gA.h b o z
        · rw [take1, List.filter_append, List.map_append, List.filter_cons, if_pos hc]
          exact dpa_app (moA r4 g5.b) (.cons r5 .nil)
      | false =>
        rw [if_neg Bool.false_ne_true]
        refine ⟨B4, us, (g2.trans g3).trans g4, b4, h4, ?_⟩
        rw [take1, List.filter_append, List.map_append, List.filter_cons, if_neg (by rw [hc]; decide)]
        show DpAll X.K B4 us (_ ++ [])
        rw [List.append_nil]
        exact r4
    exact cond _ rfl
  · have e : i = xs.length := by omega
    subst e
    rw [List.take_length] at r2
    exact .inl ⟨wk.stop _ H' g2.h (by rw [List.length_map]; exact Nat.le_refl _), q L us B' H' (g1.trans g2) (same_none g1.h hL) b2 h2 r2⟩
theorem lc_blk (C : Cok X W N sc k) (own : List (Str × Nat)) (ok : blkC N sc scope own = true) : BlkOk X.N X.env.scope scope own ∧ X.N.Nodup := by
  have okB : BlkOk X.N X.env.scope scope own := by
    have o := blkOk_by ok
    rw [C.N]
    exact ⟨o.kind, o.uniq, o.ix, fun y hy e => C.fr y.1 (o.free y hy e), o.own⟩
  exact ⟨okB, by rw [C.N]; exact C.nd⟩
/-- [elt for tg in iter if ..] -/
theorem go_lc {α : Type} {xs : List α} {en : α → D} {bt : α → Bool} {g : α → D} {G1 : α → Gm} (C : Cok X W N sc k) (own : List (Str × Nat)) (ok : blkC N sc scope own = true) (hi : GIw X G tg iter (xs.map en)) (hz : xs.length ≤ 16777216)
    (hg : ∀ X', Cok X' W N scope k → ∀ x ∈ xs, GG X' (wipeG G (own.map (·.2))) tg (en x) (G1 x) (own.map (·.2)))
    (ht : ∀ X', Cok X' W N scope k → ∀ x ∈ xs, GTs X' (G1 x) ifs (bt x))
    (he : ∀ X', Cok X' W N scope k → ∀ x ∈ xs, bt x = true → GE X' (G1 x) elt (g x))
    (hs : ∀ x, foldedSetIterable iter X.env x = pure x) : GO X G (.ListComp elt [⟨tg, iter, ifs, 0⟩] scope pos) ((xs.filter bt).map g) := by
  obtain ⟨okB, nd⟩ := lc_blk C own ok
  exact ⟨fun bs B σ H S Q q => inE (pe_lc (g := gBc X scope tg) (tt := tBc X scope ifs) (te := eBc X scope elt) C.calm nd pI okB (fun s0 H0 Cc cl fp => ⟨fun pins s _ _ _ u _ I r h => h s0 H0 Cc cl fp pins s u I r⟩) (fun s0 H0 Cc cl fp => ⟨fun pins s _ _ _ I h => h s0 H0 Cc cl fp pins s I⟩)
    (fun s0 H0 Cc cl fp => ⟨fun pins s _ _ _ I h => h s0 H0 Cc cl fp pins s I⟩) hs) (lc_run C own ok hi hz hg ht he bs B σ H S Q q)⟩
end
end DW

set_option Elab.async false
set_option linter.all false
set_option maxRecDepth 100000
set_option maxHeartbeats 4000000
set_option autoImplicit false
namespace DW
open PySem PySem.Spec PyProof.Rows L2

/-! ### extend by any list -/
theorem list_extendW (l : Addr) (items : Array Value) (n : Nat) (b : Addr) (items2 : Array Value) (n2 : Nat) (dd2 : Option Addr) (sl2 : Array (Option Value)) (hc0 : ¬(!items.isEmpty && Builtin.List.listTooLong (items.size + items2.size)) = true) (hc1 : items.size ≤ sizeLine) (hs2 : items.size + items2.size ≤ sizeLine + 1) :
    Meets (Builtin.«list.extend» ⟨[.ref l, .ref b], []⟩) (fun _ R s => s.heap.get? l = some { cls := .type "list", dict := none, data := .seq items n, slots := #[] } ∧ s.heap.get? b = some { cls := .type "list", dict := dd2, data := .seq items2 n2, slots := sl2 } ∧ R (.ok (.ret Value.none)) { s with heap := s.heap.update l (Obj.mapSeq fun x => x ++ items2), toks := s.toks }) :=
  .of_wp fun prog w A R s h => by
    obtain ⟨hp, g, d, tk, os⟩ := s; obtain ⟨hl, hb, h⟩ := h; have f1 := AutoSeq1.idx_int; have f2 := AutoSeq1.sub_tuple_tuple; have f3 := AutoSeq1.sub_list_list; have f4 := AutoSeq1.sub_tuple_list; have f5 := AutoSeq1.sub_list_tuple;
    have hz' : (items ++ items2).size ≤ sizeLine + 1 := by rw [Array.size_append]; exact hs2
    wp_walk using (wpAny_updateSeq hl rfl (hz := hc1) (_hz' := hz')), wpAny_loadPart' hl, wpAny_loadPart' hb; exact ⟨_, rfl, h⟩
def rExtW (K : PySem.W.Frag) : V → List V → Hp → VK → Prop := fun x vs H Q => ∃ l b xs zs, x = .ref l ∧ vs = [.ref b] ∧ H l = some (.lst xs) ∧ SqL K H b zs ∧ xs.length + zs.length ≤ sizeLine ∧ Q .non (upd H l (.lst (xs ++ zs)))
theorem mt_extW {X : Cx} : MtM X "list.extend" (rExtW X.K) := by
  intro pins s σ H x vs v us Q I rx rv h
  obtain ⟨l, b, xs, zs, rfl, rfl, hH, hB, hz, q⟩ := h
  cases rx
  obtain ⟨u, rfl, ru⟩ := rv.one
  cases ru
  obtain ⟨z, its, n, r, hl, e⟩ := I.lstM hH
  obtain ⟨its2, r2, pl2, _⟩ := I.list hB
  have hl2 := r2.length
  obtain ⟨⟨cls2, dd2, data2, sl2⟩, ho2, hc2, n2, hd2⟩ := id pl2.isList
  simp only at hc2 hd2
  subst hc2 hd2
  have hsz : its.toArray.size + its2.toArray.size ≤ sizeLine := by rw [List.size_toArray, List.size_toArray]; omega
  have hlong : ¬ (!its.toArray.isEmpty && Builtin.List.listTooLong (its.toArray.size + its2.toArray.size)) = true := by
    rw [notLongL hsz, Bool.and_false]
    exact Bool.false_ne_true
  refine call_meets F.slot_list_extend ⟨_, e, rfl⟩ F.entry_list_extend (F.args_list_extend_2 _ _)
    (list_extendW l its.toArray n b its2.toArray n2 dd2 sl2 hlong (by rw [List.size_toArray]; omega) (by omega)) ⟨e, ho2, ?_⟩
  refine ⟨.non, _, I.lset (its' := its ++ its2) hH e (by simp) (r.append r2) ?_, rfl, q⟩
  rw [List.length_append]
  omega

/-! ### statements -/
structure DE where
  nx : Gm → Prop
  rt : Rs → Prop
  bk : Gm → Prop := fun _ => False
  ct : Gm → Prop := fun _ => False
/-- what is wished of exceptions -/
structure XM (X : Cx) (bs : Bs) (rt : Rs → Prop) : Prop where
  top : X.stack = X.env :: X.outer ∧ X.env.frame = some X.env.locals
  xe : ∃ Wx : WX, Takes X Wx ∧ ∀ x C G B σ H, rt (.ex x G) → X.mg x = some (.ref C) → Sat X.K bs G B σ H → Wx (.ref C) none σ H
structure DM (X : Cx) (K : PySem.W.Frag) (bs : Bs) (E : DE) (De : Ends) : Prop where
  nx : ∀ G B σ H, E.nx G → Sat K bs G B σ H → De.nx σ H
  rf : ∀ d v B H, E.rt (.fz d) → Grow bs.B bs.H B H → Dp K B v d → De.rt v H
  ro : ∀ ds p us B H, E.rt (.ow ds) → Grow bs.B bs.H B H → bs.H p = none → B p = none → H p = some (.lst us) → DpAll K B us ds → De.rt (.ref p) H
  bk : ∀ G B σ H, E.bk G → Sat K bs G B σ H → De.bk σ H
  ct : ∀ G B σ H, E.ct G → Sat K bs G B σ H → De.ct σ H
  xm : XM X bs E.rt
structure GS (X : Cx) (G : Gm) (st : Stmt) (E : DE) : Prop where
  run : ∀ (bs : Bs) (B : Hp) (σ : L2.St) (H : Hp), Sat X.K bs G B σ H → ∀ De : Ends, DM X X.K bs E De → tS X st De σ H
structure GSs (X : Cx) (G : Gm) (sts : List Stmt) (E : DE) : Prop where
  run : ∀ (bs : Bs) (B : Hp) (σ : L2.St) (H : Hp), Sat X.K bs G B σ H → ∀ De : Ends, DM X X.K bs E De → tB1 X sts De σ H
section
variable {X : Cx} {G : Gm} {tg iter elt e a b : Expr} {items ds us : List D} {d : D} {W : Wd} {N : List Str} {sc scope : Scope} {k : Nat} {pos p1 p2 p3 p : Pos} {ws : List Nat} {ifs : List Expr} {st : Stmt} {sts : List Stmt} {E : DE} {i : Nat} {x : Str}
theorem gs_nil (h : E.nx G) : GSs X G [] E := ⟨fun bs B σ H S De m => inB pss_nil (m.nx G B σ H h S)⟩
theorem gs_cons (h : GS X G st ⟨fun G' => GSs X G' sts E, E.rt, E.bk, E.ct⟩) : GSs X G (st :: sts) E :=
  ⟨fun bs B σ H S De m => inB (pss_cons pS pB) (h.run bs B σ H S _ ⟨fun G' B' σ' H' g S' => g.run bs B' σ' H' S' De m, m.rf, m.ro, m.bk, m.ct, m.xm⟩)⟩
/-- one's own list at slot i is settled -/
theorem gs_settle (i : Nat) (hi : G[i]? = some (.ow ds)) (h : GSs X (G.set i (.fz (.list ds))) sts E) : GSs X G sts E :=
  ⟨fun bs B σ H S De m => by
    obtain ⟨B', e, S'⟩ := S.settle hi
    exact h.run bs B' σ H S' De m⟩
theorem gs_forget (i : Nat) (h : GSs X (G.set i .no) sts E) : GSs X G sts E := ⟨fun bs B σ H S De m => h.run bs B σ H S.forget De m⟩
theorem gs_asg (C : Cok X W N sc k) (i : Nat) (h : okL N sc i x = true) (he : GE X G e d) (hn : E.nx (G.set i (.fz d))) (hs : swapsWith e (some (.Name x p1)) pos.line X.env = pure false) : GS X G (.Assign [.Name x p1] e pos) E := by
  obtain ⟨h1, h2⟩ := okL_of h
  obtain ⟨l1, l2⟩ := C.loc x h2
  exact ⟨fun bs B σ H S De m => inS (ps_set (by rw [C.N]; exact C.nd) (by rw [C.N]; exact h1) l1 pE hs l2) (he.run bs B σ H S _ fun v B1 H1 g r => m.nx _ B1 _ H1 hn ((S.gro g).setF r))⟩
theorem gs_asgO (C : Cok X W N sc k) (i : Nat) (h : okL N sc i x = true) (he : GO X G e ds) (hn : E.nx (G.set i (.ow ds))) (hs : swapsWith e (some (.Name x p1)) pos.line X.env = pure false) : GS X G (.Assign [.Name x p1] e pos) E := by
  obtain ⟨h1, h2⟩ := okL_of h
  obtain ⟨l1, l2⟩ := C.loc x h2
  exact ⟨fun bs B σ H S De m => inS (ps_set (by rw [C.N]; exact C.nd) (by rw [C.N]; exact h1) l1 pE hs l2) (he.run bs B σ H S _ fun q vs B1 H1 g q0 q1 q2 r =>
    m.nx _ B1 _ H1 hn (S.setO g q0 rfl ⟨q, vs, rfl, same_none S.gr.h q0, q1, q2, r⟩))⟩
theorem GSs.is {G G' : Gm} {sts : List Stmt} {E : DE} (h : GSs X G sts E) (e : G' = G) : GSs X G' sts E := e ▸ h
theorem sw_trueB {elt : Expr} {gs : List Comprehension} {scope : Scope} {pos py : Pos} {y : Str} {l : Nat} {env : Env} (hb : env.blockKind = .function) (hy : env.scope.names.lookup y = some .local) (hl : (py.line == pos.line) = true)
    (ha : (scope.names.any fun (n, k) => n == y && (k == .local || k == .cell)) = false) : swapsWith (.ListComp elt gs scope pos) (some (.Name y py)) l env = pure true := by
  have ky : env.kindOf y = some .local := hy
  unfold swapsWith
  simp only [hb, ky, ha, Expr.pos, hl]
  rfl
/-- name = [..] on one line -/
theorem gs_asgLc {α : Type} {xs : List α} {en : α → D} {bt : α → Bool} {g : α → D} {G1 : α → Gm} {elt iter : Expr} {scope : Scope} {ifs : List Expr} (C : Cok X W N sc k) (i : Nat) (own : List (Str × Nat)) (h : okL N sc i x = true) (h1l : loc1B sc x = true) (hk : sc.kind = .function) (ok : blkC N sc scope own = true) (hi : GIw X G tg iter (xs.map en)) (hz : xs.length ≤ 16777216)
    (hg : ∀ X', Cok X' W N scope k → ∀ x ∈ xs, GG X' (wipeG G (own.map (·.2))) tg (en x) (G1 x) (own.map (·.2)))
    (ht : ∀ X', Cok X' W N scope k → ∀ x ∈ xs, GTs X' (G1 x) ifs (bt x))
    (he : ∀ X', Cok X' W N scope k → ∀ x ∈ xs, bt x = true → GE X' (G1 x) elt (g x))
    (hn : E.nx (G.set i (.ow ((xs.filter bt).map g)))) (hl : (p1.line == p2.line) = true) (ha : (scope.names.any fun (n, k) => n == x && (k == .local || k == .cell)) = false)
    (hs : ∀ x, foldedSetIterable iter X.env x = pure x) : GS X G (.Assign [.Name x p1] (.ListComp elt [⟨tg, iter, ifs, 0⟩] scope p2) pos) E := by
  obtain ⟨okB, nd⟩ := lc_blk C own ok
  obtain ⟨h1, h2⟩ := okL_of h
  exact ⟨fun bs B σ H S De m => inS (ps_setLc (g := gBc X scope tg) (tt := tBc X scope ifs) (te := eBc X scope elt) C.calm nd (by rw [C.N]; exact h1) (C.loc1 x h1l) (sw_trueB (C.bk hk) (C.loc1 x h1l) hl ha) pI okB (fun s0 H0 Cc cl fp => ⟨fun pins s _ _ _ u _ I r h => h s0 H0 Cc cl fp pins s u I r⟩) (fun s0 H0 Cc cl fp => ⟨fun pins s _ _ _ I h => h s0 H0 Cc cl fp pins s I⟩)
    (fun s0 H0 Cc cl fp => ⟨fun pins s _ _ _ I h => h s0 H0 Cc cl fp pins s I⟩) hs) (lc_run C own ok hi hz hg ht he bs B σ H S _ fun q vs B1 H1 g q0 b0 q1 r =>
    m.nx _ B1 _ H1 hn (S.setO g q0 rfl ⟨q, vs, rfl, same_none S.gr.h q0, b0, q1, r⟩))⟩
theorem gs_if {c : Expr} {t : Bool} {A1 A2 : List Stmt} (hc : GT X G c t) (h1 : t = true → GSs X G A1 E) (h2 : t = false → GSs X G A2 E) : GS X G (.If c A1 A2 pos) E :=
  ⟨fun bs B σ H S De m => inS (ps_if pT pB pB) (hc.run bs B σ H S _ fun B1 H1 g => by
    cases t with
    | true => exact iteT ((h1 rfl).run bs B1 σ H1 (S.gro g) De m)
    | false => exact iteF ((h2 rfl).run bs B1 σ H1 (S.gro g) De m))⟩
theorem gs_ret (he : GE X G e d) (h : E.rt (.fz d)) : GS X G (.Return (some e) pos) E := ⟨fun bs B σ H S De m => inS (ps_ret pE) (he.run bs B σ H S _ fun v B1 H1 g r => m.rf d v B1 H1 h (S.gr.trans g) r)⟩
theorem gs_retO (he : GO X G e ds) (h : E.rt (.ow ds)) : GS X G (.Return (some e) pos) E := ⟨fun bs B σ H S De m => inS (ps_ret pE) (he.run bs B σ H S _ fun q vs B1 H1 g q0 q1 q2 r => m.ro ds q vs B1 H1 h (S.gr.trans g) (same_none S.gr.h q0) q1 q2 r)⟩
theorem gs_retV (C : Cok X W N sc k) (i : Nat) (h : okV N sc i x = true) (hG : G[i]? = some (.ow ds)) (hr : E.rt (.ow ds)) : GS X G (.Return (some (.Name x p1)) pos) E := by
  obtain ⟨h1, h2, h3, h4⟩ := okV_of h
  refine ⟨fun bs B σ H S De m => inS (ps_ret (pe_var (i := i) (by rw [C.N]; exact h1) (C.vis x h2) h3 h4)) ?_⟩
  obtain ⟨q, vs, e, r0, r1, r2, r3⟩ := S.ow hG
  exact ⟨_, e, m.ro ds q vs B H hr S.gr r0 r1 r2 r3⟩
theorem gs_retN (h : E.rt (.fz .none)) : GS X G (.Return none pos) E := ⟨fun bs B σ H S De m => inS ps_retN (m.rf .none .non B H h S.gr .non)⟩
theorem gs_pass (h : E.nx G) : GS X G (.Pass pos) E := ⟨fun bs B σ H S De m => inS ps_pass (m.nx G B σ H h S)⟩
theorem gs_brk (h : E.bk G) : GS X G (.Break pos) E := ⟨fun bs B σ H S De m => inS ps_break (m.bk G B σ H h S)⟩
theorem gs_cnt (h : E.ct G) : GS X G (.Continue pos) E := ⟨fun bs B σ H S De m => inS ps_continue (m.ct G B σ H h S)⟩
theorem gs_drop (he : GE X G e d) (h : E.nx G) (hs : swapsWith e none pos.line X.env = pure false) : GS X G (.Expr e pos) E :=
  ⟨fun bs B σ H S De m => inS (ps_expr pE hs) (he.run bs B σ H S _ fun v B1 H1 g r => m.nx G B1 σ H1 h (S.gro g))⟩
/-- x.append(e) -/
theorem gs_app (C : Cok X W N sc k) (i : Nat) (h : okV N sc i x = true) (hG : G[i]? = some (.ow ds)) (he : GE X G e d) (hz : ds.length < 16777216) (hn : E.nx (G.set i (.ow (ds ++ [d]))))
    (hb : attributeBase (.Name x p1) "append" X.env (eval (.Name x p1) X.env) = eval (.Name x p1) X.env) (hl : (p2.endLine == p3.line) = true) (hst : nst e = true)
    (hfew : ((backTo p3 (starEach [e] X.env)).all (fun x => !x.1) && (backToKw p3 (keywordEach [] X.env)).all (fun x => x.1.isSome) && decide (([e] : List Expr).length + ([] : List Keyword).length + (if ([] : List Keyword).isEmpty then 0 else 1) < 30)) = true)
    (hs : swapsWith (.Call (.Attribute (.Name x p1) "append" p2) [e] [] p3) none pos.line X.env = pure false) : GS X G (.Expr (.Call (.Attribute (.Name x p1) "append" p2) [e] [] p3) pos) E := by
  obtain ⟨h1, h2, h3, h4⟩ := okV_of h
  refine ⟨fun bs B σ H S De m => inS (ps_expr (pe_bm PySem.F.plainAttrs_list PySem.F.slot_list_append PySem.F.type_list_append mt_append (pe_var (i := i) (by rw [C.N]; exact h1) (C.vis x h2) h3 h4) (pa_cons pE pa_nil (star_cons hst)) hb hfew hl (star_cons hst) (star_all rfl)) hs) ?_⟩
  obtain ⟨q, vs, e1, r0, r1, r2, r3⟩ := S.ow hG
  refine ⟨_, e1, .inl ⟨rfl, vs, .inl (.inl r2)⟩, ?_⟩
  refine he.run bs B σ H S _ fun v B1 H1 g r => ?_
  have S1 := S.gro g
  have l1 := dpa_len r3
  exact ⟨q, vs, v, rfl, rfl, g.h q _ r2, by rw [sizeLine_eq]; omega, m.nx _ B1 σ _ hn (S1.mutL hG e1 (dpa_app (moA r3 g.b) (.cons r .nil)))⟩
/-- x.extend(e) -/
theorem gs_ext (C : Cok X W N sc k) (i : Nat) (h : okV N sc i x = true) (hG : G[i]? = some (.ow ds)) (he : GL X G e us) (hz : ds.length + us.length ≤ 16777216) (hn : E.nx (G.set i (.ow (ds ++ us))))
    (hb : attributeBase (.Name x p1) "extend" X.env (eval (.Name x p1) X.env) = eval (.Name x p1) X.env) (hl : (p2.endLine == p3.line) = true) (hst : nst e = true)
    (hfew : ((backTo p3 (starEach [e] X.env)).all (fun x => !x.1) && (backToKw p3 (keywordEach [] X.env)).all (fun x => x.1.isSome) && decide (([e] : List Expr).length + ([] : List Keyword).length + (if ([] : List Keyword).isEmpty then 0 else 1) < 30)) = true)
    (hs : swapsWith (.Call (.Attribute (.Name x p1) "extend" p2) [e] [] p3) none pos.line X.env = pure false) : GS X G (.Expr (.Call (.Attribute (.Name x p1) "extend" p2) [e] [] p3) pos) E := by
  obtain ⟨h1, h2, h3, h4⟩ := okV_of h
  refine ⟨fun bs B σ H S De m => inS (ps_expr (pe_bm PySem.F.plainAttrs_list PySem.F.slot_list_extend PySem.F.type_list_extend mt_extW (pe_var (i := i) (by rw [C.N]; exact h1) (C.vis x h2) h3 h4) (pa_cons pE pa_nil (star_cons hst)) hb hfew hl (star_cons hst) (star_all rfl)) hs) ?_⟩
  obtain ⟨q, vs, e1, r0, r1, r2, r3⟩ := S.ow hG
  refine ⟨_, e1, .inl ⟨rfl, vs, .inl (.inl r2)⟩, ?_⟩
  refine he.run bs B σ H S _ fun b' vs' B1 H1 g q1 r => ?_
  have S1 := S.gro g
  have l1 := dpa_len r3
  have l2 := dpa_len r
  exact ⟨q, b', vs, vs', rfl, rfl, g.h q _ r2, q1, by rw [sizeLine_eq]; omega, m.nx _ B1 σ _ hn (S1.mutL hG e1 (dpa_app (moA r3 g.b) r))⟩
/-- x[j] = e -/
theorem gs_setI (C : Cok X W N sc k) (i : Nat) (h : okV N sc i x = true) (hG : G[i]? = some (.ow ds)) (he : GE X G e d) {j : Int} {jn : Nat} (hj : GE X G a (.int j)) (hjn : ixN ds.length j = some jn) (hn : E.nx (G.set i (.ow (ds.set jn d))))
    (ha : ∀ v, assign (.Subscript (.Name x p1) a p2) X.env v = (do
      let ov ← holding [v] (eval (.Name x p1) X.env)
      let iv ← holding [v, ov] (eval a X.env)
      standAt p2
      holding [v, ov, iv] (setItem ov iv v)
      release [v, ov, iv] []))
    (hs : swapsWithSole [.Subscript (.Name x p1) a p2] e pos.line X.env = pure false) (hw : swappedStores [.Subscript (.Name x p1) a p2] e X.env = pure none)
    (h1' : (assignEach [.Subscript (.Name x p1) a p2] X.env).map (·.2) = [assign (.Subscript (.Name x p1) a p2) X.env]) : GS X G (.Assign [.Subscript (.Name x p1) a p2] e pos) E := by
  obtain ⟨h1, h2, h3, h4⟩ := okV_of h
  refine ⟨fun bs B σ H S De m => inS (ps_asg pE (pg_sub (pe_var (i := i) (by rw [C.N]; exact h1) (C.vis x h2) h3 h4) pE set_list ha) hs hw h1') (he.run bs B σ H S _ fun v B1 H1 g r => ?_)⟩
  have S1 := S.gro g
  obtain ⟨q, vs, e1, r0, r1, r2, r3⟩ := S1.ow hG
  refine ⟨_, e1, hj.run bs B1 σ H1 S1 _ fun w B2 H2 g2 rw' => ?_⟩
  have l1 := dpa_len r3
  exact ⟨q, vs, j, jn, rfl, dp_int rw', g2.h q _ r2, by rw [l1]; exact hjn, m.nx _ B2 σ _ hn ((S1.gro g2).mutL hG e1 (dpa_set jn (moA r3 g2.b) (moD r g2.b)))⟩
/-- x += e, whole numbers -/
theorem gs_augA (C : Cok X W N sc k) (i : Nat) (h : okL N sc i x = true) {u v : Int} (hG : G[i]? = some (.fz (.int u))) (he : GE X G e (.int v)) (hn : E.nx (G.set i (.fz (.int (u + v))))) : GS X G (.AugAssign (.Name x p1) .Add e pos) E := by
  obtain ⟨h1, h2⟩ := okL_of h
  obtain ⟨l1, l2⟩ := C.loc x h2
  refine ⟨fun bs B σ H S De m => inS (ps_aug (i := i) (by rw [C.N]; exact C.nd) (by rw [C.N]; exact h1) l1 pE ip_add l2) ?_⟩
  obtain ⟨w, e1, r⟩ := S.fz hG
  exact ⟨w, e1, he.run bs B σ H S _ fun y B1 H1 g r1 => ⟨u, v, dp_int r, dp_int r1, m.nx _ B1 _ H1 hn ((S.gro g).setF (.int _))⟩⟩
theorem gs_augS (C : Cok X W N sc k) (i : Nat) (h : okL N sc i x = true) {u v : Int} (hG : G[i]? = some (.fz (.int u))) (he : GE X G e (.int v)) (hn : E.nx (G.set i (.fz (.int (u - v))))) : GS X G (.AugAssign (.Name x p1) .Sub e pos) E := by
  obtain ⟨h1, h2⟩ := okL_of h
  obtain ⟨l1, l2⟩ := C.loc x h2
  refine ⟨fun bs B σ H S De m => inS (ps_aug (i := i) (by rw [C.N]; exact C.nd) (by rw [C.N]; exact h1) l1 pE ip_sub l2) ?_⟩
  obtain ⟨w, e1, r⟩ := S.fz hG
  exact ⟨w, e1, he.run bs B σ H S _ fun y B1 H1 g r1 => ⟨u, v, dp_int r, dp_int r1, m.nx _ B1 _ H1 hn ((S.gro g).setF (.int _))⟩⟩
/-- a, b = e1, e2 -/
theorem gs_par (C : Cok X W N sc k) (i j : Nat) {y : Str} {d1 d2 : D} {kt k2 : Nat} {pt pt2 : Pos} (hi : N[i]? = some x) (hj : N[j]? = some y) (hij : i ≠ j) (hx : loc1B sc x = true) (hy : loc1B sc y = true) (ha : GA X G [a, b] [d1, d2]) (hn : E.nx ((G.set i (.fz d1)).set j (.fz d2)))
    (hk : sc.kind = .function) (hw : ∀ env : Env, env.blockKind = .function → env.kindOf x = some .local → env.kindOf y = some .local → swappedStores [.Tuple [.Name x p1, .Name y p2] kt pt] (.Tuple [a, b] k2 pt2) env = pure (some [x, y])) (hs : swapsWithSole [.Tuple [.Name x p1, .Name y p2] kt pt] (.Tuple [a, b] k2 pt2) pos.line X.env = pure false) :
    GS X G (.Assign [.Tuple [.Name x p1, .Name y p2] kt pt] (.Tuple [a, b] k2 pt2) pos) E :=
  ⟨fun bs B σ H S De m => inS (ps_par C.calm (by rw [C.N]; exact C.nd) (by rw [C.N]; exact hi) (by rw [C.N]; exact hj) hij (C.loc1 x hx) (C.loc1 y hy) pA (hw _ (C.bk hk) (C.loc1 x hx) (C.loc1 y hy)) hs) (ha.run bs B σ H S _ fun vs B1 H1 g r => by
    obtain ⟨v, w, rfl, r1, r2⟩ := dpa_two r
    exact ⟨v, w, rfl, m.nx _ B1 _ H1 hn (((S.gro g).setF r1).setF r2)⟩)⟩
/-- a target that takes a datum apart -/
theorem gs_unp {G' : Gm} (he : GE X G e d) (hg : GG X G tg d G' ws) (hn : E.nx G') (hs : swapsWithSole [tg] e pos.line X.env = pure false) (hw : swappedStores [tg] e X.env = pure none)
    (h1 : (assignEach [tg] X.env).map (·.2) = [assign tg X.env]) : GS X G (.Assign [tg] e pos) E :=
  ⟨fun bs B σ H S De m => inS (ps_asg pE pG hs hw h1) (he.run bs B σ H S _ fun v B1 H1 g r => hg.run bs B1 σ H1 v (S.gro g) r _ fun σ' _ S' => m.nx G' B1 σ' H1 hn S')⟩
/-- a loop: J by the turn -/
theorem gs_for {body : List Stmt} (C : Cok X W N sc k) (hi : GI X G tg iter items) (J : Nat → Gm → Prop) (h0 : J 0 G)
    (hs : ∀ (i : Nat) (d : D) (G' : Gm), items[i]? = some d → J i G' → ∃ G2 ws, GG X G' tg d G2 ws ∧ GSs X G2 body ⟨J (i + 1), E.rt, E.nx, J (i + 1)⟩)
    (hd : ∀ G', J items.length G' → E.nx G') (hf : ∀ x, foldedSetIterable iter X.env x = pure x) : GS X G (.For tg iter body [] pos) E := by
  refine ⟨fun bs B σ H S De m => inS (ps_for C.pown C.calm pI pG pB hf) (hi.run bs B σ H S _ fun Jt B1 H1 g wk => ?_)⟩
  have S1 := S.gro g
  have S1' : Sat X.K ⟨B1, bs.H⟩ G B1 σ H1 := by
    have g1 := S1.gr
    refine ⟨⟨Same.refl _, g1.h, g1.bh, fun _ _ h => h⟩, S1.len, fun i s o a b => ?_, S1.na⟩
    have r := S1.sl i s o a b
    cases s <;> exact r
  have back : ∀ {G' B' σ' H'}, Sat X.K ⟨B1, bs.H⟩ G' B' σ' H' → Sat X.K bs G' B' σ' H' := fun {G' B' σ' H'} T => by
    refine ⟨⟨S1.gr.b.trans T.gr.b, T.gr.h, T.gr.bh, fun x hx hb => T.gr.n x hx (S1.gr.n x hx hb)⟩, T.len, fun i s o a b => ?_, T.na⟩
    have r := T.sl i s o a b
    cases s <;> exact r
  refine ⟨fun i mm σ' H' => mm = items.length - i ∧ i ≤ items.length ∧ ∃ G' B', J i G' ∧ Sat X.K ⟨B1, bs.H⟩ G' B' σ' H', ⟨items.length, by simp, Nat.zero_le _, G, B1, h0, S1'⟩, ?_⟩
  rintro i mm σ' H' ⟨rfl, hile, G', B', hJ, T⟩
  have sF : Same B1 H' := T.gr.b.trans T.gr.bh
  by_cases hlt : i < items.length
  · refine .inr ⟨wk.go i H' sF hlt, fun σ2 H2 => ∃ G2 B2, J (i + 1) G2 ∧ Sat X.K ⟨B1, bs.H⟩ G2 B2 σ2 H2, fun σ2 H2 ⟨G2, B2, j2, T2⟩ => ⟨items.length - (i + 1), by omega, rfl, hlt, G2, B2, j2, T2⟩, fun x H'' y => ?_⟩
    obtain ⟨d, B'', e1, g3, r3⟩ := wk.yld i B' H' x H'' sF T.gr.b T.gr.bh hlt y
    obtain ⟨G2, ws, hg, hb⟩ := hs i d G' e1 hJ
    refine hg.run ⟨B1, bs.H⟩ B'' σ' H'' x (T.gro g3) r3 _ fun σ2 _ T2 => ?_
    refine hb.run ⟨B1, bs.H⟩ B'' σ2 H'' T2 _ ⟨fun G3 B3 σ3 H3 j3 T3 => ⟨G3, B3, j3, T3⟩, fun d v B3 H3 hr g4 r4 => ?_, fun ds q us B3 H3 hr g4 q0 q1 q2 r4 => ?_, fun G3 B3 σ3 H3 j3 T3 => m.nx G3 B3 σ3 H3 j3 (back T3), fun G3 B3 σ3 H3 j3 T3 => ⟨G3, B3, j3, T3⟩, ⟨m.xm.top, by
      obtain ⟨Wx, tk, q⟩ := m.xm.xe
      exact ⟨Wx, tk, fun x C G B σ H hr hm T => q x C G B σ H hr hm (back T)⟩⟩⟩
    · exact m.rf d v B3 H3 hr ⟨S1.gr.b.trans g4.b, g4.h, g4.bh, fun x hx hb => g4.n x hx (S1.gr.n x hx hb)⟩ r4
    · exact m.ro ds q us B3 H3 hr ⟨S1.gr.b.trans g4.b, g4.h, g4.bh, fun x hx hb => g4.n x hx (S1.gr.n x hx hb)⟩ q0 q1 q2 r4
  · have e : i = items.length := by omega
    subst e
    exact .inl ⟨wk.stop _ H' sF (Nat.le_refl _), m.nx G' B' σ' H' (hd G' hJ) (back T)⟩
/-- a while: J by a measure -/
theorem gs_while {body : List Stmt} {c : Expr} (C : Cok X W N sc k) (J : Nat → Gm → Prop) (m0 : Nat) (h0 : J m0 G)
    (hs : ∀ (n : Nat) (G' : Gm), J n G' → ∃ t, GT X G' c t ∧ (t = true → GSs X G' body ⟨fun G2 => ∃ n', n' < n ∧ J n' G2, E.rt, E.nx, fun G2 => ∃ n', n' < n ∧ J n' G2⟩) ∧ (t = false → E.nx G')) : GS X G (.While c body [] pos) E := by
  refine ⟨fun bs B σ H S De m => inS (ps_while C.pown pT pB) ?_⟩
  refine ⟨fun n σ' H' => ∃ G' B', J n G' ∧ Sat X.K bs G' B' σ' H', ⟨m0, G, B, h0, S⟩, ?_⟩
  rintro n σ' H' ⟨G', B', hJ, T⟩
  obtain ⟨t, ht, h1, h2⟩ := hs n G' hJ
  refine ht.run bs B' σ' H' T _ fun B2 H2 g => ?_
  cases t with
  | true =>
    refine iteT ⟨fun σ2 H2 => ∃ n', n' < n ∧ ∃ G2 B2, J n' G2 ∧ Sat X.K bs G2 B2 σ2 H2, fun σ2 H2 ⟨n', hn, G2, B2, q, T2⟩ => ⟨n', hn, G2, B2, q, T2⟩, ?_⟩
    exact (h1 rfl).run bs B2 σ' H2 (T.gro g) _ ⟨fun G3 B3 σ3 H3 ⟨n', hn, j3⟩ T3 => ⟨n', hn, G3, B3, j3, T3⟩, m.rf, m.ro, m.nx, fun G3 B3 σ3 H3 ⟨n', hn, j3⟩ T3 => ⟨n', hn, G3, B3, j3, T3⟩, m.xm⟩
  | false => exact iteF (m.nx G' B2 σ' H2 (h2 rfl) (T.gro g))
end

/-! ### a def -/
def startG (N : List Str) (ds : List D) : Gm := ds.map .fz ++ List.replicate (N.length - ds.length) .no
theorem start_sat {K : PySem.W.Frag} {N : List Str} {B H : Hp} {vs : List V} {ds : List D} (e : Same B H) (r : DpAll K B vs ds) : Sat K ⟨B, H⟩ (startG N ds) B (L2.start N vs) H := by
  have ll := dpa_len r
  refine ⟨.refl e, ?_, fun i s o h1 h2 => ?_, fun i j s t p hij h1 h2 s1 s2 e1 e2 => ?_⟩
  · unfold L2.start startG
    rw [List.length_append, List.length_append, List.length_map, List.length_map, List.length_replicate, List.length_replicate, ll]
  · unfold startG at h1
    unfold L2.start at h2
    by_cases hi : i < ds.length
    · rw [List.getElem?_append_left (by rw [List.length_map]; exact hi), List.getElem?_map] at h1
      rw [List.getElem?_append_left (by rw [List.length_map, ll]; exact hi), List.getElem?_map] at h2
      cases hd : ds[i]? with
      | none =>
        rw [hd] at h1
        cases h1
      | some d =>
        rw [hd] at h1
        obtain ⟨v, hv, rv⟩ := dpa_get r hd
        rw [hv] at h2
        cases h1
        cases h2
        exact ⟨v, rfl, rv⟩
    · rw [List.getElem?_append_right (by rw [List.length_map]; omega)] at h1
      have : s = .no := List.eq_of_mem_replicate (List.mem_of_getElem? h1)
      subst this
      trivial
  · unfold startG at h1
    have : s ∈ ds.map Sl.fz ++ List.replicate (N.length - ds.length) Sl.no := List.mem_of_getElem? h1
    rcases List.mem_append.mp this with q | q
    · obtain ⟨d, _, e⟩ := List.mem_map.mp q
      subst e
      cases s1
    · have := List.eq_of_mem_replicate q
      subst this
      cases s1
theorem fn_ok {W : Wd} {x qual : Str} {st : Stmt} {f : Addr} {fd : FuncData} {N ps : List Str} {k : Nat} {c : Ct} (F : Fun W.K x qual st f fd) (S : FnScope N ps (defScope st)) (len : ∀ ds R, c ds R → ds.length = ps.length)
    (hb : ∀ X : Cx, Cok X W N (defScope st) k → ∀ (ds : List D) (R : Rs → Prop), c ds R → GSs X (startG N ds) (defBody st) { nx := fun _ => R (.fz .none), rt := R }) : FnOk W.P W.w W.K W.mg W.base (L2.CX W.P W.w) (k + 1) f fd ps (spD W.K W.mg c) := by
  refine F.okX S (fun vs H Q E h => ?_) (fun cdv A outer s H vs Q E hr h => ?_)
  · obtain ⟨B, ds, R, _, r, hc, _⟩ := h
    rw [dpa_len r]
    exact len ds R hc
  · obtain ⟨B, ds, R, e, r, hc, q1, q2, q3⟩ := h
    refine ⟨_, pB, ?_⟩
    have C : Cok (cxOf (L2.CX W.P W.w) W.P W.w W.K W.mg W.base N qual (defScope st) f cdv A outer s H E) W N (defScope st) k :=
      ⟨⟨rfl, S.nd, rfl, fun x h => visB_of h, fun x h => ⟨locB_of h, .inl rfl⟩, fun x h => loc1B_of h, fun x h => glB_of h, fun x h => h, fun bkfn => by
        show (if (defScope st).kind.isAnnotationScope then _ else (defScope st).kind) = _
        rw [bkfn]
        rfl⟩, rfl, hr, passes_of rfl⟩
    refine (hb _ C ds R hc).run ⟨B, H⟩ B (L2.start N vs) H (start_sat e r) _ ⟨fun G' B' σ' H' g S' => ?_, fun d v B' H' hR g r' => q1 d v B' H' hR g r', fun es p us B' H' hR g p0 p1 p2 r' => q2 es p us B' H' hR g p0 p1 p2 r', fun _ _ _ _ z => z.elim, fun _ _ _ _ z => z.elim, ⟨⟨rfl, rfl⟩, fun cls d _ H => E cls d H, takes_of rfl rfl rfl rfl, fun x C G B' _ H' hR hm S' => q3 x G C B' H' hR hm S'.gr⟩⟩
    exact q1 _ _ B' H' g S'.gr .non
end DW

set_option Elab.async false
set_option linter.all false
set_option maxRecDepth 100000
set_option maxHeartbeats 4000000
set_option autoImplicit false
namespace DW
open PySem PySem.Spec PyProof.Rows L2

/-! ### sizes -/
def Bd (n : Nat) (i : Int) : Prop := i.natAbs < 2 ^ n
theorem two_mono {n m : Nat} (h : n ≤ m) : (2 : Nat) ^ n ≤ 2 ^ m := Nat.pow_le_pow_right (by decide) h
theorem Bd.mono {n m : Nat} {i : Int} (h : Bd n i) (e : n ≤ m) : Bd m i := Nat.lt_of_lt_of_le h (two_mono e)
theorem Bd.add {n m : Nat} {i j : Int} (h : Bd n i) (g : Bd m j) : Bd (max n m + 1) (i + j) := by
  have h1 : i.natAbs < 2 ^ max n m := h.mono (Nat.le_max_left n m)
  have h2 : j.natAbs < 2 ^ max n m := g.mono (Nat.le_max_right n m)
  show (i + j).natAbs < 2 ^ (max n m + 1)
  rw [Nat.pow_succ]
  omega
theorem Bd.sub {n m : Nat} {i j : Int} (h : Bd n i) (g : Bd m j) : Bd (max n m + 1) (i - j) := by
  have h1 : i.natAbs < 2 ^ max n m := h.mono (Nat.le_max_left n m)
  have h2 : j.natAbs < 2 ^ max n m := g.mono (Nat.le_max_right n m)
  show (i - j).natAbs < 2 ^ (max n m + 1)
  rw [Nat.pow_succ]
  omega
theorem Bd.neg {n : Nat} {i : Int} (h : Bd n i) : Bd n (-i) := by
  show (-i).natAbs < 2 ^ n
  rw [Int.natAbs_neg]
  exact h
theorem Bd.mul {n m : Nat} {i j : Int} (h : Bd n i) (g : Bd m j) : Bd (n + m) (i * j) := by
  show (i * j).natAbs < 2 ^ (n + m)
  rw [Int.natAbs_mul, Nat.pow_add]
  exact Nat.mul_lt_mul'' h g
theorem Bd.mod {m : Nat} {i j : Int} (h : 0 < j) (g : Bd m j) : Bd m (i % j) := by
  have h1 := Int.emod_nonneg i (show j ≠ 0 by omega)
  have h2 := Int.emod_lt_of_pos i h
  have h3 : j.natAbs < 2 ^ m := g
  show (i % j).natAbs < 2 ^ m
  omega
theorem Bd.div {n : Nat} {i j : Int} (g : Bd n i) (h : 0 < j) : Bd n (i / j) := by
  refine Nat.lt_of_le_of_lt ?_ g
  have h1 := Int.natAbs_ediv_le_natAbs i j
  exact h1
theorem Bd.ofLe {n : Nat} {i : Int} (h : -(2 ^ n : Int) < i) (g : i < 2 ^ n) : Bd n i := by
  show i.natAbs < 2 ^ n
  have e : ((2 ^ n : Nat) : Int) = (2 : Int) ^ n := by norm_cast
  omega
theorem log2_lt {n k : Nat} (h0 : 0 < k) (h : n < 2 ^ k) : n.log2 < k := PySem.Flt.log2_lt_of h0 h
theorem bits_le {n : Nat} {i : Int} (h : Bd n i) : Builtin.Int.intBits i ≤ n + 1 := by
  unfold Builtin.Int.intBits
  have h1 : i.natAbs < 2 ^ (n + 1) := h.mono (Nat.le_succ n)
  have h2 := log2_lt (Nat.succ_pos n) h1
  split <;> omega
theorem Bd.ok {n m : Nat} {i j : Int} (h : Bd n i) (g : Bd m j) (e : n + m ≤ 134217000) : IntMulOk i j := by
  have h1 := bits_le h
  have h2 := bits_le g
  have e1 : bitsLine = 134217728 := by decide
  unfold IntMulOk
  intro z
  rw [Bool.and_eq_true] at z
  have z2 := z.2
  unfold Builtin.Int.intTooBig at z2
  have z3 := of_decide_eq_true z2
  rw [e1] at z3
  omega
theorem Bd.dv {m : Nat} {i j : Int} (h : 0 < j) (g : Bd m j) (e : m < 9000) : CDivW i j := ⟨h, Nat.lt_of_le_of_lt (Nat.le_of_lt_succ (log2_lt (Nat.succ_pos m) (g.mono (Nat.le_succ m)))) e⟩
theorem bd_of_bits {n : Nat} {i : Int} (h : Builtin.Int.intBits i ≤ n) : Bd n i := by
  unfold Builtin.Int.intBits at h
  show i.natAbs < 2 ^ n
  split at h
  · rename_i h0
    have : i.natAbs = 0 := by simpa using h0
    rw [this]
    exact Nat.two_pow_pos n
  · have h1 := Nat.lt_log2_self (n := i.natAbs)
    exact Nat.lt_of_lt_of_le h1 (two_mono h)
end DW

set_option Elab.async false
set_option linter.all false
set_option maxRecDepth 100000
set_option maxHeartbeats 4000000
set_option autoImplicit false
namespace DW
open PySem PySem.Spec PyProof.Rows L2

/-! ### a value of either make, places in it, its length -/
inductive Vw where
  | s (d : D)
  | l (ds : List D)
inductive GV (X : Cx) (G : Gm) (e : Expr) : Vw → Prop
  | s {d : D} : GE X G e d → GV X G e (.s d)
  | l {ds : List D} : GL X G e ds → GV X G e (.l ds)
inductive IxV : Vw → Int → D → Prop
  | tup {ds : List D} {i : Int} {d : D} : atI ds i = some d → IxV (.s (.tuple ds)) i d
  | lst {ds : List D} {i : Int} {d : D} : atI ds i = some d → IxV (.s (.list ds)) i d
  | own {ds : List D} {i : Int} {d : D} : atI ds i = some d → IxV (.l ds) i d
  | str {x : Str} {i : Int} {c : Nat} : x.length ≤ sizeLine → atI x.cps.toList i = some c → IxV (.s (.str x)) i (.str ⟨#[c]⟩)
inductive LenD : D → Int → Prop
  | lst {ds : List D} : LenD (.list ds) (ds.length : Int)
  | tup {ds : List D} : LenD (.tuple ds) (ds.length : Int)
  | str {x : Str} : x.length ≤ sizeLine → LenD (.str x) (x.length : Int)
inductive ItD : D → List D → Prop
  | lst {ds : List D} : ItD (.list ds) ds
  | tup {ds : List D} : ItD (.tuple ds) ds
section
variable {X : Cx} {G : Gm} {tg iter elt e a b : Expr} {es : List Expr} {items ds us : List D} {d z : D} {W : Wd} {N : List Str} {sc scope : Scope} {k : Nat} {pos p1 p2 p3 p : Pos} {ws : List Nat} {v : Vw} {i j : Int} {lo hi : Option Expr} {l h : Option Int}
theorem ge_ix (ha : GV X G a v) (hb : GE X G b (.int i)) (hd : IxV v i d) (hs : PlainIx b) : GE X G (.Subscript a b pos) d := by
  cases hd with
  | tup h => cases ha with | s ha => exact ge_ixT ha hb h hs
  | lst h => cases ha with | s ha => exact ge_ixL ha.gl hb h hs
  | own h => cases ha with | l ha => exact ge_ixL ha hb h hs
  | str h h2 => cases ha with | s ha => exact ge_ixS ha hb h h2 hs
theorem ge_len (C : Cok X W N sc k) (hg : glB sc "len" = true) (hm : W.mg "len" = none) (ha : GH X G e d) (hz : LenD d i) (he : nst e = true) : GE X G (.Call (.Name "len" p) [e] [] pos) (.int i) := by
  cases hz with
  | lst => exact ge_cb C hg hm PySem.boot_len call_len_seq (gah_cons ha gah_nil he) rc_len (by decide) he rfl
  | tup => exact ge_cb C hg hm PySem.boot_len call_len_seq (gah_cons ha gah_nil he) rc_lenT (by decide) he rfl
  | str h => exact ge_cb C hg hm PySem.boot_len call_len_str (gah_cons ha gah_nil he) (rc_lenS h) (by decide) he rfl
theorem ge_abs (C : Cok X W N sc k) (hg : glB sc "abs" = true) (hm : W.mg "abs" = none) (ha : GH X G e (.int i)) (he : nst e = true) : GE X G (.Call (.Name "abs" p) [e] [] pos) (.int (if i < 0 then -i else i)) :=
  ge_cb C hg hm (by decide +kernel) call_abs (gah_cons ha gah_nil he) rc_abs (by decide) he rfl
theorem ge_max (C : Cok X W N sc k) (hg : glB sc "max" = true) (hm : W.mg "max" = none) (ha : GH X G a (.int i)) (hb : GH X G b (.int j)) (he : nst a = true) (he2 : nst b = true) : GE X G (.Call (.Name "max" p) [a, b] [] pos) (.int (if j > i then j else i)) :=
  ge_cb C hg hm (by decide +kernel) (call_max2 C.calm) (gah_cons ha (gah_cons hb gah_nil he2) he) rc_max2 (by decide) he (by show (nst b && true) = true; rw [he2]; rfl)
theorem ge_min (C : Cok X W N sc k) (hg : glB sc "min" = true) (hm : W.mg "min" = none) (ha : GH X G a (.int i)) (hb : GH X G b (.int j)) (he : nst a = true) (he2 : nst b = true) : GE X G (.Call (.Name "min" p) [a, b] [] pos) (.int (if j < i then j else i)) :=
  ge_cb C hg hm (by decide +kernel) (call_min2 C.calm) (gah_cons ha (gah_cons hb gah_nil he2) he) rc_min2 (by decide) he (by show (nst b && true) = true; rw [he2]; rfl)
theorem ge_intB {t : Bool} (C : Cok X W N sc k) (hg : glB sc "int" = true) (hm : W.mg "int" = none) (ha : GH X G e (.bool t)) (he : nst e = true) : GE X G (.Call (.Name "int" p) [e] [] pos) (.int (if t then 1 else 0)) :=
  ge_ct C hg hm (by decide +kernel) call_int1 (gah_cons ha gah_nil he) rc_intB (by decide) he rfl
theorem ge_sum {ns : List Int} (C : Cok X W N sc k) (hg : glB sc "sum" = true) (hm : W.mg "sum" = none) (ha : GH X G e (.list (ns.map .int))) (he : nst e = true) : GE X G (.Call (.Name "sum" p) [e] [] pos) (.int ns.sum) :=
  ge_cb C hg hm (by decide +kernel) (cr_sum C.calm) (gah_cons ha gah_nil he) rc_sum (by decide) he rfl
theorem gi_it (h : GE X G iter d) (hz : ItD d items) : GI X G tg iter items := by
  cases hz with
  | lst => exact gi_list h
  | tup => exact gi_tup h
/-- x[lo:hi] of either make -/
theorem ge_sl (ha : GE X G a (.tuple ds)) (hl : GP X G lo l) (hh : GP X G hi h) : GE X G (.Subscript a (.Slice lo hi none p2) pos) (.tuple (cutD ds l h)) := ge_slT ha hl hh
end

/-! ### points of three whole numbers -/
structure P3 where
  x : Int
  y : Int
  z : Int
  deriving DecidableEq
abbrev P3.en (u : P3) : D := .tuple [.int u.x, .int u.y, .int u.z]
theorem ge_p3 {X : Cx} {G : Gm} {e1 e2 e3 : Expr} {a b c : Int} {n1 : Nat} {pos : Pos} (h1 : GE X G e1 (.int a)) (h2 : GE X G e2 (.int b)) (h3 : GE X G e3 (.int c)) (n : nst e1 = true) (n' : nst e2 = true) (n'' : nst e3 = true) : GE X G (.Tuple [e1, e2, e3] n1 pos) (P3.en ⟨a, b, c⟩) :=
  ge_tup (ga_cons h1 (ga_cons h2 (ga_cons h3 ga_nil n'') n') n) (by show 3 ≤ sizeLine; decide)

/-! ### statements with their rest -/
section
variable {X : Cx} {G : Gm} {tg iter elt e a b : Expr} {items ds us : List D} {d : D} {W : Wd} {N : List Str} {sc scope : Scope} {k : Nat} {pos p1 p2 p3 p : Pos} {ws : List Nat} {ifs : List Expr} {st : Stmt} {sts : List Stmt} {E : DE} {x : Str}
theorem gss_asg (C : Cok X W N sc k) (i : Nat) (h : okL N sc i x = true) (he : GE X G e d) (hn : GSs X (G.set i (.fz d)) sts E) (hs : swapsWith e (some (.Name x p1)) pos.line X.env = pure false) : GSs X G (.Assign [.Name x p1] e pos :: sts) E := gs_cons (gs_asg C i h he hn hs)
theorem gss_asgE {d' : D} (C : Cok X W N sc k) (i : Nat) (h : okL N sc i x = true) (he : GE X G e d') (hs : swapsWith e (some (.Name x p1)) pos.line X.env = pure false) (hd : d' = d) (hn : GSs X (G.set i (.fz d)) sts E) : GSs X G (.Assign [.Name x p1] e pos :: sts) E := by
  subst hd
  exact gs_cons (gs_asg C i h he hn hs)
theorem gss_retE {d' : D} (he : GE X G e d') (hd : d' = d) (h : E.rt (.fz d)) : GSs X G (.Return (some e) pos :: sts) E := by
  subst hd
  exact gs_cons (gs_ret he h)
theorem gss_asgO (C : Cok X W N sc k) (i : Nat) (h : okL N sc i x = true) (he : GO X G e ds) (hn : GSs X (G.set i (.ow ds)) sts E) (hs : swapsWith e (some (.Name x p1)) pos.line X.env = pure false) : GSs X G (.Assign [.Name x p1] e pos :: sts) E := gs_cons (gs_asgO C i h he hn hs)
theorem gss_if {c : Expr} {t : Bool} {A1 A2 : List Stmt} (hc : GT X G c t) (h1 : t = true → GSs X G A1 ⟨fun G' => GSs X G' sts E, E.rt, E.bk, E.ct⟩) (h2 : t = false → GSs X G A2 ⟨fun G' => GSs X G' sts E, E.rt, E.bk, E.ct⟩) : GSs X G (.If c A1 A2 pos :: sts) E := gs_cons (gs_if hc h1 h2)
/-- if c: (leaves) -/
theorem gss_when {c : Expr} {t : Bool} {A1 : List Stmt} (hc : GT X G c t) (h1 : t = true → GSs X G A1 ⟨fun G' => GSs X G' sts E, E.rt, E.bk, E.ct⟩) (h2 : t = false → GSs X G sts E) : GSs X G (.If c A1 [] pos :: sts) E := gs_cons (gs_if hc h1 fun z => gs_nil (h2 z))
/-- a way that is not gone -/
theorem gss_not {c : Expr} {A1 : List Stmt} (hc : GT X G c false) (h2 : GSs X G sts E) : GSs X G (.If c A1 [] pos :: sts) E := gs_cons (gs_if hc (fun z => by cases z) fun _ => gs_nil h2)
theorem gss_ret (he : GE X G e d) (h : E.rt (.fz d)) : GSs X G (.Return (some e) pos :: sts) E := gs_cons (gs_ret he h)
theorem gss_retO (he : GO X G e ds) (h : E.rt (.ow ds)) : GSs X G (.Return (some e) pos :: sts) E := gs_cons (gs_retO he h)
theorem gss_retV (C : Cok X W N sc k) (i : Nat) (h : okV N sc i x = true) (hG : G[i]? = some (.ow ds)) (hr : E.rt (.ow ds)) : GSs X G (.Return (some (.Name x p1)) pos :: sts) E := gs_cons (gs_retV C i h hG hr)
theorem gss_nil {De : DE} (h : De.nx G) : GSs X G [] De := gs_nil h
end
/-! ### defs together -/
structure FunAt (W : Wd) (x : Str) (st : Stmt) : Prop where
  ex : ∃ (f : Addr) (fd : FuncData), W.mg x = some (.ref f) ∧ Fun W.K x x st f fd
theorem has_mk {W : Wd} {x : Str} {st : Stmt} {N ps : List Str} {k : Nat} {c : Ct} (F : FunAt W x st) (S : FnScope N ps (defScope st)) (len : ∀ ds R, c ds R → ds.length = ps.length)
    (hbind : ∀ (kV doc pm : Value) (an : Option Addr) (cdv ct : Value) (us : List Value), us.length = ps.length → bindArgs (PySem.W.fnOf x x (defArgs st) (defBody st) (defScope st) .none kV doc pm an cdv ct) ⟨us, []⟩ = pure (ps.zip us))
    (hb : ∀ X : Cx, Cok X W N (defScope st) k → ∀ (ds : List D) (R : Rs → Prop), c ds R → GSs X (startG N ds) (defBody st) { nx := fun _ => R (.fz .none), rt := R }) : Has W (k + 1) x c := by
  obtain ⟨f, fd, hm, F⟩ := F.ex
  exact ⟨f, fd, ps, hm, F.kp, F.binds hbind, fn_ok F S len hb⟩
theorem Has.mono {W : Wd} {x : Str} {j k : Nat} {c : Ct} (h : Has W j x c) (e : j ≤ k) : Has W k x c := by
  obtain ⟨f, fd, ps, h1, h2, h3, h4⟩ := h.ex
  exact ⟨f, fd, ps, h1, h2, h3, h4.mono e⟩
/-- the built-in names that the text leaves alone -/
structure Bn (W : Wd) : Prop where
  len : W.mg "len" = none
  abs : W.mg "abs" = none
  max : W.mg "max" = none
  min : W.mg "min" = none
  int : W.mg "int" = none
  bool : W.mg "bool" = none
  str : W.mg "str" = none
  sum : W.mg "sum" = none
  isinstance : W.mg "isinstance" = none
  tuple : W.mg "tuple" = none
  list : W.mg "list" = none
  dict : W.mg "dict" = none
  set : W.mg "set" = none
  sorted : W.mg "sorted" = none
  range : W.mg "range" = none
  zip : W.mg "zip" = none
  reversed : W.mg "reversed" = none
  enumerate : W.mg "enumerate" = none
/-- the law's own end -/
def c_script : Ct := fun ds R => ∃ ns : List Int, ds = [.list (ns.map .int)] ∧ ns.length ≤ 63 ∧ (∀ z ∈ ns, Bd 1048576 z) ∧ R (.fz (.bool true))
theorem ln_script : ∀ ds R, c_script ds R → ds.length = ["script"].length := by
  rintro ds R ⟨ns, rfl, _⟩
  rfl
theorem dpa_of_ints {K : PySem.W.Frag} {H : Hp} : ∀ ns : List Int, DpAll K H (ns.map V.int) (ns.map PyData.int)
  | [] => .nil
  | n :: ns => .cons (.int n) (dpa_of_ints ns)
def spL (K : PySem.W.Frag) (c : Ct) : Sp := fun vs H Q _ => ∃ (B : Hp) (ds : List D) (R : Rs → Prop), Same B H ∧ DpAll K B vs ds ∧ c ds R ∧ (∀ d v B' H', R (.fz d) → Grow B H B' H' → Dp K B' v d → Q v H') ∧
  (∀ es p us B' H', R (.ow es) → Grow B H B' H' → H p = none → B' p = none → H' p = some (.lst us) → DpAll K B' us es → Q (.ref p) H') ∧ ∀ x G, ¬ R (.ex x G)
theorem spL_D {K : PySem.W.Frag} {mg : Str → Option Value} {c : Ct} : ∀ vs H Q E, spL K c vs H Q E → spD K mg c vs H Q E := fun vs H Q E ⟨B, ds, R, h1, h2, h3, h4, h5, h6⟩ => ⟨B, ds, R, h1, h2, h3, h4, h5, fun x G _ _ _ h => (h6 x G h).elim⟩
theorem sp_script {K : PySem.W.Frag} {H : Hp} {a : Addr} {ns : List Int} (hl : ns.length ≤ 63) (hb : ∀ z ∈ ns, Builtin.Int.intBits z ≤ 1048576) (hS : SqL K H a (ns.map V.int)) : spL K c_script [.ref a] H (fun v _ => v = .bl true) fun _ _ _ => False :=
  ⟨H, [.list (ns.map .int)], fun r => r = .fz (.bool true), Same.refl H, .cons (.lst hS (dpa_of_ints ns)) .nil, ⟨ns, rfl, hl, fun z hz => bd_of_bits (hb z hz), rfl⟩, (fun d v B' H' e _ r => by
    cases e
    exact dp_bl r), (fun _ _ _ _ _ e => by cases e), fun _ _ e => by cases e⟩
theorem Bd.lit {i : Int} : Bd (i.natAbs.log2 + 1) i := by
  show i.natAbs < 2 ^ (i.natAbs.log2 + 1)
  exact Nat.lt_log2_self
end DW

set_option Elab.async false
set_option linter.all false
set_option maxRecDepth 100000
set_option maxHeartbeats 4000000
set_option autoImplicit false
namespace DW
open PySem PySem.Spec PyProof.Rows L2

/-- lo, lo + c, .. -/
def rngS (lo c : Int) (n : Nat) : List Int := (List.range n).map fun (i : Nat) => lo + (i : Int) * c
theorem rngS_get {lo c : Int} {n i : Nat} (h : i < n) : (rngS lo c n)[i]? = some (lo + (i : Int) * c) := by
  unfold rngS
  rw [List.getElem?_map, List.getElem?_range h]
  rfl
theorem rngS_len {lo c : Int} {n : Nat} : (rngS lo c n).length = n := by
  unfold rngS
  rw [List.length_map, List.length_range]
theorem wk_rngS {K : PySem.W.Frag} {B1 F : Hp} {lo c : Int} {n : Nat} : Wk K B1 F (Itc lo c n) ((rngS lo c n).map PyData.int) := by
  refine ⟨fun i H' s hi => ?_, fun i H' s hi => ?_, fun i B' H' x H'' s1 s2 s3 hi y => ?_⟩
  · rw [List.length_map, rngS_len] at hi
    exact hi
  · rw [List.length_map, rngS_len] at hi
    exact hi
  · rw [List.length_map, rngS_len] at hi
    obtain ⟨rfl, rfl⟩ := y
    exact ⟨_, B', by rw [List.getElem?_map, rngS_get hi]; rfl, .refl s3, .int _⟩
theorem rgC_small : ∀ m : Nat, m < 64 → ∀ c : Nat, c < 31 → 0 < c → RgC 0 (m : Int) (c : Int) ((m + c - 1) / c) := by
  unfold RgC
  decide +kernel
section
variable {X : Cx} {G : Gm} {tg iter elt e a b c : Expr} {items ds : List D} {W : Wd} {N : List Str} {sc scope : Scope} {k : Nat} {pos p1 p2 p3 p : Pos} {ws : List Nat} {ifs : List Expr}
theorem gi_rng3 {lo hi st : Int} {n : Nat} (C : Cok X W N sc k) (hg : glB sc "range" = true) (hm : W.mg "range" = none) (ha : GE X G a (.int lo)) (hb : GE X G b (.int hi)) (hc : GE X G c (.int st)) (h1 : RgC lo hi st n) (he : nst a = true) (he2 : nst b = true) (he3 : nst c = true) :
    GI X G tg (.Call (.Name "range" p) [a, b, c] [] pos) ((rngS lo st n).map PyData.int) := by
  have hw := C.wd
  subst hw
  refine ⟨fun bs B σ H S R q => inI (pi_range3 (C.gl _ hg).1 hm (pa_cons pE (pa_cons pE (pa_cons pE pa_nil (star_cons he3)) (star_cons he2)) (star_cons he)) (star_cons he) (star_all (by show (nst b && (nst c && true)) = true; rw [he2, he3]; rfl))) (ha.run bs B σ H S _ fun v B1 H1 g r => hb.run bs B1 σ H1 (S.gro g) _ fun w B2 H2 g2 r2 => hc.run bs B2 σ H2 (S.gro (g.trans g2)) _ fun u B3 H3 g3 r3 => ?_)⟩
  exact ⟨lo, hi, st, n, by rw [dp_int r, dp_int r2, dp_int r3], h1, q _ B3 H3 ((g.trans g2).trans g3) wk_rngS⟩
/-- [elt for x in iter] -/
theorem go_lc1 {α : Type} {xs : List α} {en : α → D} {g : α → D} {x : Str} (C : Cok X W N sc k) (i : Nat) (ok : blkC N sc scope [(x, i)] = true) (okl : okL N scope i x = true) (hi : GIw X G (.Name x p) iter (xs.map en)) (hz : xs.length ≤ 16777216)
    (he : ∀ X', Cok X' W N scope k → ∀ a ∈ xs, GE X' ((wipeG G [i]).set i (.fz (en a))) elt (g a)) (hs : ∀ x, foldedSetIterable iter X.env x = pure x) :
    GO X G (.ListComp elt [⟨.Name x p, iter, [], 0⟩] scope pos) (xs.map g) := by
  have h := go_lc (bt := fun _ => true) (G1 := fun a => (wipeG G [i]).set i (.fz (en a))) (pos := pos) C [(x, i)] ok hi hz (fun X' C' a ha => gg_name C' i okl (by simp)) (fun X' C' a ha => gts_nil) (fun X' C' a ha _ => he X' C' a ha) hs
  rw [show xs.filter (fun _ => true) = xs from List.filter_eq_self.mpr fun _ _ => rfl] at h
  exact h
/-- [elt for x in iter if c] -/
theorem go_lc1f {α : Type} {xs : List α} {en : α → D} {bt : α → Bool} {g : α → D} {x : Str} (C : Cok X W N sc k) (i : Nat) (ok : blkC N sc scope [(x, i)] = true) (okl : okL N scope i x = true) (hi : GIw X G (.Name x p) iter (xs.map en)) (hz : xs.length ≤ 16777216)
    (ht : ∀ X', Cok X' W N scope k → ∀ a ∈ xs, GT X' ((wipeG G [i]).set i (.fz (en a))) c (bt a))
    (he : ∀ X', Cok X' W N scope k → ∀ a ∈ xs, bt a = true → GE X' ((wipeG G [i]).set i (.fz (en a))) elt (g a)) (hs : ∀ x, foldedSetIterable iter X.env x = pure x) :
    GO X G (.ListComp elt [⟨.Name x p, iter, [c], 0⟩] scope pos) ((xs.filter bt).map g) :=
  go_lc (G1 := fun a => (wipeG G [i]).set i (.fz (en a))) C [(x, i)] ok hi hz (fun X' C' a ha => gg_name C' i okl (by simp)) (fun X' C' a ha => gts_one (ht X' C' a ha)) he hs
end
theorem bt_int : bootBuiltins "int" = some (.type "int") := by decide +kernel
theorem bt_bool : bootBuiltins "bool" = some (.type "bool") := by decide +kernel
theorem bt_tuple : bootBuiltins "tuple" = some (.type "tuple") := by decide +kernel
theorem bt_list : bootBuiltins "list" = some (.type "list") := by decide +kernel
theorem bt_str : bootBuiltins "str" = some (.type "str") := by decide +kernel
/-! ### tests whose answer is told ahead -/
section
variable {X : Cx} {G : Gm} {e a b : Expr} {es rest : List Expr} {d x y : D} {pos : Pos} {i j : Int}
theorem gt_notF (ha : GT X G a true) : GT X G (.UnaryOp .Not a pos) false := gt_not ha
theorem gt_notT (ha : GT X G a false) : GT X G (.UnaryOp .Not a pos) true := gt_not ha
theorem ge_notF (ha : GE X G a (.bool true)) : GE X G (.UnaryOp .Not a pos) (.bool false) := ge_not ha
theorem ge_notT (ha : GE X G a (.bool false)) : GE X G (.UnaryOp .Not a pos) (.bool true) := ge_not ha
theorem gw_orF (ha : GT X G a false) (hb : GW X G (.BoolOp .Or (b :: rest) pos) false) : GW X G (.BoolOp .Or (a :: b :: rest) pos) false := gw_or ha fun _ => hb
theorem gw_andT (ha : GT X G a true) (hb : GW X G (.BoolOp .And (b :: rest) pos) true) : GW X G (.BoolOp .And (a :: b :: rest) pos) true := gw_and ha fun _ => hb
theorem ge_orF (ha : GE X G a (.bool false)) (hb : GE X G (.BoolOp .Or (b :: rest) pos) (.bool false)) : GE X G (.BoolOp .Or (a :: b :: rest) pos) (.bool false) := ge_or ha fun _ => hb
theorem ge_andT (ha : GE X G a (.bool true)) (hb : GE X G (.BoolOp .And (b :: rest) pos) (.bool true)) : GE X G (.BoolOp .And (a :: b :: rest) pos) (.bool true) := ge_and ha fun _ => hb
theorem cmp_eqT (h : i = j) : CmpD .Eq (.int i) (.int j) true := by
  have := CmpD.eqI i j
  rwa [decide_eq_true h] at this
theorem cmp_eqF (h : i ≠ j) : CmpD .Eq (.int i) (.int j) false := by
  have := CmpD.eqI i j
  rwa [decide_eq_false h] at this
theorem cmp_neF (h : i = j) : CmpD .NotEq (.int i) (.int j) false := by
  have := CmpD.neI i j
  rwa [decide_eq_true h] at this
theorem cmp_neT (h : i ≠ j) : CmpD .NotEq (.int i) (.int j) true := by
  have := CmpD.neI i j
  rwa [decide_eq_false h] at this
theorem cmp_eqTd (h : x = y) (hs : SeqAt.shaped x = true) : CmpD .Eq x y true := by
  subst h
  have := CmpD.eq x x hs hs
  rwa [SeqAt.eqv_refl x (SeqAt.canLay_of_shaped hs)] at this
theorem cmp_neFd (h : x = y) (hs : SeqAt.shaped x = true) : CmpD .NotEq x y false := by
  subst h
  have := CmpD.ne x x hs hs
  rwa [SeqAt.eqv_refl x (SeqAt.canLay_of_shaped hs)] at this
theorem cmp_ltT (h : i < j) : CmpD .Lt (.int i) (.int j) true := by
  have := CmpD.lt i j
  rwa [decide_eq_true h] at this
theorem cmp_ltF (h : ¬ i < j) : CmpD .Lt (.int i) (.int j) false := by
  have := CmpD.lt i j
  rwa [decide_eq_false h] at this
theorem cmp_gtT (h : j < i) : CmpD .Gt (.int i) (.int j) true := by
  have := CmpD.gt i j
  rwa [decide_eq_true h] at this
theorem cmp_gtF (h : ¬ j < i) : CmpD .Gt (.int i) (.int j) false := by
  have := CmpD.gt i j
  rwa [decide_eq_false h] at this
end
/-- items of a script -/
theorem atI_map {α β : Type} {f : α → β} {xs : List α} {i : Int} {x : α} (h : atI xs i = some x) : atI (xs.map f) i = some (f x) := by
  unfold atI at h ⊢
  rw [List.length_map]
  cases q : ixN xs.length i with
  | none =>
    rw [q] at h
    cases h
  | some j =>
    rw [q] at h
    show (xs.map f)[j]? = some (f x)
    rw [List.getElem?_map, show xs[j]? = some x from h]
    rfl
theorem atI_getD {ns : List Int} {k : Int} (h0 : 0 ≤ k) (h : k < (ns.length : Int)) : atI ns k = some (ns.getD k.toNat 0) := by
  have e : k = ((k.toNat : Nat) : Int) := by omega
  have hl : k.toNat < ns.length := by omega
  have g : ns[k.toNat]? = some (ns.getD k.toNat 0) := by
    rw [List.getElem?_eq_getElem hl, List.getD_eq_getElem?_getD, List.getElem?_eq_getElem hl]
    rfl
  have r := atI_nat g
  rw [← e] at r
  exact r
/-! ### a law's own loop over its cells -/
theorem rngL_mem {lo a : Int} {n : Nat} (h : a ∈ rngL lo n) : lo ≤ a ∧ a < lo + (n : Int) := by
  unfold rngL at h
  rw [List.mem_map] at h
  obtain ⟨i, hi, rfl⟩ := h
  have := List.mem_range.mp hi
  omega
theorem rngS_item {lo c : Int} {n i : Nat} {d : D} (h : ((rngS lo c n).map PyData.int)[i]? = some d) : i < n ∧ d = .int (lo + (i : Int) * c) := by
  have hi : i < n := by
    have := List.getElem?_eq_some_iff.mp h
    obtain ⟨q, _⟩ := this
    rwa [List.length_map, rngS_len] at q
  rw [List.getElem?_map, rngS_get hi] at h
  exact ⟨hi, (Option.some.inj h).symm⟩
section
variable {X : Cx} {G : Gm} {tg iter : Expr} {items : List D} {W : Wd} {N : List Str} {sc : Scope} {k : Nat} {pos p1 p2 p3 p4 p5 p6 p7 p8 p9 : Pos} {sts : List Stmt} {E : DE} {body : List Stmt}
theorem gss_for (C : Cok X W N sc k) (J : Nat → Gm → Prop) (hi : GI X G tg iter items) (h0 : J 0 G)
    (hs : ∀ (i : Nat) (d : D) (G' : Gm), items[i]? = some d → J i G' → ∃ G2 ws, GG X G' tg d G2 ws ∧ GSs X G2 body ⟨J (i + 1), E.rt, fun G' => GSs X G' sts E, J (i + 1)⟩)
    (hd : ∀ G', J items.length G' → GSs X G' sts E) (hf : ∀ x, foldedSetIterable iter X.env x = pure x) : GSs X G (.For tg iter body [] pos :: sts) E :=
  gs_cons (gs_for (E := ⟨fun G' => GSs X G' sts E, E.rt, E.bk, E.ct⟩) C hi J h0 hs hd hf)
theorem gss_while {c : Expr} (C : Cok X W N sc k) (J : Nat → Gm → Prop) (m0 : Nat) (h0 : J m0 G)
    (hs : ∀ (n : Nat) (G' : Gm), J n G' → ∃ t, GT X G' c t ∧ (t = true → GSs X G' body ⟨fun G2 => ∃ n', n' < n ∧ J n' G2, E.rt, fun G' => GSs X G' sts E, fun G2 => ∃ n', n' < n ∧ J n' G2⟩) ∧ (t = false → GSs X G' sts E)) : GSs X G (.While c body [] pos :: sts) E :=
  gs_cons (gs_while (E := ⟨fun G' => GSs X G' sts E, E.rt, E.bk, E.ct⟩) C J m0 h0 hs)
theorem gi_cells {ns : List Int} {q1 q2 q3 q4 q5 q6 q7 q8 q9 q10 q11 q12 : Pos} (C : Cok X W N sc k) (B : Bn W) (c cap : Nat) {ci capi : Int} (ec : ci = (c : Int)) (ecap : capi = (cap : Int)) (g1 : glB sc "range" = true) (g2 : glB sc "max" = true) (g3 : glB sc "min" = true) (g4 : glB sc "len" = true) (v0 : okV N sc 0 "script" = true)
    (hG : G[0]? = some (.fz (.list (ns.map .int)))) (hc : c < 31) (hc0 : 0 < c) (hp : cap < 64) :
    GI X G tg (.Call (.Name "range" q1) [.Constant (.int 0) 0 q2, .Call (.Name "max" q3) [.Constant (.int ci) 0 q4, .Call (.Name "min" q5) [.Call (.Name "len" q6) [.Name "script" q7] [] q8, .Constant (.int capi) 0 q9] [] q10] [] q11, .Constant (.int ci) 0 q12] [] p4)
      ((rngS 0 ci ((max c (min ns.length cap) + c - 1) / c)).map PyData.int) := by
  subst ec ecap
  refine gi_rng3 C g1 B.range ge_int (hi := ((max c (min ns.length cap) : Nat) : Int)) ?_ ge_int (rgC_small _ (by omega) _ hc hc0) rfl rfl rfl
  refine GE.is (ge_max C g2 B.max ge_int.gh (ge_min C g3 B.min (ge_len C g4 B.len (ge_v C 0 v0 hG).gh .lst rfl).gh ge_int.gh rfl rfl).gh rfl rfl) ?_
  rw [List.length_map]
  congr 1
  split
  all_goals split
  all_goals omega
end
end DW

set_option Elab.async false
set_option linter.all false
set_option maxRecDepth 100000
set_option maxHeartbeats 4000000
set_option autoImplicit false
namespace DW
open PySem PySem.Spec PyProof.Rows L2

/-! ### Lean values as data, and what == and in tell of them -/
class En (α : Type) [DecidableEq α] where
  en : α → D
  dp : Nat
  lay : ∀ a, (en a).canLay0 = true
  dle : ∀ a, (en a).depth ≤ dp
  eqv : ∀ a b, PyData.eqv (en a) (en b) = decide (a = b)
instance : En Int where
  en := .int
  dp := 0
  lay _ := rfl
  dle _ := Nat.le_refl _
  eqv := eqv_ints
structure Pl where
  n : P3
  d : Int
  deriving DecidableEq
abbrev Pl.en (p : Pl) : D := .tuple [.int p.n.x, .int p.n.y, .int p.n.z, .int p.d]
theorem eqv_p3 (u v : P3) : PyData.eqv u.en v.en = decide (u = v) := by
  obtain ⟨a, b, c⟩ := u
  obtain ⟨a', b', c'⟩ := v
  simp only [PyData.eqv, PyData.eqvAll, P3.mk.injEq, Bool.and_true]
  rw [Bool.eq_iff_iff]
  simp only [Bool.and_eq_true, beq_iff_eq, decide_eq_true_eq, and_assoc]
theorem eqv_pl (u v : Pl) : PyData.eqv u.en v.en = decide (u = v) := by
  obtain ⟨⟨a, b, c⟩, d⟩ := u
  obtain ⟨⟨a', b', c'⟩, d'⟩ := v
  simp only [PyData.eqv, PyData.eqvAll, P3.mk.injEq, Pl.mk.injEq, Bool.and_true]
  rw [Bool.eq_iff_iff]
  simp only [Bool.and_eq_true, beq_iff_eq, decide_eq_true_eq, and_assoc]
instance : En P3 where
  en := P3.en
  dp := 1
  lay _ := rfl
  dle _ := by simp [PyData.depth, PyData.depthAll]
  eqv := eqv_p3
instance : En Pl where
  en := Pl.en
  dp := 1
  lay _ := rfl
  dle _ := by simp [PyData.depth, PyData.depthAll]
  eqv := eqv_pl
section
variable {α β : Type} [DecidableEq α] [DecidableEq β] [En α] [En β]
theorem canLay_map : ∀ xs : List α, PyData.canLayAll0 (xs.map En.en) = true
  | [] => rfl
  | x :: xs => by
    simp only [List.map_cons, PyData.canLayAll0, En.lay, canLay_map xs, Bool.and_self]
theorem depth_map : ∀ xs : List α, PyData.depthAll (xs.map En.en) ≤ En.dp α
  | [] => Nat.zero_le _
  | x :: xs => by
    have h1 := En.dle x
    have h2 := depth_map xs
    simp only [List.map_cons, PyData.depthAll]
    omega
theorem eqvAll_map : ∀ xs ys : List α, PyData.eqvAll (xs.map En.en) (ys.map En.en) = decide (xs = ys)
  | [], [] => by simp [PyData.eqvAll]
  | [], y :: ys => by simp [PyData.eqvAll]
  | x :: xs, [] => by simp [PyData.eqvAll]
  | x :: xs, y :: ys => by
    simp only [List.map_cons, PyData.eqvAll, En.eqv, eqvAll_map xs ys, List.cons.injEq]
    rw [Bool.eq_iff_iff]
    simp only [Bool.and_eq_true, decide_eq_true_eq]
instance : En (List α) where
  en xs := .list (xs.map En.en)
  dp := En.dp α + 1
  lay xs := by
    simp only [PyData.canLay0]
    exact canLay_map xs
  dle xs := by
    have := depth_map xs
    simp only [PyData.depth]
    omega
  eqv xs ys := by
    simp only [PyData.eqv]
    exact eqvAll_map xs ys
instance : En (α × β) where
  en p := .tuple [En.en p.1, En.en p.2]
  dp := max (En.dp α) (En.dp β) + 1
  lay p := by simp only [PyData.canLay0, PyData.canLayAll0, En.lay, Bool.and_self]
  dle p := by
    have h1 := En.dle p.1
    have h2 := En.dle p.2
    simp only [PyData.depth, PyData.depthAll]
    omega
  eqv p q := by
    obtain ⟨a, b⟩ := p
    obtain ⟨c, d⟩ := q
    simp only [PyData.eqv, PyData.eqvAll, En.eqv, Prod.mk.injEq, Bool.and_true]
    rw [Bool.eq_iff_iff]
    simp only [Bool.and_eq_true, decide_eq_true_eq]
theorem shaped_en (h : En.dp α ≤ 64) (a : α) : SeqAt.shaped (En.en a) = true := by
  have := En.dle a
  unfold SeqAt.shaped
  rw [En.lay a, Bool.true_and, decide_eq_true_eq]
  omega
theorem cmp_eqG (h : En.dp α ≤ 64) (a b : α) : CmpD .Eq (En.en a) (En.en b) (decide (a = b)) := by
  have := CmpD.eq _ _ (shaped_en h a) (shaped_en h b)
  rwa [En.eqv] at this
theorem cmp_neG (h : En.dp α ≤ 64) (a b : α) : CmpD .NotEq (En.en a) (En.en b) (!decide (a = b)) := by
  have := CmpD.ne _ _ (shaped_en h a) (shaped_en h b)
  rwa [En.eqv] at this
theorem any_en (a : α) (xs : List α) : (xs.map En.en).any (fun z => PyData.eqv z (En.en a)) = decide (a ∈ xs) := by
  rw [Bool.eq_iff_iff, List.any_eq_true, decide_eq_true_eq]
  constructor
  · rintro ⟨z, hz, e⟩
    obtain ⟨b, hb, rfl⟩ := List.mem_map.mp hz
    rw [En.eqv, decide_eq_true_eq] at e
    exact e ▸ hb
  · intro h
    exact ⟨_, List.mem_map.mpr ⟨a, h, rfl⟩, by rw [En.eqv, decide_eq_true_eq]⟩
theorem cmp_inG (h : En.dp α + 1 ≤ 64) (a : α) (xs : List α) : CmpD .In (En.en a) (.list (xs.map En.en)) (decide (a ∈ xs)) := by
  have := CmpD.inL (En.en a) (xs.map En.en) (shaped_en (by omega) a) (shaped_en (α := List α) h xs)
  rwa [any_en] at this
theorem cmp_ninG (h : En.dp α + 1 ≤ 64) (a : α) (xs : List α) : CmpD .NotIn (En.en a) (.list (xs.map En.en)) (!decide (a ∈ xs)) := by
  have := CmpD.ninL (En.en a) (xs.map En.en) (shaped_en (by omega) a) (shaped_en (α := List α) h xs)
  rwa [any_en] at this
end
theorem cmp_eq3 (u v : P3) : CmpD .Eq u.en v.en (decide (u = v)) := cmp_eqG (by decide) u v
theorem cmp_ne3 (u v : P3) : CmpD .NotEq u.en v.en (!decide (u = v)) := cmp_neG (by decide) u v
theorem cmp_eq4 (u v : Pl) : CmpD .Eq u.en v.en (decide (u = v)) := cmp_eqG (by decide) u v
theorem cmp_ne4 (u v : Pl) : CmpD .NotEq u.en v.en (!decide (u = v)) := cmp_neG (by decide) u v
theorem cmp_in3 (u : P3) (xs : List P3) : CmpD .In u.en (.list (xs.map P3.en)) (decide (u ∈ xs)) := cmp_inG (by decide) u xs
theorem cmp_nin3 (u : P3) (xs : List P3) : CmpD .NotIn u.en (.list (xs.map P3.en)) (!decide (u ∈ xs)) := cmp_ninG (by decide) u xs
theorem cmp_eqI (u v : List Int) : CmpD .Eq (.list (u.map .int)) (.list (v.map .int)) (decide (u = v)) := cmp_eqG (by decide) u v
theorem cmp_neI (u v : List Int) : CmpD .NotEq (.list (u.map .int)) (.list (v.map .int)) (!decide (u = v)) := cmp_neG (by decide) u v
theorem cmp_ne3F {u v : P3} (h : u = v) : CmpD .NotEq u.en v.en false := by
  have := cmp_ne3 u v
  rwa [decide_eq_true h] at this
theorem cmp_eq3T {u v : P3} (h : u = v) : CmpD .Eq u.en v.en true := by
  have := cmp_eq3 u v
  rwa [decide_eq_true h] at this
theorem cmp_ne4F {u v : Pl} (h : u = v) : CmpD .NotEq u.en v.en false := by
  have := cmp_ne4 u v
  rwa [decide_eq_true h] at this
theorem cmp_eq4T {u v : Pl} (h : u = v) : CmpD .Eq u.en v.en true := by
  have := cmp_eq4 u v
  rwa [decide_eq_true h] at this
theorem cmp_ne3T {u v : P3} (h : u ≠ v) : CmpD .NotEq u.en v.en true := by
  have := cmp_ne3 u v
  rwa [decide_eq_false h] at this
theorem cmp_eq3F {u v : P3} (h : u ≠ v) : CmpD .Eq u.en v.en false := by
  have := cmp_eq3 u v
  rwa [decide_eq_false h] at this
theorem cmp_eqT_of {op : CmpOp} {x y : D} {b c : Bool} (h : CmpD op x y b) (e : b = c) : CmpD op x y c := e ▸ h
/-- an empty list on the right -/
theorem eqvAll_nil (xs : List D) : PyData.eqvAll xs [] = xs.isEmpty := by
  cases xs <;> simp [PyData.eqvAll]
theorem cmp_neN {α : Type} [DecidableEq α] [En α] (h : En.dp α + 1 ≤ 64) (xs : List α) : CmpD .NotEq (.list (xs.map En.en)) (.list []) (!decide (xs = [])) := cmp_neG (α := List α) h xs []
theorem cmp_eqN {α : Type} [DecidableEq α] [En α] (h : En.dp α + 1 ≤ 64) (xs : List α) : CmpD .Eq (.list (xs.map En.en)) (.list []) (decide (xs = [])) := cmp_eqG (α := List α) h xs []
theorem cmp_neN3 (xs : List P3) : CmpD .NotEq (.list (xs.map P3.en)) (.list []) (!decide (xs = [])) := cmp_neN (by decide) xs
theorem cmp_eqN3 (xs : List P3) : CmpD .Eq (.list (xs.map P3.en)) (.list []) (decide (xs = [])) := cmp_eqN (by decide) xs
theorem cmp_neNI (xs : List Int) : CmpD .NotEq (.list (xs.map .int)) (.list []) (!decide (xs = [])) := cmp_neN (by decide) xs
theorem cmp_eqNI (xs : List Int) : CmpD .Eq (.list (xs.map .int)) (.list []) (decide (xs = [])) := cmp_eqN (by decide) xs
theorem ge_p4 {X : Cx} {G : Gm} {e1 e2 e3 e4 : Expr} {a b c d : Int} {n1 : Nat} {pos : Pos} (h1 : GE X G e1 (.int a)) (h2 : GE X G e2 (.int b)) (h3 : GE X G e3 (.int c)) (h4 : GE X G e4 (.int d)) (n : nst e1 = true) (n' : nst e2 = true) (n'' : nst e3 = true) (n3 : nst e4 = true) : GE X G (.Tuple [e1, e2, e3, e4] n1 pos) (Pl.en ⟨⟨a, b, c⟩, d⟩) :=
  ge_tup (ga_cons h1 (ga_cons h2 (ga_cons h3 (ga_cons h4 ga_nil n3) n'') n') n) (by show 4 ≤ sizeLine; decide)
section
variable {X : Cx} {G : Gm} {tg iter elt e a b : Expr} {items ds us : List D} {d : D} {W : Wd} {N : List Str} {sc scope : Scope} {k : Nat} {pos p1 p2 p3 p : Pos} {ws : List Nat} {ifs : List Expr} {st : Stmt} {sts : List Stmt} {E : DE} {x : Str}
theorem gss_par (C : Cok X W N sc k) (i j : Nat) {y : Str} {d1 d2 : D} {kt k2 : Nat} {pt pt2 : Pos} (hi : N[i]? = some x) (hj : N[j]? = some y) (hij : i ≠ j) (hx : loc1B sc x = true) (hy : loc1B sc y = true) (ha : GA X G [a, b] [d1, d2]) (hn : GSs X ((G.set i (.fz d1)).set j (.fz d2)) sts E)
    (hk : sc.kind = .function) (hw : ∀ env : Env, env.blockKind = .function → env.kindOf x = some .local → env.kindOf y = some .local → swappedStores [.Tuple [.Name x p1, .Name y p2] kt pt] (.Tuple [a, b] k2 pt2) env = pure (some [x, y])) (hs : swapsWithSole [.Tuple [.Name x p1, .Name y p2] kt pt] (.Tuple [a, b] k2 pt2) pos.line X.env = pure false) :
    GSs X G (.Assign [.Tuple [.Name x p1, .Name y p2] kt pt] (.Tuple [a, b] k2 pt2) pos :: sts) E := gs_cons (gs_par C i j hi hj hij hx hy ha hn hk hw hs)
theorem dpa_three {K : PySem.W.Frag} {H : Hp} {vs : List V} {a b c : D} (h : DpAll K H vs [a, b, c]) : ∃ u v w, vs = [u, v, w] ∧ Dp K H u a ∧ Dp K H v b ∧ Dp K H w c := by
  cases h with
  | cons h1 h => cases h with
    | cons h2 h => cases h with
      | cons h3 h => cases h with
        | nil => exact ⟨_, _, _, rfl, h1, h2, h3⟩
theorem gss_par3 {a b c : Expr} {p4 : Pos} (C : Cok X W N sc k) (i j l : Nat) {y z : Str} {d1 d2 d3 : D} {kt k2 : Nat} {pt pt2 : Pos} (hi : N[i]? = some x) (hj : N[j]? = some y) (hl : N[l]? = some z) (hij : i ≠ j) (hil : i ≠ l) (hjl : j ≠ l) (hx : loc1B sc x = true) (hy : loc1B sc y = true) (hz : loc1B sc z = true) (ha : GA X G [a, b, c] [d1, d2, d3]) (hn : GSs X (((G.set i (.fz d1)).set j (.fz d2)).set l (.fz d3)) sts E)
    (hk : sc.kind = .function) (hw : ∀ env : Env, env.blockKind = .function → env.kindOf x = some .local → env.kindOf y = some .local → env.kindOf z = some .local → swappedStores [.Tuple [.Name x p1, .Name y p2, .Name z p4] kt pt] (.Tuple [a, b, c] k2 pt2) env = pure (some [x, y, z])) (hs : swapsWithSole [.Tuple [.Name x p1, .Name y p2, .Name z p4] kt pt] (.Tuple [a, b, c] k2 pt2) pos.line X.env = pure false) :
    GSs X G (.Assign [.Tuple [.Name x p1, .Name y p2, .Name z p4] kt pt] (.Tuple [a, b, c] k2 pt2) pos :: sts) E := by
  refine gs_cons ⟨fun bs B σ H S De m => inS (ps_par3 (X := X) C.calm (by rw [C.N]; exact C.nd) (by rw [C.N]; exact hi) (by rw [C.N]; exact hj) (by rw [C.N]; exact hl) hij hil hjl (C.loc1 x hx) (C.loc1 y hy) (C.loc1 z hz) pA (hw _ (C.bk hk) (C.loc1 x hx) (C.loc1 y hy) (C.loc1 z hz)) hs) (ha.run bs B σ H S _ fun vs B1 H1 g r => ?_)⟩
  obtain ⟨u, v, w, rfl, r1, r2, r3⟩ := dpa_three r
  exact ⟨u, v, w, rfl, m.nx _ B1 _ H1 hn ((((S.gro g).setF r1).setF r2).setF r3)⟩
theorem gss_unp {G' : Gm} (he : GE X G e d) (hg : GG X G tg d G' ws) (hn : GSs X G' sts E) (hs : swapsWithSole [tg] e pos.line X.env = pure false) (hw : swappedStores [tg] e X.env = pure none)
    (h1 : (assignEach [tg] X.env).map (·.2) = [assign tg X.env]) : GSs X G (.Assign [tg] e pos :: sts) E := gs_cons (gs_unp he hg hn hs hw h1)
theorem gss_unpE {G' : Gm} {d' : D} (he : GE X G e d') (hd : d' = d) (hg : GG X G tg d G' ws) (hn : GSs X G' sts E) (hs : swapsWithSole [tg] e pos.line X.env = pure false) (hw : swappedStores [tg] e X.env = pure none)
    (h1 : (assignEach [tg] X.env).map (·.2) = [assign tg X.env]) : GSs X G (.Assign [tg] e pos :: sts) E := by
  subst hd
  exact gss_unp he hg hn hs hw h1
theorem gss_augA (C : Cok X W N sc k) (i : Nat) (h : okL N sc i x = true) {u v : Int} (hG : G[i]? = some (.fz (.int u))) (he : GE X G e (.int v)) (hn : GSs X (G.set i (.fz (.int (u + v)))) sts E) : GSs X G (.AugAssign (.Name x p1) .Add e pos :: sts) E := gs_cons (gs_augA C i h hG he hn)
theorem gss_augS (C : Cok X W N sc k) (i : Nat) (h : okL N sc i x = true) {u v : Int} (hG : G[i]? = some (.fz (.int u))) (he : GE X G e (.int v)) (hn : GSs X (G.set i (.fz (.int (u - v)))) sts E) : GSs X G (.AugAssign (.Name x p1) .Sub e pos :: sts) E := gs_cons (gs_augS C i h hG he hn)
theorem gss_setI (C : Cok X W N sc k) (i : Nat) (h : okV N sc i x = true) (hG : G[i]? = some (.ow ds)) (he : GE X G e d) {j : Int} {jn : Nat} (hj : GE X G a (.int j)) (hjn : ixN ds.length j = some jn) (hn : GSs X (G.set i (.ow (ds.set jn d))) sts E)
    (ha : ∀ v, assign (.Subscript (.Name x p1) a p2) X.env v = (do
      let ov ← holding [v] (eval (.Name x p1) X.env)
      let iv ← holding [v, ov] (eval a X.env)
      standAt p2
      holding [v, ov, iv] (setItem ov iv v)
      release [v, ov, iv] []))
    (hs : swapsWithSole [.Subscript (.Name x p1) a p2] e pos.line X.env = pure false) (hw : swappedStores [.Subscript (.Name x p1) a p2] e X.env = pure none)
    (h1' : (assignEach [.Subscript (.Name x p1) a p2] X.env).map (·.2) = [assign (.Subscript (.Name x p1) a p2) X.env]) : GSs X G (.Assign [.Subscript (.Name x p1) a p2] e pos :: sts) E := gs_cons (gs_setI C i h hG he hj hjn hn ha hs hw h1')
theorem gss_app (C : Cok X W N sc k) (i : Nat) (h : okV N sc i x = true) (hG : G[i]? = some (.ow ds)) (he : GE X G e d) (hz : ds.length < 16777216) (hn : GSs X (G.set i (.ow (ds ++ [d]))) sts E)
    (hb : attributeBase (.Name x p1) "append" X.env (eval (.Name x p1) X.env) = eval (.Name x p1) X.env) (hl : (p2.endLine == p3.line) = true) (hst : nst e = true)
    (hfew : ((backTo p3 (starEach [e] X.env)).all (fun x => !x.1) && (backToKw p3 (keywordEach [] X.env)).all (fun x => x.1.isSome) && decide (([e] : List Expr).length + ([] : List Keyword).length + (if ([] : List Keyword).isEmpty then 0 else 1) < 30)) = true)
    (hs : swapsWith (.Call (.Attribute (.Name x p1) "append" p2) [e] [] p3) none pos.line X.env = pure false) : GSs X G (.Expr (.Call (.Attribute (.Name x p1) "append" p2) [e] [] p3) pos :: sts) E := gs_cons (gs_app C i h hG he hz hn hb hl hst hfew hs)
theorem gss_brk (h : E.bk G) : GSs X G (.Break pos :: sts) E := gs_cons (gs_brk h)
theorem gss_cnt (h : E.ct G) : GSs X G (.Continue pos :: sts) E := gs_cons (gs_cnt h)
end
theorem ge_sl3 {X : Cx} {G : Gm} {a : Expr} {p : Pl} {pos p1 p2 : Pos} (h : GE X G a p.en) : GE X G (.Subscript a (.Slice none (some (.Constant (.int 3) 0 p1)) none p2) pos) p.n.en :=
  ge_slT h gp_no (gp_yes ge_int)
section
variable {X : Cx} {G : Gm} {elt iter c : Expr} {W : Wd} {N : List Str} {sc scope : Scope} {k : Nat} {pos p1 p2 p : Pos} {sts : List Stmt} {E : DE} {x y : Str}
/-- y = [elt for x in iter] -/
theorem gss_lc1 {α : Type} {xs : List α} {en : α → D} {g : α → D} (C : Cok X W N sc k) (j i : Nat) (okj : okL N sc j y = true) (hyl : loc1B sc y = true) (hk : sc.kind = .function) (ok : blkC N sc scope [(x, i)] = true) (okl : okL N scope i x = true) (hi : GIw X G (.Name x p) iter (xs.map en)) (hz : xs.length ≤ 16777216)
    (he : ∀ X', Cok X' W N scope k → ∀ a ∈ xs, GE X' ((wipeG G [i]).set i (.fz (en a))) elt (g a)) (hl : (p1.line == p2.line) = true) (ha : (scope.names.any fun (n, k) => n == y && (k == .local || k == .cell)) = false) (hs : ∀ x, foldedSetIterable iter X.env x = pure x)
    (hn : GSs X (G.set j (.ow (xs.map g))) sts E) : GSs X G (.Assign [.Name y p1] (.ListComp elt [⟨.Name x p, iter, [], 0⟩] scope p2) pos :: sts) E := by
  refine gs_cons (gs_asgLc (bt := fun _ => true) (G1 := fun a => (wipeG G [i]).set i (.fz (en a))) C j [(x, i)] okj hyl hk ok hi hz (fun X' C' a ha => gg_name C' i okl (by simp)) (fun X' C' a ha => gts_nil) (fun X' C' a ha _ => he X' C' a ha) ?_ hl ha hs)
  rw [show xs.filter (fun _ => true) = xs from List.filter_eq_self.mpr fun _ _ => rfl]
  exact hn
/-- y = [elt for x in iter if c] -/
theorem gss_lc1f {α : Type} {xs : List α} {en : α → D} {bt : α → Bool} {g : α → D} (C : Cok X W N sc k) (j i : Nat) (okj : okL N sc j y = true) (hyl : loc1B sc y = true) (hk : sc.kind = .function) (ok : blkC N sc scope [(x, i)] = true) (okl : okL N scope i x = true) (hi : GIw X G (.Name x p) iter (xs.map en)) (hz : xs.length ≤ 16777216)
    (ht : ∀ X', Cok X' W N scope k → ∀ a ∈ xs, GT X' ((wipeG G [i]).set i (.fz (en a))) c (bt a))
    (he : ∀ X', Cok X' W N scope k → ∀ a ∈ xs, bt a = true → GE X' ((wipeG G [i]).set i (.fz (en a))) elt (g a)) (hl : (p1.line == p2.line) = true) (ha : (scope.names.any fun (n, k) => n == y && (k == .local || k == .cell)) = false) (hs : ∀ x, foldedSetIterable iter X.env x = pure x)
    (hn : GSs X (G.set j (.ow ((xs.filter bt).map g))) sts E) : GSs X G (.Assign [.Name y p1] (.ListComp elt [⟨.Name x p, iter, [c], 0⟩] scope p2) pos :: sts) E :=
  gs_cons (gs_asgLc (G1 := fun a => (wipeG G [i]).set i (.fz (en a))) C j [(x, i)] okj hyl hk ok hi hz (fun X' C' a ha => gg_name C' i okl (by simp)) (fun X' C' a ha => gts_one (ht X' C' a ha)) he hn hl ha hs)
end
theorem Bd.sm {n : Nat} {i : Int} (h : -1048576 < i) (h2 : i < 1048576) (hn : 20 ≤ n) : Bd n i := by
  have : Bd 20 i := by
    show i.natAbs < 2 ^ 20
    omega
  exact this.mono hn
theorem Bd.of {n : Nat} {i : Int} (h : i.natAbs < 2 ^ n) : Bd n i := h
/-- the body of a list's first loop | the ways of a first if -/
def lpB (l : List Stmt) : List Stmt := match l.head? with
  | some (.For _ _ b _ _) => b
  | some (.While _ b _ _) => b
  | _ => []
def ifA (l : List Stmt) : List Stmt := match l.head? with
  | some (.If _ b _ _) => b
  | _ => []
def ifB (l : List Stmt) : List Stmt := match l.head? with
  | some (.If _ _ b _) => b
  | _ => []
def celB (sc : Scope) (x : Str) : Bool := match sc.names.lookup x with
  | some .cell => true
  | _ => false
theorem celB_of {sc : Scope} {x : Str} (h : celB sc x = true) : sc.names.lookup x = some .cell := by
  unfold celB at h
  split at h
  · assumption
  · cases h
theorem sw_falseC {elt : Expr} {gs : List Comprehension} {scope : Scope} {pos py : Pos} {y : Str} {l : Nat} {env : Env} (hy : env.scope.names.lookup y = some .cell ∨ env.scope.names.lookup y = some .free) : swapsWith (.ListComp elt gs scope pos) (some (.Name y py)) l env = pure false := by
  have ky : (env.kindOf y == some .local) = false := by
    unfold Env.kindOf
    rcases hy with e | e
    · rw [e]
      rfl
    · rw [e]
      rfl
  unfold swapsWith
  simp only [ky, Bool.and_false, Bool.false_and]
/-- name = [..], the name one that the comprehensions see -/
theorem gss_asgOc {X : Cx} {G : Gm} {elt : Expr} {gs : List Comprehension} {W : Wd} {N : List Str} {sc scope : Scope} {k : Nat} {pos p1 p2 : Pos} {sts : List Stmt} {E : DE} {x : Str} {ds : List D} (C : Cok X W N sc k) (i : Nat) (h : okL N sc i x = true) (hc : celB sc x = true) (he : GO X G (.ListComp elt gs scope p2) ds) (hn : GSs X (G.set i (.ow ds)) sts E) : GSs X G (.Assign [.Name x p1] (.ListComp elt gs scope p2) pos :: sts) E :=
  gs_cons (gs_asgO C i h he hn (sw_falseC (C.fr x (.inl (celB_of hc)))))
def P3.at (u : P3) (a : Int) : Int := if a = 0 then u.x else if a = 1 then u.y else u.z
theorem ix3 {u : P3} {a : Int} (h0 : 0 ≤ a) (h1 : a < 3) : IxV (.s u.en) a (.int (u.at a)) := by
  have h : a = 0 ∨ a = 1 ∨ a = 2 := by omega
  rcases h with h | h | h
  · subst h
    exact .tup rfl
  · subst h
    exact .tup rfl
  · subst h
    exact .tup rfl
/-- [elt for x in a point] -/
theorem go_lcP {X : Cx} {G : Gm} {elt iter : Expr} {W : Wd} {N : List Str} {sc scope : Scope} {k : Nat} {pos p : Pos} {x : Str} {u : P3} {g : Int → D} (C : Cok X W N sc k) (i : Nat) (ok : blkC N sc scope [(x, i)] = true) (okl : okL N scope i x = true) (h : GE X G iter u.en)
    (he : ∀ X', Cok X' W N scope k → ∀ a ∈ [u.x, u.y, u.z], GE X' ((wipeG G [i]).set i (.fz (.int a))) elt (g a)) (hs : ∀ x, foldedSetIterable iter X.env x = pure x) :
    GO X G (.ListComp elt [⟨.Name x p, iter, [], 0⟩] scope pos) [g u.x, g u.y, g u.z] :=
  go_lc1 (xs := [u.x, u.y, u.z]) (en := .int) C i ok okl (gi_tup h).w (Nat.le_of_ble_eq_true rfl) he hs
theorem ge_sumC {X : Cx} {G : Gm} {e : Expr} {W : Wd} {N : List Str} {sc : Scope} {k : Nat} {pos p : Pos} {α : Type} {us : List α} {f : α → Int} (C : Cok X W N sc k) (hg : glB sc "sum" = true) (hm : W.mg "sum" = none) (ha : GO X G e (us.map fun a => .int (f a))) (he : nst e = true) : GE X G (.Call (.Name "sum" p) [e] [] pos) (.int (us.map f).sum) := by
  refine ge_sum C hg hm (GL.gh (GO.gl (GO.is ha ?_))) he
  rw [List.map_map]
  rfl
/-! ### targets of any length -/
structure GGs (X : Cx) (G : Gm) (es : List Expr) (ds : List D) (G' : Gm) (ws : List Nat) : Prop where
  ex : ∃ t, PGs X es t ∧ ∀ (bs : Bs) (B : Hp) (σ : L2.St) (H : Hp) (vs : List V), Sat X.K bs G B σ H → DpAll X.K B vs ds → ∀ Q : L2.St → Hp → Prop, (∀ σ', Agr ws σ σ' → Sat X.K bs G' B σ' H → Q σ' H) → t vs σ H Q
theorem agr_refl' {ws : List Nat} {σ : L2.St} (h : Agr ws σ σ) : Agr ws σ σ := h
section
variable {X : Cx} {G G' : Gm} {es : List Expr} {ds : List D} {d : D} {W : Wd} {N : List Str} {sc : Scope} {k n1 : Nat} {pos p1 : Pos} {ws : List Nat} {x : Str}
theorem ggs_nil : GGs X G [] [] G ws := ⟨_, pgs_nil, fun bs B σ H vs S r Q q => by
  cases r
  exact ⟨rfl, q σ .refl S⟩⟩
theorem ggs_cons (C : Cok X W N sc k) (i : Nat) (h : okL N sc i x = true) (hw : i ∈ ws) (hr : GGs X (G.set i (.fz d)) es ds G' ws) : GGs X G (.Name x p1 :: es) (d :: ds) G' ws := by
  obtain ⟨h1, h2⟩ := okL_of h
  obtain ⟨l1, l2⟩ := C.loc x h2
  have nd : X.N.Nodup := by
    rw [C.N]
    exact C.nd
  obtain ⟨t, ht, hq⟩ := hr.ex
  refine ⟨_, pgs_cons (pg_name (i := i) nd (by rw [C.N]; exact h1) l1 l2) ht, fun bs B σ H vs S r Q q => ?_⟩
  cases r with
  | cons r1 rs => exact ⟨_, _, rfl, hq bs B _ H _ (S.setF r1) rs Q fun σ' a S' => q σ' ((Agr.set hw).trans a) S'⟩
theorem gg_tupN (C : Cok X W N sc k) (h : GGs X G es ds G' ws) (hn : (assignEach es X.env).length = ds.length) (hst : (assignEach es X.env).findIdx? (·.1) = none) : GG X G (.Tuple es n1 pos) (.tuple ds) G' ws := by
  obtain ⟨t, ht, hq⟩ := h.ex
  refine ⟨fun bs B σ H v S r Q q => inG (pg_tup C.calm ht hn hst) ?_⟩
  obtain ⟨a, vs, rfl, q1, q2⟩ := dp_tup r
  exact ⟨a, vs, rfl, same_sqT S.bh q1, dpa_len q2, hq bs B σ H vs S q2 Q q⟩
theorem gg_lstN (C : Cok X W N sc k) (h : GGs X G es ds G' ws) (hn : (assignEach es X.env).length = ds.length) (hst : (assignEach es X.env).findIdx? (·.1) = none) : GG X G (.Tuple es n1 pos) (.list ds) G' ws := by
  obtain ⟨t, ht, hq⟩ := h.ex
  refine ⟨fun bs B σ H v S r Q q => inG (pg_unl C.calm ht hn hst) ?_⟩
  obtain ⟨a, vs, rfl, q1, q2⟩ := dp_lst r
  exact ⟨a, vs, rfl, S.bh.seq q1, dpa_len q2, hq bs B σ H vs S q2 Q q⟩
end
/-! ### the greatest common divisor, as loops find it -/
theorem gcd_fmod (a b : Int) : Int.gcd b (a.fmod b) = Int.gcd a b := by
  have h := Int.fmod_add_mul_fdiv a b
  have e : a.fmod b = a - b * a.fdiv b := by omega
  rw [e, Int.gcd_comm a b]
  apply Nat.dvd_antisymm
  · apply Int.dvd_gcd
    · exact Int.gcd_dvd_left ..
    · have h1 := Int.gcd_dvd_left b (a - b * a.fdiv b)
      have h2 := Int.gcd_dvd_right b (a - b * a.fdiv b)
      have h3 := Int.dvd_add h2 (Int.dvd_trans h1 (Int.dvd_mul_right b (a.fdiv b)))
      rwa [Int.sub_add_cancel] at h3
  · apply Int.dvd_gcd
    · exact Int.gcd_dvd_left ..
    · exact Int.dvd_sub (Int.gcd_dvd_right ..) (Int.dvd_trans (Int.gcd_dvd_left ..) (Int.dvd_mul_right ..))
theorem fmod_lt_abs (a : Int) {b : Int} (h : b ≠ 0) : (a.fmod b).natAbs < b.natAbs := by
  rcases Int.lt_or_gt_of_ne h with h | h
  · have e : (a.fmod b) = -((-a).fmod (-b)) := by rw [Int.neg_fmod_neg, Int.neg_neg]
    have h1 := Int.fmod_nonneg_of_pos (-a) (b := -b) (by omega)
    have h2 := Int.fmod_lt_of_pos (-a) (b := -b) (by omega)
    omega
  · have h1 := Int.fmod_nonneg_of_pos a h
    have h2 := Int.fmod_lt_of_pos a h
    omega
theorem gcd_zero_abs (a : Int) : ((Int.gcd a 0 : Nat) : Int) = if a < 0 then -a else a := by
  rw [Int.gcd_zero_right]
  split <;> omega
end DW

set_option Elab.async false
set_option linter.all false
set_option maxRecDepth 100000
set_option maxHeartbeats 4000000
set_option autoImplicit false
namespace DW
open PySem PySem.Spec PyProof.Rows L2

/-! ### the program's own errors -/
structure ExK (W : Wd) (x : Str) (C : Addr) : Prop where
  mg : W.mg x = some (.ref C)
  xf : PySem.W.excIn W.K C [.type "ValueError", .type "Exception", .type "BaseException", .type "object"] "ValueError.__new__" = true
  kp : PySem.W.keepIn W.K (.ref C) = true
  sb : PySem.W.subIn W.K (.ref C) (.type "BaseException") = some true
  ty : PySem.W.typeIn W.K (.ref C) = some (.type "type")
  ic : ExcC W.K C
section
variable {X : Cx} {G : Gm} {e a b : Expr} {es : List Expr} {ds : List D} {d : D} {W : Wd} {N : List Str} {sc : Scope} {k j : Nat} {pos pos' p1 p2 p : Pos} {E : DE} {x nm : Str} {c : Ct} {sts : List Stmt}
theorem gs_raise {m : Str} {j : Nat} {Ca : Addr} (C : Cok X W N sc k) (F : ExK W x Ca) (hg : glB sc x = true) (h : E.rt (.ex x G)) : GS X G (.Raise (some (.Call (.Name x p) [.Constant (.str m) j p2] [] pos)) none pos') E := by
  have hw := C.wd
  subst hw
  refine ⟨fun bs B σ H S De mm => ?_⟩
  obtain ⟨Wx, tk, q⟩ := mm.xm.xe
  exact inS (ps_raise C.calm tk (pmk_own PySem.F.excBase_ValueError F.xf F.mg F.kp (raises_own F.sb F.ty) (C.gl x hg).1 (C.gl x hg).2)) (q x Ca G B σ H h F.mg S)
/-- e lets an error out -/
structure GEx (X : Cx) (G : Gm) (e : Expr) (x : Str) : Prop where
  run : ∀ (bs : Bs) (B : Hp) (σ : L2.St) (H : Hp), Sat X.K bs G B σ H → ∀ Wx : WX, Takes X Wx → (∀ C B' H', X.mg x = some (.ref C) → Grow B H B' H' → Wx (.ref C) none σ H') → ∀ Q : VK, tE X e σ H Q
theorem gex_call (C : Cok X W N sc k) (Hs : Has W j nm c) (hj : j ≤ k) (hg : glB sc nm = true) (ha : GA X G (e :: es) ds) (hc : ∀ R : Rs → Prop, (∀ G', R (.ex x G')) → c ds R) (he : nst e = true) (hpl : es.all nst = true) :
    GEx X G (.Call (.Name nm p) (e :: es) [] pos) x := by
  obtain ⟨f, fd, ps, h1, h2, h3, h4⟩ := Hs.ex
  have hw := C.wd
  subst hw
  refine ⟨fun bs B σ H S Wx tk q Q => inE (pe_callS (E := WE Wx) h4 (C.room.mono hj) (C.gl nm hg).1 h1 h2 h3 (fun σ => passAt tk σ) pA (C.gl nm hg).2 (star_cons he) (star_all hpl)) (ha.run bs B σ H S _ fun vs B1 H1 g1 r1 => ?_)⟩
  refine ⟨B1, ds, fun r => ∃ G', r = .ex x G', g1.bh, r1, hc _ fun G' => ⟨G', rfl⟩, (fun _ _ _ _ ⟨_, e'⟩ => by cases e'), (fun _ _ _ _ _ ⟨_, e'⟩ => by cases e'), fun x' G' C' B' H' e' hm g => ?_⟩
  obtain ⟨_, e'⟩ := e'
  cases e'
  exact q C' B' H' hm (g1.trans g)
theorem gs_exprX (he : GEx X G e x) (h : E.rt (.ex x G)) (hs : swapsWith e none pos.line X.env = pure false) : GS X G (.Expr e pos) E := by
  refine ⟨fun bs B σ H S De mm => ?_⟩
  obtain ⟨Wx, tk, q⟩ := mm.xm.xe
  exact inS (ps_expr pE hs) (he.run bs B σ H S Wx tk (fun C B' H' hm g => q x C G B' σ H' h hm (S.gro g)) _)
theorem gs_retX (he : GEx X G e x) (h : E.rt (.ex x G)) : GS X G (.Return (some e) pos) E := by
  refine ⟨fun bs B σ H S De mm => ?_⟩
  obtain ⟨Wx, tk, q⟩ := mm.xm.xe
  exact inS (ps_ret pE) (he.run bs B σ H S Wx tk (fun C B' H' hm g => q x C G B' σ H' h hm (S.gro g)) _)
theorem gs_asgX {y : Str} (C : Cok X W N sc k) (i : Nat) (hl : okL N sc i y = true) (he : GEx X G e x) (h : E.rt (.ex x G)) (hs : swapsWith e (some (.Name y p1)) pos.line X.env = pure false) : GS X G (.Assign [.Name y p1] e pos) E := by
  obtain ⟨h1, h2⟩ := okL_of hl
  obtain ⟨l1, l2⟩ := C.loc y h2
  refine ⟨fun bs B σ H S De mm => ?_⟩
  obtain ⟨Wx, tk, q⟩ := mm.xm.xe
  exact inS (ps_set (by rw [C.N]; exact C.nd) (by rw [C.N]; exact h1) l1 pE hs l2) (he.run bs B σ H S Wx tk (fun C B' H' hm g => q x C G B' σ H' h hm (S.gro g)) _)
theorem gss_raise {m : Str} {j : Nat} {Ca : Addr} (C : Cok X W N sc k) (F : ExK W x Ca) (hg : glB sc x = true) (h : E.rt (.ex x G)) : GSs X G (.Raise (some (.Call (.Name x p) [.Constant (.str m) j p2] [] pos)) none pos' :: sts) E := gs_cons (gs_raise C F hg h)
theorem gss_exprX (he : GEx X G e x) (h : E.rt (.ex x G)) (hs : swapsWith e none pos.line X.env = pure false) : GSs X G (.Expr e pos :: sts) E := gs_cons (gs_exprX he h hs)
theorem gss_expr (he : GE X G e d) (hs : swapsWith e none pos.line X.env = pure false) (h : GSs X G sts E) : GSs X G (.Expr e pos :: sts) E := gs_cons (gs_drop he h hs)
theorem gss_retX (he : GEx X G e x) (h : E.rt (.ex x G)) : GSs X G (.Return (some e) pos :: sts) E := gs_cons (gs_retX he h)
theorem gss_asgX {y : Str} (C : Cok X W N sc k) (i : Nat) (hl : okL N sc i y = true) (he : GEx X G e x) (h : E.rt (.ex x G)) (hs : swapsWith e (some (.Name y p1)) pos.line X.env = pure false) : GSs X G (.Assign [.Name y p1] e pos :: sts) E := gs_cons (gs_asgX C i hl he h hs)
end

/-! ### try .. except X as e -/
/-- within the suite: what isinstance tells of the error -/
structure IsR (W : Wd) (Xs : Cx) (N : List Str) (sc : Scope) (i : Nat) (en x : Str) (a : Addr) : Prop where
  own : ∀ {G : Gm} {y : Str} {p1 p2 p3 p4 : Pos} {Cx Cy : Addr} {b : Bool}, G[i]? = some (.ex a) → W.mg x = some (.ref Cx) → W.mg y = some (.ref Cy) → glB sc y = true → PySem.W.kitOne W.K (.ref Cx) (.ref Cy) = some b →
    GE Xs G (.Call (.Name "isinstance" p1) [.Name en p2, .Name y p3] [] p4) (.bool b)
  blt : ∀ {G : Gm} {y : Str} {p1 p2 p3 p4 : Pos} {Cx : Addr} {T : String} {b : Bool}, G[i]? = some (.ex a) → W.mg x = some (.ref Cx) → W.mg y = none → bootBuiltins y = some (.type T) → y ≠ "__name__" → glB sc y = true → PySem.W.kitOne W.K (.ref Cx) (.type T) = some b →
    GE Xs G (.Call (.Name "isinstance" p1) [.Name en p2, .Name y p3] [] p4) (.bool b)
def noX (rt : Rs → Prop) : Rs → Prop
  | .ex _ _ => False
  | r => rt r
def orX (rt : Rs → Prop) (h : Str → Gm → Prop) : Rs → Prop
  | .ex x G => h x G
  | r => rt r
theorem isr_mk {X : Cx} {W : Wd} {N : List Str} {sc : Scope} {k i : Nat} {en x : Str} {a Ca : Addr} {oe : Obj} {pn : List (Addr × Obj)} (C : Cok X W N sc k) (F : ExK W x Ca) (hv : okV N sc i en = true) (hgi : glB sc "isinstance" = true) (hmi : W.mg "isinstance" = none) (hz : Zc (.ref Ca) none oe) (hd : ∃ vs, oe.data = .fields vs) :
    IsR W (X.suite a ((a, oe) :: pn)) N sc i en x a := by
  have hw := C.wd
  subst hw
  obtain ⟨h1, h2, h3, h4⟩ := okV_of hv
  have hc := call_isE (X := X) (pn := pn) (a := a) F.ic hz hd
  refine ⟨fun {G y p1 p2 p3 p4 Cx Cy b} hG hx hy hgy hk => ?_, fun {G y p1 p2 p3 p4 Cx T b} hG hx hy hby hny hgy hk => ?_⟩
  · have e1 := F.mg.symm.trans hx
    cases e1
    refine ⟨fun bs B σ H S Q q => inE (pe_callB hc (C.gl _ hgi).1 hmi (by decide +kernel) (pa_cons (pe_var (i := i) (by rw [show (X.suite a ((a, oe) :: pn)).N = X.N from rfl, C.N]; exact h1) (C.vis en h2) h3 h4) (pa_cons (pe_glob (C.gl y hgy).1 hy (v := .ref Cy) rfl (C.gl y hgy).2) pa_nil (star_cons rfl)) (star_cons rfl)) (by decide) (C.gl _ hgi).2 (star_cons rfl) (star_all rfl)) ?_⟩
    have hi : i < σ.length := by
      rw [S.len]
      exact (List.getElem?_eq_some_iff.mp hG).1
    have es : σ[i]? = some σ[i] := List.getElem?_eq_getElem hi
    have r : σ[i] = some (.ref a) := S.sl i _ _ hG es
    rw [r] at es
    exact ⟨_, es, .ref Cy, .ref Cy, b, rfl, fun u hu => hu, hk, q _ B H (.refl S.bh) (.bl _)⟩
  · have e1 := F.mg.symm.trans hx
    cases e1
    refine ⟨fun bs B σ H S Q q => inE (pe_callB hc (C.gl _ hgi).1 hmi (by decide +kernel) (pa_cons (pe_var (i := i) (by rw [show (X.suite a ((a, oe) :: pn)).N = X.N from rfl, C.N]; exact h1) (C.vis en h2) h3 h4) (pa_cons (pe_bltn (C.gl y hgy).1 hy hby (v := .ty T) rfl hny (C.gl y hgy).2) pa_nil (star_cons rfl)) (star_cons rfl)) (by decide) (C.gl _ hgi).2 (star_cons rfl) (star_all rfl)) ?_⟩
    have hi : i < σ.length := by
      rw [S.len]
      exact (List.getElem?_eq_some_iff.mp hG).1
    have es : σ[i]? = some σ[i] := List.getElem?_eq_getElem hi
    have r : σ[i] = some (.ref a) := S.sl i _ _ hG es
    rw [r] at es
    exact ⟨_, es, .ty T, .type T, b, rfl, fun u hu => hu, hk, q _ B H (.refl S.bh) (.bl _)⟩
theorem gs_try_as {X : Cx} {G : Gm} {W : Wd} {N : List Str} {sc : Scope} {k : Nat} {E : DE} {en bn : Str} {Cb : Addr} {body suite : List Stmt} {b₀ : Stmt} {np pos pos' : Pos} {Hs : Str → Gm → Prop} (C : Cok X W N sc k) (i : Nat) (hv : okV N sc i en = true) (hl : loc1B sc en = true) (hbn : W.mg bn = some (.ref Cb)) (hgb : glB sc bn = true)
    (hgi : glB sc "isinstance" = true) (hmi : W.mg "isinstance" = none)
    (hb : ∀ X', Cok X' W N sc k → GSs X' G body ⟨E.nx, orX E.rt Hs, E.bk, E.ct⟩)
    (hs : ∀ x G', Hs x G' → ∃ Ca, ExK W x Ca ∧ PySem.W.exmOne W.K (.ref Ca) (.ref Cb) = some true ∧ ∀ Xs a, Cnm Xs W N sc → IsR W Xs N sc i en x a →
      GSs Xs (G'.set i (.ex a)) (b₀ :: suite) ⟨fun G2 => E.nx (G2.set i .no), noX E.rt, fun G2 => E.bk (G2.set i .no), fun G2 => E.ct (G2.set i .no)⟩) :
    GS X G (.Try body [.ExceptHandler (some (.Name bn np)) (some en) (b₀ :: suite) pos'] [] [] pos) E := by
  have hw := C.wd
  subst hw
  obtain ⟨h1, h2, h3, h4⟩ := okV_of hv
  refine ⟨fun bs B σ H S De mm => ?_⟩
  obtain ⟨Wx, tk, qx⟩ := mm.xm.xe
  have nd : X.N.Nodup := by
    rw [C.N]
    exact C.nd
  refine inS (ps_try_as (i := i) (Wout := Wx)
    (tb := fun W' => fun D σ H => ∀ (pn : List (Addr × Obj)) (xe : Value → Shared → Prop), Takes (X.tr pn xe) W' → PassesOwn (model X.prog X.w) X.A X.env xe → tB1 (X.tr pn xe) body D σ H)
    (ts := fun a cls d => fun D σ H => ∀ (oe : Obj) (pn : List (Addr × Obj)), Zc cls d oe → (∃ vs, oe.data = .fields vs) → tB1 (X.suite a ((a, oe) :: pn)) (b₀ :: suite) D σ H)
    mm.xm.top.1 mm.xm.top.2 nd (by rw [C.N]; exact h1) (C.loc1 en hl) ⟨(C.gl bn hgb).1, (C.gl bn hgb).2, .inl hbn⟩ tk
    (fun W' pn xe tk' po => ⟨fun pins s σ H D I h => pB.run pins s σ H D I (h pn xe tk' po)⟩)
    (fun a oe cls d pn hz hd => ⟨fun pins s σ H D I h => pB.run pins s σ H D I (h oe pn hz hd)⟩)) ?_
  intro pn xe tk' po
  have C' : Cok (X.tr pn xe) (wdOf X) N sc k := ⟨⟨rfl, C.nd, C.N, C.vis, C.loc, C.loc1, C.gl, C.fr, C.bk⟩, C.calm, C.room, po⟩
  refine (hb (X.tr pn xe) C').run bs B σ H S De ⟨mm.nx, mm.rf, mm.ro, mm.bk, mm.ct, ⟨mm.xm.top, _, tk', fun x C1 G' B' σ' H' hr hm S' => ?_⟩⟩
  obtain ⟨Ca, F, hx, hsu⟩ := hs x G' hr
  have e1 := F.mg.symm.trans hm
  cases e1
  refine ⟨true, hx, fun _ a ha oe pn2 hz hd => ?_, fun z => nomatch z⟩
  have Cs : Cnm (X.suite a ((a, oe) :: pn2)) (wdOf X) N sc := ⟨rfl, C.nd, C.N, C.vis, C.loc, C.loc1, C.gl, C.fr, C.bk⟩
  refine (hsu _ a Cs (isr_mk C F hv hgi hmi hz hd)).run bs B' _ H' S'.setE _ ⟨fun G2 B2 σ2 H2 g S2 => mm.nx _ B2 _ H2 g S2.setN, mm.rf, mm.ro, fun G2 B2 σ2 H2 g S2 => mm.bk _ B2 _ H2 g S2.setN, fun G2 B2 σ2 H2 g S2 => mm.ct _ B2 _ H2 g S2.setN, ⟨mm.xm.top, fun _ _ _ _ => False, takes0, fun x C G B σ H hr => hr.elim⟩⟩
section
variable {X : Cx} {G : Gm} {e : Expr} {ds : List D} {W : Wd} {N : List Str} {sc : Scope} {k : Nat} {pos p1 : Pos} {E : DE} {x : Str} {sts : List Stmt}
theorem gss_asgON (C : Cnm X W N sc) (i : Nat) (h : okL N sc i x = true) (he : GO X G e ds) (hs : swapsWith e (some (.Name x p1)) pos.line X.env = pure false) (hn : GSs X (G.set i (.ow ds)) sts E) : GSs X G (.Assign [.Name x p1] e pos :: sts) E := by
  obtain ⟨h1, h2⟩ := okL_of h
  obtain ⟨l1, l2⟩ := C.loc x h2
  exact gs_cons ⟨fun bs B σ H S De m => inS (ps_set (by rw [C.N]; exact C.nd) (by rw [C.N]; exact h1) l1 pE hs l2) (he.run bs B σ H S _ fun q vs B1 H1 g q0 q1 q2 r =>
    m.nx _ B1 _ H1 hn (S.setO g q0 rfl ⟨q, vs, rfl, same_none S.gr.h q0, q1, q2, r⟩))⟩
end
/-! ### a list so many times -/
theorem dpa_rep {K : PySem.W.Frag} {B : Hp} {vs : List V} {ds : List D} (h : DpAll K B vs ds) : ∀ n : Nat, DpAll K B (List.replicate n vs).flatten (List.replicate n ds).flatten
  | 0 => .nil
  | n + 1 => by
    rw [List.replicate_succ, List.replicate_succ, List.flatten_cons, List.flatten_cons]
    exact dpa_app h (dpa_rep h n)
theorem go_rep {X : Cx} {G : Gm} {a b : Expr} {xs : List D} {n : Int} {pos : Pos} (ha : GO X G a xs) (hb : GE X G b (.int n)) (h0 : 0 ≤ n) (hn : n < 16777216) (hz : xs.length * n.toNat ≤ 16777216) : GO X G (.BinOp a .Mult b pos) (List.replicate n.toNat xs).flatten :=
  ⟨fun bs B σ H S Q q => inE (pe_op op_rep pE pE) (ha.run bs B σ H S _ fun p vs B1 H1 g1 q0 q1 q2 r => hb.run bs B1 σ H1 (S.gro g1) _ fun w B2 H2 g2 r2 => by
    have l1 := dpa_len r
    refine ⟨p, n, vs, rfl, dp_int r2, g2.h p _ q2, by omega, by omega, by rw [l1, sizeLine_eq]; exact hz, fun p' hp => ?_⟩
    have g := (g1.trans g2).trans (Grow.own (p := p') (o := .lst (List.replicate n.toNat vs).flatten) g2.bh hp)
    exact q p' _ _ _ g (same_none (g1.trans g2).h hp) (same_none g2.bh hp) upd_same (dpa_rep (moA r g2.b) _))⟩
/-! ### the errors of a law -/
def names9 : List Str := ["BodyError", "Flat", "NoPoints", "NoAxis", "NoMove", "NoText", "NoName", "NoRow", "TooGreat"]
structure SubK (W : Wd) (x y : Str) (b : Bool) : Prop where
  ex : ∃ Cx Cy, W.mg x = some (.ref Cx) ∧ W.mg y = some (.ref Cy) ∧ PySem.W.kitOne W.K (.ref Cx) (.ref Cy) = some b ∧ PySem.W.exmOne W.K (.ref Cx) (.ref Cy) = some b
structure ErOne (W : Wd) (x : Str) : Prop where
  ex : ∃ C, ExK W x C ∧ (∀ y ∈ names9, SubK W x y (decide (x = y ∨ y = "BodyError"))) ∧ PySem.W.kitOne W.K (.ref C) (.type "ValueError") = some true ∧ W.mg "ValueError" = none
def Er (W : Wd) (rs : List Str) : Prop := ∀ x ∈ rs, ErOne W x
theorem er_nil {W : Wd} : Er W [] := fun _ h => by cases h
theorem er_cons {W : Wd} {x : Str} {rs : List Str} (h : ErOne W x) (t : Er W rs) : Er W (x :: rs) := fun y hy => by
  rcases List.mem_cons.mp hy with e | e
  · exact e ▸ h
  · exact t y e
theorem kit_ref {K : PySem.W.Frag} {C Cy : Addr} {b : Bool} (hd : PySem.W.hasDictIn K Cy = true) (ht : PySem.W.typeIn K (.ref Cy) = some (.type "type")) (h : PySem.W.subIn K (.ref C) (.ref Cy) = some b) (hs : PySem.W.subIn K (.ref C) (.ref C) = some true) : PySem.W.kitOne K (.ref C) (.ref Cy) = some b := by
  obtain ⟨cd, hc, _⟩ := PySem.W.any_some hd
  unfold PySem.W.kitOne
  split
  · rename_i e
    have e' : C = Cy := Value.ref.inj (beq_iff_eq.mp e)
    subst e'
    exact hs.symm.trans h
  · unfold PySem.W.kitCls
    have e2 : ((PySem.W.clsIn K Cy).isSome && PySem.W.typeIn K (.ref Cy) == some (.type "type")) = true := by rw [hc, ht] <;> rfl
    dsimp only
    rw [if_pos e2]
    exact h
theorem kit_val {K : PySem.W.Frag} {C : Addr} {T : String} {b : Bool} (hm : PySem.W.kitMeta T = true) (h : PySem.W.subIn K (.ref C) (.type T) = some b) : PySem.W.kitOne K (.ref C) (.type T) = some b := by
  unfold PySem.W.kitOne
  rw [if_neg (by intro e; have := beq_iff_eq.mp e; cases this)]
  unfold PySem.W.kitCls
  dsimp only
  rw [if_pos hm]
  exact h
theorem sub_mk {W : Wd} {x y : Str} {Cx Cy : Addr} {b c : Bool} (hx : W.mg x = some (.ref Cx)) (hy : W.mg y = some (.ref Cy)) (hb : PySem.W.subIn W.K (.ref Cy) (.type "BaseException") = some true) (hd : PySem.W.hasDictIn W.K Cy = true) (ht : PySem.W.typeIn W.K (.ref Cy) = some (.type "type"))
    (h : PySem.W.subIn W.K (.ref Cx) (.ref Cy) = some b) (hs : PySem.W.subIn W.K (.ref Cx) (.ref Cx) = some true) (e : b = c) : SubK W x y c := by
  subst e
  exact ⟨Cx, Cy, hx, hy, kit_ref hd ht h hs, PySem.W.exm_ref hb hd ht h⟩
/-- within a suite: isinstance(e, Y) -/
theorem IsR.go {W : Wd} {Xs : Cx} {N : List Str} {sc : Scope} {i : Nat} {en x : Str} {a : Addr} (I : IsR W Xs N sc i en x a) (Z : ErOne W x) {G : Gm} {y : Str} {p1 p2 p3 p4 : Pos} {b : Bool} (hG : G[i]? = some (.ex a)) (hg : glB sc y = true) (hy : y ∈ names9) (hb : decide (x = y ∨ y = "BodyError") = b) :
    GE Xs G (.Call (.Name "isinstance" p1) [.Name en p2, .Name y p3] [] p4) (.bool b) := by
  obtain ⟨C, _, h, _, _⟩ := Z.ex
  obtain ⟨Cx, Cy, h1, h2, h3, _⟩ := (h y hy).ex
  subst hb
  exact I.own hG h1 h2 hg h3
theorem IsR.goV {W : Wd} {Xs : Cx} {N : List Str} {sc : Scope} {i : Nat} {en x : Str} {a : Addr} (I : IsR W Xs N sc i en x a) (Z : ErOne W x) {G : Gm} {p1 p2 p3 p4 : Pos} (hG : G[i]? = some (.ex a)) (hg : glB sc "ValueError" = true) :
    GE Xs G (.Call (.Name "isinstance" p1) [.Name en p2, .Name "ValueError" p3] [] p4) (.bool true) := by
  obtain ⟨C, F, _, h, hv⟩ := Z.ex
  exact I.blt hG F.mg hv (by decide +kernel) (by decide) hg h
/-- except BodyError as e -/
theorem gs_tryB {X : Cx} {G : Gm} {W : Wd} {N : List Str} {sc : Scope} {k : Nat} {E : DE} {en : Str} {rs : List Str} {body suite : List Stmt} {b₀ : Stmt} {np pos pos' : Pos} {Hs : Str → Gm → Prop} (C : Cok X W N sc k) (Z : Er W rs) (i : Nat) (hv : okV N sc i en = true) (hl : loc1B sc en = true) (hgb : glB sc "BodyError" = true) (hbm : ∃ Cb, W.mg "BodyError" = some (.ref Cb))
    (hgi : glB sc "isinstance" = true) (hmi : W.mg "isinstance" = none)
    (hb : ∀ X', Cok X' W N sc k → GSs X' G body ⟨E.nx, orX E.rt Hs, E.bk, E.ct⟩)
    (hs : ∀ x G', Hs x G' → x ∈ rs ∧ ∀ Xs a, Cnm Xs W N sc → IsR W Xs N sc i en x a →
      GSs Xs (G'.set i (.ex a)) (b₀ :: suite) ⟨fun G2 => E.nx (G2.set i .no), noX E.rt, fun G2 => E.bk (G2.set i .no), fun G2 => E.ct (G2.set i .no)⟩) :
    GS X G (.Try body [.ExceptHandler (some (.Name "BodyError" np)) (some en) (b₀ :: suite) pos'] [] [] pos) E := by
  obtain ⟨Cb, hCb⟩ := hbm
  refine gs_try_as C i hv hl hCb hgb hgi hmi hb fun x G' h => ?_
  obtain ⟨hx, hsu⟩ := hs x G' h
  obtain ⟨Ca, F, hsub, _, _⟩ := (Z x hx).ex
  obtain ⟨Cx, Cy, h1, h2, h3, h4⟩ := (hsub "BodyError" (by decide)).ex
  have e1 := F.mg.symm.trans h1
  cases e1
  have e2 := hCb.symm.trans h2
  cases e2
  rw [show decide (x = "BodyError" ∨ ("BodyError" : Str) = "BodyError") = true from decide_eq_true (.inr rfl)] at h4
  exact ⟨Ca, F, h4, hsu⟩
theorem er_body {W : Wd} {x : Str} {rs : List Str} (Z : Er W (x :: rs)) : ∃ Cb, W.mg "BodyError" = some (.ref Cb) := by
  obtain ⟨_, _, h, _, _⟩ := (Z x List.mem_cons_self).ex
  obtain ⟨_, Cy, _, h2, _⟩ := (h "BodyError" (by decide)).ex
  exact ⟨Cy, h2⟩
/-! ### the program's own constants -/
structure ConstD (W : Wd) (x : Str) (d : D) : Prop where
  ex : ∃ (u : Value) (v : V), W.mg x = some u ∧ RelV v u ∧ ∀ H : Hp, Dp W.K H v d
theorem const_int {W : Wd} {x : Str} {i : Int} (h : ∃ t, W.mg x = some (.int i t)) : ConstD W x (.int i) := by
  obtain ⟨t, h⟩ := h
  exact ⟨_, .int i, h, ⟨t, rfl⟩, fun _ => .int _⟩
theorem const_tup {W : Wd} {x : Str} {is : List Int} (h : ∃ (a : Addr) (o : Obj) (its : Array Value) (n : Nat), W.mg x = some (.ref a) ∧ W.K.lookup a = some o ∧ o.cls = .type "tuple" ∧ o.data = .seq its n ∧ its.size ≤ sizeLine ∧ Vals (is.map V.int) its.toList) : ConstD W x (.tuple (is.map .int)) := by
  obtain ⟨a, o, its, n, h, h1, h2, h3, h4, h5⟩ := h
  exact ⟨_, .ref a, h, rfl, fun H => .tup (.inr ⟨o, its, n, h1, h2, h3, h4, h5⟩) (dpa_of_ints is)⟩
theorem ge_const {X : Cx} {G : Gm} {W : Wd} {N : List Str} {sc : Scope} {k : Nat} {pos : Pos} {x : Str} {d : D} (C : Cok X W N sc k) (h : ConstD W x d) (hg : glB sc x = true) : GE X G (.Name x pos) d := by
  obtain ⟨u, v, h1, h2, h3⟩ := h.ex
  have hw := C.wd
  subst hw
  exact ⟨fun bs B σ H S Q q => inE (pe_glob (C.gl x hg).1 h1 h2 (C.gl x hg).2) (q v B H (.refl S.bh) (h3 B))⟩
/-! ### moves: three rows and a way off -/
structure Mv where
  a : P3
  b : P3
  c : P3
  o : P3
  deriving DecidableEq
abbrev Mv.en (m : Mv) : D := .tuple [.int m.a.x, .int m.a.y, .int m.a.z, .int m.b.x, .int m.b.y, .int m.b.z, .int m.c.x, .int m.c.y, .int m.c.z, .int m.o.x, .int m.o.y, .int m.o.z]
/-- a point as a tuple or as a list -/
inductive Sq3 : D → P3 → Prop
  | t {u : P3} : Sq3 u.en u
  | l {u : P3} : Sq3 (.list [.int u.x, .int u.y, .int u.z]) u
  | p {p : Pl} : Sq3 p.en p.n
section
variable {X : Cx} {G : Gm} {a : Expr} {m : Mv} {pos p1 p2 p3 : Pos}
theorem ge_slLd {lo hi : Option Expr} {l h : Option Int} {ds : List D} (ha : GE X G a (.list ds)) (hl : GP X G lo l) (hh : GP X G hi h) : GE X G (.Subscript a (.Slice lo hi none p2) pos) (.list (cutD ds l h)) := GO.ge (go_slL ha.gl hl hh)
theorem ge_mv1 (h : GE X G a m.en) : GE X G (.Subscript a (.Slice none (some (.Constant (.int 3) 0 p1)) none p2) pos) m.a.en := ge_slT h gp_no (gp_yes ge_int)
theorem ge_mv2 (h : GE X G a m.en) : GE X G (.Subscript a (.Slice (some (.Constant (.int 3) 0 p3)) (some (.Constant (.int 6) 0 p1)) none p2) pos) m.b.en := ge_slT h (gp_yes ge_int) (gp_yes ge_int)
theorem ge_mv3 (h : GE X G a m.en) : GE X G (.Subscript a (.Slice (some (.Constant (.int 6) 0 p3)) (some (.Constant (.int 9) 0 p1)) none p2) pos) m.c.en := ge_slT h (gp_yes ge_int) (gp_yes ge_int)
theorem ge_mv4 (h : GE X G a m.en) : GE X G (.Subscript a (.Slice (some (.Constant (.int 9) 0 p3)) none none p2) pos) m.o.en := ge_slT h (gp_yes ge_int) gp_no
end
theorem gss_ext {X : Cx} {G : Gm} {e : Expr} {ds us : List D} {W : Wd} {N : List Str} {sc : Scope} {k : Nat} {pos p1 p2 p3 : Pos} {E : DE} {x : Str} {sts : List Stmt} (C : Cok X W N sc k) (i : Nat) (h : okV N sc i x = true) (hG : G[i]? = some (.ow ds)) (he : GL X G e us) (hz : ds.length + us.length ≤ 16777216) (hn : GSs X (G.set i (.ow (ds ++ us))) sts E)
    (hb : attributeBase (.Name x p1) "extend" X.env (eval (.Name x p1) X.env) = eval (.Name x p1) X.env) (hl : (p2.endLine == p3.line) = true) (hst : nst e = true)
    (hfew : ((backTo p3 (starEach [e] X.env)).all (fun x => !x.1) && (backToKw p3 (keywordEach [] X.env)).all (fun x => x.1.isSome) && decide (([e] : List Expr).length + ([] : List Keyword).length + (if ([] : List Keyword).isEmpty then 0 else 1) < 30)) = true)
    (hs : swapsWith (.Call (.Attribute (.Name x p1) "extend" p2) [e] [] p3) none pos.line X.env = pure false) : GSs X G (.Expr (.Call (.Attribute (.Name x p1) "extend" p2) [e] [] p3) pos :: sts) E := gs_cons (gs_ext C i h hG he hz hn hb hl hst hfew hs)
def Mv.at (m : Mv) (a : Int) : Int := [m.a.x, m.a.y, m.a.z, m.b.x, m.b.y, m.b.z, m.c.x, m.c.y, m.c.z, m.o.x, m.o.y, m.o.z].getD a.toNat 0
theorem ixM {m : Mv} {a : Int} (h0 : 0 ≤ a) (h1 : a < 12) : IxV (.s m.en) a (.int (m.at a)) := by
  refine .tup ?_
  have h := atI_map (f := PyData.int) (atI_getD (ns := [m.a.x, m.a.y, m.a.z, m.b.x, m.b.y, m.b.z, m.c.x, m.c.y, m.c.z, m.o.x, m.o.y, m.o.z]) h0 (by simp only [List.length_cons, List.length_nil]; omega))
  exact h
end DW

set_option Elab.async false
set_option linter.all false
set_option maxRecDepth 100000
set_option maxHeartbeats 4000000
set_option autoImplicit false
namespace DW
open PySem PySem.Spec PyProof.Rows L2
/-! ### sorted, over data -/
section
variable {β : Type} {enc : β → D}
def ItR (K : PySem.W.Frag) (H : Hp) (enc : β → D) (u : Value) (b : β) : Prop := ∃ v, RelV v u ∧ Dp K H v (enc b)
theorem eachis_of {K : PySem.W.Frag} {H : Hp} : ∀ {bs : List β} {xs : List V} {us : List Value}, DpAll K H xs (bs.map enc) → Vals xs us → PySem.W.EachIs (ItR K H enc) us bs
  | [], _, _, h, r => by
    cases h
    cases r
    exact .nil
  | b :: bs, _, _, h, r => by
    cases h with
    | cons h1 h2 => cases r with
      | cons r1 r2 => exact .cons ⟨_, r1, h1⟩ (eachis_of h2 r2)
theorem eachis_to {K : PySem.W.Frag} {H : Hp} : ∀ {bs : List β} {us : List Value}, PySem.W.EachIs (ItR K H enc) us bs → ∃ ys, Vals ys us ∧ DpAll K H ys (bs.map enc)
  | _, _, .nil => ⟨[], .nil, .nil⟩
  | _, _, .cons ⟨v, r1, h1⟩ t => by
    obtain ⟨ys, r2, h2⟩ := eachis_to t
    exact ⟨v :: ys, .cons r1 r2, .cons h1 h2⟩
def rSortD (K : PySem.W.Frag) (enc : β → D) : List V → Hp → VK → Prop := fun vs H Q => ∃ (B : Hp) (a : Addr) (xs : List V) (bs : List β), Same B H ∧ vs = [V.ref a] ∧ SqL K H a xs ∧ DpAll K B xs (bs.map enc) ∧ PySem.W.AllAlike (bs.map enc) ∧ PySem.W.Sortable (bs.map enc) ∧ bs.length ≤ sizeLine ∧ (∀ b ∈ bs, (enc b).depth ≤ 60) ∧
  ∀ (ys : List V) (p : Addr), DpAll K B ys ((bs.mergeSort (PySem.W.dataLe false enc)).map enc) → H p = none → Q (.ref p) (upd H p (.lst ys))
theorem cr_sortD {X : Cx} (hu : X.A.units + 64 < cLine) : CallR X (.builtin "sorted") (rSortD X.K enc) := by
  intro pins s σ H vs us Q I r h
  obtain ⟨B, a, xs, bs, sB, rfl, hs, hd, hal, hk, hL, hdp, q⟩ := h
  obtain ⟨its, rv, hl, _⟩ := I.list hs
  rw [Vals.ref1 r]
  have e := eachis_of hd rv
  have er : PySem.W.EachIs (fun u b => ∃ as, Reads s.heap u (enc b) as) its bs := e.mono fun u b hb => by
    obtain ⟨v, r1, h1⟩ := hb
    exact Dp.reads I (enc b) v u (moD h1 sB) r1
  refine PySem.W.sorted_data (R := ItR X.K B enc) hl.isList e er hal hk hL (fun b hb => by have := hdp b hb; omega) (fun out ho hout => ?_)
  obtain ⟨ys, r2, h2⟩ := eachis_to hout
  obtain ⟨ep, he'⟩ := PyProof.Rows.sortedAll_at s.heap its out.toArray
  have hlen : ys.length ≤ sizeLine := by
    rw [dpa_len h2, List.length_map, List.length_mergeSort]
    exact hL
  exact ⟨.ref _, upd H (s.heap.objs.size + 1) (.lst ys), I.laid (t' := s.toks) (fun _ _ => PyProof.Rows.sortedAll_old) (Nat.le_succ _) ⟨hlen, out, ep, r2, he'⟩, rfl, q ys _ h2 (I.hok.fresh (Nat.le_succ _))⟩
theorem go_sorted {X : Cx} {G : Gm} {e : Expr} {W : Wd} {N : List Str} {sc : Scope} {k : Nat} {p pos : Pos} {bs : List β} (C : Cok X W N sc k) (hg : glB sc "sorted" = true) (hm : W.mg "sorted" = none) (ha : GL X G e (bs.map enc)) (hal : PySem.W.AllAlike (bs.map enc)) (hk : PySem.W.Sortable (bs.map enc)) (hL : bs.length ≤ 16777216) (hd : ∀ b ∈ bs, (enc b).depth ≤ 60) (he : nst e = true) :
    GO X G (.Call (.Name "sorted" p) [e] [] pos) ((bs.mergeSort (PySem.W.dataLe false enc)).map enc) := by
  have hw := C.wd
  subst hw
  refine ⟨fun bs' B σ H S Q q => inE (pe_callB (cr_sortD (enc := enc) (by have := C.room.un; omega)) (C.gl _ hg).1 hm (by decide +kernel) (pa_cons pE pa_nil (star_cons he)) (by decide) (C.gl _ hg).2 (star_cons he) (star_all rfl)) (ha.run bs' B σ H S _ fun a vs B1 H1 g1 r1 r2 => ?_)⟩
  refine ⟨B1, a, vs, bs, g1.bh, rfl, r1, r2, hal, hk, by rw [sizeLine_eq]; exact hL, hd, fun ys p hy hp => ?_⟩
  exact q p ys B1 _ (g1.trans (.own g1.bh hp)) (same_none g1.h hp) (same_none g1.bh hp) upd_same hy
theorem alike_p3 (u v : P3) : PySem.W.alike u.en v.en = true := PySem.W.alike_ints [u.x, u.y, u.z] [v.x, v.y, v.z]
def leP (u v : P3) : Bool := decide (u.x < v.x ∨ (u.x = v.x ∧ (u.y < v.y ∨ (u.y = v.y ∧ u.z ≤ v.z))))
def sortP (us : List P3) : List P3 := us.mergeSort (PySem.W.dataLe false P3.en)
theorem go_sort3 {X : Cx} {G : Gm} {e : Expr} {W : Wd} {N : List Str} {sc : Scope} {k : Nat} {p pos : Pos} {us : List P3} (C : Cok X W N sc k) (hg : glB sc "sorted" = true) (hm : W.mg "sorted" = none) (ha : GL X G e (us.map P3.en)) (hL : us.length ≤ 16777216) (he : nst e = true) :
    GO X G (.Call (.Name "sorted" p) [e] [] pos) ((sortP us).map P3.en) :=
  go_sorted C hg hm ha (.of alike_p3) (.tuples fun b => ⟨_, _, rfl⟩) hL (fun b _ => by simp [PyData.depth, PyData.depthAll]) he
end
end DW

set_option Elab.async false
set_option linter.all false
set_option maxRecDepth 100000
set_option maxHeartbeats 4000000
set_option autoImplicit false
namespace DW
open PySem PySem.Spec PyProof.Rows L2
/-! ### keys as data -/
section
variable {X : Cx} {pins : List (Addr × Obj)} {σ : L2.St} {H : Hp} {s : Shared}
mutual
theorem dp_nest (I : Inv X pins σ H s) : ∀ (k : NestedKey) (v : V) (u : Value), Dp X.K H v k.data → RelV v u → NestedIs s.heap k u
  | .none, v, u, h, r => by
    have e := dp_non h
    subst e
    cases r
    exact .none
  | .num i, v, u, h, r => by
    have e := dp_int h
    subst e
    obtain ⟨t, rfl⟩ := r
    exact .int i t
  | .text x, v, u, h, r => by
    have e := dp_str h
    subst e
    obtain ⟨t, rfl⟩ := r
    exact .text x t
  | .tup ks, v, u, h, r => by
    obtain ⟨a, xs, rfl, h1, h2⟩ := dp_tup (ds := NestedKey.datas ks) h
    cases r
    obtain ⟨its, rv, ⟨o, ho, hc, n, hd⟩, _⟩ := I.tuple h1
    exact .tup ho hc hd (by simpa using dp_nests I ks _ _ h2 rv)
theorem dp_nests (I : Inv X pins σ H s) : ∀ (ks : List NestedKey) (vs : List V) (us : List Value), DpAll X.K H vs (NestedKey.datas ks) → Vals vs us → NestedAll s.heap ks us
  | [], _, _, h, r => by
    cases h
    cases r
    exact .nil
  | k :: ks, _, _, h, r => by
    have h' : DpAll X.K H _ (NestedKey.data k :: NestedKey.datas ks) := h
    cases h' with
    | cons h1 h2 => cases r with
      | cons r1 r2 => exact .cons (dp_nest I k _ _ h1 r1) (dp_nests I ks _ _ h2 r2)
end
end
/-! ### a dict of one's own -/
abbrev Ent := List (NestedKey × Addr × Value)
def dE (W : Wd) (p : Addr) (xs : Ent) : HO := .ext fun h => (p == sysModules) = false ∧ xs.length ≤ sizeLine ∧ ∃ o es ep, h.get? p = some o ∧ o.ExactDict ∧ o.data = .dict es ep ∧ es.toList = xs.map (entryOfKey (nestedKind W.P W.w)) ∧ (xs.map (·.1)).Nodup
theorem dE_new {W : Wd} {p : Addr} {xs : Ent} {H : Hp} {h : Heap} (h1 : (p == sysModules) = false) (h2 : xs.length ≤ sizeLine) (h3 : ∃ o es ep, h.get? p = some o ∧ o.ExactDict ∧ o.data = .dict es ep ∧ es.toList = xs.map (entryOfKey (nestedKind W.P W.w)) ∧ (xs.map (·.1)).Nodup) :
    ObjOk W.P W.w H h p (dE W p xs) := by
  refine ⟨⟨h1, h2, h3⟩, ?_, fun ha hb q k => ?_⟩
  · obtain ⟨o, _, _, ho, _⟩ := h3
    exact ⟨o, ho⟩
  · obtain ⟨q1, q2, o, es, ep, ho, r⟩ := q
    exact ⟨q1, q2, o, es, ep, k o ho, r⟩
def KvR (K : PySem.W.Frag) (B : Hp) (p : NestedKey × D) (q : NestedKey × Addr × Value) : Prop := p.1 = q.1 ∧ q.1.depth ≤ 8 ∧ Dp K B (.ref q.2.1) q.1.data ∧ ∃ v, RelV v q.2.2 ∧ Dp K B v p.2
abbrev Kvs := List (NestedKey × D)
def dget (kvs : Kvs) (k : NestedKey) : Option D := (kvs.find? fun p => decide (p.1 = k)).map (·.2)
def dput (kvs : Kvs) (k : NestedKey) (d : D) : Kvs := if (dget kvs k).isSome then kvs.map (fun p => if p.1 = k then (p.1, d) else p) else kvs ++ [(k, d)]
theorem kv_get {K : PySem.W.Frag} {B : Hp} {kvs : Kvs} {xs : Ent} (r : Paired (KvR K B) kvs xs) (k : NestedKey) : (dget kvs k = none ∧ atKey xs k = none) ∨ ∃ d a u, dget kvs k = some d ∧ atKey xs k = some (a, u) ∧ ∃ v, RelV v u ∧ Dp K B v d := by
  induction r with
  | nil => exact .inl ⟨rfl, rfl⟩
  | @cons p q ps qs h t ih =>
    obtain ⟨h1, h2, h3, v, h4, h5⟩ := h
    by_cases e : p.1 = k
    · refine .inr ⟨p.2, q.2.1, q.2.2, ?_, ?_, v, h4, h5⟩
      · simp only [dget, List.find?_cons, decide_eq_true e, Option.map_some]
      · simp only [atKey, List.find?_cons, decide_eq_true (h1.symm.trans e), Option.map_some]
    · have e2 : ¬ q.1 = k := fun z => e (h1.trans z)
      have f1 : dget (p :: ps) k = dget ps k := by simp only [dget, List.find?_cons, decide_eq_false e]
      have f2 : atKey (q :: qs) k = atKey qs k := by simp only [atKey, List.find?_cons, decide_eq_false e2]
      rw [f1, f2]
      exact ih
theorem kv_isSome {K : PySem.W.Frag} {B : Hp} {kvs : Kvs} {xs : Ent} (r : Paired (KvR K B) kvs xs) (k : NestedKey) : (dget kvs k).isSome = (atKey xs k).isSome := by
  rcases kv_get r k with ⟨h1, h2⟩ | ⟨d, a, u, h1, h2, _⟩
  · rw [h1, h2]
    rfl
  · rw [h1, h2]
    rfl
theorem kv_put {K : PySem.W.Frag} {B : Hp} {kvs : Kvs} {xs : Ent} (r : Paired (KvR K B) kvs xs) {k : NestedKey} {b : Addr} {u : Value} {v : V} {d : D} (hd : k.depth ≤ 8) (hb : Dp K B (.ref b) k.data) (hv : RelV v u) (hq : Dp K B v d) : Paired (KvR K B) (dput kvs k d) (storedH xs k b u) := by
  unfold dput storedH
  rw [kv_isSome r k]
  by_cases q : (atKey xs k).isSome = true
  · rw [if_pos q, if_pos q]
    clear q
    induction r with
    | nil => exact .nil
    | @cons p q ps qs h t ih =>
      rw [List.map_cons, List.map_cons]
      refine .cons ?_ ih
      obtain ⟨h1, h2, h3, h4⟩ := h
      unfold putAt
      by_cases e : p.1 = k
      · rw [if_pos e, if_pos (h1.symm.trans e)]
        exact ⟨h1, h2, h3, v, hv, hq⟩
      · rw [if_neg e, if_neg (fun z => e (h1.trans z))]
        exact ⟨h1, h2, h3, h4⟩
  · rw [if_neg q, if_neg q]
    exact Paired.snoc r ⟨rfl, hd, hb, v, hv, hq⟩
theorem dput_len (kvs : Kvs) (k : NestedKey) (d : D) : (dput kvs k d).length ≤ kvs.length + 1 := by
  unfold dput
  split
  · rw [List.length_map]
    omega
  · rw [List.length_append]
    exact Nat.le_refl _
theorem storedH_len (xs : Ent) (k : NestedKey) (b : Addr) (u : Value) : (storedH xs k b u).length ≤ xs.length + 1 := by
  unfold storedH
  split
  · rw [List.length_map]
    omega
  · rw [List.length_append]
    exact Nat.le_refl _
theorem kv_mono {K : PySem.W.Frag} {B B' : Hp} (e : Same B B') {kvs : Kvs} {xs : Ent} (r : Paired (KvR K B) kvs xs) : Paired (KvR K B') kvs xs :=
  Paired.mapP r fun _ _ z => ⟨z.1, z.2.1, moD z.2.2.1 e, let ⟨v, h1, h2⟩ := z.2.2.2; ⟨v, h1, moD h2 e⟩⟩
def dictO (W : Wd) (kvs : Kvs) : Ob where
  R B H p := ∃ xs, H p = some (dE W p xs) ∧ Paired (KvR W.K B) kvs xs
  gr B H B' H' p e1 e2 h := by
    obtain ⟨xs, h1, h2⟩ := h
    exact ⟨xs, e2 _ _ h1, kv_mono e1 h2⟩
  fr B H p q o hne h := by
    obtain ⟨xs, h1, h2⟩ := h
    exact ⟨xs, by rw [upd_ne hne.symm]; exact h1, h2⟩
/-- one's own thing at slot i changes -/
theorem Sat.mutO {K : PySem.W.Frag} {bs : Bs} {G : Gm} {B H : Hp} {σ : L2.St} {i : Nat} {p : Addr} {R R' : Ob} {o' : HO} (S : Sat K bs G B σ H) (h : G[i]? = some (.ob R)) (hp : σ[i]? = some (some (.ref p))) (q : R'.R B (upd H p o') p) : Sat K bs (G.set i (.ob R')) B σ (upd H p o') := by
  obtain ⟨p', e, q0, q1, q2, q3⟩ := S.obj h
  rw [hp] at e
  cases e
  have hi : i < G.length := (List.getElem?_eq_some_iff.mp h).1
  refine ⟨⟨S.gr.b, fun b o z => ?_, same_out S.bh q1, S.gr.n⟩, by rw [List.length_set, S.len], fun j s o h1 h2 => ?_, fun j k s t a hjk h1 h2 s1 s2 e1 e2 => ?_⟩
  · rw [upd_ne (ne_of_none z q0)]
    exact S.gr.h b o z
  · rcases set_get h1 with ⟨ej, es, hl⟩ | ⟨ej, h1'⟩
    · subst ej es
      rw [hp] at h2
      cases h2
      exact ⟨p, rfl, q0, q1, by rw [upd_same]; simp, q⟩
    · have r := S.sl j s o h1' h2
      cases s with
      | ex a => exact r
      | no => trivial
      | fz d => exact r
      | ow ds' =>
        obtain ⟨p2, vs2, e2, r0, r1, r2, r3⟩ := r
        subst e2
        have ne : p ≠ p2 := S.apart (fun z => ej z.symm) h h1' rfl rfl hp h2
        exact ⟨p2, vs2, rfl, r0, r1, by rw [upd_ne ne.symm]; exact r2, r3⟩
      | ob R2 =>
        obtain ⟨p2, e2, r0, r1, r2, r3⟩ := r
        subst e2
        have ne : p ≠ p2 := S.apart (fun z => ej z.symm) h h1' rfl rfl hp h2
        exact ⟨p2, rfl, r0, r1, by rw [upd_ne ne.symm]; exact r2, R2.fr B H p2 p _ ne r3⟩
  · have own : ∀ (m : Nat) s, (G.set i (.ob R'))[m]? = some s → s.own = true → ∃ s', G[m]? = some s' ∧ s'.own = true := fun m s a1 a2 => by
      rcases set_get a1 with ⟨em, _, _⟩ | ⟨_, a1'⟩
      · subst em
        exact ⟨_, h, rfl⟩
      · exact ⟨s, a1', a2⟩
    obtain ⟨s', g1, g2⟩ := own j s h1 s1
    obtain ⟨t', g3, g4⟩ := own k t h2 s2
    exact S.na j k s' t' a hjk g1 g3 g2 g4 e1 e2
section
variable {X : Cx} {G : Gm} {e v a : Expr} {es : List Expr} {ds : List D} {d : D} {W : Wd} {N : List Str} {sc : Scope} {k : Nat} {pos p1 p2 p3 p : Pos} {E : DE} {x : Str} {sts : List Stmt} {kvs : Kvs} {key : NestedKey}
/-- the dict as the machine has it -/
theorem dE_of {pins : List (Addr × Obj)} {σ : L2.St} {H B : Hp} {s : Shared} {p : Addr} {xs : Ent} {W : Wd} (hw : wdOf X = W) (I : Inv X pins σ H s) (sB : Same B H) (h : H p = some (dE W p xs)) (r : Paired (KvR W.K B) kvs xs) : (p == sysModules) = false ∧ xs.length ≤ sizeLine ∧ s.heap.DictOfH (nestedKind X.prog X.w) p xs := by
  subst hw
  obtain ⟨⟨q1, q2, o, es, ep, ho, h2, h3, h4, h5⟩, _⟩ := I.hok p _ h
  refine ⟨q1, q2, o, es, ep, ho, h2, h3, h4, fun q hq => ?_, h5⟩
  have : ∀ {kvs : Kvs} {xs : Ent}, Paired (KvR (wdOf X).K B) kvs xs → q ∈ xs → q.1.depth ≤ 8 ∧ Dp X.K B (.ref q.2.1) q.1.data := fun {kvs xs} r hm => by
    induction r with
    | nil => cases hm
    | @cons p q' ps qs h t ih =>
      rcases List.mem_cons.mp hm with e | e
      · subst e
        exact ⟨h.2.1, h.2.2.1⟩
      · exact ih e
  obtain ⟨a1, a2⟩ := this r hq
  exact ⟨dp_nest I q.1 _ _ (moD a2 sB) rfl, a1⟩
def rDGX (W : Wd) : R2 := fun x y H Q => ∃ (B : Hp) (p b : Addr) (kvs : Kvs) (xs : Ent) (key : NestedKey) (d : D), x = .ref p ∧ y = .ref b ∧ Same B H ∧ H p = some (dE W p xs) ∧ Paired (KvR W.K B) kvs xs ∧ key.depth ≤ 8 ∧ Dp W.K B (.ref b) key.data ∧ dget kvs key = some d ∧ ∀ v, Dp W.K B v d → Q v H
theorem pe_dgetX {o i : Expr} {td ty : TE} (hw : wdOf X = W) (hu : X.A.units + 64 < cLine) (ho : PE X o td) (hi : PE X i ty) (hs : NoSl i) : PE X (.Subscript o i pos) (tOp (rDGX W) td ty) := by
  refine ⟨fun pins s σ H Q I h => ?_⟩
  refine subD_of PySem.F.slot_dict_getitem.lookup hs (thn (ho.run pins s σ H _ I h) fun u s1 ⟨x, H1, I1, rx, q1⟩ => thn (hi.run pins s1 σ H1 _ I1 q1) fun iv s2 ⟨y, H2, I2, ry, q2⟩ => ?_)
  obtain ⟨B, p, b, kvs, xs, key, d, rfl, rfl, sB, hp, r, hd, hb, hg, q⟩ := q2
  obtain rfl : u = Value.ref p := rx
  obtain rfl : iv = Value.ref b := ry
  obtain ⟨h1, h2, dd⟩ := dE_of hw I2 sB hp r
  subst hw
  refine ⟨dd.typeIs, ?_⟩
  have hk : (nestedKind X.prog X.w).is s2.heap key b := ⟨dp_nest I2 key _ _ (moD hb sB) rfl, hd⟩
  rcases kv_get r key with ⟨z, _⟩ | ⟨d', a, w', g1, g2, v, rv, hv⟩
  · rw [z] at hg
    cases hg
  · rw [g1] at hg
    cases hg
    refine wpAny_getItem_heap (by show X.A.units + 1 + 8 < cLine; omega) hk dd g2 ⟨v, H2, I2.tok _, rv, q v hv⟩
/-- x[key] -/
theorem ge_dget (C : Cok X W N sc k) (i : Nat) (h : okV N sc i x = true) (hG : G[i]? = some (.ob (dictO W kvs))) (he : GE X G e key.data) (hd : key.depth ≤ 8) (hk : ∃ ks, key = .tup ks) (hg : dget kvs key = some d) (hs : NoSl e) : GE X G (.Subscript (.Name x p1) e pos) d := by
  obtain ⟨h1, h2, h3, h4⟩ := okV_of h
  have hw := C.wd
  refine ⟨fun bs B σ H S Q q => inE (pe_dgetX hw (by have := C.room.un; omega) (pe_var (i := i) (by rw [C.N]; exact h1) (C.vis x h2) h3 h4) pE hs) ?_⟩
  obtain ⟨p, e1, q0, q1, q2, xs, q3, q4⟩ := S.obj hG
  refine ⟨_, e1, he.run bs B σ H S _ fun v B1 H1 g r => ?_⟩
  subst hw
  obtain ⟨ks, rfl⟩ := hk
  obtain ⟨b, vs, rfl, hb1, hb2⟩ := dp_tup (ds := NestedKey.datas ks) r
  exact ⟨B1, p, b, kvs, xs, .tup ks, d, rfl, rfl, g.bh, g.h _ _ q3, kv_mono g.b q4, hd, r, hg, fun v hv => q v B1 H1 g hv⟩
def sDPX (W : Wd) (td ty tv : TE) : TS := fun De σ H => tv σ H fun v H1 => td σ H1 fun x H2 => ty σ H2 fun y H3 => ∃ (B : Hp) (p b : Addr) (kvs : Kvs) (xs : Ent) (key : NestedKey), x = .ref p ∧ y = .ref b ∧ Same B H3 ∧ H3 p = some (dE W p xs) ∧ Paired (KvR W.K B) kvs xs ∧ key.depth ≤ 8 ∧ Dp W.K B (.ref b) key.data ∧ xs.length < sizeLine ∧
  ∀ u, RelV v u → De.nx σ (upd H3 p (dE W p (storedH xs key b u)))
theorem ps_dputX {o i value : Expr} {pos' : Pos} {td ty tv : TE} (hw : wdOf X = W) (hu : X.A.units + 64 < cLine) (ho : PE X o td) (hi : PE X i ty) (hv : PE X value tv) (hs : swapsWith value (some (.Subscript o i pos')) pos.line X.env = pure false) :
    PS X (.Assign [.Subscript o i pos'] value pos) (sDPX W td ty tv) := by
  refine ⟨fun pins s σ H De I h => ?_⟩
  refine wpAny_Assign_Subscript (thn (hv.run pins s σ H _ I h) fun r s1 ⟨v, H1, I1, rv, q1⟩ => thn (ho.run pins s1 σ H1 _ I1 q1) fun u s2 ⟨x, H2, I2, rx, q2⟩ => thn (hi.run pins s2 σ H2 _ I2 q2) fun iv s3 ⟨y, H3, I3, ry, q3⟩ => ?_) hs
  obtain ⟨B, p, b, kvs, xs, key, rfl, rfl, sB, hp, rr, hd, hb, hz, q⟩ := q3
  obtain rfl : u = Value.ref p := rx
  obtain rfl : iv = Value.ref b := ry
  obtain ⟨h1, h2, dd⟩ := dE_of hw I3 sB hp rr
  subst hw
  have hk : (nestedKind X.prog X.w).is s3.heap key b := ⟨dp_nest I3 key _ _ (moD hb sB) rfl, hd⟩
  refine wpAny_setItem_heap (hsz := h2) (by show X.A.units + 1 + 8 < cLine; omega) hk dd fun h' dd' hs' => ⟨σ, _, ?_, q r rv⟩
  obtain ⟨o', es, ep, ho', a2, a3, a4, _, a5⟩ := dd'
  exact d_write I3 (by rw [hp]; exact True.intro) hs' ⟨o', ho'⟩ (dE_new (W := wdOf X) h1 (by have := storedH_len xs key b r; omega) ⟨o', es, ep, ho', a2, a3, a4, a5⟩)
/-- x[key] = v -/
theorem gs_dput (C : Cok X W N sc k) (i : Nat) (h : okV N sc i x = true) (hG : G[i]? = some (.ob (dictO W kvs))) (he : GE X G a key.data) (hv : GE X G v d) (hd : key.depth ≤ 8) (hk : ∃ ks, key = .tup ks) (hz : kvs.length < 16777216) (hn : E.nx (G.set i (.ob (dictO W (dput kvs key d)))))
    (hs : swapsWith v (some (.Subscript (.Name x p1) a p2)) pos.line X.env = pure false) : GS X G (.Assign [.Subscript (.Name x p1) a p2] v pos) E := by
  obtain ⟨h1, h2, h3, h4⟩ := okV_of h
  have hw := C.wd
  refine ⟨fun bs B σ H S De m => inS (ps_dputX hw (by have := C.room.un; omega) (pe_var (i := i) (by rw [C.N]; exact h1) (C.vis x h2) h3 h4) pE pE hs) ?_⟩
  refine hv.run bs B σ H S _ fun v' B1 H1 g1 r1 => ?_
  have S1 := S.gro g1
  obtain ⟨p, e1, q0, q1, q2, xs, q3, q4⟩ := S1.obj hG
  refine ⟨_, e1, he.run bs B1 σ H1 S1 _ fun w B2 H2 g2 r2 => ?_⟩
  subst hw
  obtain ⟨ks, rfl⟩ := hk
  obtain ⟨b, vs, rfl, hb1, hb2⟩ := dp_tup (ds := NestedKey.datas ks) r2
  have hl : kvs.length = xs.length := Paired.length q4
  refine ⟨B2, p, b, kvs, xs, .tup ks, rfl, rfl, g2.bh, g2.h _ _ q3, kv_mono g2.b q4, hd, r2, by rw [sizeLine_eq]; omega, fun u ru => ?_⟩
  exact m.nx _ B2 σ _ hn ((S1.gro g2).mutO hG e1 ⟨_, upd_same, kv_put (kv_mono g2.b q4) hd r2 ru (moD r1 g2.b)⟩)
/-- x = {} -/
theorem pe_dnewX (hw : wdOf X = W) : PE X (.Dict [] [] pos) (fun _ H Q => ∀ p, H p = none → Q (.ref p) (upd H p (dE W p []))) := ⟨fun pins s σ H Q I h => by
  subst hw
  exact wpAny_Dict_empty ⟨.ref s.heap.objs.size, _, I.laid (a := s.heap.objs.size) (o := dE (wdOf X) s.heap.objs.size []) (t' := s.toks) (fun _ _ q => Heap.get?_push_of_some _ q) (Nat.le_refl _)
    (dE_new (W := wdOf X) (beq_eq_false_iff_ne.mpr (Ne.symm (Nat.ne_of_lt I.big))) (Nat.zero_le _) ⟨_, #[], 0, Heap.get?_push_size _ rfl, ⟨rfl, rfl, rfl⟩, rfl, rfl, List.nodup_nil⟩), rfl, h _ (I.hok.fresh (Nat.le_refl _))⟩⟩
theorem gs_dnew (C : Cok X W N sc k) (i : Nat) (h : okL N sc i x = true) (hn : E.nx (G.set i (.ob (dictO W [])))) (hs : swapsWith (.Dict [] [] p2) (some (.Name x p1)) pos.line X.env = pure false) : GS X G (.Assign [.Name x p1] (.Dict [] [] p2) pos) E := by
  obtain ⟨h1, h2⟩ := okL_of h
  obtain ⟨l1, l2⟩ := C.loc x h2
  refine ⟨fun bs B σ H S De m => inS (ps_set (by rw [C.N]; exact C.nd) (by rw [C.N]; exact h1) l1 (pe_dnewX (W := W) C.wd) hs l2) fun p hp => ?_⟩
  have g : Grow B H B (upd H p (dE W p [])) := .own S.bh hp
  exact m.nx _ B _ _ hn (S.setO g hp rfl ⟨p, rfl, same_none S.gr.h hp, same_none S.bh hp, by rw [upd_same]; simp, [], upd_same, .nil⟩)
end
/-! ### sorted(d), {k: v} -/
mutual
theorem reads_lt {h : Heap} : ∀ {v : Value} {d : PyData} {as : List Addr}, Reads h v d as → ∀ a ∈ as, a < h.objs.size
  | _, _, _, .none, a, ha => by cases ha
  | _, _, _, .bool _, a, ha => by cases ha
  | _, _, _, .int _ _, a, ha => by cases ha
  | _, _, _, .str _ _, a, ha => by cases ha
  | _, _, _, .list h1 _ _ h4, a, ha => by
    rcases List.mem_cons.mp ha with e | e
    · subst e
      exact Heap.lt_size h1
    · exact readsAll_lt h4 a e
  | _, _, _, .tuple _ _ _ h4, a, ha => readsAll_lt h4 a ha
  | _, _, _, .dict h1 _ _ h4 h5, a, ha => by
    rcases List.mem_append.mp ha with e | e
    · rcases List.mem_cons.mp e with e | e
      · subst e
        exact Heap.lt_size h1
      · exact readsAll_lt h4 a e
    · exact readsAll_lt h5 a e
theorem readsAll_lt {h : Heap} : ∀ {vs : List Value} {ds : List PyData} {as : List Addr}, ReadsAll h vs ds as → ∀ a ∈ as, a < h.objs.size
  | _, _, _, .nil, a, ha => by cases ha
  | _, _, _, .cons h1 h2, a, ha => by
    rcases List.mem_append.mp ha with e | e
    · exact reads_lt h1 a e
    · exact readsAll_lt h2 a e
end
theorem kv_keys {K : PySem.W.Frag} {B : Hp} {kvs : Kvs} {xs : Ent} (r : Paired (KvR K B) kvs xs) : DpAll K B (xs.map fun q => V.ref q.2.1) (kvs.map fun p => p.1.data) := by
  induction r with
  | nil => exact .nil
  | cons h t ih =>
    rw [List.map_cons, List.map_cons]
    exact .cons (by rw [h.1]; exact h.2.2.1) ih
theorem vals_refs {α : Type} (f : α → Addr) : ∀ xs : List α, Vals (xs.map fun q => V.ref (f q)) (xs.map fun q => Value.ref (f q))
  | [] => .nil
  | x :: xs => .cons rfl (vals_refs f xs)
section
variable {β : Type} {enc : β → D} {X : Cx} {W : Wd}
def rSortDX (W : Wd) (enc : β → D) : List V → Hp → VK → Prop := fun vs H Q => ∃ (B : Hp) (p : Addr) (kvs : Kvs) (xs : Ent) (bs : List β), vs = [V.ref p] ∧ Same B H ∧ H p = some (dE W p xs) ∧ Paired (KvR W.K B) kvs xs ∧ (kvs.map fun p => p.1.data) = bs.map enc ∧ PySem.W.AllAlike (bs.map enc) ∧ PySem.W.Sortable (bs.map enc) ∧ (∀ b ∈ bs, (enc b).depth ≤ 60) ∧
  ∀ (ys : List V) (q : Addr), DpAll W.K B ys ((bs.mergeSort (PySem.W.dataLe false enc)).map enc) → H q = none → Q (.ref q) (upd H q (.lst ys))
theorem cr_sortDX (hw : wdOf X = W) (hc : X.calm = true) (hu : X.A.units + 64 < cLine) : CallR X (.builtin "sorted") (rSortDX W enc) := by
  intro pins s σ H vs us Q I r h
  obtain ⟨B, p, kvs, xs, bs, rfl, sB, hp, hr, hk, hal, hso, hdp, q⟩ := h
  rw [Vals.ref1 r]
  obtain ⟨h1, h2, dd⟩ := dE_of hw I sB hp hr
  obtain ⟨es, ep, raw, hs, he⟩ := dd.raw
  subst hw
  refine Calls.call_function_entry PyProof.Rows.kind_sorted PyProof.Rows.plain_sorted PyProof.Rows.entry_sorted (PyProof.Rows.args_sorted1 _) ?_
  unfold Builtin.«sorted»
  refine wpAny_bind (m := checkCount "sorted" 1 1 _) (wpAny_pure ?_)
  refine wpAny_bind (PySem.W.kdu_collect (A := X.A.in1) (PySem.KdlSrc.rawDict (es := es) (ep := ep) h1) (I.ok.hd hc) raw (by rw [hs]; exact h2) fun h' tk acc hkp hacc => ?_)
  have hL : acc.toList = xs.map fun q => Value.ref q.2.1 := by
    refine List.ext_getElem? fun j => ?_
    rw [Array.getElem?_toList, List.getElem?_map]
    by_cases hj : j < es.size
    · have hja : j < acc.size := by rw [hacc.1]; exact hj
      obtain ⟨hi, ev⟩ := hacc.2 j _ (Array.getElem?_eq_getElem hja)
      obtain ⟨y, e1, e2, _⟩ := he j hj
      rw [Array.getElem?_eq_getElem hja, e1, ev, e2]
      rfl
    · have hja : ¬ j < acc.size := by rw [hacc.1]; exact hj
      rw [Array.getElem?_eq_none (by omega), List.getElem?_eq_none (by omega)]
      rfl
  have I1 : Inv X pins σ H { s with heap := h', toks := tk } := I.kept hkp
  have hd := kv_keys hr
  rw [hk] at hd
  have rv : Vals (xs.map fun q => V.ref q.2.1) acc.toList := by
    rw [hL]
    exact vals_refs (fun q : NestedKey × Addr × Value => q.2.1) xs
  have e := eachis_of hd rv
  have hlen : bs.length = xs.length := by
    have := dpa_len hd
    rw [List.length_map, List.length_map] at this
    exact this.symm
  have hal2 : acc.toList.length = bs.length := by rw [hL, List.length_map, hlen]
  have er0 : PySem.W.EachIs (fun u b => ∃ as, Reads h' u (enc b) as) acc.toList bs := e.mono fun u b hb => by
    obtain ⟨v, r1, hv⟩ := hb
    exact Dp.reads I1 (enc b) v u (moD hv sB) r1
  refine wpAny_bind (wpAny_newList ?_ (by rw [hal2, hlen]; exact h2))
  have hoL : (h'.push (seqObj "list" acc.toList.toArray 0)).get? h'.objs.size = some (seqObj "list" acc.toList.toArray 0) := Heap.get?_push_size _ rfl
  show wpAny _ _ _ _ _ { s with heap := h'.push (seqObj "list" acc.toList.toArray 0), toks := tk }
  have er : PySem.W.EachIs (fun u b => ∃ as, Reads (h'.push (seqObj "list" acc.toList.toArray 0)) u (enc b) as ∧ h'.objs.size ∉ as) acc.toList bs := er0.mono fun u b hb => by
    obtain ⟨as, ra⟩ := hb
    exact ⟨as, PyProof.Rows.Reads.keeps (fun _ _ z => Heap.get?_push_of_some _ z) ra, fun z => absurd (reads_lt ra _ z) (Nat.lt_irrefl _)⟩
  refine wpAny_bind (wpAny_holding (PySem.W.list_sort_data (R := ItR X.K B enc) (s := { s with heap := h'.push (seqObj "list" acc.toList.toArray 0), toks := tk }) hoL e er hal hso (by rw [hlen]; exact h2) (fun b hb => by have := hdp b hb; show X.A.units + 1 + 1 + _ < cLine; omega) fun out ho hout => ?_))
  obtain ⟨ys, r2, hy⟩ := eachis_to hout
  obtain ⟨e', he'⟩ := PyProof.Rows.sortedHeap_at (vs := acc.toList) (out := out.toArray) hoL
  have hly : ys.length ≤ sizeLine := by
    rw [dpa_len hy, List.length_map, List.length_mergeSort, hlen]
    exact h2
  refine wpAny_pure ⟨_, rfl, .ref h'.objs.size, upd H h'.objs.size (.lst ys), I1.laid (t' := tk) (fun b u e => ?_) (Nat.le_refl _)
    (show ObjOk X.prog X.w _ _ _ (.lst ys) from ⟨hly, out, e', r2, he'⟩), rfl, q ys _ hy (I1.hok.fresh (Nat.le_refl _))⟩
  have hb : b < h'.objs.size := Heap.lt_size e
  rw [PyProof.Rows.sortedHeap_old (Nat.ne_of_lt hb) (by rw [size_push']; exact Nat.lt_succ_of_lt hb)]
  exact Heap.get?_push_of_some _ e
/-- sorted(x), x a dict of one's own -/
theorem go_sortedD {G : Gm} {x : Str} {N : List Str} {sc : Scope} {k i : Nat} {p pos p1 : Pos} {bs : List β} {kvs : Kvs} (C : Cok X W N sc k) (hg : glB sc "sorted" = true) (hm : W.mg "sorted" = none) (h : okV N sc i x = true) (hG : G[i]? = some (.ob (dictO W kvs))) (hk : (kvs.map fun p => p.1.data) = bs.map enc) (hal : PySem.W.AllAlike (bs.map enc)) (hso : PySem.W.Sortable (bs.map enc)) (hd : ∀ b ∈ bs, (enc b).depth ≤ 60) :
    GO X G (.Call (.Name "sorted" p) [.Name x p1] [] pos) ((bs.mergeSort (PySem.W.dataLe false enc)).map enc) := by
  have hw := C.wd
  obtain ⟨v1, v2, v3, v4⟩ := okV_of h
  refine ⟨fun bs' B σ H S Q q => inE (pe_callB (cr_sortDX (enc := enc) hw C.calm (by have := C.room.un; omega)) (C.gl _ hg).1 (by subst hw; exact hm) (by decide +kernel) (pa_cons (pe_var (i := i) (by rw [C.N]; exact v1) (C.vis x v2) v3 v4) pa_nil (star_cons rfl)) (by decide) (C.gl _ hg).2 (star_cons rfl) (star_all rfl)) ?_⟩
  obtain ⟨a, e1, q0, q1, q2, xs, q3, q4⟩ := S.obj hG
  refine ⟨_, e1, B, a, kvs, xs, bs, rfl, S.bh, q3, q4, hk, hal, hso, hd, fun ys r hy hr => ?_⟩
  subst hw
  have g : Grow B H B (upd H r (.lst ys)) := .own S.bh hr
  exact q r ys B _ g hr (same_none S.bh hr) upd_same hy
end
end DW

set_option Elab.async false
set_option linter.all false
set_option maxRecDepth 100000
set_option maxHeartbeats 4000000
set_option autoImplicit false
namespace DW
open PySem PySem.Spec PyProof.Rows L2
section
variable {X : Cx} {G : Gm} {e v a : Expr} {d : D} {W : Wd} {N : List Str} {sc : Scope} {k : Nat} {pos p1 p2 : Pos} {E : DE} {x : Str} {sts : List Stmt} {key : NestedKey}
/-- {a: v} -/
theorem pe_disp1 {tk tv : TE} (hw : wdOf X = W) (hu : X.A.units + 64 < cLine) (hk : PE X a tk) (hv : PE X v tv) :
    PE X (.Dict [some a] [v] pos) (fun σ H Q => ∀ p, H p = none → tk σ (upd H p (dE W p [])) fun y H1 => tv σ H1 fun z H2 => ∃ (B : Hp) (b : Addr) (key : NestedKey), y = .ref b ∧ Same B H2 ∧ H2 p = some (dE W p []) ∧ Dp W.K B (.ref b) key.data ∧ key.depth ≤ 8 ∧ ∀ u, RelV z u → Q (.ref p) (upd H2 p (dE W p [(key, b, u)]))) := by
  subst hw
  refine ⟨fun pins s σ H Q I q => ?_⟩
  have hn := I.hok.fresh (Nat.le_refl s.heap.objs.size)
  have hb0 : (s.heap.objs.size == sysModules) = false := beq_eq_false_iff_ne.mpr (Ne.symm (Nat.ne_of_lt I.big))
  have I1 := I.laid (a := s.heap.objs.size) (o := dE (wdOf X) s.heap.objs.size []) (h' := s.heap.push { cls := .type "dict", data := .dict #[] }) (t' := s.toks) (fun _ _ q => Heap.get?_push_of_some _ q) (Nat.le_refl _)
    (dE_new (W := wdOf X) hb0 (Nat.zero_le _) ⟨_, #[], 0, Heap.get?_push_size _ rfl, ⟨rfl, rfl, rfl⟩, rfl, rfl, List.nodup_nil⟩)
  have hsh := zip_pairTrees [some a] [v] X.env pos rfl rfl
  have q' := q _ hn
  rw [arm_eval_Dict, hsh, dictDisplay_pairs (pairTrees [some a] [v] X.env pos) (by simp [pairTrees]) (by simp [pairTrees])]
  refine wpAny_bind (wpAny_standAt (wpAny_bind (wpAny_subDictH (knd := nestedKind X.prog X.w) (by show X.A.units + 8 < cLine; omega) (by simp [pairTrees]) ?_)))
  refine thn ((pps_cons hk hv pps_nil).run pins _ σ _ (fun ps H2 => match ps with
    | [(y, z)] => ∃ (B : Hp) (b : Addr) (key : NestedKey), y = .ref b ∧ Same B H2 ∧ H2 s.heap.objs.size = some (dE (wdOf X) s.heap.objs.size []) ∧ Dp X.K B (.ref b) key.data ∧ key.depth ≤ 8 ∧ ∀ u, RelV z u → Q (.ref s.heap.objs.size) (upd H2 s.heap.objs.size (dE (wdOf X) s.heap.objs.size [(key, b, u)]))
    | _ => False) I1 q') fun ws s2 ⟨ps, H2, I2, rel, q2⟩ => ?_
  rcases ps with _ | ⟨⟨y, z⟩, _ | ⟨_, _⟩⟩
  · exact q2.elim
  · obtain ⟨B, b, key, ey, sB, hp, hb, hd, q2⟩ := q2
    subst ey
    rcases ws with _ | ⟨⟨ka, va⟩, _ | ⟨_, _⟩⟩
    · cases rel
    · have r1 : RelV (V.ref b) ka ∧ RelV z va := by
        cases rel with
        | cons r1 _ => exact r1
      obtain ⟨r3, r4⟩ := r1
      obtain rfl : ka = Value.ref b := r3
      obtain ⟨z1, z2, dd⟩ := dE_of (kvs := []) rfl I2 sB hp .nil
      refine ⟨[(key, b, va)], ⟨rfl, rfl, ⟨dp_nest I2 key _ _ (moD hb sB) rfl, hd⟩, trivial⟩, dd, fun h' tk dd' hs => wpAny_pure ?_⟩
      have e1 : storedAllH ([] : Ent) [(key, b, va)] = [(key, b, va)] := by simp [storedAllH, storedH, atKey]
      rw [e1] at dd'
      obtain ⟨o', es, ep, ho', a2, a3, a4, _, a5⟩ := dd'
      have hl1 : ([(key, b, va)] : Ent).length ≤ sizeLine := by
        rw [sizeLine_eq, List.length_cons, List.length_nil]
        omega
      refine ⟨.ref s.heap.objs.size, _, d_write I2 (by rw [hp]; exact True.intro) hs ⟨o', ho'⟩ (dE_new (W := wdOf X) (xs := [(key, b, va)]) z1 hl1 ⟨o', es, ep, ho', a2, a3, a4, a5⟩), rfl, q2 va r4⟩
    · cases rel with
      | cons _ r => cases r
  · exact q2.elim
/-- x = {a: v} -/
theorem gs_dnew1 (C : Cok X W N sc k) (i : Nat) (h : okL N sc i x = true) (ha : GE X G a key.data) (hv : GE X G v d) (hd : key.depth ≤ 8) (hk : ∃ ks, key = .tup ks) (hn : E.nx (G.set i (.ob (dictO W [(key, d)])))) (hs : swapsWith (.Dict [some a] [v] p2) (some (.Name x p1)) pos.line X.env = pure false) : GS X G (.Assign [.Name x p1] (.Dict [some a] [v] p2) pos) E := by
  obtain ⟨h1, h2⟩ := okL_of h
  obtain ⟨l1, l2⟩ := C.loc x h2
  have hw := C.wd
  refine ⟨fun bs B σ H S De m => inS (ps_set (by rw [C.N]; exact C.nd) (by rw [C.N]; exact h1) l1 (pe_disp1 (W := W) hw (by have := C.room.un; omega) pE pE) hs l2) fun p hp => ?_⟩
  have g : Grow B H B (upd H p (dE W p [])) := .own S.bh hp
  have bp : B p = none := same_none S.bh hp
  refine ha.run bs B σ _ (S.gro g) _ fun y B1 H1 g1 r1 => hv.run bs B1 σ H1 ((S.gro g).gro g1) _ fun z B2 H2 g2 r2 => ?_
  obtain ⟨ks, rfl⟩ := hk
  obtain ⟨b, vs, rfl, hb1, hb2⟩ := dp_tup (ds := NestedKey.datas ks) r1
  subst hw
  have hp1 : H1 p = some (dE (wdOf X) p []) := g1.h _ _ upd_same
  have hp2 : H2 p = some (dE (wdOf X) p []) := g2.h _ _ hp1
  have b1 : B1 p = none := g1.n p (by rw [upd_same]; simp) bp
  have b2 : B2 p = none := g2.n p (by rw [hp1]; simp) b1
  refine ⟨B2, b, .tup ks, rfl, g2.bh, hp2, moD r1 g2.b, hd, fun u ru => ?_⟩
  have gA := g.trans (g1.trans g2)
  have gF : Grow B H B2 (upd H2 p (dE (wdOf X) p [(.tup ks, b, u)])) := ⟨gA.b, fun c o zz => by
    rw [upd_ne (ne_of_none zz hp)]
    exact gA.h c o zz, same_out g2.bh b2, gA.n⟩
  exact m.nx _ B2 _ _ hn (S.setO gF hp rfl ⟨p, rfl, same_none S.gr.h hp, b2, by rw [upd_same]; simp, [(.tup ks, b, u)], upd_same, .cons ⟨rfl, hd, moD r1 g2.b, z, ru, r2⟩ .nil⟩)
theorem gss_dnew1 (C : Cok X W N sc k) (i : Nat) (h : okL N sc i x = true) (ha : GE X G a key.data) (hv : GE X G v d) (hd : key.depth ≤ 8) (hk : ∃ ks, key = .tup ks) (hn : GSs X (G.set i (.ob (dictO W [(key, d)]))) sts E) (hs : swapsWith (.Dict [some a] [v] p2) (some (.Name x p1)) pos.line X.env = pure false) : GSs X G (.Assign [.Name x p1] (.Dict [some a] [v] p2) pos :: sts) E := gs_cons (gs_dnew1 C i h ha hv hd hk hn hs)
theorem gss_dnew (C : Cok X W N sc k) (i : Nat) (h : okL N sc i x = true) (hn : GSs X (G.set i (.ob (dictO W []))) sts E) (hs : swapsWith (.Dict [] [] p2) (some (.Name x p1)) pos.line X.env = pure false) : GSs X G (.Assign [.Name x p1] (.Dict [] [] p2) pos :: sts) E := gs_cons (gs_dnew C i h hn hs)
theorem gss_dput {kvs : Kvs} (C : Cok X W N sc k) (i : Nat) (h : okV N sc i x = true) (hG : G[i]? = some (.ob (dictO W kvs))) (he : GE X G a key.data) (hv : GE X G v d) (hd : key.depth ≤ 8) (hk : ∃ ks, key = .tup ks) (hz : kvs.length < 16777216) (hn : GSs X (G.set i (.ob (dictO W (dput kvs key d)))) sts E)
    (hs : swapsWith v (some (.Subscript (.Name x p1) a p2)) pos.line X.env = pure false) : GSs X G (.Assign [.Subscript (.Name x p1) a p2] v pos :: sts) E := gs_cons (gs_dput C i h hG he hv hd hk hz hn hs)
end
end DW

set_option Elab.async false
set_option linter.all false
set_option maxRecDepth 100000
set_option maxHeartbeats 4000000
set_option autoImplicit false
namespace DW
open PySem PySem.Spec PyProof.Rows L2
/-! ### values in an order -/
class EnO (α : Type) [DecidableEq α] [En α] where
  lt : α → α → Bool
  dlt : ∀ a b : α, PySem.W.dataLt (En.en a) (En.en b) = lt a b
  alk : ∀ a b : α, PySem.W.alike (En.en a) (En.en b) = true
  asy : ∀ a b : α, lt a b = true → lt b a = true → False
  tr : ∀ a b c : α, lt a b = true → lt b c = true → lt a c = true
  tot : ∀ a b : α, lt a b = true ∨ a = b ∨ lt b a = true
  top : (∀ b : α, ∃ x r, En.en b = .tuple (x :: r)) ∨ ∀ b : α, En.en b ≠ .none ∧ ∀ xs, En.en b ≠ .tuple xs
instance : EnO Int where
  lt a b := decide (a < b)
  dlt a b := PySem.W.dataLt_int a b
  alk a b := by simp [En.en, PySem.W.alike]
  asy a b h g := by
    have := of_decide_eq_true h
    have := of_decide_eq_true g
    omega
  tr a b c h g := by
    have := of_decide_eq_true h
    have := of_decide_eq_true g
    exact decide_eq_true (by omega)
  tot a b := by
    rcases Int.lt_trichotomy a b with h | h | h
    · exact .inl (decide_eq_true h)
    · exact .inr (.inl h)
    · exact .inr (.inr (decide_eq_true h))
  top := .inr fun b => ⟨(fun h => nomatch h), (fun xs h => nomatch h)⟩
theorem dlt_tup_ints (xs ys : List Int) : PySem.W.dataLt (.tuple (xs.map .int)) (.tuple (ys.map .int)) = decide (xs < ys) := by
  rw [PySem.W.dataLt_tuple]
  exact PySem.W.dataLt_ints xs ys
def ltP (u v : P3) : Bool := decide (u.x < v.x ∨ (u.x = v.x ∧ (u.y < v.y ∨ (u.y = v.y ∧ u.z < v.z))))
def ltPl (p q : Pl) : Bool := decide (p.n.x < q.n.x ∨ (p.n.x = q.n.x ∧ (p.n.y < q.n.y ∨ (p.n.y = q.n.y ∧ (p.n.z < q.n.z ∨ (p.n.z = q.n.z ∧ p.d < q.d))))))
theorem dlt_p3 (u v : P3) : PySem.W.dataLt u.en v.en = ltP u v := by
  have h := dlt_tup_ints [u.x, u.y, u.z] [v.x, v.y, v.z]
  refine h.trans ?_
  unfold ltP
  rw [Bool.eq_iff_iff, decide_eq_true_eq, decide_eq_true_eq]
  simp only [List.cons_lt_cons_iff]
  have : ¬ ([] : List Int) < [] := by simp
  simp only [this, and_false, or_false]
theorem dlt_pl (u v : Pl) : PySem.W.dataLt u.en v.en = ltPl u v := by
  have h := dlt_tup_ints [u.n.x, u.n.y, u.n.z, u.d] [v.n.x, v.n.y, v.n.z, v.d]
  refine h.trans ?_
  unfold ltPl
  rw [Bool.eq_iff_iff, decide_eq_true_eq, decide_eq_true_eq]
  simp only [List.cons_lt_cons_iff]
  have : ¬ ([] : List Int) < [] := by simp
  simp only [this, and_false, or_false]
instance : EnO P3 where
  lt := ltP
  dlt := dlt_p3
  alk := alike_p3
  asy a b h g := by
    have := of_decide_eq_true h
    have := of_decide_eq_true g
    omega
  tr a b c h g := by
    have := of_decide_eq_true h
    have := of_decide_eq_true g
    exact decide_eq_true (by omega)
  tot a b := by
    by_cases h : a = b
    · exact .inr (.inl h)
    · have : ¬ (a.x = b.x ∧ a.y = b.y ∧ a.z = b.z) := fun ⟨h1, h2, h3⟩ => h (by
        obtain ⟨x, y, z⟩ := a
        obtain ⟨x', y', z'⟩ := b
        simp only at h1 h2 h3
        rw [h1, h2, h3])
      by_cases g : ltP a b = true
      · exact .inl g
      · have g := of_decide_eq_false (Bool.not_eq_true _ ▸ g)
        exact .inr (.inr (decide_eq_true (by omega)))
  top := .inl fun b => ⟨_, _, rfl⟩
instance : EnO Pl where
  lt := ltPl
  dlt := dlt_pl
  alk u v := PySem.W.alike_ints [u.n.x, u.n.y, u.n.z, u.d] [v.n.x, v.n.y, v.n.z, v.d]
  asy a b h g := by
    have := of_decide_eq_true h
    have := of_decide_eq_true g
    omega
  tr a b c h g := by
    have := of_decide_eq_true h
    have := of_decide_eq_true g
    exact decide_eq_true (by omega)
  tot a b := by
    by_cases h : a = b
    · exact .inr (.inl h)
    · have : ¬ (a.n.x = b.n.x ∧ a.n.y = b.n.y ∧ a.n.z = b.n.z ∧ a.d = b.d) := fun ⟨h1, h2, h3, h4⟩ => h (by
        obtain ⟨⟨x, y, z⟩, d⟩ := a
        obtain ⟨⟨x', y', z'⟩, d'⟩ := b
        simp only at h1 h2 h3 h4
        rw [h1, h2, h3, h4])
      by_cases g : ltPl a b = true
      · exact .inl g
      · have g := of_decide_eq_false (Bool.not_eq_true _ ▸ g)
        exact .inr (.inr (decide_eq_true (by omega)))
  top := .inl fun b => ⟨_, _, rfl⟩
section
variable {α β : Type} [DecidableEq α] [En α] [EnO α] [DecidableEq β] [En β] [EnO β]
instance : EnO (α × β) where
  lt p q := if p.1 = q.1 then EnO.lt p.2 q.2 else EnO.lt p.1 q.1
  dlt p q := by
    show PySem.W.dataLt (.tuple [En.en p.1, En.en p.2]) (.tuple [En.en q.1, En.en q.2]) = _
    rw [PySem.W.dataLt_pair (EnO.alk _ _) (EnO.alk _ _), En.eqv, En.eqv, EnO.dlt, EnO.dlt]
    by_cases h : p.1 = q.1
    · rw [decide_eq_true h, if_pos rfl, if_pos h]
      by_cases h2 : p.2 = q.2
      · rw [decide_eq_true h2, if_pos rfl, h2]
        cases e : EnO.lt q.2 q.2 with
        | false => rfl
        | true => exact (EnO.asy _ _ e e).elim
      · rw [decide_eq_false h2, if_neg (by decide)]
    · rw [decide_eq_false h, if_neg (by decide), if_neg h]
  alk p q := by
    show PySem.W.alike (.tuple [En.en p.1, En.en p.2]) (.tuple [En.en q.1, En.en q.2]) = true
    simp only [PySem.W.alike, PySem.W.alikeAll, EnO.alk, Bool.and_self]
  asy p q h g := by
    by_cases e : p.1 = q.1
    · rw [if_pos e] at h
      rw [if_pos e.symm] at g
      exact EnO.asy _ _ h g
    · rw [if_neg e] at h
      rw [if_neg (fun z => e z.symm)] at g
      exact EnO.asy _ _ h g
  tr p q r h g := by
    by_cases e : p.1 = q.1
    · rw [if_pos e] at h
      by_cases e2 : q.1 = r.1
      · rw [if_pos e2] at g
        rw [if_pos (e.trans e2)]
        exact EnO.tr _ _ _ h g
      · rw [if_neg e2] at g
        rw [if_neg (fun z => e2 (e.symm.trans z)), e]
        exact g
    · rw [if_neg e] at h
      by_cases e2 : q.1 = r.1
      · rw [if_neg (fun z => e (z.trans e2.symm)), ← e2]
        exact h
      · rw [if_neg e2] at g
        have t := EnO.tr _ _ _ h g
        by_cases e3 : p.1 = r.1
        · rw [e3] at h
          exact (EnO.asy _ _ h g).elim
        · rw [if_neg e3]
          exact t
  tot p q := by
    by_cases e : p.1 = q.1
    · rcases EnO.tot p.2 q.2 with h | h | h
      · exact .inl (by rw [if_pos e]; exact h)
      · exact .inr (.inl (Prod.ext e h))
      · exact .inr (.inr (by rw [if_pos e.symm]; exact h))
    · rcases EnO.tot p.1 q.1 with h | h | h
      · exact .inl (by rw [if_neg e]; exact h)
      · exact (e h).elim
      · exact .inr (.inr (by rw [if_neg (fun z => e z.symm)]; exact h))
  top := .inl fun b => ⟨_, _, rfl⟩
def leE (a b : α) : Bool := !EnO.lt b a
def sortE (us : List α) : List α := us.mergeSort leE
theorem leE_data : (PySem.W.dataLe false (En.en (α := α))) = leE := by
  funext a b
  show (!PySem.W.dataLt (En.en b) (En.en a)) = _
  rw [EnO.dlt]
  rfl
theorem leE_trans (a b c : α) (h : leE a b = true) (g : leE b c = true) : leE a c = true := by
  unfold leE at *
  rw [Bool.not_eq_true'] at *
  cases e : EnO.lt c a with
  | false => rfl
  | true =>
    rcases EnO.tot b c with x | x | x
    · have := EnO.tr _ _ _ x e
      rw [this] at h
      cases h
    · subst x
      rw [e] at h
      cases h
    · rw [x] at g
      cases g
theorem leE_total (a b : α) : (leE a b || leE b a) = true := by
  unfold leE
  cases e : EnO.lt b a with
  | false => rfl
  | true =>
    cases e2 : EnO.lt a b with
    | false => rfl
    | true => exact (EnO.asy _ _ e e2).elim
theorem sortE_perm (us : List α) : (sortE us).Perm us := List.mergeSort_perm us leE
theorem sortE_sorted (us : List α) : (sortE us).Pairwise fun a b => leE a b = true := List.pairwise_mergeSort leE_trans leE_total us
theorem sortE_lt {us : List α} (h : us.Nodup) : (sortE us).Pairwise fun a b => EnO.lt a b = true := by
  have nd : (sortE us).Nodup := (sortE_perm us).nodup_iff.mpr h
  refine List.Pairwise.imp₂ (fun a b h1 h2 => ?_) (sortE_sorted us) (List.nodup_iff_pairwise_ne.mp nd)
  rcases EnO.tot a b with x | x | x
  · exact x
  · exact (h2 x).elim
  · unfold leE at h1
    rw [x] at h1
    cases h1
theorem sortE_mem {us : List α} {a : α} : a ∈ sortE us ↔ a ∈ us := (sortE_perm us).mem_iff
theorem sortE_len (us : List α) : (sortE us).length = us.length := (sortE_perm us).length_eq
theorem go_sortE {X : Cx} {G : Gm} {e : Expr} {W : Wd} {N : List Str} {sc : Scope} {k : Nat} {p pos : Pos} {us : List α} (C : Cok X W N sc k) (hg : glB sc "sorted" = true) (hm : W.mg "sorted" = none) (ha : GL X G e (us.map En.en)) (hL : us.length ≤ 16777216) (hd : En.dp α ≤ 60) (he : nst e = true) :
    GO X G (.Call (.Name "sorted" p) [e] [] pos) ((sortE us).map En.en) := by
  have h := go_sorted (enc := En.en (α := α)) (p := p) (pos := pos) C hg hm ha (.of EnO.alk) (by
    rcases EnO.top (α := α) with t | t
    · exact .tuples t
    · exact .others t) hL (fun b _ => Nat.le_trans (En.dle b) hd) he
  rw [leE_data] at h
  exact h
/-! ### the least and the greatest of a list -/
def minE (x : α) (xs : List α) : α := xs.foldl (fun a y => if EnO.lt y a then y else a) x
def maxE (x : α) (xs : List α) : α := xs.foldl (fun a y => if EnO.lt a y then y else a) x
theorem minD_en (x : α) (xs : List α) : PySem.W.minD (En.en x) (xs.map En.en) = En.en (minE x xs) := by
  unfold PySem.W.minD minE
  induction xs generalizing x with
  | nil => rfl
  | cons y xs ih =>
    rw [List.map_cons, List.foldl_cons, List.foldl_cons, ← ih, EnO.dlt]
    congr 1
    split <;> rfl
theorem maxD_en (x : α) (xs : List α) : PySem.W.maxD (En.en x) (xs.map En.en) = En.en (maxE x xs) := by
  unfold PySem.W.maxD maxE
  induction xs generalizing x with
  | nil => rfl
  | cons y xs ih =>
    rw [List.map_cons, List.foldl_cons, List.foldl_cons, ← ih, EnO.dlt]
    congr 1
    split <;> rfl
end
def rMnD (K : PySem.W.Frag) (f : D → List D → D) : List V → Hp → VK → Prop := fun vs H Q => ∃ (B : Hp) (a : Addr) (us : List V) (x : D) (xs : List D), vs = [V.ref a] ∧ Same B H ∧ SqL K H a us ∧ DpAll K B us (x :: xs) ∧ PySem.W.AlikeAll (x :: xs) ∧ (∀ d ∈ x :: xs, d.canLay0 = true) ∧ PyData.depthAll (x :: xs) ≤ 60 ∧ ∀ v, Dp K B v (f x xs) → Q v H
theorem minmax_at {X : Cx} {pins : List (Addr × Obj)} {σ : L2.St} {H B : Hp} {s : Shared} {us : List V} {its : List Value} {ds : List D} {v : Value} {h' : Heap} {tk : Nat} {i : Nat} {d : D} {bs : List Addr} (I : Inv X pins σ H s) (sB : Same B H) (h : DpAll X.K B us ds) (r : Vals us its) (hk : ∀ b o, s.heap.get? b = some o → h'.get? b = some o) (hi : its[i]? = some v) (hr : Reads h' v d bs) (hc : ∀ d ∈ ds, d.canLay0 = true) :
    ∃ u, RelV u v ∧ Dp X.K B u d ∧ Inv X pins σ H { s with heap := h', toks := tk } := by
  have I1 : Inv X pins σ H { s with heap := h', toks := tk } := I.kept hk
  have hl := r.length
  have hi2 : i < us.length := by
    have := (List.getElem?_eq_some_iff.mp hi).1
    omega
  obtain ⟨e, h1, h2⟩ := dpa_getV h (List.getElem?_eq_getElem hi2)
  have rv : RelV us[i] v := by
    have : ∀ {us : List V} {its : List Value} {i : Nat} {u : V} {v : Value}, Vals us its → us[i]? = some u → its[i]? = some v → RelV u v := by
      intro us its i u v r
      induction r generalizing i with
      | nil => intro a _; simp at a
      | cons r1 t ih =>
        intro a b
        cases i with
        | zero =>
          cases a
          cases b
          exact r1
        | succ i => exact ih (by simpa using a) (by simpa using b)
    exact this r (List.getElem?_eq_getElem hi2) hi
  obtain ⟨as, q⟩ := Dp.reads I1 e us[i] v (moD h2 sB) rv
  have : e = d := (PySem.Reads.unique q d bs hr).1
  exact ⟨us[i], rv, this ▸ h2, I1⟩
theorem cr_minD {X : Cx} (hc : X.calm = true) (hu : X.A.units + 64 < cLine) : CallR X (.builtin "min") (rMnD X.K PySem.W.minD) := by
  intro pins s σ H vs us' Q I r h
  obtain ⟨B, a, us, x, xs, rfl, sB, hs, hd, hal, hcl, hdp, q⟩ := h
  obtain ⟨its, rv, hl, _⟩ := I.list hs
  rw [Vals.ref1 r]
  obtain ⟨as, hr⟩ := Dp.readsAll I _ _ _ (moA hd sB) rv
  refine PySem.W.min_list_data (I.ok.hd hc) hl.isList (by simpa using hr) hal (by show X.A.units + 1 + _ < cLine; omega) fun i v h' tk bs hi hr' hk => ?_
  obtain ⟨u, r1, r2, I1⟩ := minmax_at (tk := tk) I sB hd rv hk (by simpa using hi) hr' hcl
  exact ⟨u, H, I1, r1, q u r2⟩
theorem cr_maxD {X : Cx} (hc : X.calm = true) (hu : X.A.units + 64 < cLine) : CallR X (.builtin "max") (rMnD X.K PySem.W.maxD) := by
  intro pins s σ H vs us' Q I r h
  obtain ⟨B, a, us, x, xs, rfl, sB, hs, hd, hal, hcl, hdp, q⟩ := h
  obtain ⟨its, rv, hl, _⟩ := I.list hs
  rw [Vals.ref1 r]
  obtain ⟨as, hr⟩ := Dp.readsAll I _ _ _ (moA hd sB) rv
  refine PySem.W.max_list_data (I.ok.hd hc) hl.isList (by simpa using hr) hal (by show X.A.units + 1 + _ < cLine; omega) fun i v h' tk bs hi hr' hk => ?_
  obtain ⟨u, r1, r2, I1⟩ := minmax_at (tk := tk) I sB hd rv hk (by simpa using hi) hr' hcl
  exact ⟨u, H, I1, r1, q u r2⟩
section
variable {α : Type} [DecidableEq α] [En α] [EnO α] {X : Cx} {G : Gm} {e : Expr} {W : Wd} {N : List Str} {sc : Scope} {k : Nat} {p pos : Pos}
theorem ge_minE {x : α} {xs : List α} (C : Cok X W N sc k) (hg : glB sc "min" = true) (hm : W.mg "min" = none) (ha : GL X G e ((x :: xs).map En.en)) (hd : En.dp α ≤ 60) (he : nst e = true) : GE X G (.Call (.Name "min" p) [e] [] pos) (En.en (minE x xs)) := by
  have hw := C.wd
  subst hw
  refine ⟨fun bs B σ H S Q q => inE (pe_callB (cr_minD C.calm (by have := C.room.un; omega)) (C.gl _ hg).1 hm (by decide +kernel) (pa_cons pE pa_nil (star_cons he)) (by decide) (C.gl _ hg).2 (star_cons he) (star_all rfl)) (ha.run bs B σ H S _ fun a vs B1 H1 g1 r1 r2 => ?_)⟩
  refine ⟨B1, a, vs, En.en x, xs.map En.en, rfl, g1.bh, r1, r2, ⟨fun d hd2 d' hd3 => ?_, fun d hd2 => ?_⟩, fun d hd2 => ?_, ?_, fun v hv => ?_⟩
  · obtain ⟨b, _, rfl⟩ := List.mem_map.mp (show d ∈ (x :: xs).map En.en from hd2)
    obtain ⟨b', _, rfl⟩ := List.mem_map.mp (show d' ∈ (x :: xs).map En.en from hd3)
    exact EnO.alk b b'
  · obtain ⟨b, _, rfl⟩ := List.mem_map.mp (show d ∈ (x :: xs).map En.en from hd2)
    rcases EnO.top (α := α) with t | t
    · obtain ⟨y, r, e⟩ := t b
      rw [e]
      intro z
      cases z
    · exact (t b).1
  · obtain ⟨b, _, rfl⟩ := List.mem_map.mp (show d ∈ (x :: xs).map En.en from hd2)
    exact En.lay b
  · exact Nat.le_trans (depth_map (x :: xs)) hd
  · rw [minD_en] at hv
    exact q v B1 H1 g1 hv
theorem ge_maxE {x : α} {xs : List α} (C : Cok X W N sc k) (hg : glB sc "max" = true) (hm : W.mg "max" = none) (ha : GL X G e ((x :: xs).map En.en)) (hd : En.dp α ≤ 60) (he : nst e = true) : GE X G (.Call (.Name "max" p) [e] [] pos) (En.en (maxE x xs)) := by
  have hw := C.wd
  subst hw
  refine ⟨fun bs B σ H S Q q => inE (pe_callB (cr_maxD C.calm (by have := C.room.un; omega)) (C.gl _ hg).1 hm (by decide +kernel) (pa_cons pE pa_nil (star_cons he)) (by decide) (C.gl _ hg).2 (star_cons he) (star_all rfl)) (ha.run bs B σ H S _ fun a vs B1 H1 g1 r1 r2 => ?_)⟩
  refine ⟨B1, a, vs, En.en x, xs.map En.en, rfl, g1.bh, r1, r2, ⟨fun d hd2 d' hd3 => ?_, fun d hd2 => ?_⟩, fun d hd2 => ?_, ?_, fun v hv => ?_⟩
  · obtain ⟨b, _, rfl⟩ := List.mem_map.mp (show d ∈ (x :: xs).map En.en from hd2)
    obtain ⟨b', _, rfl⟩ := List.mem_map.mp (show d' ∈ (x :: xs).map En.en from hd3)
    exact EnO.alk b b'
  · obtain ⟨b, _, rfl⟩ := List.mem_map.mp (show d ∈ (x :: xs).map En.en from hd2)
    rcases EnO.top (α := α) with t | t
    · obtain ⟨y, r, e⟩ := t b
      rw [e]
      intro z
      cases z
    · exact (t b).1
  · obtain ⟨b, _, rfl⟩ := List.mem_map.mp (show d ∈ (x :: xs).map En.en from hd2)
    exact En.lay b
  · exact Nat.le_trans (depth_map (x :: xs)) hd
  · rw [maxD_en] at hv
    exact q v B1 H1 g1 hv
end
end DW

set_option Elab.async false
set_option linter.all false
set_option maxRecDepth 100000
set_option maxHeartbeats 4000000
set_option autoImplicit false
namespace DW
open PySem PySem.Spec PyProof.Rows L2
/-! ### sets of tuples of whole numbers, made of lists of any length -/
abbrev TK := Addr × List Int
/-- what a set has of the first i items -/
structure Coll (ks : List TK) (i : Nat) (L : List TK) : Prop where
  sub : ∀ p ∈ L, p ∈ ks
  all : ∀ p ∈ ks.take i, p.2 ∈ L.map (·.2)
theorem Coll.stay {ks L : List TK} {i : Nat} {x : TK} (g : Coll ks i L) (h : ks[i]? = some x) (hm : x.2 ∈ L.map (·.2)) : Coll ks (i + 1) L := by
  refine ⟨g.sub, fun p hp => ?_⟩
  rw [List.take_add_one, h] at hp
  rcases List.mem_append.mp hp with q | q
  · exact g.all p q
  · cases List.mem_singleton.mp q
    exact hm
theorem Coll.grow {ks L L' : List TK} {i : Nat} {x : TK} (g : Coll ks i L) (h : ks[i]? = some x) (pm : L'.Perm (x :: L)) : Coll ks (i + 1) L' := by
  refine ⟨fun p hp => ?_, fun p hp => ?_⟩
  · rcases List.mem_cons.mp (pm.mem_iff.mp hp) with q | q
    · exact q ▸ List.mem_of_getElem? h
    · exact g.sub p q
  · refine (pm.map (·.2)).mem_iff.mpr ?_
    rw [List.take_add_one, h] at hp
    rcases List.mem_append.mp hp with q | q
    · exact List.mem_cons_of_mem _ (g.all p q)
    · cases List.mem_singleton.mp q
      exact List.mem_cons_self
def Old (h0 : Heap) (s : Shared) : Prop := ∀ b o, h0.get? b = some o → s.heap.get? b = some o
section
variable {P : Program} {w : World} {A : Around} {E : Value → Shared → Prop} {s : Shared}
theorem few_of {h : Heap} {a : Addr} {ks L : List TK} {es : Array (Int × Value)} {ep : Nat} {t : SetTable} {i : Nat} {dom : List (List Int)} (R : SetTR P w h a L es ep t) (g : Coll ks i L) (hd : ∀ p ∈ ks, p.2 ∈ dom) : L.length ≤ dom.length := by
  have := List.Nodup.length_le_of_subset R.nd (l₂ := dom) fun k hk => by
    obtain ⟨p, hp, rfl⟩ := List.mem_map.mp hk
    exact hd p (g.sub p hp)
  rwa [List.length_map] at this
theorem set_fill {I S : Addr} {fp wr : List Addr} {G : Array GenState → Array GenState → Prop} {n : Nat} {Pv : Nat → Value → Prop} {St : Nat → Shared → Prop} {R : Result → Shared → Prop} (W : WalksS P w A.in1 I fp wr G n Pv St) (hSf : S ∉ fp)
    (ks : List TK) (dom : List (List Int)) (hn : n = ks.length) (hdom : ∀ p ∈ ks, p.2 ∈ dom) (h62 : dom.length ≤ 62) (hval : ∀ i v, Pv i v → ∃ p, ks[i]? = some p ∧ v = .ref p.1)
    (h0 : Heap) (hks : ∀ p ∈ ks, IsT P w h0 p.2 p.1) (hS0 : h0.get? S = none) (hw0 : ∀ b ∈ wr, h0.get? b = none) (hroom : A.in1.units < cLine) : ∀ (m i : Nat) (s1 : Shared), i + m = n → St i s1 → Old h0 s1 → (∃ L es ep t, SetTR P w s1.heap S L es ep t ∧ Coll ks i L) →
      (∀ s2 L es ep t, Moved (S :: wr) G s1 s2 → SetTR P w s2.heap S L es ep t → Coll ks n L → Old h0 s2 → R (.ok (.ret .none)) s2) → codeAny (model P w) A (.builtin "set.update.loop" ⟨[.ref S, .ref I], []⟩) R s1 := by
  have nw : S ∉ wr := fun z => hSf (W.sub _ z)
  have up : ∀ b ∈ wr, b ∈ S :: wr := fun b z => List.mem_cons_of_mem _ z
  have old2 : ∀ {x y : Shared}, Moved wr G x y → Old h0 x → Old h0 y := fun mv ox b o e => mv.heap b o (fun z => by
    rw [hw0 b z] at e
    cases e) (ox b o e)
  intro m
  induction m with
  | zero =>
    intro i s1 him st ox ⟨L, es, ep, t, hL, g⟩ done
    have hin : n = i := him.symm
    refine codeAny_builtin F.entry_set_update_loop ?_
    rw [Around.under_plainId F.plain_set_update_loop _]
    show wpAny _ A.in1 (do let o ← pyNext (.ref I); _) _ _ s1
    refine wpAny_bind (W.done s1 _ _ (hin ▸ st) fun s2 mv => ?_)
    have oy := old2 mv ox
    exact wpAny_pure (done s2 L es ep t (mv.mono up) (hL.keep (fun o e => mv.heap S o nw e) fun p hp => isT_keep (hks p (g.sub p hp)) oy) (hin ▸ g) oy)
  | succ m ih =>
    intro i s1 him st ox ⟨L, es, ep, t, hL, g⟩ done
    have lt : i < n := by omega
    refine codeAny_builtin F.entry_set_update_loop ?_
    rw [Around.under_plainId F.plain_set_update_loop _]
    show wpAny _ A.in1 (do let o ← pyNext (.ref I); _) _ _ s1
    refine wpAny_bind (W.item i s1 _ _ lt st fun v s2 pv st2 mv => ?_)
    obtain ⟨p, hp, rfl⟩ := hval i v pv
    have oy := old2 mv ox
    have hL2 : SetTR P w s2.heap S L es ep t := hL.keep (fun o e => mv.heap S o nw e) fun q hq => isT_keep (hks q (g.sub q hq)) oy
    have key : IsT P w s2.heap p.2 p.1 := isT_keep (hks p (List.mem_of_getElem? hp)) oy
    show wpAny _ A.in1 (do let b ← holding [Value.ref p.1] (setAdd S (.ref p.1)); _) _ _ s2
    refine wpAny_bind (wpAny_holding ?_)
    unfold setAdd
    refine wpAny_holding ?_
    refine wpAny_bind (wpAny_pyHash_tuple hroom key ?_)
    have few := few_of hL2 g hdom
    refine add_at (s := { s2 with toks := s2.toks + (p.2.length + 1) }) hL2 key hroom (by omega) fun b h3 L3 es3 ep3 t3 sb hL3 c1 c2 => ?_
    have g3 : Coll ks (i + 1) L3 := by
      by_cases c : p.2 ∈ L.map (·.2)
      · rw [c1 c]
        exact g.stay hp c
      · exact g.grow hp (c2 c)
    have oz : ∀ b o, h0.get? b = some o → h3.get? b = some o := fun b o e => (sb.2 b fun z => by
      rw [z, hS0] at e
      cases e).trans (oy b o e)
    refine wpAny_pure ⟨plainId_quiet F.plain_set_update_loop _, ih (i + 1) _ (by omega) (W.frame _ s2 _ _ st2 (Nat.le_add_right _ _) fun b hb o e => ?_) oz ⟨L3, es3, ep3, t3, hL3, g3⟩ fun s4 L4 es4 ep4 t4 mv4 hL4 g4 o4 => ?_⟩
    · rw [sb.2 b fun z => hSf (z ▸ hb)]
      exact e
    · refine done s4 L4 es4 ep4 t4 (Moved.trans W.gtrans ((mv.mono up).then_heap (Nat.le_add_right _ _) fun b o hb e => ?_) mv4) hL4 g4 o4
      rw [sb.2 b fun z => hb (z ▸ List.mem_cons_self)]
      exact e
abbrev emptyS (w : World) : Obj := { cls := .type "set", dict := none, data := .set #[] 0 (.fresh 0 0 (!w.params.followText "set-order")) }
theorem call_setX {l : Addr} {items : Array Value} (ks : List TK) (dom : List (List Int)) {Q : Value → Shared → Prop} (hh : A.handled = none) (hl : s.heap.IsList l items) (hit : items.toList = ks.map fun p => Value.ref p.1) (hks : ∀ p ∈ ks, IsT P w s.heap p.2 p.1)
    (hdom : ∀ p ∈ ks, p.2 ∈ dom) (h62 : dom.length ≤ 62) (hroom : A.units + 3 < cLine) (hQ : ∀ (g1 : Heap) (n1 : Nat) L es ep t, SetTR P w g1 s.heap.objs.size L es ep t → Coll ks ks.length L → (∀ b o, s.heap.get? b = some o → g1.get? b = some o) → Q (.ref s.heap.objs.size) { s with heap := g1, toks := n1 }) :
    wpAny (model P w) A (call (.type "set") [.ref l]) Q E s := by
  have isz : items.size = ks.length := by
    have e := congrArg List.length hit
    rwa [Array.length_toList, List.length_map] at e
  obtain ⟨c, tl, hmro⟩ := F.called_set.mro
  have made := F.called_set.made
  have sub := F.called_set.sub
  refine wpAny_call (codeAny_of_tree ?_)
  show wpAny _ _ (callAny (.type "set") _) _ _ _
  refine wpAny_pure ⟨Code.quiet_builtin _ (by decide +kernel), codeAny_builtin F.entry_type_call ?_⟩
  rw [Around.under_plain (weight_type_call_type "set" [.ref l] []) rfl]
  have a1 := F.called_set.notType
  have a2 := F.called_set.canCreate
  have a3 := F.typeCall_set_1 (.ref l)
  repeat (any_goals (first | assumption | wp_step))
  refine codeAny_mono (code_set_led1 (.ref l) (E := E) (Q₁ := fun obj z => obj = .ref s.heap.objs.size ∧ z = { s with heap := s.heap.push (emptyS w) }) ⟨rfl, rfl⟩) fun r z hr => ?_
  match r, hr with
  | .error e, hr => exact hr
  | .ok (.ret obj), hr =>
    obtain ⟨rfl, rfl⟩ := hr
    have gS : (s.heap.push (emptyS w)).get? s.heap.objs.size = some (emptyS w) := Heap.get?_push_size _ rfl
    have tS : Shared.TypeIs { s with heap := s.heap.push (emptyS w) } (.ref s.heap.objs.size) "set" := ⟨_, gS, rfl⟩
    have a4 := F.called_set.init.lookup
    have a5 := F.called_set.init.bind (.ref s.heap.objs.size)
    repeat (any_goals (first | assumption | wp_step))
    refine codeAny_mono (codeAny_call_builtin (R := wants (fun r z => r = .none ∧ ∃ g1 n1 L es ep t, z = { s with heap := g1, toks := n1 } ∧ SetTR P w g1 s.heap.objs.size L es ep t ∧ Coll ks ks.length L ∧ (∀ b o, s.heap.get? b = some o → g1.get? b = some o)) E) F.called_set.init.plain F.entry_set_init (check_set_init_1 tS ?_)) fun r2 z2 hr2 => ?_
    · obtain ⟨ol, hol, hcl, nl, hdl⟩ := hl
      obtain ⟨c1, d1, dat, sl1⟩ := ol
      simp only at hcl hdl
      subst hcl hdl
      have gl : (s.heap.push (emptyS w)).get? l = some { cls := .type "list", dict := d1, data := .seq items nl, slots := sl1 } := Heap.get?_push_of_some _ hol
      have b1 := F.sub_list_set
      have b2 := F.sub_list_frozenset
      have b3 : (Value.type "list" == Value.type "dict") = false := by decide
      have gl2 : (s.heap.push (emptyS w)).IsList l items := ⟨_, gl, rfl, nl, rfl⟩
      unfold Builtin.«set.__init__» noKeywords Builtin.Frozenset.updateFrom
      generalize hPI : pyIter = PI
      wp_walk
      subst hPI
      refine wpAny_pyIter_list gl2 ?_
      refine wpAny_bind (wpAny_runValue ?_)
      have lS : l < s.heap.objs.size := Heap.lt_size hol
      have h3 : A.in1.in1.in1.handled = none := by simp [hh]
      have z1 : (s.heap.push (emptyS w)).objs.size = s.heap.objs.size + 1 := Heap.size_push ..
      have n1 : l ≠ (s.heap.push (emptyS w)).objs.size := Nat.ne_of_lt (Nat.lt_of_lt_of_le lS (z1 ▸ Nat.le_succ _))
      have n2 : s.heap.objs.size ∉ [(s.heap.push (emptyS w)).objs.size, l] := by
        simp only [List.mem_cons, List.not_mem_nil, or_false, not_or]
        exact ⟨Nat.ne_of_lt (z1 ▸ Nat.lt_succ_self _), Nat.ne_of_gt lS⟩
      have vals : ∀ (i : Nat) (v : Value), items[i]? = some v → ∃ p, ks[i]? = some p ∧ v = .ref p.1 := fun i v hv => by
        rw [← Array.getElem?_toList, hit, List.getElem?_map] at hv
        obtain ⟨p, hp, e⟩ := Option.map_eq_some_iff.mp hv
        exact ⟨p, hp, e.symm⟩
      have gone : ∀ b, s.heap.objs.size ≤ b → s.heap.get? b = none := fun b hb => by
        rcases e : s.heap.get? b with _ | o
        · rfl
        · exact absurd (Nat.lt_of_lt_of_le (Heap.lt_size e) hb) (Nat.lt_irrefl _)
      refine set_fill ((Walks.list h3 _ l n1 items).toS) n2 ks dom isz hdom h62 vals s.heap hks (gone _ (Nat.le_refl _)) (fun b hb => gone b ?_) hroom items.size 0 _ (Nat.zero_add _) ⟨⟨_, Heap.get?_push_size _ rfl, rfl, rfl⟩, gl2.push _⟩ (fun b o e => Heap.get?_push_of_some _ (Heap.get?_push_of_some _ e)) ?_ ?_
      · cases List.mem_singleton.mp hb
        exact z1 ▸ Nat.le_succ _
      · exact ⟨[], #[], 0, _, setTR_fresh (Heap.get?_push_of_some _ gS), fun p hp => (by cases hp), fun p hp => (by simp at hp)⟩
      · rintro ⟨g2, gs2, dr2, tk2, os2⟩ L es ep t mv hL g old
        obtain rfl : gs2 = s.gens := mv.gens
        obtain rfl : dr2 = s.drawn := mv.drawn
        obtain rfl : os2 = s.os := mv.os
        show wpAny _ _ _ _ _ _
        refine wpAny_pure ?_
        show wpAny _ _ (ret Value.none) _ _ _
        exact wpAny_pure ⟨rfl, g2, tk2, L, es, ep, t, rfl, hL, isz ▸ g, old⟩
    · match r2, hr2 with
      | .error e, hr2 => exact hr2
      | .ok (.ret r), hr2 =>
        obtain ⟨rfl, g1, n1, L, es, ep, t, rfl, hL, g, old⟩ := hr2
        repeat (any_goals (first | assumption | wp_step))
        exact hQ _ _ _ _ _ _ hL g old
end
end DW

set_option Elab.async false
set_option linter.all false
set_option maxRecDepth 100000
set_option maxHeartbeats 4000000
set_option autoImplicit false
namespace DW
open PySem PySem.Spec PyProof.Rows L2
def rSetX (K : PySem.W.Frag) (P : Program) (w : World) : List V → Hp → VK → Prop := fun xs H Q => ∃ (B : Hp) (l : Addr) (us : List V) (ns dom : List (List Int)), xs = [V.ref l] ∧ Same B H ∧ SqL K H l us ∧ DpAll K B us (ns.map fun k => PyData.tuple (k.map .int)) ∧ (∀ k ∈ ns, k ∈ dom) ∧ dom.length ≤ 62 ∧
  ∀ a L, H a = none → (L.map (·.2)).Nodup → (∀ p ∈ L, p.2 ∈ ns ∧ Dp K B (.ref p.1) (.tuple (p.2.map .int))) → (∀ k ∈ ns, k ∈ L.map (·.2)) → Q (.ref a) (upd H a (SetTO P w a L))
theorem tups_of {K : PySem.W.Frag} {B : Hp} : ∀ {us : List V} {ns : List (List Int)}, DpAll K B us (ns.map fun k => PyData.tuple (k.map .int)) → ∃ ks : List TK, us = ks.map (fun p => V.ref p.1) ∧ ks.map (·.2) = ns ∧ ∀ p ∈ ks, SqT K B p.1 (p.2.map V.int) ∧ Dp K B (.ref p.1) (.tuple (p.2.map .int))
  | _, [], h => by
    cases h
    exact ⟨[], rfl, rfl, fun p hp => by cases hp⟩
  | _, n :: ns, h => by
    have h' : DpAll K B _ (PyData.tuple (n.map .int) :: ns.map fun k => PyData.tuple (k.map .int)) := h
    cases h' with
    | cons h1 h2 =>
      obtain ⟨ks, rfl, e, hk⟩ := tups_of h2
      obtain ⟨a, xs, rfl, q1, q2⟩ := dp_tup h1
      refine ⟨(a, n) :: ks, rfl, by rw [List.map_cons, e], fun p hp => ?_⟩
      rcases List.mem_cons.mp hp with e | e
      · subst e
        rw [dpa_ints q2] at q1
        exact ⟨q1, h1⟩
      · exact hk p e
theorem cr_setX {X : Cx} (hc : X.calm = true) (hu : X.A.units + 64 < cLine) : CallR X (.type "set") (rSetX X.K X.prog X.w) := by
  intro pins s σ H xs us' Q I r h
  obtain ⟨B, l, us, ns, dom, rfl, sB, hl, hd, hdom, h62, q⟩ := h
  rw [Vals.ref1 r]
  obtain ⟨its, rv, pl, hz⟩ := I.list hl
  obtain ⟨ks, rfl, rfl, hk⟩ := tups_of hd
  have hn : H s.heap.objs.size = none := I.hok.fresh (Nat.le_refl _)
  refine call_setX (P := X.prog) (w := X.w) ks dom (I.ok.hd hc) pl.isList (by simpa using refs_of_vals rv) (fun p hp => I.isT (same_sqT sB (hk p hp).1)) (fun p hp => hdom _ (List.mem_map.mpr ⟨p, hp, rfl⟩)) h62 (by omega) fun g1 n1 L es ep t R g old => ?_
  refine ⟨.ref s.heap.objs.size, _, I.laid (t' := n1) old (Nat.le_refl _) (setTO_new R.t0), rfl, q _ L hn R.nd (fun p hp => ⟨List.mem_map.mpr ⟨p, g.sub p hp, rfl⟩, (hk p (g.sub p hp)).2⟩) fun k hk2 => ?_⟩
  obtain ⟨p, hp, rfl⟩ := List.mem_map.mp hk2
  exact g.all p (by rw [List.take_length]; exact hp)
/-- sorted of such a set -/
def rSortX (K : PySem.W.Frag) (P : Program) (w : World) : List V → Hp → VK → Prop := fun vs H Q => ∃ (B : Hp) (a : Addr) (L : List TK) (d : Nat), vs = [V.ref a] ∧ Same B H ∧ H a = some (SetTO P w a L) ∧ (L.map (·.2)).Nodup ∧ (∀ p ∈ L, Dp K B (.ref p.1) (.tuple (p.2.map .int))) ∧ 0 < d ∧ (∀ p ∈ L, p.2.length = d) ∧
  ∀ (ys : List V) (ks : List (List Int)) (q : Addr), ks.Perm (L.map (·.2)) → ks.Pairwise (fun x y => ¬ y < x) → DpAll K B ys (ks.map fun k => PyData.tuple (k.map .int)) → H q = none → Q (.ref q) (upd H q (.lst ys))
theorem ref_rows {K : PySem.W.Frag} {B : Hp} {L : List TK} (hd : ∀ p ∈ L, Dp K B (.ref p.1) (.tuple (p.2.map .int))) : ∀ {out : List Value}, (∀ v ∈ out, ∃ p ∈ L, v = Value.ref p.1) → ∃ L2 : List TK, out = L2.map (fun p => Value.ref p.1) ∧ ∀ p ∈ L2, p ∈ L
  | [], _ => ⟨[], rfl, fun p hp => by cases hp⟩
  | v :: out, h => by
    obtain ⟨p, hp, e⟩ := h v List.mem_cons_self
    obtain ⟨L2, e2, h2⟩ := ref_rows hd fun u hu => h u (List.mem_cons_of_mem _ hu)
    refine ⟨p :: L2, by rw [List.map_cons, ← e, ← e2], fun q hq => ?_⟩
    rcases List.mem_cons.mp hq with z | z
    · exact z ▸ hp
    · exact h2 q z
theorem alike_len : ∀ (xs ys : List Int), PySem.W.alike (.tuple (xs.map .int)) (.tuple (ys.map .int)) = true := PySem.W.alike_ints
theorem cr_sortX {X : Cx} (hc : X.calm = true) (hu : X.A.units + 64 < cLine) : CallR X (.builtin "sorted") (rSortX X.K X.prog X.w) := by
  intro pins s σ H vs us Q I r h
  obtain ⟨B, a, L, d, rfl, sB, ha, hnd, hD, hd0, hd, q⟩ := h
  have R0 : SetT0 X.prog X.w s.heap a L := (I.hok a _ ha).1
  have hT : ∀ p ∈ L, IsT X.prog X.w s.heap p.2 p.1 := fun p hp => by
    obtain ⟨b, xs, e, q1, q2⟩ := dp_tup (hD p hp)
    cases e
    rw [dpa_ints q2] at q1
    exact I.isT (same_sqT sB q1)
  obtain ⟨es, ep, t, R⟩ := R0.full hT
  rw [Vals.ref1 r]
  obtain ⟨o, ho, hex, hdat⟩ := R.ob
  have hsz := R.size
  have hfew := R.few
  refine Calls.call_function_entry kind_sorted plain_sorted entry_sorted (args_sorted1 _) ?_
  unfold Builtin.«sorted»
  refine wpAny_bind (m := checkCount "sorted" 1 1 _) (wpAny_pure ?_)
  refine wpAny_bind (collect_set (A := X.A.in1) (I.ok.hd hc) ⟨o, ho, hex.1, hdat⟩ R.fits (by unfold scanBound; omega) R.tab.ris R.led fun s1 vs k1 hz g1 o1 pm => ?_)
  have hes : es.toList.map (·.2) = L.map fun q => Value.ref q.1 := by
    rw [R.rows]
    unfold rowsOf
    rw [List.map_map]
    rfl
  rw [hes] at pm
  obtain ⟨L1, e1, m1⟩ := ref_rows hD (out := vs) fun v hv => by
    obtain ⟨p, hp, e⟩ := List.mem_map.mp (pm.mem_iff.mp hv)
    exact ⟨p, hp, e.symm⟩
  have J : Inv X pins σ H s1 := by
    have J0 : Inv X pins σ H { s with heap := s1.heap, gens := s1.gens, drawn := s1.drawn, toks := s1.toks } := I.call (ch := []) (Un.kept k1) (I.hok.kept k1) (by rw [g1]; exact I.bare) (fun _ z => nomatch z)
    have e : s1 = { s with heap := s1.heap, gens := s1.gens, drawn := s1.drawn, toks := s1.toks } := by
      cases s1
      cases s
      cases o1
      rfl
    rw [e]
    exact J0
  have hlen : vs.length = L.length := by rw [pm.length_eq, List.length_map]
  have hn : H s1.heap.objs.size = none := J.hok.fresh (Nat.le_refl _)
  refine wpAny_bind (wpAny_newList ?_ (by rw [sizeLine_eq]; omega))
  have hoL : (s1.heap.push (seqObj "list" vs.toArray 0)).get? s1.heap.objs.size = some (seqObj "list" vs.toArray 0) := Heap.get?_push_size _ rfl
  let enc : TK → D := fun p => .tuple (p.2.map .int)
  have dL1 : ∀ L1 : List TK, (∀ p ∈ L1, p ∈ L) → DpAll X.K B (L1.map fun p => V.ref p.1) (L1.map enc) := by
    intro L1
    induction L1 with
    | nil => intro _; exact .nil
    | cons p L1 ih => intro h; exact .cons (hD p (h p List.mem_cons_self)) (ih fun q hq => h q (List.mem_cons_of_mem _ hq))
  have e : PySem.W.EachIs (ItR X.K B enc) vs L1 := by
    have e0 := eachis_of (K := X.K) (H := B) (enc := enc) (bs := L1) (dL1 L1 m1) (vals_refs (fun p : TK => p.1) L1)
    rwa [← e1] at e0
  have er : PySem.W.EachIs (fun u b => ∃ as, Reads (s1.heap.push (seqObj "list" vs.toArray 0)) u (enc b) as ∧ s1.heap.objs.size ∉ as) vs L1 := e.mono fun u b hb => by
    obtain ⟨v, r1, hv⟩ := hb
    obtain ⟨as, ra⟩ := Dp.reads J (enc b) v u (moD hv sB) r1
    exact ⟨as, PyProof.Rows.Reads.keeps (fun _ _ z => Heap.get?_push_of_some _ z) ra, fun z => absurd (reads_lt ra _ z) (Nat.lt_irrefl _)⟩
  have l1 : L1.length = L.length := by rw [← hlen, e1, List.length_map]
  show wpAny _ _ _ _ _ { s1 with heap := s1.heap.push (seqObj "list" vs.toArray 0) }
  refine wpAny_bind (wpAny_holding (PySem.W.list_sort_data (R := ItR X.K B enc) (enc := enc) (bs := L1) (s := { s1 with heap := s1.heap.push (seqObj "list" vs.toArray 0) }) hoL e er (.of fun b b' => alike_len _ _) (.inl fun dd hdd => ?_) (by rw [l1, sizeLine_eq]; omega) (fun b hb => ?_) fun out ho2 hout => ?_))
  · obtain ⟨p, hp, rfl⟩ := List.mem_map.mp hdd
    have := hd p (m1 p hp)
    show ∃ x r, PyData.tuple (p.2.map .int) = .tuple (x :: r)
    cases e : p.2 with
    | nil =>
      rw [e] at this
      simp at this
      omega
    | cons x r => exact ⟨_, _, rfl⟩
  · have : (enc b).depth ≤ 1 := by
      show PyData.depth (.tuple (b.2.map .int)) ≤ 1
      simp only [PyData.depth, PySem.W.depth_ints]
      omega
    show X.A.units + 1 + 1 + _ < cLine
    omega
  · obtain ⟨ys, r2, hy⟩ := eachis_to hout
    obtain ⟨e', he'⟩ := PyProof.Rows.sortedHeap_at (vs := vs) (out := out.toArray) hoL
    have hly : ys.length ≤ sizeLine := by
      rw [dpa_len hy, List.length_map, List.length_mergeSort, l1, sizeLine_eq]
      omega
    have pmL : (L1.map fun p => Value.ref p.1).Perm (L.map fun p => Value.ref p.1) := by
      rw [← e1]
      exact pm
    have one : ∀ q ∈ L, ∀ r ∈ L, q.1 = r.1 → q.2 = r.2 := fun q hq r hr e => by
      have a1 := R.tup q hq
      have a2 := R.tup r hr
      rw [e] at a1
      exact a1.inj a2
    have memk : ∀ k, k ∈ L1.map (·.2) ↔ k ∈ L.map (·.2) := fun k => by
      constructor
      · intro hk
        obtain ⟨p, hp, rfl⟩ := List.mem_map.mp hk
        exact List.mem_map.mpr ⟨p, m1 p hp, rfl⟩
      · intro hk
        obtain ⟨p, hp, rfl⟩ := List.mem_map.mp hk
        obtain ⟨p', hp', e⟩ := List.mem_map.mp (pmL.mem_iff.mpr (List.mem_map.mpr ⟨p, hp, rfl⟩))
        injection e with e
        exact List.mem_map.mpr ⟨p', hp', one p' (m1 p' hp') p hp e⟩
    have nd1 : (L1.map (·.2)).Nodup := by
      have nref : (L.map fun p => Value.ref p.1).Nodup := by
        refine List.pairwise_map.mpr (List.Pairwise.imp_of_mem ?_ (List.pairwise_map.mp (List.nodup_iff_pairwise_ne.mp hnd)))
        intro p q hp hq hne e
        injection e with e
        exact hne (one p hp q hq e)
      have n1 := pmL.nodup_iff.mpr nref
      rw [List.nodup_iff_pairwise_ne] at n1 ⊢
      refine List.pairwise_map.mpr (List.Pairwise.imp_of_mem ?_ (List.pairwise_map.mp n1))
      intro p q hp hq hne e
      -- equal keys in L: one row
      have : p = q := by
        have ndL := List.pairwise_map.mp (List.nodup_iff_pairwise_ne.mp hnd)
        refine Classical.byContradiction fun hpq => ?_
        have key : ∀ {L : List TK}, L.Pairwise (fun a b => a.2 ≠ b.2) → p ∈ L → q ∈ L → False := by
          intro L hL
          induction L with
          | nil => intro a _; cases a
          | cons x L ih =>
            obtain ⟨h1, h2⟩ := List.pairwise_cons.mp hL
            intro a b
            rcases List.mem_cons.mp a with a | a
            · rcases List.mem_cons.mp b with b | b
              · exact hpq (a.trans b.symm)
              · exact h1 q b (a ▸ e)
            · rcases List.mem_cons.mp b with b | b
              · exact h1 p a (b ▸ e.symm)
              · exact ih h2 a b
        exact key ndL (m1 p hp) (m1 q hq)
      exact hne (this ▸ rfl)
    have pk : (L1.map (·.2)).Perm (L.map (·.2)) := (List.perm_ext_iff_of_nodup nd1 hnd).mpr memk
    have sp := List.mergeSort_perm L1 (PySem.W.dataLe false enc)
    have le_eq : PySem.W.dataLe false enc = fun a b : TK => !decide (b.2 < a.2) := by
      funext a b
      show (!PySem.W.dataLt (.tuple (b.2.map .int)) (.tuple (a.2.map .int))) = _
      rw [dlt_tup_ints]
    have so : (L1.mergeSort (PySem.W.dataLe false enc)).Pairwise fun a b => PySem.W.dataLe false enc a b = true := by
      rw [le_eq]
      refine List.pairwise_mergeSort (fun a b c h1 h2 => ?_) (fun a b => ?_) L1
      · simp only [Bool.not_eq_true', decide_eq_false_iff_not] at *
        intro z
        exact List.not_lt.mpr (List.le_trans (List.not_lt.mp h1) (List.not_lt.mp h2)) z
      · simp only [Bool.or_eq_true, Bool.not_eq_true', decide_eq_false_iff_not]
        by_cases y : b.2 < a.2
        · exact .inr fun z => List.lt_asymm y z
        · exact .inl y
    refine wpAny_pure ⟨_, rfl, .ref s1.heap.objs.size, upd H s1.heap.objs.size (.lst ys), J.laid (t' := s1.toks) (fun b u e => ?_) (Nat.le_refl _)
      (show ObjOk X.prog X.w _ _ _ (.lst ys) from ⟨hly, out, e', r2, he'⟩), rfl, q ys ((L1.mergeSort (PySem.W.dataLe false enc)).map (·.2)) _ ((sp.map (·.2)).trans pk) ?_ (by rw [List.map_map]; exact hy) hn⟩
    · have hb : b < s1.heap.objs.size := Heap.lt_size e
      rw [PyProof.Rows.sortedHeap_old (Nat.ne_of_lt hb) (by rw [size_push']; exact Nat.lt_succ_of_lt hb)]
      exact Heap.get?_push_of_some _ e
    · rw [List.pairwise_map]
      refine so.imp fun {a b} h => ?_
      rw [le_eq] at h
      simpa using h
/-! ### sorted(set(xs)), len(set(xs)) -/
class EnT (α : Type) [DecidableEq α] [En α] where
  tl : α → List Int
  ln : Nat
  hl : ∀ a, (tl a).length = ln
  h0 : 0 < ln
  he : ∀ a : α, En.en a = .tuple ((tl a).map .int)
  inj : ∀ a b, tl a = tl b → a = b
instance : EnT P3 where
  tl u := [u.x, u.y, u.z]
  ln := 3
  hl _ := rfl
  h0 := by decide
  he _ := rfl
  inj a b h := by
    obtain ⟨x, y, z⟩ := a
    obtain ⟨x', y', z'⟩ := b
    simp only [List.cons.injEq, and_true] at h
    obtain ⟨h1, h2, h3⟩ := h
    rw [h1, h2, h3]
instance : EnT Pl where
  tl u := [u.n.x, u.n.y, u.n.z, u.d]
  ln := 4
  hl _ := rfl
  h0 := by decide
  he _ := rfl
  inj a b h := by
    obtain ⟨⟨x, y, z⟩, d⟩ := a
    obtain ⟨⟨x', y', z'⟩, d'⟩ := b
    simp only [List.cons.injEq, and_true] at h
    obtain ⟨h1, h2, h3, h4⟩ := h
    rw [h1, h2, h3, h4]
instance : EnT (Int × Int) where
  tl u := [u.1, u.2]
  ln := 2
  hl _ := rfl
  h0 := by decide
  he _ := rfl
  inj a b h := by
    obtain ⟨x, y⟩ := a
    obtain ⟨x', y'⟩ := b
    simp only [List.cons.injEq, and_true] at h
    obtain ⟨h1, h2⟩ := h
    rw [h1, h2]
def ddp {α : Type} [DecidableEq α] : List α → List α
  | [] => []
  | x :: xs => if x ∈ xs then ddp xs else x :: ddp xs
section
variable {α : Type} [DecidableEq α]
theorem mem_ddp {a : α} : ∀ {xs : List α}, a ∈ ddp xs ↔ a ∈ xs
  | [] => Iff.rfl
  | x :: xs => by
    unfold ddp
    split
    · rename_i h
      rw [mem_ddp, List.mem_cons]
      exact ⟨.inr, fun z => z.elim (fun e => e ▸ h) id⟩
    · rw [List.mem_cons, List.mem_cons, mem_ddp]
theorem ddp_nodup : ∀ xs : List α, (ddp xs).Nodup
  | [] => List.nodup_nil
  | x :: xs => by
    unfold ddp
    split
    · exact ddp_nodup xs
    · rename_i h
      exact List.nodup_cons.mpr ⟨fun z => h (mem_ddp.mp z), ddp_nodup xs⟩
theorem ddp_le : ∀ xs : List α, (ddp xs).length ≤ xs.length
  | [] => Nat.le_refl _
  | x :: xs => by
    unfold ddp
    have := ddp_le xs
    split
    · rw [List.length_cons]
      omega
    · rw [List.length_cons, List.length_cons]
      omega
theorem ddp_id {xs : List α} (h : xs.Nodup) : ddp xs = xs := by
  induction xs with
  | nil => rfl
  | cons x xs ih =>
    obtain ⟨h1, h2⟩ := List.nodup_cons.mp h
    unfold ddp
    rw [if_neg h1, ih h2]
variable [En α] [EnO α] [EnT α]
def setE (us : List α) : List α := sortE (ddp us)
theorem mem_setE {us : List α} {a : α} : a ∈ setE us ↔ a ∈ us := sortE_mem.trans mem_ddp
theorem setE_lt (us : List α) : (setE us).Pairwise fun a b => EnO.lt a b = true := sortE_lt (ddp_nodup us)
theorem setE_len (us : List α) : (setE us).length = (ddp us).length := sortE_len _
theorem lt_tl (a b : α) : decide (EnT.tl a < EnT.tl b) = EnO.lt a b := by
  rw [← EnO.dlt, EnT.he, EnT.he, dlt_tup_ints]
theorem strict_eq : ∀ {xs ys : List α}, (xs.Pairwise fun a b => EnO.lt a b = true) → (ys.Pairwise fun a b => EnO.lt a b = true) → (∀ a, a ∈ xs ↔ a ∈ ys) → xs = ys
  | [], [], _, _, _ => rfl
  | [], y :: ys, _, _, h => by
    have := (h y).mpr List.mem_cons_self
    cases this
  | x :: xs, [], _, _, h => by
    have := (h x).mp List.mem_cons_self
    cases this
  | x :: xs, y :: ys, hx, hy, h => by
    obtain ⟨hx1, hx2⟩ := List.pairwise_cons.mp hx
    obtain ⟨hy1, hy2⟩ := List.pairwise_cons.mp hy
    have irr : ∀ a : α, EnO.lt a a = true → False := fun a z => EnO.asy _ _ z z
    have exy : x = y := by
      rcases List.mem_cons.mp ((h x).mp List.mem_cons_self) with e | e
      · exact e
      · rcases List.mem_cons.mp ((h y).mpr List.mem_cons_self) with e2 | e2
        · exact e2.symm
        · exact (EnO.asy _ _ (hx1 y e2) (hy1 x e)).elim
    subst exy
    congr 1
    refine strict_eq hx2 hy2 fun a => ?_
    constructor
    · intro ha
      rcases List.mem_cons.mp ((h a).mp (List.mem_cons_of_mem _ ha)) with e | e
      · subst e
        exact (irr _ (hx1 _ ha)).elim
      · exact e
    · intro ha
      rcases List.mem_cons.mp ((h a).mpr (List.mem_cons_of_mem _ ha)) with e | e
      · subst e
        exact (irr _ (hy1 _ ha)).elim
      · exact e
theorem set_rows {us : List α} {L : List TK} {ks : List (List Int)} (hnd : (L.map (·.2)).Nodup) (h1 : ∀ p ∈ L, p.2 ∈ us.map EnT.tl) (h2 : ∀ k ∈ us.map EnT.tl, k ∈ L.map (·.2)) (pm : ks.Perm (L.map (·.2))) (so : ks.Pairwise fun x y => ¬ y < x) : ks = (setE us).map EnT.tl := by
  have nd : ks.Nodup := pm.nodup_iff.mpr hnd
  have mem : ∀ k, k ∈ ks ↔ k ∈ us.map EnT.tl := fun k => by
    rw [pm.mem_iff]
    constructor
    · intro h
      obtain ⟨p, hp, rfl⟩ := List.mem_map.mp h
      exact h1 p hp
    · exact h2 k
  have pre : ∀ ks : List (List Int), (∀ k ∈ ks, k ∈ us.map EnT.tl) → ∃ vs : List α, ks = vs.map EnT.tl := by
    intro ks
    induction ks with
    | nil => intro _; exact ⟨[], rfl⟩
    | cons k ks ih =>
      intro h
      obtain ⟨u, _, e⟩ := List.mem_map.mp (h k List.mem_cons_self)
      obtain ⟨vs, e2⟩ := ih fun j hj => h j (List.mem_cons_of_mem _ hj)
      exact ⟨u :: vs, by rw [List.map_cons, e, e2]⟩
  obtain ⟨vs, rfl⟩ := pre ks fun k hk => (mem k).mp hk
  congr 1
  have ndv : vs.Nodup := List.Pairwise.of_map EnT.tl (fun a b hne e => hne (congrArg _ e)) (List.nodup_iff_pairwise_ne.mp nd) |> List.nodup_iff_pairwise_ne.mpr
  refine strict_eq ?_ (setE_lt us) fun a => ?_
  · refine List.Pairwise.imp₂ (fun a b x y => ?_) (List.pairwise_map.mp so) (List.nodup_iff_pairwise_ne.mp ndv)
    rcases EnO.tot a b with z | z | z
    · exact z
    · exact (y z).elim
    · rw [← lt_tl, decide_eq_true_eq] at z
      exact (x z).elim
  · rw [mem_setE]
    constructor
    · intro h
      obtain ⟨b, hb, e⟩ := List.mem_map.mp ((mem _).mp (List.mem_map.mpr ⟨a, h, rfl⟩))
      exact EnT.inj _ _ e ▸ hb
    · intro h
      obtain ⟨b, hb, e⟩ := List.mem_map.mp ((mem _).mpr (List.mem_map.mpr ⟨a, h, rfl⟩))
      exact EnT.inj _ _ e ▸ hb
theorem en_tl (us : List α) : us.map (En.en (α := α)) = (us.map EnT.tl).map fun k => PyData.tuple (k.map .int) := by
  rw [List.map_map]
  exact List.map_congr_left fun a _ => EnT.he a
theorem go_sortedSet {X : Cx} {G : Gm} {e : Expr} {W : Wd} {N : List Str} {sc : Scope} {k : Nat} {p p2 pos pos2 : Pos} {us : List α} (C : Cok X W N sc k) (hg : glB sc "sorted" = true) (hm : W.mg "sorted" = none) (hg2 : glB sc "set" = true) (hm2 : W.mg "set" = none) (ha : GL X G e (us.map En.en)) (h62 : (ddp us).length ≤ 62) (he : nst e = true) :
    GO X G (.Call (.Name "sorted" p) [.Call (.Name "set" p2) [e] [] pos2] [] pos) ((setE us).map En.en) := by
  have hw := C.wd
  subst hw
  have hu : X.A.units + 64 < cLine := by have := C.room.un; omega
  refine ⟨fun bs B σ H S Q q => inE (pe_callB (cr_sortX C.calm hu) (C.gl _ hg).1 hm (by decide +kernel) (pa_cons (pe_callTy (cr_setX C.calm hu) (C.gl _ hg2).1 hm2 (by decide +kernel) (pa_cons pE pa_nil (star_cons he)) (by decide) (C.gl _ hg2).2 (star_cons he) (star_all rfl)) pa_nil (star_cons rfl)) (by decide) (C.gl _ hg).2 (star_cons rfl) (star_all rfl)) (ha.run bs B σ H S _ fun l vs B1 H1 g1 r1 r2 => ?_)⟩
  rw [en_tl] at r2
  refine ⟨B1, l, vs, us.map EnT.tl, (ddp us).map EnT.tl, rfl, g1.bh, r1, r2, fun k hk => ?_, by rw [List.length_map]; exact h62, fun a L ha2 hnd h1 h2 => ?_⟩
  · obtain ⟨u, hu2, rfl⟩ := List.mem_map.mp hk
    exact List.mem_map.mpr ⟨u, mem_ddp.mpr hu2, rfl⟩
  · have g2 : Grow B1 H1 B1 (upd H1 a (SetTO X.prog X.w a L)) := .own g1.bh ha2
    refine ⟨B1, a, L, EnT.ln α, rfl, g2.bh, upd_same, hnd, fun p hp => (h1 p hp).2, EnT.h0, fun p hp => ?_, fun ys ks r pm so hy hr => ?_⟩
    · obtain ⟨u, _, e⟩ := List.mem_map.mp (h1 p hp).1
      rw [← e]
      exact EnT.hl u
    · have e := set_rows hnd (fun p hp => (h1 p hp).1) h2 pm so
      subst e
      rw [← en_tl] at hy
      have g3 := (g1.trans g2).trans (Grow.own (p := r) (o := .lst ys) g2.bh hr)
      exact q r ys B1 _ g3 (same_none (g1.trans g2).h hr) (same_none g2.bh hr) upd_same hy
end
end DW

set_option Elab.async false
set_option linter.all false
set_option maxRecDepth 100000
set_option maxHeartbeats 4000000
set_option autoImplicit false
namespace DW
open PySem PySem.Spec PyProof.Rows L2
/-! ### calls that tell a list, a new one or one that stands; enumerate -/
section
variable {X : Cx} {G : Gm} {e : Expr} {es : List Expr} {ds us : List D} {W : Wd} {N : List Str} {sc : Scope} {k j : Nat} {pos p : Pos} {nm : Str} {c : Ct}
theorem ge_callL (C : Cok X W N sc k) (Hs : Has W j nm c) (hj : j ≤ k) (hg : glB sc nm = true) (ha : GA X G (e :: es) ds) (hc : ∀ R : Rs → Prop, R (.fz (.list us)) → R (.ow us) → c ds R) (he : nst e = true) (hpl : es.all nst = true) :
    GE X G (.Call (.Name nm p) (e :: es) [] pos) (.list us) := by
  obtain ⟨f, fd, ps, h1, h2, h3, h4⟩ := Hs.ex
  have hw := C.wd
  subst hw
  refine ⟨fun bs B σ H S Q q => inE (pe_call (E := E0) h4 (C.room.mono hj) (C.gl nm hg).1 h1 h2 h3 .nil passL pA (C.gl nm hg).2 (star_cons he) (star_all hpl)) (ha.run bs B σ H S _ fun vs B1 H1 g1 r1 => ?_)⟩
  refine ⟨B1, ds, fun r => r = .fz (.list us) ∨ r = .ow us, g1.bh, by rw [List.append_nil]; exact r1, hc _ (.inl rfl) (.inr rfl), fun d' v B' H' e' g r => ?_, fun es' p us' B' H' e' g h0 h1 h2 r => ?_, (fun _ _ _ _ _ e' => by rcases e' with e' | e' <;> cases e')⟩
  · rcases e' with e' | e'
    · cases e'
      exact q v B' H' (g1.trans g) r
    · cases e'
  · rcases e' with e' | e'
    · cases e'
    · cases e'
      have g2 := g1.trans g
      have sb : Same B' (upd B' p (.lst us')) := same_new h1
      exact q _ _ H' (g2.settle (same_none g1.h h0) h1 h2) (.lst (.inl (.inl upd_same)) (moA r sb))
end
def enumD (ds : List D) : List D := (List.range ds.length).map fun (i : Nat) => .tuple [.int (i : Int), ds.getD i .none]
theorem enumD_get {ds : List D} {i : Nat} {d : D} (h : ds[i]? = some d) : (enumD ds)[i]? = some (.tuple [.int (i : Int), d]) := by
  have hi := (List.getElem?_eq_some_iff.mp h).1
  unfold enumD
  rw [List.getElem?_map, List.getElem?_range hi, Option.map_some, List.getD_eq_getElem?_getD, h]
  rfl
theorem enumD_len (ds : List D) : (enumD ds).length = ds.length := by
  unfold enumD
  rw [List.length_map, List.length_range]
theorem wk_enum {K : PySem.W.Frag} {B1 F : Hp} {p : Addr} {vs : List V} {items : List D} (h : SqL K F p vs) (r : DpAll K B1 vs items) : Wk K B1 F (Ite K p) (enumD items) := by
  have ll := dpa_len r
  have le := enumD_len items
  refine ⟨fun i H' s hi => ⟨vs, s.seq h, by omega⟩, fun i H' s hi => ⟨vs, vs[i], s.seq h, List.getElem?_eq_getElem (by omega)⟩, fun i B' H' x H'' s1 s2 s3 hi y => ?_⟩
  obtain ⟨T, x', rfl, hT, rfl, y⟩ := y
  obtain ⟨d, e1, e2⟩ := dpa_getV r (y vs (s1.seq h))
  have sb : Same B' (upd B' T (.tup [.int (i : Nat), x'])) := same_new (same_none s3 hT)
  exact ⟨_, upd B' T (.tup [.int (i : Nat), x']), enumD_get e1, .new s3 hT, .tup (.inl (.inl upd_same)) (.cons (.int _) (.cons (moD (moD e2 s2) sb) .nil))⟩
theorem gi_enum {X : Cx} {G : Gm} {e : Expr} {elts : List Expr} {kk : Nat} {items : List D} {W : Wd} {N : List Str} {sc : Scope} {k : Nat} {pos p tpos : Pos} (C : Cok X W N sc k) (hg : glB sc "enumerate" = true) (hm : W.mg "enumerate" = none) (ha : GE X G e (.list items)) (he : nst e = true) :
    GI X G (.Tuple elts kk tpos) (.Call (.Name "enumerate" p) [e] [] pos) (enumD items) := by
  have hw := C.wd
  subst hw
  refine ⟨fun bs B σ H S R q => inI (pi_enum (C.gl _ hg).1 hm (pa_cons pE pa_nil (star_cons he)) (star_cons he)) (ha.run bs B σ H S _ fun v B1 H1 g r => ?_)⟩
  obtain ⟨a, vs, rfl, h1, h2⟩ := dp_lst r
  exact ⟨a, vs, rfl, g.bh.seq h1, q _ B1 H1 g (wk_enum h1 h2)⟩
theorem cmp_eqL3 (u v : List P3) : CmpD .Eq (.list (u.map P3.en)) (.list (v.map P3.en)) (decide (u = v)) := cmp_eqG (α := List P3) (by decide) u v
theorem cmp_neL3 (u v : List P3) : CmpD .NotEq (.list (u.map P3.en)) (.list (v.map P3.en)) (!decide (u = v)) := cmp_neG (α := List P3) (by decide) u v
theorem cmp_eqL4 (u v : List Pl) : CmpD .Eq (.list (u.map Pl.en)) (.list (v.map Pl.en)) (decide (u = v)) := cmp_eqG (α := List Pl) (by decide) u v
theorem cmp_neL4 (u v : List Pl) : CmpD .NotEq (.list (u.map Pl.en)) (.list (v.map Pl.en)) (!decide (u = v)) := cmp_neG (α := List Pl) (by decide) u v
theorem cmp_eqN4 (xs : List Pl) : CmpD .Eq (.list (xs.map Pl.en)) (.list []) (decide (xs = [])) := cmp_eqN (by decide) xs
theorem cmp_neN4 (xs : List Pl) : CmpD .NotEq (.list (xs.map Pl.en)) (.list []) (!decide (xs = [])) := cmp_neN (by decide) xs
/-- script[2:63] -/
theorem cut_rest (ns : List Int) (a b : Nat) (hab : a ≤ b) : cutD (ns.map PyData.int) (some (a : Int)) (some (b : Int)) = ((ns.drop a).take (b - a)).map PyData.int := by
  unfold cutD
  rw [HT.sIx_nat, HT.sIx_nat, List.length_map, ← List.map_drop, ← List.map_take]
  congr 1
  by_cases h : ns.length ≤ a
  · rw [show min a ns.length = ns.length by omega, show ns.drop ns.length = [] from List.drop_length, show ns.drop a = [] from List.drop_eq_nil_of_le h, List.take_nil, List.take_nil]
  · rw [show min a ns.length = a by omega]
    by_cases h2 : ns.length ≤ b
    · rw [show min b ns.length = ns.length by omega, List.take_of_length_le (by rw [List.length_drop]; omega), List.take_of_length_le (by rw [List.length_drop]; omega)]
    · rw [show min b ns.length = b by omega]
theorem rng_at {lo : Int} {n i : Nat} {d : D} (h : ((rngL lo n).map PyData.int)[i]? = some d) : i < n ∧ d = .int (lo + (i : Int)) := by
  rw [List.getElem?_map] at h
  have hi : i < n := by
    rcases Nat.lt_or_ge i n with q | q
    · exact q
    · rw [List.getElem?_eq_none (by rw [rngL_len]; exact q)] at h
      cases h
  rw [rngL_get hi] at h
  exact ⟨hi, (Option.some.inj h).symm⟩
theorem map_at {α : Type} {f : α → D} {xs : List α} {i : Nat} {d : D} (h : (xs.map f)[i]? = some d) : ∃ a, xs[i]? = some a ∧ d = f a := by
  rw [List.getElem?_map] at h
  obtain ⟨a, h1, h2⟩ := Option.map_eq_some_iff.mp h
  exact ⟨a, h1, h2.symm⟩
theorem gi_rngC {X : Cx} {G : Gm} {tg : Expr} {a : Expr} {W : Wd} {N : List Str} {sc : Scope} {k : Nat} {p pos : Pos} {n : Nat} {z : Int} (C : Cok X W N sc k) (hg : glB sc "range" = true) (hm : W.mg "range" = none) (ha : GE X G a (.int z)) (hz : z = (n : Int)) (h1 : n < 2 ^ 60) (he : nst a = true) :
    GI X G tg (.Call (.Name "range" p) [a] [] pos) ((rngL 0 n).map PyData.int) := by
  have h := gi_rng1 (tg := tg) (p := p) (pos := pos) C hg hm ha (by omega) he
  rw [show z.toNat = n by omega] at h
  exact h
/-- x, y = a, b where a comprehension sees x: no turned stores -/
theorem sst_cell {X : Cx} {W : Wd} {N : List Str} {sc : Scope} {k : Nat} {a b : Expr} {x y : Str} {p1 p2 pt pt2 : Pos} {kt k2 : Nat} (C : Cok X W N sc k) (hk : sc.kind = .function) (hx : celB sc x = true) (hy : loc1B sc y = true) :
    swappedStores [.Tuple [.Name x p1, .Name y p2] kt pt] (.Tuple [a, b] k2 pt2) X.env = pure none := by
  have h1 := C.bk hk
  have h2 := C.loc1 y hy
  have h3 : X.env.kindOf x = some .cell ∨ X.env.kindOf x = some .free := C.fr x (.inl (celB_of hx))
  have e1 : (some NameKind.cell == some NameKind.local) = false := rfl
  have e2 : (some NameKind.free == some NameKind.local) = false := rfl
  unfold swappedStores
  rcases h3 with h3 | h3
  · simp only [h1, List.filterMap_cons, List.filterMap_nil, h3, e1, Bool.false_and, Bool.false_eq_true, if_false]
    split
    · rfl
    · generalize (X.env.kindOf y == some NameKind.local && _) = t
      cases t
      all_goals
        split
        · rfl
        · rfl
  · simp only [h1, List.filterMap_cons, List.filterMap_nil, h3, e2, Bool.false_and, Bool.false_eq_true, if_false]
    split
    · rfl
    · generalize (X.env.kindOf y == some NameKind.local && _) = t
      cases t
      all_goals
        split
        · rfl
        · rfl
theorem len_map {α : Type} (f : α → D) (xs : List α) : LenD (.list (xs.map f)) (xs.length : Int) := by
  have h := LenD.lst (ds := xs.map f)
  rw [List.length_map] at h
  exact h
theorem GS.mono {X : Cx} {G : Gm} {st : Stmt} {P Q : Gm → Prop} {rt : Rs → Prop} {bk ct : Gm → Prop} (h : GS X G st ⟨P, rt, bk, ct⟩) (k : ∀ G', P G' → Q G') : GS X G st ⟨Q, rt, bk, ct⟩ :=
  ⟨fun bs B σ H S De m => h.run bs B σ H S De ⟨fun G B σ H g S => m.nx G B σ H (k G g) S, m.rf, m.ro, m.bk, m.ct, m.xm⟩⟩
/-- if c: .. ; both ways go on with P -/
theorem gss_join {X : Cx} {G : Gm} {c : Expr} {t : Bool} {A1 sts : List Stmt} {pos : Pos} {E : DE} (P : Gm → Prop) (hc : GT X G c t) (h1 : t = true → GSs X G A1 ⟨P, E.rt, E.bk, E.ct⟩) (h2 : t = false → P G) (h3 : ∀ G', P G' → GSs X G' sts E) : GSs X G (.If c A1 [] pos :: sts) E :=
  gs_cons (GS.mono (gs_if (E := ⟨P, E.rt, E.bk, E.ct⟩) hc h1 fun z => gs_nil (h2 z)) h3)
theorem gi_rngC2 {X : Cx} {G : Gm} {tg : Expr} {a b : Expr} {W : Wd} {N : List Str} {sc : Scope} {k : Nat} {p pos : Pos} {m n : Nat} {z y : Int} (C : Cok X W N sc k) (hg : glB sc "range" = true) (hm : W.mg "range" = none) (ha : GE X G a (.int z)) (hb : GE X G b (.int y)) (hz : z = (m : Int)) (hy : y = (n : Int)) (h1 : m < 2 ^ 60) (h2 : n < 2 ^ 60) (he : nst a = true) (he2 : nst b = true) :
    GI X G tg (.Call (.Name "range" p) [a, b] [] pos) ((rngL (m : Int) (n - m)).map PyData.int) := by
  have h := gi_rng2 (tg := tg) (p := p) (pos := pos) C hg hm ha hb (by omega) he he2
  rw [show (y - z).toNat = n - m by omega, hz] at h
  exact h
end DW

set_option Elab.async false
set_option linter.all false
set_option maxRecDepth 100000
set_option maxHeartbeats 4000000
set_option autoImplicit false
namespace DW
open PySem PySem.Spec PyProof.Rows L2
/-! ### a loop over one's own list, which stays one's own -/
theorem Sat.reslot {K : PySem.W.Frag} {bs : Bs} {G : Gm} {B H : Hp} {σ : L2.St} {i : Nat} {s s' : Sl} (S : Sat K bs G B σ H) (h : G[i]? = some s) (so : s.own = true) (hs : ∀ o, σ[i]? = some o → SlR K bs B H o s') : Sat K bs (G.set i s') B σ H := by
  refine ⟨S.gr, by rw [List.length_set, S.len], fun j t o h1 h2 => ?_, fun j k t u a hjk h1 h2 s1 s2 e1 e2 => ?_⟩
  · rcases set_get h1 with ⟨ej, es, hl⟩ | ⟨ej, h1'⟩
    · subst ej es
      exact hs o h2
    · exact S.sl j t o h1' h2
  · rcases set_get h1 with ⟨ej, es, _⟩ | ⟨n1, h1'⟩
    · rcases set_get h2 with ⟨ek, _, _⟩ | ⟨n2, h2'⟩
      · exact hjk (ej.trans ek.symm)
      · subst ej
        exact S.na j k s u a hjk h h2' so s2 e1 e2
    · rcases set_get h2 with ⟨ek, es, _⟩ | ⟨n2, h2'⟩
      · subst ek
        exact S.na j k t s a hjk h1' h s1 so e1 e2
      · exact S.na j k t u a hjk h1' h2' s1 s2 e1 e2
/-- the list vs at p, as it stands -/
def fixO (K : PySem.W.Frag) (p : Addr) (vs : List V) (ds : List D) : Ob where
  R B H q := q = p ∧ H q = some (.lst vs) ∧ DpAll K B vs ds
  gr B H B' H' q e e' h := ⟨h.1, e' _ _ h.2.1, moA h.2.2 e⟩
  fr B H q r o hn h := ⟨h.1, by rw [upd_ne (Ne.symm hn)]; exact h.2.1, h.2.2⟩
section
variable {X : Cx} {G : Gm} {tg : Expr} {ds : List D} {W : Wd} {N : List Str} {sc : Scope} {k : Nat} {pos p1 : Pos} {E : DE} {x : Str} {body sts : List Stmt}
theorem gs_forO (C : Cok X W N sc k) (i0 : Nat) (h : okV N sc i0 x = true) (hG : G[i0]? = some (.ow ds)) (J : Ob → Nat → Gm → Prop) (h0 : ∀ O, J O 0 (G.set i0 (.ob O)))
    (hs : ∀ (O : Ob) (i : Nat) (d : D) (G' : Gm), ds[i]? = some d → J O i G' → G'[i0]? = some (.ob O) ∧ ∃ G2 ws, GG X G' tg d G2 ws ∧ GSs X G2 body ⟨J O (i + 1), E.rt, fun _ => False, J O (i + 1)⟩)
    (hd : ∀ (O : Ob) G', J O ds.length G' → G'[i0]? = some (.ob O) ∧ E.nx (G'.set i0 (.ow ds))) (hf : ∀ v, foldedSetIterable (.Name x p1) X.env v = pure v) : GS X G (.For tg (.Name x p1) body [] pos) E := by
  obtain ⟨v1, v2, v3, v4⟩ := okV_of h
  refine ⟨fun bs B σ H S De m => inS (ps_for C.pown C.calm pI pG pB hf) (inI (pi_list pE) (inE (pe_var (i := i0) (by rw [C.N]; exact v1) (C.vis x v2) v3 v4) ?_))⟩
  obtain ⟨p, vs, e1, q0, q1, q2, q3⟩ := S.ow hG
  refine ⟨.ref p, e1, p, rfl, ⟨vs, .inl (.inl q2)⟩, ?_⟩
  generalize hO : fixO X.K p vs ds = O
  have S1 : Sat X.K bs (G.set i0 (.ob O)) B σ H := S.reslot hG rfl fun o ho => by
    rw [e1] at ho
    cases ho
    subst hO
    exact ⟨p, rfl, q0, q1, by rw [q2]; simp, rfl, q2, q3⟩
  have S1' : Sat X.K ⟨B, bs.H⟩ (G.set i0 (.ob O)) B σ H := by
    have g1 := S1.gr
    refine ⟨⟨Same.refl _, g1.h, g1.bh, fun _ _ h => h⟩, S1.len, fun i s o a b => ?_, S1.na⟩
    have r := S1.sl i s o a b
    cases s <;> exact r
  have back : ∀ {G' B' σ' H'}, Sat X.K ⟨B, bs.H⟩ G' B' σ' H' → Sat X.K bs G' B' σ' H' := fun {G' B' σ' H'} T => by
    refine ⟨⟨S1.gr.b.trans T.gr.b, T.gr.h, T.gr.bh, fun x hx hb => T.gr.n x hx (S1.gr.n x hx hb)⟩, T.len, fun i s o a b => ?_, T.na⟩
    have r := T.sl i s o a b
    cases s <;> exact r
  have wk : Wk X.K B (fun a => if a = p then some (.lst vs) else none) (Itl X.K p) ds := wk_list (vs := vs) (.inl (.inl (by simp))) q3
  have same : ∀ {G' : Gm} {B' : Hp} {σ' : L2.St} {H' : Hp}, Sat X.K ⟨B, bs.H⟩ G' B' σ' H' → G'[i0]? = some (.ob O) → Same (fun a => if a = p then some (.lst vs) else none) H' := fun {G' B' σ' H'} T hg a o ha => by
    obtain ⟨p', _, _, _, _, r⟩ := T.obj hg
    subst hO
    obtain ⟨rfl, r2, _⟩ := r
    dsimp only at ha
    by_cases e : a = p'
    · subst e
      rw [if_pos rfl] at ha
      cases ha
      exact r2
    · rw [if_neg e] at ha
      cases ha
  refine ⟨fun i mm σ' H' => mm = ds.length - i ∧ i ≤ ds.length ∧ ∃ G' B', J O i G' ∧ G'[i0]? = some (.ob O) ∧ Sat X.K ⟨B, bs.H⟩ G' B' σ' H', ⟨ds.length, by simp, Nat.zero_le _, _, B, h0 O, ?_, S1'⟩, ?_⟩
  · rw [List.getElem?_set_self (List.getElem?_eq_some_iff.mp hG).1]
  rintro i mm σ' H' ⟨rfl, hile, G', B', hJ, hGO, T⟩
  have sF := same T hGO
  by_cases hlt : i < ds.length
  · refine .inr ⟨wk.go i H' sF hlt, fun σ2 H2 => ∃ G2 B2, J O (i + 1) G2 ∧ G2[i0]? = some (.ob O) ∧ Sat X.K ⟨B, bs.H⟩ G2 B2 σ2 H2, fun σ2 H2 ⟨G2, B2, j2, g2, T2⟩ => ⟨ds.length - (i + 1), by omega, rfl, hlt, G2, B2, j2, g2, T2⟩, fun x H'' y => ?_⟩
    obtain ⟨d, B'', e1, g3, r3⟩ := wk.yld i B' H' x H'' sF T.gr.b T.gr.bh hlt y
    obtain ⟨_, G2, ws, hg, hb⟩ := hs O i d G' e1 hJ
    refine hg.run ⟨B, bs.H⟩ B'' σ' H'' x (T.gro g3) r3 _ fun σ2 _ T2 => ?_
    have hnext : ∀ G3, J O (i + 1) G3 → G3[i0]? = some (.ob O) := fun G3 j3 => by
      by_cases hl2 : i + 1 < ds.length
      · exact (hs O (i + 1) _ G3 (List.getElem?_eq_getElem hl2) j3).1
      · have e : i + 1 = ds.length := by omega
        exact (hd O G3 (e ▸ j3)).1
    refine hb.run ⟨B, bs.H⟩ B'' σ2 H'' T2 _ ⟨fun G3 B3 σ3 H3 j3 T3 => ⟨G3, B3, j3, hnext G3 j3, T3⟩, fun d v B3 H3 hr g4 r4 => ?_, fun ds q us B3 H3 hr g4 q0 q1 q2 r4 => ?_, fun G3 B3 σ3 H3 j3 T3 => j3.elim, fun G3 B3 σ3 H3 j3 T3 => ⟨G3, B3, j3, hnext G3 j3, T3⟩, ⟨m.xm.top, by
      obtain ⟨Wx, tk, q⟩ := m.xm.xe
      exact ⟨Wx, tk, fun x C G B σ H hr hm T => q x C G B σ H hr hm (back T)⟩⟩⟩
    · exact m.rf d v B3 H3 hr ⟨S1.gr.b.trans g4.b, g4.h, g4.bh, fun x hx hb => g4.n x hx (S1.gr.n x hx hb)⟩ r4
    · exact m.ro ds q us B3 H3 hr ⟨S1.gr.b.trans g4.b, g4.h, g4.bh, fun x hx hb => g4.n x hx (S1.gr.n x hx hb)⟩ q0 q1 q2 r4
  · have e : i = ds.length := by omega
    subst e
    have T' := back T
    obtain ⟨hg, hn⟩ := hd O G' hJ
    refine .inl ⟨wk.stop _ H' sF (Nat.le_refl _), m.nx _ B' σ' H' hn (T'.reslot hg rfl fun o ho => ?_)⟩
    obtain ⟨p', e2, r0, r1, r2, r⟩ := T'.obj hg
    subst hO
    obtain ⟨rfl, r3, r4⟩ := r
    rw [e2] at ho
    cases ho
    exact ⟨p', vs, rfl, r0, r1, r3, r4⟩
theorem gss_forO (C : Cok X W N sc k) (i0 : Nat) (h : okV N sc i0 x = true) (hG : G[i0]? = some (.ow ds)) (J : Ob → Nat → Gm → Prop) (h0 : ∀ O, J O 0 (G.set i0 (.ob O)))
    (hs : ∀ (O : Ob) (i : Nat) (d : D) (G' : Gm), ds[i]? = some d → J O i G' → G'[i0]? = some (.ob O) ∧ ∃ G2 ws, GG X G' tg d G2 ws ∧ GSs X G2 body ⟨J O (i + 1), E.rt, fun _ => False, J O (i + 1)⟩)
    (hd : ∀ (O : Ob) G', J O ds.length G' → G'[i0]? = some (.ob O) ∧ GSs X (G'.set i0 (.ow ds)) sts E) (hf : ∀ v, foldedSetIterable (.Name x p1) X.env v = pure v) : GSs X G (.For tg (.Name x p1) body [] pos :: sts) E :=
  gs_cons (gs_forO (E := ⟨fun G' => GSs X G' sts E, E.rt, E.bk, E.ct⟩) C i0 h hG J h0 hs hd hf)
end
end DW

set_option Elab.async false
set_option linter.all false
set_option maxRecDepth 100000
set_option maxHeartbeats 4000000
set_option autoImplicit false
namespace DW
open PySem PySem.Spec PyProof.Rows L2
/-! ### xs[::-1]; lists that come out empty -/
section
variable {X : Cx} {G : Gm} {a elt iter c : Expr} {ds : List D} {W : Wd} {N : List Str} {sc scope : Scope} {k : Nat} {pos p1 p2 p3 p : Pos} {x : Str}
theorem dpa_rev {K : PySem.W.Frag} {B : Hp} {ds : List D} {vs : List V} (h : DpAll K B vs ds) : DpAll K B vs.reverse ds.reverse := by
  induction ds generalizing vs with
  | nil =>
    cases h
    exact .nil
  | cons d ds ih =>
    cases h with
    | cons h1 h2 =>
      rw [List.reverse_cons, List.reverse_cons]
      exact dpa_app (ih h2) (.cons h1 .nil)
theorem go_rev {kk : Nat} (ha : GL X G a ds) : GO X G (.Subscript a (.Slice none none (some (.UnaryOp .USub (.Constant (.int 1) kk p1) p2)) p3) pos) ds.reverse :=
  ⟨fun bs B σ H S Q q => inE (pe_revL pE) (ha.run bs B σ H S _ fun a vs B1 H1 g1 r1 r2 => by
    refine ⟨a, vs, rfl, r1, fun p hp => ?_⟩
    have g : Grow B1 H1 B1 (upd H1 p (.lst vs.reverse)) := .own g1.bh hp
    exact q p vs.reverse _ _ (g1.trans g) (same_none g1.h hp) (same_none g1.bh hp) upd_same (dpa_rev r2))⟩
end
theorem cmp_neL3F {u v : List P3} (h : u = v) : CmpD .NotEq (.list (u.map P3.en)) (.list (v.map P3.en)) false := by
  have := cmp_neL3 u v
  rwa [decide_eq_true h] at this
theorem cmp_eqL3T {u v : List P3} (h : u = v) : CmpD .Eq (.list (u.map P3.en)) (.list (v.map P3.en)) true := by
  have := cmp_eqL3 u v
  rwa [decide_eq_true h] at this
theorem cmp_neL4F {u v : List Pl} (h : u = v) : CmpD .NotEq (.list (u.map Pl.en)) (.list (v.map Pl.en)) false := by
  have := cmp_neL4 u v
  rwa [decide_eq_true h] at this
theorem cmp_neGF {α : Type} [DecidableEq α] [En α] (hd : En.dp α ≤ 64) {u v : α} (h : u = v) : CmpD .NotEq (En.en u) (En.en v) false := by
  have := cmp_neG hd u v
  rwa [decide_eq_true h] at this
theorem cmp_eqGT {α : Type} [DecidableEq α] [En α] (hd : En.dp α ≤ 64) {u v : α} (h : u = v) : CmpD .Eq (En.en u) (En.en v) true := by
  have := cmp_eqG hd u v
  rwa [decide_eq_true h] at this
section
variable {X : Cx} {G : Gm} {elt iter c : Expr} {W : Wd} {N : List Str} {sc scope : Scope} {k : Nat} {pos p1 p2 p3 p q : Pos} {sts : List Stmt} {E : DE} {x y z : Str}
theorem gg_two {X : Cx} {G : Gm} {W : Wd} {N : List Str} {sc : Scope} {k kk : Nat} {a b : Str} {p1 p2 pos : Pos} {d1 d2 : D} (C : Cok X W N sc k) (i j : Nat) (h : okL N sc i a = true) (h2 : okL N sc j b = true) : GG X G (.Tuple [.Name a p1, .Name b p2] kk pos) (.tuple [d1, d2]) ((G.set i (.fz d1)).set j (.fz d2)) [i, j] :=
  gg_tupN C (ggs_cons C i h (by simp) (ggs_cons C j h2 (by simp) ggs_nil)) rfl rfl
/-- [elt for a, b in iter if c] -/
theorem go_lcTf {α : Type} {xs : List α} {e1 e2 : α → D} {bt : α → Bool} {g : α → D} {kk : Nat} (C : Cok X W N sc k) (i j : Nat) (ok : blkC N sc scope [(x, i), (y, j)] = true) (okl : okL N scope i x = true) (okl2 : okL N scope j y = true) (hi : GIw X G (.Tuple [.Name x p, .Name y q] kk p3) iter (xs.map fun a => .tuple [e1 a, e2 a])) (hz : xs.length ≤ 16777216)
    (ht : ∀ X', Cok X' W N scope k → ∀ a ∈ xs, GT X' (((wipeG G [i, j]).set i (.fz (e1 a))).set j (.fz (e2 a))) c (bt a))
    (he : ∀ X', Cok X' W N scope k → ∀ a ∈ xs, bt a = true → GE X' (((wipeG G [i, j]).set i (.fz (e1 a))).set j (.fz (e2 a))) elt (g a)) (hs : ∀ x, foldedSetIterable iter X.env x = pure x) :
    GO X G (.ListComp elt [⟨.Tuple [.Name x p, .Name y q] kk p3, iter, [c], 0⟩] scope pos) ((xs.filter bt).map g) :=
  go_lc (G1 := fun a => ((wipeG G [i, j]).set i (.fz (e1 a))).set j (.fz (e2 a))) C [(x, i), (y, j)] ok hi hz (fun X' C' a ha => gg_two C' i j okl okl2) (fun X' C' a ha => gts_one (ht X' C' a ha)) he hs
/-- [elt for a, b in iter] -/
theorem go_lcT {α : Type} {xs : List α} {e1 e2 : α → D} {g : α → D} {kk : Nat} (C : Cok X W N sc k) (i j : Nat) (ok : blkC N sc scope [(x, i), (y, j)] = true) (okl : okL N scope i x = true) (okl2 : okL N scope j y = true) (hi : GIw X G (.Tuple [.Name x p, .Name y q] kk p3) iter (xs.map fun a => .tuple [e1 a, e2 a])) (hz : xs.length ≤ 16777216)
    (he : ∀ X', Cok X' W N scope k → ∀ a ∈ xs, GE X' (((wipeG G [i, j]).set i (.fz (e1 a))).set j (.fz (e2 a))) elt (g a)) (hs : ∀ x, foldedSetIterable iter X.env x = pure x) :
    GO X G (.ListComp elt [⟨.Tuple [.Name x p, .Name y q] kk p3, iter, [], 0⟩] scope pos) (xs.map g) := by
  have h := go_lc (bt := fun _ => true) (G1 := fun a => ((wipeG G [i, j]).set i (.fz (e1 a))).set j (.fz (e2 a))) (pos := pos) C [(x, i), (y, j)] ok hi hz (fun X' C' a ha => gg_two C' i j okl okl2) (fun X' C' a ha => gts_nil) (fun X' C' a ha _ => he X' C' a ha) hs
  rw [show xs.filter (fun _ => true) = xs from List.filter_eq_self.mpr fun _ _ => rfl] at h
  exact h
/-- z = [elt for a, b in iter] -/
theorem gss_lcT {α : Type} {xs : List α} {e1 e2 : α → D} {g : α → D} {kk : Nat} (C : Cok X W N sc k) (l i j : Nat) (okj : okL N sc l z = true) (hyl : loc1B sc z = true) (hk : sc.kind = .function) (ok : blkC N sc scope [(x, i), (y, j)] = true) (okl : okL N scope i x = true) (okl2 : okL N scope j y = true) (hi : GIw X G (.Tuple [.Name x p, .Name y q] kk p3) iter (xs.map fun a => .tuple [e1 a, e2 a])) (hz : xs.length ≤ 16777216)
    (he : ∀ X', Cok X' W N scope k → ∀ a ∈ xs, GE X' (((wipeG G [i, j]).set i (.fz (e1 a))).set j (.fz (e2 a))) elt (g a)) (hl : (p1.line == p2.line) = true) (ha : (scope.names.any fun (n, k) => n == z && (k == .local || k == .cell)) = false) (hs : ∀ x, foldedSetIterable iter X.env x = pure x)
    (hn : GSs X (G.set l (.ow (xs.map g))) sts E) : GSs X G (.Assign [.Name z p1] (.ListComp elt [⟨.Tuple [.Name x p, .Name y q] kk p3, iter, [], 0⟩] scope p2) pos :: sts) E := by
  refine gs_cons (gs_asgLc (bt := fun _ => true) (G1 := fun a => ((wipeG G [i, j]).set i (.fz (e1 a))).set j (.fz (e2 a))) C l [(x, i), (y, j)] okj hyl hk ok hi hz (fun X' C' a ha => gg_two C' i j okl okl2) (fun X' C' a ha => gts_nil) (fun X' C' a ha _ => he X' C' a ha) ?_ hl ha hs)
  rw [show xs.filter (fun _ => true) = xs from List.filter_eq_self.mpr fun _ _ => rfl]
  exact hn
end
theorem ge_listL {X : Cx} {G : Gm} {e : Expr} {ds : List D} {W : Wd} {N : List Str} {sc : Scope} {k : Nat} {p pos : Pos} (C : Cok X W N sc k) (hg : glB sc "list" = true) (hm : W.mg "list" = none) (ha : GL X G e ds) (he : nst e = true) : GE X G (.Call (.Name "list" p) [e] [] pos) (.list ds) := GO.ge (go_list C hg hm ha he)
end DW

namespace DW
open PySem PySem.Spec PyProof.Rows L2
def way (P Q : P3) : P3 := ⟨Q.x - P.x, Q.y - P.y, Q.z - P.z⟩
def cross (u v : P3) : P3 := ⟨u.y * v.z - u.z * v.y, u.z * v.x - u.x * v.z, u.x * v.y - u.y * v.x⟩
def prod (u v : P3) : Int := u.x * v.x + u.y * v.y + u.z * v.z
def lift (P Q R S : P3) : Int := prod (cross (way P Q) (way P R)) (way P S)
structure P3.Bd (n : Nat) (u : P3) : Prop where
  x : DW.Bd n u.x
  y : DW.Bd n u.y
  z : DW.Bd n u.z
theorem P3.ext {u v : P3} (h1 : u.x = v.x) (h2 : u.y = v.y) (h3 : u.z = v.z) : u = v := by
  obtain ⟨a, b, c⟩ := u
  obtain ⟨a', b', c'⟩ := v
  cases h1
  cases h2
  cases h3
  rfl
def sideA (p : Pl) (P : P3) : Int := if prod p.n P - p.d > 0 then 1 else if prod p.n P - p.d < 0 then -1 else 0
theorem P3.Bd.mono {n m : Nat} {u : P3} (h : P3.Bd n u) (e : n ≤ m) : P3.Bd m u := ⟨h.x.mono e, h.y.mono e, h.z.mono e⟩
theorem P3.Bd.way {n : Nat} {u v : P3} (h : P3.Bd n u) (g : P3.Bd n v) : P3.Bd (n + 1) (way u v) := ⟨(g.x.sub h.x).mono (by omega), (g.y.sub h.y).mono (by omega), (g.z.sub h.z).mono (by omega)⟩
theorem P3.Bd.cross {n : Nat} {u v : P3} (h : P3.Bd n u) (g : P3.Bd n v) : P3.Bd (n + n + 1) (cross u v) := ⟨((h.y.mul g.z).sub (h.z.mul g.y)).mono (by omega), ((h.z.mul g.x).sub (h.x.mul g.z)).mono (by omega), ((h.x.mul g.y).sub (h.y.mul g.x)).mono (by omega)⟩
theorem P3.Bd.prod {n : Nat} {u v : P3} (h : P3.Bd n u) (g : P3.Bd n v) : DW.Bd (n + n + 2) (prod u v) := (((h.x.mul g.x).add (h.y.mul g.y)).add (h.z.mul g.z)).mono (by omega)
def p3g (w : P3) : Int := Int.gcd (Int.gcd w.x w.y) w.z
theorem p3g_pos {w : P3} (h : ¬(w.x = 0 ∧ w.y = 0 ∧ w.z = 0)) : 0 < p3g w := by
  unfold p3g
  have h0 : Int.gcd (Int.gcd w.x w.y) w.z ≠ 0 := by
    intro e
    rw [Int.gcd_eq_zero_iff] at e
    have e2 : Int.gcd w.x w.y = 0 := by omega
    rw [Int.gcd_eq_zero_iff] at e2
    exact h ⟨e2.1, e2.2, e.2⟩
  omega
theorem p3g_bd {w : P3} {n : Nat} (h : P3.Bd n w) (hp : 0 < p3g w) : Bd n (p3g w) := by
  have d1 : (p3g w) ∣ w.x := Int.dvd_trans (Int.gcd_dvd_left ..) (Int.gcd_dvd_left ..)
  have d2 : (p3g w) ∣ w.y := Int.dvd_trans (Int.gcd_dvd_left ..) (Int.gcd_dvd_right ..)
  have d3 : (p3g w) ∣ w.z := Int.gcd_dvd_right ..
  have key : ∀ z : Int, Bd n z → p3g w ∣ z → z ≠ 0 → Bd n (p3g w) := fun z hz hd h0 => by
    have := Nat.le_of_dvd (by omega) (Int.natAbs_dvd_natAbs.mpr hd)
    exact Nat.lt_of_le_of_lt this hz
  by_cases hx : w.x = 0
  · by_cases hy : w.y = 0
    · by_cases hz : w.z = 0
      · exfalso
        unfold p3g at hp
        rw [hx, hy, hz] at hp
        exact absurd hp (by decide)
      · exact key _ h.z d3 hz
    · exact key _ h.y d2 hy
  · exact key _ h.x d1 hx
def divP (w : P3) (m : Int) : P3 := ⟨w.x / m, w.y / m, w.z / m⟩
def planeOf (c P : P3) : Pl := ⟨divP c (p3g c), prod (divP c (p3g c)) P⟩
def planeA (P Q R : P3) : Pl := planeOf (cross (way P Q) (way P R)) P
theorem P3.Bd.divP {n : Nat} {w : P3} {m : Int} (h : P3.Bd n w) (hm : 0 < m) : P3.Bd n (divP w m) := ⟨h.x.div hm, h.y.div hm, h.z.div hm⟩
theorem gcd_nat_left (a b : Int) : Int.gcd ((Int.gcd 0 a : Nat) : Int) b = Int.gcd a b := by
  rw [Int.gcd_zero_left]
  show Nat.gcd (Int.natAbs ((a.natAbs : Nat) : Int)) b.natAbs = Nat.gcd a.natAbs b.natAbs
  rw [Int.natAbs_natCast]
theorem p3g_fold (w : P3) : ((Int.gcd ((Int.gcd ((Int.gcd 0 w.x : Nat) : Int) w.y : Nat) : Int) w.z : Nat) : Int) = p3g w := by
  unfold p3g
  rw [gcd_nat_left]
theorem p3g_div {w : P3} (h : 0 < p3g w) : w.x = (w.x / p3g w) * p3g w ∧ w.y = (w.y / p3g w) * p3g w ∧ w.z = (w.z / p3g w) * p3g w := by
  have d1 : (p3g w) ∣ w.x := Int.dvd_trans (Int.gcd_dvd_left ..) (Int.gcd_dvd_left ..)
  have d2 : (p3g w) ∣ w.y := Int.dvd_trans (Int.gcd_dvd_left ..) (Int.gcd_dvd_right ..)
  have d3 : (p3g w) ∣ w.z := Int.gcd_dvd_right ..
  exact ⟨(Int.ediv_mul_cancel d1).symm, (Int.ediv_mul_cancel d2).symm, (Int.ediv_mul_cancel d3).symm⟩
theorem P3.Bd.mem {n : Nat} {u : P3} {a : Int} (h : P3.Bd n u) (m : a ∈ [u.x, u.y, u.z]) : DW.Bd n a := by
  simp only [List.mem_cons, List.not_mem_nil, or_false] at m
  rcases m with rfl | rfl | rfl
  · exact h.x
  · exact h.y
  · exact h.z
theorem lagrange (u v : P3) : prod (cross u v) (cross u v) + prod u v * prod u v = prod u u * prod v v := by
  obtain ⟨a, b, c⟩ := u
  obtain ⟨d, e, f⟩ := v
  simp only [prod, cross]
  grind
theorem sgn_mul {z g l : Int} (hg : 0 < g) (key : l = z * g) : (if z > 0 then (1 : Int) else if z < 0 then -1 else 0) = (if l > 0 then 1 else 0) - (if l < 0 then 1 else 0) := by
  subst key
  rcases Int.lt_trichotomy z 0 with h | h | h
  · have : z * g < 0 := Int.mul_neg_of_neg_of_pos h hg
    rw [if_neg (by omega), if_pos h, if_neg (by omega), if_pos this]
    rfl
  · subst h
    simp
  · have : 0 < z * g := Int.mul_pos h hg
    rw [if_pos h, if_pos this, if_neg (by omega)]
    rfl
theorem lift_plane {P Q S T : P3} (hg : 0 < p3g (cross (way P Q) (way P S))) : lift P Q S T = (prod (planeA P Q S).n T - (planeA P Q S).d) * p3g (cross (way P Q) (way P S)) := by
  obtain ⟨q1, q2, q3⟩ := p3g_div hg
  show prod (cross (way P Q) (way P S)) (way P T) = (prod (divP _ _) T - prod (divP _ _) P) * _
  generalize p3g (cross (way P Q) (way P S)) = g at q1 q2 q3
  generalize cross (way P Q) (way P S) = c at q1 q2 q3
  simp only [prod, way, divP]
  generalize c.x / g = a at q1
  generalize c.y / g = b at q2
  generalize c.z / g = d at q3
  rw [q1, q2, q3]
  obtain ⟨p1, p2, p3⟩ := P
  obtain ⟨t1, t2, t3⟩ := T
  clear q1 q2 q3 hg
  grind
theorem faces_zero (P Q S T : P3) : (⟨(cross (way P Q) (way P S)).x + ((cross (way P S) (way P T)).x + ((cross (way P T) (way P Q)).x + ((cross (way Q T) (way Q S)).x + 0))), (cross (way P Q) (way P S)).y + ((cross (way P S) (way P T)).y + ((cross (way P T) (way P Q)).y + ((cross (way Q T) (way Q S)).y + 0))), (cross (way P Q) (way P S)).z + ((cross (way P S) (way P T)).z + ((cross (way P T) (way P Q)).z + ((cross (way Q T) (way Q S)).z + 0)))⟩ : P3) = ⟨0, 0, 0⟩ := by
  simp only [cross, way]
  apply P3.ext
  all_goals
    dsimp only
    grind
theorem P3.Bd.at {n : Nat} {u : P3} {a : Int} (h : P3.Bd n u) : DW.Bd n (u.at a) := by
  unfold P3.at
  split
  · exact h.x
  · split
    · exact h.y
    · exact h.z
theorem cross_cyc (P Q S : P3) : cross (way Q S) (way Q P) = cross (way P Q) (way P S) := by
  apply P3.ext
  all_goals
    simp only [cross, way]
    grind
def negP (u : P3) : P3 := ⟨-u.x, -u.y, -u.z⟩
theorem cross_sw (u v : P3) : cross v u = negP (cross u v) := by
  apply P3.ext
  all_goals
    simp only [cross, negP]
    grind
theorem p3g_neg (u : P3) : p3g (negP u) = p3g u := by
  unfold p3g negP
  simp only [Int.gcd_neg, Int.neg_gcd]
theorem lift_self (P Q S : P3) : lift P Q S Q = 0 ∧ lift P Q S S = 0 := by
  simp only [lift, prod, cross, way]
  constructor
  · grind
  · grind
theorem plane_on {P Q S : P3} (hg : 0 < p3g (cross (way P Q) (way P S))) : prod (planeA P Q S).n Q = (planeA P Q S).d ∧ prod (planeA P Q S).n S = (planeA P Q S).d := by
  have h1 := lift_plane (T := Q) hg
  have h2 := lift_plane (T := S) hg
  rw [(lift_self P Q S).1] at h1
  rw [(lift_self P Q S).2] at h2
  have e1 := (Int.mul_eq_zero.mp h1.symm).resolve_right (by omega)
  have e2 := (Int.mul_eq_zero.mp h2.symm).resolve_right (by omega)
  omega
theorem planeA_cyc {P Q S : P3} (hg : 0 < p3g (cross (way P Q) (way P S))) : planeA Q S P = planeA P Q S := by
  have h := (plane_on hg).1
  show planeOf (cross (way Q S) (way Q P)) Q = planeOf (cross (way P Q) (way P S)) P
  rw [cross_cyc]
  unfold planeOf
  congr 1
theorem divP_neg {c : P3} (hg : 0 < p3g c) : divP (negP c) (p3g c) = negP (divP c (p3g c)) := by
  have d1 : (p3g c) ∣ c.x := Int.dvd_trans (Int.gcd_dvd_left ..) (Int.gcd_dvd_left ..)
  have d2 : (p3g c) ∣ c.y := Int.dvd_trans (Int.gcd_dvd_left ..) (Int.gcd_dvd_right ..)
  have d3 : (p3g c) ∣ c.z := Int.gcd_dvd_right ..
  unfold divP negP
  rw [Int.neg_ediv_of_dvd d1, Int.neg_ediv_of_dvd d2, Int.neg_ediv_of_dvd d3]
theorem planeA_sw {P Q S : P3} (hg : 0 < p3g (cross (way P Q) (way P S))) : planeA P S Q = ⟨negP (planeA P Q S).n, -(planeA P Q S).d⟩ := by
  show planeOf (cross (way P S) (way P Q)) P = ⟨negP (divP (cross (way P Q) (way P S)) (p3g (cross (way P Q) (way P S)))), -(prod (divP (cross (way P Q) (way P S)) (p3g (cross (way P Q) (way P S)))) P)⟩
  rw [cross_sw]
  generalize cross (way P Q) (way P S) = c at hg
  unfold planeOf
  rw [p3g_neg, divP_neg hg]
  generalize divP c (p3g c) = n
  congr 1
  simp only [prod, negP]
  grind
end DW

namespace DW
open PySem PySem.Spec PyProof.Rows L2
structure Mv.Bd (n : Nat) (m : Mv) : Prop where
  a : P3.Bd n m.a
  b : P3.Bd n m.b
  c : P3.Bd n m.c
  o : P3.Bd n m.o
theorem Mv.Bd.mono {n k : Nat} {m : Mv} (h : Mv.Bd n m) (e : n ≤ k) : Mv.Bd k m := ⟨h.a.mono e, h.b.mono e, h.c.mono e, h.o.mono e⟩
def Mv.det (m : Mv) : Int := prod m.a (cross m.b m.c)
def Mv.turn (m : Mv) (P : P3) : P3 := ⟨prod m.a P, prod m.b P, prod m.c P⟩
def addP (u v : P3) : P3 := ⟨u.x + v.x, u.y + v.y, u.z + v.z⟩
def Mv.app (m : Mv) (P : P3) : P3 := addP (m.turn P) m.o
theorem P3.Bd.addP {n k : Nat} {u v : P3} (h : P3.Bd n u) (g : P3.Bd k v) : P3.Bd (max n k + 1) (addP u v) := ⟨h.x.add g.x, h.y.add g.y, h.z.add g.z⟩
/-- a move, or its nine numbers as a list -/
inductive Mrow : D → P3 → P3 → P3 → Prop
  | t {m : Mv} : Mrow m.en m.a m.b m.c
  | l {a b c : P3} : Mrow (.list [.int a.x, .int a.y, .int a.z, .int b.x, .int b.y, .int b.z, .int c.x, .int c.y, .int c.z]) a b c
def Mv.behind (f s : Mv) : Mv := ⟨⟨prod s.a ⟨f.a.x, f.b.x, f.c.x⟩, prod s.a ⟨f.a.y, f.b.y, f.c.y⟩, prod s.a ⟨f.a.z, f.b.z, f.c.z⟩⟩, ⟨prod s.b ⟨f.a.x, f.b.x, f.c.x⟩, prod s.b ⟨f.a.y, f.b.y, f.c.y⟩, prod s.b ⟨f.a.z, f.b.z, f.c.z⟩⟩, ⟨prod s.c ⟨f.a.x, f.b.x, f.c.x⟩, prod s.c ⟨f.a.y, f.b.y, f.c.y⟩, prod s.c ⟨f.a.z, f.b.z, f.c.z⟩⟩, s.app f.o⟩ -- behindM
theorem Mv.Bd.at {n : Nat} {m : Mv} {a : Int} (h : Mv.Bd n m) (h0 : 0 ≤ a) (h1 : a < 12) : DW.Bd n (m.at a) := by
  have e : a = 0 ∨ a = 1 ∨ a = 2 ∨ a = 3 ∨ a = 4 ∨ a = 5 ∨ a = 6 ∨ a = 7 ∨ a = 8 ∨ a = 9 ∨ a = 10 ∨ a = 11 := by omega
  rcases e with e | e | e | e | e | e | e | e | e | e | e | e <;> subst e
  · exact h.a.x
  · exact h.a.y
  · exact h.a.z
  · exact h.b.x
  · exact h.b.y
  · exact h.b.z
  · exact h.c.x
  · exact h.c.y
  · exact h.c.z
  · exact h.o.x
  · exact h.o.y
  · exact h.o.z
def Mv.back (m : Mv) : Mv :=
  let s := m.det
  let u := cross m.b m.c
  let v := cross m.c m.a
  let w := cross m.a m.b
  let a : P3 := ⟨s * u.x, s * v.x, s * w.x⟩
  let b : P3 := ⟨s * u.y, s * v.y, s * w.y⟩
  let c : P3 := ⟨s * u.z, s * v.z, s * w.z⟩
  ⟨a, b, c, ⟨-prod a m.o, -prod b m.o, -prod c m.o⟩⟩
end DW

namespace DW
open PySem PySem.Spec PyProof.Rows L2
instance {n : Nat} {i : Int} : Decidable (Bd n i) := inferInstanceAs (Decidable (i.natAbs < 2 ^ n))
/-! the cells and numbers of the first laws -/
def cellA (ns : List Int) (k : Int) : Int := if k < (ns.length : Int) then ns.getD k.toNat 0 else 7 * k * k + 10 * k + 3
theorem getD_mem {ns : List Int} {k : Nat} (h : k < ns.length) : ns.getD k 0 ∈ ns := by
  rw [List.getD_eq_getElem?_getD, List.getElem?_eq_getElem h]
  exact List.getElem_mem h
theorem cellA_bd {ns : List Int} {k : Int} (hb : ∀ z ∈ ns, Bd 1048576 z) (h0 : 0 ≤ k) (h1 : k ≤ 100) : Bd 1048576 (cellA ns k) := by
  unfold cellA
  split
  · exact hb _ (getD_mem (by omega))
  · have e : Bd 100 (7 * k * k + 10 * k + 3) := by
      have hk : Bd 7 k := by
        show k.natAbs < 2 ^ 7
        omega
      have h7 : Bd 3 7 := by decide
      have h10 : Bd 4 10 := by decide
      have h3 : Bd 2 3 := by decide
      exact ((((h7.mul hk).mul hk).add (h10.mul hk)).add h3).mono (by decide)
    exact e.mono (by decide)
def greatA : Int := 10 ^ 64 * 10 ^ 34
def numA (c : Int) : Int := if c % 5 = 0 then c / 5 * (greatA / 8675309 + 11) % (2 * greatA + 1) - greatA else if c % 5 = 1 then c / 5 % 2000001 - 1000000 else c / 5 % 15 - 7
theorem greatA_bd : Bd 330 greatA := by decide +kernel
theorem greatA_pos : 0 < greatA := by decide +kernel
theorem bd_emod {n : Nat} {a m : Int} (h : 0 < m) (g : Bd n m) : Bd n (a % m) := Bd.mod h g
theorem numA_bd (c : Int) : Bd 400 (numA c) := by
  unfold numA
  split
  · have h1 : Bd 330 (2 * greatA + 1) := by decide +kernel
    have h2 : Bd 330 greatA := by decide +kernel
    exact (Bd.sub (Bd.mod (by decide +kernel) h1) h2).mono (by decide)
  · split
    · have h1 : Bd 30 (2000001 : Int) := by decide
      have h2 : Bd 30 (1000000 : Int) := by decide
      exact (Bd.sub (Bd.mod (by decide) h1) h2).mono (by decide)
    · have h1 : Bd 30 (15 : Int) := by decide
      have h2 : Bd 30 (7 : Int) := by decide
      exact (Bd.sub (Bd.mod (by decide) h1) h2).mono (by decide)
def wayR (c0 c1 c2 : Int) : P3 := if numA c0 = 0 ∧ numA c1 = 0 ∧ numA c2 = 0 then ⟨0, 2, -1⟩ else ⟨numA c0, numA c1, numA c2⟩
def wayN (c0 c1 c2 : Int) : P3 := ⟨(wayR c0 c1 c2).x / p3g (wayR c0 c1 c2), (wayR c0 c1 c2).y / p3g (wayR c0 c1 c2), (wayR c0 c1 c2).z / p3g (wayR c0 c1 c2)⟩
theorem wayR_bd (c0 c1 c2 : Int) : P3.Bd 400 (wayR c0 c1 c2) := by
  unfold wayR
  split
  · exact ⟨by decide, by decide, by decide⟩
  · exact ⟨numA_bd _, numA_bd _, numA_bd _⟩
theorem wayR_pos (c0 c1 c2 : Int) : 0 < p3g (wayR c0 c1 c2) := by
  apply p3g_pos
  unfold wayR
  split
  · decide
  · assumption
theorem wayN_bd (c0 c1 c2 : Int) : P3.Bd 400 (wayN c0 c1 c2) := by
  have h := wayR_bd c0 c1 c2
  have p := wayR_pos c0 c1 c2
  exact ⟨h.x.div p, h.y.div p, h.z.div p⟩

end DW

set_option autoImplicit false
namespace DW
open PySem PySem.Spec PyProof.Rows L2
/-! ### three rows, changed step by step -/
abbrev sqD (u : P3) : D := .list [.int u.x, .int u.y, .int u.z]
structure R3 where
  a : P3
  b : P3
  c : P3
def R3.get (r : R3) (i : Int) : P3 := if i = 0 then r.a else if i = 1 then r.b else r.c
def R3.set (r : R3) (i : Int) (u : P3) : R3 := if i = 0 then ⟨u, r.b, r.c⟩ else if i = 1 then ⟨r.a, u, r.c⟩ else ⟨r.a, r.b, u⟩
def R3.ds (r : R3) : List D := [sqD r.a, sqD r.b, sqD r.c]
def R3.det (r : R3) : Int := prod r.a (cross r.b r.c)
def timesR (c : Int) : Int := if c / 210 % 8 = 5 then (c / 6 % 7 - 3) * (10 ^ (9 : Int).toNat + 7) else c / 6 % 7 - 3
def addM (u : P3) (t : Int) (v : P3) : P3 := ⟨u.x + t * v.x, u.y + t * v.y, u.z + t * v.z⟩
def jR (c : Int) : Int := (c % 3 + 1 + c / 3 % 2) % 3
def stepR (c : Int) (r : R3) : R3 :=
  if c / 42 % 5 < 3 then r.set (jR c) (addM (r.get (jR c)) (timesR c) (r.get (c % 3)))
  else if c / 42 % 5 = 3 then (r.set (c % 3) (r.get (jR c))).set (jR c) (r.get (c % 3))
  else r.set (c % 3) ⟨-(r.get (c % 3)).x, -(r.get (c % 3)).y, -(r.get (c % 3)).z⟩
def R3.one : R3 := ⟨⟨1, 0, 0⟩, ⟨0, 1, 0⟩, ⟨0, 0, 1⟩⟩
def rowsA (cs : List Int) : R3 := cs.foldl (fun r c => stepR c r) R3.one
theorem rowsA_take {cs : List Int} {i : Nat} {c : Int} (h : cs[i]? = some c) : rowsA (cs.take (i + 1)) = stepR c (rowsA (cs.take i)) := by
  unfold rowsA
  rw [List.take_add_one, h, List.foldl_append]
  rfl
structure R3.Bd (n : Nat) (r : R3) : Prop where
  a : P3.Bd n r.a
  b : P3.Bd n r.b
  c : P3.Bd n r.c
theorem R3.Bd.mono {n m : Nat} {r : R3} (h : R3.Bd n r) (e : n ≤ m) : R3.Bd m r := ⟨h.a.mono e, h.b.mono e, h.c.mono e⟩
theorem R3.Bd.get {n : Nat} {r : R3} (h : R3.Bd n r) (i : Int) : P3.Bd n (r.get i) := by
  unfold R3.get
  split
  · exact h.a
  · split
    · exact h.b
    · exact h.c
theorem R3.Bd.set {n : Nat} {r : R3} {u : P3} (h : R3.Bd n r) (hu : P3.Bd n u) (i : Int) : R3.Bd n (r.set i u) := by
  unfold R3.set
  split
  · exact ⟨hu, h.b, h.c⟩
  · split
    · exact ⟨h.a, hu, h.c⟩
    · exact ⟨h.a, h.b, hu⟩
theorem times_bd (c : Int) : Bd 40 (timesR c) := by
  have h : Bd 4 (c / 6 % 7 - 3) := by
    have h1 := Int.emod_nonneg (c / 6) (show (7 : Int) ≠ 0 by decide)
    have h2 := Int.emod_lt_of_pos (c / 6) (show (0 : Int) < 7 by decide)
    show (c / 6 % 7 - 3).natAbs < 2 ^ 4
    omega
  unfold timesR
  split
  · exact (h.mul (show Bd 31 (10 ^ (9 : Int).toNat + 7) by decide +kernel)).mono (by decide)
  · exact h.mono (by decide)
theorem P3.Bd.addM {n : Nat} {u v : P3} {t : Int} (hu : P3.Bd n u) (ht : DW.Bd 40 t) (hv : P3.Bd n v) : P3.Bd (n + 41) (DW.addM u t v) :=
  ⟨(hu.x.add (ht.mul hv.x)).mono (by omega), (hu.y.add (ht.mul hv.y)).mono (by omega), (hu.z.add (ht.mul hv.z)).mono (by omega)⟩
theorem step_bd {n : Nat} {r : R3} (h : R3.Bd n r) (c : Int) : R3.Bd (n + 41) (stepR c r) := by
  have h' := h.mono (m := n + 41) (by omega)
  unfold stepR
  split
  · exact h'.set ((h.get _).addM (times_bd c) (h.get _)) _
  · split
    · exact (h'.set (h'.get _) _).set (h'.get _) _
    · have g := h'.get (c % 3)
      exact h'.set ⟨g.x.neg, g.y.neg, g.z.neg⟩ _
theorem rows_bd : ∀ (cs : List Int) (r : R3) (n : Nat), R3.Bd n r → R3.Bd (n + 41 * cs.length) (cs.foldl (fun r c => stepR c r) r)
  | [], r, n, h => by simpa using h
  | c :: cs, r, n, h => by
    have := rows_bd cs (stepR c r) (n + 41) (step_bd h c)
    rw [List.foldl_cons, List.length_cons]
    exact this.mono (by omega)
theorem rowsA_bd (cs : List Int) : R3.Bd (1 + 41 * cs.length) (rowsA cs) := rows_bd cs _ 1 ⟨⟨by decide, by decide, by decide⟩, ⟨by decide, by decide, by decide⟩, ⟨by decide, by decide, by decide⟩⟩
theorem rowsA_take_bd (cs : List Int) (i : Nat) : R3.Bd (1 + 41 * cs.length) (rowsA (cs.take i)) := (rowsA_bd (cs.take i)).mono (by rw [List.length_take]; omega)
theorem mod3 (c : Int) : c % 3 = 0 ∨ c % 3 = 1 ∨ c % 3 = 2 := by omega
theorem jR_in (c : Int) : (c % 3 = 0 ∧ (jR c = 1 ∨ jR c = 2)) ∨ (c % 3 = 1 ∧ (jR c = 2 ∨ jR c = 0)) ∨ (c % 3 = 2 ∧ (jR c = 0 ∨ jR c = 1)) := by
  unfold jR
  omega
theorem step_det (c : Int) (r : R3) : (stepR c r).det = r.det ∨ (stepR c r).det = -r.det := by
  obtain ⟨a, b, d⟩ := r
  unfold stepR
  generalize timesR c = t
  rcases jR_in c with ⟨hi, hj | hj⟩ | ⟨hi, hj | hj⟩ | ⟨hi, hj | hj⟩
  all_goals
    rw [hi, hj]
    split
    · left
      simp only [R3.set, R3.get, R3.det, addM, prod, cross]
      simp only [show ((1 : Int) = 0) = False by decide, show ((2 : Int) = 0) = False by decide, show ((2 : Int) = 1) = False by decide, show ((0 : Int) = 0) = True by decide, show ((1 : Int) = 1) = True by decide, if_true, if_false]
      grind
    · right
      split
      · simp only [R3.set, R3.get, R3.det, addM, prod, cross]
        simp only [show ((1 : Int) = 0) = False by decide, show ((2 : Int) = 0) = False by decide, show ((2 : Int) = 1) = False by decide, show ((0 : Int) = 0) = True by decide, show ((1 : Int) = 1) = True by decide, if_true, if_false]
        grind
      · simp only [R3.set, R3.get, R3.det, addM, prod, cross]
        simp only [show ((1 : Int) = 0) = False by decide, show ((2 : Int) = 0) = False by decide, show ((2 : Int) = 1) = False by decide, show ((0 : Int) = 0) = True by decide, show ((1 : Int) = 1) = True by decide, if_true, if_false]
        grind
theorem rows_det : ∀ (cs : List Int) (r : R3), r.det.natAbs = 1 → (cs.foldl (fun r c => stepR c r) r).det.natAbs = 1
  | [], r, h => h
  | c :: cs, r, h => by
    rw [List.foldl_cons]
    refine rows_det cs _ ?_
    rcases step_det c r with e | e <;> rw [e] <;> omega
theorem rowsA_det (cs : List Int) : (rowsA cs).det.natAbs = 1 := rows_det cs _ (by decide)
def moveA (cs : List Int) (far : Int) : Mv := ⟨(rowsA cs).a, (rowsA cs).b, (rowsA cs).c, ⟨far % 41 - 20, far / 41 % 2001 - 1000, far / 7 % 10 ^ (12 : Int).toNat - 10 ^ (6 : Int).toNat⟩⟩
theorem moveA_det (cs : List Int) (far : Int) : (moveA cs far).det.natAbs = 1 := rowsA_det cs
theorem mod_bd' {n : Nat} {a m c : Int} (hm : 0 < m) (hc : 0 ≤ c) (hcm : c ≤ m) (g : Bd n m) : Bd n (a % m - c) := by
  have h1 := Int.emod_nonneg a (show m ≠ 0 by omega)
  have h2 := Int.emod_lt_of_pos a hm
  have g' : m.natAbs < 2 ^ n := g
  show (a % m - c).natAbs < 2 ^ n
  omega
theorem moveA_bd (cs : List Int) (far : Int) (h : cs.length ≤ 6) : Mv.Bd 300 (moveA cs far) := by
  have r := (rowsA_bd cs).mono (m := 300) (by omega)
  exact ⟨r.a, r.b, r.c, ⟨(mod_bd' (n := 6) (by decide) (by decide) (by decide) (by decide)).mono (by decide), (mod_bd' (n := 12) (by decide) (by decide) (by decide) (by decide)).mono (by decide), (mod_bd' (n := 41) (by decide +kernel) (by decide +kernel) (by decide +kernel) (by decide +kernel)).mono (by decide)⟩⟩
theorem r3_at {r : R3} {i : Int} (h0 : 0 ≤ i) (h1 : i < 3) : atI r.ds i = some (sqD (r.get i)) := by
  have h : i = 0 ∨ i = 1 ∨ i = 2 := by omega
  rcases h with rfl | rfl | rfl <;> rfl
theorem r3_set {r : R3} {i : Int} {u : P3} (h0 : 0 ≤ i) (h1 : i < 3) : r.ds.set i.toNat (sqD u) = (r.set i u).ds := by
  have h : i = 0 ∨ i = 1 ∨ i = 2 := by omega
  rcases h with rfl | rfl | rfl <;> rfl
theorem r3_ix {r : R3} {i : Int} (h0 : 0 ≤ i) (h1 : i < 3) : ixN r.ds.length i = some i.toNat := by
  have h : i = 0 ∨ i = 1 ∨ i = 2 := by omega
  rcases h with rfl | rfl | rfl <;> rfl
theorem ixl3' {u : P3} {a : Int} (h0 : 0 ≤ a) (h1 : a < 3) : IxV (.s (sqD u)) a (.int (u.at a)) := by
  have h : a = 0 ∨ a = 1 ∨ a = 2 := by omega
  rcases h with h | h | h
  · subst h
    exact .lst rfl
  · subst h
    exact .lst rfl
  · subst h
    exact .lst rfl
theorem rng3' {β : Type} (f : Int → β) : (rngL 0 3).map f = [f 0, f 1, f 2] := rfl
/-! ### moves put together -/
theorem P3.ext3 {u v : P3} (h : ∀ w, prod w u = prod w v) : u = v := by
  have a := h ⟨1, 0, 0⟩
  have b := h ⟨0, 1, 0⟩
  have c := h ⟨0, 0, 1⟩
  simp only [prod] at a b c
  exact P3.ext (by omega) (by omega) (by omega)
def Mv.still : Mv := ⟨⟨1, 0, 0⟩, ⟨0, 1, 0⟩, ⟨0, 0, 1⟩, ⟨0, 0, 0⟩⟩
theorem Mv.ext {m n : Mv} (h1 : m.a = n.a) (h2 : m.b = n.b) (h3 : m.c = n.c) (h4 : m.o = n.o) : m = n := by
  cases m
  cases n
  simp only at h1 h2 h3 h4
  rw [h1, h2, h3, h4]
theorem prod_lin (s u v w : P3) (a b c : Int) : prod s ⟨u.x * a + v.x * b + w.x * c, u.y * a + v.y * b + w.y * c, u.z * a + v.z * b + w.z * c⟩ = prod s u * a + prod s v * b + prod s w * c := by
  simp only [prod]
  grind
theorem behind_app (f s : Mv) (P : P3) : (f.behind s).app P = s.app (f.app P) := by
  have key : ∀ (w o : P3) (k : Int), prod (⟨prod w ⟨f.a.x, f.b.x, f.c.x⟩, prod w ⟨f.a.y, f.b.y, f.c.y⟩, prod w ⟨f.a.z, f.b.z, f.c.z⟩⟩ : P3) P + (prod w f.o + k) = prod w (f.app P) + k := fun w o k => by
    simp only [Mv.app, Mv.turn, addP, prod]
    grind
  apply P3.ext
  · exact key s.a s.o s.o.x
  · exact key s.b s.o s.o.y
  · exact key s.c s.o s.o.z
/-- a move is what it does -/
theorem Mv.same {m n : Mv} (h : ∀ P, m.app P = n.app P) : m = n := by
  have h0 := h ⟨0, 0, 0⟩
  have h1 := h ⟨1, 0, 0⟩
  have h2 := h ⟨0, 1, 0⟩
  have h3 := h ⟨0, 0, 1⟩
  simp only [Mv.app, Mv.turn, addP, prod, P3.mk.injEq] at h0 h1 h2 h3
  refine Mv.ext (P3.ext ?_ ?_ ?_) (P3.ext ?_ ?_ ?_) (P3.ext ?_ ?_ ?_) (P3.ext ?_ ?_ ?_) <;> omega
theorem still_app (P : P3) : Mv.still.app P = P := by
  apply P3.ext
  all_goals
    simp only [Mv.still, Mv.app, Mv.turn, addP, prod]
    omega
theorem behind_still (m : Mv) : m.behind .still = m := Mv.same fun P => by rw [behind_app, still_app]
theorem still_behind (m : Mv) : Mv.still.behind m = m := Mv.same fun P => by rw [behind_app, still_app]
theorem behind_assoc (f s t : Mv) : (f.behind s).behind t = f.behind (s.behind t) := Mv.same fun P => by rw [behind_app, behind_app, behind_app, behind_app]
theorem cofac (a b c w : P3) : prod w ⟨(cross b c).x * a.x + (cross c a).x * b.x + (cross a b).x * c.x, (cross b c).x * a.y + (cross c a).x * b.y + (cross a b).x * c.y, (cross b c).x * a.z + (cross c a).x * b.z + (cross a b).x * c.z⟩ = prod a (cross b c) * w.x := by
  simp only [prod, cross]
  grind
theorem back_app (m : Mv) (hd : m.det.natAbs = 1) (P : P3) : m.back.app (m.app P) = P := by
  have hs : m.det * m.det = 1 := by
    rcases (show m.det = 1 ∨ m.det = -1 by omega) with h | h <;> rw [h] <;> rfl
  have e : ∀ (x y z : Int), x * prod m.a P + y * prod m.b P + z * prod m.c P = prod ⟨x * m.a.x + y * m.b.x + z * m.c.x, x * m.a.y + y * m.b.y + z * m.c.y, x * m.a.z + y * m.b.z + z * m.c.z⟩ P := fun x y z => by
    simp only [prod]
    grind
  have k1 : ∀ (u v w s : Int), prod ⟨s * u, s * v, s * w⟩ (m.app P) + -prod ⟨s * u, s * v, s * w⟩ m.o = s * (u * prod m.a P + v * prod m.b P + w * prod m.c P) := fun u v w s => by
    simp only [Mv.app, Mv.turn, addP, prod]
    grind
  have c1 : (cross m.b m.c).x * prod m.a P + (cross m.c m.a).x * prod m.b P + (cross m.a m.b).x * prod m.c P = m.det * P.x := by
    simp only [prod, cross, Mv.det]
    grind
  have c2 : (cross m.b m.c).y * prod m.a P + (cross m.c m.a).y * prod m.b P + (cross m.a m.b).y * prod m.c P = m.det * P.y := by
    simp only [prod, cross, Mv.det]
    grind
  have c3 : (cross m.b m.c).z * prod m.a P + (cross m.c m.a).z * prod m.b P + (cross m.a m.b).z * prod m.c P = m.det * P.z := by
    simp only [prod, cross, Mv.det]
    grind
  have fin : ∀ x : Int, m.det * (m.det * x) = x := fun x => by rw [← Int.mul_assoc, hs, Int.one_mul]
  apply P3.ext
  · show prod ⟨m.det * (cross m.b m.c).x, m.det * (cross m.c m.a).x, m.det * (cross m.a m.b).x⟩ (m.app P) + -prod ⟨m.det * (cross m.b m.c).x, m.det * (cross m.c m.a).x, m.det * (cross m.a m.b).x⟩ m.o = P.x
    rw [k1, c1, fin]
  · show prod ⟨m.det * (cross m.b m.c).y, m.det * (cross m.c m.a).y, m.det * (cross m.a m.b).y⟩ (m.app P) + -prod ⟨m.det * (cross m.b m.c).y, m.det * (cross m.c m.a).y, m.det * (cross m.a m.b).y⟩ m.o = P.y
    rw [k1, c2, fin]
  · show prod ⟨m.det * (cross m.b m.c).z, m.det * (cross m.c m.a).z, m.det * (cross m.a m.b).z⟩ (m.app P) + -prod ⟨m.det * (cross m.b m.c).z, m.det * (cross m.c m.a).z, m.det * (cross m.a m.b).z⟩ m.o = P.z
    rw [k1, c3, fin]
theorem app_back (m : Mv) (hd : m.det.natAbs = 1) (P : P3) : m.app (m.back.app P) = P := by
  have hs : m.det * m.det = 1 := by
    rcases (show m.det = 1 ∨ m.det = -1 by omega) with h | h <;> rw [h] <;> rfl
  -- m.turn of the back
  have k : ∀ w : P3, prod w ⟨prod m.back.a P + m.back.o.x, prod m.back.b P + m.back.o.y, prod m.back.c P + m.back.o.z⟩ = m.det * (prod w (cross m.b m.c) * (P.x - m.o.x) + prod w (cross m.c m.a) * (P.y - m.o.y) + prod w (cross m.a m.b) * (P.z - m.o.z)) := fun w => by
    simp only [Mv.back, prod]
    generalize m.det = s
    generalize cross m.b m.c = u
    generalize cross m.c m.a = v
    generalize cross m.a m.b = t
    grind
  have a1 : prod m.a (cross m.b m.c) = m.det := rfl
  have a2 : prod m.a (cross m.c m.a) = 0 := by simp only [prod, cross]; grind
  have a3 : prod m.a (cross m.a m.b) = 0 := by simp only [prod, cross]; grind
  have b1 : prod m.b (cross m.b m.c) = 0 := by simp only [prod, cross]; grind
  have b2 : prod m.b (cross m.c m.a) = m.det := by simp only [prod, cross, Mv.det]; grind
  have b3 : prod m.b (cross m.a m.b) = 0 := by simp only [prod, cross]; grind
  have d1 : prod m.c (cross m.b m.c) = 0 := by simp only [prod, cross]; grind
  have d2 : prod m.c (cross m.c m.a) = 0 := by simp only [prod, cross]; grind
  have d3 : prod m.c (cross m.a m.b) = m.det := by simp only [prod, cross, Mv.det]; grind
  have fin : ∀ x : Int, m.det * (m.det * x) = x := fun x => by rw [← Int.mul_assoc, hs, Int.one_mul]
  apply P3.ext
  · show prod m.a _ + m.o.x = P.x
    rw [show m.back.app P = ⟨prod m.back.a P + m.back.o.x, prod m.back.b P + m.back.o.y, prod m.back.c P + m.back.o.z⟩ from rfl, k, a1, a2, a3, Int.zero_mul, Int.zero_mul, Int.add_zero, Int.add_zero, fin]
    omega
  · show prod m.b _ + m.o.y = P.y
    rw [show m.back.app P = ⟨prod m.back.a P + m.back.o.x, prod m.back.b P + m.back.o.y, prod m.back.c P + m.back.o.z⟩ from rfl, k, b1, b2, b3, Int.zero_mul, Int.zero_mul, Int.zero_add, Int.add_zero, fin]
    omega
  · show prod m.c _ + m.o.z = P.z
    rw [show m.back.app P = ⟨prod m.back.a P + m.back.o.x, prod m.back.b P + m.back.o.y, prod m.back.c P + m.back.o.z⟩ from rfl, k, d1, d2, d3, Int.zero_mul, Int.zero_mul, Int.zero_add, Int.zero_add, fin]
    omega
theorem behind_back (m : Mv) (hd : m.det.natAbs = 1) : m.behind m.back = .still := Mv.same fun P => by rw [behind_app, back_app m hd, still_app]
theorem back_behind (m : Mv) (hd : m.det.natAbs = 1) : m.back.behind m = .still := Mv.same fun P => by rw [behind_app, app_back m hd, still_app]
theorem det_behind (f s : Mv) : (f.behind s).det = s.det * f.det := by
  simp only [Mv.behind, Mv.det, prod, cross]
  grind
theorem back_det (m : Mv) (hd : m.det.natAbs = 1) : m.back.det.natAbs = 1 := by
  have h := congrArg Mv.det (behind_back m hd)
  rw [det_behind] at h
  have e : Mv.still.det = 1 := rfl
  rw [e] at h
  have := Int.natAbs_mul m.back.det m.det
  rw [h, hd] at this
  simpa using this.symm
end DW

set_option autoImplicit false
namespace DW
open PySem PySem.Spec PyProof.Rows L2
theorem shaped_tupI (ns : List Int) : SeqAt.shaped (.tuple (ns.map .int)) = true := by
  have h1 := canLay_map (α := Int) ns
  have h2 := depth_map (α := Int) ns
  unfold SeqAt.shaped
  simp only [PyData.canLay0, PyData.depth]
  rw [show (ns.map PyData.int) = ns.map (En.en (α := Int)) from rfl, h1, Bool.true_and]
  have : En.dp Int = 0 := rfl
  exact decide_eq_true (by omega)
def Mv.li (m : Mv) : List Int := [m.a.x, m.a.y, m.a.z, m.b.x, m.b.y, m.b.z, m.c.x, m.c.y, m.c.z, m.o.x, m.o.y, m.o.z]
def Mv.row (m : Mv) (i : Nat) : P3 := if i = 0 then m.a else if i = 1 then m.b else m.c
theorem Mv.Bd.row {n : Nat} {m : Mv} (h : Mv.Bd n m) (i : Nat) : P3.Bd n (m.row i) := by
  unfold Mv.row
  split
  · exact h.a
  · split
    · exact h.b
    · exact h.c
theorem back_bd {m : Mv} (h : Mv.Bd 300 m) (hd : m.det.natAbs = 1) : Mv.Bd 2000 m.back := by
  have hs : Bd 1 m.det := by
    show m.det.natAbs < 2 ^ 1
    omega
  have u := h.b.cross h.c
  have v := h.c.cross h.a
  have w := h.a.cross h.b
  have a : P3.Bd 700 m.back.a := ⟨(hs.mul u.x).mono (by decide), (hs.mul v.x).mono (by decide), (hs.mul w.x).mono (by decide)⟩
  have b : P3.Bd 700 m.back.b := ⟨(hs.mul u.y).mono (by decide), (hs.mul v.y).mono (by decide), (hs.mul w.y).mono (by decide)⟩
  have c : P3.Bd 700 m.back.c := ⟨(hs.mul u.z).mono (by decide), (hs.mul v.z).mono (by decide), (hs.mul w.z).mono (by decide)⟩
  have o := h.o.mono (m := 700) (by decide)
  exact ⟨a.mono (by decide), b.mono (by decide), c.mono (by decide), ⟨(a.prod o).neg.mono (by decide), (b.prod o).neg.mono (by decide), (c.prod o).neg.mono (by decide)⟩⟩
theorem nine_take (f : Nat → Int) (i : Nat) (h : i < 3) : [f 0, f 1, f 2, f 3, f 4, f 5, f 6, f 7, f 8].take (3 * (i + 1)) = [f 0, f 1, f 2, f 3, f 4, f 5, f 6, f 7, f 8].take (3 * i) ++ [f (3 * i), f (3 * i + 1), f (3 * i + 2)] := by
  have hi : i = 0 ∨ i = 1 ∨ i = 2 := by omega
  rcases hi with rfl | rfl | rfl <;> rfl
end DW
namespace DW
open PySem PySem.Spec PyProof.Rows L2
theorem app_bd {m : Mv} {P : P3} {n : Nat} (hm : Mv.Bd 2000 m) (hP : P3.Bd n P) (hn : n ≤ 2000) : P3.Bd 20000 (m.app P) := by
  have hP := hP.mono hn
  have h1 := (hm.a.prod hP).add hm.o.x
  have h2 := (hm.b.prod hP).add hm.o.y
  have h3 := (hm.c.prod hP).add hm.o.z
  exact ⟨h1.mono (by decide), h2.mono (by decide), h3.mono (by decide)⟩
def lowA (c : Int) : Int := c * (10 ^ (50 : Int).toNat + 1000003) % (2 * 10 ^ (59 : Int).toNat + 1) - 10 ^ (59 : Int).toNat
theorem lowA_bd (c : Int) : Bd 200 (lowA c) := mod_bd' (n := 200) (by decide +kernel) (by decide +kernel) (by decide +kernel) (by decide +kernel)
theorem lt_bd {n : Nat} {a m : Int} (hm : 0 < m) (g : Bd n m) : Bd n (a % m) := Bd.mod hm g
end DW

namespace DW
open PySem PySem.Spec PyProof.Rows L2
def topS (i : Nat) : Stmt := PySem.Challenge.pw_stakebodies_k72_moves_done.main.body.getD i (.Pass ⟨0, 0, 0, 0⟩)
set_option hygiene false in
local macro_rules | `(tactic| walk_at "dw.hc") => `(tactic| (intro R_ h_; repeat' (first
  | exact h_
  | exact rfl
  | (with_reducible assumption)
  | ((with_reducible show P3.Bd _ _); first | refine P3.Bd.mono (by with_reducible assumption) (by decide) | refine P3.Bd.mono (hbA _ ha) (by decide) | refine P3.Bd.mono (hbB _ ha) (by decide) | refine P3.Bd.mono (hbC _ ha) (by decide))
  | ((with_reducible show DW.Bd _ _); first | refine DW.Bd.mono (by with_reducible assumption) (by decide) | (with_reducible exact numA_bd _) | (with_reducible apply hcb))
  | ((with_reducible show _ ≤ _); first | omega | (dsimp only; omega))
  | ((with_reducible show _ < _); first | omega | (dsimp only; omega))
  | ((with_reducible show DW.Pl.Bd _ _); first | refine DW.Pl.Bd.mono (by with_reducible assumption) (by decide) | exact hfb _ (by with_reducible assumption))
  | exact Sq3.t
  | exact Mrow.t
  | exact Mrow.l
  | ((with_reducible show Mv.Bd _ _); refine Mv.Bd.mono (by with_reducible assumption) (by decide))
  | exact Sq3.l
  | exact Sq3.p
  | apply Exists.intro
  | apply And.intro
  | apply Or.inl)))
set_option hygiene false in
local macro_rules | `(tactic| walk_at "dw.v") => `(tactic| first
  | ((with_reducible apply ge_v C _ v0) <;> rfl)
  | ((with_reducible apply ge_v C _ v1) <;> rfl)
  | ((with_reducible apply ge_v C _ v2) <;> rfl)
  | ((with_reducible apply ge_v C _ v3) <;> rfl)
  | ((with_reducible apply ge_v C _ v4) <;> rfl)
  | ((with_reducible apply ge_v C _ v5) <;> rfl)
  | ((with_reducible apply ge_v C _ v6) <;> rfl)
  | ((with_reducible apply ge_v C _ v7) <;> rfl)
  | ((with_reducible apply ge_v C _ v8) <;> rfl)
  | ((with_reducible apply ge_v C _ v9) <;> rfl)
  | ((with_reducible apply ge_v C _ v10) <;> rfl)
  | ((with_reducible apply ge_v C _ v11) <;> rfl)
  | ((with_reducible apply ge_v C _ v12) <;> rfl)
  | ((with_reducible apply ge_v C _ v13) <;> rfl)
  | ((with_reducible apply ge_v C _ v14) <;> rfl)
  | ((with_reducible apply ge_v C _ v15) <;> rfl)
  | ((with_reducible apply ge_v C _ v16) <;> rfl)
  | ((with_reducible apply ge_v C _ v17) <;> rfl)
  | ((with_reducible apply ge_v C _ v18) <;> rfl)
  | ((with_reducible apply ge_v C _ v19) <;> rfl)
  | ((with_reducible apply ge_const C); (case h => with_reducible assumption); (case hg => first | (with_reducible assumption) | decide +kernel))
  | ((with_reducible apply ge_v C 0); (case h => decide +kernel); (case hG => rfl))
  | ((with_reducible apply ge_v C 1); (case h => decide +kernel); (case hG => rfl))
  | ((with_reducible apply ge_v C 2); (case h => decide +kernel); (case hG => rfl))
  | ((with_reducible apply ge_v C 3); (case h => decide +kernel); (case hG => rfl))
  | ((with_reducible apply ge_v C 4); (case h => decide +kernel); (case hG => rfl))
  | ((with_reducible apply ge_v C 5); (case h => decide +kernel); (case hG => rfl))
  | ((with_reducible apply ge_v C 6); (case h => decide +kernel); (case hG => rfl))
  | ((with_reducible apply ge_v C 7); (case h => decide +kernel); (case hG => rfl))
  | ((with_reducible apply ge_v C 8); (case h => decide +kernel); (case hG => rfl))
  | ((with_reducible apply ge_v C 9); (case h => decide +kernel); (case hG => rfl))
  | ((with_reducible apply ge_v C 10); (case h => decide +kernel); (case hG => rfl))
  | ((with_reducible apply ge_v C 11); (case h => decide +kernel); (case hG => rfl))
  | ((with_reducible apply ge_v C 12); (case h => decide +kernel); (case hG => rfl))
  | ((with_reducible apply ge_v C 13); (case h => decide +kernel); (case hG => rfl))
  | ((with_reducible apply ge_v C 14); (case h => decide +kernel); (case hG => rfl))
  | ((with_reducible apply ge_v C 15); (case h => decide +kernel); (case hG => rfl))
  | ((with_reducible apply ge_v C 16); (case h => decide +kernel); (case hG => rfl))
  | ((with_reducible apply ge_v C 17); (case h => decide +kernel); (case hG => rfl))
  | ((with_reducible apply ge_v C 18); (case h => decide +kernel); (case hG => rfl))
  | ((with_reducible apply ge_v C 19); (case h => decide +kernel); (case hG => rfl)))
set_option hygiene false in
local macro_rules | `(tactic| walk_at "dw.o") => `(tactic| (with_reducible show GL _ _ (Expr.Name _ _) _); first
  | ((with_reducible apply gl_v C _ v0) <;> rfl)
  | ((with_reducible apply gl_v C _ v1) <;> rfl)
  | ((with_reducible apply gl_v C _ v2) <;> rfl)
  | ((with_reducible apply gl_v C _ v3) <;> rfl)
  | ((with_reducible apply gl_v C _ v4) <;> rfl)
  | ((with_reducible apply gl_v C _ v5) <;> rfl)
  | ((with_reducible apply gl_v C _ v6) <;> rfl)
  | ((with_reducible apply gl_v C _ v7) <;> rfl)
  | ((with_reducible apply gl_v C _ v8) <;> rfl)
  | ((with_reducible apply gl_v C _ v9) <;> rfl)
  | ((with_reducible apply gl_v C _ v10) <;> rfl)
  | ((with_reducible apply gl_v C _ v11) <;> rfl)
  | ((with_reducible apply gl_v C _ v12) <;> rfl)
  | ((with_reducible apply gl_v C _ v13) <;> rfl)
  | ((with_reducible apply gl_v C _ v14) <;> rfl)
  | ((with_reducible apply gl_v C _ v15) <;> rfl)
  | ((with_reducible apply gl_v C _ v16) <;> rfl)
  | ((with_reducible apply gl_v C _ v17) <;> rfl)
  | ((with_reducible apply gl_v C _ v18) <;> rfl)
  | ((with_reducible apply gl_v C _ v19) <;> rfl)
  | ((with_reducible apply gl_v C 0); (case h => decide +kernel); (case hG => rfl))
  | ((with_reducible apply gl_v C 1); (case h => decide +kernel); (case hG => rfl))
  | ((with_reducible apply gl_v C 2); (case h => decide +kernel); (case hG => rfl))
  | ((with_reducible apply gl_v C 3); (case h => decide +kernel); (case hG => rfl))
  | ((with_reducible apply gl_v C 4); (case h => decide +kernel); (case hG => rfl))
  | ((with_reducible apply gl_v C 5); (case h => decide +kernel); (case hG => rfl))
  | ((with_reducible apply gl_v C 6); (case h => decide +kernel); (case hG => rfl))
  | ((with_reducible apply gl_v C 7); (case h => decide +kernel); (case hG => rfl))
  | ((with_reducible apply gl_v C 8); (case h => decide +kernel); (case hG => rfl))
  | ((with_reducible apply gl_v C 9); (case h => decide +kernel); (case hG => rfl))
  | ((with_reducible apply gl_v C 10); (case h => decide +kernel); (case hG => rfl))
  | ((with_reducible apply gl_v C 11); (case h => decide +kernel); (case hG => rfl))
  | ((with_reducible apply gl_v C 12); (case h => decide +kernel); (case hG => rfl))
  | ((with_reducible apply gl_v C 13); (case h => decide +kernel); (case hG => rfl))
  | ((with_reducible apply gl_v C 14); (case h => decide +kernel); (case hG => rfl))
  | ((with_reducible apply gl_v C 15); (case h => decide +kernel); (case hG => rfl))
  | ((with_reducible apply gl_v C 16); (case h => decide +kernel); (case hG => rfl))
  | ((with_reducible apply gl_v C 17); (case h => decide +kernel); (case hG => rfl))
  | ((with_reducible apply gl_v C 18); (case h => decide +kernel); (case hG => rfl))
  | ((with_reducible apply gl_v C 19); (case h => decide +kernel); (case hG => rfl)))
local macro_rules | `(tactic| walk_at "dw.nf") => `(tactic| (apply GSs.is; (case e => ((try simp only [List.set_cons_zero, List.set_cons_succ]); try exact rfl))))
local macro_rules | `(tactic| walk_at "dw.gl") => `(tactic| first | (with_reducible assumption) | decide +kernel)
set_option hygiene false in
local macro_rules | `(tactic| walk_at "dw.b") => `(tactic| repeat' first
  | (with_reducible assumption)
  | with_reducible apply Bd.mul | with_reducible apply Bd.add | with_reducible apply Bd.sub | with_reducible apply Bd.neg
  | (with_reducible exact Bd.lit (i := OfNat.ofNat _))
  | ((with_reducible show Bd _ (P3.x _)); refine P3.Bd.x (by with_reducible assumption))
  | ((with_reducible show Bd _ (P3.y _)); refine P3.Bd.y (by with_reducible assumption))
  | ((with_reducible show Bd _ (P3.z _)); refine P3.Bd.z (by with_reducible assumption))
  | ((with_reducible apply Bd.mod (by decide)))
  | ((with_reducible refine Bd.div ?_ (by decide)))
  | ((with_reducible show Bd _ (P3.at _ _)); refine P3.Bd.at (by with_reducible assumption))
  | (with_reducible exact P3.Bd.mem (by with_reducible assumption) ha)
  | (with_reducible exact numA_bd _))
set_option hygiene false in
local macro_rules | `(tactic| walk_at "dw.GE") => `(tactic| first
  | ((with_reducible show GE _ _ (Expr.Name _ _) _); walk_at "dw.v")
  | ((with_reducible show GE _ _ (Expr.Subscript _ (Expr.Slice _ _ _ _) _) _); first | (with_reducible apply ge_sl3; walk_at "dw.v") | (with_reducible apply ge_mv1; walk_at "dw.v") | (with_reducible apply ge_mv2; walk_at "dw.v") | (with_reducible apply ge_mv3; walk_at "dw.v") | (with_reducible apply ge_mv4; walk_at "dw.v") | ((with_reducible apply ge_slLd); (case ha => walk_at "dw.v")) | with_reducible apply ge_slT)
  | ((with_reducible show GE _ _ (Expr.ListComp _ _ _ _) _); with_reducible apply GO.ge)
  | ((with_reducible show GE _ _ (Expr.List _ _) _); with_reducible apply GO.ge)
  | with_reducible exact ge_int | with_reducible apply ge_ix | with_reducible apply ge_add | with_reducible apply ge_sub | with_reducible apply ge_mul | with_reducible apply ge_p3 | with_reducible apply ge_p4 | with_reducible exact ge_str | with_reducible exact ge_bl | with_reducible exact ge_non
  | ((with_reducible show GE _ _ (Expr.Call (Expr.Name _ _) _ _ _) _); walk_at "dw.call")
  | with_reducible apply ge_cp C | with_reducible apply ge_div | with_reducible apply ge_mod | with_reducible apply ge_fmod | with_reducible apply ge_pow | with_reducible apply ge_neg | with_reducible apply ge_and | with_reducible apply ge_or | with_reducible apply ge_one | with_reducible apply ge_not | with_reducible apply ge_andT | with_reducible apply ge_orF | with_reducible apply ge_notF | with_reducible apply ge_notT | with_reducible apply ge_slT | with_reducible apply ge_tup)
set_option hygiene false in
local macro_rules | `(tactic| walk_at "dw.call") => `(tactic| first
  | with_reducible apply ge_sumC C | with_reducible apply ge_len C | with_reducible apply ge_abs C | with_reducible apply ge_max C | with_reducible apply ge_min C | with_reducible apply ge_intB C | with_reducible apply ge_isi C | with_reducible apply ge_tupleL C | with_reducible apply ge_listL C
  | ((with_reducible apply ge_call C); (with_reducible case Hs => assumption)))
set_option hygiene false in
local macro_rules | `(tactic| walk_at "dw.1") => `(tactic| first
  | ((with_reducible show GE _ _ _ _); walk_at "dw.GE")
  | ((with_reducible show IxV _ _ _); first | exact IxV.tup rfl | exact IxV.lst rfl | exact IxV.own rfl | exact IxV.lst (at0 (by with_reducible assumption)) | exact IxV.lst (atI_map (atI_nat (by with_reducible assumption))) | exact IxV.own (at0 (by with_reducible assumption)) | exact ix3 (by omega) (by omega) | exact ixM (by omega) (by omega))
  | ((with_reducible show GV _ _ _ _); first | ((with_reducible apply GV.l); walk_at "dw.o") | with_reducible apply GV.s)
  | ((with_reducible show PlainIx _); intro _ _; rfl)
  | ((with_reducible show IntMulOk _ _); refine' Bd.ok ?_a ?_b ?_c; (case _a => walk_at "dw.b"); (case _b => walk_at "dw.b"); (case _c => decide))
  | ((with_reducible show IntMulOk _ _); exact Bd.ok (n := 300) (m := 300) (by decide +kernel) (by decide +kernel) (by decide))
  | ((with_reducible show AddD _ _ _); first | exact AddD.int _ _ | exact AddD.tup _ _ (Nat.le_of_ble_eq_true rfl) | exact AddD.lst _ _ (Nat.le_of_ble_eq_true rfl))
  | ((with_reducible show glB _ _ = true); walk_at "dw.gl")
  | ((with_reducible show Wd.mg _ _ = none); with_reducible first | exact B.len | exact B.isinstance | exact B.int | exact B.bool | exact B.tuple | exact B.range | exact B.abs | exact B.max | exact B.min | exact B.list | exact B.sum | exact B.sorted | exact B.str | exact B.set | exact B.zip | exact B.reversed | exact B.enumerate | exact B.dict)
  | ((with_reducible show bootBuiltins _ = _); with_reducible first | exact bt_int | exact bt_bool | exact bt_tuple | exact bt_list | exact bt_str)
  | ((with_reducible show _ ≠ _); first | (with_reducible assumption) | decide | omega)
  | ((with_reducible show _ ≤ _); with_reducible exact Nat.le_refl _)
  | ((with_reducible show List.length _ ≤ sizeLine); exact Nat.le_of_ble_eq_true rfl)
  | ((with_reducible show (0 : Int) < _); first | decide | assumption | omega)
  | ((with_reducible show CDivW _ _); refine' Bd.dv ?_a ?_b ?_c; (case _a => first | decide | assumption | omega); (case _b => walk_at "dw.b"); (case _c => decide))
  | ((with_reducible show CPow _ _); exact ⟨by decide, by decide, by decide +kernel⟩)
  | ((with_reducible show nst _ = true); rfl) | ((with_reducible show SeqAt.shaped _ = true); rfl) | ((with_reducible show List.all _ _ = true); rfl)
  | ((with_reducible show GH _ _ (Expr.List _ _) _); (with_reducible apply GL.gh); (with_reducible apply GO.gl); (with_reducible apply go_lst))
  | ((with_reducible show GH _ _ (Expr.ListComp _ _ _ _) _); (with_reducible apply GL.gh); (with_reducible apply GO.gl))
  | ((with_reducible show GH _ _ (Expr.Name _ _) _); first | ((with_reducible apply GE.gh); walk_at "dw.v") | ((with_reducible apply GL.gh); walk_at "dw.o"))
  | ((with_reducible show GH _ _ _ _); first | ((with_reducible apply GL.gh); walk_at "dw.o") | with_reducible apply GE.gh)
  | ((with_reducible show CmpD _ _ _ _); first | with_reducible exact cmp_eq3 _ _ | with_reducible exact cmp_ne3 _ _ | with_reducible exact cmp_eq4 _ _ | with_reducible exact cmp_ne4 _ _ | with_reducible apply cmp_ne3F | with_reducible apply cmp_eq3T | with_reducible apply cmp_ne4F | with_reducible apply cmp_eq4T | with_reducible apply cmp_eq3F | with_reducible apply cmp_ne3T | with_reducible exact cmp_in3 _ _ | with_reducible exact cmp_nin3 _ _ | with_reducible exact cmp_neN3 _ | with_reducible exact cmp_eqL3 _ _ | with_reducible exact cmp_neL3 _ _ | with_reducible apply cmp_neL3F | with_reducible apply cmp_eqL3T | with_reducible apply cmp_neL4F | with_reducible exact cmp_eqL4 _ _ | with_reducible exact cmp_neL4 _ _ | with_reducible exact cmp_eqN4 _ | with_reducible exact cmp_neN4 _ | with_reducible exact cmp_eqN3 _ | with_reducible exact cmp_neNI _ | with_reducible exact cmp_eqNI _ | exact CmpD.eqI _ _ | exact CmpD.neI _ _ | exact cmp_eqI [_, _, _] [_, _, _] | exact cmp_neI [_, _, _] [_, _, _] | exact CmpD.lt _ _ | exact CmpD.le _ _ | exact CmpD.gt _ _ | exact CmpD.ge _ _ | exact CmpD.isN _ | exact CmpD.notN _ | exact CmpD.eq _ _ rfl rfl | exact CmpD.ne _ _ rfl rfl | with_reducible exact cmp_eqT rfl | with_reducible exact cmp_neF rfl | ((with_reducible refine' cmp_eqTd rfl ?_); rfl) | ((with_reducible refine' cmp_neFd rfl ?_); rfl) | exact cmp_eqF (by omega) | exact cmp_neT (by omega) | exact cmp_ltT (by omega) | exact cmp_ltF (by omega) | exact cmp_gtT (by omega) | exact cmp_gtF (by omega) | with_reducible apply cmp_eqT | with_reducible apply cmp_neF | with_reducible apply cmp_eqTd | with_reducible apply cmp_neFd)
  | ((with_reducible show behindInMarks _ _ = false); rfl)
  | ((with_reducible show GT _ _ _ _); first | with_reducible apply gt_not | with_reducible apply gt_notF | with_reducible apply gt_notT | with_reducible apply gt_cp C | ((with_reducible apply GW.gt); first | with_reducible apply gw_and | with_reducible apply gw_or | with_reducible apply gw_and1 | with_reducible apply gw_or1 | with_reducible apply gw_orF | with_reducible apply gw_andT) | with_reducible apply gt_val)
  | ((with_reducible show GW _ _ _ _); first | with_reducible apply gw_and | with_reducible apply gw_or | with_reducible apply gw_and1 | with_reducible apply gw_or1 | with_reducible apply gw_orF | with_reducible apply gw_andT)
  | ((with_reducible show GA _ _ _ _); first | with_reducible exact ga_nil | with_reducible apply ga_cons)
  | ((with_reducible show GP _ _ _ _); first | with_reducible exact gp_no | with_reducible apply gp_yes)
  | ((with_reducible show GL _ _ (Expr.Subscript _ (Expr.Slice _ _ _ _) _) _); with_reducible apply GO.gl; with_reducible apply go_slL)
  | ((with_reducible show GL _ _ _ _); first | walk_at "dw.o" | ((with_reducible show GL _ _ (Expr.ListComp _ _ _ _) _); with_reducible apply GO.gl) | with_reducible apply GE.gl)
  | ((with_reducible show GO _ _ (Expr.ListComp _ _ _ _) _); walk_at "dw.lc")
  | ((with_reducible show GO _ _ (Expr.Call (Expr.Name _ _) _ _ _) _); first | with_reducible apply go_sort3 C | with_reducible apply go_list C | with_reducible apply go_sortedSet C | ((with_reducible apply go_call C); (with_reducible case Hs => assumption)))
  | ((with_reducible show GIw _ _ _ _ _); first | ((with_reducible show GIw _ _ _ (Expr.Call _ _ _ _) _); with_reducible apply GI.w) | ((with_reducible apply gw_list); walk_at "dw.o") | with_reducible apply GI.w)
  | ((with_reducible show GI _ _ _ _ _); first | with_reducible apply gi_rng1 C | with_reducible apply gi_rng2 C | with_reducible apply gi_rng3 C | with_reducible apply gi_it)
  | ((with_reducible show ItD _ _); first | exact ItD.lst | exact ItD.tup)
  | ((with_reducible show List.length _ ≤ 16777216); first | exact Nat.le_of_ble_eq_true rfl | (rw [rngL_len]; omega))
  | ((with_reducible show -(2 ^ 62) ≤ _ ∧ _); first | decide | omega)
  | ((with_reducible show LenD _ _); first | exact LenD.lst | exact LenD.tup)
  | ((with_reducible show kitB _ _ = some _); decide +kernel)
  | ((with_reducible show _ = true → _); intro _)
  | ((with_reducible show _ = false → _); intro _)
  | ((with_reducible show ∀ (_ : Rs → Prop), _); walk_at "dw.hc")
  | ((with_reducible show ∀ _, _ = _); intro _; rfl)
  | with_reducible exact PUnit.unit
  | with_reducible apply go_lst
  | ((with_reducible show _ = _); with_reducible rfl)
  | ((with_reducible show _ = _); (fail_if_success (with_reducible show (_ : Int) = _)); (fail_if_success (with_reducible show (_ : PyData) = _)); rfl))
set_option hygiene false in
local macro_rules | `(tactic| walk_at "dw.lc0") => `(tactic| first
  | ((with_reducible apply go_lc1 C 0); (case ok => decide +kernel); (case okl => decide +kernel))
  | ((with_reducible apply go_lc1 C 1); (case ok => decide +kernel); (case okl => decide +kernel))
  | ((with_reducible apply go_lc1 C 2); (case ok => decide +kernel); (case okl => decide +kernel))
  | ((with_reducible apply go_lc1 C 3); (case ok => decide +kernel); (case okl => decide +kernel))
  | ((with_reducible apply go_lc1 C 4); (case ok => decide +kernel); (case okl => decide +kernel))
  | ((with_reducible apply go_lc1 C 5); (case ok => decide +kernel); (case okl => decide +kernel))
  | ((with_reducible apply go_lc1 C 6); (case ok => decide +kernel); (case okl => decide +kernel))
  | ((with_reducible apply go_lc1 C 7); (case ok => decide +kernel); (case okl => decide +kernel))
  | ((with_reducible apply go_lc1 C 8); (case ok => decide +kernel); (case okl => decide +kernel))
  | ((with_reducible apply go_lc1 C 9); (case ok => decide +kernel); (case okl => decide +kernel))
  | ((with_reducible apply go_lc1 C 10); (case ok => decide +kernel); (case okl => decide +kernel))
  | ((with_reducible apply go_lc1 C 11); (case ok => decide +kernel); (case okl => decide +kernel))
  | ((with_reducible apply go_lc1 C 12); (case ok => decide +kernel); (case okl => decide +kernel))
  | ((with_reducible apply go_lc1 C 13); (case ok => decide +kernel); (case okl => decide +kernel))
  | ((with_reducible apply go_lc1 C 14); (case ok => decide +kernel); (case okl => decide +kernel))
  | ((with_reducible apply go_lc1 C 15); (case ok => decide +kernel); (case okl => decide +kernel))
  | ((with_reducible apply go_lc1 C 16); (case ok => decide +kernel); (case okl => decide +kernel))
  | ((with_reducible apply go_lc1 C 17); (case ok => decide +kernel); (case okl => decide +kernel))
  | ((with_reducible apply go_lc1 C 18); (case ok => decide +kernel); (case okl => decide +kernel))
  | ((with_reducible apply go_lc1 C 19); (case ok => decide +kernel); (case okl => decide +kernel)))
set_option hygiene false in
local macro_rules | `(tactic| walk_at "dw.lcP0") => `(tactic| first
  | ((with_reducible apply go_lcP C 0); (case ok => decide +kernel); (case okl => decide +kernel); (case h => first | walk_at "dw.v" | ((with_reducible apply ge_sl3); walk_at "dw.v")))
  | ((with_reducible apply go_lcP C 1); (case ok => decide +kernel); (case okl => decide +kernel); (case h => first | walk_at "dw.v" | ((with_reducible apply ge_sl3); walk_at "dw.v")))
  | ((with_reducible apply go_lcP C 2); (case ok => decide +kernel); (case okl => decide +kernel); (case h => first | walk_at "dw.v" | ((with_reducible apply ge_sl3); walk_at "dw.v")))
  | ((with_reducible apply go_lcP C 3); (case ok => decide +kernel); (case okl => decide +kernel); (case h => first | walk_at "dw.v" | ((with_reducible apply ge_sl3); walk_at "dw.v")))
  | ((with_reducible apply go_lcP C 4); (case ok => decide +kernel); (case okl => decide +kernel); (case h => first | walk_at "dw.v" | ((with_reducible apply ge_sl3); walk_at "dw.v")))
  | ((with_reducible apply go_lcP C 5); (case ok => decide +kernel); (case okl => decide +kernel); (case h => first | walk_at "dw.v" | ((with_reducible apply ge_sl3); walk_at "dw.v")))
  | ((with_reducible apply go_lcP C 6); (case ok => decide +kernel); (case okl => decide +kernel); (case h => first | walk_at "dw.v" | ((with_reducible apply ge_sl3); walk_at "dw.v")))
  | ((with_reducible apply go_lcP C 7); (case ok => decide +kernel); (case okl => decide +kernel); (case h => first | walk_at "dw.v" | ((with_reducible apply ge_sl3); walk_at "dw.v")))
  | ((with_reducible apply go_lcP C 8); (case ok => decide +kernel); (case okl => decide +kernel); (case h => first | walk_at "dw.v" | ((with_reducible apply ge_sl3); walk_at "dw.v")))
  | ((with_reducible apply go_lcP C 9); (case ok => decide +kernel); (case okl => decide +kernel); (case h => first | walk_at "dw.v" | ((with_reducible apply ge_sl3); walk_at "dw.v")))
  | ((with_reducible apply go_lcP C 10); (case ok => decide +kernel); (case okl => decide +kernel); (case h => first | walk_at "dw.v" | ((with_reducible apply ge_sl3); walk_at "dw.v")))
  | ((with_reducible apply go_lcP C 11); (case ok => decide +kernel); (case okl => decide +kernel); (case h => first | walk_at "dw.v" | ((with_reducible apply ge_sl3); walk_at "dw.v")))
  | ((with_reducible apply go_lcP C 12); (case ok => decide +kernel); (case okl => decide +kernel); (case h => first | walk_at "dw.v" | ((with_reducible apply ge_sl3); walk_at "dw.v")))
  | ((with_reducible apply go_lcP C 13); (case ok => decide +kernel); (case okl => decide +kernel); (case h => first | walk_at "dw.v" | ((with_reducible apply ge_sl3); walk_at "dw.v")))
  | ((with_reducible apply go_lcP C 14); (case ok => decide +kernel); (case okl => decide +kernel); (case h => first | walk_at "dw.v" | ((with_reducible apply ge_sl3); walk_at "dw.v")))
  | ((with_reducible apply go_lcP C 15); (case ok => decide +kernel); (case okl => decide +kernel); (case h => first | walk_at "dw.v" | ((with_reducible apply ge_sl3); walk_at "dw.v")))
  | ((with_reducible apply go_lcP C 16); (case ok => decide +kernel); (case okl => decide +kernel); (case h => first | walk_at "dw.v" | ((with_reducible apply ge_sl3); walk_at "dw.v")))
  | ((with_reducible apply go_lcP C 17); (case ok => decide +kernel); (case okl => decide +kernel); (case h => first | walk_at "dw.v" | ((with_reducible apply ge_sl3); walk_at "dw.v")))
  | ((with_reducible apply go_lcP C 18); (case ok => decide +kernel); (case okl => decide +kernel); (case h => first | walk_at "dw.v" | ((with_reducible apply ge_sl3); walk_at "dw.v")))
  | ((with_reducible apply go_lcP C 19); (case ok => decide +kernel); (case okl => decide +kernel); (case h => first | walk_at "dw.v" | ((with_reducible apply ge_sl3); walk_at "dw.v"))))
set_option hygiene false in
local macro_rules | `(tactic| walk_at "dw.lc") => `(tactic| first | (walk_at "dw.lcP0"; (case' he => (intro X C a ha; repeat' (walk_at "dw.1")))) | (walk_at "dw.lc0"; (case' hi => repeat' (walk_at "dw.1")); (case' he => (intro X C a ha; (try have ha' := rngL_mem ha); (try have hba_ := Bd.sm (n := 20) (i := a) (by omega) (by omega) (by decide)); repeat' (walk_at "dw.1")))))
local macro_rules | `(tactic| walk_at "dw.e") => `(tactic| repeat' (walk_at "dw.1"))
set_option hygiene false in
local macro_rules | `(tactic| walk_at "dw.asg0") => `(tactic| first
  | (with_reducible apply gss_asg C _ l0)
  | (with_reducible apply gss_asg C _ l1)
  | (with_reducible apply gss_asg C _ l2)
  | (with_reducible apply gss_asg C _ l3)
  | (with_reducible apply gss_asg C _ l4)
  | (with_reducible apply gss_asg C _ l5)
  | (with_reducible apply gss_asg C _ l6)
  | (with_reducible apply gss_asg C _ l7)
  | (with_reducible apply gss_asg C _ l8)
  | (with_reducible apply gss_asg C _ l9)
  | (with_reducible apply gss_asg C _ l10)
  | (with_reducible apply gss_asg C _ l11)
  | (with_reducible apply gss_asg C _ l12)
  | (with_reducible apply gss_asg C _ l13)
  | (with_reducible apply gss_asg C _ l14)
  | (with_reducible apply gss_asg C _ l15)
  | (with_reducible apply gss_asg C _ l16)
  | (with_reducible apply gss_asg C _ l17)
  | (with_reducible apply gss_asg C _ l18)
  | (with_reducible apply gss_asg C _ l19))
set_option hygiene false in
local macro_rules | `(tactic| walk_at "dw.asgO0") => `(tactic| first
  | (with_reducible apply gss_asgO C _ l0)
  | (with_reducible apply gss_asgO C _ l1)
  | (with_reducible apply gss_asgO C _ l2)
  | (with_reducible apply gss_asgO C _ l3)
  | (with_reducible apply gss_asgO C _ l4)
  | (with_reducible apply gss_asgO C _ l5)
  | (with_reducible apply gss_asgO C _ l6)
  | (with_reducible apply gss_asgO C _ l7)
  | (with_reducible apply gss_asgO C _ l8)
  | (with_reducible apply gss_asgO C _ l9)
  | (with_reducible apply gss_asgO C _ l10)
  | (with_reducible apply gss_asgO C _ l11)
  | (with_reducible apply gss_asgO C _ l12)
  | (with_reducible apply gss_asgO C _ l13)
  | (with_reducible apply gss_asgO C _ l14)
  | (with_reducible apply gss_asgO C _ l15)
  | (with_reducible apply gss_asgO C _ l16)
  | (with_reducible apply gss_asgO C _ l17)
  | (with_reducible apply gss_asgO C _ l18)
  | (with_reducible apply gss_asgO C _ l19))
set_option hygiene false in
local macro_rules | `(tactic| walk_at "dw.asgE0") => `(tactic| first
  | (with_reducible apply gss_asgE C _ l0)
  | (with_reducible apply gss_asgE C _ l1)
  | (with_reducible apply gss_asgE C _ l2)
  | (with_reducible apply gss_asgE C _ l3)
  | (with_reducible apply gss_asgE C _ l4)
  | (with_reducible apply gss_asgE C _ l5)
  | (with_reducible apply gss_asgE C _ l6)
  | (with_reducible apply gss_asgE C _ l7)
  | (with_reducible apply gss_asgE C _ l8)
  | (with_reducible apply gss_asgE C _ l9)
  | (with_reducible apply gss_asgE C _ l10)
  | (with_reducible apply gss_asgE C _ l11)
  | (with_reducible apply gss_asgE C _ l12)
  | (with_reducible apply gss_asgE C _ l13)
  | (with_reducible apply gss_asgE C _ l14)
  | (with_reducible apply gss_asgE C _ l15)
  | (with_reducible apply gss_asgE C _ l16)
  | (with_reducible apply gss_asgE C _ l17)
  | (with_reducible apply gss_asgE C _ l18)
  | (with_reducible apply gss_asgE C _ l19))
set_option hygiene false in
local macro_rules | `(tactic| walk_at "dw.asg") => `(tactic| (show GSs _ _ (List.cons _ _) _; walk_at "dw.asg0"; (case hs => rfl); (case' he => walk_at "dw.e"); (case' hn => walk_at "dw.nf")))
set_option hygiene false in
local macro_rules | `(tactic| walk_at "dw.asgO") => `(tactic| (show GSs _ _ (List.cons _ _) _; walk_at "dw.asgO0"; (case hs => rfl); (case' he => walk_at "dw.e"); (case' hn => walk_at "dw.nf")))
set_option hygiene false in
local macro_rules | `(tactic| walk_at "dw.asgE") => `(tactic| (show GSs _ _ (List.cons _ _) _; walk_at "dw.asgE0"; (case hs => rfl); (case' he => walk_at "dw.e"); (case' hn => walk_at "dw.nf")))
set_option hygiene false in
local macro_rules | `(tactic| walk_at "dw.par") => `(tactic| ((case hi => rfl); (case hj => rfl); (case hij => decide); (case hx => decide +kernel); (case hy => decide +kernel); (case hk => rfl); (case hw => (intro _ h1_ h2_ h3_; unfold swappedStores; simp only [h1_, List.filterMap_cons, List.filterMap_nil, h2_, h3_]; rfl)); (case hs => rfl); (case' ha => walk_at "dw.e"); (case' hn => walk_at "dw.nf")))
set_option hygiene false in
local macro_rules | `(tactic| walk_at "dw.lcs") => `(tactic| ((case okj => assumption); (case hyl => decide +kernel); (case hk => rfl); (case ok => decide +kernel); (case okl => decide +kernel); (case hl => rfl); (case ha => decide +kernel); (case hs => (intro _; rfl)); (case' hi => walk_at "dw.e"); (case' hz => first | exact Nat.le_of_ble_eq_true rfl | (rw [rngL_len]; omega) | (simp only [List.length_map]; omega) | omega | skip); (case' he => (intro X C a ha; (try have ha' := rngL_mem ha); (try have hba_ := Bd.sm (n := 20) (i := a) (by omega) (by omega) (by decide)); repeat' (walk_at "dw.1"))); (case' hn => walk_at "dw.nf")))
set_option hygiene false in
local macro_rules | `(tactic| walk_at "dw.lcs0") => `(tactic| ((case okj => assumption); (case hyl => decide +kernel); (case hk => rfl); (case ok => decide +kernel); (case okl => decide +kernel); (case hl => rfl); (case ha => decide +kernel); (case hs => (intro _; rfl)); (case' hn => walk_at "dw.nf")))
set_option hygiene false in
local macro_rules | `(tactic| walk_at "dw.lcsx") => `(tactic| ((case okj => assumption); (case hyl => decide +kernel); (case hk => rfl); (case ok => decide +kernel); (case okl => decide +kernel); (case hl => rfl); (case ha => decide +kernel); (case hs => (intro _; rfl)); (case' he => (intro X C a ha; (try have ha' := rngL_mem ha); (try have hba_ := Bd.sm (n := 20) (i := a) (by omega) (by omega) (by decide)); repeat' (walk_at "dw.1"))); (case' hn => walk_at "dw.nf")))
set_option hygiene false in
local macro_rules | `(tactic| walk_at "dw.lcsf") => `(tactic| ((case okj => assumption); (case hyl => decide +kernel); (case hk => rfl); (case ok => decide +kernel); (case okl => decide +kernel); (case hl => rfl); (case ha => decide +kernel); (case hs => (intro _; rfl)); (case' hi => walk_at "dw.e"); (case' hz => first | exact Nat.le_of_ble_eq_true rfl | (rw [rngL_len]; omega) | (simp only [List.length_map]; omega) | omega | skip); (case' ht => (intro X C a ha; (try have ha' := rngL_mem ha); (try have hba_ := Bd.sm (n := 20) (i := a) (by omega) (by omega) (by decide)); repeat' (walk_at "dw.1"))); (case' he => (intro X C a ha hbt; (try have ha' := rngL_mem ha); (try have hba_ := Bd.sm (n := 20) (i := a) (by omega) (by omega) (by decide)); repeat' (walk_at "dw.1"))); (case' hn => walk_at "dw.nf")))
set_option hygiene false in
local macro_rules | `(tactic| walk_at "dw.lcsfx") => `(tactic| ((case okj => assumption); (case hyl => decide +kernel); (case hk => rfl); (case ok => decide +kernel); (case okl => decide +kernel); (case hl => rfl); (case ha => decide +kernel); (case hs => (intro _; rfl)); (case' ht => (intro X C a ha; (try have ha' := rngL_mem ha); (try have hba_ := Bd.sm (n := 20) (i := a) (by omega) (by omega) (by decide)); repeat' (walk_at "dw.1"))); (case' he => (intro X C a ha hbt; (try have ha' := rngL_mem ha); (try have hba_ := Bd.sm (n := 20) (i := a) (by omega) (by omega) (by decide)); repeat' (walk_at "dw.1"))); (case' hn => walk_at "dw.nf")))
set_option hygiene false in
local macro_rules | `(tactic| walk_at "dw.par3") => `(tactic| ((case hi => rfl); (case hj => rfl); (case hl => rfl); (case hij => decide); (case hil => decide); (case hjl => decide); (case hx => decide +kernel); (case hy => decide +kernel); (case hz => decide +kernel); (case hk => rfl); (case hw => (intro _ h1_ h2_ h3_ h4_; unfold swappedStores; simp only [h1_, List.filterMap_cons, List.filterMap_nil, h2_, h3_, h4_]; rfl)); (case hs => rfl); (case' ha => walk_at "dw.e"); (case' hn => walk_at "dw.nf")))
set_option hygiene false in
local macro_rules | `(tactic| walk_at "dw.ggs") => `(tactic| repeat' first
  | with_reducible exact ggs_nil
  | ((with_reducible apply ggs_cons C _ l0); (case hw => decide))
  | ((with_reducible apply ggs_cons C _ l1); (case hw => decide))
  | ((with_reducible apply ggs_cons C _ l2); (case hw => decide))
  | ((with_reducible apply ggs_cons C _ l3); (case hw => decide))
  | ((with_reducible apply ggs_cons C _ l4); (case hw => decide))
  | ((with_reducible apply ggs_cons C _ l5); (case hw => decide))
  | ((with_reducible apply ggs_cons C _ l6); (case hw => decide))
  | ((with_reducible apply ggs_cons C _ l7); (case hw => decide))
  | ((with_reducible apply ggs_cons C _ l8); (case hw => decide))
  | ((with_reducible apply ggs_cons C _ l9); (case hw => decide))
  | ((with_reducible apply ggs_cons C _ l10); (case hw => decide))
  | ((with_reducible apply ggs_cons C _ l11); (case hw => decide))
  | ((with_reducible apply ggs_cons C _ l12); (case hw => decide))
  | ((with_reducible apply ggs_cons C _ l13); (case hw => decide))
  | ((with_reducible apply ggs_cons C _ l14); (case hw => decide))
  | ((with_reducible apply ggs_cons C _ l15); (case hw => decide))
  | ((with_reducible apply ggs_cons C _ l16); (case hw => decide))
  | ((with_reducible apply ggs_cons C _ l17); (case hw => decide))
  | ((with_reducible apply ggs_cons C _ l18); (case hw => decide))
  | ((with_reducible apply ggs_cons C _ l19); (case hw => decide))
  | ((with_reducible apply ggs_cons C _ l20); (case hw => decide))
  | ((with_reducible apply ggs_cons C _ l21); (case hw => decide))
  | ((with_reducible apply ggs_cons C _ l22); (case hw => decide))
  | ((with_reducible apply ggs_cons C _ l23); (case hw => decide)))
set_option hygiene false in
local macro_rules | `(tactic| walk_at "dw.gg") => `(tactic| (first | (with_reducible apply gg_tupN C) | (with_reducible apply gg_lstN C)); (case h => walk_at "dw.ggs"); (case hn => rfl); (case hst => rfl))
set_option hygiene false in
local macro_rules | `(tactic| walk_at "dw.unp") => `(tactic| (show GSs _ _ (List.cons _ _) _; (with_reducible apply gss_unp (ws := List.range 40)); (case he => walk_at "dw.e"); (case hg => walk_at "dw.gg"); (case hs => rfl); (case hw => rfl); (case h1 => rfl); (case' hn => walk_at "dw.nf")))
set_option hygiene false in
local macro_rules | `(tactic| walk_at "dw.setI") => `(tactic| ((case h => assumption); (case hG => rfl); (case ha => (intro _; rfl)); (case hs => rfl); (case hw => rfl); (case h1' => rfl); (case' he => walk_at "dw.e"); (case' hj => walk_at "dw.e"); (case hjn => rfl); (case' hn => walk_at "dw.nf")))
set_option hygiene false in
local macro_rules | `(tactic| walk_at "dw.app") => `(tactic| ((case h => assumption); (case hG => rfl); (case hb => rfl); (case hl => rfl); (case hst => rfl); (case hfew => rfl); (case hs => rfl); (case' he => walk_at "dw.e"); (case' hn => walk_at "dw.nf")))
set_option hygiene false in
local macro_rules | `(tactic| walk_at "dw.asgC0") => `(tactic| first
  | (with_reducible apply gss_asgOc C _ l0)
  | (with_reducible apply gss_asgOc C _ l1)
  | (with_reducible apply gss_asgOc C _ l2)
  | (with_reducible apply gss_asgOc C _ l3)
  | (with_reducible apply gss_asgOc C _ l4)
  | (with_reducible apply gss_asgOc C _ l5)
  | (with_reducible apply gss_asgOc C _ l6)
  | (with_reducible apply gss_asgOc C _ l7)
  | (with_reducible apply gss_asgOc C _ l8)
  | (with_reducible apply gss_asgOc C _ l9)
  | (with_reducible apply gss_asgOc C _ l10)
  | (with_reducible apply gss_asgOc C _ l11)
  | (with_reducible apply gss_asgOc C _ l12)
  | (with_reducible apply gss_asgOc C _ l13)
  | (with_reducible apply gss_asgOc C _ l14)
  | (with_reducible apply gss_asgOc C _ l15)
  | (with_reducible apply gss_asgOc C _ l16)
  | (with_reducible apply gss_asgOc C _ l17)
  | (with_reducible apply gss_asgOc C _ l18)
  | (with_reducible apply gss_asgOc C _ l19))
set_option hygiene false in
local macro_rules | `(tactic| walk_at "dw.asgC") => `(tactic| (show GSs _ _ (List.cons _ _) _; walk_at "dw.asgC0"; (case hc => decide +kernel); (case' he => walk_at "dw.e"); (case' hn => walk_at "dw.nf")))
set_option hygiene false in
local macro_rules | `(tactic| walk_at "dw.unpE") => `(tactic| ((case he => walk_at "dw.e"); (case hd => rfl); (case hg => walk_at "dw.gg"); (case hs => rfl); (case hw => rfl); (case h1 => rfl); (case' hn => walk_at "dw.nf")))
set_option hygiene false in
local macro_rules | `(tactic| walk_at "dw.ext") => `(tactic| ((case h => assumption); (case hG => rfl); (case hb => rfl); (case hl => rfl); (case hst => rfl); (case hfew => rfl); (case hs => rfl); (case' he => walk_at "dw.e"); (case' hn => walk_at "dw.nf")))

/-! ### cross_of -/
abbrev s_cross_of : Stmt := topS 4
abbrev n_cross_of : List Str := ["u", "v"]
theorem sc_cross_of : FnScope n_cross_of ["u", "v"] (defScope s_cross_of) := ⟨rfl, rfl, rfl, by decide +kernel, rfl, by decide +kernel, by decide +kernel⟩
theorem v0_cross_of : okV n_cross_of (defScope s_cross_of) 0 "u" = true := by decide +kernel
theorem v1_cross_of : okV n_cross_of (defScope s_cross_of) 1 "v" = true := by decide +kernel
def c_cross_of : Ct := fun ds R => ∃ u v : P3, ds = [u.en, v.en] ∧ P3.Bd 100000 u ∧ P3.Bd 100000 v ∧ R (.fz (P3.en (cross u v)))
theorem ln_cross_of : ∀ ds R, c_cross_of ds R → ds.length = 2 := by
  rintro ds R ⟨u, v, rfl, _⟩
  rfl
theorem bd_cross_of {W : Wd} {k : Nat} (B : Bn W) (X : Cx) (C : Cok X W n_cross_of (defScope s_cross_of) k) (ds : List D) (R : Rs → Prop) (h : c_cross_of ds R) :
    GSs X (startG n_cross_of ds) (defBody s_cross_of) { nx := fun _ => R (.fz .none), rt := R } := by
  obtain ⟨u, v, rfl, ⟨hux, huy, huz⟩, ⟨hvx, hvy, hvz⟩, hR⟩ := h
  have v0 := v0_cross_of
  have v1 := v1_cross_of
  (show GSs X [.fz _, .fz _] (List.cons _ _) _)
  apply gss_ret
  · walk_at "dw.e"
  · exact hR

theorem has_cross_of {W : Wd} {k : Nat} (B : Bn W) (F : FunAt W "cross_of" s_cross_of) : Has W (k + 1) "cross_of" c_cross_of :=
  has_mk F sc_cross_of ln_cross_of (fun _ _ _ _ _ _ us hl => match us, hl with | [_, _], _ => rfl) fun X C ds R h => bd_cross_of B X C ds R h
/-! ### product_of -/
abbrev s_product_of : Stmt := topS 5
abbrev n_product_of : List Str := ["u", "v"]
theorem sc_product_of : FnScope n_product_of ["u", "v"] (defScope s_product_of) := ⟨rfl, rfl, rfl, by decide +kernel, rfl, by decide +kernel, by decide +kernel⟩
theorem v0_product_of : okV n_product_of (defScope s_product_of) 0 "u" = true := by decide +kernel
theorem v1_product_of : okV n_product_of (defScope s_product_of) 1 "v" = true := by decide +kernel
def c_product_of : Ct := fun ds R => ∃ (du : D) (u v : P3), ds = [du, v.en] ∧ Sq3 du u ∧ P3.Bd 100000 u ∧ P3.Bd 100000 v ∧ R (.fz (.int (prod u v)))
theorem ln_product_of : ∀ ds R, c_product_of ds R → ds.length = 2 := by
  rintro ds R ⟨du, u, v, rfl, _⟩
  rfl
theorem bd_product_of {W : Wd} {k : Nat} (B : Bn W)  (X : Cx) (C : Cok X W n_product_of (defScope s_product_of) k) (ds : List D) (R : Rs → Prop) (h : c_product_of ds R) :
    GSs X (startG n_product_of ds) (defBody s_product_of) { nx := fun _ => R (.fz .none), rt := R } := by
  obtain ⟨du, u, v, rfl, hs, hu, hv, hR⟩ := h
  have v0 := v0_product_of
  have v1 := v1_product_of
  (show GSs X [.fz _, .fz _] (List.cons _ _) _)
  obtain ⟨hux, huy, huz⟩ := hu
  obtain ⟨hvx, hvy, hvz⟩ := hv
  cases hs
  · apply gss_ret
    · walk_at "dw.e"
    · exact hR
  · apply gss_ret
    · walk_at "dw.e"
    · exact hR
  · apply gss_ret
    · walk_at "dw.e"
    · exact hR

theorem has_product_of {W : Wd} {k : Nat} (B : Bn W) (F : FunAt W "product_of" s_product_of) : Has W (k + 1) "product_of" c_product_of :=
  has_mk F sc_product_of ln_product_of (fun _ _ _ _ _ _ us hl => match us, hl with | [_, _], _ => rfl) fun X C ds R h => bd_product_of B X C ds R h
/-! ### is_move -/
abbrev s_is_move : Stmt := topS 8
abbrev n_is_move : List Str := ["thing", "number"]
theorem sc_is_move : FnScope n_is_move ["thing"] (defScope s_is_move) := ⟨rfl, rfl, rfl, by decide +kernel, rfl, by decide +kernel, by decide +kernel⟩
theorem v0_is_move : okV n_is_move (defScope s_is_move) 0 "thing" = true := by decide +kernel
theorem v1_is_move : okV n_is_move (defScope s_is_move) 1 "number" = true := by decide +kernel
theorem l1_is_move : okL n_is_move (defScope s_is_move) 1 "number" = true := by decide +kernel
theorem g_NUMBERS_is_move : glB (defScope s_is_move) "NUMBERS" = true := by decide +kernel
theorem g_abs_is_move : glB (defScope s_is_move) "abs" = true := by decide +kernel
theorem g_isinstance_is_move : glB (defScope s_is_move) "isinstance" = true := by decide +kernel
theorem g_tuple_is_move : glB (defScope s_is_move) "tuple" = true := by decide +kernel
theorem g_len_is_move : glB (defScope s_is_move) "len" = true := by decide +kernel
theorem g_bool_is_move : glB (defScope s_is_move) "bool" = true := by decide +kernel
theorem g_product_of_is_move : glB (defScope s_is_move) "product_of" = true := by decide +kernel
theorem g_int_is_move : glB (defScope s_is_move) "int" = true := by decide +kernel
theorem g_cross_of_is_move : glB (defScope s_is_move) "cross_of" = true := by decide +kernel
def c_is_move : Ct := fun ds R => ∃ (m : Mv), ds = [m.en] ∧ Mv.Bd 20000 m ∧ m.det.natAbs = 1 ∧ R (.fz (.bool true))
theorem ln_is_move : ∀ ds R, c_is_move ds R → ds.length = 1 := by
  rintro ds R ⟨m, rfl, _⟩
  rfl
theorem bd_is_move {W : Wd} {k : Nat} (B : Bn W) (k_NUMBERS : ConstD W "NUMBERS" (.int 12)) (h_product_of : Has W k "product_of" c_product_of) (h_cross_of : Has W k "cross_of" c_cross_of) (X : Cx) (C : Cok X W n_is_move (defScope s_is_move) k) (ds : List D) (R : Rs → Prop) (h : c_is_move ds R) :
    GSs X (startG n_is_move ds) (defBody s_is_move) { nx := fun _ => R (.fz .none), rt := R } := by
  obtain ⟨m, rfl, hm, hd, hR⟩ := h
  have v0 := v0_is_move
  have v1 := v1_is_move
  have l1 := l1_is_move
  have g_NUMBERS := g_NUMBERS_is_move
  have g_abs := g_abs_is_move
  have g_isinstance := g_isinstance_is_move
  have g_tuple := g_tuple_is_move
  have g_len := g_len_is_move
  have g_bool := g_bool_is_move
  have g_product_of := g_product_of_is_move
  have g_int := g_int_is_move
  have g_cross_of := g_cross_of_is_move
  (show GSs X [.fz _, .no] (List.cons _ _) _)
  have ha := hm.a
  have hb := hm.b
  have hc := hm.c
  have hbc := hb.cross hc
  apply gss_not
  · walk_at "dw.e"
  · apply gss_for C (fun _ G' => ∃ r, G' = [.fz m.en, r])
    · walk_at "dw.e"
    · exact ⟨_, rfl⟩
    · rintro i d G' hd2 ⟨r, rfl⟩
      obtain ⟨z, rfl⟩ : ∃ z : Int, d = .int z := by
        have hm := List.mem_of_getElem? hd2
        simp only [List.mem_cons, List.not_mem_nil, or_false] at hm
        rcases hm with h | h | h | h | h | h | h | h | h | h | h | h <;> exact ⟨_, h⟩
      refine ⟨_, [1], gg_name C 1 l1 (by simp), ?_⟩
      apply gss_not
      · walk_at "dw.e"
      · apply gss_nil
        exact ⟨_, rfl⟩
    · rintro G' ⟨r, rfl⟩
      apply gss_ret (d := .bool true)
      · walk_at "dw.e"
        have hd2 : (prod m.a (cross m.b m.c)).natAbs = 1 := hd
        split <;> omega
      · exact hR
    · intro x
      rfl

theorem has_is_move {W : Wd} {k : Nat} (B : Bn W) (k_NUMBERS : ConstD W "NUMBERS" (.int 12)) (F : FunAt W "is_move" s_is_move) (h_product_of : Has W k "product_of" c_product_of) (h_cross_of : Has W k "cross_of" c_cross_of) : Has W (k + 1) "is_move" c_is_move :=
  has_mk F sc_is_move ln_is_move (fun _ _ _ _ _ _ us hl => match us, hl with | [_], _ => rfl) fun X C ds R h => bd_is_move B (k_NUMBERS := k_NUMBERS) (h_product_of := h_product_of) (h_cross_of := h_cross_of) X C ds R h
/-! ### need_move -/
abbrev s_need_move : Stmt := topS 9
abbrev n_need_move : List Str := ["thing"]
theorem sc_need_move : FnScope n_need_move ["thing"] (defScope s_need_move) := ⟨rfl, rfl, rfl, by decide +kernel, rfl, by decide +kernel, by decide +kernel⟩
theorem v0_need_move : okV n_need_move (defScope s_need_move) 0 "thing" = true := by decide +kernel
theorem g_is_move_need_move : glB (defScope s_need_move) "is_move" = true := by decide +kernel
theorem g_NoMove_need_move : glB (defScope s_need_move) "NoMove" = true := by decide +kernel
def c_need_move : Ct := fun ds R => ∃ (m : Mv), ds = [m.en] ∧ Mv.Bd 20000 m ∧ m.det.natAbs = 1 ∧ R (.fz (m.en))
theorem ln_need_move : ∀ ds R, c_need_move ds R → ds.length = 1 := by
  rintro ds R ⟨m, rfl, _⟩
  rfl
theorem bd_need_move {W : Wd} {k : Nat} (B : Bn W) (h_is_move : Has W k "is_move" c_is_move) (X : Cx) (C : Cok X W n_need_move (defScope s_need_move) k) (ds : List D) (R : Rs → Prop) (h : c_need_move ds R) :
    GSs X (startG n_need_move ds) (defBody s_need_move) { nx := fun _ => R (.fz .none), rt := R } := by
  obtain ⟨m, rfl, hm, hd, hR⟩ := h
  have v0 := v0_need_move
  have g_is_move := g_is_move_need_move
  have g_NoMove := g_NoMove_need_move
  (show GSs X [.fz _] (List.cons _ _) _)
  apply gss_not
  · walk_at "dw.e"
  · apply gss_ret
    · walk_at "dw.e"
    · exact hR

theorem has_need_move {W : Wd} {k : Nat} (B : Bn W) (F : FunAt W "need_move" s_need_move) (h_is_move : Has W k "is_move" c_is_move) : Has W (k + 1) "need_move" c_need_move :=
  has_mk F sc_need_move ln_need_move (fun _ _ _ _ _ _ us hl => match us, hl with | [_], _ => rfl) fun X C ds R h => bd_need_move B (h_is_move := h_is_move) X C ds R h
/-! ### turned -/
abbrev s_turned : Stmt := topS 10
abbrev n_turned : List Str := ["P", "move"]
theorem sc_turned : FnScope n_turned ["P", "move"] (defScope s_turned) := ⟨rfl, rfl, rfl, by decide +kernel, rfl, by decide +kernel, by decide +kernel⟩
theorem v0_turned : okV n_turned (defScope s_turned) 0 "P" = true := by decide +kernel
theorem v1_turned : okV n_turned (defScope s_turned) 1 "move" = true := by decide +kernel
theorem g_product_of_turned : glB (defScope s_turned) "product_of" = true := by decide +kernel
def c_turned : Ct := fun ds R => ∃ (dm : D) (a b c P : P3), ds = [P.en, dm] ∧ Mrow dm a b c ∧ P3.Bd 50000 a ∧ P3.Bd 50000 b ∧ P3.Bd 50000 c ∧ P3.Bd 50000 P ∧ R (.fz (P3.en ⟨prod a P, prod b P, prod c P⟩))
theorem ln_turned : ∀ ds R, c_turned ds R → ds.length = 2 := by
  rintro ds R ⟨dm, a, b, c, P, rfl, _⟩
  rfl
theorem bd_turned {W : Wd} {k : Nat} (B : Bn W) (h_product_of : Has W k "product_of" c_product_of) (X : Cx) (C : Cok X W n_turned (defScope s_turned) k) (ds : List D) (R : Rs → Prop) (h : c_turned ds R) :
    GSs X (startG n_turned ds) (defBody s_turned) { nx := fun _ => R (.fz .none), rt := R } := by
  obtain ⟨dm, a, b, c, P, rfl, hs, ha, hb, hc, hP, hR⟩ := h
  have v0 := v0_turned
  have v1 := v1_turned
  have g_product_of := g_product_of_turned
  (show GSs X [.fz _, .fz _] (List.cons _ _) _)
  cases hs
  · apply gss_ret
    · walk_at "dw.e"
    · exact hR
  · apply gss_ret
    · walk_at "dw.e"
    · exact hR

theorem has_turned {W : Wd} {k : Nat} (B : Bn W) (F : FunAt W "turned" s_turned) (h_product_of : Has W k "product_of" c_product_of) : Has W (k + 1) "turned" c_turned :=
  has_mk F sc_turned ln_turned (fun _ _ _ _ _ _ us hl => match us, hl with | [_, _], _ => rfl) fun X C ds R h => bd_turned B (h_product_of := h_product_of) X C ds R h
/-! ### off_by -/
abbrev s_off_by : Stmt := topS 11
abbrev n_off_by : List Str := ["P", "way"]
theorem sc_off_by : FnScope n_off_by ["P", "way"] (defScope s_off_by) := ⟨rfl, rfl, rfl, by decide +kernel, rfl, by decide +kernel, by decide +kernel⟩
theorem v0_off_by : okV n_off_by (defScope s_off_by) 0 "P" = true := by decide +kernel
theorem v1_off_by : okV n_off_by (defScope s_off_by) 1 "way" = true := by decide +kernel
def c_off_by : Ct := fun ds R => ∃ (P w : P3), ds = [P.en, w.en] ∧ R (.fz (P3.en (addP P w)))
theorem ln_off_by : ∀ ds R, c_off_by ds R → ds.length = 2 := by
  rintro ds R ⟨P, w, rfl, _⟩
  rfl
theorem bd_off_by {W : Wd} {k : Nat} (B : Bn W)  (X : Cx) (C : Cok X W n_off_by (defScope s_off_by) k) (ds : List D) (R : Rs → Prop) (h : c_off_by ds R) :
    GSs X (startG n_off_by ds) (defBody s_off_by) { nx := fun _ => R (.fz .none), rt := R } := by
  obtain ⟨P, w, rfl, hR⟩ := h
  have v0 := v0_off_by
  have v1 := v1_off_by
  (show GSs X [.fz _, .fz _] (List.cons _ _) _)
  apply gss_retE
  · walk_at "dw.e"
  · rfl
  · exact hR

theorem has_off_by {W : Wd} {k : Nat} (B : Bn W) (F : FunAt W "off_by" s_off_by) : Has W (k + 1) "off_by" c_off_by :=
  has_mk F sc_off_by ln_off_by (fun _ _ _ _ _ _ us hl => match us, hl with | [_, _], _ => rfl) fun X C ds R h => bd_off_by B X C ds R h
/-! ### moved -/
abbrev s_moved : Stmt := topS 12
abbrev n_moved : List Str := ["P", "move"]
theorem sc_moved : FnScope n_moved ["P", "move"] (defScope s_moved) := ⟨rfl, rfl, rfl, by decide +kernel, rfl, by decide +kernel, by decide +kernel⟩
theorem v0_moved : okV n_moved (defScope s_moved) 0 "P" = true := by decide +kernel
theorem v1_moved : okV n_moved (defScope s_moved) 1 "move" = true := by decide +kernel
theorem g_need_move_moved : glB (defScope s_moved) "need_move" = true := by decide +kernel
theorem g_off_by_moved : glB (defScope s_moved) "off_by" = true := by decide +kernel
theorem g_turned_moved : glB (defScope s_moved) "turned" = true := by decide +kernel
def c_moved : Ct := fun ds R => ∃ (P : P3) (m : Mv), ds = [P.en, m.en] ∧ Mv.Bd 20000 m ∧ m.det.natAbs = 1 ∧ P3.Bd 20000 P ∧ R (.fz (P3.en (m.app P)))
theorem ln_moved : ∀ ds R, c_moved ds R → ds.length = 2 := by
  rintro ds R ⟨P, m, rfl, _⟩
  rfl
theorem bd_moved {W : Wd} {k : Nat} (B : Bn W) (h_need_move : Has W k "need_move" c_need_move) (h_off_by : Has W k "off_by" c_off_by) (h_turned : Has W k "turned" c_turned) (X : Cx) (C : Cok X W n_moved (defScope s_moved) k) (ds : List D) (R : Rs → Prop) (h : c_moved ds R) :
    GSs X (startG n_moved ds) (defBody s_moved) { nx := fun _ => R (.fz .none), rt := R } := by
  obtain ⟨P, m, rfl, hm, hd, hP, hR⟩ := h
  have v0 := v0_moved
  have v1 := v1_moved
  have g_need_move := g_need_move_moved
  have g_off_by := g_off_by_moved
  have g_turned := g_turned_moved
  (show GSs X [.fz _, .fz _] (List.cons _ _) _)
  have ha := hm.a
  have hb := hm.b
  have hc := hm.c
  (show GSs _ _ (List.cons _ _) _)
  apply gss_expr (d := m.en)
  · walk_at "dw.e"
  · rfl
  apply gss_retE
  · walk_at "dw.e"
  · rfl
  · exact hR

theorem has_moved {W : Wd} {k : Nat} (B : Bn W) (F : FunAt W "moved" s_moved) (h_need_move : Has W k "need_move" c_need_move) (h_off_by : Has W k "off_by" c_off_by) (h_turned : Has W k "turned" c_turned) : Has W (k + 1) "moved" c_moved :=
  has_mk F sc_moved ln_moved (fun _ _ _ _ _ _ us hl => match us, hl with | [_, _], _ => rfl) fun X C ds R h => bd_moved B (h_need_move := h_need_move) (h_off_by := h_off_by) (h_turned := h_turned) X C ds R h
/-! ### behind -/
abbrev s_behind : Stmt := topS 13
abbrev n_behind : List Str := ["first", "second", "columns", "k", "rows", "column"]
theorem sc_behind : FnScope n_behind ["first", "second"] (defScope s_behind) := ⟨rfl, rfl, rfl, by decide +kernel, rfl, by decide +kernel, by decide +kernel⟩
theorem v0_behind : okV n_behind (defScope s_behind) 0 "first" = true := by decide +kernel
theorem v1_behind : okV n_behind (defScope s_behind) 1 "second" = true := by decide +kernel
theorem v2_behind : okV n_behind (defScope s_behind) 2 "columns" = true := by decide +kernel
theorem l2_behind : okL n_behind (defScope s_behind) 2 "columns" = true := by decide +kernel
theorem v3_behind : okV n_behind (defScope s_behind) 3 "k" = true := by decide +kernel
theorem l3_behind : okL n_behind (defScope s_behind) 3 "k" = true := by decide +kernel
theorem v4_behind : okV n_behind (defScope s_behind) 4 "rows" = true := by decide +kernel
theorem l4_behind : okL n_behind (defScope s_behind) 4 "rows" = true := by decide +kernel
theorem g_need_move_behind : glB (defScope s_behind) "need_move" = true := by decide +kernel
theorem g_range_behind : glB (defScope s_behind) "range" = true := by decide +kernel
theorem g_turned_behind : glB (defScope s_behind) "turned" = true := by decide +kernel
theorem g_tuple_behind : glB (defScope s_behind) "tuple" = true := by decide +kernel
theorem g_off_by_behind : glB (defScope s_behind) "off_by" = true := by decide +kernel
def c_behind : Ct := fun ds R => ∃ (f s : Mv), ds = [f.en, s.en] ∧ Mv.Bd 5000 f ∧ Mv.Bd 5000 s ∧ f.det.natAbs = 1 ∧ s.det.natAbs = 1 ∧ R (.fz (Mv.en (f.behind s)))
theorem ln_behind : ∀ ds R, c_behind ds R → ds.length = 2 := by
  rintro ds R ⟨f, s, rfl, _⟩
  rfl
theorem bd_behind {W : Wd} {k : Nat} (B : Bn W) (h_need_move : Has W k "need_move" c_need_move) (h_turned : Has W k "turned" c_turned) (h_off_by : Has W k "off_by" c_off_by) (X : Cx) (C : Cok X W n_behind (defScope s_behind) k) (ds : List D) (R : Rs → Prop) (h : c_behind ds R) :
    GSs X (startG n_behind ds) (defBody s_behind) { nx := fun _ => R (.fz .none), rt := R } := by
  obtain ⟨f, s, rfl, hf, hs, hdf, hds, hR⟩ := h
  have v0 := v0_behind
  have v1 := v1_behind
  have v2 := v2_behind
  have l2 := l2_behind
  have v3 := v3_behind
  have l3 := l3_behind
  have v4 := v4_behind
  have l4 := l4_behind
  have g_need_move := g_need_move_behind
  have g_range := g_range_behind
  have g_turned := g_turned_behind
  have g_tuple := g_tuple_behind
  have g_off_by := g_off_by_behind
  (show GSs X [.fz _, .fz _, .no, .no, .no, .no] (List.cons _ _) _)
  have ha := hs.a
  have hb := hs.b
  have hc := hs.c
  have ho := hf.o
  (show GSs _ _ (List.cons _ _) _)
  apply gss_expr (d := f.en)
  · walk_at "dw.e"
  · rfl
  apply gss_expr (d := s.en)
  · walk_at "dw.e"
  · rfl
  apply gss_lc1 C 2 3 (xs := rngL 0 (Int.toNat 3)) (en := .int)
  walk_at "dw.lcs"
  case he =>
    all_goals first
      | exact ⟨(hf.at (by omega) (by omega)).mono (by decide), (hf.at (by omega) (by omega)).mono (by decide), (hf.at (by omega) (by omega)).mono (by decide)⟩
      | skip
  obtain ⟨c0, h0⟩ : ∃ c : P3, c = ⟨prod s.a ⟨f.a.x, f.b.x, f.c.x⟩, prod s.b ⟨f.a.x, f.b.x, f.c.x⟩, prod s.c ⟨f.a.x, f.b.x, f.c.x⟩⟩ := ⟨_, rfl⟩
  obtain ⟨c1, h1⟩ : ∃ c : P3, c = ⟨prod s.a ⟨f.a.y, f.b.y, f.c.y⟩, prod s.b ⟨f.a.y, f.b.y, f.c.y⟩, prod s.c ⟨f.a.y, f.b.y, f.c.y⟩⟩ := ⟨_, rfl⟩
  obtain ⟨c2, h2⟩ : ∃ c : P3, c = ⟨prod s.a ⟨f.a.z, f.b.z, f.c.z⟩, prod s.b ⟨f.a.z, f.b.z, f.c.z⟩, prod s.c ⟨f.a.z, f.b.z, f.c.z⟩⟩ := ⟨_, rfl⟩
  refine GSs.is (G := [.fz f.en, .fz s.en, .ow [c0.en, c1.en, c2.en], .no, .no, .no]) ?_ (by subst h0 h1 h2; rfl)
  have key : f.behind s = ⟨⟨c0.x, c1.x, c2.x⟩, ⟨c0.y, c1.y, c2.y⟩, ⟨c0.z, c1.z, c2.z⟩, s.app f.o⟩ := by
    subst h0 h1 h2
    rfl
  rw [key] at hR
  clear key h0 h1 h2
  walk_at "dw.asgO"
  apply gss_for C (fun i G' => ∃ a b, G' = [.fz f.en, .fz s.en, .ow [c0.en, c1.en, c2.en], a, .ow (([c0.x, c1.x, c2.x, c0.y, c1.y, c2.y, c0.z, c1.z, c2.z].take (3 * i)).map .int), b])
  · walk_at "dw.e"
  · exact ⟨_, _, rfl⟩
  · rintro i d G' hd ⟨a, b, rfl⟩
    obtain ⟨hi, rfl⟩ : i < 3 ∧ d = .int (i : Int) := by
      match i, hd with
      | 0, hd => exact ⟨by decide, (Option.some.inj hd).symm⟩
      | 1, hd => exact ⟨by decide, (Option.some.inj hd).symm⟩
      | 2, hd => exact ⟨by decide, (Option.some.inj hd).symm⟩
    refine ⟨_, [3], gg_name C 3 l3 (by simp), ?_⟩
    (show GSs _ _ (List.cons _ _) _)
    apply gss_ext C 4 (us := [.int (c0.at i), .int (c1.at i), .int (c2.at i)])
    case h => assumption
    case hG => rfl
    case hb => rfl
    case hl => rfl
    case hst => rfl
    case hfew => rfl
    case hs => rfl
    case hz =>
      rw [List.length_map, List.length_take]
      show min _ 9 + 3 ≤ 16777216
      omega
    case he =>
      apply GO.gl
      refine GO.is (go_lc1 C 5 (xs := [c0, c1, c2]) (en := P3.en) (g := fun c => .int (c.at (i : Int))) (by decide +kernel) (by decide +kernel) ?_ (Nat.le_of_ble_eq_true rfl) ?_ (fun _ => rfl)) rfl
      · walk_at "dw.e"
      · intro X C a ha
        walk_at "dw.e"
    apply gss_nil
    refine ⟨.fz (.int (i : Int)), b, ?_⟩
    match i, hi with
    | 0, _ => rfl
    | 1, _ => rfl
    | 2, _ => rfl
  · rintro G' ⟨a, b, rfl⟩
    refine GSs.is (G := [.fz f.en, .fz s.en, .ow [c0.en, c1.en, c2.en], a, .ow [.int c0.x, .int c1.x, .int c2.x, .int c0.y, .int c1.y, .int c2.y, .int c0.z, .int c1.z, .int c2.z], b]) ?_ rfl
    apply gss_retE
    · walk_at "dw.e"
    · exact (rfl : _ = Mv.en ⟨⟨c0.x, c1.x, c2.x⟩, ⟨c0.y, c1.y, c2.y⟩, ⟨c0.z, c1.z, c2.z⟩, s.app f.o⟩)
    · exact hR
  · intro x
    rfl

theorem has_behind {W : Wd} {k : Nat} (B : Bn W) (F : FunAt W "behind" s_behind) (h_need_move : Has W k "need_move" c_need_move) (h_turned : Has W k "turned" c_turned) (h_off_by : Has W k "off_by" c_off_by) : Has W (k + 1) "behind" c_behind :=
  has_mk F sc_behind ln_behind (fun _ _ _ _ _ _ us hl => match us, hl with | [_, _], _ => rfl) fun X C ds R h => bd_behind B (h_need_move := h_need_move) (h_turned := h_turned) (h_off_by := h_off_by) X C ds R h
/-! ### way_back -/
abbrev s_way_back : Stmt := topS 14
abbrev n_way_back : List Str := ["move", "one", "two", "three", "sign", "columns", "rows", "k", "column", "back"]
theorem sc_way_back : FnScope n_way_back ["move"] (defScope s_way_back) := ⟨rfl, rfl, rfl, by decide +kernel, rfl, by decide +kernel, by decide +kernel⟩
theorem v0_way_back : okV n_way_back (defScope s_way_back) 0 "move" = true := by decide +kernel
theorem v1_way_back : okV n_way_back (defScope s_way_back) 1 "one" = true := by decide +kernel
theorem l1_way_back : okL n_way_back (defScope s_way_back) 1 "one" = true := by decide +kernel
theorem v2_way_back : okV n_way_back (defScope s_way_back) 2 "two" = true := by decide +kernel
theorem l2_way_back : okL n_way_back (defScope s_way_back) 2 "two" = true := by decide +kernel
theorem v3_way_back : okV n_way_back (defScope s_way_back) 3 "three" = true := by decide +kernel
theorem l3_way_back : okL n_way_back (defScope s_way_back) 3 "three" = true := by decide +kernel
theorem v4_way_back : okV n_way_back (defScope s_way_back) 4 "sign" = true := by decide +kernel
theorem l4_way_back : okL n_way_back (defScope s_way_back) 4 "sign" = true := by decide +kernel
theorem v5_way_back : okV n_way_back (defScope s_way_back) 5 "columns" = true := by decide +kernel
theorem l5_way_back : okL n_way_back (defScope s_way_back) 5 "columns" = true := by decide +kernel
theorem v6_way_back : okV n_way_back (defScope s_way_back) 6 "rows" = true := by decide +kernel
theorem l6_way_back : okL n_way_back (defScope s_way_back) 6 "rows" = true := by decide +kernel
theorem v7_way_back : okV n_way_back (defScope s_way_back) 7 "k" = true := by decide +kernel
theorem l7_way_back : okL n_way_back (defScope s_way_back) 7 "k" = true := by decide +kernel
theorem v9_way_back : okV n_way_back (defScope s_way_back) 9 "back" = true := by decide +kernel
theorem l9_way_back : okL n_way_back (defScope s_way_back) 9 "back" = true := by decide +kernel
theorem g_need_move_way_back : glB (defScope s_way_back) "need_move" = true := by decide +kernel
theorem g_product_of_way_back : glB (defScope s_way_back) "product_of" = true := by decide +kernel
theorem g_range_way_back : glB (defScope s_way_back) "range" = true := by decide +kernel
theorem g_turned_way_back : glB (defScope s_way_back) "turned" = true := by decide +kernel
theorem g_cross_of_way_back : glB (defScope s_way_back) "cross_of" = true := by decide +kernel
theorem g_tuple_way_back : glB (defScope s_way_back) "tuple" = true := by decide +kernel
def c_way_back : Ct := fun ds R => ∃ (m : Mv), ds = [m.en] ∧ Mv.Bd 5000 m ∧ m.det.natAbs = 1 ∧ R (.fz (Mv.en m.back))
theorem ln_way_back : ∀ ds R, c_way_back ds R → ds.length = 1 := by
  rintro ds R ⟨m, rfl, _⟩
  rfl
theorem bd_way_back {W : Wd} {k : Nat} (B : Bn W) (h_need_move : Has W k "need_move" c_need_move) (h_product_of : Has W k "product_of" c_product_of) (h_turned : Has W k "turned" c_turned) (h_cross_of : Has W k "cross_of" c_cross_of) (X : Cx) (C : Cok X W n_way_back (defScope s_way_back) k) (ds : List D) (R : Rs → Prop) (h : c_way_back ds R) :
    GSs X (startG n_way_back ds) (defBody s_way_back) { nx := fun _ => R (.fz .none), rt := R } := by
  obtain ⟨m, rfl, hm, hd, hR⟩ := h
  have v0 := v0_way_back
  have v1 := v1_way_back
  have l1 := l1_way_back
  have v2 := v2_way_back
  have l2 := l2_way_back
  have v3 := v3_way_back
  have l3 := l3_way_back
  have v4 := v4_way_back
  have l4 := l4_way_back
  have v5 := v5_way_back
  have l5 := l5_way_back
  have v6 := v6_way_back
  have l6 := l6_way_back
  have v7 := v7_way_back
  have l7 := l7_way_back
  have v9 := v9_way_back
  have l9 := l9_way_back
  have g_need_move := g_need_move_way_back
  have g_product_of := g_product_of_way_back
  have g_range := g_range_way_back
  have g_turned := g_turned_way_back
  have g_cross_of := g_cross_of_way_back
  have g_tuple := g_tuple_way_back
  (show GSs X [.fz _, .no, .no, .no, .no, .no, .no, .no, .no, .no] (List.cons _ _) _)
  have ha := hm.a
  have hb := hm.b
  have hc := hm.c
  have ho := hm.o
  (show GSs _ _ (List.cons _ _) _)
  apply gss_expr (d := m.en)
  · walk_at "dw.e"
  · rfl
  walk_at "dw.asgE"
  case hd => show _ = P3.en m.a; rfl
  walk_at "dw.asgE"
  case hd => show _ = P3.en m.b; rfl
  walk_at "dw.asgE"
  case hd => show _ = P3.en m.c; rfl
  have hbc := hb.cross hc
  have hca := hc.cross ha
  have hab := ha.cross hb
  walk_at "dw.asgE"
  case hd => show _ = PyData.int m.det; rfl
  have hs1 : Bd 5 m.det := by
    show _ < _
    omega
  walk_at "dw.asgO"
  have key : m.back = ⟨⟨m.det * (cross m.b m.c).x, m.det * (cross m.c m.a).x, m.det * (cross m.a m.b).x⟩, ⟨m.det * (cross m.b m.c).y, m.det * (cross m.c m.a).y, m.det * (cross m.a m.b).y⟩, ⟨m.det * (cross m.b m.c).z, m.det * (cross m.c m.a).z, m.det * (cross m.a m.b).z⟩, ⟨-prod ⟨m.det * (cross m.b m.c).x, m.det * (cross m.c m.a).x, m.det * (cross m.a m.b).x⟩ m.o, -prod ⟨m.det * (cross m.b m.c).y, m.det * (cross m.c m.a).y, m.det * (cross m.a m.b).y⟩ m.o, -prod ⟨m.det * (cross m.b m.c).z, m.det * (cross m.c m.a).z, m.det * (cross m.a m.b).z⟩ m.o⟩⟩ := rfl
  rw [key] at hR
  generalize m.det = sg at hs1 hd hR
  generalize cross m.b m.c = c0 at hbc hR
  generalize cross m.c m.a = c1 at hca hR
  generalize cross m.a m.b = c2 at hab hR
  clear key
  have b0 : P3.Bd 20000 ⟨sg * c0.x, sg * c1.x, sg * c2.x⟩ := ⟨(hs1.mul hbc.x).mono (by decide), (hs1.mul hca.x).mono (by decide), (hs1.mul hab.x).mono (by decide)⟩
  have b1 : P3.Bd 20000 ⟨sg * c0.y, sg * c1.y, sg * c2.y⟩ := ⟨(hs1.mul hbc.y).mono (by decide), (hs1.mul hca.y).mono (by decide), (hs1.mul hab.y).mono (by decide)⟩
  have b2 : P3.Bd 20000 ⟨sg * c0.z, sg * c1.z, sg * c2.z⟩ := ⟨(hs1.mul hbc.z).mono (by decide), (hs1.mul hca.z).mono (by decide), (hs1.mul hab.z).mono (by decide)⟩
  walk_at "dw.asgO"
  apply gss_for C (fun i G' => ∃ a b, G' = [.fz m.en, .fz m.a.en, .fz m.b.en, .fz m.c.en, .fz (.int sg), .ow [c0.en, c1.en, c2.en], .ow (([sg * c0.x, sg * c1.x, sg * c2.x, sg * c0.y, sg * c1.y, sg * c2.y, sg * c0.z, sg * c1.z, sg * c2.z].take (3 * i)).map .int), a, b, .no])
  · walk_at "dw.e"
  · exact ⟨_, _, rfl⟩
  · rintro i d G' hd ⟨a, b, rfl⟩
    obtain ⟨hi, rfl⟩ : i < 3 ∧ d = .int (i : Int) := by
      match i, hd with
      | 0, hd => exact ⟨by decide, (Option.some.inj hd).symm⟩
      | 1, hd => exact ⟨by decide, (Option.some.inj hd).symm⟩
      | 2, hd => exact ⟨by decide, (Option.some.inj hd).symm⟩
    refine ⟨_, [7], gg_name C 7 l7 (by simp), ?_⟩
    (show GSs _ _ (List.cons _ _) _)
    apply gss_ext C 6 (us := [.int (sg * c0.at i), .int (sg * c1.at i), .int (sg * c2.at i)])
    case h => assumption
    case hG => rfl
    case hb => rfl
    case hl => rfl
    case hst => rfl
    case hfew => rfl
    case hs => rfl
    case hz =>
      rw [List.length_map, List.length_take]
      show min _ 9 + 3 ≤ 16777216
      omega
    case he =>
      apply GO.gl
      refine GO.is (go_lc1 C 8 (xs := [c0, c1, c2]) (en := P3.en) (g := fun c => .int (sg * c.at (i : Int))) (by decide +kernel) (by decide +kernel) ?_ (Nat.le_of_ble_eq_true rfl) ?_ (fun _ => rfl)) rfl
      · walk_at "dw.e"
      · intro X C a ha
        have hab2 : P3.Bd 20000 a := by
          simp only [List.mem_cons, List.not_mem_nil, or_false] at ha
          rcases ha with rfl | rfl | rfl
          · exact hbc.mono (by decide)
          · exact hca.mono (by decide)
          · exact hab.mono (by decide)
        walk_at "dw.e"
    apply gss_nil
    refine ⟨.fz (.int (i : Int)), b, ?_⟩
    match i, hi with
    | 0, _ => rfl
    | 1, _ => rfl
    | 2, _ => rfl
  · rintro G' ⟨a, b, rfl⟩
    obtain ⟨r0, h0⟩ : ∃ r : P3, r = ⟨sg * c0.x, sg * c1.x, sg * c2.x⟩ := ⟨_, rfl⟩
    obtain ⟨r1, h1⟩ : ∃ r : P3, r = ⟨sg * c0.y, sg * c1.y, sg * c2.y⟩ := ⟨_, rfl⟩
    obtain ⟨r2, h2⟩ : ∃ r : P3, r = ⟨sg * c0.z, sg * c1.z, sg * c2.z⟩ := ⟨_, rfl⟩
    refine GSs.is (G := [.fz m.en, .fz m.a.en, .fz m.b.en, .fz m.c.en, .fz (.int sg), .ow [c0.en, c1.en, c2.en], .ow [.int r0.x, .int r0.y, .int r0.z, .int r1.x, .int r1.y, .int r1.z, .int r2.x, .int r2.y, .int r2.z], a, b, .no]) ?_ (by subst h0 h1 h2; rfl)
    rw [← h0] at b0 hR
    rw [← h1] at b1 hR
    rw [← h2] at b2 hR
    clear h0 h1 h2
    refine gs_settle 6 rfl ?_
    walk_at "dw.nf"
    (show GSs _ _ (List.cons _ _) _)
    walk_at "dw.asgE"
    case hd => show _ = P3.en ⟨prod r0 m.o, prod r1 m.o, prod r2 m.o⟩; rfl
    apply gss_retE
    · walk_at "dw.e"
    · exact (rfl : _ = Mv.en ⟨r0, r1, r2, ⟨-prod r0 m.o, -prod r1 m.o, -prod r2 m.o⟩⟩)
    · exact hR
  · intro x
    rfl

theorem has_way_back {W : Wd} {k : Nat} (B : Bn W) (F : FunAt W "way_back" s_way_back) (h_need_move : Has W k "need_move" c_need_move) (h_product_of : Has W k "product_of" c_product_of) (h_turned : Has W k "turned" c_turned) (h_cross_of : Has W k "cross_of" c_cross_of) : Has W (k + 1) "way_back" c_way_back :=
  has_mk F sc_way_back ln_way_back (fun _ _ _ _ _ _ us hl => match us, hl with | [_], _ => rfl) fun X C ds R h => bd_way_back B (h_need_move := h_need_move) (h_product_of := h_product_of) (h_turned := h_turned) (h_cross_of := h_cross_of) X C ds R h
/-! ### body_moved -/
abbrev s_body_moved : Stmt := topS 15
abbrev n_body_moved : List Str := ["land", "move", "corner"]
theorem sc_body_moved : FnScope n_body_moved ["land", "move"] (defScope s_body_moved) := ⟨rfl, rfl, rfl, by decide +kernel, rfl, by decide +kernel, by decide +kernel⟩
theorem v0_body_moved : okV n_body_moved (defScope s_body_moved) 0 "land" = true := by decide +kernel
theorem v1_body_moved : okV n_body_moved (defScope s_body_moved) 1 "move" = true := by decide +kernel
theorem g_need_move_body_moved : glB (defScope s_body_moved) "need_move" = true := by decide +kernel
theorem g_sorted_body_moved : glB (defScope s_body_moved) "sorted" = true := by decide +kernel
def c_body_moved : Ct := fun ds R => ∃ (us : List P3) (m : Mv), ds = [.list (us.map P3.en), m.en] ∧ Mv.Bd 20000 m ∧ m.det.natAbs = 1 ∧ (∀ u ∈ us, P3.Bd 20000 u) ∧ us.length ≤ 16777216 ∧ R (.ow ((sortP (us.map m.app)).map P3.en))
theorem ln_body_moved : ∀ ds R, c_body_moved ds R → ds.length = 2 := by
  rintro ds R ⟨us, m, rfl, _⟩
  rfl
theorem bd_body_moved {W : Wd} {k : Nat} (B : Bn W) (h_need_move : Has W k "need_move" c_need_move) (h_off_by : Has W k "off_by" c_off_by) (h_turned : Has W k "turned" c_turned) (X : Cx) (C : Cok X W n_body_moved (defScope s_body_moved) k) (ds : List D) (R : Rs → Prop) (h : c_body_moved ds R) :
    GSs X (startG n_body_moved ds) (defBody s_body_moved) { nx := fun _ => R (.fz .none), rt := R } := by
  obtain ⟨us, m, rfl, hm, hd, hu, hl, hR⟩ := h
  have v0 := v0_body_moved
  have v1 := v1_body_moved
  have g_need_move := g_need_move_body_moved
  have g_sorted := g_sorted_body_moved
  (show GSs X [.fz _, .fz _, .no] (List.cons _ _) _)
  have ha := hm.a
  have hb := hm.b
  have hc := hm.c
  (show GSs _ _ (List.cons _ _) _)
  apply gss_expr (d := m.en)
  · walk_at "dw.e"
  · rfl
  apply gss_retO
  · apply go_sort3 C (us := us.map m.app)
    case ha =>
      apply GO.gl
      refine GO.is (go_lc1 C 2 (xs := us) (en := P3.en) (g := fun u => (m.app u).en) (by decide +kernel) (by decide +kernel) ?_ hl ?_ (fun _ => rfl)) (by rw [List.map_map]; rfl)
      · walk_at "dw.e"
      · intro X C a ha
        have hba := hu a ha
        walk_at "dw.e"
    case hL => rw [List.length_map]; exact hl
    all_goals walk_at "dw.e"
  · exact hR

theorem has_body_moved {W : Wd} {k : Nat} (B : Bn W) (F : FunAt W "body_moved" s_body_moved) (h_need_move : Has W k "need_move" c_need_move) (h_off_by : Has W k "off_by" c_off_by) (h_turned : Has W k "turned" c_turned) : Has W (k + 1) "body_moved" c_body_moved :=
  has_mk F sc_body_moved ln_body_moved (fun _ _ _ _ _ _ us hl => match us, hl with | [_, _], _ => rfl) fun X C ds R h => bd_body_moved B (h_need_move := h_need_move) (h_off_by := h_off_by) (h_turned := h_turned) X C ds R h
/-! ### _law_cell -/
abbrev s_L_cell : Stmt := topS 17
abbrev n_L_cell : List Str := ["script", "k"]
theorem sc_L_cell : FnScope n_L_cell ["script", "k"] (defScope s_L_cell) := ⟨rfl, rfl, rfl, by decide +kernel, rfl, by decide +kernel, by decide +kernel⟩
theorem v0_L_cell : okV n_L_cell (defScope s_L_cell) 0 "script" = true := by decide +kernel
theorem v1_L_cell : okV n_L_cell (defScope s_L_cell) 1 "k" = true := by decide +kernel
theorem g_len_L_cell : glB (defScope s_L_cell) "len" = true := by decide +kernel
def c_L_cell : Ct := fun ds R => ∃ (ns : List Int) (k : Int), ds = [.list (ns.map .int), .int k] ∧ 0 ≤ k ∧ k ≤ 100 ∧ R (.fz (.int (cellA ns k)))
theorem ln_L_cell : ∀ ds R, c_L_cell ds R → ds.length = 2 := by
  rintro ds R ⟨ns, k, rfl, _⟩
  rfl
theorem bd_L_cell {W : Wd} {k : Nat} (B : Bn W) (X : Cx) (C : Cok X W n_L_cell (defScope s_L_cell) k) (ds : List D) (R : Rs → Prop) (h : c_L_cell ds R) :
    GSs X (startG n_L_cell ds) (defBody s_L_cell) { nx := fun _ => R (.fz .none), rt := R } := by
  obtain ⟨ns, c, rfl, h0, h1, hR⟩ := h
  have v0 := v0_L_cell
  have v1 := v1_L_cell
  have g_len := g_len_L_cell
  (show GSs X [.fz _, .fz _] (List.cons _ _) _)
  have bc : Bd 7 c := by
    show c.natAbs < 2 ^ 7
    omega
  apply gss_when
  · walk_at "dw.e"
  · intro ht
    have hc := of_decide_eq_true ht
    rw [List.length_map] at hc
    rw [show cellA ns c = ns.getD c.toNat 0 from if_pos hc] at hR
    apply gss_ret
    · walk_at "dw.e"
      exact IxV.lst (atI_map (atI_getD h0 hc))
    · exact hR
  · intro ht
    have hc := of_decide_eq_false ht
    rw [List.length_map] at hc
    rw [show cellA ns c = 7 * c * c + 10 * c + 3 from if_neg hc] at hR
    apply gss_ret
    · walk_at "dw.e"
    · exact hR

theorem has_L_cell {W : Wd} {k : Nat} (B : Bn W) (F : FunAt W "_law_cell" s_L_cell) : Has W (k + 1) "_law_cell" c_L_cell :=
  has_mk F sc_L_cell ln_L_cell (fun _ _ _ _ _ _ us hl => match us, hl with | [_, _], _ => rfl) fun X C ds R h => bd_L_cell B X C ds R h
/-! ### _law_whole -/
abbrev s_L_whole : Stmt := topS 18
abbrev n_L_whole : List Str := ["found"]
theorem sc_L_whole : FnScope n_L_whole ["found"] (defScope s_L_whole) := ⟨rfl, rfl, rfl, by decide +kernel, rfl, by decide +kernel, by decide +kernel⟩
theorem v0_L_whole : okV n_L_whole (defScope s_L_whole) 0 "found" = true := by decide +kernel
theorem g_isinstance_L_whole : glB (defScope s_L_whole) "isinstance" = true := by decide +kernel
theorem g_int_L_whole : glB (defScope s_L_whole) "int" = true := by decide +kernel
theorem g_bool_L_whole : glB (defScope s_L_whole) "bool" = true := by decide +kernel
def c_L_whole : Ct := fun ds R => ∃ i : Int, ds = [.int i] ∧ R (.fz (.bool true))
theorem ln_L_whole : ∀ ds R, c_L_whole ds R → ds.length = 1 := by
  rintro ds R ⟨i, rfl, _⟩
  rfl
theorem bd_L_whole {W : Wd} {k : Nat} (B : Bn W) (X : Cx) (C : Cok X W n_L_whole (defScope s_L_whole) k) (ds : List D) (R : Rs → Prop) (h : c_L_whole ds R) :
    GSs X (startG n_L_whole ds) (defBody s_L_whole) { nx := fun _ => R (.fz .none), rt := R } := by
  obtain ⟨i, rfl, hR⟩ := h
  have v0 := v0_L_whole
  have g_isinstance := g_isinstance_L_whole
  have g_int := g_int_L_whole
  have g_bool := g_bool_L_whole
  (show GSs X [.fz _] (List.cons _ _) _)
  apply gss_ret
  · walk_at "dw.e"
  · exact hR

theorem has_L_whole {W : Wd} {k : Nat} (B : Bn W) (F : FunAt W "_law_whole" s_L_whole) : Has W (k + 1) "_law_whole" c_L_whole :=
  has_mk F sc_L_whole ln_L_whole (fun _ _ _ _ _ _ us hl => match us, hl with | [_], _ => rfl) fun X C ds R h => bd_L_whole B X C ds R h
/-! ### _law_rows -/
abbrev s_L_rows : Stmt := topS 19
abbrev n_L_rows : List Str := ["cells", "rows", "cell", "i", "j", "times", "k", "kept", "number"]
theorem sc_L_rows : FnScope n_L_rows ["cells"] (defScope s_L_rows) := ⟨rfl, rfl, rfl, by decide +kernel, rfl, by decide +kernel, by decide +kernel⟩
theorem v0_L_rows : okV n_L_rows (defScope s_L_rows) 0 "cells" = true := by decide +kernel
theorem v1_L_rows : okV n_L_rows (defScope s_L_rows) 1 "rows" = true := by decide +kernel
theorem l1_L_rows : okL n_L_rows (defScope s_L_rows) 1 "rows" = true := by decide +kernel
theorem v2_L_rows : okV n_L_rows (defScope s_L_rows) 2 "cell" = true := by decide +kernel
theorem l2_L_rows : okL n_L_rows (defScope s_L_rows) 2 "cell" = true := by decide +kernel
theorem v3_L_rows : okV n_L_rows (defScope s_L_rows) 3 "i" = true := by decide +kernel
theorem l3_L_rows : okL n_L_rows (defScope s_L_rows) 3 "i" = true := by decide +kernel
theorem v4_L_rows : okV n_L_rows (defScope s_L_rows) 4 "j" = true := by decide +kernel
theorem l4_L_rows : okL n_L_rows (defScope s_L_rows) 4 "j" = true := by decide +kernel
theorem v5_L_rows : okV n_L_rows (defScope s_L_rows) 5 "times" = true := by decide +kernel
theorem l5_L_rows : okL n_L_rows (defScope s_L_rows) 5 "times" = true := by decide +kernel
theorem v7_L_rows : okV n_L_rows (defScope s_L_rows) 7 "kept" = true := by decide +kernel
theorem l7_L_rows : okL n_L_rows (defScope s_L_rows) 7 "kept" = true := by decide +kernel
theorem g_range_L_rows : glB (defScope s_L_rows) "range" = true := by decide +kernel
def c_L_rows : Ct := fun ds R => ∃ (cs : List Int), ds = [.list (cs.map .int)] ∧ (cs.length ≤ 6) ∧ (∀ c ∈ cs, Bd 1048576 c) ∧ R (.ow (((rowsA cs).ds)))
theorem ln_L_rows : ∀ ds R, c_L_rows ds R → ds.length = 1 := by
  rintro ds R ⟨cs, rfl, _⟩
  rfl
theorem bd_L_rows {W : Wd} {k : Nat} (B : Bn W)  (X : Cx) (C : Cok X W n_L_rows (defScope s_L_rows) k) (ds : List D) (R : Rs → Prop) (h : c_L_rows ds R) :
    GSs X (startG n_L_rows ds) (defBody s_L_rows) { nx := fun _ => R (.fz .none), rt := R } := by
  obtain ⟨cs, rfl, hlen, hb, hR⟩ := h
  have v0 := v0_L_rows
  have v1 := v1_L_rows
  have l1 := l1_L_rows
  have v2 := v2_L_rows
  have l2 := l2_L_rows
  have v3 := v3_L_rows
  have l3 := l3_L_rows
  have v4 := v4_L_rows
  have l4 := l4_L_rows
  have v5 := v5_L_rows
  have l5 := l5_L_rows
  have v7 := v7_L_rows
  have l7 := l7_L_rows
  have g_range := g_range_L_rows
  (show GSs X [.fz _, .no, .no, .no, .no, .no, .no, .no, .no] (List.cons _ _) _)
  (show GSs _ _ (List.cons _ _) _)
  apply gss_asgO C 1 l1 (ds := (rowsA (cs.take 0)).ds)
  case hs => rfl
  case he =>
    refine go_lst (x1 := ()) (ga_cons (GO.ge (go_lst (x1 := ()) (ds := [.int 1, .int 0, .int 0]) ?_ (Nat.le_of_ble_eq_true rfl))) (ga_cons (GO.ge (go_lst (x1 := ()) (ds := [.int 0, .int 1, .int 0]) ?_ (Nat.le_of_ble_eq_true rfl))) (ga_cons (GO.ge (go_lst (x1 := ()) (ds := [.int 0, .int 0, .int 1]) ?_ (Nat.le_of_ble_eq_true rfl))) ga_nil rfl) rfl) rfl) (Nat.le_of_ble_eq_true rfl)
    · exact ga_cons ge_int (ga_cons ge_int (ga_cons ge_int ga_nil rfl) rfl) rfl
    · exact ga_cons ge_int (ga_cons ge_int (ga_cons ge_int ga_nil rfl) rfl) rfl
    · exact ga_cons ge_int (ga_cons ge_int (ga_cons ge_int ga_nil rfl) rfl) rfl
  walk_at "dw.nf"
  (show GSs _ _ (List.cons _ _) _)
  apply gss_for C (fun n G' => ∃ (x2 x3 x4 x5 x7 : Sl), G' = [.fz (.list (cs.map .int)), .ow (rowsA (cs.take n)).ds, x2, x3, x4, x5, .no, x7, .no]) (items := cs.map PyData.int)
  case hi => exact gi_list (by walk_at "dw.v")
  case h0 => exact ⟨_, _, _, _, _, rfl⟩
  case hf =>
    intro x
    rfl
  case hs =>
    rintro n d G' hd ⟨x2, x3, x4, x5, x7, rfl⟩
    obtain ⟨c, hc, rfl⟩ := map_at hd
    have bc := hb c (List.mem_of_getElem? hc)
    have br := (rowsA_take_bd cs n).mono (m := 300) (by omega)
    rw [rowsA_take hc]
    generalize rowsA (cs.take n) = r at br
    refine ⟨_, [2], gg_name C 2 l2 (by simp), ?_⟩
    walk_at "dw.nf"
    (show GSs _ _ (List.cons _ _) _)
    walk_at "dw.asg"
    (show GSs _ _ (List.cons _ _) _)
    apply gss_asg C 4 l4 (d := .int (jR c))
    case hs => rfl
    case he =>
      refine GE.is (d := .int ((c % 3 + 1 + c / 3 % 2) % 3)) ?_ rfl
      walk_at "dw.e"
    walk_at "dw.nf"
    have i0 : 0 ≤ c % 3 ∧ c % 3 < 3 := ⟨Int.emod_nonneg _ (by decide), Int.emod_lt_of_pos _ (by decide)⟩
    have j0 : 0 ≤ jR c ∧ jR c < 3 := by
      unfold jR
      omega
    have ht : timesR c = if c / 210 % 8 = 5 then (c / 6 % 7 - 3) * (10 ^ (9 : Int).toNat + 7) else c / 6 % 7 - 3 := rfl
    have bt0 : Bd 4 (c / 6 % 7 - 3) := by
      show (c / 6 % 7 - 3).natAbs < 2 ^ 4
      omega
    have b97 : Bd 31 (10 ^ (9 : Int).toNat + 7) := by decide +kernel
    (show GSs _ _ (List.cons _ _) _)
    walk_at "dw.asg"
    have hst : stepR c r = if c / 42 % 5 < 3 then r.set (jR c) (addM (r.get (jR c)) (timesR c) (r.get (c % 3))) else if c / 42 % 5 = 3 then (r.set (c % 3) (r.get (jR c))).set (jR c) (r.get (c % 3)) else r.set (c % 3) ⟨-(r.get (c % 3)).x, -(r.get (c % 3)).y, -(r.get (c % 3)).z⟩ := rfl
    have bt := times_bd c
    apply gss_join (fun G' => G' = [.fz (.list (cs.map .int)), .ow r.ds, .fz (.int c), .fz (.int (c % 3)), .fz (.int (jR c)), .fz (.int (timesR c)), .no, x7, .no]) (t := decide (c / 210 % 8 = 5))
    case hc => walk_at "dw.e"
    case h1 =>
      intro hh
      rw [if_pos (of_decide_eq_true hh)] at ht
      (show GSs _ _ (List.cons _ _) _)
      apply gss_asg C 5 l5 (d := .int ((c / 6 % 7 - 3) * (10 ^ (9 : Int).toNat + 7)))
      case hs => rfl
      case he =>
        refine ge_mul (by walk_at "dw.v") (ge_add (ge_pow ge_int ge_int ⟨by decide, by decide, by decide +kernel⟩) ge_int (.int _ _)) (Bd.ok bt0 b97 (by decide))
      walk_at "dw.nf"
      apply gss_nil
      rw [ht]
    case h2 =>
      intro hh
      rw [if_neg (of_decide_eq_false hh)] at ht
      rw [ht]
    rintro G' rfl
    generalize timesR c = t at hst bt
    generalize jR c = j at hst j0
    generalize c % 3 = i at hst i0
    have gi := r3_at (r := r) i0.1 i0.2
    have gj := r3_at (r := r) j0.1 j0.2
    have bi := br.get i
    have bj := br.get j
    have q0 : 0 ≤ c / 42 % 5 := Int.emod_nonneg _ (by decide)
    have q5 : c / 42 % 5 < 5 := Int.emod_lt_of_pos _ (by decide)
    apply gss_when (t := decide (c / 42 % 5 < 3))
    · walk_at "dw.e"
    · intro hq
      have hq := of_decide_eq_true hq
      rw [if_pos hq] at hst
      rw [hst]
      (show GSs _ _ (List.cons _ _) _)
      apply gss_setI C 1 (ds := r.ds) (d := sqD (addM (r.get j) t (r.get i))) (j := j) (jn := j.toNat)
      case h => assumption
      case hG => rfl
      case ha =>
        intro _
        rfl
      case hs => rfl
      case hw => rfl
      case h1' => rfl
      case hj => walk_at "dw.v"
      case hjn => exact r3_ix j0.1 j0.2
      case he =>
        refine GO.ge (GO.is (ds := (rngL 0 3).map fun a => .int ((r.get j).at a + t * (r.get i).at a)) (go_lc1 C 6 (xs := rngL 0 3) (en := .int) (by decide +kernel) (by decide +kernel) (GI.w (gi_rngC C (by walk_at "dw.gl") B.range ge_int rfl (by decide) rfl)) (Nat.le_of_ble_eq_true rfl) ?_ (fun _ => rfl)) rfl)
        intro X C a ha
        have ha' := rngL_mem ha
        refine ge_add (ge_ix (GV.s (ge_ix (GV.l (by walk_at "dw.o")) (by walk_at "dw.v") (.own gj) (fun _ _ => rfl))) (by walk_at "dw.v") (ixl3' (by omega) (by omega)) (fun _ _ => rfl)) (ge_mul (by walk_at "dw.v") (ge_ix (GV.s (ge_ix (GV.l (by walk_at "dw.o")) (by walk_at "dw.v") (.own gi) (fun _ _ => rfl))) (by walk_at "dw.v") (ixl3' (by omega) (by omega)) (fun _ _ => rfl)) (Bd.ok bt bi.at (by decide))) (.int _ _)
      rw [r3_set j0.1 j0.2]
      walk_at "dw.nf"
      apply gss_nil
      apply gss_not
      · refine GT.is (gt_cp C (GE.gh (d := .int (c / 42 % 5)) (by walk_at "dw.e")) ge_int.gh (.eqI _ _) rfl) (decide_eq_false (by omega))
      apply gss_not
      · refine GT.is (gt_cp C (GE.gh (d := .int (c / 42 % 5)) (by walk_at "dw.e")) ge_int.gh (.eqI _ _) rfl) (decide_eq_false (by omega))
      apply gss_nil
      exact ⟨_, _, _, _, _, rfl⟩
    intro hq
    have hq := of_decide_eq_false hq
    rw [if_neg hq] at hst
    apply gss_when (t := decide (c / 42 % 5 = 3))
    · walk_at "dw.e"
    · intro hq3
      have hq3 := of_decide_eq_true hq3
      rw [if_pos hq3] at hst
      rw [hst]
      (show GSs _ _ (List.cons _ _) _)
      apply gss_asg C 7 l7 (d := sqD (r.get i))
      case hs => rfl
      case he => exact ge_ix (GV.l (by walk_at "dw.o")) (by walk_at "dw.v") (.own gi) (fun _ _ => rfl)
      walk_at "dw.nf"
      (show GSs _ _ (List.cons _ _) _)
      apply gss_setI C 1 (ds := r.ds) (d := sqD (r.get j)) (j := i) (jn := i.toNat)
      case h => assumption
      case hG => rfl
      case ha =>
        intro _
        rfl
      case hs => rfl
      case hw => rfl
      case h1' => rfl
      case hj => walk_at "dw.v"
      case hjn => exact r3_ix i0.1 i0.2
      case he => exact ge_ix (GV.l (by walk_at "dw.o")) (by walk_at "dw.v") (.own gj) (fun _ _ => rfl)
      rw [r3_set i0.1 i0.2]
      walk_at "dw.nf"
      (show GSs _ _ (List.cons _ _) _)
      apply gss_setI C 1 (ds := (r.set i (r.get j)).ds) (d := sqD (r.get i)) (j := j) (jn := j.toNat)
      case h => assumption
      case hG => rfl
      case ha =>
        intro _
        rfl
      case hs => rfl
      case hw => rfl
      case h1' => rfl
      case hj => walk_at "dw.v"
      case hjn => exact r3_ix j0.1 j0.2
      case he => walk_at "dw.v"
      rw [r3_set j0.1 j0.2]
      walk_at "dw.nf"
      apply gss_nil
      apply gss_not
      · refine GT.is (gt_cp C (GE.gh (d := .int (c / 42 % 5)) (by walk_at "dw.e")) ge_int.gh (.eqI _ _) rfl) (decide_eq_false (by omega))
      apply gss_nil
      exact ⟨_, _, _, _, _, rfl⟩
    intro hq3
    have hq3 := of_decide_eq_false hq3
    rw [if_neg hq3] at hst
    rw [hst]
    apply gss_when (t := true)
    · refine GT.is (gt_cp C (GE.gh (d := .int (c / 42 % 5)) (by walk_at "dw.e")) ge_int.gh (.eqI _ _) rfl) (decide_eq_true (by omega))
    · intro _
      (show GSs _ _ (List.cons _ _) _)
      apply gss_setI C 1 (ds := r.ds) (d := sqD ⟨-(r.get i).x, -(r.get i).y, -(r.get i).z⟩) (j := i) (jn := i.toNat)
      case h => assumption
      case hG => rfl
      case ha =>
        intro _
        rfl
      case hs => rfl
      case hw => rfl
      case h1' => rfl
      case hj => walk_at "dw.v"
      case hjn => exact r3_ix i0.1 i0.2
      case he =>
        refine GO.ge (GO.is (ds := [(r.get i).x, (r.get i).y, (r.get i).z].map fun a => .int (-a)) (go_lc1 C 8 (xs := [(r.get i).x, (r.get i).y, (r.get i).z]) (en := .int) (by decide +kernel) (by decide +kernel) (GI.w (gi_list (ge_ix (GV.l (by walk_at "dw.o")) (by walk_at "dw.v") (.own gi) (fun _ _ => rfl)))) (Nat.le_of_ble_eq_true rfl) ?_ (fun _ => rfl)) rfl)
        intro X C a ha
        walk_at "dw.e"
      rw [r3_set i0.1 i0.2]
      walk_at "dw.nf"
      apply gss_nil
      apply gss_nil
      exact ⟨_, _, _, _, _, rfl⟩
    · intro h
      cases h
  case hd =>
    rintro G' ⟨x2, x3, x4, x5, x7, rfl⟩
    rw [List.length_map, List.take_length]
    apply gss_retV C 1 v1
    · rfl
    · exact hR

theorem has_L_rows {W : Wd} {k : Nat} (B : Bn W) (F : FunAt W "_law_rows" s_L_rows) : Has W (k + 1) "_law_rows" c_L_rows :=
  has_mk F sc_L_rows ln_L_rows (fun _ _ _ _ _ _ us hl => match us, hl with | [_], _ => rfl) fun X C ds R h => bd_L_rows B X C ds R h
/-! ### _law_move -/
abbrev s_L_move : Stmt := topS 20
abbrev n_L_move : List Str := ["cells", "far", "rows", "off"]
theorem sc_L_move : FnScope n_L_move ["cells", "far"] (defScope s_L_move) := ⟨rfl, rfl, rfl, by decide +kernel, rfl, by decide +kernel, by decide +kernel⟩
theorem v0_L_move : okV n_L_move (defScope s_L_move) 0 "cells" = true := by decide +kernel
theorem v1_L_move : okV n_L_move (defScope s_L_move) 1 "far" = true := by decide +kernel
theorem v2_L_move : okV n_L_move (defScope s_L_move) 2 "rows" = true := by decide +kernel
theorem l2_L_move : okL n_L_move (defScope s_L_move) 2 "rows" = true := by decide +kernel
theorem v3_L_move : okV n_L_move (defScope s_L_move) 3 "off" = true := by decide +kernel
theorem l3_L_move : okL n_L_move (defScope s_L_move) 3 "off" = true := by decide +kernel
theorem g_L_rows_L_move : glB (defScope s_L_move) "_law_rows" = true := by decide +kernel
theorem g_tuple_L_move : glB (defScope s_L_move) "tuple" = true := by decide +kernel
def c_L_move : Ct := fun ds R => ∃ (cs : List Int) (far : Int), ds = [.list (cs.map .int), .int far] ∧ (cs.length ≤ 6) ∧ (∀ c ∈ cs, Bd 1048576 c) ∧ (Bd 1048576 far) ∧ R (.fz (Mv.en (moveA cs far)))
theorem ln_L_move : ∀ ds R, c_L_move ds R → ds.length = 2 := by
  rintro ds R ⟨cs, far, rfl, _⟩
  rfl
theorem bd_L_move {W : Wd} {k : Nat} (B : Bn W) (h_L_rows : Has W k "_law_rows" c_L_rows) (X : Cx) (C : Cok X W n_L_move (defScope s_L_move) k) (ds : List D) (R : Rs → Prop) (h : c_L_move ds R) :
    GSs X (startG n_L_move ds) (defBody s_L_move) { nx := fun _ => R (.fz .none), rt := R } := by
  obtain ⟨cs, far, rfl, hlen, hb, hf, hR⟩ := h
  have v0 := v0_L_move
  have v1 := v1_L_move
  have v2 := v2_L_move
  have l2 := l2_L_move
  have v3 := v3_L_move
  have l3 := l3_L_move
  have g_L_rows := g_L_rows_L_move
  have g_tuple := g_tuple_L_move
  (show GSs X [.fz _, .fz _, .no, .no] (List.cons _ _) _)
  have hmv : moveA cs far = ⟨(rowsA cs).a, (rowsA cs).b, (rowsA cs).c, ⟨far % 41 - 20, far / 41 % 2001 - 1000, far / 7 % 10 ^ (12 : Int).toNat - 10 ^ (6 : Int).toNat⟩⟩ := rfl
  rw [hmv] at hR
  (show GSs _ _ (List.cons _ _) _)
  apply gss_asg C 2 l2 (d := .list (rowsA cs).ds)
  case hs => rfl
  case he =>
    apply GO.ge
    walk_at "dw.e"
  walk_at "dw.nf"
  have a0 := r3_at (r := rowsA cs) (i := 0) (by decide) (by decide)
  have a1 := r3_at (r := rowsA cs) (i := 1) (by decide) (by decide)
  have a2 := r3_at (r := rowsA cs) (i := 2) (by decide) (by decide)
  generalize rowsA cs = r at *
  (show GSs _ _ (List.cons _ _) _)
  apply gss_asg C 3 l3 (d := P3.en ⟨far % 41 - 20, far / 41 % 2001 - 1000, far / 7 % 10 ^ (12 : Int).toNat - 10 ^ (6 : Int).toNat⟩)
  case hs => rfl
  case he =>
    refine ge_p3 (by walk_at "dw.e") (by walk_at "dw.e") (ge_sub (ge_mod (by walk_at "dw.e") (ge_pow ge_int ge_int ⟨by decide, by decide, by decide +kernel⟩) (by decide +kernel)) (ge_pow ge_int ge_int ⟨by decide, by decide, by decide +kernel⟩)) rfl rfl rfl
  walk_at "dw.nf"
  apply gss_ret
  · refine GE.is (ge_add (ge_tupleL C (by walk_at "dw.gl") B.tuple (GE.gl (ge_add (x := .list [.int r.a.x, .int r.a.y, .int r.a.z, .int r.b.x, .int r.b.y, .int r.b.z]) (y := sqD r.c) (ge_add (x := sqD r.a) (y := sqD r.b) ?_ ?_ (.lst _ _ (Nat.le_of_ble_eq_true rfl))) ?_ (.lst _ _ (Nat.le_of_ble_eq_true rfl)))) rfl) (by walk_at "dw.v") (.tup _ _ (Nat.le_of_ble_eq_true rfl))) rfl
    · exact ge_ix (GV.s (by walk_at "dw.v")) ge_int (.lst a0) (fun _ _ => rfl)
    · exact ge_ix (GV.s (by walk_at "dw.v")) ge_int (.lst a1) (fun _ _ => rfl)
    · exact ge_ix (GV.s (by walk_at "dw.v")) ge_int (.lst a2) (fun _ _ => rfl)
  · exact hR

theorem has_L_move {W : Wd} {k : Nat} (B : Bn W) (F : FunAt W "_law_move" s_L_move) (h_L_rows : Has W k "_law_rows" c_L_rows) : Has W (k + 1) "_law_move" c_L_move :=
  has_mk F sc_L_move ln_L_move (fun _ _ _ _ _ _ us hl => match us, hl with | [_, _], _ => rfl) fun X C ds R h => bd_L_move B (h_L_rows := h_L_rows) X C ds R h
/-! ### _law_product -/
abbrev s_L_product : Stmt := topS 21
abbrev n_L_product : List Str := ["u", "v"]
theorem sc_L_product : FnScope n_L_product ["u", "v"] (defScope s_L_product) := ⟨rfl, rfl, rfl, by decide +kernel, rfl, by decide +kernel, by decide +kernel⟩
theorem v0_L_product : okV n_L_product (defScope s_L_product) 0 "u" = true := by decide +kernel
theorem v1_L_product : okV n_L_product (defScope s_L_product) 1 "v" = true := by decide +kernel
def c_L_product : Ct := fun ds R => ∃ (du : D) (u v : P3), ds = [du, v.en] ∧ Sq3 du u ∧ P3.Bd 100000 u ∧ P3.Bd 100000 v ∧ R (.fz (.int (prod u v)))
theorem ln_L_product : ∀ ds R, c_L_product ds R → ds.length = 2 := by
  rintro ds R ⟨du, u, v, rfl, _⟩
  rfl
theorem bd_L_product {W : Wd} {k : Nat} (B : Bn W)  (X : Cx) (C : Cok X W n_L_product (defScope s_L_product) k) (ds : List D) (R : Rs → Prop) (h : c_L_product ds R) :
    GSs X (startG n_L_product ds) (defBody s_L_product) { nx := fun _ => R (.fz .none), rt := R } := by
  obtain ⟨du, u, v, rfl, hs, hu, hv, hR⟩ := h
  have v0 := v0_L_product
  have v1 := v1_L_product
  (show GSs X [.fz _, .fz _] (List.cons _ _) _)
  obtain ⟨hux, huy, huz⟩ := hu
  obtain ⟨hvx, hvy, hvz⟩ := hv
  cases hs
  all_goals
    apply gss_ret
    · walk_at "dw.e"
    · exact hR

theorem has_L_product {W : Wd} {k : Nat} (B : Bn W) (F : FunAt W "_law_product" s_L_product) : Has W (k + 1) "_law_product" c_L_product :=
  has_mk F sc_L_product ln_L_product (fun _ _ _ _ _ _ us hl => match us, hl with | [_, _], _ => rfl) fun X C ds R h => bd_L_product B X C ds R h
/-! ### _law_cross -/
abbrev s_L_cross : Stmt := topS 22
abbrev n_L_cross : List Str := ["u", "v"]
theorem sc_L_cross : FnScope n_L_cross ["u", "v"] (defScope s_L_cross) := ⟨rfl, rfl, rfl, by decide +kernel, rfl, by decide +kernel, by decide +kernel⟩
theorem v0_L_cross : okV n_L_cross (defScope s_L_cross) 0 "u" = true := by decide +kernel
theorem v1_L_cross : okV n_L_cross (defScope s_L_cross) 1 "v" = true := by decide +kernel
def c_L_cross : Ct := fun ds R => ∃ (u v : P3), ds = [u.en, v.en] ∧ P3.Bd 40000 u ∧ P3.Bd 40000 v ∧ R (.fz (P3.en (cross u v)))
theorem ln_L_cross : ∀ ds R, c_L_cross ds R → ds.length = 2 := by
  rintro ds R ⟨u, v, rfl, _⟩
  rfl
theorem bd_L_cross {W : Wd} {k : Nat} (B : Bn W)  (X : Cx) (C : Cok X W n_L_cross (defScope s_L_cross) k) (ds : List D) (R : Rs → Prop) (h : c_L_cross ds R) :
    GSs X (startG n_L_cross ds) (defBody s_L_cross) { nx := fun _ => R (.fz .none), rt := R } := by
  obtain ⟨u, v, rfl, hu, hv, hR⟩ := h
  have v0 := v0_L_cross
  have v1 := v1_L_cross
  (show GSs X [.fz _, .fz _] (List.cons _ _) _)
  apply gss_ret
  · walk_at "dw.e"
  · exact hR

theorem has_L_cross {W : Wd} {k : Nat} (B : Bn W) (F : FunAt W "_law_cross" s_L_cross) : Has W (k + 1) "_law_cross" c_L_cross :=
  has_mk F sc_L_cross ln_L_cross (fun _ _ _ _ _ _ us hl => match us, hl with | [_, _], _ => rfl) fun X C ds R h => bd_L_cross B X C ds R h
/-! ### _law_taken -/
abbrev s_L_taken : Stmt := topS 23
abbrev n_L_taken : List Str := ["P", "move", "x", "y"]
theorem sc_L_taken : FnScope n_L_taken ["P", "move"] (defScope s_L_taken) := ⟨rfl, rfl, rfl, by decide +kernel, rfl, by decide +kernel, by decide +kernel⟩
theorem v0_L_taken : okV n_L_taken (defScope s_L_taken) 0 "P" = true := by decide +kernel
theorem v1_L_taken : okV n_L_taken (defScope s_L_taken) 1 "move" = true := by decide +kernel
theorem v2_L_taken : okV n_L_taken (defScope s_L_taken) 2 "x" = true := by decide +kernel
theorem l2_L_taken : okL n_L_taken (defScope s_L_taken) 2 "x" = true := by decide +kernel
theorem v3_L_taken : okV n_L_taken (defScope s_L_taken) 3 "y" = true := by decide +kernel
theorem l3_L_taken : okL n_L_taken (defScope s_L_taken) 3 "y" = true := by decide +kernel
theorem g_L_product_L_taken : glB (defScope s_L_taken) "_law_product" = true := by decide +kernel
def c_L_taken : Ct := fun ds R => ∃ (P : P3) (m : Mv), ds = [P.en, m.en] ∧ Mv.Bd 20000 m ∧ P3.Bd 20000 P ∧ R (.fz (P3.en (m.app P)))
theorem ln_L_taken : ∀ ds R, c_L_taken ds R → ds.length = 2 := by
  rintro ds R ⟨P, m, rfl, _⟩
  rfl
theorem bd_L_taken {W : Wd} {k : Nat} (B : Bn W) (h_L_product : Has W k "_law_product" c_L_product) (X : Cx) (C : Cok X W n_L_taken (defScope s_L_taken) k) (ds : List D) (R : Rs → Prop) (h : c_L_taken ds R) :
    GSs X (startG n_L_taken ds) (defBody s_L_taken) { nx := fun _ => R (.fz .none), rt := R } := by
  obtain ⟨P, m, rfl, hm, hP, hR⟩ := h
  have v0 := v0_L_taken
  have v1 := v1_L_taken
  have v2 := v2_L_taken
  have l2 := l2_L_taken
  have v3 := v3_L_taken
  have l3 := l3_L_taken
  have g_L_product := g_L_product_L_taken
  (show GSs X [.fz _, .fz _, .no, .no] (List.cons _ _) _)
  have ha := hm.a
  have hb := hm.b
  have hc := hm.c
  walk_at "dw.asg"
  walk_at "dw.asg"
  apply gss_retE
  · walk_at "dw.e"
  · rfl
  · exact hR

theorem has_L_taken {W : Wd} {k : Nat} (B : Bn W) (F : FunAt W "_law_taken" s_L_taken) (h_L_product : Has W k "_law_product" c_L_product) : Has W (k + 1) "_law_taken" c_L_taken :=
  has_mk F sc_L_taken ln_L_taken (fun _ _ _ _ _ _ us hl => match us, hl with | [_, _], _ => rfl) fun X C ds R h => bd_L_taken B (h_L_product := h_L_product) X C ds R h
/-! ### _law_twelve -/
abbrev s_L_twelve : Stmt := topS 24
abbrev n_L_twelve : List Str := ["found", "due", "number"]
theorem sc_L_twelve : FnScope n_L_twelve ["found", "due"] (defScope s_L_twelve) := ⟨rfl, rfl, rfl, by decide +kernel, rfl, by decide +kernel, by decide +kernel⟩
theorem v0_L_twelve : okV n_L_twelve (defScope s_L_twelve) 0 "found" = true := by decide +kernel
theorem v1_L_twelve : okV n_L_twelve (defScope s_L_twelve) 1 "due" = true := by decide +kernel
theorem g_isinstance_L_twelve : glB (defScope s_L_twelve) "isinstance" = true := by decide +kernel
theorem g_tuple_L_twelve : glB (defScope s_L_twelve) "tuple" = true := by decide +kernel
theorem g_len_L_twelve : glB (defScope s_L_twelve) "len" = true := by decide +kernel
def c_L_twelve : Ct := fun ds R => ∃ (ns : List Int), ds = [.tuple (ns.map .int), .tuple (ns.map .int)] ∧ (ns.length ≤ 100) ∧ R (.fz (.bool true))
theorem ln_L_twelve : ∀ ds R, c_L_twelve ds R → ds.length = 2 := by
  rintro ds R ⟨ns, rfl, _⟩
  rfl
theorem bd_L_twelve {W : Wd} {k : Nat} (B : Bn W) (h_L_whole : Has W k "_law_whole" c_L_whole) (X : Cx) (C : Cok X W n_L_twelve (defScope s_L_twelve) k) (ds : List D) (R : Rs → Prop) (h : c_L_twelve ds R) :
    GSs X (startG n_L_twelve ds) (defBody s_L_twelve) { nx := fun _ => R (.fz .none), rt := R } := by
  obtain ⟨ns, rfl, hlen, hR⟩ := h
  have v0 := v0_L_twelve
  have v1 := v1_L_twelve
  have g_isinstance := g_isinstance_L_twelve
  have g_tuple := g_tuple_L_twelve
  have g_len := g_len_L_twelve
  (show GSs X [.fz _, .fz _, .no] (List.cons _ _) _)
  apply gss_not
  · refine GW.gt (gw_orF ?_ (gw_orF ?_ (gw_or1 ?_)))
    · walk_at "dw.e"
    · exact gt_cp C (GE.gh (ge_len C g_len B.len (GE.gh (by walk_at "dw.v")) .tup rfl)) (GE.gh (ge_len C g_len B.len (GE.gh (by walk_at "dw.v")) .tup rfl)) (cmp_neF rfl) rfl
    · exact gt_cp C (GE.gh (by walk_at "dw.v")) (GE.gh (by walk_at "dw.v")) (cmp_neFd rfl (shaped_tupI ns)) rfl
  apply gss_ret (d := .bool true)
  · refine GE.is (ge_cp C (GL.gh (GO.gl (go_lc1f C 2 (xs := ns) (en := .int) (bt := fun _ => false) (g := .int) ?_ ?_ ?_ ?_ ?_ ?_ ?_))) (GL.gh (GO.gl (go_lst (x1 := ()) ga_nil (by decide)))) (cmp_eqNI _) rfl) ?_
    · decide +kernel
    · decide +kernel
    · exact GI.w (gi_tup (by walk_at "dw.v"))
    · omega
    · intro X C a ha
      walk_at "dw.e"
    · intro X C a ha h
      cases h
    · intro _
      rfl
    · rw [List.filter_eq_nil_iff.mpr fun _ _ => by simp]
      rfl
  · exact hR

theorem has_L_twelve {W : Wd} {k : Nat} (B : Bn W) (F : FunAt W "_law_twelve" s_L_twelve) (h_L_whole : Has W k "_law_whole" c_L_whole) : Has W (k + 1) "_law_twelve" c_L_twelve :=
  has_mk F sc_L_twelve ln_L_twelve (fun _ _ _ _ _ _ us hl => match us, hl with | [_, _], _ => rfl) fun X C ds R h => bd_L_twelve B (h_L_whole := h_L_whole) X C ds R h
/-! ### _law_behind -/
abbrev s_L_behind : Stmt := topS 25
abbrev n_L_behind : List Str := ["first", "second", "rows", "k", "row", "j"]
theorem sc_L_behind : FnScope n_L_behind ["first", "second"] (defScope s_L_behind) := ⟨rfl, rfl, rfl, by decide +kernel, rfl, by decide +kernel, by decide +kernel⟩
theorem v0_L_behind : okV n_L_behind (defScope s_L_behind) 0 "first" = true := by decide +kernel
theorem v1_L_behind : okV n_L_behind (defScope s_L_behind) 1 "second" = true := by decide +kernel
theorem v2_L_behind : okV n_L_behind (defScope s_L_behind) 2 "rows" = true := by decide +kernel
theorem l2_L_behind : okL n_L_behind (defScope s_L_behind) 2 "rows" = true := by decide +kernel
theorem v3_L_behind : okV n_L_behind (defScope s_L_behind) 3 "k" = true := by decide +kernel
theorem l3_L_behind : okL n_L_behind (defScope s_L_behind) 3 "k" = true := by decide +kernel
theorem v4_L_behind : okV n_L_behind (defScope s_L_behind) 4 "row" = true := by decide +kernel
theorem l4_L_behind : okL n_L_behind (defScope s_L_behind) 4 "row" = true := by decide +kernel
theorem g_range_L_behind : glB (defScope s_L_behind) "range" = true := by decide +kernel
theorem g_tuple_L_behind : glB (defScope s_L_behind) "tuple" = true := by decide +kernel
theorem g_L_taken_L_behind : glB (defScope s_L_behind) "_law_taken" = true := by decide +kernel
def c_L_behind : Ct := fun ds R => ∃ (f s : Mv), ds = [f.en, s.en] ∧ (Mv.Bd 5000 f) ∧ (Mv.Bd 5000 s) ∧ R (.fz (Mv.en (f.behind s)))
theorem ln_L_behind : ∀ ds R, c_L_behind ds R → ds.length = 2 := by
  rintro ds R ⟨f, s, rfl, _⟩
  rfl
theorem bd_L_behind {W : Wd} {k : Nat} (B : Bn W) (h_L_taken : Has W k "_law_taken" c_L_taken) (h_L_product : Has W k "_law_product" c_L_product) (X : Cx) (C : Cok X W n_L_behind (defScope s_L_behind) k) (ds : List D) (R : Rs → Prop) (h : c_L_behind ds R) :
    GSs X (startG n_L_behind ds) (defBody s_L_behind) { nx := fun _ => R (.fz .none), rt := R } := by
  obtain ⟨f, s, rfl, hf, hs, hR⟩ := h
  have v0 := v0_L_behind
  have v1 := v1_L_behind
  have v2 := v2_L_behind
  have l2 := l2_L_behind
  have v3 := v3_L_behind
  have l3 := l3_L_behind
  have v4 := v4_L_behind
  have l4 := l4_L_behind
  have g_range := g_range_L_behind
  have g_tuple := g_tuple_L_behind
  have g_L_taken := g_L_taken_L_behind
  (show GSs X [.fz _, .fz _, .no, .no, .no, .no] (List.cons _ _) _)
  have ho := hf.o
  (show GSs _ _ (List.cons _ _) _)
  walk_at "dw.asgO"
  (show GSs _ _ (List.cons _ _) _)
  have hli : ∀ i, i < 3 → (f.behind s).li.take (3 * (i + 1)) = (f.behind s).li.take (3 * i) ++ [prod (s.row i) ⟨f.at 0, f.at 3, f.at 6⟩, prod (s.row i) ⟨f.at 1, f.at 4, f.at 7⟩, prod (s.row i) ⟨f.at 2, f.at 5, f.at 8⟩] := fun i hi => by
    have h3 : i = 0 ∨ i = 1 ∨ i = 2 := by omega
    rcases h3 with rfl | rfl | rfl <;> rfl
  apply gss_for C (fun i G' => ∃ (x3 x4 : Sl), G' = [.fz f.en, .fz s.en, .ow (((f.behind s).li.take (3 * i)).map .int), x3, x4, .no]) (items := (rngL 0 3).map PyData.int)
  case hi => exact gi_rngC C g_range B.range ge_int rfl (by decide) rfl
  case h0 => exact ⟨_, _, rfl⟩
  case hf =>
    intro x
    rfl
  case hs =>
    rintro i d G' hd ⟨x3, x4, rfl⟩
    obtain ⟨hi, rfl⟩ := rng_at hd
    rw [Int.zero_add]
    refine ⟨_, [3], gg_name C 3 l3 (by simp), ?_⟩
    walk_at "dw.nf"
    rw [hli i hi]
    have br := hs.row i
    have bi : Bd 4 (i : Int) := by
      show (i : Int).natAbs < 2 ^ 4
      omega
    have hll : (((f.behind s).li.take (3 * i)).map PyData.int).length + 3 ≤ sizeLine := by
      rw [List.length_map, List.length_take, sizeLine_eq]
      show min (3 * i) 12 + 3 ≤ _
      omega
    generalize hLL : (f.behind s).li.take (3 * i) = ll at hll
    clear hLL
    (show GSs _ _ (List.cons _ _) _)
    apply gss_asg C 4 l4 (d := P3.en (s.row i))
    case hs => rfl
    case he =>
      refine GE.is (ge_slT (l := some (3 * (i : Int))) (h := some (3 * (i : Int) + 3)) (by walk_at "dw.v") (gp_yes (by walk_at "dw.e")) (gp_yes (by walk_at "dw.e"))) ?_
      have h3 : i = 0 ∨ i = 1 ∨ i = 2 := by omega
      rcases h3 with rfl | rfl | rfl <;> rfl
    walk_at "dw.nf"
    generalize s.row i = rr at br
    (show GSs _ _ (List.cons _ _) _)
    apply gss_asgO C 2 l2 (ds := ll.map .int ++ (rngL 0 3).map fun a => .int (prod rr ⟨f.at a, f.at (a + 3), f.at (a + 6)⟩))
    case hs => rfl
    case he =>
      refine go_add (by walk_at "dw.o") (GO.gl (go_lc1 C 5 (xs := rngL 0 3) (en := .int) (by decide +kernel) (by decide +kernel) (GI.w (gi_rngC C (by walk_at "dw.gl") B.range ge_int rfl (by decide) rfl)) (Nat.le_of_ble_eq_true rfl) ?_ (fun _ => rfl))) hll
      intro X C a ha
      have ha' := rngL_mem ha
      have c1 := hf.at (a := a) (by omega) (by omega)
      have c2 := hf.at (a := a + 3) (by omega) (by omega)
      have c3 := hf.at (a := a + 6) (by omega) (by omega)
      have bq : P3.Bd 100000 ⟨f.at a, f.at (a + 3), f.at (a + 6)⟩ := ⟨c1.mono (by decide), c2.mono (by decide), c3.mono (by decide)⟩
      have br2 := br.mono (m := 100000) (by decide)
      refine ge_call C h_L_product (Nat.le_refl _) (by walk_at "dw.gl") (ga_cons (d := rr.en) (by walk_at "dw.v") (ga_cons (d := P3.en ⟨f.at a, f.at (a + 3), f.at (a + 6)⟩) (by walk_at "dw.e") ga_nil rfl) rfl) (fun R_ h_ => ⟨rr.en, rr, _, rfl, .t, br2, bq, h_⟩) rfl rfl
    walk_at "dw.nf"
    apply gss_nil
    refine ⟨.fz (.int (i : Int)), .fz rr.en, ?_⟩
    rw [List.map_append]
    rfl
  case hd =>
    rintro G' ⟨x3, x4, rfl⟩
    rw [List.length_map, show (rngL 0 3).length = 3 from rfl]
    apply gss_retE
    · exact ge_add (ge_tupleL C (by walk_at "dw.gl") B.tuple (by walk_at "dw.o") rfl) (ge_call C h_L_taken (Nat.le_refl _) (by walk_at "dw.gl") (ga_cons (d := P3.en f.o) (ge_mv4 (by walk_at "dw.v")) (ga_cons (d := s.en) (by walk_at "dw.v") ga_nil rfl) rfl) (fun R_ h_ => ⟨f.o, s, rfl, hs.mono (by decide), ho.mono (by decide), h_⟩) rfl rfl) (.tup _ _ (Nat.le_of_ble_eq_true rfl))
    · exact (rfl : _ = Mv.en (f.behind s))
    · exact hR

theorem has_L_behind {W : Wd} {k : Nat} (B : Bn W) (F : FunAt W "_law_behind" s_L_behind) (h_L_taken : Has W k "_law_taken" c_L_taken) (h_L_product : Has W k "_law_product" c_L_product) : Has W (k + 1) "_law_behind" c_L_behind :=
  has_mk F sc_L_behind ln_L_behind (fun _ _ _ _ _ _ us hl => match us, hl with | [_, _], _ => rfl) fun X C ds R h => bd_L_behind B (h_L_taken := h_L_taken) (h_L_product := h_L_product) X C ds R h
/-! ### _law_back -/
abbrev s_L_back : Stmt := topS 26
abbrev n_L_back : List Str := ["move", "one", "two", "three", "sign", "columns", "rows", "k", "column", "off"]
theorem sc_L_back : FnScope n_L_back ["move"] (defScope s_L_back) := ⟨rfl, rfl, rfl, by decide +kernel, rfl, by decide +kernel, by decide +kernel⟩
theorem v0_L_back : okV n_L_back (defScope s_L_back) 0 "move" = true := by decide +kernel
theorem v1_L_back : okV n_L_back (defScope s_L_back) 1 "one" = true := by decide +kernel
theorem l1_L_back : okL n_L_back (defScope s_L_back) 1 "one" = true := by decide +kernel
theorem v2_L_back : okV n_L_back (defScope s_L_back) 2 "two" = true := by decide +kernel
theorem l2_L_back : okL n_L_back (defScope s_L_back) 2 "two" = true := by decide +kernel
theorem v3_L_back : okV n_L_back (defScope s_L_back) 3 "three" = true := by decide +kernel
theorem l3_L_back : okL n_L_back (defScope s_L_back) 3 "three" = true := by decide +kernel
theorem v4_L_back : okV n_L_back (defScope s_L_back) 4 "sign" = true := by decide +kernel
theorem l4_L_back : okL n_L_back (defScope s_L_back) 4 "sign" = true := by decide +kernel
theorem v5_L_back : okV n_L_back (defScope s_L_back) 5 "columns" = true := by decide +kernel
theorem l5_L_back : okL n_L_back (defScope s_L_back) 5 "columns" = true := by decide +kernel
theorem v6_L_back : okV n_L_back (defScope s_L_back) 6 "rows" = true := by decide +kernel
theorem l6_L_back : okL n_L_back (defScope s_L_back) 6 "rows" = true := by decide +kernel
theorem v7_L_back : okV n_L_back (defScope s_L_back) 7 "k" = true := by decide +kernel
theorem l7_L_back : okL n_L_back (defScope s_L_back) 7 "k" = true := by decide +kernel
theorem v9_L_back : okV n_L_back (defScope s_L_back) 9 "off" = true := by decide +kernel
theorem l9_L_back : okL n_L_back (defScope s_L_back) 9 "off" = true := by decide +kernel
theorem g_L_product_L_back : glB (defScope s_L_back) "_law_product" = true := by decide +kernel
theorem g_range_L_back : glB (defScope s_L_back) "range" = true := by decide +kernel
theorem g_L_taken_L_back : glB (defScope s_L_back) "_law_taken" = true := by decide +kernel
theorem g_L_cross_L_back : glB (defScope s_L_back) "_law_cross" = true := by decide +kernel
theorem g_tuple_L_back : glB (defScope s_L_back) "tuple" = true := by decide +kernel
def c_L_back : Ct := fun ds R => ∃ (m : Mv), ds = [m.en] ∧ (Mv.Bd 5000 m) ∧ (m.det.natAbs = 1) ∧ R (.fz (Mv.en m.back))
theorem ln_L_back : ∀ ds R, c_L_back ds R → ds.length = 1 := by
  rintro ds R ⟨m, rfl, _⟩
  rfl
theorem bd_L_back {W : Wd} {k : Nat} (B : Bn W) (h_L_product : Has W k "_law_product" c_L_product) (h_L_taken : Has W k "_law_taken" c_L_taken) (h_L_cross : Has W k "_law_cross" c_L_cross) (X : Cx) (C : Cok X W n_L_back (defScope s_L_back) k) (ds : List D) (R : Rs → Prop) (h : c_L_back ds R) :
    GSs X (startG n_L_back ds) (defBody s_L_back) { nx := fun _ => R (.fz .none), rt := R } := by
  obtain ⟨m, rfl, hm, hd, hR⟩ := h
  have v0 := v0_L_back
  have v1 := v1_L_back
  have l1 := l1_L_back
  have v2 := v2_L_back
  have l2 := l2_L_back
  have v3 := v3_L_back
  have l3 := l3_L_back
  have v4 := v4_L_back
  have l4 := l4_L_back
  have v5 := v5_L_back
  have l5 := l5_L_back
  have v6 := v6_L_back
  have l6 := l6_L_back
  have v7 := v7_L_back
  have l7 := l7_L_back
  have v9 := v9_L_back
  have l9 := l9_L_back
  have g_L_product := g_L_product_L_back
  have g_range := g_range_L_back
  have g_L_taken := g_L_taken_L_back
  have g_L_cross := g_L_cross_L_back
  have g_tuple := g_tuple_L_back
  (show GSs X [.fz _, .no, .no, .no, .no, .no, .no, .no, .no, .no] (List.cons _ _) _)
  have ha := hm.a
  have hb := hm.b
  have hc := hm.c
  have ho := hm.o
  (show GSs _ _ (List.cons _ _) _)
  walk_at "dw.asgE"
  case hd => show _ = P3.en m.a; rfl
  walk_at "dw.asgE"
  case hd => show _ = P3.en m.b; rfl
  walk_at "dw.asgE"
  case hd => show _ = P3.en m.c; rfl
  have hbc := hb.cross hc
  have hca := hc.cross ha
  have hab := ha.cross hb
  walk_at "dw.asgE"
  case hd => show _ = PyData.int m.det; rfl
  have hs1 : Bd 5 m.det := by
    show _ < _
    omega
  walk_at "dw.asgO"
  have key : m.back = ⟨⟨m.det * (cross m.b m.c).x, m.det * (cross m.c m.a).x, m.det * (cross m.a m.b).x⟩, ⟨m.det * (cross m.b m.c).y, m.det * (cross m.c m.a).y, m.det * (cross m.a m.b).y⟩, ⟨m.det * (cross m.b m.c).z, m.det * (cross m.c m.a).z, m.det * (cross m.a m.b).z⟩, ⟨-prod ⟨m.det * (cross m.b m.c).x, m.det * (cross m.c m.a).x, m.det * (cross m.a m.b).x⟩ m.o, -prod ⟨m.det * (cross m.b m.c).y, m.det * (cross m.c m.a).y, m.det * (cross m.a m.b).y⟩ m.o, -prod ⟨m.det * (cross m.b m.c).z, m.det * (cross m.c m.a).z, m.det * (cross m.a m.b).z⟩ m.o⟩⟩ := rfl
  rw [key] at hR
  generalize m.det = sg at hs1 hd hR
  generalize cross m.b m.c = c0 at hbc hR
  generalize cross m.c m.a = c1 at hca hR
  generalize cross m.a m.b = c2 at hab hR
  clear key
  have b0 : P3.Bd 20000 ⟨sg * c0.x, sg * c1.x, sg * c2.x⟩ := ⟨(hs1.mul hbc.x).mono (by decide), (hs1.mul hca.x).mono (by decide), (hs1.mul hab.x).mono (by decide)⟩
  have b1 : P3.Bd 20000 ⟨sg * c0.y, sg * c1.y, sg * c2.y⟩ := ⟨(hs1.mul hbc.y).mono (by decide), (hs1.mul hca.y).mono (by decide), (hs1.mul hab.y).mono (by decide)⟩
  have b2 : P3.Bd 20000 ⟨sg * c0.z, sg * c1.z, sg * c2.z⟩ := ⟨(hs1.mul hbc.z).mono (by decide), (hs1.mul hca.z).mono (by decide), (hs1.mul hab.z).mono (by decide)⟩
  refine gs_settle 5 rfl ?_
  walk_at "dw.nf"
  walk_at "dw.asgO"
  (show GSs _ _ (List.cons _ _) _)
  apply gss_for C (fun i G' => ∃ x7, G' = [.fz m.en, .fz m.a.en, .fz m.b.en, .fz m.c.en, .fz (.int sg), .fz (.list [c0.en, c1.en, c2.en]), .ow (([sg * c0.x, sg * c1.x, sg * c2.x, sg * c0.y, sg * c1.y, sg * c2.y, sg * c0.z, sg * c1.z, sg * c2.z].take (3 * i)).map .int), x7, .no, .no]) (items := (rngL 0 3).map PyData.int)
  case hi => exact gi_rngC C g_range B.range ge_int rfl (by decide) rfl
  case h0 => exact ⟨_, rfl⟩
  case hf =>
    intro x
    rfl
  case hs =>
    rintro i d G' hd2 ⟨x7, rfl⟩
    obtain ⟨hi, rfl⟩ := rng_at hd2
    rw [Int.zero_add]
    refine ⟨_, [7], gg_name C 7 l7 (by simp), ?_⟩
    walk_at "dw.nf"
    have hli : [sg * c0.x, sg * c1.x, sg * c2.x, sg * c0.y, sg * c1.y, sg * c2.y, sg * c0.z, sg * c1.z, sg * c2.z].take (3 * (i + 1)) = [sg * c0.x, sg * c1.x, sg * c2.x, sg * c0.y, sg * c1.y, sg * c2.y, sg * c0.z, sg * c1.z, sg * c2.z].take (3 * i) ++ [sg * c0.at (i : Int), sg * c1.at (i : Int), sg * c2.at (i : Int)] := by
      have h3 : i = 0 ∨ i = 1 ∨ i = 2 := by omega
      rcases h3 with rfl | rfl | rfl <;> rfl
    rw [hli]
    have hll : (([sg * c0.x, sg * c1.x, sg * c2.x, sg * c0.y, sg * c1.y, sg * c2.y, sg * c0.z, sg * c1.z, sg * c2.z].take (3 * i)).map PyData.int).length + 3 ≤ sizeLine := by
      rw [List.length_map, List.length_take, sizeLine_eq]
      show min (3 * i) 9 + 3 ≤ _
      omega
    generalize [sg * c0.x, sg * c1.x, sg * c2.x, sg * c0.y, sg * c1.y, sg * c2.y, sg * c0.z, sg * c1.z, sg * c2.z].take (3 * i) = ll at hll
    (show GSs _ _ (List.cons _ _) _)
    apply gss_asgO C 6 l6 (ds := ll.map .int ++ [c0, c1, c2].map fun c => .int (sg * c.at (i : Int)))
    case hs => rfl
    case he =>
      refine go_add (by walk_at "dw.o") (GO.gl (go_lc1 C 8 (xs := [c0, c1, c2]) (en := P3.en) (by decide +kernel) (by decide +kernel) (GI.w (gi_list (by walk_at "dw.v"))) (Nat.le_of_ble_eq_true rfl) ?_ (fun _ => rfl))) hll
      intro X C a ha
      have hab2 : P3.Bd 20000 a := by
        simp only [List.mem_cons, List.not_mem_nil, or_false] at ha
        rcases ha with rfl | rfl | rfl
        · exact hbc.mono (by decide)
        · exact hca.mono (by decide)
        · exact hab.mono (by decide)
      walk_at "dw.e"
    walk_at "dw.nf"
    apply gss_nil
    refine ⟨.fz (.int (i : Int)), ?_⟩
    rw [List.map_append]
    rfl
  case hd =>
    rintro G' ⟨x7, rfl⟩
    rw [List.length_map, show (rngL 0 3).length = 3 from rfl]
    obtain ⟨r0, h0⟩ : ∃ r : P3, r = ⟨sg * c0.x, sg * c1.x, sg * c2.x⟩ := ⟨_, rfl⟩
    obtain ⟨r1, h1⟩ : ∃ r : P3, r = ⟨sg * c0.y, sg * c1.y, sg * c2.y⟩ := ⟨_, rfl⟩
    obtain ⟨r2, h2⟩ : ∃ r : P3, r = ⟨sg * c0.z, sg * c1.z, sg * c2.z⟩ := ⟨_, rfl⟩
    refine GSs.is (G := [.fz m.en, .fz m.a.en, .fz m.b.en, .fz m.c.en, .fz (.int sg), .fz (.list [c0.en, c1.en, c2.en]), .ow [.int r0.x, .int r0.y, .int r0.z, .int r1.x, .int r1.y, .int r1.z, .int r2.x, .int r2.y, .int r2.z], x7, .no, .no]) ?_ (by subst h0 h1 h2; rfl)
    rw [← h0] at b0 hR
    rw [← h1] at b1 hR
    rw [← h2] at b2 hR
    clear h0 h1 h2
    refine gs_settle 6 rfl ?_
    walk_at "dw.nf"
    have bmv : Mv.Bd 20000 ⟨r0, r1, r2, ⟨0, 0, 0⟩⟩ := ⟨b0, b1, b2, (⟨by decide, by decide, by decide⟩ : P3.Bd 20000 ⟨0, 0, 0⟩)⟩
    (show GSs _ _ (List.cons _ _) _)
    apply gss_asg C 9 l9 (d := P3.en (Mv.app ⟨r0, r1, r2, ⟨0, 0, 0⟩⟩ m.o))
    case hs => rfl
    case he =>
      refine ge_call C h_L_taken (Nat.le_refl _) (by walk_at "dw.gl") (ga_cons (d := P3.en m.o) (ge_mv4 (by walk_at "dw.v")) (ga_cons (d := Mv.en ⟨r0, r1, r2, ⟨0, 0, 0⟩⟩) ?_ ga_nil rfl) rfl) (fun R_ h_ => ⟨m.o, _, rfl, bmv, ho.mono (by decide), h_⟩) rfl rfl
      refine GE.is (ge_add (ge_tupleL C (by walk_at "dw.gl") B.tuple (GE.gl (by walk_at "dw.v")) rfl) (ge_tup (ga_cons ge_int (ga_cons ge_int (ga_cons ge_int ga_nil rfl) rfl) rfl) (Nat.le_of_ble_eq_true rfl)) (.tup _ _ (Nat.le_of_ble_eq_true rfl))) rfl
    walk_at "dw.nf"
    have e0 : Mv.app ⟨r0, r1, r2, ⟨0, 0, 0⟩⟩ m.o = ⟨prod r0 m.o, prod r1 m.o, prod r2 m.o⟩ := by
      apply P3.ext
      · exact Int.add_zero _
      · exact Int.add_zero _
      · exact Int.add_zero _
    rw [e0]
    apply gss_retE
    · exact ge_add (ge_tupleL C (by walk_at "dw.gl") B.tuple (GE.gl (by walk_at "dw.v")) rfl) (ge_p3 (ge_neg (by walk_at "dw.e")) (ge_neg (by walk_at "dw.e")) (ge_neg (by walk_at "dw.e")) rfl rfl rfl) (.tup _ _ (Nat.le_of_ble_eq_true rfl))
    · exact (rfl : _ = Mv.en ⟨r0, r1, r2, ⟨-prod r0 m.o, -prod r1 m.o, -prod r2 m.o⟩⟩)
    · exact hR

theorem has_L_back {W : Wd} {k : Nat} (B : Bn W) (F : FunAt W "_law_back" s_L_back) (h_L_product : Has W k "_law_product" c_L_product) (h_L_taken : Has W k "_law_taken" c_L_taken) (h_L_cross : Has W k "_law_cross" c_L_cross) : Has W (k + 1) "_law_back" c_L_back :=
  has_mk F sc_L_back ln_L_back (fun _ _ _ _ _ _ us hl => match us, hl with | [_], _ => rfl) fun X C ds R h => bd_L_back B (h_L_product := h_L_product) (h_L_taken := h_L_taken) (h_L_cross := h_L_cross) X C ds R h
/-! ### _law_body_good -/
abbrev s_L_body_good : Stmt := topS 27
abbrev n_L_body_good : List Str := ["land", "move", "handed", "due", "corner", "found"]
theorem sc_L_body_good : FnScope n_L_body_good ["land", "move"] (defScope s_L_body_good) := ⟨rfl, rfl, rfl, by decide +kernel, rfl, by decide +kernel, by decide +kernel⟩
theorem v0_L_body_good : okV n_L_body_good (defScope s_L_body_good) 0 "land" = true := by decide +kernel
theorem v1_L_body_good : okV n_L_body_good (defScope s_L_body_good) 1 "move" = true := by decide +kernel
theorem v2_L_body_good : okV n_L_body_good (defScope s_L_body_good) 2 "handed" = true := by decide +kernel
theorem l2_L_body_good : okL n_L_body_good (defScope s_L_body_good) 2 "handed" = true := by decide +kernel
theorem v3_L_body_good : okV n_L_body_good (defScope s_L_body_good) 3 "due" = true := by decide +kernel
theorem l3_L_body_good : okL n_L_body_good (defScope s_L_body_good) 3 "due" = true := by decide +kernel
theorem v5_L_body_good : okV n_L_body_good (defScope s_L_body_good) 5 "found" = true := by decide +kernel
theorem l5_L_body_good : okL n_L_body_good (defScope s_L_body_good) 5 "found" = true := by decide +kernel
theorem g_list_L_body_good : glB (defScope s_L_body_good) "list" = true := by decide +kernel
theorem g_sorted_L_body_good : glB (defScope s_L_body_good) "sorted" = true := by decide +kernel
theorem g_body_moved_L_body_good : glB (defScope s_L_body_good) "body_moved" = true := by decide +kernel
theorem g_isinstance_L_body_good : glB (defScope s_L_body_good) "isinstance" = true := by decide +kernel
def c_L_body_good : Ct := fun ds R => ∃ (us : List P3) (m : Mv), ds = [.list (us.map P3.en), m.en] ∧ (us.length ≤ 4000) ∧ (∀ u ∈ us, P3.Bd 2000 u) ∧ (Mv.Bd 2000 m) ∧ (m.det.natAbs = 1) ∧ R (.fz (.bool true))
theorem ln_L_body_good : ∀ ds R, c_L_body_good ds R → ds.length = 2 := by
  rintro ds R ⟨us, m, rfl, _⟩
  rfl
theorem bd_L_body_good {W : Wd} {k : Nat} (B : Bn W) (h_body_moved : Has W k "body_moved" c_body_moved) (h_L_taken : Has W k "_law_taken" c_L_taken) (h_L_twelve : Has W k "_law_twelve" c_L_twelve) (X : Cx) (C : Cok X W n_L_body_good (defScope s_L_body_good) k) (ds : List D) (R : Rs → Prop) (h : c_L_body_good ds R) :
    GSs X (startG n_L_body_good ds) (defBody s_L_body_good) { nx := fun _ => R (.fz .none), rt := R } := by
  obtain ⟨us, m, rfl, hlen, hu, hm, hd, hR⟩ := h
  have v0 := v0_L_body_good
  have v1 := v1_L_body_good
  have v2 := v2_L_body_good
  have l2 := l2_L_body_good
  have v3 := v3_L_body_good
  have l3 := l3_L_body_good
  have v5 := v5_L_body_good
  have l5 := l5_L_body_good
  have g_list := g_list_L_body_good
  have g_sorted := g_sorted_L_body_good
  have g_body_moved := g_body_moved_L_body_good
  have g_isinstance := g_isinstance_L_body_good
  (show GSs X [.fz _, .fz _, .no, .no, .no, .no] (List.cons _ _) _)
  have hm2 := hm.mono (k := 20000) (by decide)
  have hbB : ∀ u ∈ us, P3.Bd 20000 u := fun u h => (hu u h).mono (by decide)
  have hl2 : us.length ≤ 16777216 := by omega
  have hsl : (sortP (us.map m.app)).length = us.length := by
    unfold sortP
    rw [List.length_mergeSort, List.length_map]
  (show GSs _ _ (List.cons _ _) _)
  apply gss_asg C 2 l2 (d := .list (us.map P3.en))
  case hs => rfl
  case he => walk_at "dw.e"
  walk_at "dw.nf"
  (show GSs _ _ (List.cons _ _) _)
  apply gss_asg C 3 l3 (d := .list ((sortP (us.map m.app)).map P3.en))
  case hs => rfl
  case he =>
    refine GO.ge (go_sort3 (us := us.map m.app) C (by walk_at "dw.gl") B.sorted (GO.gl (GO.is (go_lc1 C 4 (xs := us) (en := P3.en) (g := fun u => P3.en (m.app u)) (by decide +kernel) (by decide +kernel) (GI.w (gi_list (by walk_at "dw.v"))) hl2 ?_ (fun _ => rfl)) (by rw [List.map_map]; rfl))) (by rw [List.length_map]; exact hl2) rfl)
    intro X C a ha
    have ba := hbB a ha
    walk_at "dw.e"
  walk_at "dw.nf"
  (show GSs _ _ (List.cons _ _) _)
  apply gss_asgO C 5 l5 (ds := (sortP (us.map m.app)).map P3.en)
  case hs => rfl
  case he => walk_at "dw.e"
  walk_at "dw.nf"
  apply gss_not
  · refine GW.gt (gw_orF ?_ (gw_orF ?_ (gw_or1 ?_)))
    · walk_at "dw.e"
    · refine gt_cp C (GL.gh (ds := (sortP (us.map m.app)).map P3.en) ?_) (GE.gh (d := .list ((sortP (us.map m.app)).map P3.en)) ?_) (cmp_neL3F rfl) rfl
      · walk_at "dw.e"
      · walk_at "dw.e"
    · walk_at "dw.e"
  apply gss_not
  · refine GT.is (gt_cp C (GL.gh (GO.gl (go_lc1f C 4 (xs := sortP (us.map m.app)) (en := P3.en) (bt := fun _ => false) (g := P3.en) ?_ ?_ ?_ ?_ ?_ ?_ ?_))) (GL.gh (GO.gl (go_lst (x1 := ()) ga_nil (by decide)))) (cmp_neN3 _) rfl) ?_
    · decide +kernel
    · decide +kernel
    · walk_at "dw.e"
    · omega
    · intro X C a ha
      refine gt_notF (gt_val (ge_call C h_L_twelve (Nat.le_refl _) (by walk_at "dw.gl") (ga_cons (d := .tuple ([a.x, a.y, a.z].map .int)) (GE.is (d := a.en) (by walk_at "dw.v") rfl) (ga_cons (d := .tuple ([a.x, a.y, a.z].map .int)) (GE.is (d := a.en) (by walk_at "dw.v") rfl) ga_nil rfl) rfl) (fun R_ h_ => ⟨[a.x, a.y, a.z], rfl, Nat.le_of_ble_eq_true rfl, h_⟩) rfl rfl) (fun _ => rfl))
    · intro X C a ha h
      cases h
    · intro _
      rfl
    · rw [List.filter_eq_nil_iff.mpr fun _ _ => by simp]
      rfl
  (show GSs _ _ (List.cons _ _) _)
  apply gss_app C 5 (ds := (sortP (us.map m.app)).map P3.en) (d := P3.en ⟨0, 0, 0⟩)
  case hz =>
    rw [List.length_map]
    omega
  walk_at "dw.app"
  apply gss_ret (d := .bool true)
  · refine ge_cp C (GL.gh (GO.gl (ds := (sortP (us.map m.app)).map P3.en) ?_)) (GE.gh (d := .list ((sortP (us.map m.app)).map P3.en)) ?_) (cmp_eqL3T rfl) rfl
    · walk_at "dw.e"
    · walk_at "dw.e"
  · exact hR

theorem has_L_body_good {W : Wd} {k : Nat} (B : Bn W) (F : FunAt W "_law_body_good" s_L_body_good) (h_body_moved : Has W k "body_moved" c_body_moved) (h_L_taken : Has W k "_law_taken" c_L_taken) (h_L_twelve : Has W k "_law_twelve" c_L_twelve) : Has W (k + 1) "_law_body_good" c_L_body_good :=
  has_mk F sc_L_body_good ln_L_body_good (fun _ _ _ _ _ _ us hl => match us, hl with | [_, _], _ => rfl) fun X C ds R h => bd_L_body_good B (h_body_moved := h_body_moved) (h_L_taken := h_L_taken) (h_L_twelve := h_L_twelve) X C ds R h
/-! ### law -/
abbrev s_law : Stmt := topS 28
abbrev n_law : List Str := ["script", "still", "k", "cells", "j", "first", "second", "low", "points", "P", "both", "back", "land"]
theorem sc_law : FnScope n_law ["script"] (defScope s_law) := ⟨rfl, rfl, rfl, by decide +kernel, rfl, by decide +kernel, by decide +kernel⟩
theorem v0_law : okV n_law (defScope s_law) 0 "script" = true := by decide +kernel
theorem v1_law : okV n_law (defScope s_law) 1 "still" = true := by decide +kernel
theorem l1_law : okL n_law (defScope s_law) 1 "still" = true := by decide +kernel
theorem v2_law : okV n_law (defScope s_law) 2 "k" = true := by decide +kernel
theorem l2_law : okL n_law (defScope s_law) 2 "k" = true := by decide +kernel
theorem v3_law : okV n_law (defScope s_law) 3 "cells" = true := by decide +kernel
theorem l3_law : okL n_law (defScope s_law) 3 "cells" = true := by decide +kernel
theorem v5_law : okV n_law (defScope s_law) 5 "first" = true := by decide +kernel
theorem l5_law : okL n_law (defScope s_law) 5 "first" = true := by decide +kernel
theorem v6_law : okV n_law (defScope s_law) 6 "second" = true := by decide +kernel
theorem l6_law : okL n_law (defScope s_law) 6 "second" = true := by decide +kernel
theorem v7_law : okV n_law (defScope s_law) 7 "low" = true := by decide +kernel
theorem l7_law : okL n_law (defScope s_law) 7 "low" = true := by decide +kernel
theorem v8_law : okV n_law (defScope s_law) 8 "points" = true := by decide +kernel
theorem l8_law : okL n_law (defScope s_law) 8 "points" = true := by decide +kernel
theorem v9_law : okV n_law (defScope s_law) 9 "P" = true := by decide +kernel
theorem l9_law : okL n_law (defScope s_law) 9 "P" = true := by decide +kernel
theorem v10_law : okV n_law (defScope s_law) 10 "both" = true := by decide +kernel
theorem l10_law : okL n_law (defScope s_law) 10 "both" = true := by decide +kernel
theorem v11_law : okV n_law (defScope s_law) 11 "back" = true := by decide +kernel
theorem l11_law : okL n_law (defScope s_law) 11 "back" = true := by decide +kernel
theorem v12_law : okV n_law (defScope s_law) 12 "land" = true := by decide +kernel
theorem l12_law : okL n_law (defScope s_law) 12 "land" = true := by decide +kernel
theorem g_range_law : glB (defScope s_law) "range" = true := by decide +kernel
theorem g_max_law : glB (defScope s_law) "max" = true := by decide +kernel
theorem g_L_move_law : glB (defScope s_law) "_law_move" = true := by decide +kernel
theorem g_behind_law : glB (defScope s_law) "behind" = true := by decide +kernel
theorem g_way_back_law : glB (defScope s_law) "way_back" = true := by decide +kernel
theorem g_sorted_law : glB (defScope s_law) "sorted" = true := by decide +kernel
theorem g_min_law : glB (defScope s_law) "min" = true := by decide +kernel
theorem g_len_law : glB (defScope s_law) "len" = true := by decide +kernel
theorem g_L_twelve_law : glB (defScope s_law) "_law_twelve" = true := by decide +kernel
theorem g_L_body_good_law : glB (defScope s_law) "_law_body_good" = true := by decide +kernel
theorem g_moved_law : glB (defScope s_law) "moved" = true := by decide +kernel
theorem g_L_taken_law : glB (defScope s_law) "_law_taken" = true := by decide +kernel
theorem g_L_behind_law : glB (defScope s_law) "_law_behind" = true := by decide +kernel
theorem g_L_back_law : glB (defScope s_law) "_law_back" = true := by decide +kernel
theorem bd_law {W : Wd} {k : Nat} (B : Bn W) (h_L_move : Has W k "_law_move" c_L_move) (h_behind : Has W k "behind" c_behind) (h_way_back : Has W k "way_back" c_way_back) (h_L_cell : Has W k "_law_cell" c_L_cell) (h_L_twelve : Has W k "_law_twelve" c_L_twelve) (h_L_body_good : Has W k "_law_body_good" c_L_body_good) (h_moved : Has W k "moved" c_moved) (h_L_taken : Has W k "_law_taken" c_L_taken) (h_L_behind : Has W k "_law_behind" c_L_behind) (h_L_back : Has W k "_law_back" c_L_back) (X : Cx) (C : Cok X W n_law (defScope s_law) k) (ds : List D) (R : Rs → Prop) (h : c_script ds R) :
    GSs X (startG n_law ds) (defBody s_law) { nx := fun _ => R (.fz .none), rt := R } := by
  obtain ⟨ns, rfl, hl, hb, hR⟩ := h
  have v0 := v0_law
  have v1 := v1_law
  have l1 := l1_law
  have v2 := v2_law
  have l2 := l2_law
  have v3 := v3_law
  have l3 := l3_law
  have v5 := v5_law
  have l5 := l5_law
  have v6 := v6_law
  have l6 := l6_law
  have v7 := v7_law
  have l7 := l7_law
  have v8 := v8_law
  have l8 := l8_law
  have v9 := v9_law
  have l9 := l9_law
  have v10 := v10_law
  have l10 := l10_law
  have v11 := v11_law
  have l11 := l11_law
  have v12 := v12_law
  have l12 := l12_law
  have g_range := g_range_law
  have g_max := g_max_law
  have g_L_move := g_L_move_law
  have g_behind := g_behind_law
  have g_way_back := g_way_back_law
  have g_sorted := g_sorted_law
  have g_min := g_min_law
  have g_len := g_len_law
  have g_L_twelve := g_L_twelve_law
  have g_L_body_good := g_L_body_good_law
  have g_moved := g_moved_law
  have g_L_taken := g_L_taken_law
  have g_L_behind := g_L_behind_law
  have g_L_back := g_L_back_law
  (show GSs X [.fz _, .no, .no, .no, .no, .no, .no, .no, .no, .no, .no, .no, .no] (List.cons _ _) _)
  (show GSs _ _ (List.cons _ _) _)
  apply gss_asg C 1 l1 (d := Mv.en .still)
  case hs => rfl
  case he =>
    refine GE.is (ge_tup (ga_cons ge_int (ga_cons ge_int (ga_cons ge_int (ga_cons ge_int (ga_cons ge_int (ga_cons ge_int (ga_cons ge_int (ga_cons ge_int (ga_cons ge_int (ga_cons ge_int (ga_cons ge_int (ga_cons ge_int ga_nil rfl) rfl) rfl) rfl) rfl) rfl) rfl) rfl) rfl) rfl) rfl) rfl) (Nat.le_of_ble_eq_true rfl)) rfl
  walk_at "dw.nf"
  have hsb : Mv.Bd 5000 .still := Mv.Bd.mono (n := 5) ⟨⟨by decide, by decide, by decide⟩, ⟨by decide, by decide, by decide⟩, ⟨by decide, by decide, by decide⟩, ⟨by decide, by decide, by decide⟩⟩ (by decide)
  have hsd : Mv.still.det.natAbs = 1 := by decide
  (show GSs _ _ (List.cons _ _) _)
  apply gss_for C (fun _ G' => ∃ (x2 x3 x5 x6 x7 x8 x9 x10 x11 x12 : Sl), G' = [.fz (.list (ns.map .int)), .fz (Mv.en .still), x2, x3, .no, x5, x6, x7, x8, x9, x10, x11, x12]) (items := (rngS 0 8 ((max 8 (min ns.length 56) + 8 - 1) / 8)).map PyData.int)
  case hi => exact gi_cells C B 8 56 rfl rfl g_range g_max g_min g_len v0 rfl (by decide) (by decide) (by decide)
  case h0 => exact ⟨_, _, _, _, _, _, _, _, _, _, rfl⟩
  case hf =>
    intro x
    rfl
  case hs =>
    rintro i d G' hd ⟨x2, x3, x5, x6, x7, x8, x9, x10, x11, x12, rfl⟩
    obtain ⟨hi, rfl⟩ := rngS_item hd
    have hk0 : 0 ≤ 0 + (i : Int) * 8 := by omega
    have hk1 : 0 + (i : Int) * 8 ≤ 60 := by omega
    generalize 0 + (i : Int) * 8 = kk at hk0 hk1
    refine ⟨_, [2], gg_name C 2 l2 (by simp), ?_⟩
    walk_at "dw.nf"
    (show GSs _ _ (List.cons _ _) _)
    apply gss_lc1 C 3 4 (xs := rngL 0 8) (en := .int) (g := fun j => .int (cellA ns (kk + j)))
    case hz => exact Nat.le_of_ble_eq_true rfl
    case hi => exact GI.w (gi_rngC C (by walk_at "dw.gl") B.range ge_int rfl (by decide) rfl)
    case he =>
      intro X C a ha
      have ha' := rngL_mem ha
      have q0 : 0 ≤ kk + a := by omega
      have q1 : kk + a ≤ 100 := by omega
      walk_at "dw.e"
    walk_at "dw.lcs0"
    rw [show (rngL 0 8).map (fun j => PyData.int (cellA ns (kk + j))) = [cellA ns (kk + 0), cellA ns (kk + 1), cellA ns (kk + 2), cellA ns (kk + 3), cellA ns (kk + 4), cellA ns (kk + 5), cellA ns (kk + 6), cellA ns (kk + 7)].map .int from rfl]
    have b0 := cellA_bd (k := kk + 0) hb (by omega) (by omega)
    have b1 := cellA_bd (k := kk + 1) hb (by omega) (by omega)
    have b2 := cellA_bd (k := kk + 2) hb (by omega) (by omega)
    have b3 := cellA_bd (k := kk + 3) hb (by omega) (by omega)
    have b4 := cellA_bd (k := kk + 4) hb (by omega) (by omega)
    have b5 := cellA_bd (k := kk + 5) hb (by omega) (by omega)
    have b6 := cellA_bd (k := kk + 6) hb (by omega) (by omega)
    have b7 := cellA_bd (k := kk + 7) hb (by omega) (by omega)
    generalize cellA ns (kk + 0) = c0 at *
    generalize cellA ns (kk + 1) = c1 at *
    generalize cellA ns (kk + 2) = c2 at *
    generalize cellA ns (kk + 3) = c3 at *
    generalize cellA ns (kk + 4) = c4 at *
    generalize cellA ns (kk + 5) = c5 at *
    generalize cellA ns (kk + 6) = c6 at *
    generalize cellA ns (kk + 7) = c7 at *
    refine gs_settle 3 rfl ?_
    walk_at "dw.nf"
    have hb1 : ∀ c ∈ [c0, c1, c2], Bd 1048576 c := fun c hc => by
      simp only [List.mem_cons, List.not_mem_nil, or_false] at hc
      rcases hc with rfl | rfl | rfl <;> assumption
    have hb2 : ∀ c ∈ [c3, c4, c5], Bd 1048576 c := fun c hc => by
      simp only [List.mem_cons, List.not_mem_nil, or_false] at hc
      rcases hc with rfl | rfl | rfl <;> assumption
    have bm := moveA_bd [c0, c1, c2] c6 (Nat.le_of_ble_eq_true rfl)
    have dm := moveA_det [c0, c1, c2] c6
    have bn := moveA_bd [c3, c4, c5] c7 (Nat.le_of_ble_eq_true rfl)
    have dn := moveA_det [c3, c4, c5] c7
    (show GSs _ _ (List.cons _ _) _)
    apply gss_asg C 5 l5 (d := Mv.en (moveA [c0, c1, c2] c6))
    case hs => rfl
    case he =>
      exact ge_call C h_L_move (Nat.le_refl _) g_L_move (ga_cons (d := .list ([c0, c1, c2].map .int)) (GE.is (ge_slLd (by walk_at "dw.v") gp_no (gp_yes ge_int)) rfl) (ga_cons (d := .int c6) (ge_ix (GV.s (by walk_at "dw.v")) ge_int (.lst rfl) (fun _ _ => rfl)) ga_nil rfl) rfl) (fun R_ h_ => ⟨_, _, rfl, Nat.le_of_ble_eq_true rfl, hb1, b6, h_⟩) rfl rfl
    walk_at "dw.nf"
    (show GSs _ _ (List.cons _ _) _)
    apply gss_asg C 6 l6 (d := Mv.en (moveA [c3, c4, c5] c7))
    case hs => rfl
    case he =>
      exact ge_call C h_L_move (Nat.le_refl _) g_L_move (ga_cons (d := .list ([c3, c4, c5].map .int)) (GE.is (ge_slLd (by walk_at "dw.v") (gp_yes ge_int) (gp_yes ge_int)) rfl) (ga_cons (d := .int c7) (ge_ix (GV.s (by walk_at "dw.v")) ge_int (.lst rfl) (fun _ _ => rfl)) ga_nil rfl) rfl) (fun R_ h_ => ⟨_, _, rfl, Nat.le_of_ble_eq_true rfl, hb2, b7, h_⟩) rfl rfl
    walk_at "dw.nf"
    generalize moveA [c0, c1, c2] c6 = m at *
    generalize moveA [c3, c4, c5] c7 = n at *
    have bm2 := bm.mono (k := 2000) (by decide)
    have bn2 := bn.mono (k := 2000) (by decide)
    have bm5 := bm.mono (k := 5000) (by decide)
    have bn5 := bn.mono (k := 5000) (by decide)
    have bmk := (back_bd bm dm).mono (k := 5000) (by decide)
    have dmk := back_det m dm
    have bw := lowA_bd c0
    (show GSs _ _ (List.cons _ _) _)
    apply gss_asg C 7 l7 (d := .int (lowA c0))
    case hs => rfl
    case he =>
      refine GE.is (ge_sub (ge_mod (ge_mul (ge_ix (GV.s (by walk_at "dw.v")) ge_int (.lst rfl) (fun _ _ => rfl)) (ge_add (ge_pow ge_int ge_int ⟨by decide, by decide, by decide +kernel⟩) ge_int (.int _ _)) (Bd.ok b0 (m := 200) (by decide +kernel) (by decide))) (ge_add (ge_mul ge_int (ge_pow ge_int ge_int ⟨by decide, by decide, by decide +kernel⟩) (Bd.ok (n := 10) (m := 300) (by decide +kernel) (by decide +kernel) (by decide))) ge_int (.int _ _)) (by decide +kernel)) (ge_pow ge_int ge_int ⟨by decide, by decide, by decide +kernel⟩)) rfl
    walk_at "dw.nf"
    generalize lowA c0 = low at *
    have hP : ∀ P ∈ [(⟨c1 % 201 - 100, c2 % 41 - 20, c3 % 9 - 4⟩ : P3), ⟨low, c4 % 10 ^ (12 : Int).toNat, -low⟩, ⟨0, 0, 0⟩], P3.Bd 2000 P := fun P h => by
      simp only [List.mem_cons, List.not_mem_nil, or_false] at h
      rcases h with rfl | rfl | rfl
      · exact ⟨(mod_bd' (n := 10) (by decide) (by decide) (by decide) (by decide)).mono (by decide), (mod_bd' (n := 10) (by decide) (by decide) (by decide) (by decide)).mono (by decide), (mod_bd' (n := 10) (by decide) (by decide) (by decide) (by decide)).mono (by decide)⟩
      · exact ⟨bw.mono (by decide), (Bd.mod (m := 50) (by decide +kernel) (by decide +kernel)).mono (by decide), bw.neg.mono (by decide)⟩
      · exact ⟨by decide, by decide, by decide⟩
    (show GSs _ _ (List.cons _ _) _)
    apply gss_asgO C 8 l8 (ds := [(⟨c1 % 201 - 100, c2 % 41 - 20, c3 % 9 - 4⟩ : P3), ⟨low, c4 % 10 ^ (12 : Int).toNat, -low⟩].map P3.en)
    case hs => rfl
    case he =>
      refine go_lst (x1 := ()) (ga_cons (ge_p3 (ge_sub (ge_mod ?_ ge_int (by decide)) ge_int) (ge_sub (ge_mod ?_ ge_int (by decide)) ge_int) (ge_sub (ge_mod ?_ ge_int (by decide)) ge_int) rfl rfl rfl) (ga_cons (ge_p3 (by walk_at "dw.v") (ge_mod ?_ (ge_pow ge_int ge_int ⟨by decide, by decide, by decide +kernel⟩) (by decide +kernel)) (ge_neg (by walk_at "dw.v")) rfl rfl rfl) ga_nil rfl) rfl) (Nat.le_of_ble_eq_true rfl)
      · exact ge_ix (GV.s (by walk_at "dw.v")) ge_int (.lst rfl) (fun _ _ => rfl)
      · exact ge_ix (GV.s (by walk_at "dw.v")) ge_int (.lst rfl) (fun _ _ => rfl)
      · exact ge_ix (GV.s (by walk_at "dw.v")) ge_int (.lst rfl) (fun _ _ => rfl)
      · exact ge_ix (GV.s (by walk_at "dw.v")) ge_int (.lst rfl) (fun _ _ => rfl)
    refine gs_settle 8 rfl ?_
    walk_at "dw.nf"
    generalize hcs : [c0, c1, c2, c3, c4, c5, c6, c7].map PyData.int = CS
    (show GSs _ _ (List.cons _ _) _)
    apply gss_for C (fun _ G' => ∃ x9, G' = [.fz (.list (ns.map .int)), .fz (Mv.en .still), .fz (.int kk), .fz (.list CS), .no, .fz m.en, .fz n.en, .fz (.int low), .fz (.list ([(⟨c1 % 201 - 100, c2 % 41 - 20, c3 % 9 - 4⟩ : P3), ⟨low, c4 % 10 ^ (12 : Int).toNat, -low⟩].map P3.en)), x9, x10, x11, x12]) (items := [(⟨c1 % 201 - 100, c2 % 41 - 20, c3 % 9 - 4⟩ : P3), ⟨low, c4 % 10 ^ (12 : Int).toNat, -low⟩, ⟨0, 0, 0⟩].map P3.en)
    case hi =>
      refine gi_list (GO.ge (GO.is (go_add (GE.gl (by walk_at "dw.v")) (GO.gl (go_lst (x1 := ()) (ga_cons (d := P3.en ⟨0, 0, 0⟩) (ge_p3 ge_int ge_int ge_int rfl rfl rfl) ga_nil rfl) (Nat.le_of_ble_eq_true rfl))) (Nat.le_of_ble_eq_true rfl)) rfl))
    case h0 => exact ⟨_, rfl⟩
    case hf =>
      intro x
      rfl
    case hs =>
      rintro i2 d2 G2 hd2 ⟨x9, rfl⟩
      obtain ⟨P, hPm, rfl⟩ := map_at hd2
      have bP := hP P (List.mem_of_getElem? hPm)
      have bPa := app_bd bm2 bP (Nat.le_refl _)
      refine ⟨_, [9], gg_name C 9 l9 (by simp), ?_⟩
      walk_at "dw.nf"
      apply gss_not
      · refine gt_notF (gt_val (ge_call C h_L_twelve (Nat.le_refl _) g_L_twelve (ga_cons (d := .tuple ([(m.app P).x, (m.app P).y, (m.app P).z].map .int)) (GE.is (d := P3.en (m.app P)) ?_ rfl) (ga_cons (d := .tuple ([(m.app P).x, (m.app P).y, (m.app P).z].map .int)) (GE.is (d := P3.en (m.app P)) ?_ rfl) ga_nil rfl) rfl) (fun R_ h_ => ⟨[(m.app P).x, (m.app P).y, (m.app P).z], rfl, Nat.le_of_ble_eq_true rfl, h_⟩) rfl rfl) (fun _ => rfl))
        · walk_at "dw.e"
        · walk_at "dw.e"
      apply gss_nil
      exact ⟨_, rfl⟩
    case hd =>
      rintro G2 ⟨x9, rfl⟩
      subst hcs
      (show GSs _ _ (List.cons _ _) _)
      walk_at "dw.asg"
      have e1 := behind_still m
      have e2 := behind_back m dm
      have e3 := back_behind m dm
      apply gss_not
      · refine GW.gt (gw_orF (gt_notF (gt_val (ge_call C h_L_twelve (Nat.le_refl _) g_L_twelve (ga_cons (d := .tuple ((m.behind n).li.map .int)) (GE.is (d := Mv.en (m.behind n)) ?_ rfl) (ga_cons (d := .tuple ((m.behind n).li.map .int)) (GE.is (d := Mv.en (m.behind n)) ?_ rfl) ga_nil rfl) rfl) (fun R_ h_ => ⟨(m.behind n).li, rfl, Nat.le_of_ble_eq_true rfl, h_⟩) rfl rfl) (fun _ => rfl))) (gw_or1 (gt_cp C (GE.gh (d := Mv.en (m.behind .still)) ?_) (GE.gh (d := m.en) ?_) (cmp_neFd (by rw [e1]) rfl) rfl)))
        · walk_at "dw.e"
        · walk_at "dw.e"
        · walk_at "dw.e"
        · walk_at "dw.e"
      (show GSs _ _ (List.cons _ _) _)
      walk_at "dw.asg"
      apply gss_not
      · refine GW.gt (gw_orF (gt_notF (gt_val (ge_call C h_L_twelve (Nat.le_refl _) g_L_twelve (ga_cons (d := .tuple (m.back.li.map .int)) (GE.is (d := Mv.en m.back) ?_ rfl) (ga_cons (d := .tuple (m.back.li.map .int)) (GE.is (d := Mv.en m.back) ?_ rfl) ga_nil rfl) rfl) (fun R_ h_ => ⟨m.back.li, rfl, Nat.le_of_ble_eq_true rfl, h_⟩) rfl rfl) (fun _ => rfl))) (gw_orF (gt_cp C (GE.gh (d := Mv.en (m.behind m.back)) ?_) (GE.gh (d := Mv.en .still) ?_) (cmp_neFd (by rw [e2]) rfl) rfl) (gw_or1 (gt_cp C (GE.gh (d := Mv.en (m.back.behind m)) ?_) (GE.gh (d := Mv.en .still) ?_) (cmp_neFd (by rw [e3]) rfl) rfl))))
        · walk_at "dw.e"
        · walk_at "dw.e"
        · walk_at "dw.e"
        · walk_at "dw.e"
        · walk_at "dw.e"
        · walk_at "dw.e"
      have hL : ∀ u ∈ [(⟨0, 0, 0⟩ : P3), ⟨1, 0, 0⟩, ⟨c5 % 7, 2, 0⟩, ⟨c6 % 7, c7 % 7, 1 + c0 % 5⟩], P3.Bd 2000 u := fun u h => by
        have m7 : ∀ c : Int, Bd 2000 (c % 7) := fun c => (Bd.mod (m := 5) (by decide) (by decide)).mono (by decide)
        simp only [List.mem_cons, List.not_mem_nil, or_false] at h
        rcases h with rfl | rfl | rfl | rfl
        · exact ⟨by decide, by decide, by decide⟩
        · exact ⟨by decide, by decide, by decide⟩
        · exact ⟨m7 _, show Bd 2000 2 by decide, show Bd 2000 0 by decide⟩
        · exact ⟨m7 _, m7 _, ((show Bd 1 1 by decide).add (Bd.mod (i := c0) (j := 5) (m := 5) (by decide) (by decide))).mono (by decide)⟩
      have hLS : ∀ u ∈ sortP [(⟨0, 0, 0⟩ : P3), ⟨1, 0, 0⟩, ⟨c5 % 7, 2, 0⟩, ⟨c6 % 7, c7 % 7, 1 + c0 % 5⟩], P3.Bd 2000 u := fun u h => hL u ((List.mergeSort_perm _ _).mem_iff.mp h)
      have hLL : (sortP [(⟨0, 0, 0⟩ : P3), ⟨1, 0, 0⟩, ⟨c5 % 7, 2, 0⟩, ⟨c6 % 7, c7 % 7, 1 + c0 % 5⟩]).length ≤ 4000 := by
        unfold sortP
        rw [List.length_mergeSort]
        exact Nat.le_of_ble_eq_true rfl
      (show GSs _ _ (List.cons _ _) _)
      apply gss_asg C 12 l12 (d := .list ((sortP [(⟨0, 0, 0⟩ : P3), ⟨1, 0, 0⟩, ⟨c5 % 7, 2, 0⟩, ⟨c6 % 7, c7 % 7, 1 + c0 % 5⟩]).map P3.en))
      case hs => rfl
      case he =>
        refine GO.ge (go_sort3 (us := [(⟨0, 0, 0⟩ : P3), ⟨1, 0, 0⟩, ⟨c5 % 7, 2, 0⟩, ⟨c6 % 7, c7 % 7, 1 + c0 % 5⟩]) C (by walk_at "dw.gl") B.sorted (GO.gl (go_lst (x1 := ()) (ga_cons (ge_p3 ge_int ge_int ge_int rfl rfl rfl) (ga_cons (ge_p3 ge_int ge_int ge_int rfl rfl rfl) (ga_cons (ge_p3 (ge_mod ?_ ge_int (by decide)) ge_int ge_int rfl rfl rfl) (ga_cons (ge_p3 (ge_mod ?_ ge_int (by decide)) (ge_mod ?_ ge_int (by decide)) (ge_add ge_int (ge_mod ?_ ge_int (by decide)) (.int _ _)) rfl rfl rfl) ga_nil rfl) rfl) rfl) rfl) (Nat.le_of_ble_eq_true rfl))) (Nat.le_of_ble_eq_true rfl) rfl)
        · exact ge_ix (GV.s (by walk_at "dw.v")) ge_int (.lst rfl) (fun _ _ => rfl)
        · exact ge_ix (GV.s (by walk_at "dw.v")) ge_int (.lst rfl) (fun _ _ => rfl)
        · exact ge_ix (GV.s (by walk_at "dw.v")) ge_int (.lst rfl) (fun _ _ => rfl)
        · exact ge_ix (GV.s (by walk_at "dw.v")) ge_int (.lst rfl) (fun _ _ => rfl)
      walk_at "dw.nf"
      generalize sortP [(⟨0, 0, 0⟩ : P3), ⟨1, 0, 0⟩, ⟨c5 % 7, 2, 0⟩, ⟨c6 % 7, c7 % 7, 1 + c0 % 5⟩] = land at hLS hLL
      apply gss_not
      · refine GW.gt (gw_orF (gt_notF (gt_val ?_ (fun _ => rfl))) (gw_or1 (gt_notF (gt_val ?_ (fun _ => rfl)))))
        · walk_at "dw.e"
        · walk_at "dw.e"
      apply gss_nil
      exact ⟨_, _, _, _, _, _, _, _, _, _, rfl⟩
  case hd =>
    rintro G' ⟨x2, x3, x5, x6, x7, x8, x9, x10, x11, x12, rfl⟩
    apply gss_ret
    · walk_at "dw.e"
    · exact hR

theorem all_mk {l : PySem.W.OpenLaw} {w : World} {K : PySem.W.Frag} {h : Heap} {mg : Str → Option Value} {fa f0 f1 f2 f3 f4 f5 f6 f7 f8 f9 f10 f11 f12 f13 f14 f15 f16 f17 f18 f19 f20 f21 : Addr} (X : K.In h) (G : h.Ns mainGlobals mg) (hfa : mg "law" = some (.ref fa))
    {od0 an0 od1 an1 od2 an2 od3 an3 od4 an4 od5 an5 od6 an6 od7 an7 od8 an8 od9 an9 od10 an10 od11 an11 od12 an12 od13 an13 od14 an14 od15 an15 od16 an16 od17 an17 od18 an18 od19 an19 od20 an20 od21 an21 : Option Addr} {sl0 sl1 sl2 sl3 sl4 sl5 sl6 sl7 sl8 sl9 sl10 sl11 sl12 sl13 sl14 sl15 sl16 sl17 sl18 sl19 sl20 sl21 : Array (Option Value)} {oc0 kV0 dc0 pm0 cd0 ct0 oc1 kV1 dc1 pm1 cd1 ct1 oc2 kV2 dc2 pm2 cd2 ct2 oc3 kV3 dc3 pm3 cd3 ct3 oc4 kV4 dc4 pm4 cd4 ct4 oc5 kV5 dc5 pm5 cd5 ct5 oc6 kV6 dc6 pm6 cd6 ct6 oc7 kV7 dc7 pm7 cd7 ct7 oc8 kV8 dc8 pm8 cd8 ct8 oc9 kV9 dc9 pm9 cd9 ct9 oc10 kV10 dc10 pm10 cd10 ct10 oc11 kV11 dc11 pm11 cd11 ct11 oc12 kV12 dc12 pm12 cd12 ct12 oc13 kV13 dc13 pm13 cd13 ct13 oc14 kV14 dc14 pm14 cd14 ct14 oc15 kV15 dc15 pm15 cd15 ct15 oc16 kV16 dc16 pm16 cd16 ct16 oc17 kV17 dc17 pm17 cd17 ct17 oc18 kV18 dc18 pm18 cd18 ct18 oc19 kV19 dc19 pm19 cd19 ct19 oc20 kV20 dc20 pm20 cd20 ct20 oc21 kV21 dc21 pm21 cd21 ct21 : Value}
    (a0 : PySem.W.nsIn K mainGlobals "cross_of" = some (some (.ref f0))) (q0 : K.lookup f0 = some ⟨oc0, od0, .func (PySem.W.fnOf "cross_of" "cross_of" (defArgs s_cross_of) (defBody s_cross_of) (defScope s_cross_of) .none kV0 dc0 pm0 an0 cd0 ct0), sl0⟩) (c0 : PySem.W.codeIn K cd0 "cross_of" = true) (k0 : PySem.W.keepIn K (.ref f0) = true)
    (a1 : PySem.W.nsIn K mainGlobals "product_of" = some (some (.ref f1))) (q1 : K.lookup f1 = some ⟨oc1, od1, .func (PySem.W.fnOf "product_of" "product_of" (defArgs s_product_of) (defBody s_product_of) (defScope s_product_of) .none kV1 dc1 pm1 an1 cd1 ct1), sl1⟩) (c1 : PySem.W.codeIn K cd1 "product_of" = true) (k1 : PySem.W.keepIn K (.ref f1) = true)
    (a2 : PySem.W.nsIn K mainGlobals "is_move" = some (some (.ref f2))) (q2 : K.lookup f2 = some ⟨oc2, od2, .func (PySem.W.fnOf "is_move" "is_move" (defArgs s_is_move) (defBody s_is_move) (defScope s_is_move) .none kV2 dc2 pm2 an2 cd2 ct2), sl2⟩) (c2 : PySem.W.codeIn K cd2 "is_move" = true) (k2 : PySem.W.keepIn K (.ref f2) = true)
    (a3 : PySem.W.nsIn K mainGlobals "need_move" = some (some (.ref f3))) (q3 : K.lookup f3 = some ⟨oc3, od3, .func (PySem.W.fnOf "need_move" "need_move" (defArgs s_need_move) (defBody s_need_move) (defScope s_need_move) .none kV3 dc3 pm3 an3 cd3 ct3), sl3⟩) (c3 : PySem.W.codeIn K cd3 "need_move" = true) (k3 : PySem.W.keepIn K (.ref f3) = true)
    (a4 : PySem.W.nsIn K mainGlobals "turned" = some (some (.ref f4))) (q4 : K.lookup f4 = some ⟨oc4, od4, .func (PySem.W.fnOf "turned" "turned" (defArgs s_turned) (defBody s_turned) (defScope s_turned) .none kV4 dc4 pm4 an4 cd4 ct4), sl4⟩) (c4 : PySem.W.codeIn K cd4 "turned" = true) (k4 : PySem.W.keepIn K (.ref f4) = true)
    (a5 : PySem.W.nsIn K mainGlobals "off_by" = some (some (.ref f5))) (q5 : K.lookup f5 = some ⟨oc5, od5, .func (PySem.W.fnOf "off_by" "off_by" (defArgs s_off_by) (defBody s_off_by) (defScope s_off_by) .none kV5 dc5 pm5 an5 cd5 ct5), sl5⟩) (c5 : PySem.W.codeIn K cd5 "off_by" = true) (k5 : PySem.W.keepIn K (.ref f5) = true)
    (a6 : PySem.W.nsIn K mainGlobals "moved" = some (some (.ref f6))) (q6 : K.lookup f6 = some ⟨oc6, od6, .func (PySem.W.fnOf "moved" "moved" (defArgs s_moved) (defBody s_moved) (defScope s_moved) .none kV6 dc6 pm6 an6 cd6 ct6), sl6⟩) (c6 : PySem.W.codeIn K cd6 "moved" = true) (k6 : PySem.W.keepIn K (.ref f6) = true)
    (a7 : PySem.W.nsIn K mainGlobals "behind" = some (some (.ref f7))) (q7 : K.lookup f7 = some ⟨oc7, od7, .func (PySem.W.fnOf "behind" "behind" (defArgs s_behind) (defBody s_behind) (defScope s_behind) .none kV7 dc7 pm7 an7 cd7 ct7), sl7⟩) (c7 : PySem.W.codeIn K cd7 "behind" = true) (k7 : PySem.W.keepIn K (.ref f7) = true)
    (a8 : PySem.W.nsIn K mainGlobals "way_back" = some (some (.ref f8))) (q8 : K.lookup f8 = some ⟨oc8, od8, .func (PySem.W.fnOf "way_back" "way_back" (defArgs s_way_back) (defBody s_way_back) (defScope s_way_back) .none kV8 dc8 pm8 an8 cd8 ct8), sl8⟩) (c8 : PySem.W.codeIn K cd8 "way_back" = true) (k8 : PySem.W.keepIn K (.ref f8) = true)
    (a9 : PySem.W.nsIn K mainGlobals "body_moved" = some (some (.ref f9))) (q9 : K.lookup f9 = some ⟨oc9, od9, .func (PySem.W.fnOf "body_moved" "body_moved" (defArgs s_body_moved) (defBody s_body_moved) (defScope s_body_moved) .none kV9 dc9 pm9 an9 cd9 ct9), sl9⟩) (c9 : PySem.W.codeIn K cd9 "body_moved" = true) (k9 : PySem.W.keepIn K (.ref f9) = true)
    (a10 : PySem.W.nsIn K mainGlobals "_law_cell" = some (some (.ref f10))) (q10 : K.lookup f10 = some ⟨oc10, od10, .func (PySem.W.fnOf "_law_cell" "_law_cell" (defArgs s_L_cell) (defBody s_L_cell) (defScope s_L_cell) .none kV10 dc10 pm10 an10 cd10 ct10), sl10⟩) (c10 : PySem.W.codeIn K cd10 "_law_cell" = true) (k10 : PySem.W.keepIn K (.ref f10) = true)
    (a11 : PySem.W.nsIn K mainGlobals "_law_whole" = some (some (.ref f11))) (q11 : K.lookup f11 = some ⟨oc11, od11, .func (PySem.W.fnOf "_law_whole" "_law_whole" (defArgs s_L_whole) (defBody s_L_whole) (defScope s_L_whole) .none kV11 dc11 pm11 an11 cd11 ct11), sl11⟩) (c11 : PySem.W.codeIn K cd11 "_law_whole" = true) (k11 : PySem.W.keepIn K (.ref f11) = true)
    (a12 : PySem.W.nsIn K mainGlobals "_law_rows" = some (some (.ref f12))) (q12 : K.lookup f12 = some ⟨oc12, od12, .func (PySem.W.fnOf "_law_rows" "_law_rows" (defArgs s_L_rows) (defBody s_L_rows) (defScope s_L_rows) .none kV12 dc12 pm12 an12 cd12 ct12), sl12⟩) (c12 : PySem.W.codeIn K cd12 "_law_rows" = true) (k12 : PySem.W.keepIn K (.ref f12) = true)
    (a13 : PySem.W.nsIn K mainGlobals "_law_move" = some (some (.ref f13))) (q13 : K.lookup f13 = some ⟨oc13, od13, .func (PySem.W.fnOf "_law_move" "_law_move" (defArgs s_L_move) (defBody s_L_move) (defScope s_L_move) .none kV13 dc13 pm13 an13 cd13 ct13), sl13⟩) (c13 : PySem.W.codeIn K cd13 "_law_move" = true) (k13 : PySem.W.keepIn K (.ref f13) = true)
    (a14 : PySem.W.nsIn K mainGlobals "_law_product" = some (some (.ref f14))) (q14 : K.lookup f14 = some ⟨oc14, od14, .func (PySem.W.fnOf "_law_product" "_law_product" (defArgs s_L_product) (defBody s_L_product) (defScope s_L_product) .none kV14 dc14 pm14 an14 cd14 ct14), sl14⟩) (c14 : PySem.W.codeIn K cd14 "_law_product" = true) (k14 : PySem.W.keepIn K (.ref f14) = true)
    (a15 : PySem.W.nsIn K mainGlobals "_law_cross" = some (some (.ref f15))) (q15 : K.lookup f15 = some ⟨oc15, od15, .func (PySem.W.fnOf "_law_cross" "_law_cross" (defArgs s_L_cross) (defBody s_L_cross) (defScope s_L_cross) .none kV15 dc15 pm15 an15 cd15 ct15), sl15⟩) (c15 : PySem.W.codeIn K cd15 "_law_cross" = true) (k15 : PySem.W.keepIn K (.ref f15) = true)
    (a16 : PySem.W.nsIn K mainGlobals "_law_taken" = some (some (.ref f16))) (q16 : K.lookup f16 = some ⟨oc16, od16, .func (PySem.W.fnOf "_law_taken" "_law_taken" (defArgs s_L_taken) (defBody s_L_taken) (defScope s_L_taken) .none kV16 dc16 pm16 an16 cd16 ct16), sl16⟩) (c16 : PySem.W.codeIn K cd16 "_law_taken" = true) (k16 : PySem.W.keepIn K (.ref f16) = true)
    (a17 : PySem.W.nsIn K mainGlobals "_law_twelve" = some (some (.ref f17))) (q17 : K.lookup f17 = some ⟨oc17, od17, .func (PySem.W.fnOf "_law_twelve" "_law_twelve" (defArgs s_L_twelve) (defBody s_L_twelve) (defScope s_L_twelve) .none kV17 dc17 pm17 an17 cd17 ct17), sl17⟩) (c17 : PySem.W.codeIn K cd17 "_law_twelve" = true) (k17 : PySem.W.keepIn K (.ref f17) = true)
    (a18 : PySem.W.nsIn K mainGlobals "_law_behind" = some (some (.ref f18))) (q18 : K.lookup f18 = some ⟨oc18, od18, .func (PySem.W.fnOf "_law_behind" "_law_behind" (defArgs s_L_behind) (defBody s_L_behind) (defScope s_L_behind) .none kV18 dc18 pm18 an18 cd18 ct18), sl18⟩) (c18 : PySem.W.codeIn K cd18 "_law_behind" = true) (k18 : PySem.W.keepIn K (.ref f18) = true)
    (a19 : PySem.W.nsIn K mainGlobals "_law_back" = some (some (.ref f19))) (q19 : K.lookup f19 = some ⟨oc19, od19, .func (PySem.W.fnOf "_law_back" "_law_back" (defArgs s_L_back) (defBody s_L_back) (defScope s_L_back) .none kV19 dc19 pm19 an19 cd19 ct19), sl19⟩) (c19 : PySem.W.codeIn K cd19 "_law_back" = true) (k19 : PySem.W.keepIn K (.ref f19) = true)
    (a20 : PySem.W.nsIn K mainGlobals "_law_body_good" = some (some (.ref f20))) (q20 : K.lookup f20 = some ⟨oc20, od20, .func (PySem.W.fnOf "_law_body_good" "_law_body_good" (defArgs s_L_body_good) (defBody s_L_body_good) (defScope s_L_body_good) .none kV20 dc20 pm20 an20 cd20 ct20), sl20⟩) (c20 : PySem.W.codeIn K cd20 "_law_body_good" = true) (k20 : PySem.W.keepIn K (.ref f20) = true)
    (a21 : PySem.W.nsIn K mainGlobals "law" = some (some (.ref f21))) (q21 : K.lookup f21 = some ⟨oc21, od21, .func (PySem.W.fnOf "law" "law" (defArgs s_law) (defBody s_law) (defScope s_law) .none kV21 dc21 pm21 an21 cd21 ct21), sl21⟩) (c21 : PySem.W.codeIn K cd21 "law" = true) (k21 : PySem.W.keepIn K (.ref f21) = true)
    (z_len : PySem.W.nsIn K mainGlobals "len" = some none) (z_abs : PySem.W.nsIn K mainGlobals "abs" = some none) (z_max : PySem.W.nsIn K mainGlobals "max" = some none) (z_min : PySem.W.nsIn K mainGlobals "min" = some none) (z_int : PySem.W.nsIn K mainGlobals "int" = some none) (z_bool : PySem.W.nsIn K mainGlobals "bool" = some none) (z_str : PySem.W.nsIn K mainGlobals "str" = some none) (z_sum : PySem.W.nsIn K mainGlobals "sum" = some none) (z_isinstance : PySem.W.nsIn K mainGlobals "isinstance" = some none) (z_tuple : PySem.W.nsIn K mainGlobals "tuple" = some none) (z_list : PySem.W.nsIn K mainGlobals "list" = some none) (z_dict : PySem.W.nsIn K mainGlobals "dict" = some none) (z_set : PySem.W.nsIn K mainGlobals "set" = some none) (z_sorted : PySem.W.nsIn K mainGlobals "sorted" = some none) (z_range : PySem.W.nsIn K mainGlobals "range" = some none) (z_zip : PySem.W.nsIn K mainGlobals "zip" = some none) (z_reversed : PySem.W.nsIn K mainGlobals "reversed" = some none) (z_enumerate : PySem.W.nsIn K mainGlobals "enumerate" = some none)
    (u_NUMBERS : ∃ t, PySem.W.nsIn K mainGlobals "NUMBERS" = some (some (.int 12 t))) :
    ∃ fd : FuncData, (∀ (s : Shared) (v : Value), BindsTo s fd ⟨[v], []⟩ [("script", v)]) ∧ ∀ base : Heap, K.In base → base.Ns mainGlobals mg → FnOk l.prog w K mg base (L2.CX l.prog w) 6 fa fd ["script"] (spL K c_script) := by
  have e := hfa.symm.trans (PySem.W.mg_of X G a21)
  cases e
  have F0 := fun_mk (st := s_cross_of) q0 c0 k0
  have F1 := fun_mk (st := s_product_of) q1 c1 k1
  have F2 := fun_mk (st := s_is_move) q2 c2 k2
  have F3 := fun_mk (st := s_need_move) q3 c3 k3
  have F4 := fun_mk (st := s_turned) q4 c4 k4
  have F5 := fun_mk (st := s_off_by) q5 c5 k5
  have F6 := fun_mk (st := s_moved) q6 c6 k6
  have F7 := fun_mk (st := s_behind) q7 c7 k7
  have F8 := fun_mk (st := s_way_back) q8 c8 k8
  have F9 := fun_mk (st := s_body_moved) q9 c9 k9
  have F10 := fun_mk (st := s_L_cell) q10 c10 k10
  have F11 := fun_mk (st := s_L_whole) q11 c11 k11
  have F12 := fun_mk (st := s_L_rows) q12 c12 k12
  have F13 := fun_mk (st := s_L_move) q13 c13 k13
  have F14 := fun_mk (st := s_L_product) q14 c14 k14
  have F15 := fun_mk (st := s_L_cross) q15 c15 k15
  have F16 := fun_mk (st := s_L_taken) q16 c16 k16
  have F17 := fun_mk (st := s_L_twelve) q17 c17 k17
  have F18 := fun_mk (st := s_L_behind) q18 c18 k18
  have F19 := fun_mk (st := s_L_back) q19 c19 k19
  have F20 := fun_mk (st := s_L_body_good) q20 c20 k20
  have F21 := fun_mk (st := s_law) q21 c21 k21
  refine ⟨PySem.W.fnOf "law" "law" (defArgs s_law) (defBody s_law) (defScope s_law) .none kV21 dc21 pm21 an21 cd21 ct21, fun s v => .of_eq rfl, fun base _ _ => ?_⟩
  have B : Bn ⟨l.prog, w, K, mg, base⟩ := ⟨PySem.W.mg_none_of X G z_len, PySem.W.mg_none_of X G z_abs, PySem.W.mg_none_of X G z_max, PySem.W.mg_none_of X G z_min, PySem.W.mg_none_of X G z_int, PySem.W.mg_none_of X G z_bool, PySem.W.mg_none_of X G z_str, PySem.W.mg_none_of X G z_sum, PySem.W.mg_none_of X G z_isinstance, PySem.W.mg_none_of X G z_tuple, PySem.W.mg_none_of X G z_list, PySem.W.mg_none_of X G z_dict, PySem.W.mg_none_of X G z_set, PySem.W.mg_none_of X G z_sorted, PySem.W.mg_none_of X G z_range, PySem.W.mg_none_of X G z_zip, PySem.W.mg_none_of X G z_reversed, PySem.W.mg_none_of X G z_enumerate⟩
  have k_NUMBERS : ConstD ⟨l.prog, w, K, mg, base⟩ "NUMBERS" (.int 12) := const_int (by obtain ⟨t, q⟩ := u_NUMBERS; exact ⟨t, PySem.W.mg_of X G q⟩)
  have h_cross_of : Has ⟨l.prog, w, K, mg, base⟩ 1 "cross_of" c_cross_of := has_cross_of (k := 0) B ⟨_, _, PySem.W.mg_of X G a0, F0⟩
  have h_product_of : Has ⟨l.prog, w, K, mg, base⟩ 1 "product_of" c_product_of := has_product_of (k := 0) B ⟨_, _, PySem.W.mg_of X G a1, F1⟩
  have h_is_move : Has ⟨l.prog, w, K, mg, base⟩ 2 "is_move" c_is_move := has_is_move (k := 1) B (k_NUMBERS := k_NUMBERS) ⟨_, _, PySem.W.mg_of X G a2, F2⟩ (h_product_of := h_product_of.mono (by decide)) (h_cross_of := h_cross_of.mono (by decide))
  have h_need_move : Has ⟨l.prog, w, K, mg, base⟩ 3 "need_move" c_need_move := has_need_move (k := 2) B ⟨_, _, PySem.W.mg_of X G a3, F3⟩ (h_is_move := h_is_move.mono (by decide))
  have h_turned : Has ⟨l.prog, w, K, mg, base⟩ 2 "turned" c_turned := has_turned (k := 1) B ⟨_, _, PySem.W.mg_of X G a4, F4⟩ (h_product_of := h_product_of.mono (by decide))
  have h_off_by : Has ⟨l.prog, w, K, mg, base⟩ 1 "off_by" c_off_by := has_off_by (k := 0) B ⟨_, _, PySem.W.mg_of X G a5, F5⟩
  have h_moved : Has ⟨l.prog, w, K, mg, base⟩ 4 "moved" c_moved := has_moved (k := 3) B ⟨_, _, PySem.W.mg_of X G a6, F6⟩ (h_need_move := h_need_move.mono (by decide)) (h_off_by := h_off_by.mono (by decide)) (h_turned := h_turned.mono (by decide))
  have h_behind : Has ⟨l.prog, w, K, mg, base⟩ 4 "behind" c_behind := has_behind (k := 3) B ⟨_, _, PySem.W.mg_of X G a7, F7⟩ (h_need_move := h_need_move.mono (by decide)) (h_turned := h_turned.mono (by decide)) (h_off_by := h_off_by.mono (by decide))
  have h_way_back : Has ⟨l.prog, w, K, mg, base⟩ 4 "way_back" c_way_back := has_way_back (k := 3) B ⟨_, _, PySem.W.mg_of X G a8, F8⟩ (h_need_move := h_need_move.mono (by decide)) (h_product_of := h_product_of.mono (by decide)) (h_turned := h_turned.mono (by decide)) (h_cross_of := h_cross_of.mono (by decide))
  have h_body_moved : Has ⟨l.prog, w, K, mg, base⟩ 4 "body_moved" c_body_moved := has_body_moved (k := 3) B ⟨_, _, PySem.W.mg_of X G a9, F9⟩ (h_need_move := h_need_move.mono (by decide)) (h_off_by := h_off_by.mono (by decide)) (h_turned := h_turned.mono (by decide))
  have h_L_cell : Has ⟨l.prog, w, K, mg, base⟩ 1 "_law_cell" c_L_cell := has_L_cell (k := 0) B ⟨_, _, PySem.W.mg_of X G a10, F10⟩
  have h_L_whole : Has ⟨l.prog, w, K, mg, base⟩ 1 "_law_whole" c_L_whole := has_L_whole (k := 0) B ⟨_, _, PySem.W.mg_of X G a11, F11⟩
  have h_L_rows : Has ⟨l.prog, w, K, mg, base⟩ 1 "_law_rows" c_L_rows := has_L_rows (k := 0) B ⟨_, _, PySem.W.mg_of X G a12, F12⟩
  have h_L_move : Has ⟨l.prog, w, K, mg, base⟩ 2 "_law_move" c_L_move := has_L_move (k := 1) B ⟨_, _, PySem.W.mg_of X G a13, F13⟩ (h_L_rows := h_L_rows.mono (by decide))
  have h_L_product : Has ⟨l.prog, w, K, mg, base⟩ 1 "_law_product" c_L_product := has_L_product (k := 0) B ⟨_, _, PySem.W.mg_of X G a14, F14⟩
  have h_L_cross : Has ⟨l.prog, w, K, mg, base⟩ 1 "_law_cross" c_L_cross := has_L_cross (k := 0) B ⟨_, _, PySem.W.mg_of X G a15, F15⟩
  have h_L_taken : Has ⟨l.prog, w, K, mg, base⟩ 2 "_law_taken" c_L_taken := has_L_taken (k := 1) B ⟨_, _, PySem.W.mg_of X G a16, F16⟩ (h_L_product := h_L_product.mono (by decide))
  have h_L_twelve : Has ⟨l.prog, w, K, mg, base⟩ 2 "_law_twelve" c_L_twelve := has_L_twelve (k := 1) B ⟨_, _, PySem.W.mg_of X G a17, F17⟩ (h_L_whole := h_L_whole.mono (by decide))
  have h_L_behind : Has ⟨l.prog, w, K, mg, base⟩ 3 "_law_behind" c_L_behind := has_L_behind (k := 2) B ⟨_, _, PySem.W.mg_of X G a18, F18⟩ (h_L_taken := h_L_taken.mono (by decide)) (h_L_product := h_L_product.mono (by decide))
  have h_L_back : Has ⟨l.prog, w, K, mg, base⟩ 3 "_law_back" c_L_back := has_L_back (k := 2) B ⟨_, _, PySem.W.mg_of X G a19, F19⟩ (h_L_product := h_L_product.mono (by decide)) (h_L_taken := h_L_taken.mono (by decide)) (h_L_cross := h_L_cross.mono (by decide))
  have h_L_body_good : Has ⟨l.prog, w, K, mg, base⟩ 5 "_law_body_good" c_L_body_good := has_L_body_good (k := 4) B ⟨_, _, PySem.W.mg_of X G a20, F20⟩ (h_body_moved := h_body_moved.mono (by decide)) (h_L_taken := h_L_taken.mono (by decide)) (h_L_twelve := h_L_twelve.mono (by decide))
  exact FnOk.imp (fn_ok F21 sc_law ln_script fun X C ds R h => bd_law B (h_L_move := h_L_move.mono (by decide)) (h_behind := h_behind.mono (by decide)) (h_way_back := h_way_back.mono (by decide)) (h_L_cell := h_L_cell.mono (by decide)) (h_L_twelve := h_L_twelve.mono (by decide)) (h_L_body_good := h_L_body_good.mono (by decide)) (h_moved := h_moved.mono (by decide)) (h_L_taken := h_L_taken.mono (by decide)) (h_L_behind := h_L_behind.mono (by decide)) (h_L_back := h_L_back.mono (by decide)) X C ds R h) spL_D
end DW
open PySem PySem.W PyProof.Rows
set_option maxHeartbeats 0 in
theorem PySem.Challenge.cw_stakebodies_k72_moves_done_holds : PySem.Challenge.rw_stakebodies_k72_moves_done.Holds := by
  w_on; o_law; k_head; (case hw => w_witness2)
  k_fill
  refine L2.walk_ofB (l := PySem.Challenge.rw_stakebodies_k72_moves_done) (n := 63) (k := 6) (x := "script") (CX := fun w => L2.CX (PySem.Challenge.rw_stakebodies_k72_moves_done).prog w) (sp := fun w => DW.spL _ DW.c_script) rfl (by decide) rfl ⟨rfl, by decide, by decide⟩ (fun w h Y => PySem.W.kIn_of Y) ?F (fun _ _ a ns hl hb _ hS => DW.sp_script hl hb hS) (fun _ _ _ _ _ h => by obtain ⟨_, _, _, _, _, _, _, _, _, _, _, _, z⟩ := h; exact z)
  case F =>
    intro w mg fa h KX G hmg
    refine' DW.all_mk KX G hmg ?a0 ?q0 ?c0 ?k0 ?a1 ?q1 ?c1 ?k1 ?a2 ?q2 ?c2 ?k2 ?a3 ?q3 ?c3 ?k3 ?a4 ?q4 ?c4 ?k4 ?a5 ?q5 ?c5 ?k5 ?a6 ?q6 ?c6 ?k6 ?a7 ?q7 ?c7 ?k7 ?a8 ?q8 ?c8 ?k8 ?a9 ?q9 ?c9 ?k9 ?a10 ?q10 ?c10 ?k10 ?a11 ?q11 ?c11 ?k11 ?a12 ?q12 ?c12 ?k12 ?a13 ?q13 ?c13 ?k13 ?a14 ?q14 ?c14 ?k14 ?a15 ?q15 ?c15 ?k15 ?a16 ?q16 ?c16 ?k16 ?a17 ?q17 ?c17 ?k17 ?a18 ?q18 ?c18 ?k18 ?a19 ?q19 ?c19 ?k19 ?a20 ?q20 ?c20 ?k20 ?a21 ?q21 ?c21 ?k21 ?z_len ?z_abs ?z_max ?z_min ?z_int ?z_bool ?z_str ?z_sum ?z_isinstance ?z_tuple ?z_list ?z_dict ?z_set ?z_sorted ?z_range ?z_zip ?z_reversed ?z_enumerate ?u_NUMBERS
    (case a0 => k_is)
    (case q0 => k_is)
    (case c0 => k_is)
    (case k0 => k_is)
    (case a1 => k_is)
    (case q1 => k_is)
    (case c1 => k_is)
    (case k1 => k_is)
    (case a2 => k_is)
    (case q2 => k_is)
    (case c2 => k_is)
    (case k2 => k_is)
    (case a3 => k_is)
    (case q3 => k_is)
    (case c3 => k_is)
    (case k3 => k_is)
    (case a4 => k_is)
    (case q4 => k_is)
    (case c4 => k_is)
    (case k4 => k_is)
    (case a5 => k_is)
    (case q5 => k_is)
    (case c5 => k_is)
    (case k5 => k_is)
    (case a6 => k_is)
    (case q6 => k_is)
    (case c6 => k_is)
    (case k6 => k_is)
    (case a7 => k_is)
    (case q7 => k_is)
    (case c7 => k_is)
    (case k7 => k_is)
    (case a8 => k_is)
    (case q8 => k_is)
    (case c8 => k_is)
    (case k8 => k_is)
    (case a9 => k_is)
    (case q9 => k_is)
    (case c9 => k_is)
    (case k9 => k_is)
    (case a10 => k_is)
    (case q10 => k_is)
    (case c10 => k_is)
    (case k10 => k_is)
    (case a11 => k_is)
    (case q11 => k_is)
    (case c11 => k_is)
    (case k11 => k_is)
    (case a12 => k_is)
    (case q12 => k_is)
    (case c12 => k_is)
    (case k12 => k_is)
    (case a13 => k_is)
    (case q13 => k_is)
    (case c13 => k_is)
    (case k13 => k_is)
    (case a14 => k_is)
    (case q14 => k_is)
    (case c14 => k_is)
    (case k14 => k_is)
    (case a15 => k_is)
    (case q15 => k_is)
    (case c15 => k_is)
    (case k15 => k_is)
    (case a16 => k_is)
    (case q16 => k_is)
    (case c16 => k_is)
    (case k16 => k_is)
    (case a17 => k_is)
    (case q17 => k_is)
    (case c17 => k_is)
    (case k17 => k_is)
    (case a18 => k_is)
    (case q18 => k_is)
    (case c18 => k_is)
    (case k18 => k_is)
    (case a19 => k_is)
    (case q19 => k_is)
    (case c19 => k_is)
    (case k19 => k_is)
    (case a20 => k_is)
    (case q20 => k_is)
    (case c20 => k_is)
    (case k20 => k_is)
    (case a21 => k_is)
    (case q21 => k_is)
    (case c21 => k_is)
    (case k21 => k_is)
    (case z_len => k_is)
    (case z_abs => k_is)
    (case z_max => k_is)
    (case z_min => k_is)
    (case z_int => k_is)
    (case z_bool => k_is)
    (case z_str => k_is)
    (case z_sum => k_is)
    (case z_isinstance => k_is)
    (case z_tuple => k_is)
    (case z_list => k_is)
    (case z_dict => k_is)
    (case z_set => k_is)
    (case z_sorted => k_is)
    (case z_range => k_is)
    (case z_zip => k_is)
    (case z_reversed => k_is)
    (case z_enumerate => k_is)
    (case u_NUMBERS => exact ⟨_, by k_is⟩)
