import PyProof.Rows.All
import Wide.All
import OpenK.AllK
import Wide.FinOn
import HandS.ForMost
import HandS.ForExc
import HandS.Wide
import HandS.IsInst
import HandS.TupAny
import HandS.Deep
import HandS.EndBits
import KE.KOwnCellsLaws
import HandS.Style
import HandS.NoneIn
import HandS.ExcIs
import HandS.ExcOwn
import PySem.Challenge.RW_stakebodies_k03_planes
set_option Elab.async false
set_option linter.all false
set_option maxRecDepth 100000
set_option maxHeartbeats 4000000
set_option autoImplicit false
set_option Elab.async false
set_option linter.all false
set_option maxRecDepth 100000
set_option maxHeartbeats 4000000
set_option autoImplicit false
namespace DW
open PySem PySem.Spec PyProof.Rows L2

abbrev D := PyData
variable {K : PySem.W.Frag}

/-! ### data stays data while what is tracked stands -/
theorem same_sqT {H H' : Hp} {a : Addr} {xs : List V} (e : Same H H') (h : SqT K H a xs) : SqT K H' a xs := by
  rcases h with (h | ⟨o, h⟩) | h
  · exact .inl (.inl (e _ _ h))
  · exact .inl (.inr ⟨o, e _ _ h⟩)
  · exact .inr h
mutual
theorem dp_mono {B B' : Hp} (e : Same B B') : ∀ (d : D) (v : V), Dp K B v d → Dp K B' v d
  | .none, _, h => by
    cases h
    exact .non
  | .bool b, _, h => by
    cases h
    exact .bl _
  | .int i, _, h => by
    cases h
    exact .int _
  | .str x, _, h => by
    cases h
    exact .str _
  | .list ds, _, h => by
    cases h with
    | lst hx ht => exact .lst (e.seq hx) (dpa_mono e ds _ ht)
  | .tuple ds, _, h => by
    cases h with
    | tup hx ht => exact .tup (same_sqT e hx) (dpa_mono e ds _ ht)
  | .dict _, _, h => by
    cases h
theorem dpa_mono {B B' : Hp} (e : Same B B') : ∀ (ds : List D) (vs : List V), DpAll K B vs ds → DpAll K B' vs ds
  | [], _, h => by
    cases h
    exact .nil
  | d :: ds, _, h => by
    cases h with
    | cons h1 h2 => exact .cons (dp_mono e d _ h1) (dpa_mono e ds _ h2)
end
theorem moD {B B' : Hp} {v : V} {d : D} (h : Dp K B v d) (e : Same B B') : Dp K B' v d := dp_mono e d v h
theorem moA {B B' : Hp} {vs : List V} {ds : List D} (h : DpAll K B vs ds) (e : Same B B') : DpAll K B' vs ds := dpa_mono e ds vs h
theorem dpa_len : ∀ {B : Hp} {ds : List D} {vs : List V}, DpAll K B vs ds → vs.length = ds.length
  | _, [], _, h => by
    cases h
    rfl
  | _, d :: ds, _, h => by
    cases h with
    | cons h1 h2 => rw [List.length_cons, List.length_cons, dpa_len h2]
theorem dpa_get : ∀ {B : Hp} {ds : List D} {vs : List V} {i : Nat} {d : D}, DpAll K B vs ds → ds[i]? = some d → ∃ v, vs[i]? = some v ∧ Dp K B v d
  | _, [], _, _, _, _, e => by simp at e
  | _, d :: ds, _, 0, _, h, e => by
    cases h with
    | cons h1 h2 =>
      have e' : d = _ := Option.some.inj e
      subst e'
      exact ⟨_, rfl, h1⟩
  | _, d :: ds, _, i + 1, _, h, e => by
    cases h with
    | cons h1 h2 =>
      obtain ⟨v, a, b⟩ := dpa_get (i := i) h2 (by simpa using e)
      exact ⟨v, by simpa using a, b⟩
theorem dpa_getV : ∀ {B : Hp} {ds : List D} {vs : List V} {i : Nat} {v : V}, DpAll K B vs ds → vs[i]? = some v → ∃ d, ds[i]? = some d ∧ Dp K B v d
  | _, _, [], _, _, _, e => by simp at e
  | _, [], _ :: _, _, _, h, _ => by cases h
  | _, d :: ds, v :: vs, 0, _, h, e => by
    cases h with
    | cons h1 h2 =>
      have e' : v = _ := Option.some.inj e
      subst e'
      exact ⟨_, rfl, h1⟩
  | _, d :: ds, v :: vs, i + 1, _, h, e => by
    cases h with
    | cons h1 h2 =>
      obtain ⟨d', a, b⟩ := dpa_getV (i := i) h2 (by simpa using e)
      exact ⟨d', by simpa using a, b⟩
theorem dpa_app : ∀ {B : Hp} {ds es : List D} {vs us : List V}, DpAll K B vs ds → DpAll K B us es → DpAll K B (vs ++ us) (ds ++ es)
  | _, [], _, _, _, h, g => by
    cases h
    exact g
  | _, d :: ds, _, _, _, h, g => by
    cases h with
    | cons h1 h2 => exact .cons h1 (dpa_app h2 g)
theorem dpa_take : ∀ {B : Hp} {ds : List D} {vs : List V} (n : Nat), DpAll K B vs ds → DpAll K B (vs.take n) (ds.take n)
  | _, _, _, 0, _ => by
    rw [List.take_zero, List.take_zero]
    exact .nil
  | _, [], _, _ + 1, h => by
    cases h
    exact .nil
  | _, d :: ds, _, n + 1, h => by
    cases h with
    | cons h1 h2 => exact .cons h1 (dpa_take n h2)
theorem dpa_drop : ∀ {B : Hp} {ds : List D} {vs : List V} (n : Nat), DpAll K B vs ds → DpAll K B (vs.drop n) (ds.drop n)
  | _, _, _, 0, h => h
  | _, [], _, _ + 1, h => by
    cases h
    exact .nil
  | _, d :: ds, _, n + 1, h => by
    cases h with
    | cons h1 h2 => exact dpa_drop n h2
theorem dpa_set : ∀ {B : Hp} {ds : List D} {vs : List V} {v : V} {d : D} (n : Nat), DpAll K B vs ds → Dp K B v d → DpAll K B (vs.set n v) (ds.set n d)
  | _, [], _, _, _, _, h, _ => by
    cases h
    exact .nil
  | _, e :: ds, _, _, _, 0, h, g => by
    cases h with
    | cons h1 h2 => exact .cons g h2
  | _, e :: ds, _, _, _, n + 1, h, g => by
    cases h with
    | cons h1 h2 => exact .cons h1 (dpa_set n h2 g)
theorem dp_int {B : Hp} {v : V} {i : Int} (h : Dp K B v (.int i)) : v = .int i := by
  cases h
  rfl
theorem dp_bl {B : Hp} {v : V} {i : Bool} (h : Dp K B v (.bool i)) : v = .bl i := by
  cases h
  rfl
theorem dp_str {B : Hp} {v : V} {i : Str} (h : Dp K B v (.str i)) : v = .str i := by
  cases h
  rfl
theorem dp_non {B : Hp} {v : V} (h : Dp K B v .none) : v = .non := by
  cases h
  rfl
theorem dp_tup {B : Hp} {v : V} {ds : List D} (h : Dp K B v (.tuple ds)) : ∃ a xs, v = .ref a ∧ SqT K B a xs ∧ DpAll K B xs ds := by
  cases h with
  | tup h1 h2 => exact ⟨_, _, rfl, h1, h2⟩
theorem dp_lst {B : Hp} {v : V} {ds : List D} (h : Dp K B v (.list ds)) : ∃ a xs, v = .ref a ∧ SqL K B a xs ∧ DpAll K B xs ds := by
  cases h with
  | lst h1 h2 => exact ⟨_, _, rfl, h1, h2⟩

/-! ### growth: B is what is settled, H what is tracked -/
structure Grow (B H B' H' : Hp) : Prop where
  b : Same B B'
  h : Same H H'
  bh : Same B' H'
  n : ∀ a, H a ≠ none → B a = none → B' a = none
section
variable {B H B1 H1 B2 H2 : Hp} {p : Addr} {o : HO}
theorem Grow.refl (e : Same B H) : Grow B H B H := ⟨Same.refl _, Same.refl _, e, fun _ _ h => h⟩
theorem Grow.trans (x : Grow B H B1 H1) (y : Grow B1 H1 B2 H2) : Grow B H B2 H2 := by
  refine ⟨x.b.trans y.b, x.h.trans y.h, y.bh, fun a ha hb => y.n a (fun z => ?_) (x.n a ha hb)⟩
  cases e : H a with
  | none => exact ha e
  | some u =>
    rw [x.h a u e] at z
    cases z
theorem same_new (h : H p = none) : Same H (upd H p o) := fun b u e => by
  rw [upd_ne (ne_of_none e h)]
  exact e
theorem same_out (e : Same B H) (h : B p = none) : Same B (upd H p o) := fun b u q => by
  rw [upd_ne (ne_of_none q h)]
  exact e b u q
theorem same_none (e : Same B H) (h : H p = none) : B p = none := e.free h
theorem Grow.new (e : Same B H) (h : H p = none) : Grow B H (upd B p o) (upd H p o) := by
  refine ⟨same_new (same_none e h), same_new h, fun b u q => ?_, fun a ha hb => ?_⟩
  · by_cases hb : b = p
    · subst hb
      rw [upd_same] at q ⊢
      exact q
    · rw [upd_ne hb] at q ⊢
      exact e b u q
  · rw [upd_ne (fun z => ha (by rw [z]; exact h))]
    exact hb
theorem Grow.own (e : Same B H) (h : H p = none) : Grow B H B (upd H p o) := ⟨Same.refl _, same_new h, same_out e (same_none e h), fun _ _ hb => hb⟩
/-- what was new may be settled -/
theorem Grow.settle (g : Grow B H B1 H1) (h0 : H p = none) (h1 : B1 p = none) (h2 : H1 p = some o) : Grow B H (upd B1 p o) H1 := by
  refine ⟨g.b.trans (same_new h1), g.h, fun b u q => ?_, fun a ha hb => ?_⟩
  · by_cases hb : b = p
    · subst hb
      rw [upd_same] at q
      cases q
      exact h2
    · rw [upd_ne hb] at q
      exact g.bh b u q
  · rw [upd_ne (fun z => ha (by rw [z]; exact h0))]
    exact g.n a ha hb
theorem Grow.bh0 (g : Grow B H B1 H1) : Same B H1 := g.b.trans g.bh
end

/-! ### slots -/
/-- an object of one's own that is no list -/
structure Ob where
  R : Hp → Hp → Addr → Prop
  gr : ∀ B H B' H' p, Same B B' → Same H H' → R B H p → R B' H' p
  fr : ∀ B H p q o, q ≠ p → R B H p → R B (upd H q o) p
inductive Sl where
  | no
  | fz (d : D)
  | ow (ds : List D)
  | ob (R : Ob)
  | ex (a : Addr)
def Sl.own : Sl → Bool
  | .ow _ => true
  | .ob _ => true
  | _ => false
structure Bs where
  B : Hp
  H : Hp
def SlR (K : PySem.W.Frag) (bs : Bs) (B H : Hp) (o : Option V) : Sl → Prop
  | .no => True
  | .fz d => ∃ v, o = some v ∧ Dp K B v d
  | .ow ds => ∃ p vs, o = some (.ref p) ∧ bs.H p = none ∧ B p = none ∧ H p = some (.lst vs) ∧ DpAll K B vs ds
  | .ob R => ∃ p, o = some (.ref p) ∧ bs.H p = none ∧ B p = none ∧ H p ≠ none ∧ R.R B H p
  | .ex a => o = some (.ref a)
abbrev Gm := List Sl
structure Sat (K : PySem.W.Frag) (bs : Bs) (G : Gm) (B : Hp) (σ : L2.St) (H : Hp) : Prop where
  gr : Grow bs.B bs.H B H
  len : σ.length = G.length
  sl : ∀ (i : Nat) s o, G[i]? = some s → σ[i]? = some o → SlR K bs B H o s
  na : ∀ (i j : Nat) s t p, i ≠ j → G[i]? = some s → G[j]? = some t → s.own = true → t.own = true → σ[i]? = some (some (.ref p)) → σ[j]? = some (some (.ref p)) → False
section
variable {bs : Bs} {G : Gm} {B H B' H' : Hp} {σ : L2.St}
theorem SlR.gro {o : Option V} {s : Sl} (h : SlR K bs B H o s) (g : Grow B H B' H') : SlR K bs B' H' o s := by
  cases s with
  | ex a => exact h
  | no => trivial
  | fz d =>
    obtain ⟨v, e, q⟩ := h
    exact ⟨v, e, moD q g.b⟩
  | ow ds =>
    obtain ⟨p, vs, e, q0, q1, q2, q3⟩ := h
    exact ⟨p, vs, e, q0, g.n p (by rw [q2]; simp) q1, g.h p _ q2, moA q3 g.b⟩
  | ob R =>
    obtain ⟨p, e, q0, q1, q2, q3⟩ := h
    refine ⟨p, e, q0, g.n p q2 q1, fun z => ?_, R.gr B H B' H' p g.b g.h q3⟩
    cases e2 : H p with
    | none => exact q2 e2
    | some u =>
      rw [g.h p u e2] at z
      cases z
theorem Sat.bh (S : Sat K bs G B σ H) : Same B H := S.gr.bh
theorem Sat.gro (S : Sat K bs G B σ H) (g : Grow B H B' H') : Sat K bs G B' σ H' := ⟨S.gr.trans g, S.len, fun i s o h1 h2 => (S.sl i s o h1 h2).gro g, S.na⟩
theorem Sat.fz {i : Nat} {d : D} (S : Sat K bs G B σ H) (h : G[i]? = some (.fz d)) : ∃ v, σ[i]? = some (some v) ∧ Dp K B v d := by
  have hi : i < σ.length := by
    rw [S.len]
    exact (List.getElem?_eq_some_iff.mp h).1
  have e : σ[i]? = some σ[i] := List.getElem?_eq_getElem hi
  obtain ⟨v, e2, q⟩ := S.sl i _ _ h e
  exact ⟨v, by rw [e, e2], q⟩
theorem Sat.ow {i : Nat} {ds : List D} (S : Sat K bs G B σ H) (h : G[i]? = some (.ow ds)) : ∃ p vs, σ[i]? = some (some (.ref p)) ∧ bs.H p = none ∧ B p = none ∧ H p = some (.lst vs) ∧ DpAll K B vs ds := by
  have hi : i < σ.length := by
    rw [S.len]
    exact (List.getElem?_eq_some_iff.mp h).1
  have e : σ[i]? = some σ[i] := List.getElem?_eq_getElem hi
  obtain ⟨p, vs, e2, q⟩ := S.sl i _ _ h e
  exact ⟨p, vs, by rw [e, e2], q⟩
theorem Sat.obj {i : Nat} {R : Ob} (S : Sat K bs G B σ H) (h : G[i]? = some (.ob R)) : ∃ p, σ[i]? = some (some (.ref p)) ∧ bs.H p = none ∧ B p = none ∧ H p ≠ none ∧ R.R B H p := by
  have hi : i < σ.length := by
    rw [S.len]
    exact (List.getElem?_eq_some_iff.mp h).1
  have e : σ[i]? = some σ[i] := List.getElem?_eq_getElem hi
  obtain ⟨p, e2, q⟩ := S.sl i _ _ h e
  exact ⟨p, by rw [e, e2], q⟩
/-- one's own things at other slots -/
theorem Sat.apart {i j : Nat} {s t : Sl} {p q : Addr} (S : Sat K bs G B σ H) (hij : i ≠ j) (hi : G[i]? = some s) (hj : G[j]? = some t) (si : s.own = true) (sj : t.own = true) (ei : σ[i]? = some (some (.ref p))) (ej : σ[j]? = some (some (.ref q))) : p ≠ q := fun e => by
  subst e
  exact S.na i j s t p hij hi hj si sj ei ej
theorem set_get {α : Type} {l : List α} {i j : Nat} {x y : α} (h : (l.set i x)[j]? = some y) : (j = i ∧ y = x ∧ i < l.length) ∨ (j ≠ i ∧ l[j]? = some y) := by
  by_cases e : i = j
  · subst e
    by_cases hl : i < l.length
    · rw [List.getElem?_set_self hl] at h
      exact .inl ⟨rfl, (Option.some.inj h).symm, hl⟩
    · rw [List.getElem?_eq_none (by rw [List.length_set]; omega)] at h
      cases h
  · rw [List.getElem?_set_ne e] at h
    exact .inr ⟨fun z => e z.symm, h⟩
/-- a slot gets data -/
theorem Sat.setF {i : Nat} {v : V} {d : D} (S : Sat K bs G B σ H) (q : Dp K B v d) : Sat K bs (G.set i (.fz d)) B (σ.set i (some v)) H := by
  refine ⟨S.gr, by rw [List.length_set, List.length_set, S.len], fun j s o h1 h2 => ?_, fun j k s t p hjk h1 h2 s1 s2 e1 e2 => ?_⟩
  · rcases set_get h1 with ⟨e, es, hl⟩ | ⟨e, h1'⟩
    · subst e es
      rcases set_get h2 with ⟨_, eo, _⟩ | ⟨z, _⟩
      · subst eo
        exact ⟨v, rfl, q⟩
      · exact (z rfl).elim
    · rcases set_get h2 with ⟨z, _, _⟩ | ⟨_, h2'⟩
      · exact (e z).elim
      · exact S.sl j s o h1' h2'
  · rcases set_get h1 with ⟨_, es, _⟩ | ⟨n1, h1'⟩
    · subst es
      cases s1
    · rcases set_get h2 with ⟨_, es, _⟩ | ⟨n2, h2'⟩
      · subst es
        cases s2
      · rcases set_get e1 with ⟨z, _, _⟩ | ⟨_, e1'⟩
        · exact (n1 z).elim
        · rcases set_get e2 with ⟨z, _, _⟩ | ⟨_, e2'⟩
          · exact (n2 z).elim
          · exact S.na j k s t p hjk h1' h2' s1 s2 e1' e2'
/-- a slot forgotten -/
theorem Sat.setN {i : Nat} {o : Option V} (S : Sat K bs G B σ H) : Sat K bs (G.set i .no) B (σ.set i o) H := by
  refine ⟨S.gr, by rw [List.length_set, List.length_set, S.len], fun j s o h1 h2 => ?_, fun j k s t p hjk h1 h2 s1 s2 e1 e2 => ?_⟩
  · rcases set_get h1 with ⟨e, es, hl⟩ | ⟨e, h1'⟩
    · subst e es
      trivial
    · rcases set_get h2 with ⟨z, _, _⟩ | ⟨_, h2'⟩
      · exact (e z).elim
      · exact S.sl j s o h1' h2'
  · rcases set_get h1 with ⟨_, es, _⟩ | ⟨n1, h1'⟩
    · subst es
      cases s1
    · rcases set_get h2 with ⟨_, es, _⟩ | ⟨n2, h2'⟩
      · subst es
        cases s2
      · rcases set_get e1 with ⟨z, _, _⟩ | ⟨_, e1'⟩
        · exact (n1 z).elim
        · rcases set_get e2 with ⟨z, _, _⟩ | ⟨_, e2'⟩
          · exact (n2 z).elim
          · exact S.na j k s t p hjk h1' h2' s1 s2 e1' e2'
/-- a caught exception -/
theorem Sat.setE {i : Nat} {a : Addr} (S : Sat K bs G B σ H) : Sat K bs (G.set i (.ex a)) B (σ.set i (some (.ref a))) H := by
  refine ⟨S.gr, by rw [List.length_set, List.length_set, S.len], fun j s o h1 h2 => ?_, fun j k s t p hjk h1 h2 s1 s2 e1 e2 => ?_⟩
  · rcases set_get h1 with ⟨e, es, hl⟩ | ⟨e, h1'⟩
    · subst e es
      rcases set_get h2 with ⟨_, eo, _⟩ | ⟨z, _⟩
      · exact eo
      · exact (z rfl).elim
    · rcases set_get h2 with ⟨z, _, _⟩ | ⟨_, h2'⟩
      · exact (e z).elim
      · exact S.sl j s o h1' h2'
  · rcases set_get h1 with ⟨_, es, _⟩ | ⟨n1, h1'⟩
    · subst es
      cases s1
    · rcases set_get h2 with ⟨_, es, _⟩ | ⟨n2, h2'⟩
      · subst es
        cases s2
      · rcases set_get e1 with ⟨z, _, _⟩ | ⟨_, e1'⟩
        · exact (n1 z).elim
        · rcases set_get e2 with ⟨z, _, _⟩ | ⟨_, e2'⟩
          · exact (n2 z).elim
          · exact S.na j k s t p hjk h1' h2' s1 s2 e1' e2'
/-- what a slot holds is forgotten, the value stays -/
theorem Sat.forget {i : Nat} (S : Sat K bs G B σ H) : Sat K bs (G.set i .no) B σ H := by
  refine ⟨S.gr, by rw [List.length_set, S.len], fun j s o h1 h2 => ?_, fun j k s t p hjk h1 h2 s1 s2 e1 e2 => ?_⟩
  · rcases set_get h1 with ⟨e, es, hl⟩ | ⟨e, h1'⟩
    · subst e es
      trivial
    · exact S.sl j s o h1' h2
  · rcases set_get h1 with ⟨_, es, _⟩ | ⟨n1, h1'⟩
    · subst es
      cases s1
    · rcases set_get h2 with ⟨_, es, _⟩ | ⟨n2, h2'⟩
      · subst es
        cases s2
      · exact S.na j k s t p hjk h1' h2' s1 s2 e1 e2
/-- a slot gets a thing of one's own that is new since (B, H) -/
theorem Sat.setO {i : Nat} {p : Addr} {s : Sl} (S : Sat K bs G B σ H) (g : Grow B H B' H') (hp : H p = none) (ho : s.own = true) (hs : SlR K bs B' H' (some (.ref p)) s) : Sat K bs (G.set i s) B' (σ.set i (some (.ref p))) H' := by
  have S' := S.gro g
  have old : ∀ (j : Nat) t q, G[j]? = some t → t.own = true → σ[j]? = some (some (.ref q)) → q ≠ p := fun j t q h1 h2 h3 z => by
    subst z
    have r := S.sl j t _ h1 h3
    cases t with
    | ex a => cases h2
    | no => cases h2
    | fz d => cases h2
    | ow ds =>
      obtain ⟨p', vs, e, _, _, q2, _⟩ := r
      cases e
      rw [hp] at q2
      cases q2
    | ob R =>
      obtain ⟨p', e, _, _, q2, _⟩ := r
      cases e
      exact q2 hp
  refine ⟨S'.gr, by rw [List.length_set, List.length_set, S.len], fun j t o h1 h2 => ?_, fun j k t u q hjk h1 h2 s1 s2 e1 e2 => ?_⟩
  · rcases set_get h1 with ⟨e, es, hl⟩ | ⟨e, h1'⟩
    · subst e es
      rcases set_get h2 with ⟨_, eo, _⟩ | ⟨z, _⟩
      · subst eo
        exact hs
      · exact (z rfl).elim
    · rcases set_get h2 with ⟨z, _, _⟩ | ⟨_, h2'⟩
      · exact (e z).elim
      · exact S'.sl j t o h1' h2'
  · rcases set_get h1 with ⟨ej, es, _⟩ | ⟨n1, h1'⟩
    · rcases set_get h2 with ⟨ek, _, _⟩ | ⟨n2, h2'⟩
      · exact hjk (ej.trans ek.symm)
      · rcases set_get e1 with ⟨_, eq, _⟩ | ⟨z, _⟩
        · rcases set_get e2 with ⟨z, _, _⟩ | ⟨_, e2'⟩
          · exact n2 z
          · cases eq
            exact old k u _ h2' s2 e2' rfl
        · exact z ej
    · rcases set_get e1 with ⟨z, _, _⟩ | ⟨_, e1'⟩
      · exact n1 z
      · rcases set_get h2 with ⟨ek, es, _⟩ | ⟨n2, h2'⟩
        · rcases set_get e2 with ⟨_, eq, _⟩ | ⟨z, _⟩
          · cases eq
            exact old j t _ h1' s1 e1' rfl
          · exact z ek
        · rcases set_get e2 with ⟨z, _, _⟩ | ⟨_, e2'⟩
          · exact n2 z
          · exact S'.na j k t u q hjk h1' h2' s1 s2 e1' e2'
/-- one's own list at slot i changes -/
theorem Sat.mutL {i : Nat} {p : Addr} {ds es : List D} {us : List V} (S : Sat K bs G B σ H) (h : G[i]? = some (.ow ds)) (hp : σ[i]? = some (some (.ref p))) (q : DpAll K B us es) : Sat K bs (G.set i (.ow es)) B σ (upd H p (.lst us)) := by
  obtain ⟨p', vs, e, q0, q1, q2, q3⟩ := S.ow h
  rw [hp] at e
  cases e
  have hi : i < G.length := (List.getElem?_eq_some_iff.mp h).1
  refine ⟨⟨S.gr.b, fun b o z => ?_, same_out S.bh q1, S.gr.n⟩, by rw [List.length_set, S.len], fun j s o h1 h2 => ?_, fun j k s t a hjk h1 h2 s1 s2 e1 e2 => ?_⟩
  · rw [upd_ne (ne_of_none z q0)]
    exact S.gr.h b o z
  · rcases set_get h1 with ⟨ej, es, hl⟩ | ⟨ej, h1'⟩
    · subst ej es
      rw [hp] at h2
      cases h2
      exact ⟨p, us, rfl, q0, q1, upd_same, q⟩
    · have r := S.sl j s o h1' h2
      cases s with
      | ex a => exact r
      | no => trivial
      | fz d => exact r
      | ow ds' =>
        obtain ⟨p2, vs2, e2, r0, r1, r2, r3⟩ := r
        subst e2
        have ne : p ≠ p2 := S.apart (fun z => ej z.symm) h h1' rfl rfl hp h2
        exact ⟨p2, vs2, rfl, r0, r1, by rw [upd_ne ne.symm]; exact r2, r3⟩
      | ob R =>
        obtain ⟨p2, e2, r0, r1, r2, r3⟩ := r
        subst e2
        have ne : p ≠ p2 := S.apart (fun z => ej z.symm) h h1' rfl rfl hp h2
        exact ⟨p2, rfl, r0, r1, by rw [upd_ne ne.symm]; exact r2, R.fr B H p2 p _ ne r3⟩
  · have own : ∀ (m : Nat) s, (G.set i (.ow es))[m]? = some s → s.own = true → ∃ s', G[m]? = some s' ∧ s'.own = true := fun m s a1 a2 => by
      rcases set_get a1 with ⟨em, _, _⟩ | ⟨_, a1'⟩
      · subst em
        exact ⟨_, h, rfl⟩
      · exact ⟨s, a1', a2⟩
    obtain ⟨s', g1, g2⟩ := own j s h1 s1
    obtain ⟨t', g3, g4⟩ := own k t h2 s2
    exact S.na j k s' t' a hjk g1 g3 g2 g4 e1 e2
/-- one's own list is settled -/
theorem Sat.settle {i : Nat} {ds : List D} (S : Sat K bs G B σ H) (h : G[i]? = some (.ow ds)) : ∃ B', Same B B' ∧ Sat K bs (G.set i (.fz (.list ds))) B' σ H := by
  obtain ⟨p, vs, e, q0, q1, q2, q3⟩ := S.ow h
  have sb : Same B (upd B p (.lst vs)) := same_new q1
  refine ⟨upd B p (.lst vs), sb, ⟨S.gr.settle q0 q1 q2, by rw [List.length_set, S.len], fun j s o h1 h2 => ?_, fun j k s t a hjk h1 h2 s1 s2 e1 e2 => ?_⟩⟩
  · rcases set_get h1 with ⟨ej, es, hl⟩ | ⟨ej, h1'⟩
    · subst ej es
      rw [e] at h2
      cases h2
      exact ⟨.ref p, rfl, .lst (.inl (.inl upd_same)) (moA q3 sb)⟩
    · have r := S.sl j s o h1' h2
      cases s with
      | ex a => exact r
      | no => trivial
      | fz d =>
        obtain ⟨v, e1, r1⟩ := r
        exact ⟨v, e1, moD r1 sb⟩
      | ow ds' =>
        obtain ⟨p2, vs2, e2, r0, r1, r2, r3⟩ := r
        subst e2
        have ne : p ≠ p2 := S.apart (fun z => ej z.symm) h h1' rfl rfl e h2
        exact ⟨p2, vs2, rfl, r0, by rw [upd_ne ne.symm]; exact r1, r2, moA r3 sb⟩
      | ob R =>
        obtain ⟨p2, e2, r0, r1, r2, r3⟩ := r
        subst e2
        have ne : p ≠ p2 := S.apart (fun z => ej z.symm) h h1' rfl rfl e h2
        refine ⟨p2, rfl, r0, by rw [upd_ne ne.symm]; exact r1, r2, ?_⟩
        exact R.gr B H (upd B p (.lst vs)) H p2 sb (Same.refl _) r3
  · rcases set_get h1 with ⟨_, es, _⟩ | ⟨n1, h1'⟩
    · subst es
      cases s1
    · rcases set_get h2 with ⟨_, es, _⟩ | ⟨n2, h2'⟩
      · subst es
        cases s2
      · exact S.na j k s t a hjk h1' h2' s1 s2 e1 e2
end
end DW

set_option Elab.async false
set_option linter.all false
set_option maxRecDepth 100000
set_option maxHeartbeats 4000000
set_option autoImplicit false
namespace DW
open PySem PySem.Spec PyProof.Rows L2

/-! ### the code's own wish -/
def tE (X : Cx) (e : Expr) : TE := fun σ H Q => ∀ (pins : List (Addr × Obj)) (s : Shared), Inv X pins σ H s → wpAny (model X.prog X.w) X.A (eval e X.env) (EP X pins σ Q) X.xe s
def tT (X : Cx) (e : Expr) : TT := fun σ H Q => ∀ (pins : List (Addr × Obj)) (s : Shared), Inv X pins σ H s → wpAny (model X.prog X.w) X.A (isTrue e X.env (eval e X.env)) (TP X pins σ Q) X.xe s
def tA (X : Cx) (es : List Expr) : TA := fun σ H Q => ∀ (pos : Pos) (pins : List (Addr × Obj)) (s : Shared), Inv X pins σ H s → wpAny (model X.prog X.w) X.A (spliced (backTo pos (starEach es X.env))) (AP X pins σ Q) X.xe s
def tS (X : Cx) (st : Stmt) : TS := fun De σ H => ∀ (pins : List (Addr × Obj)) (s : Shared), Inv X pins σ H s → wpAny (model X.prog X.w) X.A (exec st X.env) (SP X pins De) X.xe s
def tB1 (X : Cx) (st : List Stmt) : TS := fun De σ H => ∀ (pins : List (Addr × Obj)) (s : Shared), Inv X pins σ H s → wpAny (model X.prog X.w) X.A (execs st X.env) (SP X pins De) X.xe s
section
variable {X : Cx} {e : Expr} {es : List Expr} {st : Stmt} {sts : List Stmt} {σ : L2.St} {H : Hp}
theorem pE : PE X e (tE X e) := ⟨fun pins s _ _ _ I h => h pins s I⟩
theorem pT : PT X e (tT X e) := ⟨fun pins s _ _ _ I h => h pins s I⟩
theorem pA : PA X es (tA X es) := ⟨fun pos pins s _ _ _ I h => h pos pins s I⟩
theorem pS : PS X st (tS X st) := ⟨fun pins s _ _ _ I h => h pins s I⟩
theorem pB : PSs X sts (tB1 X sts) := ⟨fun pins s _ _ _ I h => h pins s I⟩
theorem inE {t : TE} {Q : VK} (p : PE X e t) (h : t σ H Q) : tE X e σ H Q := fun pins s I => p.run pins s σ H Q I h
theorem inT {t : TT} {Q : Bool → Hp → Prop} (p : PT X e t) (h : t σ H Q) : tT X e σ H Q := fun pins s I => p.run pins s σ H Q I h
theorem inA {t : TA} {Q : List V → Hp → Prop} (p : PA X es t) (h : t σ H Q) : tA X es σ H Q := fun pos pins s I => p.run pos pins s σ H Q I h
theorem inS {t : TS} {De : Ends} (p : PS X st t) (h : t De σ H) : tS X st De σ H := fun pins s I => p.run pins s σ H De I h
theorem inB {t : TS} {De : Ends} (p : PSs X sts t) (h : t De σ H) : tB1 X sts De σ H := fun pins s I => p.run pins s σ H De I h
end

/-! ### names -/
def visB (sc : Scope) (x : Str) : Bool := match sc.names.lookup x with
  | some .local => true
  | some .cell => true
  | some .free => true
  | _ => false
def locB (sc : Scope) (x : Str) : Bool := match sc.names.lookup x with
  | some .local => true
  | some .cell => true
  | _ => false
def loc1B (sc : Scope) (x : Str) : Bool := match sc.names.lookup x with
  | some .local => true
  | _ => false
def glB (sc : Scope) (x : Str) : Bool := match sc.names.lookup x with
  | some .globalImplicit => !(x == ("__debug__" : Str))
  | _ => false
structure Wd where
  P : Program
  w : World
  K : PySem.W.Frag
  mg : Str → Option Value
  base : Heap
def wdOf (X : Cx) : Wd := ⟨X.prog, X.w, X.K, X.mg, X.base⟩
structure Cnm (X : Cx) (W : Wd) (N : List Str) (sc : Scope) : Prop where
  wd : wdOf X = W
  nd : N.Nodup
  N : X.N = N
  vis : ∀ x, visB sc x = true → Vis X.env.scope x
  loc : ∀ x, locB sc x = true → Loc X.env.scope x ∧ (X.fn x = true ∨ X.env.scope.names.lookup x = some .local)
  loc1 : ∀ x, loc1B sc x = true → X.env.scope.names.lookup x = some .local
  gl : ∀ x, glB sc x = true → Gl X x ∧ (x == ("__debug__" : Str)) = false
  fr : ∀ x, sc.names.lookup x = some .cell ∨ sc.names.lookup x = some .free → X.env.scope.names.lookup x = some .cell ∨ X.env.scope.names.lookup x = some .free
  bk : sc.kind = .function → X.env.blockKind = .function
structure Cok (X : Cx) (W : Wd) (N : List Str) (sc : Scope) (k : Nat) : Prop extends Cnm X W N sc where
  calm : X.calm = true
  room : Room k X.A
  pown : PassesOwn (model X.prog X.w) X.A X.env X.xe
theorem visB_of {sc : Scope} {x : Str} (h : visB sc x = true) : sc.names.lookup x = some .local ∨ sc.names.lookup x = some .cell ∨ sc.names.lookup x = some .free := by
  unfold visB at h
  cases e : sc.names.lookup x with
  | none =>
    rw [e] at h
    cases h
  | some q =>
    rw [e] at h
    cases q <;> first | exact .inl rfl | exact .inr (.inl rfl) | exact .inr (.inr rfl) | cases h
theorem locB_of {sc : Scope} {x : Str} (h : locB sc x = true) : sc.names.lookup x = some .local ∨ sc.names.lookup x = some .cell := by
  unfold locB at h
  cases e : sc.names.lookup x with
  | none =>
    rw [e] at h
    cases h
  | some q =>
    rw [e] at h
    cases q <;> first | exact .inl rfl | exact .inr rfl | cases h
theorem loc1B_of {sc : Scope} {x : Str} (h : loc1B sc x = true) : sc.names.lookup x = some .local := by
  unfold loc1B at h
  cases e : sc.names.lookup x with
  | none =>
    rw [e] at h
    cases h
  | some q =>
    rw [e] at h
    cases q <;> first | rfl | cases h
theorem glB_of {sc : Scope} {x : Str} (h : glB sc x = true) : sc.names.lookup x = some .globalImplicit ∧ (x == ("__debug__" : Str)) = false := by
  unfold glB at h
  cases e : sc.names.lookup x with
  | none =>
    rw [e] at h
    cases h
  | some q =>
    rw [e] at h
    cases q <;> first | exact ⟨rfl, by simpa using h⟩ | cases h
/-- name x stands at slot i -/
def okV (N : List Str) (sc : Scope) (i : Nat) (x : Str) : Bool := decide (N[i]? = some x) && visB sc x && !(x == ("__debug__" : Str)) && !(x == ("__classdict__" : Str))
def okL (N : List Str) (sc : Scope) (i : Nat) (x : Str) : Bool := decide (N[i]? = some x) && locB sc x
theorem okV_of {N : List Str} {sc : Scope} {i : Nat} {x : Str} (h : okV N sc i x = true) : N[i]? = some x ∧ visB sc x = true ∧ (x == ("__debug__" : Str)) = false ∧ (x == ("__classdict__" : Str)) = false := by
  unfold okV at h
  simp only [Bool.and_eq_true, decide_eq_true_eq, Bool.not_eq_true'] at h
  exact ⟨h.1.1.1, h.1.1.2, h.1.2, h.2⟩
theorem okL_of {N : List Str} {sc : Scope} {i : Nat} {x : Str} (h : okL N sc i x = true) : N[i]? = some x ∧ locB sc x = true := by
  unfold okL at h
  simp only [Bool.and_eq_true, decide_eq_true_eq] at h
  exact h

/-! ### what evaluates to what -/
/-- settled data -/
structure GE (X : Cx) (G : Gm) (e : Expr) (d : D) : Prop where
  run : ∀ (bs : Bs) (B : Hp) (σ : L2.St) (H : Hp), Sat X.K bs G B σ H → ∀ Q : VK, (∀ v B' H', Grow B H B' H' → Dp X.K B' v d → Q v H') → tE X e σ H Q
/-- data as it stands now -/
structure GH (X : Cx) (G : Gm) (e : Expr) (d : D) : Prop where
  run : ∀ (bs : Bs) (B : Hp) (σ : L2.St) (H : Hp), Sat X.K bs G B σ H → ∀ Q : VK, (∀ v B' H', Grow B H B' H' → Dp X.K H' v d → Q v H') → tE X e σ H Q
/-- a list as it stands now, its items settled -/
structure GL (X : Cx) (G : Gm) (e : Expr) (ds : List D) : Prop where
  run : ∀ (bs : Bs) (B : Hp) (σ : L2.St) (H : Hp), Sat X.K bs G B σ H → ∀ Q : VK, (∀ p vs B' H', Grow B H B' H' → SqL X.K H' p vs → DpAll X.K B' vs ds → Q (.ref p) H') → tE X e σ H Q
/-- a new list of one's own -/
structure GO (X : Cx) (G : Gm) (e : Expr) (ds : List D) : Prop where
  run : ∀ (bs : Bs) (B : Hp) (σ : L2.St) (H : Hp), Sat X.K bs G B σ H → ∀ Q : VK, (∀ p vs B' H', Grow B H B' H' → H p = none → B' p = none → H' p = some (.lst vs) → DpAll X.K B' vs ds → Q (.ref p) H') → tE X e σ H Q
structure GT (X : Cx) (G : Gm) (e : Expr) (b : Bool) : Prop where
  run : ∀ (bs : Bs) (B : Hp) (σ : L2.St) (H : Hp), Sat X.K bs G B σ H → ∀ Q : Bool → Hp → Prop, (∀ B' H', Grow B H B' H' → Q b H') → tT X e σ H Q
/-- arguments -/
structure GA (X : Cx) (G : Gm) (es : List Expr) (ds : List D) : Prop where
  run : ∀ (bs : Bs) (B : Hp) (σ : L2.St) (H : Hp), Sat X.K bs G B σ H → ∀ Q : List V → Hp → Prop, (∀ vs B' H', Grow B H B' H' → DpAll X.K B' vs ds → Q vs H') → tA X es σ H Q
section
variable {X : Cx} {G : Gm} {e a b : Expr} {d x y z : D} {ds : List D} {W : Wd} {N : List Str} {sc : Scope} {k : Nat} {pos : Pos}
theorem GE.gh (h : GE X G e d) : GH X G e d := ⟨fun bs B σ H S Q q => h.run bs B σ H S Q fun v B' H' g r => q v B' H' g (moD r g.bh)⟩
theorem GE.gl (h : GE X G e (.list ds)) : GL X G e ds := ⟨fun bs B σ H S Q q => h.run bs B σ H S Q fun v B' H' g r => by
  obtain ⟨p, vs, rfl, h1, h2⟩ := dp_lst r
  exact q p vs B' H' g (g.bh.seq h1) h2⟩
theorem GL.gh (h : GL X G e ds) : GH X G e (.list ds) := ⟨fun bs B σ H S Q q => h.run bs B σ H S Q fun p vs B' H' g r1 r2 => q _ B' H' g (.lst r1 (moA r2 g.bh))⟩
theorem GO.ge (h : GO X G e ds) : GE X G e (.list ds) := ⟨fun bs B σ H S Q q => h.run bs B σ H S Q fun p vs B' H' g h0 h1 h2 r => by
  have sb : Same B' (upd B' p (.lst vs)) := same_new h1
  exact q _ _ H' (g.settle h0 h1 h2) (.lst (.inl (.inl upd_same)) (moA r sb))⟩
theorem GO.gl (h : GO X G e ds) : GL X G e ds := ⟨fun bs B σ H S Q q => h.run bs B σ H S Q fun p vs B' H' g h0 h1 h2 r => q p vs B' H' g (.inl (.inl h2)) r⟩
theorem GE.is {d' : D} (h : GE X G e d) (q : d = d') : GE X G e d' := q ▸ h
theorem GT.is {c c' : Bool} (h : GT X G e c) (q : c = c') : GT X G e c' := q ▸ h
theorem GO.is {ds' : List D} (h : GO X G e ds) (q : ds = ds') : GO X G e ds' := q ▸ h

/-! ### names, constants -/
theorem ge_vN (C : Cnm X W N sc) (i : Nat) {x : Str} {d : D} (h : okV N sc i x = true) (hG : G[i]? = some (.fz d)) : GE X G (.Name x pos) d := by
  obtain ⟨h1, h2, h3, h4⟩ := okV_of h
  refine ⟨fun bs B σ H S Q q => inE (pe_var (i := i) (by rw [C.N]; exact h1) (C.vis x h2) h3 h4) ?_⟩
  obtain ⟨v, e, r⟩ := S.fz hG
  exact ⟨v, e, q v B H (.refl S.bh) r⟩
theorem gl_vN (C : Cnm X W N sc) (i : Nat) {x : Str} {ds : List D} (h : okV N sc i x = true) (hG : G[i]? = some (.ow ds)) : GL X G (.Name x pos) ds := by
  obtain ⟨h1, h2, h3, h4⟩ := okV_of h
  refine ⟨fun bs B σ H S Q q => inE (pe_var (i := i) (by rw [C.N]; exact h1) (C.vis x h2) h3 h4) ?_⟩
  obtain ⟨p, vs, e, r0, r1, r2, r3⟩ := S.ow hG
  exact ⟨_, e, q p vs B H (.refl S.bh) (.inl (.inl r2)) r3⟩
theorem ge_v (C : Cok X W N sc k) (i : Nat) {x : Str} {d : D} (h : okV N sc i x = true) (hG : G[i]? = some (.fz d)) : GE X G (.Name x pos) d := ge_vN C.toCnm i h hG
theorem gl_v (C : Cok X W N sc k) (i : Nat) {x : Str} {ds : List D} (h : okV N sc i x = true) (hG : G[i]? = some (.ow ds)) : GL X G (.Name x pos) ds := gl_vN C.toCnm i h hG
theorem ge_int {i : Int} {j : Nat} : GE X G (.Constant (.int i) j pos) (.int i) := ⟨fun bs B σ H S Q q => inE pe_int (q _ B H (.refl S.bh) (.int _))⟩
theorem ge_bl {i : Bool} {j : Nat} : GE X G (.Constant (.bool i) j pos) (.bool i) := ⟨fun bs B σ H S Q q => inE pe_bl (q _ B H (.refl S.bh) (.bl _))⟩
theorem ge_non {j : Nat} : GE X G (.Constant .none j pos) .none := ⟨fun bs B σ H S Q q => inE pe_non (q _ B H (.refl S.bh) .non)⟩
theorem ge_str {i : Str} {j : Nat} : GE X G (.Constant (.str i) j pos) (.str i) := ⟨fun bs B σ H S Q q => inE pe_str (q _ B H (.refl S.bh) (.str _))⟩
/-- a module's number -/
theorem ge_gi (C : Cok X W N sc k) {x : Str} {i : Int} {t : Tok} (h : glB sc x = true) (hm : X.mg x = some (.int i t)) : GE X G (.Name x pos) (.int i) := ⟨fun bs B σ H S Q q => inE (pe_glob (v := .int i) (C.gl x h).1 hm ⟨_, rfl⟩ (C.gl x h).2) (q _ B H (.refl S.bh) (.int _))⟩

/-! ### two-place operations -/
/-- of settled data | of data as they stand -/
def R2D (K : PySem.W.Frag) (r : R2) (x y z : D) : Prop := ∀ (B H : Hp) (v w : V), Same B H → Dp K B v x → Dp K B w y → ∀ Q : VK, (∀ u B' H', Grow B H B' H' → Dp K B' u z → Q u H') → r v w H Q
def R2H (K : PySem.W.Frag) (r : R2) (x y z : D) : Prop := ∀ (B H : Hp) (v w : V), Same B H → Dp K H v x → Dp K H w y → ∀ Q : VK, (∀ u B' H', Grow B H B' H' → Dp K B' u z → Q u H') → r v w H Q
theorem ge_op {op : Operator} {r : R2} (ho : OpR X (binaryOp op) r) (ha : GE X G a x) (hb : GE X G b y) (hz : R2D X.K r x y z) : GE X G (.BinOp a op b pos) z :=
  ⟨fun bs B σ H S Q q => inE (pe_op ho pE pE) (ha.run bs B σ H S _ fun v B1 H1 g1 r1 => hb.run bs B1 σ H1 (S.gro g1) _ fun w B2 H2 g2 r2 =>
    hz B2 H2 v w g2.bh (moD r1 g2.b) r2 Q fun u B3 H3 g3 r3 => q u B3 H3 ((g1.trans g2).trans g3) r3)⟩
theorem ge_cmp {op : CmpOp} {r : R2} (ho : OpR X (compareOp op) r) (hm : behindInMarks op b = false) (ha : GH X G a x) (hb : GH X G b y) (hz : R2H X.K r x y z) : GE X G (.Compare a [op] [b] pos) z :=
  ⟨fun bs B σ H S Q q => inE (pe_cmpR ho pE pE hm) (ha.run bs B σ H S _ fun v B1 H1 g1 r1 => hb.run bs B1 σ H1 (S.gro g1) _ fun w B2 H2 g2 r2 =>
    hz B2 H2 v w g2.bh (moD r1 g2.h) r2 Q fun u B3 H3 g3 r3 => q u B3 H3 ((g1.trans g2).trans g3) r3)⟩
theorem gt_cmp {op : CmpOp} {r : R2} {c : Bool} (ho : OpR X (compareOp op) r) (hm : behindInMarks op b = false) (ha : GH X G a x) (hb : GH X G b y) (hz : R2H X.K r x y (.bool c)) : GT X G (.Compare a [op] [b] pos) c :=
  ⟨fun bs B σ H S Q q => inT (pt_cmpR ho pE pE hm) (ha.run bs B σ H S _ fun v B1 H1 g1 r1 => hb.run bs B1 σ H1 (S.gro g1) _ fun w B2 H2 g2 r2 =>
    hz B2 H2 v w g2.bh (moD r1 g2.h) r2 _ fun u B3 H3 g3 r3 => ⟨c, dp_bl r3, q B3 H3 ((g1.trans g2).trans g3)⟩)⟩
theorem r2d_I0 {K : PySem.W.Frag} {i j : Int} {g : Int → Int → V} {z : D} (h : ∀ B, Dp K B (g i j) z) : R2D K (rI0 g) (.int i) (.int j) z := fun B H v w s h1 h2 Q q => ⟨i, j, dp_int h1, dp_int h2, q _ B H (.refl s) (h B)⟩
theorem r2h_I0 {K : PySem.W.Frag} {i j : Int} {g : Int → Int → V} {z : D} (h : ∀ B, Dp K B (g i j) z) : R2H K (rI0 g) (.int i) (.int j) z := fun B H v w s h1 h2 Q q => ⟨i, j, dp_int h1, dp_int h2, q _ B H (.refl s) (h B)⟩
theorem r2d_I {K : PySem.W.Frag} {i j : Int} {Cc : Int → Int → Prop} {g : Int → Int → V} {z : D} (hc : Cc i j) (h : ∀ B, Dp K B (g i j) z) : R2D K (rI Cc g) (.int i) (.int j) z := fun B H v w s h1 h2 Q q => ⟨i, j, dp_int h1, dp_int h2, hc, q _ B H (.refl s) (h B)⟩
theorem op_mulB : OpR X (binaryOp .Mult) (rI IntMulOk fun i j => .int (i * j)) := opI fun _ _ _ _ _ _ _ hc q => mul_int q hc
theorem dpr {K : PySem.W.Frag} {B : Hp} {a : Addr} {xs : List V} {ds : List D} (h : B a = some (.tup xs)) (q : DpAll K B xs ds) : Dp K B (.ref a) (.tuple ds) := .tup (.inl (.inl h)) q
theorem dpl {K : PySem.W.Frag} {B : Hp} {a : Addr} {xs : List V} {ds : List D} (h : B a = some (.lst xs)) (q : DpAll K B xs ds) : Dp K B (.ref a) (.list ds) := .lst (.inl (.inl h)) q
/-- any two lists put together -/
def rCatL (K : PySem.W.Frag) : R2 := fun x y H Q => ∃ l b xs zs, x = .ref l ∧ y = .ref b ∧ SqL K H l xs ∧ SqL K H b zs ∧ xs.length + zs.length ≤ sizeLine ∧ ∀ p, H p = none → Q (.ref p) (upd H p (.lst (xs ++ zs)))
theorem op_catL {X : Cx} : OpR X (binaryOp .Add) (rCatL X.K) := by
  intro pins s σ H x y v u Q I rx ry h
  obtain ⟨l, b, xs, zs, rfl, rfl, hH, hB, hz, q⟩ := h
  cases rx
  cases ry
  obtain ⟨its, r, pl, _⟩ := I.list hH
  obtain ⟨its2, r2, pl2, _⟩ := I.list hB
  have hl := r.length
  have hl2 := r2.length
  obtain ⟨⟨cls, dd, data, sl⟩, ho, hc, n, hd⟩ := id pl.isList
  obtain ⟨⟨cls2, dd2, data2, sl2⟩, ho2, hc2, n2, hd2⟩ := id pl2.isList
  simp only at hc hd hc2 hd2
  subst hc hd hc2 hd2
  have e : its.toArray ++ its2.toArray = (its ++ its2).toArray := by simp
  refine concat_meets ⟨_, ho, rfl⟩ ⟨_, ho2, rfl⟩ noFill_list_add seq_list_add PySem.F.slot_list_add PySem.F.entry_list_add (PySem.F.args_list_add_2 _ _) (list_addW l b its.toArray its2.toArray n n2 dd dd2 sl sl2 (by simp only [List.size_toArray]; omega)) ⟨ho, ho2, ?_⟩
  rw [e]
  exact ⟨.ref _, _, I.lnew (t' := s.toks) (r.append r2) (by rw [List.length_append]; omega), rfl, q _ I.fresh⟩

end
/-! ### sums, products .. -/
inductive AddD : D → D → D → Prop
  | int (i j : Int) : AddD (.int i) (.int j) (.int (i + j))
  | str (x y : Str) : x.length + y.length ≤ sizeLine → AddD (.str x) (.str y) (.str (x ++ y))
  | tup (xs ys : List D) : xs.length + ys.length ≤ sizeLine → AddD (.tuple xs) (.tuple ys) (.tuple (xs ++ ys))
  | lst (xs ys : List D) : xs.length + ys.length ≤ sizeLine → AddD (.list xs) (.list ys) (.list (xs ++ ys))
theorem r2d_catT {K : PySem.W.Frag} {xs ys : List D} (hz : xs.length + ys.length ≤ sizeLine) : R2D K (rCatA K) (.tuple xs) (.tuple ys) (.tuple (xs ++ ys)) := fun B H v w s h1 h2 Q q => by
  obtain ⟨a, us, rfl, p1, p2⟩ := dp_tup h1
  obtain ⟨b, ws, rfl, p3, p4⟩ := dp_tup h2
  have l1 := dpa_len p2
  have l2 := dpa_len p4
  refine ⟨a, b, us, ws, rfl, rfl, same_sqT s p1, same_sqT s p3, by omega, fun e => ?_, fun _ e => ?_, fun _ _ p hp => ?_⟩
  · subst e
    have : xs = [] := List.eq_nil_of_length_eq_zero (by rw [← l1]; rfl)
    subst this
    exact q _ B H (.refl s) (.tup p3 p4)
  · subst e
    have : ys = [] := List.eq_nil_of_length_eq_zero (by rw [← l2]; rfl)
    subst this
    rw [List.append_nil] at q
    exact q _ B H (.refl s) (.tup p1 p2)
  · have g : Grow B H (upd B p (.tup (us ++ ws))) (upd H p (.tup (us ++ ws))) := .new s hp
    exact q _ _ _ g (dpr upd_same (dpa_app (moA p2 g.b) (moA p4 g.b)))
theorem r2d_catL {K : PySem.W.Frag} {xs ys : List D} (hz : xs.length + ys.length ≤ sizeLine) : R2D K (rCatL K) (.list xs) (.list ys) (.list (xs ++ ys)) := fun B H v w s h1 h2 Q q => by
  obtain ⟨a, us, rfl, p1, p2⟩ := dp_lst h1
  obtain ⟨b, ws, rfl, p3, p4⟩ := dp_lst h2
  have l1 := dpa_len p2
  have l2 := dpa_len p4
  refine ⟨a, b, us, ws, rfl, rfl, s.seq p1, s.seq p3, by omega, fun p hp => ?_⟩
  have g : Grow B H (upd B p (.lst (us ++ ws))) (upd H p (.lst (us ++ ws))) := .new s hp
  exact q _ _ _ g (dpl upd_same (dpa_app (moA p2 g.b) (moA p4 g.b)))
section
variable {X : Cx} {G : Gm} {e a b c : Expr} {es : List Expr} {d x y z : D} {ds : List D} {W : Wd} {N : List Str} {sc : Scope} {k : Nat} {pos : Pos}
theorem ge_add (ha : GE X G a x) (hb : GE X G b y) (hz : AddD x y z) : GE X G (.BinOp a .Add b pos) z := by
  cases hz with
  | int i j => exact ge_op op_add ha hb (r2d_I0 fun _ => .int _)
  | str x y h =>
    refine ge_op op_add_str ha hb fun B H v w s h1 h2 Q q => ?_
    exact ⟨x, y, dp_str h1, dp_str h2, h, q _ B H (.refl s) (.str _)⟩
  | tup xs ys h => exact ge_op op_catA ha hb (r2d_catT h)
  | lst xs ys h => exact ge_op op_catL ha hb (r2d_catL h)
/-- two lists put together: one's own -/
theorem go_add {xs ys : List D} (ha : GL X G a xs) (hb : GL X G b ys) (hz : xs.length + ys.length ≤ sizeLine) : GO X G (.BinOp a .Add b pos) (xs ++ ys) :=
  ⟨fun bs B σ H S Q q => inE (pe_op op_catL pE pE) (ha.run bs B σ H S _ fun v vs B1 H1 g1 r1 t1 => hb.run bs B1 σ H1 (S.gro g1) _ fun w ws B2 H2 g2 r2 t2 => by
    have l1 := dpa_len t1
    have l2 := dpa_len t2
    refine ⟨v, w, vs, ws, rfl, rfl, g2.h.seq r1, r2, by omega, fun p hp => ?_⟩
    have g := (g1.trans g2).trans (Grow.own (p := p) (o := .lst (vs ++ ws)) g2.bh hp)
    exact q p _ _ _ g (same_none (g1.trans g2).h hp) (same_none g2.bh hp) upd_same (dpa_app (moA t1 g2.b) t2))⟩
theorem ge_sub {i j : Int} (ha : GE X G a (.int i)) (hb : GE X G b (.int j)) : GE X G (.BinOp a .Sub b pos) (.int (i - j)) := ge_op op_sub ha hb (r2d_I0 fun _ => .int _)
theorem ge_mul {i j : Int} (ha : GE X G a (.int i)) (hb : GE X G b (.int j)) (h : IntMulOk i j) : GE X G (.BinOp a .Mult b pos) (.int (i * j)) := ge_op op_mulB ha hb (r2d_I h fun _ => .int _)
theorem ge_div {i j : Int} (ha : GE X G a (.int i)) (hb : GE X G b (.int j)) (h : CDivW i j) : GE X G (.BinOp a .FloorDiv b pos) (.int (i / j)) := ge_op op_fdivW ha hb (r2d_I h fun _ => .int _)
theorem ge_mod {i j : Int} (ha : GE X G a (.int i)) (hb : GE X G b (.int j)) (h : 0 < j) : GE X G (.BinOp a .Mod b pos) (.int (i % j)) := ge_op op_mod ha hb (r2d_I (Cc := fun _ j => 0 < j) h fun _ => .int _)
theorem ge_fmod {i j : Int} (ha : GE X G a (.int i)) (hb : GE X G b (.int j)) (h : j ≠ 0) : GE X G (.BinOp a .Mod b pos) (.int (i.fmod j)) := ge_op op_modN ha hb (r2d_I (Cc := fun _ j => j ≠ 0) h fun _ => .int _)
theorem ge_pow {i j : Int} (ha : GE X G a (.int i)) (hb : GE X G b (.int j)) (h : CPow i j) : GE X G (.BinOp a .Pow b pos) (.int (i ^ j.toNat)) := ge_op op_pow ha hb (r2d_I h fun _ => .int _)
theorem ge_neg {i : Int} (ha : GE X G a (.int i)) : GE X G (.UnaryOp .USub a pos) (.int (-i)) :=
  ⟨fun bs B σ H S Q q => inE (pe_un un_neg pE) (ha.run bs B σ H S _ fun v B1 H1 g1 r1 => ⟨i, dp_int r1, q _ B1 H1 g1 (.int _)⟩)⟩

/-! ### comparisons -/
inductive CmpD : CmpOp → D → D → Bool → Prop
  | lt (i j : Int) : CmpD .Lt (.int i) (.int j) (decide (i < j))
  | le (i j : Int) : CmpD .LtE (.int i) (.int j) (decide (i ≤ j))
  | gt (i j : Int) : CmpD .Gt (.int i) (.int j) (decide (j < i))
  | ge (i j : Int) : CmpD .GtE (.int i) (.int j) (decide (j ≤ i))
  | eqI (i j : Int) : CmpD .Eq (.int i) (.int j) (decide (i = j))
  | neI (i j : Int) : CmpD .NotEq (.int i) (.int j) (!decide (i = j))
  | eq (x y : D) : SeqAt.shaped x = true → SeqAt.shaped y = true → CmpD .Eq x y (PyData.eqv x y)
  | ne (x y : D) : SeqAt.shaped x = true → SeqAt.shaped y = true → CmpD .NotEq x y (!PyData.eqv x y)
  | isN (x : D) : CmpD .Is x .none (PyData.eqv x .none)
  | notN (x : D) : CmpD .IsNot x .none (!PyData.eqv x .none)
  | inL (x : D) (ds : List D) : SeqAt.shaped x = true → SeqAt.shaped (.list ds) = true → CmpD .In x (.list ds) (ds.any fun z => PyData.eqv z x)
  | ninL (x : D) (ds : List D) : SeqAt.shaped x = true → SeqAt.shaped (.list ds) = true → CmpD .NotIn x (.list ds) (!ds.any fun z => PyData.eqv z x)
  | inS (x y : Str) : CmpD .In (.str x) (.str y) (!(Builtin.Str.occurrences y x 0 y.length 1).isEmpty)
  | ninS (x y : Str) : CmpD .NotIn (.str x) (.str y) (!(!(Builtin.Str.occurrences y x 0 y.length 1).isEmpty))
theorem eqv_ints (i j : Int) : PyData.eqv (.int i) (.int j) = decide (i = j) := by
  simp only [PyData.eqv]
  by_cases h : i = j <;> simp [h]
theorem dp_isN {K : PySem.W.Frag} {H : Hp} {v : V} {x : D} (h : Dp K H v x) : decide (v = .non) = PyData.eqv x .none := by
  cases h <;> rfl
theorem cmp_run {op : CmpOp} {x y : D} {c : Bool} {kk : Nat} (hr : Room kk X.A) (h : CmpD op x y c) : ∃ r, OpR X (compareOp op) r ∧ R2H X.K r x y (.bool c) := by
  have hu := hr.units
  have hun := hr.un
  cases h with
  | lt i j => exact ⟨_, op_lt, r2h_I0 fun _ => .bl _⟩
  | le i j => exact ⟨_, op_le, r2h_I0 fun _ => .bl _⟩
  | gt i j => exact ⟨_, op_gt, r2h_I0 fun _ => .bl _⟩
  | ge i j => exact ⟨_, op_ge, r2h_I0 fun _ => .bl _⟩
  | eqI i j => exact ⟨_, op_eqD hu, fun B H v w s h1 h2 Q q => ⟨_, _, h1, h2, rfl, rfl, by rw [eqv_ints]; exact q _ B H (.refl s) (.bl _)⟩⟩
  | neI i j => exact ⟨_, op_neD hu, fun B H v w s h1 h2 Q q => ⟨_, _, h1, h2, rfl, rfl, by rw [eqv_ints]; exact q _ B H (.refl s) (.bl _)⟩⟩
  | eq x y sx sy => exact ⟨_, op_eqD hu, fun B H v w s h1 h2 Q q => ⟨_, _, h1, h2, sx, sy, q _ B H (.refl s) (.bl _)⟩⟩
  | ne x y sx sy => exact ⟨_, op_neD hu, fun B H v w s h1 h2 Q q => ⟨_, _, h1, h2, sx, sy, q _ B H (.refl s) (.bl _)⟩⟩
  | isN x => exact ⟨_, op_isN, fun B H v w s h1 h2 Q q => ⟨dp_non h2, by rw [dp_isN h1]; exact q _ B H (.refl s) (.bl _)⟩⟩
  | notN x => exact ⟨_, op_notN, fun B H v w s h1 h2 Q q => ⟨dp_non h2, by rw [dp_isN h1]; exact q _ B H (.refl s) (.bl _)⟩⟩
  | inL x ds sx sy => exact ⟨_, op_inD (by omega), fun B H v w s h1 h2 Q q => ⟨_, _, h1, h2, sx, sy, q _ B H (.refl s) (.bl _)⟩⟩
  | ninL x ds sx sy => exact ⟨_, op_notInD (by omega), fun B H v w s h1 h2 Q q => ⟨_, _, h1, h2, sx, sy, q _ B H (.refl s) (.bl _)⟩⟩
  | inS x y => exact ⟨_, op_in_str, fun B H v w s h1 h2 Q q => ⟨_, _, dp_str h1, dp_str h2, q _ B H (.refl s) (.bl _)⟩⟩
  | ninS x y => exact ⟨_, op_notIn_str, fun B H v w s h1 h2 Q q => ⟨_, _, dp_str h1, dp_str h2, q _ B H (.refl s) (.bl _)⟩⟩
theorem ge_cp {op : CmpOp} {cb : Bool} (C : Cok X W N sc k) (ha : GH X G a x) (hb : GH X G b y) (hz : CmpD op x y cb) (hm : behindInMarks op b = false) : GE X G (.Compare a [op] [b] pos) (.bool cb) := by
  obtain ⟨r, ho, hr⟩ := cmp_run C.room hz
  exact ge_cmp ho hm ha hb hr
theorem gt_cp {op : CmpOp} {cb : Bool} (C : Cok X W N sc k) (ha : GH X G a x) (hb : GH X G b y) (hz : CmpD op x y cb) (hm : behindInMarks op b = false) : GT X G (.Compare a [op] [b] pos) cb := by
  obtain ⟨r, ho, hr⟩ := cmp_run C.room hz
  exact gt_cmp ho hm ha hb hr

/-! ### and, or, not, if -/
end
def tW (X : Cx) (e : Expr) : TT := fun σ H Q => ∀ (whole : Sem Value) (pins : List (Addr × Obj)) (s : Shared), Inv X pins σ H s → wpAny (model X.prog X.w) X.A (isTrue e X.env whole) (TP X pins σ Q) X.xe s
theorem pW {X : Cx} {e : Expr} : PW X e (tW X e) := ⟨fun wh pins s _ _ _ I h => h wh pins s I⟩
theorem inW {X : Cx} {e : Expr} {σ : L2.St} {H : Hp} {t : TT} {Q : Bool → Hp → Prop} (p : PW X e t) (h : t σ H Q) : tW X e σ H Q := fun wh pins s I => p.run wh pins s σ H Q I h
structure GW (X : Cx) (G : Gm) (e : Expr) (b : Bool) : Prop where
  run : ∀ (bs : Bs) (B : Hp) (σ : L2.St) (H : Hp), Sat X.K bs G B σ H → ∀ Q : Bool → Hp → Prop, (∀ B' H', Grow B H B' H' → Q b H') → tW X e σ H Q
section
variable {X : Cx} {G : Gm} {e a b c : Expr} {es rest : List Expr} {d x y z : D} {ds : List D} {W : Wd} {N : List Str} {sc : Scope} {k : Nat} {pos : Pos} {t u : Bool}
theorem GW.gt (h : GW X G e t) : GT X G e t := ⟨fun bs B σ H S Q q => inT pW.pt (h.run bs B σ H S Q q)⟩
theorem gw_and1 (ha : GT X G a t) : GW X G (.BoolOp .And [a] pos) t := ⟨fun bs B σ H S Q q => inW (pw_and1 pT) (ha.run bs B σ H S Q q)⟩
theorem gw_or1 (ha : GT X G a t) : GW X G (.BoolOp .Or [a] pos) t := ⟨fun bs B σ H S Q q => inW (pw_or1 pT) (ha.run bs B σ H S Q q)⟩
theorem gw_and (ha : GT X G a t) (hb : t = true → GW X G (.BoolOp .And (b :: rest) pos) u) : GW X G (.BoolOp .And (a :: b :: rest) pos) (t && u) :=
  ⟨fun bs B σ H S Q q => inW (pw_and pT pW) (ha.run bs B σ H S _ fun B1 H1 g1 => by
    cases t with
    | true => exact iteT ((hb rfl).run bs B1 σ H1 (S.gro g1) _ fun B2 H2 g2 => q B2 H2 (g1.trans g2))
    | false => exact iteF (q B1 H1 g1))⟩
theorem gw_or (ha : GT X G a t) (hb : t = false → GW X G (.BoolOp .Or (b :: rest) pos) u) : GW X G (.BoolOp .Or (a :: b :: rest) pos) (t || u) :=
  ⟨fun bs B σ H S Q q => inW (pw_or pT pW) (ha.run bs B σ H S _ fun B1 H1 g1 => by
    cases t with
    | false => exact iteF ((hb rfl).run bs B1 σ H1 (S.gro g1) _ fun B2 H2 g2 => q B2 H2 (g1.trans g2))
    | true => exact iteT (q B1 H1 g1))⟩
theorem gt_not (ha : GT X G a t) : GT X G (.UnaryOp .Not a pos) (!t) := ⟨fun bs B σ H S Q q => inT (pt_not pT) (ha.run bs B σ H S _ fun B1 H1 g1 => q B1 H1 g1)⟩
/-- .. as values -/
theorem ge_one {op : BoolOp} (ha : GE X G a d) : GE X G (.BoolOp op [a] pos) d := ⟨fun bs B σ H S Q q => inE (pe_one pE) (ha.run bs B σ H S Q q)⟩
theorem ge_and (ha : GE X G a (.bool t)) (hb : t = true → GE X G (.BoolOp .And (b :: rest) pos) (.bool u)) : GE X G (.BoolOp .And (a :: b :: rest) pos) (.bool (t && u)) :=
  ⟨fun bs B σ H S Q q => inE (pe_and pE pE) (ha.run bs B σ H S _ fun v B1 H1 g1 r1 => ⟨t, dp_bl r1, by
    cases t with
    | true => exact iteT ((hb rfl).run bs B1 σ H1 (S.gro g1) _ fun v B2 H2 g2 r2 => q v B2 H2 (g1.trans g2) r2)
    | false => exact iteF (q _ B1 H1 g1 (.bl _))⟩)⟩
theorem ge_or (ha : GE X G a (.bool t)) (hb : t = false → GE X G (.BoolOp .Or (b :: rest) pos) (.bool u)) : GE X G (.BoolOp .Or (a :: b :: rest) pos) (.bool (t || u)) :=
  ⟨fun bs B σ H S Q q => inE (pe_or pE pE) (ha.run bs B σ H S _ fun v B1 H1 g1 r1 => ⟨t, dp_bl r1, by
    cases t with
    | false => exact iteF ((hb rfl).run bs B1 σ H1 (S.gro g1) _ fun v B2 H2 g2 r2 => q v B2 H2 (g1.trans g2) r2)
    | true => exact iteT (q _ B1 H1 g1 (.bl _))⟩)⟩
theorem ge_not (ha : GE X G a (.bool t)) : GE X G (.UnaryOp .Not a pos) (.bool (!t)) :=
  ⟨fun bs B σ H S Q q => inE (pe_not pE) (ha.run bs B σ H S _ fun v B1 H1 g1 r1 => ⟨t, dp_bl r1, q _ B1 H1 g1 (.bl _)⟩)⟩
theorem ge_if {c : Expr} (hc : GT X G c t) (ha : t = true → GE X G a d) (hb : t = false → GE X G b d) : GE X G (.IfExp c a b pos) d :=
  ⟨fun bs B σ H S Q q => inE (pe_ifExp pT pE pE) (hc.run bs B σ H S _ fun B1 H1 g1 => by
    cases t with
    | true => exact iteT ((ha rfl).run bs B1 σ H1 (S.gro g1) _ fun v B2 H2 g2 r2 => q v B2 H2 (g1.trans g2) r2)
    | false => exact iteF ((hb rfl).run bs B1 σ H1 (S.gro g1) _ fun v B2 H2 g2 r2 => q v B2 H2 (g1.trans g2) r2))⟩
/-- an expression that gives a truth, as a test -/
theorem gt_val (h : GE X G e (.bool t)) (he : ∀ whole, isTrue e X.env whole = (do let v ← whole; standAt e.pos; holding [v] (truthy v))) : GT X G e t :=
  ⟨fun bs B σ H S Q q => inT (pt_val pE he) (h.run bs B σ H S _ fun v B1 H1 g1 r1 => ⟨t, dp_bl r1, q B1 H1 g1⟩)⟩
/-! ### displays -/
def nst (e : Expr) : Bool := match e with
  | .Starred .. => false
  | _ => true
theorem star_cons {e : Expr} {es : List Expr} {env : Env} (h : nst e = true) : starEach (e :: es) env = (false, eval e env) :: starEach es env := by
  cases e <;> first | rfl | cases h
theorem star_all {env : Env} {pos : Pos} : ∀ {es : List Expr}, es.all nst = true → (backTo pos (starEach es env)).any (·.1) = false
  | [], _ => rfl
  | e :: es, h => by
    rw [List.all_cons, Bool.and_eq_true] at h
    have e1 := star_all (env := env) (pos := pos) (es := es) h.2
    rw [star_cons h.1]
    exact e1
theorem ga_nil : GA X G [] [] := ⟨fun bs B σ H S Q q => inA pa_nil (q [] B H (.refl S.bh) .nil)⟩
theorem ga_cons (he : GE X G e d) (hr : GA X G es ds) (hs : nst e = true) : GA X G (e :: es) (d :: ds) :=
  ⟨fun bs B σ H S Q q => inA (pa_cons pE pA (star_cons hs)) (he.run bs B σ H S _ fun v B1 H1 g1 r1 => hr.run bs B1 σ H1 (S.gro g1) _ fun vs B2 H2 g2 r2 => q _ B2 H2 (g1.trans g2) (.cons (moD r1 g2.b) r2))⟩
theorem ge_tup {x1 : Nat} (h : GA X G es ds) (hl : ds.length ≤ sizeLine) : GE X G (.Tuple es x1 pos) (.tuple ds) :=
  ⟨fun bs B σ H S Q q => inE (pe_tup pA) (h.run bs B σ H S _ fun vs B1 H1 g1 r1 => ⟨by rw [dpa_len r1]; exact hl, fun p hp => by
    have g : Grow B1 H1 (upd B1 p (.tup vs)) (upd H1 p (.tup vs)) := .new g1.bh hp
    exact q _ _ _ (g1.trans g) (dpr upd_same (moA r1 g.b))⟩)⟩
theorem go_lst (h : GA X G es ds) (hl : ds.length ≤ sizeLine) {x1 : Unit} : GO X G (.List es pos) ds :=
  ⟨fun bs B σ H S Q q => inE (pe_lst pA) (h.run bs B σ H S _ fun vs B1 H1 g1 r1 => ⟨by rw [dpa_len r1]; exact hl, fun p hp => by
    have g : Grow B1 H1 B1 (upd H1 p (.lst vs)) := .own g1.bh hp
    exact q p vs _ _ (g1.trans g) (same_none g1.h hp) (same_none g1.bh hp) upd_same r1⟩)⟩
end
end DW

set_option Elab.async false
set_option linter.all false
set_option maxRecDepth 100000
set_option maxHeartbeats 4000000
set_option autoImplicit false
namespace DW
open PySem PySem.Spec PyProof.Rows L2

/-! ### places and slices -/
theorem dpa_at {K : PySem.W.Frag} {B : Hp} {ds : List D} {vs : List V} {i : Int} {d : D} (h : DpAll K B vs ds) (e : atI ds i = some d) : ∃ v, atI vs i = some v ∧ Dp K B v d := by
  unfold atI at e ⊢
  rw [dpa_len h]
  cases q : ixN ds.length i with
  | none =>
    rw [q] at e
    cases e
  | some j =>
    rw [q] at e
    exact dpa_get h e
def cutD (xs : List D) (lo hi : Option Int) : List D := (xs.drop (HT.sIx xs.length 0 lo)).take (HT.sIx xs.length xs.length hi - HT.sIx xs.length 0 lo)
theorem dpa_cut {K : PySem.W.Frag} {B : Hp} {ds : List D} {vs : List V} {lo hi : Option Int} (h : DpAll K B vs ds) : DpAll K B (cutV vs lo hi) (cutD ds lo hi) := by
  unfold cutV cutD
  rw [dpa_len h]
  exact dpa_take _ (dpa_drop _ h)
theorem cutD_whole {ds : List D} {lo hi : Option Int} (h : HT.sIx ds.length 0 lo = 0 ∧ HT.sIx ds.length ds.length hi = ds.length) : cutD ds lo hi = ds := by
  unfold cutD
  rw [h.1, h.2]
  simp
def tP (X : Cx) (e : Option Expr) : TO := fun σ H Q => ∀ (pins : List (Addr × Obj)) (s : Shared), Inv X pins σ H s → wpAny (model X.prog X.w) X.A (evalPart e X.env) (fun u s' => ∃ o H', Inv X pins σ H' s' ∧ IsPart u o ∧ Q o H') X.xe s
theorem pP {X : Cx} {e : Option Expr} : PO X e (tP X e) := ⟨fun pins s _ _ _ I h => h pins s I⟩
theorem inP {X : Cx} {e : Option Expr} {σ : L2.St} {H : Hp} {t : TO} {Q : Option Int → Hp → Prop} (p : PO X e t) (h : t σ H Q) : tP X e σ H Q := fun pins s I => p.run pins s σ H Q I h
structure GP (X : Cx) (G : Gm) (e : Option Expr) (o : Option Int) : Prop where
  run : ∀ (bs : Bs) (B : Hp) (σ : L2.St) (H : Hp), Sat X.K bs G B σ H → ∀ Q : Option Int → Hp → Prop, (∀ B' H', Grow B H B' H' → Q o H') → tP X e σ H Q
section
variable {X : Cx} {G : Gm} {e a b c : Expr} {es rest : List Expr} {d x y z : D} {ds : List D} {W : Wd} {N : List Str} {sc : Scope} {k : Nat} {pos p2 : Pos} {t u : Bool} {lo hi : Option Expr} {l h : Option Int}
theorem gp_no : GP X G none none := ⟨fun bs B σ H S Q q => inP po_none (q B H (.refl S.bh))⟩
theorem gp_yes {i : Int} (he : GE X G e (.int i)) : GP X G (some e) (some i) := ⟨fun bs B σ H S Q q => inP (po_some pE) (he.run bs B σ H S _ fun v B1 H1 g1 r1 => ⟨i, dp_int r1, q B1 H1 g1⟩)⟩
theorem ge_ixT {i : Int} (ha : GE X G a (.tuple ds)) (hb : GE X G b (.int i)) (hd : atI ds i = some d) (hs : PlainIx b) : GE X G (.Subscript a b pos) d :=
  ⟨fun bs B σ H S Q q => inE (pe_ix ix_tup pE pE hs) (ha.run bs B σ H S _ fun v B1 H1 g1 r1 => hb.run bs B1 σ H1 (S.gro g1) _ fun w B2 H2 g2 r2 => by
    obtain ⟨p, vs, rfl, h1, h2⟩ := dp_tup r1
    obtain ⟨v', h3, h4⟩ := dpa_at h2 hd
    exact ⟨p, vs, i, v', rfl, dp_int r2, same_sqT (g2.b.trans g2.bh) h1, h3, q _ B2 H2 (g1.trans g2) (moD h4 g2.b)⟩)⟩
theorem ge_ixL {i : Int} (ha : GL X G a ds) (hb : GE X G b (.int i)) (hd : atI ds i = some d) (hs : PlainIx b) : GE X G (.Subscript a b pos) d :=
  ⟨fun bs B σ H S Q q => inE (pe_ix ix_list pE pE hs) (ha.run bs B σ H S _ fun p vs B1 H1 g1 r1 h2 => hb.run bs B1 σ H1 (S.gro g1) _ fun w B2 H2 g2 r2 => by
    obtain ⟨v', h3, h4⟩ := dpa_at h2 hd
    exact ⟨p, vs, i, v', rfl, dp_int r2, g2.h.seq r1, h3, q _ B2 H2 (g1.trans g2) (moD h4 g2.b)⟩)⟩
theorem ge_ixS {i : Int} {s : Str} {c : Nat} (ha : GE X G a (.str s)) (hb : GE X G b (.int i)) (hl : s.length ≤ sizeLine) (hd : atI s.cps.toList i = some c) (hs : PlainIx b) : GE X G (.Subscript a b pos) (.str ⟨#[c]⟩) :=
  ⟨fun bs B σ H S Q q => inE (pe_ix ix_str pE pE hs) (ha.run bs B σ H S _ fun p B1 H1 g1 r1 => hb.run bs B1 σ H1 (S.gro g1) _ fun w B2 H2 g2 r2 =>
    ⟨s, i, c, dp_str r1, dp_int r2, hl, hd, q _ B2 H2 (g1.trans g2) (.str _)⟩)⟩
theorem ge_slT (ha : GE X G a (.tuple ds)) (hl : GP X G lo l) (hh : GP X G hi h) : GE X G (.Subscript a (.Slice lo hi none p2) pos) (.tuple (cutD ds l h)) :=
  ⟨fun bs B σ H S Q q => inE (pe_slice sl_tupA pE pP pP) (ha.run bs B σ H S _ fun v B1 H1 g1 r1 => hl.run bs B1 σ H1 (S.gro g1) _ fun B2 H2 g2 => hh.run bs B2 σ H2 (S.gro (g1.trans g2)) _ fun B3 H3 g3 => by
    obtain ⟨p, vs, rfl, h1, h2⟩ := dp_tup r1
    have gb := g2.b.trans g3.b
    have ll := dpa_len h2
    refine ⟨p, vs, rfl, same_sqT (gb.trans g3.bh) h1, fun e => ?_, fun e p' hp => ?_⟩
    · rw [ll] at e
      rw [cutD_whole e] at q
      exact q _ B3 H3 ((g1.trans g2).trans g3) (.tup (same_sqT gb h1) (moA h2 gb))
    · have g : Grow B3 H3 (upd B3 p' (.tup (cutV vs l h))) (upd H3 p' (.tup (cutV vs l h))) := .new g3.bh hp
      exact q _ _ _ (((g1.trans g2).trans g3).trans g) (dpr upd_same (moA (dpa_cut h2) (gb.trans g.b))))⟩
theorem go_slL (ha : GL X G a ds) (hl : GP X G lo l) (hh : GP X G hi h) : GO X G (.Subscript a (.Slice lo hi none p2) pos) (cutD ds l h) :=
  ⟨fun bs B σ H S Q q => inE (pe_slice sl_list pE pP pP) (ha.run bs B σ H S _ fun p vs B1 H1 g1 r1 h2 => hl.run bs B1 σ H1 (S.gro g1) _ fun B2 H2 g2 => hh.run bs B2 σ H2 (S.gro (g1.trans g2)) _ fun B3 H3 g3 => by
    have gg := (g1.trans g2).trans g3
    refine ⟨p, vs, rfl, (g2.h.trans g3.h).seq r1, fun p' hp => ?_⟩
    have g : Grow B3 H3 B3 (upd H3 p' (.lst (cutV vs l h))) := .own g3.bh hp
    exact q p' _ _ _ (gg.trans g) (same_none gg.h hp) (same_none g3.bh hp) upd_same (moA (dpa_cut h2) (g2.b.trans g3.b)))⟩
end

/-! ### calls of built-in things -/
def RcH (X : Cx) (r : List V → Hp → VK → Prop) (ds : List D) (z : D) : Prop := ∀ (B H : Hp) (vs : List V), Same B H → DpAll X.K H vs ds → ∀ Q : VK, (∀ u B' H', Grow B H B' H' → Dp X.K B' u z → Q u H') → r vs H Q
structure GAH (X : Cx) (G : Gm) (es : List Expr) (ds : List D) : Prop where
  run : ∀ (bs : Bs) (B : Hp) (σ : L2.St) (H : Hp), Sat X.K bs G B σ H → ∀ Q : List V → Hp → Prop, (∀ vs B' H', Grow B H B' H' → DpAll X.K H' vs ds → Q vs H') → tA X es σ H Q
section
variable {X : Cx} {G : Gm} {e a b c : Expr} {es rest : List Expr} {d x y z : D} {ds : List D} {W : Wd} {N : List Str} {sc : Scope} {k : Nat} {pos p2 p : Pos} {t u : Bool}
theorem gah_nil : GAH X G [] [] := ⟨fun bs B σ H S Q q => inA pa_nil (q [] B H (.refl S.bh) .nil)⟩
theorem gah_cons (he : GH X G e d) (hr : GAH X G es ds) (hs : nst e = true) : GAH X G (e :: es) (d :: ds) :=
  ⟨fun bs B σ H S Q q => inA (pa_cons pE pA (star_cons hs)) (he.run bs B σ H S _ fun v B1 H1 g1 r1 => hr.run bs B1 σ H1 (S.gro g1) _ fun vs B2 H2 g2 r2 => q _ B2 H2 (g1.trans g2) (.cons (moD r1 g2.h) r2))⟩
theorem ge_cb {nm : Str} {id : String} {r : List V → Hp → VK → Prop} (C : Cok X W N sc k) (hg : glB sc nm = true) (hm : W.mg nm = none) (hv : bootBuiltins nm = some (.builtin id)) (hc : CallR X (.builtin id) r) (ha : GAH X G (e :: es) ds) (hz : RcH X r ds z) (hn : nm ≠ "__name__")
    (he : nst e = true) (hpl : es.all nst = true) : GE X G (.Call (.Name nm p) (e :: es) [] pos) z := by
  have hm' : X.mg nm = none := by
    have := C.wd
    subst this
    exact hm
  exact ⟨fun bs B σ H S Q q => inE (pe_callB hc (C.gl nm hg).1 hm' hv pA hn (C.gl nm hg).2 (star_cons he) (star_all hpl)) (ha.run bs B σ H S _ fun vs B1 H1 g1 r1 => hz B1 H1 vs g1.bh r1 Q fun u B2 H2 g2 r2 => q u B2 H2 (g1.trans g2) r2)⟩
theorem ge_ct {nm : Str} {id : String} {r : List V → Hp → VK → Prop} (C : Cok X W N sc k) (hg : glB sc nm = true) (hm : W.mg nm = none) (hv : bootBuiltins nm = some (.type id)) (hc : CallR X (.type id) r) (ha : GAH X G (e :: es) ds) (hz : RcH X r ds z) (hn : nm ≠ "__name__")
    (he : nst e = true) (hpl : es.all nst = true) : GE X G (.Call (.Name nm p) (e :: es) [] pos) z := by
  have hm' : X.mg nm = none := by
    have := C.wd
    subst this
    exact hm
  exact ⟨fun bs B σ H S Q q => inE (pe_callTy hc (C.gl nm hg).1 hm' hv pA hn (C.gl nm hg).2 (star_cons he) (star_all hpl)) (ha.run bs B σ H S _ fun vs B1 H1 g1 r1 => hz B1 H1 vs g1.bh r1 Q fun u B2 H2 g2 r2 => q u B2 H2 (g1.trans g2) r2)⟩
end
theorem dpa_one {K : PySem.W.Frag} {H : Hp} {vs : List V} {d : D} (h : DpAll K H vs [d]) : ∃ v, vs = [v] ∧ Dp K H v d := by
  cases h with
  | cons h1 h2 =>
    cases h2
    exact ⟨_, rfl, h1⟩
theorem dpa_two {K : PySem.W.Frag} {H : Hp} {vs : List V} {d e : D} (h : DpAll K H vs [d, e]) : ∃ v w, vs = [v, w] ∧ Dp K H v d ∧ Dp K H w e := by
  cases h with
  | cons h1 h2 =>
    obtain ⟨w, rfl, h3⟩ := dpa_one h2
    exact ⟨_, w, rfl, h1, h3⟩
theorem rc_len {X : Cx} {ds : List D} : RcH X (fun xs H Q => ∃ p ys, xs = [.ref p] ∧ (SqL X.K H p ys ∨ SqT X.K H p ys) ∧ Q (.int ys.length) H) [.list ds] (.int (ds.length : Int)) := fun B H vs s h Q q => by
  obtain ⟨v, rfl, h1⟩ := dpa_one h
  obtain ⟨p, us, rfl, h2, h3⟩ := dp_lst h1
  refine ⟨p, us, rfl, .inl h2, ?_⟩
  rw [dpa_len h3]
  exact q _ B H (.refl s) (.int _)
theorem rc_lenT {X : Cx} {ds : List D} : RcH X (fun xs H Q => ∃ p ys, xs = [.ref p] ∧ (SqL X.K H p ys ∨ SqT X.K H p ys) ∧ Q (.int ys.length) H) [.tuple ds] (.int (ds.length : Int)) := fun B H vs s h Q q => by
  obtain ⟨v, rfl, h1⟩ := dpa_one h
  obtain ⟨p, us, rfl, h2, h3⟩ := dp_tup h1
  refine ⟨p, us, rfl, .inr h2, ?_⟩
  rw [dpa_len h3]
  exact q _ B H (.refl s) (.int _)
theorem rc_lenS {X : Cx} {s : Str} (hl : s.length ≤ sizeLine) : RcH X (fun xs H Q => ∃ z, xs = [.str z] ∧ z.length ≤ sizeLine ∧ Q (.int z.length) H) [.str s] (.int (s.length : Int)) := fun B H vs sm h Q q => by
  obtain ⟨v, rfl, h1⟩ := dpa_one h
  exact ⟨s, by rw [dp_str h1], hl, q _ B H (.refl sm) (.int _)⟩
theorem rc_abs {X : Cx} {i : Int} : RcH X (fun xs H Q => ∃ i, xs = [.int i] ∧ Q (.int (if i < 0 then -i else i)) H) [.int i] (.int (if i < 0 then -i else i)) := fun B H vs s h Q q => by
  obtain ⟨v, rfl, h1⟩ := dpa_one h
  exact ⟨i, by rw [dp_int h1], q _ B H (.refl s) (.int _)⟩
theorem rc_max2 {X : Cx} {i j : Int} : RcH X (fun xs H Q => ∃ i j, xs = [.int i, .int j] ∧ Q (.int (if j > i then j else i)) H) [.int i, .int j] (.int (if j > i then j else i)) := fun B H vs s h Q q => by
  obtain ⟨v, w, rfl, h1, h2⟩ := dpa_two h
  exact ⟨i, j, by rw [dp_int h1, dp_int h2], q _ B H (.refl s) (.int _)⟩
theorem rc_min2 {X : Cx} {i j : Int} : RcH X (fun xs H Q => ∃ i j, xs = [.int i, .int j] ∧ Q (.int (if j < i then j else i)) H) [.int i, .int j] (.int (if j < i then j else i)) := fun B H vs s h Q q => by
  obtain ⟨v, w, rfl, h1, h2⟩ := dpa_two h
  exact ⟨i, j, by rw [dp_int h1, dp_int h2], q _ B H (.refl s) (.int _)⟩
theorem rc_intB {X : Cx} {b : Bool} : RcH X (fun xs H Q => (∃ i, xs = [.int i] ∧ Q (.int i) H) ∨ ∃ k, xs = [.bl k] ∧ Q (.int (if k then 1 else 0)) H) [.bool b] (.int (if b then 1 else 0)) := fun B H vs s h Q q => by
  obtain ⟨v, rfl, h1⟩ := dpa_one h
  exact .inr ⟨b, by rw [dp_bl h1], q _ B H (.refl s) (.int _)⟩
theorem dpa_ints {K : PySem.W.Frag} {H : Hp} : ∀ {ns : List Int} {vs : List V}, DpAll K H vs (ns.map PyData.int) → vs = ns.map V.int
  | [], _, h => by
    cases h
    rfl
  | n :: ns, _, h => by
    have h' : DpAll K H _ (PyData.int n :: ns.map PyData.int) := h
    cases h' with
    | cons h1 h2 => rw [dp_int h1, dpa_ints h2, List.map_cons]
theorem rc_sum {X : Cx} {ns : List Int} : RcH X (rSum X.K) [.list (ns.map .int)] (.int ns.sum) := fun B H vs s h Q q => by
  obtain ⟨v, rfl, h1⟩ := dpa_one h
  obtain ⟨p, us, rfl, h2, h3⟩ := dp_lst h1
  rw [dpa_ints h3] at h2
  exact ⟨p, ns, rfl, h2, q _ B H (.refl s) (.int _)⟩
/-- isinstance by a built-in class -/
def tyD : D → String
  | .none => "NoneType"
  | .bool _ => "bool"
  | .int _ => "int"
  | .str _ => "str"
  | .list _ => "list"
  | .tuple _ => "tuple"
  | .dict _ => "dict"
theorem tyx_of {K : PySem.W.Frag} {H : Hp} {v : V} {d : D} (h : Dp K H v d) : TyX K H v (.type (tyD d)) := by
  cases h with
  | non => exact .base .non
  | bl b => exact .base (.bl b)
  | int i => exact .base (.int i)
  | str x => exact .base (.str x)
  | lst h1 h2 =>
    rcases h1 with (h1 | ⟨o, h1⟩) | ⟨o, its, n, h1, h3, _⟩
    · exact .base (.lst h1)
    · exact .base (.frz h1)
    · exact .kList h1 h3
  | tup h1 h2 =>
    rcases h1 with (h1 | ⟨o, h1⟩) | ⟨o, its, n, h1, h3, _⟩
    · exact .base (.tup h1)
    · exact .fTuple h1
    · exact .kTuple h1 h3
section
variable {X : Cx} {G : Gm} {e a b c : Expr} {es rest : List Expr} {d x y z : D} {ds : List D} {W : Wd} {N : List Str} {sc : Scope} {k : Nat} {pos p2 p : Pos} {t u : Bool}
theorem ge_isi {T : Str} {Tn : String} {cb : Bool} (C : Cok X W N sc k) (hg : glB sc "isinstance" = true) (hm : W.mg "isinstance" = none) (hgT : glB sc T = true) (hmT : W.mg T = none) (hvT : bootBuiltins T = some (.type Tn)) (hnT : T ≠ "__name__") (ha : GH X G a d) (hk : kitB (tyD d) Tn = some cb) (he : nst a = true) :
    GE X G (.Call (.Name "isinstance" p) [a, .Name T p2] [] pos) (.bool cb) := by
  have hw := C.wd
  subst hw
  have hT : PE X (.Name T p2) (tC (.ty Tn)) := pe_bltn (v := .ty Tn) (C.gl T hgT).1 hmT hvT rfl hnT (C.gl T hgT).2
  refine ⟨fun bs B σ H S Q q => inE (pe_callB call_isi (C.gl _ hg).1 hm (by decide +kernel) (pa_cons pE (pa_cons hT pa_nil (star_cons rfl)) (star_cons he)) (by decide) (C.gl _ hg).2 (star_cons he) (star_all rfl)) (ha.run bs B σ H S _ fun v B1 H1 g1 r1 => ?_)⟩
  exact ⟨v, .ty Tn, _, _, cb, rfl, .ty Tn, tyx_of r1, kit_ty hk, q _ B1 H1 g1 (.bl _)⟩
end

/-! ### list(x), tuple(x) -/
section
variable {X : Cx} {G : Gm} {e a b c : Expr} {es rest : List Expr} {d x y z : D} {ds : List D} {W : Wd} {N : List Str} {sc : Scope} {k : Nat} {pos p2 p : Pos} {t u : Bool}
theorem go_list (C : Cok X W N sc k) (hg : glB sc "list" = true) (hm : W.mg "list" = none) (ha : GL X G e ds) (he : nst e = true) : GO X G (.Call (.Name "list" p) [e] [] pos) ds := by
  have hw := C.wd
  subst hw
  refine ⟨fun bs B σ H S Q q => inE (pe_callTy call_list_of (C.gl _ hg).1 hm (by decide +kernel) (pa_cons pE pa_nil (star_cons he)) (by decide) (C.gl _ hg).2 (star_cons he) (star_all rfl)) (ha.run bs B σ H S _ fun p vs B1 H1 g1 r1 r2 => ?_)⟩
  refine ⟨p, vs, rfl, .inl r1, fun l hl => ?_⟩
  have g : Grow B1 H1 B1 (upd H1 l (.lst vs)) := .own g1.bh hl
  exact q l vs _ _ (g1.trans g) (same_none g1.h hl) (same_none g1.bh hl) upd_same r2
theorem go_listT (C : Cok X W N sc k) (hg : glB sc "list" = true) (hm : W.mg "list" = none) (ha : GE X G e (.tuple ds)) (he : nst e = true) : GO X G (.Call (.Name "list" p) [e] [] pos) ds := by
  have hw := C.wd
  subst hw
  refine ⟨fun bs B σ H S Q q => inE (pe_callTy call_list_of (C.gl _ hg).1 hm (by decide +kernel) (pa_cons pE pa_nil (star_cons he)) (by decide) (C.gl _ hg).2 (star_cons he) (star_all rfl)) (ha.run bs B σ H S _ fun v B1 H1 g1 r1 => ?_)⟩
  obtain ⟨p, vs, rfl, h1, h2⟩ := dp_tup r1
  refine ⟨p, vs, rfl, .inr (same_sqT g1.bh h1), fun l hl => ?_⟩
  have g : Grow B1 H1 B1 (upd H1 l (.lst vs)) := .own g1.bh hl
  exact q l vs _ _ (g1.trans g) (same_none g1.h hl) (same_none g1.bh hl) upd_same h2
theorem ge_tupleL (C : Cok X W N sc k) (hg : glB sc "tuple" = true) (hm : W.mg "tuple" = none) (ha : GL X G e ds) (he : nst e = true) : GE X G (.Call (.Name "tuple" p) [e] [] pos) (.tuple ds) := by
  have hw := C.wd
  subst hw
  refine ⟨fun bs B σ H S Q q => inE (pe_callTy call_tuple_of (C.gl _ hg).1 hm (by decide +kernel) (pa_cons pE pa_nil (star_cons he)) (by decide) (C.gl _ hg).2 (star_cons he) (star_all rfl)) (ha.run bs B σ H S _ fun p vs B1 H1 g1 r1 r2 => ?_)⟩
  refine ⟨p, vs, rfl, .inl ⟨r1, fun l hl => ?_⟩⟩
  have g : Grow B1 H1 (upd B1 l (.tup vs)) (upd H1 l (.tup vs)) := .new g1.bh hl
  exact q _ _ _ (g1.trans g) (dpr upd_same (moA r2 g.b))
end
end DW

set_option Elab.async false
set_option linter.all false
set_option maxRecDepth 100000
set_option maxHeartbeats 4000000
set_option autoImplicit false
namespace DW
open PySem PySem.Spec PyProof.Rows L2

/-! ### what a def of the text promises, by data -/
inductive Rs where
  | fz (d : D)
  | ow (ds : List D)
  | ex (x : Str) (G : Gm)
abbrev Ct := List D → (Rs → Prop) → Prop
def spD (K : PySem.W.Frag) (mg : Str → Option Value) (c : Ct) : Sp := fun vs H Q E => ∃ (B : Hp) (ds : List D) (R : Rs → Prop), Same B H ∧ DpAll K B vs ds ∧ c ds R ∧ (∀ d v B' H', R (.fz d) → Grow B H B' H' → Dp K B' v d → Q v H') ∧
  (∀ es p us B' H', R (.ow es) → Grow B H B' H' → H p = none → B' p = none → H' p = some (.lst us) → DpAll K B' us es → Q (.ref p) H') ∧
  (∀ x G C B' H', R (.ex x G) → mg x = some (.ref C) → Grow B H B' H' → E (.ref C) none H')
structure Has (W : Wd) (k : Nat) (x : Str) (c : Ct) : Prop where
  ex : ∃ (f : Addr) (fd : FuncData) (ps : List Str), W.mg x = some (.ref f) ∧ PySem.W.keepIn W.K (.ref f) = true ∧ Binds W.K fd ps [] ∧ FnOk W.P W.w W.K W.mg W.base (L2.CX W.P W.w) k f fd ps (spD W.K W.mg c)
section
variable {X : Cx} {G : Gm} {e a b : Expr} {es rest : List Expr} {d x y z : D} {ds : List D} {W : Wd} {N : List Str} {sc : Scope} {k j : Nat} {pos p2 p : Pos} {nm : Str} {c : Ct}
theorem ge_call (C : Cok X W N sc k) (Hs : Has W j nm c) (hj : j ≤ k) (hg : glB sc nm = true) (ha : GA X G (e :: es) ds) (hc : ∀ R : Rs → Prop, R (.fz d) → c ds R) (he : nst e = true) (hpl : es.all nst = true) :
    GE X G (.Call (.Name nm p) (e :: es) [] pos) d := by
  obtain ⟨f, fd, ps, h1, h2, h3, h4⟩ := Hs.ex
  have hw := C.wd
  subst hw
  refine ⟨fun bs B σ H S Q q => inE (pe_call (E := E0) h4 (C.room.mono hj) (C.gl nm hg).1 h1 h2 h3 .nil passL pA (C.gl nm hg).2 (star_cons he) (star_all hpl)) (ha.run bs B σ H S _ fun vs B1 H1 g1 r1 => ?_)⟩
  refine ⟨B1, ds, fun r => r = .fz d, g1.bh, by rw [List.append_nil]; exact r1, hc _ rfl, fun d' v B' H' e' g r => ?_, (fun _ _ _ _ _ e' => by cases e'), (fun _ _ _ _ _ e' => by cases e')⟩
  cases e'
  exact q v B' H' (g1.trans g) r
theorem go_call (C : Cok X W N sc k) (Hs : Has W j nm c) (hj : j ≤ k) (hg : glB sc nm = true) (ha : GA X G (e :: es) ds) {us : List D} (hc : ∀ R : Rs → Prop, R (.ow us) → c ds R) (he : nst e = true) (hpl : es.all nst = true) :
    GO X G (.Call (.Name nm p) (e :: es) [] pos) us := by
  obtain ⟨f, fd, ps, h1, h2, h3, h4⟩ := Hs.ex
  have hw := C.wd
  subst hw
  refine ⟨fun bs B σ H S Q q => inE (pe_call (E := E0) h4 (C.room.mono hj) (C.gl nm hg).1 h1 h2 h3 .nil passL pA (C.gl nm hg).2 (star_cons he) (star_all hpl)) (ha.run bs B σ H S _ fun vs B1 H1 g1 r1 => ?_)⟩
  refine ⟨B1, ds, fun r => r = .ow us, g1.bh, by rw [List.append_nil]; exact r1, hc _ rfl, (fun _ _ _ _ e' => by cases e'), fun es' p us' B' H' e' g h0 h1 h2 r => ?_, (fun _ _ _ _ _ e' => by cases e')⟩
  cases e'
  exact q p us' B' H' (g1.trans g) (same_none g1.h h0) h1 h2 r
end

/-! ### targets -/
def Agr (ws : List Nat) (σ σ' : L2.St) : Prop := σ'.length = σ.length ∧ ∀ i, i ∉ ws → σ'[i]? = σ[i]?
theorem Agr.refl {ws : List Nat} {σ : L2.St} : Agr ws σ σ := ⟨rfl, fun _ _ => rfl⟩
theorem Agr.trans {ws : List Nat} {σ σ' σ'' : L2.St} (a : Agr ws σ σ') (b : Agr ws σ' σ'') : Agr ws σ σ'' := ⟨b.1.trans a.1, fun i h => (b.2 i h).trans (a.2 i h)⟩
theorem Agr.set {ws : List Nat} {σ : L2.St} {i : Nat} {o : Option V} (h : i ∈ ws) : Agr ws σ (σ.set i o) := ⟨List.length_set, fun j hj => List.getElem?_set_ne fun z => hj (by rw [← z]; exact h)⟩
theorem wipe_in {σ : L2.St} {i : Nat} : ∀ {vs : List Nat}, i ∈ vs → i < σ.length → (wipe σ vs)[i]? = some none
  | [], h, _ => by cases h
  | v :: vs, h, hl => by
    unfold wipe
    by_cases e : v = i
    · subst e
      rw [List.getElem?_set_self (by rw [wipe_length]; exact hl)]
    · rw [List.getElem?_set_ne e]
      rcases List.mem_cons.mp h with q | q
      · exact (e q.symm).elim
      · exact wipe_in q hl
theorem wipe_agr {ws : List Nat} {σ σ' : L2.St} (a : Agr ws σ σ') : wipe σ' ws = wipe σ ws := by
  refine List.ext_getElem? fun i => ?_
  by_cases h : i ∈ ws
  · by_cases hl : i < σ.length
    · rw [wipe_in h hl, wipe_in h (by rw [a.1]; exact hl)]
    · rw [List.getElem?_eq_none (by rw [wipe_length, a.1]; omega), List.getElem?_eq_none (by rw [wipe_length]; omega)]
  · rw [wipe_out h, wipe_out h, a.2 i h]
theorem agr_wipe {ws : List Nat} {σ : L2.St} : Agr ws σ (wipe σ ws) := ⟨wipe_length σ ws, fun i h => wipe_out h⟩
def tG (X : Cx) (tg : Expr) : TG := fun v σ H Q => ∀ (pins : List (Addr × Obj)) (s : Shared) (u : Value), Inv X pins σ H s → RelV v u → wpAny (model X.prog X.w) X.A (assign tg X.env u) (fun _ s' => ∃ σ' H', Inv X pins σ' H' s' ∧ Q σ' H') X.xe s
theorem pG {X : Cx} {tg : Expr} : PG X tg (tG X tg) := ⟨fun pins s _ _ _ u _ I r h => h pins s u I r⟩
theorem inG {X : Cx} {tg : Expr} {v : V} {σ : L2.St} {H : Hp} {t : TG} {Q : L2.St → Hp → Prop} (p : PG X tg t) (h : t v σ H Q) : tG X tg v σ H Q := fun pins s u I r => p.run pins s σ H v u Q I r h
structure GG (X : Cx) (G : Gm) (tg : Expr) (d : D) (G' : Gm) (ws : List Nat) : Prop where
  run : ∀ (bs : Bs) (B : Hp) (σ : L2.St) (H : Hp) (v : V), Sat X.K bs G B σ H → Dp X.K B v d → ∀ Q : L2.St → Hp → Prop, (∀ σ', Agr ws σ σ' → Sat X.K bs G' B σ' H → Q σ' H) → tG X tg v σ H Q
section
variable {X : Cx} {G : Gm} {d : D} {W : Wd} {N : List Str} {sc : Scope} {k : Nat} {pos p1 p2 p3 : Pos} {ws : List Nat}
theorem gg_name (C : Cok X W N sc k) (i : Nat) {x : Str} (h : okL N sc i x = true) (hw : i ∈ ws) : GG X G (.Name x pos) d (G.set i (.fz d)) ws := by
  obtain ⟨h1, h2⟩ := okL_of h
  obtain ⟨l1, l2⟩ := C.loc x h2
  exact ⟨fun bs B σ H v S r Q q => inG (pg_name (by rw [C.N]; exact C.nd) (by rw [C.N]; exact h1) l1 l2) (q _ (.set hw) (S.setF r))⟩
theorem gg_tup2 (C : Cok X W N sc k) (i j : Nat) {x y : Str} {d1 d2 : D} {n1 : Nat} (h : okL N sc i x = true) (h' : okL N sc j y = true) (hw : i ∈ ws) (hw' : j ∈ ws) :
    GG X G (.Tuple [.Name x p1, .Name y p2] n1 pos) (.tuple [d1, d2]) ((G.set i (.fz d1)).set j (.fz d2)) ws := by
  obtain ⟨h1, h2⟩ := okL_of h
  obtain ⟨l1, l2⟩ := C.loc x h2
  obtain ⟨h3, h4⟩ := okL_of h'
  obtain ⟨l3, l4⟩ := C.loc y h4
  have nd : X.N.Nodup := by
    rw [C.N]
    exact C.nd
  refine ⟨fun bs B σ H v S r Q q => inG (pg_tup C.calm (pgs_cons (pg_name (i := i) nd (by rw [C.N]; exact h1) l1 l2) (pgs_cons (pg_name (i := j) nd (by rw [C.N]; exact h3) l3 l4) pgs_nil))) ?_⟩
  obtain ⟨a, vs, rfl, q1, q2⟩ := dp_tup r
  obtain ⟨v1, v2, rfl, r1, r2⟩ := dpa_two q2
  refine ⟨a, _, rfl, same_sqT S.bh q1, rfl, v1, [v2], rfl, v2, [], rfl, rfl, ?_⟩
  exact q _ ((Agr.set hw).trans (.set hw')) ((S.setF r1).setF r2)
theorem gg_tup3 (C : Cok X W N sc k) (i j l : Nat) {x y z : Str} {d1 d2 d3 : D} {n1 : Nat} (h : okL N sc i x = true) (h' : okL N sc j y = true) (h'' : okL N sc l z = true) (hw : i ∈ ws) (hw' : j ∈ ws) (hw'' : l ∈ ws) :
    GG X G (.Tuple [.Name x p1, .Name y p2, .Name z p3] n1 pos) (.tuple [d1, d2, d3]) (((G.set i (.fz d1)).set j (.fz d2)).set l (.fz d3)) ws := by
  obtain ⟨h1, h2⟩ := okL_of h
  obtain ⟨l1, l2⟩ := C.loc x h2
  obtain ⟨h3, h4⟩ := okL_of h'
  obtain ⟨l3, l4⟩ := C.loc y h4
  obtain ⟨h5, h6⟩ := okL_of h''
  obtain ⟨l5, l6⟩ := C.loc z h6
  have nd : X.N.Nodup := by
    rw [C.N]
    exact C.nd
  refine ⟨fun bs B σ H v S r Q q => inG (pg_tup C.calm (pgs_cons (pg_name (i := i) nd (by rw [C.N]; exact h1) l1 l2) (pgs_cons (pg_name (i := j) nd (by rw [C.N]; exact h3) l3 l4) (pgs_cons (pg_name (i := l) nd (by rw [C.N]; exact h5) l5 l6) pgs_nil)))) ?_⟩
  obtain ⟨a, vs, rfl, q1, q2⟩ := dp_tup r
  cases q2 with
  | cons r1 q3 =>
    obtain ⟨v2, v3, rfl, r2, r3⟩ := dpa_two q3
    refine ⟨a, _, rfl, same_sqT S.bh q1, rfl, _, [v2, v3], rfl, v2, [v3], rfl, v3, [], rfl, rfl, ?_⟩
    exact q _ (((Agr.set hw).trans (.set hw')).trans (.set hw'')) (((S.setF r1).setF r2).setF r3)
end

/-! ### what is walked -/
def tI (X : Cx) (tg iter : Expr) : TI := fun σ H R => ∀ (pins : List (Addr × Obj)) (s : Shared), Inv X pins σ H s → wpAny (model X.prog X.w) X.A (eval iter X.env) (fun v s1 => wpAny (model X.prog X.w) X.A (pyIter v) (PIE X pins σ tg R) X.xe s1) X.xe s
theorem pI {X : Cx} {tg iter : Expr} : PI X tg iter (tI X tg iter) := ⟨fun pins s _ _ _ I h => h pins s I⟩
theorem inI {X : Cx} {tg iter : Expr} {σ : L2.St} {H : Hp} {t : TI} {R : It → Hp → Prop} (p : PI X tg iter t) (h : t σ H R) : tI X tg iter σ H R := fun pins s I => p.run pins s σ H R I h
/-- J goes through the items while F stands -/
structure Wk (K : PySem.W.Frag) (B1 F : Hp) (J : It) (items : List D) : Prop where
  stop : ∀ i H', Same F H' → items.length ≤ i → J.stop i H'
  go : ∀ i H', Same F H' → i < items.length → J.go i H'
  yld : ∀ i B' H' x H'', Same F H' → Same B1 B' → Same B' H' → i < items.length → J.yld i H' x H'' → ∃ d B'', items[i]? = some d ∧ Grow B' H' B'' H'' ∧ Dp K B'' x d
theorem Wk.weak {K : PySem.W.Frag} {B1 F F' : Hp} {J : It} {items : List D} (w : Wk K B1 F J items) (e : Same F F') : Wk K B1 F' J items :=
  ⟨fun i H' s => w.stop i H' (e.trans s), fun i H' s => w.go i H' (e.trans s), fun i B' H' x H'' s => w.yld i B' H' x H'' (e.trans s)⟩
/-- .. for a loop | for a comprehension -/
structure GI (X : Cx) (G : Gm) (tg iter : Expr) (items : List D) : Prop where
  run : ∀ (bs : Bs) (B : Hp) (σ : L2.St) (H : Hp), Sat X.K bs G B σ H → ∀ R : It → Hp → Prop, (∀ J B1 H1, Grow B H B1 H1 → Wk X.K B1 B1 J items → R J H1) → tI X tg iter σ H R
structure GIw (X : Cx) (G : Gm) (tg iter : Expr) (items : List D) : Prop where
  run : ∀ (bs : Bs) (B : Hp) (σ : L2.St) (H : Hp), Sat X.K bs G B σ H → ∀ R : It → Hp → Prop, (∀ J B1 H1, Grow B H B1 H1 → Wk X.K B1 H1 J items → R J H1) → tI X tg iter σ H R
theorem wk_list {K : PySem.W.Frag} {B1 F : Hp} {p : Addr} {vs : List V} {items : List D} (h : SqL K F p vs) (r : DpAll K B1 vs items) : Wk K B1 F (Itl K p) items := by
  have ll := dpa_len r
  refine ⟨fun i H' s hi => ⟨vs, s.seq h, by omega⟩, fun i H' s hi => ⟨vs, vs[i], s.seq h, List.getElem?_eq_getElem (by omega)⟩, fun i B' H' x H'' s1 s2 s3 hi y => ?_⟩
  obtain ⟨e, y⟩ := y
  subst e
  obtain ⟨d, e1, e2⟩ := dpa_getV r (y vs (s1.seq h))
  exact ⟨d, B', e1, .refl s3, moD e2 s2⟩
theorem wk_tup {K : PySem.W.Frag} {B1 F : Hp} {p : Addr} {vs : List V} {items : List D} (h : SqT K F p vs) (r : DpAll K B1 vs items) : Wk K B1 F (Itt K p) items := by
  have ll := dpa_len r
  refine ⟨fun i H' s hi => ⟨vs, same_sqT s h, by omega⟩, fun i H' s hi => ⟨vs, vs[i], same_sqT s h, List.getElem?_eq_getElem (by omega)⟩, fun i B' H' x H'' s1 s2 s3 hi y => ?_⟩
  obtain ⟨e, y⟩ := y
  subst e
  obtain ⟨d, e1, e2⟩ := dpa_getV r (y vs (same_sqT s1 h))
  exact ⟨d, B', e1, .refl s3, moD e2 s2⟩
/-- lo, lo + 1, .. -/
def rngL (lo : Int) (n : Nat) : List Int := (List.range n).map fun (i : Nat) => lo + (i : Int)
theorem rngL_get {lo : Int} {n i : Nat} (h : i < n) : (rngL lo n)[i]? = some (lo + (i : Int)) := by
  unfold rngL
  rw [List.getElem?_map, List.getElem?_range h]
  rfl
theorem rngL_len {lo : Int} {n : Nat} : (rngL lo n).length = n := by
  unfold rngL
  rw [List.length_map, List.length_range]
theorem wk_rng {K : PySem.W.Frag} {B1 F : Hp} {lo : Int} {n : Nat} : Wk K B1 F (Itr lo n) ((rngL lo n).map PyData.int) := by
  refine ⟨fun i H' s hi => ?_, fun i H' s hi => ?_, fun i B' H' x H'' s1 s2 s3 hi y => ?_⟩
  · rw [List.length_map, rngL_len] at hi
    exact hi
  · rw [List.length_map, rngL_len] at hi
    exact hi
  · rw [List.length_map, rngL_len] at hi
    obtain ⟨rfl, rfl⟩ := y
    exact ⟨_, B', by rw [List.getElem?_map, rngL_get hi]; rfl, .refl s3, .int _⟩
section
variable {X : Cx} {G : Gm} {tg iter e a b : Expr} {items ds : List D} {W : Wd} {N : List Str} {sc : Scope} {k : Nat} {pos p1 p2 p3 p : Pos} {ws : List Nat}
theorem GI.w (h : GI X G tg iter items) : GIw X G tg iter items := ⟨fun bs B σ H S R q => h.run bs B σ H S R fun J B1 H1 g w => q J B1 H1 g (w.weak g.bh)⟩
theorem gi_list (h : GE X G iter (.list items)) : GI X G tg iter items := ⟨fun bs B σ H S R q => inI (pi_list pE) (h.run bs B σ H S _ fun v B1 H1 g r => by
  obtain ⟨p, vs, rfl, h1, h2⟩ := dp_lst r
  exact ⟨p, rfl, ⟨vs, g.bh.seq h1⟩, q _ B1 H1 g (wk_list h1 h2)⟩)⟩
theorem gw_list (h : GL X G iter items) : GIw X G tg iter items := ⟨fun bs B σ H S R q => inI (pi_list pE) (h.run bs B σ H S _ fun p vs B1 H1 g h1 h2 => ⟨p, rfl, ⟨vs, h1⟩, q _ B1 H1 g (wk_list h1 h2)⟩)⟩
theorem gi_tup (h : GE X G iter (.tuple items)) : GI X G tg iter items := ⟨fun bs B σ H S R q => inI (pi_tup pE) (h.run bs B σ H S _ fun v B1 H1 g r => by
  obtain ⟨p, vs, rfl, h1, h2⟩ := dp_tup r
  exact ⟨p, rfl, ⟨vs, same_sqT g.bh h1⟩, q _ B1 H1 g (wk_tup h1 h2)⟩)⟩
theorem gi_rng1 {n : Int} (C : Cok X W N sc k) (hg : glB sc "range" = true) (hm : W.mg "range" = none) (ha : GE X G a (.int n)) (h1 : -(2 ^ 62) ≤ n ∧ n < 2 ^ 62) (he : nst a = true) :
    GI X G tg (.Call (.Name "range" p) [a] [] pos) ((rngL 0 n.toNat).map PyData.int) := by
  have hw := C.wd
  subst hw
  refine ⟨fun bs B σ H S R q => inI (pi_range1 (C.gl _ hg).1 hm (pa_cons pE pa_nil (star_cons he)) (star_cons he)) (ha.run bs B σ H S _ fun v B1 H1 g r => ?_)⟩
  exact ⟨n, by rw [dp_int r], h1.1, h1.2, q _ B1 H1 g wk_rng⟩
theorem gi_rng2 {lo n : Int} (C : Cok X W N sc k) (hg : glB sc "range" = true) (hm : W.mg "range" = none) (ha : GE X G a (.int lo)) (hb : GE X G b (.int n)) (h1 : -(2 ^ 62) ≤ lo ∧ lo < 2 ^ 62 ∧ -(2 ^ 62) ≤ n ∧ n < 2 ^ 62) (he : nst a = true) (he2 : nst b = true) :
    GI X G tg (.Call (.Name "range" p) [a, b] [] pos) ((rngL lo (n - lo).toNat).map PyData.int) := by
  have hw := C.wd
  subst hw
  refine ⟨fun bs B σ H S R q => inI (pi_range2 (C.gl _ hg).1 hm (pa_cons pE (pa_cons pE pa_nil (star_cons he2)) (star_cons he)) (by rw [star_cons he, star_cons he2]; rfl) (star_cons he2)) (ha.run bs B σ H S _ fun v B1 H1 g r => hb.run bs B1 σ H1 (S.gro g) _ fun w B2 H2 g2 r2 => ?_)⟩
  exact ⟨lo, n, by rw [dp_int r, dp_int r2], h1, q _ B2 H2 (g.trans g2) wk_rng⟩
end

/-! ### comprehensions -/
theorem lookup_free {env : Env} : ∀ {names : List (Str × NameKind)} {x : Str}, names.lookup x = some .free →
    (names.map fun (n, k) => if (k == NameKind.free && env.scope.kind == .function && env.kindOf n == some .cell) then (n, NameKind.cell) else (n, k)).lookup x = some .cell ∨
    (names.map fun (n, k) => if (k == NameKind.free && env.scope.kind == .function && env.kindOf n == some .cell) then (n, NameKind.cell) else (n, k)).lookup x = some .free
  | [], _, h => by simp at h
  | (n, k) :: r, x, h => by
    have ih := @lookup_free env r x
    show List.lookup x ((if (k == NameKind.free && env.scope.kind == .function && env.kindOf n == some .cell) = true then (n, NameKind.cell) else (n, k)) :: _) = _ ∨ List.lookup x ((if (k == NameKind.free && env.scope.kind == .function && env.kindOf n == some .cell) = true then (n, NameKind.cell) else (n, k)) :: _) = _
    cases hx : x == n with
    | true =>
      simp only [List.lookup_cons, hx] at h
      cases h
      by_cases hc : (NameKind.free == NameKind.free && env.scope.kind == .function && env.kindOf n == some .cell) = true
      · rw [if_pos hc]
        simp only [List.lookup_cons, hx]
        exact .inl trivial
      · rw [if_neg hc]
        simp only [List.lookup_cons, hx]
        exact .inr trivial
    | false =>
      simp only [List.lookup_cons, hx] at h
      by_cases hc : (k == NameKind.free && env.scope.kind == .function && env.kindOf n == some .cell) = true
      · rw [if_pos hc]
        simp only [List.lookup_cons, hx]
        exact ih h
      · rw [if_neg hc]
        simp only [List.lookup_cons, hx]
        exact ih h
theorem cok_blk {X : Cx} {W : Wd} {N : List Str} {sc scope : Scope} {k : Nat} (C : Cok X W N sc k) {s : Shared} {H : Hp} {cl : List (Str × Addr)} {Cc : Addr} {fp : List Addr} : Cok (X.blk s H scope (compEnvC scope cl Cc X.env) fp) W N scope k := by
  have hl : ∀ x q, (q == NameKind.free) = false → scope.names.lookup x = some q → (compEnvC scope cl Cc X.env).scope.names.lookup x = some q := fun x q h0 h => PySem.oc_lookup_relabel h0 h
  have hf : ∀ x, scope.names.lookup x = some .free → (compEnvC scope cl Cc X.env).scope.names.lookup x = some .cell ∨ (compEnvC scope cl Cc X.env).scope.names.lookup x = some .free := fun x h => lookup_free h
  have bkblk : scope.kind = .function → (compEnvC scope cl Cc X.env).blockKind = .function := fun h => by
    show (if scope.kind.isAnnotationScope then _ else scope.kind) = _
    rw [h]
    rfl
  refine ⟨⟨C.wd, C.nd, C.N, fun x h => ?_, fun x h => ?_, fun x h => ?_, fun x h => ?_, fun x h => ?_, bkblk⟩, C.calm, C.room, .never⟩
  · rcases visB_of h with q | q | q
    · exact .inl (hl x _ rfl q)
    · exact .inr (.inl (hl x _ rfl q))
    · rcases hf x q with q | q
      · exact .inr (.inl q)
      · exact .inr (.inr q)
  · rcases locB_of h with q | q
    · exact ⟨.inl (hl x _ rfl q), .inr (hl x _ rfl q)⟩
    · refine ⟨.inr (hl x _ rfl q), .inl ?_⟩
      show (scope.names.lookup x == some .cell) = true
      rw [q]
      rfl
  · exact hl x _ rfl (loc1B_of h)
  · exact ⟨hl x _ rfl (glB_of h).1, (glB_of h).2⟩
  · rcases h with q | q
    · exact .inl (hl x _ rfl q)
    · exact hf x q
def wipeG (G : Gm) : List Nat → Gm
  | [] => G
  | v :: vs => (wipeG G vs).set v .no
theorem Sat.wipe {K : PySem.W.Frag} {bs : Bs} {G : Gm} {B H : Hp} {σ : L2.St} (S : Sat K bs G B σ H) : ∀ vs : List Nat, Sat K bs (wipeG G vs) B (L2.wipe σ vs) H
  | [] => S
  | v :: vs => (Sat.wipe S vs).setN
def tQ (X : Cx) (ifs : List Expr) : TT := fun σ H Q => ∀ (pins : List (Addr × Obj)) (s : Shared), Inv X pins σ H s →
  wpAny (model X.prog X.w) X.A (forIn ifs true fun c r => if r = true then do let ok ← isTrue c X.env (eval c X.env); pure (ForInStep.yield ok) else pure (ForInStep.yield r)) (TP X pins σ Q) X.xe s
theorem pQ {X : Cx} {ifs : List Expr} : PTs X ifs (tQ X ifs) := ⟨fun pins s _ _ _ I h => h pins s I⟩
theorem inQ {X : Cx} {ifs : List Expr} {σ : L2.St} {H : Hp} {t : TT} {Q : Bool → Hp → Prop} (p : PTs X ifs t) (h : t σ H Q) : tQ X ifs σ H Q := fun pins s I => p.run pins s σ H Q I h
structure GTs (X : Cx) (G : Gm) (ifs : List Expr) (b : Bool) : Prop where
  run : ∀ (bs : Bs) (B : Hp) (σ : L2.St) (H : Hp), Sat X.K bs G B σ H → ∀ Q : Bool → Hp → Prop, (∀ B' H', Grow B H B' H' → Q b H') → tQ X ifs σ H Q
section
variable {X : Cx} {G : Gm} {tg iter elt e a b : Expr} {items ds : List D} {W : Wd} {N : List Str} {sc scope : Scope} {k : Nat} {pos p1 p2 p3 p : Pos} {ws : List Nat} {ifs : List Expr}
theorem gts_nil : GTs X G [] true := ⟨fun bs B σ H S Q q => inQ pts_nil (q B H (.refl S.bh))⟩
theorem gts_one {t : Bool} (h : GT X G e t) : GTs X G [e] t := ⟨fun bs B σ H S Q q => inQ (pts_one pT) (h.run bs B σ H S Q q)⟩
def gBc (X : Cx) (scope : Scope) (tg : Expr) : TG := fun v σ H Q => ∀ (s0 : Shared) (H0 : Hp) (Cc : Addr) (cl : List (Str × Addr)) (fp : List Addr), tG (X.blk s0 H0 scope (compEnvC scope cl Cc X.env) fp) tg v σ H Q
def tBc (X : Cx) (scope : Scope) (ifs : List Expr) : TT := fun σ H Q => ∀ (s0 : Shared) (H0 : Hp) (Cc : Addr) (cl : List (Str × Addr)) (fp : List Addr), tQ (X.blk s0 H0 scope (compEnvC scope cl Cc X.env) fp) ifs σ H Q
def eBc (X : Cx) (scope : Scope) (elt : Expr) : TE := fun σ H Q => ∀ (s0 : Shared) (H0 : Hp) (Cc : Addr) (cl : List (Str × Addr)) (fp : List Addr), tE (X.blk s0 H0 scope (compEnvC scope cl Cc X.env) fp) elt σ H Q
theorem lc_run {α : Type} {xs : List α} {en : α → D} {bt : α → Bool} {g : α → D} {G1 : α → Gm} (C : Cok X W N sc k) (own : List (Str × Nat)) (ok : blkC N sc scope own = true) (hi : GIw X G tg iter (xs.map en)) (hz : xs.length ≤ 16777216)
    (hg : ∀ X', Cok X' W N scope k → ∀ x ∈ xs, GG X' (wipeG G (own.map (·.2))) tg (en x) (G1 x) (own.map (·.2)))
    (ht : ∀ X', Cok X' W N scope k → ∀ x ∈ xs, GTs X' (G1 x) ifs (bt x))
    (he : ∀ X', Cok X' W N scope k → ∀ x ∈ xs, bt x = true → GE X' (G1 x) elt (g x))
    (bs : Bs) (B : Hp) (σ : L2.St) (H : Hp) (S : Sat X.K bs G B σ H) (Q : V → Hp → Prop) (q : ∀ (p : Addr) (vs : List V) (B1 H1 : Hp), Grow B H B1 H1 → H p = none → B1 p = none → H1 p = some (.lst vs) → DpAll X.K B1 vs ((xs.filter bt).map g) → Q (.ref p) H1) :
    tLc (tI X tg iter) (gBc X scope tg) (tBc X scope ifs) (eBc X scope elt) (own.map (·.2)) σ H Q := by
  refine hi.run bs B σ H S _ fun J B1 H1 g1 wk => fun L hL => ?_
  have S1 := (S.gro g1).wipe (own.map (·.2))
  have BL : B1 L = none := same_none g1.bh hL
  let Pv : Nat → Hp → Prop := fun i H' => ∃ B' us, Grow B1 H1 B' H' ∧ B' L = none ∧ H' L = some (.lst us) ∧ DpAll X.K B' us (((xs.take i).filter bt).map g)
  refine ⟨fun i m H' => m = xs.length - i ∧ i ≤ xs.length ∧ Pv i H', ⟨xs.length, by simp, Nat.zero_le _, B1, [], .own g1.bh hL, BL, upd_same, .nil⟩, ?_⟩
  rintro i m H' ⟨rfl, hile, B', us, g2, b2, h2, r2⟩
  by_cases hlt : i < xs.length
  · refine .inr ⟨wk.go i H' g2.h (by rw [List.length_map]; exact hlt), Pv (i + 1), fun H'' p' => ⟨xs.length - (i + 1), by omega, rfl, hlt, p'⟩, fun x H'' y => ?_⟩
    obtain ⟨d, B'', e1, g3, r3⟩ := wk.yld i B' H' x H'' g2.h g2.b g2.bh (by rw [List.length_map]; exact hlt) y
    rw [List.getElem?_map, List.getElem?_eq_getElem hlt] at e1
    cases e1
    have hmem : xs[i] ∈ xs := List.getElem_mem hlt
    have S3 := S1.gro (g2.trans g3)
    have b3 : B'' L = none := g3.n L (by rw [h2]; simp) b2
    have h3 : H'' L = some (.lst us) := g3.h L _ h2
    have take1 : xs.take (i + 1) = xs.take i ++ [xs[i]] := by rw [List.take_add_one, List.getElem?_eq_getElem hlt]; rfl
    intro s0 H0 Cc cl fp
    refine (hg (X.blk s0 H0 scope (compEnvC scope cl Cc X.env) fp) (cok_blk C) _ hmem).run bs B'' _ H'' x S3 r3 _ fun σ' ag S4 => ?_
    refine ⟨(wipe_agr ag).trans (wipe_agr agr_wipe), ?_⟩
    intro s1 H1' Cc1 cl1 fp1
    refine (ht (X.blk s1 H1' scope (compEnvC scope cl1 Cc1 X.env) fp1) (cok_blk C) _ hmem).run bs B'' σ' H'' S4 _ fun B4 H4 g4 => ?_
    have b4 : B4 L = none := g4.n L (by rw [h3]; simp) b3
    have h4 : H4 L = some (.lst us) := g4.h L _ h3
    have r4 := moA (moA r2 g3.b) g4.b
    have cond : ∀ c, bt xs[i] = c → (if c = true then eBc X scope elt σ' H4 (fun y H4' => ∃ acc, H4' L = some (.lst acc) ∧ acc.length < sizeLine ∧ Pv (i + 1) (upd H4' L (.lst (acc ++ [y])))) else Pv (i + 1) H4) := fun c hc => by
      cases c with
      | true =>
        rw [if_pos rfl]
        intro s2 H2' Cc2 cl2 fp2
        refine (he (X.blk s2 H2' scope (compEnvC scope cl2 Cc2 X.env) fp2) (cok_blk C) _ hmem hc).run bs B4 σ' H4 (S4.gro g4) _ fun y B5 H5 g5 r5 => ?_
        have b5 : B5 L = none := g5.n L (by rw [h4]; simp) b4
        have h5 : H5 L = some (.lst us) := g5.h L _ h4
        have lus := dpa_len r4
        rw [List.length_map] at lus
        have lf := List.length_filter_le bt (xs.take i)
        rw [List.length_take] at lf
        have gA := (((g2.trans g3).trans g4).trans g5)
        refine ⟨us, h5, by rw [sizeLine_eq]; omega, B5, us ++ [y], ⟨gA.b, fun b o z => ?_, same_out g5.bh b5, gA.n⟩, b5, upd_same, ?_⟩
        · rw [upd_ne (ne_of_none z hL)]
          exact gA.h b o z
        · rw [take1, List.filter_append, List.map_append, List.filter_cons, if_pos hc]
          exact dpa_app (moA r4 g5.b) (.cons r5 .nil)
      | false =>
        rw [if_neg Bool.false_ne_true]
        refine ⟨B4, us, (g2.trans g3).trans g4, b4, h4, ?_⟩
        rw [take1, List.filter_append, List.map_append, List.filter_cons, if_neg (by rw [hc]; decide)]
        show DpAll X.K B4 us (_ ++ [])
        rw [List.append_nil]
        exact r4
    exact cond _ rfl
  · have e : i = xs.length := by omega
    subst e
    rw [List.take_length] at r2
    exact .inl ⟨wk.stop _ H' g2.h (by rw [List.length_map]; exact Nat.le_refl _), q L us B' H' (g1.trans g2) (same_none g1.h hL) b2 h2 r2⟩
theorem lc_blk (C : Cok X W N sc k) (own : List (Str × Nat)) (ok : blkC N sc scope own = true) : BlkOk X.N X.env.scope scope own ∧ X.N.Nodup := by
  have okB : BlkOk X.N X.env.scope scope own := by
    have o := blkOk_by ok
    rw [C.N]
    exact ⟨o.kind, o.uniq, o.ix, fun y hy e => C.fr y.1 (o.free y hy e), o.own⟩
  exact ⟨okB, by rw [C.N]; exact C.nd⟩
/-- [elt for tg in iter if ..] -/
theorem go_lc {α : Type} {xs : List α} {en : α → D} {bt : α → Bool} {g : α → D} {G1 : α → Gm} (C : Cok X W N sc k) (own : List (Str × Nat)) (ok : blkC N sc scope own = true) (hi : GIw X G tg iter (xs.map en)) (hz : xs.length ≤ 16777216)
    (hg : ∀ X', Cok X' W N scope k → ∀ x ∈ xs, GG X' (wipeG G (own.map (·.2))) tg (en x) (G1 x) (own.map (·.2)))
    (ht : ∀ X', Cok X' W N scope k → ∀ x ∈ xs, GTs X' (G1 x) ifs (bt x))
    (he : ∀ X', Cok X' W N scope k → ∀ x ∈ xs, bt x = true → GE X' (G1 x) elt (g x))
    (hs : ∀ x, foldedSetIterable iter X.env x = pure x) : GO X G (.ListComp elt [⟨tg, iter, ifs, 0⟩] scope pos) ((xs.filter bt).map g) := by
  obtain ⟨okB, nd⟩ := lc_blk C own ok
  exact ⟨fun bs B σ H S Q q => inE (pe_lc (g := gBc X scope tg) (tt := tBc X scope ifs) (te := eBc X scope elt) C.calm nd pI okB (fun s0 H0 Cc cl fp => ⟨fun pins s _ _ _ u _ I r h => h s0 H0 Cc cl fp pins s u I r⟩) (fun s0 H0 Cc cl fp => ⟨fun pins s _ _ _ I h => h s0 H0 Cc cl fp pins s I⟩)
    (fun s0 H0 Cc cl fp => ⟨fun pins s _ _ _ I h => h s0 H0 Cc cl fp pins s I⟩) hs) (lc_run C own ok hi hz hg ht he bs B σ H S Q q)⟩
end
end DW

set_option Elab.async false
set_option linter.all false
set_option maxRecDepth 100000
set_option maxHeartbeats 4000000
set_option autoImplicit false
namespace DW
open PySem PySem.Spec PyProof.Rows L2

/-! ### extend by any list -/
theorem list_extendW (l : Addr) (items : Array Value) (n : Nat) (b : Addr) (items2 : Array Value) (n2 : Nat) (dd2 : Option Addr) (sl2 : Array (Option Value)) (hc0 : ¬(!items.isEmpty && Builtin.List.listTooLong (items.size + items2.size)) = true) (hc1 : items.size ≤ sizeLine) (hs2 : items.size + items2.size ≤ sizeLine + 1) :
    Meets (Builtin.«list.extend» ⟨[.ref l, .ref b], []⟩) (fun _ R s => s.heap.get? l = some { cls := .type "list", dict := none, data := .seq items n, slots := #[] } ∧ s.heap.get? b = some { cls := .type "list", dict := dd2, data := .seq items2 n2, slots := sl2 } ∧ R (.ok (.ret Value.none)) { s with heap := s.heap.update l (Obj.mapSeq fun x => x ++ items2), toks := s.toks }) :=
  .of_wp fun prog w A R s h => by
    obtain ⟨hp, g, d, tk, os⟩ := s; obtain ⟨hl, hb, h⟩ := h; have f1 := AutoSeq1.idx_int; have f2 := AutoSeq1.sub_tuple_tuple; have f3 := AutoSeq1.sub_list_list; have f4 := AutoSeq1.sub_tuple_list; have f5 := AutoSeq1.sub_list_tuple;
    have hz' : (items ++ items2).size ≤ sizeLine + 1 := by rw [Array.size_append]; exact hs2
    wp_walk using (wpAny_updateSeq hl rfl (hz := hc1) (_hz' := hz')), wpAny_loadPart' hl, wpAny_loadPart' hb; exact ⟨_, rfl, h⟩
def rExtW (K : PySem.W.Frag) : V → List V → Hp → VK → Prop := fun x vs H Q => ∃ l b xs zs, x = .ref l ∧ vs = [.ref b] ∧ H l = some (.lst xs) ∧ SqL K H b zs ∧ xs.length + zs.length ≤ sizeLine ∧ Q .non (upd H l (.lst (xs ++ zs)))
theorem mt_extW {X : Cx} : MtM X "list.extend" (rExtW X.K) := by
  intro pins s σ H x vs v us Q I rx rv h
  obtain ⟨l, b, xs, zs, rfl, rfl, hH, hB, hz, q⟩ := h
  cases rx
  obtain ⟨u, rfl, ru⟩ := rv.one
  cases ru
  obtain ⟨z, its, n, r, hl, e⟩ := I.lstM hH
  obtain ⟨its2, r2, pl2, _⟩ := I.list hB
  have hl2 := r2.length
  obtain ⟨⟨cls2, dd2, data2, sl2⟩, ho2, hc2, n2, hd2⟩ := id pl2.isList
  simp only at hc2 hd2
  subst hc2 hd2
  have hsz : its.toArray.size + its2.toArray.size ≤ sizeLine := by rw [List.size_toArray, List.size_toArray]; omega
  have hlong : ¬ (!its.toArray.isEmpty && Builtin.List.listTooLong (its.toArray.size + its2.toArray.size)) = true := by
    rw [notLongL hsz, Bool.and_false]
    exact Bool.false_ne_true
  refine call_meets F.slot_list_extend ⟨_, e, rfl⟩ F.entry_list_extend (F.args_list_extend_2 _ _)
    (list_extendW l its.toArray n b its2.toArray n2 dd2 sl2 hlong (by rw [List.size_toArray]; omega) (by omega)) ⟨e, ho2, ?_⟩
  refine ⟨.non, _, I.lset (its' := its ++ its2) hH e (by simp) (r.append r2) ?_, rfl, q⟩
  rw [List.length_append]
  omega

/-! ### statements -/
structure DE where
  nx : Gm → Prop
  rt : Rs → Prop
  bk : Gm → Prop := fun _ => False
  ct : Gm → Prop := fun _ => False
/-- what is wished of exceptions -/
structure XM (X : Cx) (bs : Bs) (rt : Rs → Prop) : Prop where
  top : X.stack = X.env :: X.outer ∧ X.env.frame = some X.env.locals
  xe : ∃ Wx : WX, Takes X Wx ∧ ∀ x C G B σ H, rt (.ex x G) → X.mg x = some (.ref C) → Sat X.K bs G B σ H → Wx (.ref C) none σ H
structure DM (X : Cx) (K : PySem.W.Frag) (bs : Bs) (E : DE) (De : Ends) : Prop where
  nx : ∀ G B σ H, E.nx G → Sat K bs G B σ H → De.nx σ H
  rf : ∀ d v B H, E.rt (.fz d) → Grow bs.B bs.H B H → Dp K B v d → De.rt v H
  ro : ∀ ds p us B H, E.rt (.ow ds) → Grow bs.B bs.H B H → bs.H p = none → B p = none → H p = some (.lst us) → DpAll K B us ds → De.rt (.ref p) H
  bk : ∀ G B σ H, E.bk G → Sat K bs G B σ H → De.bk σ H
  ct : ∀ G B σ H, E.ct G → Sat K bs G B σ H → De.ct σ H
  xm : XM X bs E.rt
structure GS (X : Cx) (G : Gm) (st : Stmt) (E : DE) : Prop where
  run : ∀ (bs : Bs) (B : Hp) (σ : L2.St) (H : Hp), Sat X.K bs G B σ H → ∀ De : Ends, DM X X.K bs E De → tS X st De σ H
structure GSs (X : Cx) (G : Gm) (sts : List Stmt) (E : DE) : Prop where
  run : ∀ (bs : Bs) (B : Hp) (σ : L2.St) (H : Hp), Sat X.K bs G B σ H → ∀ De : Ends, DM X X.K bs E De → tB1 X sts De σ H
section
variable {X : Cx} {G : Gm} {tg iter elt e a b : Expr} {items ds us : List D} {d : D} {W : Wd} {N : List Str} {sc scope : Scope} {k : Nat} {pos p1 p2 p3 p : Pos} {ws : List Nat} {ifs : List Expr} {st : Stmt} {sts : List Stmt} {E : DE} {i : Nat} {x : Str}
theorem gs_nil (h : E.nx G) : GSs X G [] E := ⟨fun bs B σ H S De m => inB pss_nil (m.nx G B σ H h S)⟩
theorem gs_cons (h : GS X G st ⟨fun G' => GSs X G' sts E, E.rt, E.bk, E.ct⟩) : GSs X G (st :: sts) E :=
  ⟨fun bs B σ H S De m => inB (pss_cons pS pB) (h.run bs B σ H S _ ⟨fun G' B' σ' H' g S' => g.run bs B' σ' H' S' De m, m.rf, m.ro, m.bk, m.ct, m.xm⟩)⟩
/-- one's own list at slot i is settled -/
theorem gs_settle (i : Nat) (hi : G[i]? = some (.ow ds)) (h : GSs X (G.set i (.fz (.list ds))) sts E) : GSs X G sts E :=
  ⟨fun bs B σ H S De m => by
    obtain ⟨B', e, S'⟩ := S.settle hi
    exact h.run bs B' σ H S' De m⟩
theorem gs_forget (i : Nat) (h : GSs X (G.set i .no) sts E) : GSs X G sts E := ⟨fun bs B σ H S De m => h.run bs B σ H S.forget De m⟩
theorem gs_asg (C : Cok X W N sc k) (i : Nat) (h : okL N sc i x = true) (he : GE X G e d) (hn : E.nx (G.set i (.fz d))) (hs : swapsWith e (some (.Name x p1)) pos.line X.env = pure false) : GS X G (.Assign [.Name x p1] e pos) E := by
  obtain ⟨h1, h2⟩ := okL_of h
  obtain ⟨l1, l2⟩ := C.loc x h2
  exact ⟨fun bs B σ H S De m => inS (ps_set (by rw [C.N]; exact C.nd) (by rw [C.N]; exact h1) l1 pE hs l2) (he.run bs B σ H S _ fun v B1 H1 g r => m.nx _ B1 _ H1 hn ((S.gro g).setF r))⟩
theorem gs_asgO (C : Cok X W N sc k) (i : Nat) (h : okL N sc i x = true) (he : GO X G e ds) (hn : E.nx (G.set i (.ow ds))) (hs : swapsWith e (some (.Name x p1)) pos.line X.env = pure false) : GS X G (.Assign [.Name x p1] e pos) E := by
  obtain ⟨h1, h2⟩ := okL_of h
  obtain ⟨l1, l2⟩ := C.loc x h2
  exact ⟨fun bs B σ H S De m => inS (ps_set (by rw [C.N]; exact C.nd) (by rw [C.N]; exact h1) l1 pE hs l2) (he.run bs B σ H S _ fun q vs B1 H1 g q0 q1 q2 r =>
    m.nx _ B1 _ H1 hn (S.setO g q0 rfl ⟨q, vs, rfl, same_none S.gr.h q0, q1, q2, r⟩))⟩
theorem GSs.is {G G' : Gm} {sts : List Stmt} {E : DE} (h : GSs X G sts E) (e : G' = G) : GSs X G' sts E := e ▸ h
theorem sw_trueB {elt : Expr} {gs : List Comprehension} {scope : Scope} {pos py : Pos} {y : Str} {l : Nat} {env : Env} (hb : env.blockKind = .function) (hy : env.scope.names.lookup y = some .local) (hl : (py.line == pos.line) = true)
    (ha : (scope.names.any fun (n, k) => n == y && (k == .local || k == .cell)) = false) : swapsWith (.ListComp elt gs scope pos) (some (.Name y py)) l env = pure true := by
  have ky : env.kindOf y = some .local := hy
  unfold swapsWith
  simp only [hb, ky, ha, Expr.pos, hl]
  rfl
/-- name = [..] on one line -/
theorem gs_asgLc {α : Type} {xs : List α} {en : α → D} {bt : α → Bool} {g : α → D} {G1 : α → Gm} {elt iter : Expr} {scope : Scope} {ifs : List Expr} (C : Cok X W N sc k) (i : Nat) (own : List (Str × Nat)) (h : okL N sc i x = true) (h1l : loc1B sc x = true) (hk : sc.kind = .function) (ok : blkC N sc scope own = true) (hi : GIw X G tg iter (xs.map en)) (hz : xs.length ≤ 16777216)
    (hg : ∀ X', Cok X' W N scope k → ∀ x ∈ xs, GG X' (wipeG G (own.map (·.2))) tg (en x) (G1 x) (own.map (·.2)))
    (ht : ∀ X', Cok X' W N scope k → ∀ x ∈ xs, GTs X' (G1 x) ifs (bt x))
    (he : ∀ X', Cok X' W N scope k → ∀ x ∈ xs, bt x = true → GE X' (G1 x) elt (g x))
    (hn : E.nx (G.set i (.ow ((xs.filter bt).map g)))) (hl : (p1.line == p2.line) = true) (ha : (scope.names.any fun (n, k) => n == x && (k == .local || k == .cell)) = false)
    (hs : ∀ x, foldedSetIterable iter X.env x = pure x) : GS X G (.Assign [.Name x p1] (.ListComp elt [⟨tg, iter, ifs, 0⟩] scope p2) pos) E := by
  obtain ⟨okB, nd⟩ := lc_blk C own ok
  obtain ⟨h1, h2⟩ := okL_of h
  exact ⟨fun bs B σ H S De m => inS (ps_setLc (g := gBc X scope tg) (tt := tBc X scope ifs) (te := eBc X scope elt) C.calm nd (by rw [C.N]; exact h1) (C.loc1 x h1l) (sw_trueB (C.bk hk) (C.loc1 x h1l) hl ha) pI okB (fun s0 H0 Cc cl fp => ⟨fun pins s _ _ _ u _ I r h => h s0 H0 Cc cl fp pins s u I r⟩) (fun s0 H0 Cc cl fp => ⟨fun pins s _ _ _ I h => h s0 H0 Cc cl fp pins s I⟩)
    (fun s0 H0 Cc cl fp => ⟨fun pins s _ _ _ I h => h s0 H0 Cc cl fp pins s I⟩) hs) (lc_run C own ok hi hz hg ht he bs B σ H S _ fun q vs B1 H1 g q0 b0 q1 r =>
    m.nx _ B1 _ H1 hn (S.setO g q0 rfl ⟨q, vs, rfl, same_none S.gr.h q0, b0, q1, r⟩))⟩
theorem gs_if {c : Expr} {t : Bool} {A1 A2 : List Stmt} (hc : GT X G c t) (h1 : t = true → GSs X G A1 E) (h2 : t = false → GSs X G A2 E) : GS X G (.If c A1 A2 pos) E :=
  ⟨fun bs B σ H S De m => inS (ps_if pT pB pB) (hc.run bs B σ H S _ fun B1 H1 g => by
    cases t with
    | true => exact iteT ((h1 rfl).run bs B1 σ H1 (S.gro g) De m)
    | false => exact iteF ((h2 rfl).run bs B1 σ H1 (S.gro g) De m))⟩
theorem gs_ret (he : GE X G e d) (h : E.rt (.fz d)) : GS X G (.Return (some e) pos) E := ⟨fun bs B σ H S De m => inS (ps_ret pE) (he.run bs B σ H S _ fun v B1 H1 g r => m.rf d v B1 H1 h (S.gr.trans g) r)⟩
theorem gs_retO (he : GO X G e ds) (h : E.rt (.ow ds)) : GS X G (.Return (some e) pos) E := ⟨fun bs B σ H S De m => inS (ps_ret pE) (he.run bs B σ H S _ fun q vs B1 H1 g q0 q1 q2 r => m.ro ds q vs B1 H1 h (S.gr.trans g) (same_none S.gr.h q0) q1 q2 r)⟩
theorem gs_retV (C : Cok X W N sc k) (i : Nat) (h : okV N sc i x = true) (hG : G[i]? = some (.ow ds)) (hr : E.rt (.ow ds)) : GS X G (.Return (some (.Name x p1)) pos) E := by
  obtain ⟨h1, h2, h3, h4⟩ := okV_of h
  refine ⟨fun bs B σ H S De m => inS (ps_ret (pe_var (i := i) (by rw [C.N]; exact h1) (C.vis x h2) h3 h4)) ?_⟩
  obtain ⟨q, vs, e, r0, r1, r2, r3⟩ := S.ow hG
  exact ⟨_, e, m.ro ds q vs B H hr S.gr r0 r1 r2 r3⟩
theorem gs_retN (h : E.rt (.fz .none)) : GS X G (.Return none pos) E := ⟨fun bs B σ H S De m => inS ps_retN (m.rf .none .non B H h S.gr .non)⟩
theorem gs_pass (h : E.nx G) : GS X G (.Pass pos) E := ⟨fun bs B σ H S De m => inS ps_pass (m.nx G B σ H h S)⟩
theorem gs_brk (h : E.bk G) : GS X G (.Break pos) E := ⟨fun bs B σ H S De m => inS ps_break (m.bk G B σ H h S)⟩
theorem gs_cnt (h : E.ct G) : GS X G (.Continue pos) E := ⟨fun bs B σ H S De m => inS ps_continue (m.ct G B σ H h S)⟩
theorem gs_drop (he : GE X G e d) (h : E.nx G) (hs : swapsWith e none pos.line X.env = pure false) : GS X G (.Expr e pos) E :=
  ⟨fun bs B σ H S De m => inS (ps_expr pE hs) (he.run bs B σ H S _ fun v B1 H1 g r => m.nx G B1 σ H1 h (S.gro g))⟩
/-- x.append(e) -/
theorem gs_app (C : Cok X W N sc k) (i : Nat) (h : okV N sc i x = true) (hG : G[i]? = some (.ow ds)) (he : GE X G e d) (hz : ds.length < 16777216) (hn : E.nx (G.set i (.ow (ds ++ [d]))))
    (hb : attributeBase (.Name x p1) "append" X.env (eval (.Name x p1) X.env) = eval (.Name x p1) X.env) (hl : (p2.endLine == p3.line) = true) (hst : nst e = true)
    (hfew : ((backTo p3 (starEach [e] X.env)).all (fun x => !x.1) && (backToKw p3 (keywordEach [] X.env)).all (fun x => x.1.isSome) && decide (([e] : List Expr).length + ([] : List Keyword).length + (if ([] : List Keyword).isEmpty then 0 else 1) < 30)) = true)
    (hs : swapsWith (.Call (.Attribute (.Name x p1) "append" p2) [e] [] p3) none pos.line X.env = pure false) : GS X G (.Expr (.Call (.Attribute (.Name x p1) "append" p2) [e] [] p3) pos) E := by
  obtain ⟨h1, h2, h3, h4⟩ := okV_of h
  refine ⟨fun bs B σ H S De m => inS (ps_expr (pe_bm PySem.F.plainAttrs_list PySem.F.slot_list_append PySem.F.type_list_append mt_append (pe_var (i := i) (by rw [C.N]; exact h1) (C.vis x h2) h3 h4) (pa_cons pE pa_nil (star_cons hst)) hb hfew hl (star_cons hst) (star_all rfl)) hs) ?_⟩
  obtain ⟨q, vs, e1, r0, r1, r2, r3⟩ := S.ow hG
  refine ⟨_, e1, .inl ⟨rfl, vs, .inl (.inl r2)⟩, ?_⟩
  refine he.run bs B σ H S _ fun v B1 H1 g r => ?_
  have S1 := S.gro g
  have l1 := dpa_len r3
  exact ⟨q, vs, v, rfl, rfl, g.h q _ r2, by rw [sizeLine_eq]; omega, m.nx _ B1 σ _ hn (S1.mutL hG e1 (dpa_app (moA r3 g.b) (.cons r .nil)))⟩
/-- x.extend(e) -/
theorem gs_ext (C : Cok X W N sc k) (i : Nat) (h : okV N sc i x = true) (hG : G[i]? = some (.ow ds)) (he : GL X G e us) (hz : ds.length + us.length ≤ 16777216) (hn : E.nx (G.set i (.ow (ds ++ us))))
    (hb : attributeBase (.Name x p1) "extend" X.env (eval (.Name x p1) X.env) = eval (.Name x p1) X.env) (hl : (p2.endLine == p3.line) = true) (hst : nst e = true)
    (hfew : ((backTo p3 (starEach [e] X.env)).all (fun x => !x.1) && (backToKw p3 (keywordEach [] X.env)).all (fun x => x.1.isSome) && decide (([e] : List Expr).length + ([] : List Keyword).length + (if ([] : List Keyword).isEmpty then 0 else 1) < 30)) = true)
    (hs : swapsWith (.Call (.Attribute (.Name x p1) "extend" p2) [e] [] p3) none pos.line X.env = pure false) : GS X G (.Expr (.Call (.Attribute (.Name x p1) "extend" p2) [e] [] p3) pos) E := by
  obtain ⟨h1, h2, h3, h4⟩ := okV_of h
  refine ⟨fun bs B σ H S De m => inS (ps_expr (pe_bm PySem.F.plainAttrs_list PySem.F.slot_list_extend PySem.F.type_list_extend mt_extW (pe_var (i := i) (by rw [C.N]; exact h1) (C.vis x h2) h3 h4) (pa_cons pE pa_nil (star_cons hst)) hb hfew hl (star_cons hst) (star_all rfl)) hs) ?_⟩
  obtain ⟨q, vs, e1, r0, r1, r2, r3⟩ := S.ow hG
  refine ⟨_, e1, .inl ⟨rfl, vs, .inl (.inl r2)⟩, ?_⟩
  refine he.run bs B σ H S _ fun b' vs' B1 H1 g q1 r => ?_
  have S1 := S.gro g
  have l1 := dpa_len r3
  have l2 := dpa_len r
  exact ⟨q, b', vs, vs', rfl, rfl, g.h q _ r2, q1, by rw [sizeLine_eq]; omega, m.nx _ B1 σ _ hn (S1.mutL hG e1 (dpa_app (moA r3 g.b) r))⟩
/-- x[j] = e -/
theorem gs_setI (C : Cok X W N sc k) (i : Nat) (h : okV N sc i x = true) (hG : G[i]? = some (.ow ds)) (he : GE X G e d) {j : Int} {jn : Nat} (hj : GE X G a (.int j)) (hjn : ixN ds.length j = some jn) (hn : E.nx (G.set i (.ow (ds.set jn d))))
    (ha : ∀ v, assign (.Subscript (.Name x p1) a p2) X.env v = (do
      let ov ← holding [v] (eval (.Name x p1) X.env)
      let iv ← holding [v, ov] (eval a X.env)
      standAt p2
      holding [v, ov, iv] (setItem ov iv v)
      release [v, ov, iv] []))
    (hs : swapsWithSole [.Subscript (.Name x p1) a p2] e pos.line X.env = pure false) (hw : swappedStores [.Subscript (.Name x p1) a p2] e X.env = pure none)
    (h1' : (assignEach [.Subscript (.Name x p1) a p2] X.env).map (·.2) = [assign (.Subscript (.Name x p1) a p2) X.env]) : GS X G (.Assign [.Subscript (.Name x p1) a p2] e pos) E := by
  obtain ⟨h1, h2, h3, h4⟩ := okV_of h
  refine ⟨fun bs B σ H S De m => inS (ps_asg pE (pg_sub (pe_var (i := i) (by rw [C.N]; exact h1) (C.vis x h2) h3 h4) pE set_list ha) hs hw h1') (he.run bs B σ H S _ fun v B1 H1 g r => ?_)⟩
  have S1 := S.gro g
  obtain ⟨q, vs, e1, r0, r1, r2, r3⟩ := S1.ow hG
  refine ⟨_, e1, hj.run bs B1 σ H1 S1 _ fun w B2 H2 g2 rw' => ?_⟩
  have l1 := dpa_len r3
  exact ⟨q, vs, j, jn, rfl, dp_int rw', g2.h q _ r2, by rw [l1]; exact hjn, m.nx _ B2 σ _ hn ((S1.gro g2).mutL hG e1 (dpa_set jn (moA r3 g2.b) (moD r g2.b)))⟩
/-- x += e, whole numbers -/
theorem gs_augA (C : Cok X W N sc k) (i : Nat) (h : okL N sc i x = true) {u v : Int} (hG : G[i]? = some (.fz (.int u))) (he : GE X G e (.int v)) (hn : E.nx (G.set i (.fz (.int (u + v))))) : GS X G (.AugAssign (.Name x p1) .Add e pos) E := by
  obtain ⟨h1, h2⟩ := okL_of h
  obtain ⟨l1, l2⟩ := C.loc x h2
  refine ⟨fun bs B σ H S De m => inS (ps_aug (i := i) (by rw [C.N]; exact C.nd) (by rw [C.N]; exact h1) l1 pE ip_add l2) ?_⟩
  obtain ⟨w, e1, r⟩ := S.fz hG
  exact ⟨w, e1, he.run bs B σ H S _ fun y B1 H1 g r1 => ⟨u, v, dp_int r, dp_int r1, m.nx _ B1 _ H1 hn ((S.gro g).setF (.int _))⟩⟩
theorem gs_augS (C : Cok X W N sc k) (i : Nat) (h : okL N sc i x = true) {u v : Int} (hG : G[i]? = some (.fz (.int u))) (he : GE X G e (.int v)) (hn : E.nx (G.set i (.fz (.int (u - v))))) : GS X G (.AugAssign (.Name x p1) .Sub e pos) E := by
  obtain ⟨h1, h2⟩ := okL_of h
  obtain ⟨l1, l2⟩ := C.loc x h2
  refine ⟨fun bs B σ H S De m => inS (ps_aug (i := i) (by rw [C.N]; exact C.nd) (by rw [C.N]; exact h1) l1 pE ip_sub l2) ?_⟩
  obtain ⟨w, e1, r⟩ := S.fz hG
  exact ⟨w, e1, he.run bs B σ H S _ fun y B1 H1 g r1 => ⟨u, v, dp_int r, dp_int r1, m.nx _ B1 _ H1 hn ((S.gro g).setF (.int _))⟩⟩
/-- a, b = e1, e2 -/
theorem gs_par (C : Cok X W N sc k) (i j : Nat) {y : Str} {d1 d2 : D} {kt k2 : Nat} {pt pt2 : Pos} (hi : N[i]? = some x) (hj : N[j]? = some y) (hij : i ≠ j) (hx : loc1B sc x = true) (hy : loc1B sc y = true) (ha : GA X G [a, b] [d1, d2]) (hn : E.nx ((G.set i (.fz d1)).set j (.fz d2)))
    (hk : sc.kind = .function) (hw : ∀ env : Env, env.blockKind = .function → env.kindOf x = some .local → env.kindOf y = some .local → swappedStores [.Tuple [.Name x p1, .Name y p2] kt pt] (.Tuple [a, b] k2 pt2) env = pure (some [x, y])) (hs : swapsWithSole [.Tuple [.Name x p1, .Name y p2] kt pt] (.Tuple [a, b] k2 pt2) pos.line X.env = pure false) :
    GS X G (.Assign [.Tuple [.Name x p1, .Name y p2] kt pt] (.Tuple [a, b] k2 pt2) pos) E :=
  ⟨fun bs B σ H S De m => inS (ps_par C.calm (by rw [C.N]; exact C.nd) (by rw [C.N]; exact hi) (by rw [C.N]; exact hj) hij (C.loc1 x hx) (C.loc1 y hy) pA (hw _ (C.bk hk) (C.loc1 x hx) (C.loc1 y hy)) hs) (ha.run bs B σ H S _ fun vs B1 H1 g r => by
    obtain ⟨v, w, rfl, r1, r2⟩ := dpa_two r
    exact ⟨v, w, rfl, m.nx _ B1 _ H1 hn (((S.gro g).setF r1).setF r2)⟩)⟩
/-- a target that takes a datum apart -/
theorem gs_unp {G' : Gm} (he : GE X G e d) (hg : GG X G tg d G' ws) (hn : E.nx G') (hs : swapsWithSole [tg] e pos.line X.env = pure false) (hw : swappedStores [tg] e X.env = pure none)
    (h1 : (assignEach [tg] X.env).map (·.2) = [assign tg X.env]) : GS X G (.Assign [tg] e pos) E :=
  ⟨fun bs B σ H S De m => inS (ps_asg pE pG hs hw h1) (he.run bs B σ H S _ fun v B1 H1 g r => hg.run bs B1 σ H1 v (S.gro g) r _ fun σ' _ S' => m.nx G' B1 σ' H1 hn S')⟩
/-- a loop: J by the turn -/
theorem gs_for {body : List Stmt} (C : Cok X W N sc k) (hi : GI X G tg iter items) (J : Nat → Gm → Prop) (h0 : J 0 G)
    (hs : ∀ (i : Nat) (d : D) (G' : Gm), items[i]? = some d → J i G' → ∃ G2 ws, GG X G' tg d G2 ws ∧ GSs X G2 body ⟨J (i + 1), E.rt, E.nx, J (i + 1)⟩)
    (hd : ∀ G', J items.length G' → E.nx G') (hf : ∀ x, foldedSetIterable iter X.env x = pure x) : GS X G (.For tg iter body [] pos) E := by
  refine ⟨fun bs B σ H S De m => inS (ps_for C.pown C.calm pI pG pB hf) (hi.run bs B σ H S _ fun Jt B1 H1 g wk => ?_)⟩
  have S1 := S.gro g
  have S1' : Sat X.K ⟨B1, bs.H⟩ G B1 σ H1 := by
    have g1 := S1.gr
    refine ⟨⟨Same.refl _, g1.h, g1.bh, fun _ _ h => h⟩, S1.len, fun i s o a b => ?_, S1.na⟩
    have r := S1.sl i s o a b
    cases s <;> exact r
  have back : ∀ {G' B' σ' H'}, Sat X.K ⟨B1, bs.H⟩ G' B' σ' H' → Sat X.K bs G' B' σ' H' := fun {G' B' σ' H'} T => by
    refine ⟨⟨S1.gr.b.trans T.gr.b, T.gr.h, T.gr.bh, fun x hx hb => T.gr.n x hx (S1.gr.n x hx hb)⟩, T.len, fun i s o a b => ?_, T.na⟩
    have r := T.sl i s o a b
    cases s <;> exact r
  refine ⟨fun i mm σ' H' => mm = items.length - i ∧ i ≤ items.length ∧ ∃ G' B', J i G' ∧ Sat X.K ⟨B1, bs.H⟩ G' B' σ' H', ⟨items.length, by simp, Nat.zero_le _, G, B1, h0, S1'⟩, ?_⟩
  rintro i mm σ' H' ⟨rfl, hile, G', B', hJ, T⟩
  have sF : Same B1 H' := T.gr.b.trans T.gr.bh
  by_cases hlt : i < items.length
  · refine .inr ⟨wk.go i H' sF hlt, fun σ2 H2 => ∃ G2 B2, J (i + 1) G2 ∧ Sat X.K ⟨B1, bs.H⟩ G2 B2 σ2 H2, fun σ2 H2 ⟨G2, B2, j2, T2⟩ => ⟨items.length - (i + 1), by omega, rfl, hlt, G2, B2, j2, T2⟩, fun x H'' y => ?_⟩
    obtain ⟨d, B'', e1, g3, r3⟩ := wk.yld i B' H' x H'' sF T.gr.b T.gr.bh hlt y
    obtain ⟨G2, ws, hg, hb⟩ := hs i d G' e1 hJ
    refine hg.run ⟨B1, bs.H⟩ B'' σ' H'' x (T.gro g3) r3 _ fun σ2 _ T2 => ?_
    refine hb.run ⟨B1, bs.H⟩ B'' σ2 H'' T2 _ ⟨fun G3 B3 σ3 H3 j3 T3 => ⟨G3, B3, j3, T3⟩, fun d v B3 H3 hr g4 r4 => ?_, fun ds q us B3 H3 hr g4 q0 q1 q2 r4 => ?_, fun G3 B3 σ3 H3 j3 T3 => m.nx G3 B3 σ3 H3 j3 (back T3), fun G3 B3 σ3 H3 j3 T3 => ⟨G3, B3, j3, T3⟩, ⟨m.xm.top, by
      obtain ⟨Wx, tk, q⟩ := m.xm.xe
      exact ⟨Wx, tk, fun x C G B σ H hr hm T => q x C G B σ H hr hm (back T)⟩⟩⟩
    · exact m.rf d v B3 H3 hr ⟨S1.gr.b.trans g4.b, g4.h, g4.bh, fun x hx hb => g4.n x hx (S1.gr.n x hx hb)⟩ r4
    · exact m.ro ds q us B3 H3 hr ⟨S1.gr.b.trans g4.b, g4.h, g4.bh, fun x hx hb => g4.n x hx (S1.gr.n x hx hb)⟩ q0 q1 q2 r4
  · have e : i = items.length := by omega
    subst e
    exact .inl ⟨wk.stop _ H' sF (Nat.le_refl _), m.nx G' B' σ' H' (hd G' hJ) (back T)⟩
/-- a while: J by a measure -/
theorem gs_while {body : List Stmt} {c : Expr} (C : Cok X W N sc k) (J : Nat → Gm → Prop) (m0 : Nat) (h0 : J m0 G)
    (hs : ∀ (n : Nat) (G' : Gm), J n G' → ∃ t, GT X G' c t ∧ (t = true → GSs X G' body ⟨fun G2 => ∃ n', n' < n ∧ J n' G2, E.rt, E.nx, fun G2 => ∃ n', n' < n ∧ J n' G2⟩) ∧ (t = false → E.nx G')) : GS X G (.While c body [] pos) E := by
  refine ⟨fun bs B σ H S De m => inS (ps_while C.pown pT pB) ?_⟩
  refine ⟨fun n σ' H' => ∃ G' B', J n G' ∧ Sat X.K bs G' B' σ' H', ⟨m0, G, B, h0, S⟩, ?_⟩
  rintro n σ' H' ⟨G', B', hJ, T⟩
  obtain ⟨t, ht, h1, h2⟩ := hs n G' hJ
  refine ht.run bs B' σ' H' T _ fun B2 H2 g => ?_
  cases t with
  | true =>
    refine iteT ⟨fun σ2 H2 => ∃ n', n' < n ∧ ∃ G2 B2, J n' G2 ∧ Sat X.K bs G2 B2 σ2 H2, fun σ2 H2 ⟨n', hn, G2, B2, q, T2⟩ => ⟨n', hn, G2, B2, q, T2⟩, ?_⟩
    exact (h1 rfl).run bs B2 σ' H2 (T.gro g) _ ⟨fun G3 B3 σ3 H3 ⟨n', hn, j3⟩ T3 => ⟨n', hn, G3, B3, j3, T3⟩, m.rf, m.ro, m.nx, fun G3 B3 σ3 H3 ⟨n', hn, j3⟩ T3 => ⟨n', hn, G3, B3, j3, T3⟩, m.xm⟩
  | false => exact iteF (m.nx G' B2 σ' H2 (h2 rfl) (T.gro g))
end

/-! ### a def -/
def startG (N : List Str) (ds : List D) : Gm := ds.map .fz ++ List.replicate (N.length - ds.length) .no
theorem start_sat {K : PySem.W.Frag} {N : List Str} {B H : Hp} {vs : List V} {ds : List D} (e : Same B H) (r : DpAll K B vs ds) : Sat K ⟨B, H⟩ (startG N ds) B (L2.start N vs) H := by
  have ll := dpa_len r
  refine ⟨.refl e, ?_, fun i s o h1 h2 => ?_, fun i j s t p hij h1 h2 s1 s2 e1 e2 => ?_⟩
  · unfold L2.start startG
    rw [List.length_append, List.length_append, List.length_map, List.length_map, List.length_replicate, List.length_replicate, ll]
  · unfold startG at h1
    unfold L2.start at h2
    by_cases hi : i < ds.length
    · rw [List.getElem?_append_left (by rw [List.length_map]; exact hi), List.getElem?_map] at h1
      rw [List.getElem?_append_left (by rw [List.length_map, ll]; exact hi), List.getElem?_map] at h2
      cases hd : ds[i]? with
      | none =>
        rw [hd] at h1
        cases h1
      | some d =>
        rw [hd] at h1
        obtain ⟨v, hv, rv⟩ := dpa_get r hd
        rw [hv] at h2
        cases h1
        cases h2
        exact ⟨v, rfl, rv⟩
    · rw [List.getElem?_append_right (by rw [List.length_map]; omega)] at h1
      have : s = .no := List.eq_of_mem_replicate (List.mem_of_getElem? h1)
      subst this
      trivial
  · unfold startG at h1
    have : s ∈ ds.map Sl.fz ++ List.replicate (N.length - ds.length) Sl.no := List.mem_of_getElem? h1
    rcases List.mem_append.mp this with q | q
    · obtain ⟨d, _, e⟩ := List.mem_map.mp q
      subst e
      cases s1
    · have := List.eq_of_mem_replicate q
      subst this
      cases s1
theorem fn_ok {W : Wd} {x qual : Str} {st : Stmt} {f : Addr} {fd : FuncData} {N ps : List Str} {k : Nat} {c : Ct} (F : Fun W.K x qual st f fd) (S : FnScope N ps (defScope st)) (len : ∀ ds R, c ds R → ds.length = ps.length)
    (hb : ∀ X : Cx, Cok X W N (defScope st) k → ∀ (ds : List D) (R : Rs → Prop), c ds R → GSs X (startG N ds) (defBody st) { nx := fun _ => R (.fz .none), rt := R }) : FnOk W.P W.w W.K W.mg W.base (L2.CX W.P W.w) (k + 1) f fd ps (spD W.K W.mg c) := by
  refine F.okX S (fun vs H Q E h => ?_) (fun cdv A outer s H vs Q E hr h => ?_)
  · obtain ⟨B, ds, R, _, r, hc, _⟩ := h
    rw [dpa_len r]
    exact len ds R hc
  · obtain ⟨B, ds, R, e, r, hc, q1, q2, q3⟩ := h
    refine ⟨_, pB, ?_⟩
    have C : Cok (cxOf (L2.CX W.P W.w) W.P W.w W.K W.mg W.base N qual (defScope st) f cdv A outer s H E) W N (defScope st) k :=
      ⟨⟨rfl, S.nd, rfl, fun x h => visB_of h, fun x h => ⟨locB_of h, .inl rfl⟩, fun x h => loc1B_of h, fun x h => glB_of h, fun x h => h, fun bkfn => by
        show (if (defScope st).kind.isAnnotationScope then _ else (defScope st).kind) = _
        rw [bkfn]
        rfl⟩, rfl, hr, passes_of rfl⟩
    refine (hb _ C ds R hc).run ⟨B, H⟩ B (L2.start N vs) H (start_sat e r) _ ⟨fun G' B' σ' H' g S' => ?_, fun d v B' H' hR g r' => q1 d v B' H' hR g r', fun es p us B' H' hR g p0 p1 p2 r' => q2 es p us B' H' hR g p0 p1 p2 r', fun _ _ _ _ z => z.elim, fun _ _ _ _ z => z.elim, ⟨⟨rfl, rfl⟩, fun cls d _ H => E cls d H, takes_of rfl rfl rfl rfl, fun x C G B' _ H' hR hm S' => q3 x G C B' H' hR hm S'.gr⟩⟩
    exact q1 _ _ B' H' g S'.gr .non
end DW

set_option Elab.async false
set_option linter.all false
set_option maxRecDepth 100000
set_option maxHeartbeats 4000000
set_option autoImplicit false
namespace DW
open PySem PySem.Spec PyProof.Rows L2

/-! ### sizes -/
def Bd (n : Nat) (i : Int) : Prop := i.natAbs < 2 ^ n
theorem two_mono {n m : Nat} (h : n ≤ m) : (2 : Nat) ^ n ≤ 2 ^ m := Nat.pow_le_pow_right (by decide) h
theorem Bd.mono {n m : Nat} {i : Int} (h : Bd n i) (e : n ≤ m) : Bd m i := Nat.lt_of_lt_of_le h (two_mono e)
theorem Bd.add {n m : Nat} {i j : Int} (h : Bd n i) (g : Bd m j) : Bd (max n m + 1) (i + j) := by
  have h1 : i.natAbs < 2 ^ max n m := h.mono (Nat.le_max_left n m)
  have h2 : j.natAbs < 2 ^ max n m := g.mono (Nat.le_max_right n m)
  show (i + j).natAbs < 2 ^ (max n m + 1)
  rw [Nat.pow_succ]
  omega
theorem Bd.sub {n m : Nat} {i j : Int} (h : Bd n i) (g : Bd m j) : Bd (max n m + 1) (i - j) := by
  have h1 : i.natAbs < 2 ^ max n m := h.mono (Nat.le_max_left n m)
  have h2 : j.natAbs < 2 ^ max n m := g.mono (Nat.le_max_right n m)
  show (i - j).natAbs < 2 ^ (max n m + 1)
  rw [Nat.pow_succ]
  omega
theorem Bd.neg {n : Nat} {i : Int} (h : Bd n i) : Bd n (-i) := by
  show (-i).natAbs < 2 ^ n
  rw [Int.natAbs_neg]
  exact h
theorem Bd.mul {n m : Nat} {i j : Int} (h : Bd n i) (g : Bd m j) : Bd (n + m) (i * j) := by
  show (i * j).natAbs < 2 ^ (n + m)
  rw [Int.natAbs_mul, Nat.pow_add]
  exact Nat.mul_lt_mul'' h g
theorem Bd.mod {m : Nat} {i j : Int} (h : 0 < j) (g : Bd m j) : Bd m (i % j) := by
  have h1 := Int.emod_nonneg i (show j ≠ 0 by omega)
  have h2 := Int.emod_lt_of_pos i h
  have h3 : j.natAbs < 2 ^ m := g
  show (i % j).natAbs < 2 ^ m
  omega
theorem Bd.div {n : Nat} {i j : Int} (g : Bd n i) (h : 0 < j) : Bd n (i / j) := by
  refine Nat.lt_of_le_of_lt ?_ g
  have h1 := Int.natAbs_ediv_le_natAbs i j
  exact h1
theorem Bd.ofLe {n : Nat} {i : Int} (h : -(2 ^ n : Int) < i) (g : i < 2 ^ n) : Bd n i := by
  show i.natAbs < 2 ^ n
  have e : ((2 ^ n : Nat) : Int) = (2 : Int) ^ n := by norm_cast
  omega
theorem log2_lt {n k : Nat} (h0 : 0 < k) (h : n < 2 ^ k) : n.log2 < k := PySem.Flt.log2_lt_of h0 h
theorem bits_le {n : Nat} {i : Int} (h : Bd n i) : Builtin.Int.intBits i ≤ n + 1 := by
  unfold Builtin.Int.intBits
  have h1 : i.natAbs < 2 ^ (n + 1) := h.mono (Nat.le_succ n)
  have h2 := log2_lt (Nat.succ_pos n) h1
  split <;> omega
theorem Bd.ok {n m : Nat} {i j : Int} (h : Bd n i) (g : Bd m j) (e : n + m ≤ 134217000) : IntMulOk i j := by
  have h1 := bits_le h
  have h2 := bits_le g
  have e1 : bitsLine = 134217728 := by decide
  unfold IntMulOk
  intro z
  rw [Bool.and_eq_true] at z
  have z2 := z.2
  unfold Builtin.Int.intTooBig at z2
  have z3 := of_decide_eq_true z2
  rw [e1] at z3
  omega
theorem Bd.dv {m : Nat} {i j : Int} (h : 0 < j) (g : Bd m j) (e : m < 9000) : CDivW i j := ⟨h, Nat.lt_of_le_of_lt (Nat.le_of_lt_succ (log2_lt (Nat.succ_pos m) (g.mono (Nat.le_succ m)))) e⟩
theorem bd_of_bits {n : Nat} {i : Int} (h : Builtin.Int.intBits i ≤ n) : Bd n i := by
  unfold Builtin.Int.intBits at h
  show i.natAbs < 2 ^ n
  split at h
  · rename_i h0
    have : i.natAbs = 0 := by simpa using h0
    rw [this]
    exact Nat.two_pow_pos n
  · have h1 := Nat.lt_log2_self (n := i.natAbs)
    exact Nat.lt_of_lt_of_le h1 (two_mono h)
end DW

set_option Elab.async false
set_option linter.all false
set_option maxRecDepth 100000
set_option maxHeartbeats 4000000
set_option autoImplicit false
namespace DW
open PySem PySem.Spec PyProof.Rows L2

/-! ### a value of either make, places in it, its length -/
inductive Vw where
  | s (d : D)
  | l (ds : List D)
inductive GV (X : Cx) (G : Gm) (e : Expr) : Vw → Prop
  | s {d : D} : GE X G e d → GV X G e (.s d)
  | l {ds : List D} : GL X G e ds → GV X G e (.l ds)
inductive IxV : Vw → Int → D → Prop
  | tup {ds : List D} {i : Int} {d : D} : atI ds i = some d → IxV (.s (.tuple ds)) i d
  | lst {ds : List D} {i : Int} {d : D} : atI ds i = some d → IxV (.s (.list ds)) i d
  | own {ds : List D} {i : Int} {d : D} : atI ds i = some d → IxV (.l ds) i d
  | str {x : Str} {i : Int} {c : Nat} : x.length ≤ sizeLine → atI x.cps.toList i = some c → IxV (.s (.str x)) i (.str ⟨#[c]⟩)
inductive LenD : D → Int → Prop
  | lst {ds : List D} : LenD (.list ds) (ds.length : Int)
  | tup {ds : List D} : LenD (.tuple ds) (ds.length : Int)
  | str {x : Str} : x.length ≤ sizeLine → LenD (.str x) (x.length : Int)
inductive ItD : D → List D → Prop
  | lst {ds : List D} : ItD (.list ds) ds
  | tup {ds : List D} : ItD (.tuple ds) ds
section
variable {X : Cx} {G : Gm} {tg iter elt e a b : Expr} {es : List Expr} {items ds us : List D} {d z : D} {W : Wd} {N : List Str} {sc scope : Scope} {k : Nat} {pos p1 p2 p3 p : Pos} {ws : List Nat} {v : Vw} {i j : Int} {lo hi : Option Expr} {l h : Option Int}
theorem ge_ix (ha : GV X G a v) (hb : GE X G b (.int i)) (hd : IxV v i d) (hs : PlainIx b) : GE X G (.Subscript a b pos) d := by
  cases hd with
  | tup h => cases ha with | s ha => exact ge_ixT ha hb h hs
  | lst h => cases ha with | s ha => exact ge_ixL ha.gl hb h hs
  | own h => cases ha with | l ha => exact ge_ixL ha hb h hs
  | str h h2 => cases ha with | s ha => exact ge_ixS ha hb h h2 hs
theorem ge_len (C : Cok X W N sc k) (hg : glB sc "len" = true) (hm : W.mg "len" = none) (ha : GH X G e d) (hz : LenD d i) (he : nst e = true) : GE X G (.Call (.Name "len" p) [e] [] pos) (.int i) := by
  cases hz with
  | lst => exact ge_cb C hg hm PySem.boot_len call_len_seq (gah_cons ha gah_nil he) rc_len (by decide) he rfl
  | tup => exact ge_cb C hg hm PySem.boot_len call_len_seq (gah_cons ha gah_nil he) rc_lenT (by decide) he rfl
  | str h => exact ge_cb C hg hm PySem.boot_len call_len_str (gah_cons ha gah_nil he) (rc_lenS h) (by decide) he rfl
theorem ge_abs (C : Cok X W N sc k) (hg : glB sc "abs" = true) (hm : W.mg "abs" = none) (ha : GH X G e (.int i)) (he : nst e = true) : GE X G (.Call (.Name "abs" p) [e] [] pos) (.int (if i < 0 then -i else i)) :=
  ge_cb C hg hm (by decide +kernel) call_abs (gah_cons ha gah_nil he) rc_abs (by decide) he rfl
theorem ge_max (C : Cok X W N sc k) (hg : glB sc "max" = true) (hm : W.mg "max" = none) (ha : GH X G a (.int i)) (hb : GH X G b (.int j)) (he : nst a = true) (he2 : nst b = true) : GE X G (.Call (.Name "max" p) [a, b] [] pos) (.int (if j > i then j else i)) :=
  ge_cb C hg hm (by decide +kernel) (call_max2 C.calm) (gah_cons ha (gah_cons hb gah_nil he2) he) rc_max2 (by decide) he (by show (nst b && true) = true; rw [he2]; rfl)
theorem ge_min (C : Cok X W N sc k) (hg : glB sc "min" = true) (hm : W.mg "min" = none) (ha : GH X G a (.int i)) (hb : GH X G b (.int j)) (he : nst a = true) (he2 : nst b = true) : GE X G (.Call (.Name "min" p) [a, b] [] pos) (.int (if j < i then j else i)) :=
  ge_cb C hg hm (by decide +kernel) (call_min2 C.calm) (gah_cons ha (gah_cons hb gah_nil he2) he) rc_min2 (by decide) he (by show (nst b && true) = true; rw [he2]; rfl)
theorem ge_intB {t : Bool} (C : Cok X W N sc k) (hg : glB sc "int" = true) (hm : W.mg "int" = none) (ha : GH X G e (.bool t)) (he : nst e = true) : GE X G (.Call (.Name "int" p) [e] [] pos) (.int (if t then 1 else 0)) :=
  ge_ct C hg hm (by decide +kernel) call_int1 (gah_cons ha gah_nil he) rc_intB (by decide) he rfl
theorem ge_sum {ns : List Int} (C : Cok X W N sc k) (hg : glB sc "sum" = true) (hm : W.mg "sum" = none) (ha : GH X G e (.list (ns.map .int))) (he : nst e = true) : GE X G (.Call (.Name "sum" p) [e] [] pos) (.int ns.sum) :=
  ge_cb C hg hm (by decide +kernel) (cr_sum C.calm) (gah_cons ha gah_nil he) rc_sum (by decide) he rfl
theorem gi_it (h : GE X G iter d) (hz : ItD d items) : GI X G tg iter items := by
  cases hz with
  | lst => exact gi_list h
  | tup => exact gi_tup h
/-- x[lo:hi] of either make -/
theorem ge_sl (ha : GE X G a (.tuple ds)) (hl : GP X G lo l) (hh : GP X G hi h) : GE X G (.Subscript a (.Slice lo hi none p2) pos) (.tuple (cutD ds l h)) := ge_slT ha hl hh
end

/-! ### points of three whole numbers -/
structure P3 where
  x : Int
  y : Int
  z : Int
  deriving DecidableEq
abbrev P3.en (u : P3) : D := .tuple [.int u.x, .int u.y, .int u.z]
theorem ge_p3 {X : Cx} {G : Gm} {e1 e2 e3 : Expr} {a b c : Int} {n1 : Nat} {pos : Pos} (h1 : GE X G e1 (.int a)) (h2 : GE X G e2 (.int b)) (h3 : GE X G e3 (.int c)) (n : nst e1 = true) (n' : nst e2 = true) (n'' : nst e3 = true) : GE X G (.Tuple [e1, e2, e3] n1 pos) (P3.en ⟨a, b, c⟩) :=
  ge_tup (ga_cons h1 (ga_cons h2 (ga_cons h3 ga_nil n'') n') n) (by show 3 ≤ sizeLine; decide)

/-! ### statements with their rest -/
section
variable {X : Cx} {G : Gm} {tg iter elt e a b : Expr} {items ds us : List D} {d : D} {W : Wd} {N : List Str} {sc scope : Scope} {k : Nat} {pos p1 p2 p3 p : Pos} {ws : List Nat} {ifs : List Expr} {st : Stmt} {sts : List Stmt} {E : DE} {x : Str}
theorem gss_asg (C : Cok X W N sc k) (i : Nat) (h : okL N sc i x = true) (he : GE X G e d) (hn : GSs X (G.set i (.fz d)) sts E) (hs : swapsWith e (some (.Name x p1)) pos.line X.env = pure false) : GSs X G (.Assign [.Name x p1] e pos :: sts) E := gs_cons (gs_asg C i h he hn hs)
theorem gss_asgE {d' : D} (C : Cok X W N sc k) (i : Nat) (h : okL N sc i x = true) (he : GE X G e d') (hs : swapsWith e (some (.Name x p1)) pos.line X.env = pure false) (hd : d' = d) (hn : GSs X (G.set i (.fz d)) sts E) : GSs X G (.Assign [.Name x p1] e pos :: sts) E := by
  subst hd
  exact gs_cons (gs_asg C i h he hn hs)
theorem gss_retE {d' : D} (he : GE X G e d') (hd : d' = d) (h : E.rt (.fz d)) : GSs X G (.Return (some e) pos :: sts) E := by
  subst hd
  exact gs_cons (gs_ret he h)
theorem gss_asgO (C : Cok X W N sc k) (i : Nat) (h : okL N sc i x = true) (he : GO X G e ds) (hn : GSs X (G.set i (.ow ds)) sts E) (hs : swapsWith e (some (.Name x p1)) pos.line X.env = pure false) : GSs X G (.Assign [.Name x p1] e pos :: sts) E := gs_cons (gs_asgO C i h he hn hs)
theorem gss_if {c : Expr} {t : Bool} {A1 A2 : List Stmt} (hc : GT X G c t) (h1 : t = true → GSs X G A1 ⟨fun G' => GSs X G' sts E, E.rt, E.bk, E.ct⟩) (h2 : t = false → GSs X G A2 ⟨fun G' => GSs X G' sts E, E.rt, E.bk, E.ct⟩) : GSs X G (.If c A1 A2 pos :: sts) E := gs_cons (gs_if hc h1 h2)
/-- if c: (leaves) -/
theorem gss_when {c : Expr} {t : Bool} {A1 : List Stmt} (hc : GT X G c t) (h1 : t = true → GSs X G A1 ⟨fun G' => GSs X G' sts E, E.rt, E.bk, E.ct⟩) (h2 : t = false → GSs X G sts E) : GSs X G (.If c A1 [] pos :: sts) E := gs_cons (gs_if hc h1 fun z => gs_nil (h2 z))
/-- a way that is not gone -/
theorem gss_not {c : Expr} {A1 : List Stmt} (hc : GT X G c false) (h2 : GSs X G sts E) : GSs X G (.If c A1 [] pos :: sts) E := gs_cons (gs_if hc (fun z => by cases z) fun _ => gs_nil h2)
theorem gss_ret (he : GE X G e d) (h : E.rt (.fz d)) : GSs X G (.Return (some e) pos :: sts) E := gs_cons (gs_ret he h)
theorem gss_retO (he : GO X G e ds) (h : E.rt (.ow ds)) : GSs X G (.Return (some e) pos :: sts) E := gs_cons (gs_retO he h)
theorem gss_retV (C : Cok X W N sc k) (i : Nat) (h : okV N sc i x = true) (hG : G[i]? = some (.ow ds)) (hr : E.rt (.ow ds)) : GSs X G (.Return (some (.Name x p1)) pos :: sts) E := gs_cons (gs_retV C i h hG hr)
theorem gss_nil {De : DE} (h : De.nx G) : GSs X G [] De := gs_nil h
end
/-! ### defs together -/
structure FunAt (W : Wd) (x : Str) (st : Stmt) : Prop where
  ex : ∃ (f : Addr) (fd : FuncData), W.mg x = some (.ref f) ∧ Fun W.K x x st f fd
theorem has_mk {W : Wd} {x : Str} {st : Stmt} {N ps : List Str} {k : Nat} {c : Ct} (F : FunAt W x st) (S : FnScope N ps (defScope st)) (len : ∀ ds R, c ds R → ds.length = ps.length)
    (hbind : ∀ (kV doc pm : Value) (an : Option Addr) (cdv ct : Value) (us : List Value), us.length = ps.length → bindArgs (PySem.W.fnOf x x (defArgs st) (defBody st) (defScope st) .none kV doc pm an cdv ct) ⟨us, []⟩ = pure (ps.zip us))
    (hb : ∀ X : Cx, Cok X W N (defScope st) k → ∀ (ds : List D) (R : Rs → Prop), c ds R → GSs X (startG N ds) (defBody st) { nx := fun _ => R (.fz .none), rt := R }) : Has W (k + 1) x c := by
  obtain ⟨f, fd, hm, F⟩ := F.ex
  exact ⟨f, fd, ps, hm, F.kp, F.binds hbind, fn_ok F S len hb⟩
theorem Has.mono {W : Wd} {x : Str} {j k : Nat} {c : Ct} (h : Has W j x c) (e : j ≤ k) : Has W k x c := by
  obtain ⟨f, fd, ps, h1, h2, h3, h4⟩ := h.ex
  exact ⟨f, fd, ps, h1, h2, h3, h4.mono e⟩
/-- the built-in names that the text leaves alone -/
structure Bn (W : Wd) : Prop where
  len : W.mg "len" = none
  abs : W.mg "abs" = none
  max : W.mg "max" = none
  min : W.mg "min" = none
  int : W.mg "int" = none
  bool : W.mg "bool" = none
  str : W.mg "str" = none
  sum : W.mg "sum" = none
  isinstance : W.mg "isinstance" = none
  tuple : W.mg "tuple" = none
  list : W.mg "list" = none
  dict : W.mg "dict" = none
  set : W.mg "set" = none
  sorted : W.mg "sorted" = none
  range : W.mg "range" = none
  zip : W.mg "zip" = none
  reversed : W.mg "reversed" = none
/-- the law's own end -/
def c_script : Ct := fun ds R => ∃ ns : List Int, ds = [.list (ns.map .int)] ∧ ns.length ≤ 63 ∧ (∀ z ∈ ns, Bd 1048576 z) ∧ R (.fz (.bool true))
theorem ln_script : ∀ ds R, c_script ds R → ds.length = ["script"].length := by
  rintro ds R ⟨ns, rfl, _⟩
  rfl
theorem dpa_of_ints {K : PySem.W.Frag} {H : Hp} : ∀ ns : List Int, DpAll K H (ns.map V.int) (ns.map PyData.int)
  | [] => .nil
  | n :: ns => .cons (.int n) (dpa_of_ints ns)
def spL (K : PySem.W.Frag) (c : Ct) : Sp := fun vs H Q _ => ∃ (B : Hp) (ds : List D) (R : Rs → Prop), Same B H ∧ DpAll K B vs ds ∧ c ds R ∧ (∀ d v B' H', R (.fz d) → Grow B H B' H' → Dp K B' v d → Q v H') ∧
  (∀ es p us B' H', R (.ow es) → Grow B H B' H' → H p = none → B' p = none → H' p = some (.lst us) → DpAll K B' us es → Q (.ref p) H') ∧ ∀ x G, ¬ R (.ex x G)
theorem spL_D {K : PySem.W.Frag} {mg : Str → Option Value} {c : Ct} : ∀ vs H Q E, spL K c vs H Q E → spD K mg c vs H Q E := fun vs H Q E ⟨B, ds, R, h1, h2, h3, h4, h5, h6⟩ => ⟨B, ds, R, h1, h2, h3, h4, h5, fun x G _ _ _ h => (h6 x G h).elim⟩
theorem sp_script {K : PySem.W.Frag} {H : Hp} {a : Addr} {ns : List Int} (hl : ns.length ≤ 63) (hb : ∀ z ∈ ns, Builtin.Int.intBits z ≤ 1048576) (hS : SqL K H a (ns.map V.int)) : spL K c_script [.ref a] H (fun v _ => v = .bl true) fun _ _ _ => False :=
  ⟨H, [.list (ns.map .int)], fun r => r = .fz (.bool true), Same.refl H, .cons (.lst hS (dpa_of_ints ns)) .nil, ⟨ns, rfl, hl, fun z hz => bd_of_bits (hb z hz), rfl⟩, (fun d v B' H' e _ r => by
    cases e
    exact dp_bl r), (fun _ _ _ _ _ e => by cases e), fun _ _ e => by cases e⟩
theorem Bd.lit {i : Int} : Bd (i.natAbs.log2 + 1) i := by
  show i.natAbs < 2 ^ (i.natAbs.log2 + 1)
  exact Nat.lt_log2_self
end DW

set_option Elab.async false
set_option linter.all false
set_option maxRecDepth 100000
set_option maxHeartbeats 4000000
set_option autoImplicit false
namespace DW
open PySem PySem.Spec PyProof.Rows L2

/-- lo, lo + c, .. -/
def rngS (lo c : Int) (n : Nat) : List Int := (List.range n).map fun (i : Nat) => lo + (i : Int) * c
theorem rngS_get {lo c : Int} {n i : Nat} (h : i < n) : (rngS lo c n)[i]? = some (lo + (i : Int) * c) := by
  unfold rngS
  rw [List.getElem?_map, List.getElem?_range h]
  rfl
theorem rngS_len {lo c : Int} {n : Nat} : (rngS lo c n).length = n := by
  unfold rngS
  rw [List.length_map, List.length_range]
theorem wk_rngS {K : PySem.W.Frag} {B1 F : Hp} {lo c : Int} {n : Nat} : Wk K B1 F (Itc lo c n) ((rngS lo c n).map PyData.int) := by
  refine ⟨fun i H' s hi => ?_, fun i H' s hi => ?_, fun i B' H' x H'' s1 s2 s3 hi y => ?_⟩
  · rw [List.length_map, rngS_len] at hi
    exact hi
  · rw [List.length_map, rngS_len] at hi
    exact hi
  · rw [List.length_map, rngS_len] at hi
    obtain ⟨rfl, rfl⟩ := y
    exact ⟨_, B', by rw [List.getElem?_map, rngS_get hi]; rfl, .refl s3, .int _⟩
theorem rgC_small : ∀ m : Nat, m < 64 → ∀ c : Nat, c < 31 → 0 < c → RgC 0 (m : Int) (c : Int) ((m + c - 1) / c) := by
  unfold RgC
  decide +kernel
section
variable {X : Cx} {G : Gm} {tg iter elt e a b c : Expr} {items ds : List D} {W : Wd} {N : List Str} {sc scope : Scope} {k : Nat} {pos p1 p2 p3 p : Pos} {ws : List Nat} {ifs : List Expr}
theorem gi_rng3 {lo hi st : Int} {n : Nat} (C : Cok X W N sc k) (hg : glB sc "range" = true) (hm : W.mg "range" = none) (ha : GE X G a (.int lo)) (hb : GE X G b (.int hi)) (hc : GE X G c (.int st)) (h1 : RgC lo hi st n) (he : nst a = true) (he2 : nst b = true) (he3 : nst c = true) :
    GI X G tg (.Call (.Name "range" p) [a, b, c] [] pos) ((rngS lo st n).map PyData.int) := by
  have hw := C.wd
  subst hw
  refine ⟨fun bs B σ H S R q => inI (pi_range3 (C.gl _ hg).1 hm (pa_cons pE (pa_cons pE (pa_cons pE pa_nil (star_cons he3)) (star_cons he2)) (star_cons he)) (star_cons he) (star_all (by show (nst b && (nst c && true)) = true; rw [he2, he3]; rfl))) (ha.run bs B σ H S _ fun v B1 H1 g r => hb.run bs B1 σ H1 (S.gro g) _ fun w B2 H2 g2 r2 => hc.run bs B2 σ H2 (S.gro (g.trans g2)) _ fun u B3 H3 g3 r3 => ?_)⟩
  exact ⟨lo, hi, st, n, by rw [dp_int r, dp_int r2, dp_int r3], h1, q _ B3 H3 ((g.trans g2).trans g3) wk_rngS⟩
/-- [elt for x in iter] -/
theorem go_lc1 {α : Type} {xs : List α} {en : α → D} {g : α → D} {x : Str} (C : Cok X W N sc k) (i : Nat) (ok : blkC N sc scope [(x, i)] = true) (okl : okL N scope i x = true) (hi : GIw X G (.Name x p) iter (xs.map en)) (hz : xs.length ≤ 16777216)
    (he : ∀ X', Cok X' W N scope k → ∀ a ∈ xs, GE X' ((wipeG G [i]).set i (.fz (en a))) elt (g a)) (hs : ∀ x, foldedSetIterable iter X.env x = pure x) :
    GO X G (.ListComp elt [⟨.Name x p, iter, [], 0⟩] scope pos) (xs.map g) := by
  have h := go_lc (bt := fun _ => true) (G1 := fun a => (wipeG G [i]).set i (.fz (en a))) (pos := pos) C [(x, i)] ok hi hz (fun X' C' a ha => gg_name C' i okl (by simp)) (fun X' C' a ha => gts_nil) (fun X' C' a ha _ => he X' C' a ha) hs
  rw [show xs.filter (fun _ => true) = xs from List.filter_eq_self.mpr fun _ _ => rfl] at h
  exact h
/-- [elt for x in iter if c] -/
theorem go_lc1f {α : Type} {xs : List α} {en : α → D} {bt : α → Bool} {g : α → D} {x : Str} (C : Cok X W N sc k) (i : Nat) (ok : blkC N sc scope [(x, i)] = true) (okl : okL N scope i x = true) (hi : GIw X G (.Name x p) iter (xs.map en)) (hz : xs.length ≤ 16777216)
    (ht : ∀ X', Cok X' W N scope k → ∀ a ∈ xs, GT X' ((wipeG G [i]).set i (.fz (en a))) c (bt a))
    (he : ∀ X', Cok X' W N scope k → ∀ a ∈ xs, bt a = true → GE X' ((wipeG G [i]).set i (.fz (en a))) elt (g a)) (hs : ∀ x, foldedSetIterable iter X.env x = pure x) :
    GO X G (.ListComp elt [⟨.Name x p, iter, [c], 0⟩] scope pos) ((xs.filter bt).map g) :=
  go_lc (G1 := fun a => (wipeG G [i]).set i (.fz (en a))) C [(x, i)] ok hi hz (fun X' C' a ha => gg_name C' i okl (by simp)) (fun X' C' a ha => gts_one (ht X' C' a ha)) he hs
end
theorem bt_int : bootBuiltins "int" = some (.type "int") := by decide +kernel
theorem bt_bool : bootBuiltins "bool" = some (.type "bool") := by decide +kernel
theorem bt_tuple : bootBuiltins "tuple" = some (.type "tuple") := by decide +kernel
theorem bt_list : bootBuiltins "list" = some (.type "list") := by decide +kernel
theorem bt_str : bootBuiltins "str" = some (.type "str") := by decide +kernel
/-! ### tests whose answer is told ahead -/
section
variable {X : Cx} {G : Gm} {e a b : Expr} {es rest : List Expr} {d x y : D} {pos : Pos} {i j : Int}
theorem gt_notF (ha : GT X G a true) : GT X G (.UnaryOp .Not a pos) false := gt_not ha
theorem gt_notT (ha : GT X G a false) : GT X G (.UnaryOp .Not a pos) true := gt_not ha
theorem ge_notF (ha : GE X G a (.bool true)) : GE X G (.UnaryOp .Not a pos) (.bool false) := ge_not ha
theorem ge_notT (ha : GE X G a (.bool false)) : GE X G (.UnaryOp .Not a pos) (.bool true) := ge_not ha
theorem gw_orF (ha : GT X G a false) (hb : GW X G (.BoolOp .Or (b :: rest) pos) false) : GW X G (.BoolOp .Or (a :: b :: rest) pos) false := gw_or ha fun _ => hb
theorem gw_andT (ha : GT X G a true) (hb : GW X G (.BoolOp .And (b :: rest) pos) true) : GW X G (.BoolOp .And (a :: b :: rest) pos) true := gw_and ha fun _ => hb
theorem ge_orF (ha : GE X G a (.bool false)) (hb : GE X G (.BoolOp .Or (b :: rest) pos) (.bool false)) : GE X G (.BoolOp .Or (a :: b :: rest) pos) (.bool false) := ge_or ha fun _ => hb
theorem ge_andT (ha : GE X G a (.bool true)) (hb : GE X G (.BoolOp .And (b :: rest) pos) (.bool true)) : GE X G (.BoolOp .And (a :: b :: rest) pos) (.bool true) := ge_and ha fun _ => hb
theorem cmp_eqT (h : i = j) : CmpD .Eq (.int i) (.int j) true := by
  have := CmpD.eqI i j
  rwa [decide_eq_true h] at this
theorem cmp_eqF (h : i ≠ j) : CmpD .Eq (.int i) (.int j) false := by
  have := CmpD.eqI i j
  rwa [decide_eq_false h] at this
theorem cmp_neF (h : i = j) : CmpD .NotEq (.int i) (.int j) false := by
  have := CmpD.neI i j
  rwa [decide_eq_true h] at this
theorem cmp_neT (h : i ≠ j) : CmpD .NotEq (.int i) (.int j) true := by
  have := CmpD.neI i j
  rwa [decide_eq_false h] at this
theorem cmp_eqTd (h : x = y) (hs : SeqAt.shaped x = true) : CmpD .Eq x y true := by
  subst h
  have := CmpD.eq x x hs hs
  rwa [SeqAt.eqv_refl x (SeqAt.canLay_of_shaped hs)] at this
theorem cmp_neFd (h : x = y) (hs : SeqAt.shaped x = true) : CmpD .NotEq x y false := by
  subst h
  have := CmpD.ne x x hs hs
  rwa [SeqAt.eqv_refl x (SeqAt.canLay_of_shaped hs)] at this
theorem cmp_ltT (h : i < j) : CmpD .Lt (.int i) (.int j) true := by
  have := CmpD.lt i j
  rwa [decide_eq_true h] at this
theorem cmp_ltF (h : ¬ i < j) : CmpD .Lt (.int i) (.int j) false := by
  have := CmpD.lt i j
  rwa [decide_eq_false h] at this
theorem cmp_gtT (h : j < i) : CmpD .Gt (.int i) (.int j) true := by
  have := CmpD.gt i j
  rwa [decide_eq_true h] at this
theorem cmp_gtF (h : ¬ j < i) : CmpD .Gt (.int i) (.int j) false := by
  have := CmpD.gt i j
  rwa [decide_eq_false h] at this
end
/-- items of a script -/
theorem atI_map {α β : Type} {f : α → β} {xs : List α} {i : Int} {x : α} (h : atI xs i = some x) : atI (xs.map f) i = some (f x) := by
  unfold atI at h ⊢
  rw [List.length_map]
  cases q : ixN xs.length i with
  | none =>
    rw [q] at h
    cases h
  | some j =>
    rw [q] at h
    show (xs.map f)[j]? = some (f x)
    rw [List.getElem?_map, show xs[j]? = some x from h]
    rfl
theorem atI_getD {ns : List Int} {k : Int} (h0 : 0 ≤ k) (h : k < (ns.length : Int)) : atI ns k = some (ns.getD k.toNat 0) := by
  have e : k = ((k.toNat : Nat) : Int) := by omega
  have hl : k.toNat < ns.length := by omega
  have g : ns[k.toNat]? = some (ns.getD k.toNat 0) := by
    rw [List.getElem?_eq_getElem hl, List.getD_eq_getElem?_getD, List.getElem?_eq_getElem hl]
    rfl
  have r := atI_nat g
  rw [← e] at r
  exact r
/-! ### a law's own loop over its cells -/
theorem rngL_mem {lo a : Int} {n : Nat} (h : a ∈ rngL lo n) : lo ≤ a ∧ a < lo + (n : Int) := by
  unfold rngL at h
  rw [List.mem_map] at h
  obtain ⟨i, hi, rfl⟩ := h
  have := List.mem_range.mp hi
  omega
theorem rngS_item {lo c : Int} {n i : Nat} {d : D} (h : ((rngS lo c n).map PyData.int)[i]? = some d) : i < n ∧ d = .int (lo + (i : Int) * c) := by
  have hi : i < n := by
    have := List.getElem?_eq_some_iff.mp h
    obtain ⟨q, _⟩ := this
    rwa [List.length_map, rngS_len] at q
  rw [List.getElem?_map, rngS_get hi] at h
  exact ⟨hi, (Option.some.inj h).symm⟩
section
variable {X : Cx} {G : Gm} {tg iter : Expr} {items : List D} {W : Wd} {N : List Str} {sc : Scope} {k : Nat} {pos p1 p2 p3 p4 p5 p6 p7 p8 p9 : Pos} {sts : List Stmt} {E : DE} {body : List Stmt}
theorem gss_for (C : Cok X W N sc k) (J : Nat → Gm → Prop) (hi : GI X G tg iter items) (h0 : J 0 G)
    (hs : ∀ (i : Nat) (d : D) (G' : Gm), items[i]? = some d → J i G' → ∃ G2 ws, GG X G' tg d G2 ws ∧ GSs X G2 body ⟨J (i + 1), E.rt, fun G' => GSs X G' sts E, J (i + 1)⟩)
    (hd : ∀ G', J items.length G' → GSs X G' sts E) (hf : ∀ x, foldedSetIterable iter X.env x = pure x) : GSs X G (.For tg iter body [] pos :: sts) E :=
  gs_cons (gs_for (E := ⟨fun G' => GSs X G' sts E, E.rt, E.bk, E.ct⟩) C hi J h0 hs hd hf)
theorem gss_while {c : Expr} (C : Cok X W N sc k) (J : Nat → Gm → Prop) (m0 : Nat) (h0 : J m0 G)
    (hs : ∀ (n : Nat) (G' : Gm), J n G' → ∃ t, GT X G' c t ∧ (t = true → GSs X G' body ⟨fun G2 => ∃ n', n' < n ∧ J n' G2, E.rt, fun G' => GSs X G' sts E, fun G2 => ∃ n', n' < n ∧ J n' G2⟩) ∧ (t = false → GSs X G' sts E)) : GSs X G (.While c body [] pos :: sts) E :=
  gs_cons (gs_while (E := ⟨fun G' => GSs X G' sts E, E.rt, E.bk, E.ct⟩) C J m0 h0 hs)
theorem gi_cells {ns : List Int} {q1 q2 q3 q4 q5 q6 q7 q8 q9 q10 q11 q12 : Pos} (C : Cok X W N sc k) (B : Bn W) (c cap : Nat) {ci capi : Int} (ec : ci = (c : Int)) (ecap : capi = (cap : Int)) (g1 : glB sc "range" = true) (g2 : glB sc "max" = true) (g3 : glB sc "min" = true) (g4 : glB sc "len" = true) (v0 : okV N sc 0 "script" = true)
    (hG : G[0]? = some (.fz (.list (ns.map .int)))) (hc : c < 31) (hc0 : 0 < c) (hp : cap < 64) :
    GI X G tg (.Call (.Name "range" q1) [.Constant (.int 0) 0 q2, .Call (.Name "max" q3) [.Constant (.int ci) 0 q4, .Call (.Name "min" q5) [.Call (.Name "len" q6) [.Name "script" q7] [] q8, .Constant (.int capi) 0 q9] [] q10] [] q11, .Constant (.int ci) 0 q12] [] p4)
      ((rngS 0 ci ((max c (min ns.length cap) + c - 1) / c)).map PyData.int) := by
  subst ec ecap
  refine gi_rng3 C g1 B.range ge_int (hi := ((max c (min ns.length cap) : Nat) : Int)) ?_ ge_int (rgC_small _ (by omega) _ hc hc0) rfl rfl rfl
  refine GE.is (ge_max C g2 B.max ge_int.gh (ge_min C g3 B.min (ge_len C g4 B.len (ge_v C 0 v0 hG).gh .lst rfl).gh ge_int.gh rfl rfl).gh rfl rfl) ?_
  rw [List.length_map]
  congr 1
  split
  all_goals split
  all_goals omega
end
end DW

set_option Elab.async false
set_option linter.all false
set_option maxRecDepth 100000
set_option maxHeartbeats 4000000
set_option autoImplicit false
namespace DW
open PySem PySem.Spec PyProof.Rows L2

/-! ### Lean values as data, and what == and in tell of them -/
class En (α : Type) [DecidableEq α] where
  en : α → D
  dp : Nat
  lay : ∀ a, (en a).canLay0 = true
  dle : ∀ a, (en a).depth ≤ dp
  eqv : ∀ a b, PyData.eqv (en a) (en b) = decide (a = b)
instance : En Int where
  en := .int
  dp := 0
  lay _ := rfl
  dle _ := Nat.le_refl _
  eqv := eqv_ints
structure Pl where
  n : P3
  d : Int
  deriving DecidableEq
abbrev Pl.en (p : Pl) : D := .tuple [.int p.n.x, .int p.n.y, .int p.n.z, .int p.d]
theorem eqv_p3 (u v : P3) : PyData.eqv u.en v.en = decide (u = v) := by
  obtain ⟨a, b, c⟩ := u
  obtain ⟨a', b', c'⟩ := v
  simp only [PyData.eqv, PyData.eqvAll, P3.mk.injEq, Bool.and_true]
  rw [Bool.eq_iff_iff]
  simp only [Bool.and_eq_true, beq_iff_eq, decide_eq_true_eq, and_assoc]
theorem eqv_pl (u v : Pl) : PyData.eqv u.en v.en = decide (u = v) := by
  obtain ⟨⟨a, b, c⟩, d⟩ := u
  obtain ⟨⟨a', b', c'⟩, d'⟩ := v
  simp only [PyData.eqv, PyData.eqvAll, P3.mk.injEq, Pl.mk.injEq, Bool.and_true]
  rw [Bool.eq_iff_iff]
  simp only [Bool.and_eq_true, beq_iff_eq, decide_eq_true_eq, and_assoc]
instance : En P3 where
  en := P3.en
  dp := 1
  lay _ := rfl
  dle _ := by simp [PyData.depth, PyData.depthAll]
  eqv := eqv_p3
instance : En Pl where
  en := Pl.en
  dp := 1
  lay _ := rfl
  dle _ := by simp [PyData.depth, PyData.depthAll]
  eqv := eqv_pl
section
variable {α β : Type} [DecidableEq α] [DecidableEq β] [En α] [En β]
theorem canLay_map : ∀ xs : List α, PyData.canLayAll0 (xs.map En.en) = true
  | [] => rfl
  | x :: xs => by
    simp only [List.map_cons, PyData.canLayAll0, En.lay, canLay_map xs, Bool.and_self]
theorem depth_map : ∀ xs : List α, PyData.depthAll (xs.map En.en) ≤ En.dp α
  | [] => Nat.zero_le _
  | x :: xs => by
    have h1 := En.dle x
    have h2 := depth_map xs
    simp only [List.map_cons, PyData.depthAll]
    omega
theorem eqvAll_map : ∀ xs ys : List α, PyData.eqvAll (xs.map En.en) (ys.map En.en) = decide (xs = ys)
  | [], [] => by simp [PyData.eqvAll]
  | [], y :: ys => by simp [PyData.eqvAll]
  | x :: xs, [] => by simp [PyData.eqvAll]
  | x :: xs, y :: ys => by
    simp only [List.map_cons, PyData.eqvAll, En.eqv, eqvAll_map xs ys, List.cons.injEq]
    rw [Bool.eq_iff_iff]
    simp only [Bool.and_eq_true, decide_eq_true_eq]
instance : En (List α) where
  en xs := .list (xs.map En.en)
  dp := En.dp α + 1
  lay xs := by
    simp only [PyData.canLay0]
    exact canLay_map xs
  dle xs := by
    have := depth_map xs
    simp only [PyData.depth]
    omega
  eqv xs ys := by
    simp only [PyData.eqv]
    exact eqvAll_map xs ys
instance : En (α × β) where
  en p := .tuple [En.en p.1, En.en p.2]
  dp := max (En.dp α) (En.dp β) + 1
  lay p := by simp only [PyData.canLay0, PyData.canLayAll0, En.lay, Bool.and_self]
  dle p := by
    have h1 := En.dle p.1
    have h2 := En.dle p.2
    simp only [PyData.depth, PyData.depthAll]
    omega
  eqv p q := by
    obtain ⟨a, b⟩ := p
    obtain ⟨c, d⟩ := q
    simp only [PyData.eqv, PyData.eqvAll, En.eqv, Prod.mk.injEq, Bool.and_true]
    rw [Bool.eq_iff_iff]
    simp only [Bool.and_eq_true, decide_eq_true_eq]
theorem shaped_en (h : En.dp α ≤ 64) (a : α) : SeqAt.shaped (En.en a) = true := by
  have := En.dle a
  unfold SeqAt.shaped
  rw [En.lay a, Bool.true_and, decide_eq_true_eq]
  omega
theorem cmp_eqG (h : En.dp α ≤ 64) (a b : α) : CmpD .Eq (En.en a) (En.en b) (decide (a = b)) := by
  have := CmpD.eq _ _ (shaped_en h a) (shaped_en h b)
  rwa [En.eqv] at this
theorem cmp_neG (h : En.dp α ≤ 64) (a b : α) : CmpD .NotEq (En.en a) (En.en b) (!decide (a = b)) := by
  have := CmpD.ne _ _ (shaped_en h a) (shaped_en h b)
  rwa [En.eqv] at this
theorem any_en (a : α) (xs : List α) : (xs.map En.en).any (fun z => PyData.eqv z (En.en a)) = decide (a ∈ xs) := by
  rw [Bool.eq_iff_iff, List.any_eq_true, decide_eq_true_eq]
  constructor
  · rintro ⟨z, hz, e⟩
    obtain ⟨b, hb, rfl⟩ := List.mem_map.mp hz
    rw [En.eqv, decide_eq_true_eq] at e
    exact e ▸ hb
  · intro h
    exact ⟨_, List.mem_map.mpr ⟨a, h, rfl⟩, by rw [En.eqv, decide_eq_true_eq]⟩
theorem cmp_inG (h : En.dp α + 1 ≤ 64) (a : α) (xs : List α) : CmpD .In (En.en a) (.list (xs.map En.en)) (decide (a ∈ xs)) := by
  have := CmpD.inL (En.en a) (xs.map En.en) (shaped_en (by omega) a) (shaped_en (α := List α) h xs)
  rwa [any_en] at this
theorem cmp_ninG (h : En.dp α + 1 ≤ 64) (a : α) (xs : List α) : CmpD .NotIn (En.en a) (.list (xs.map En.en)) (!decide (a ∈ xs)) := by
  have := CmpD.ninL (En.en a) (xs.map En.en) (shaped_en (by omega) a) (shaped_en (α := List α) h xs)
  rwa [any_en] at this
end
theorem cmp_eq3 (u v : P3) : CmpD .Eq u.en v.en (decide (u = v)) := cmp_eqG (by decide) u v
theorem cmp_ne3 (u v : P3) : CmpD .NotEq u.en v.en (!decide (u = v)) := cmp_neG (by decide) u v
theorem cmp_eq4 (u v : Pl) : CmpD .Eq u.en v.en (decide (u = v)) := cmp_eqG (by decide) u v
theorem cmp_ne4 (u v : Pl) : CmpD .NotEq u.en v.en (!decide (u = v)) := cmp_neG (by decide) u v
theorem cmp_in3 (u : P3) (xs : List P3) : CmpD .In u.en (.list (xs.map P3.en)) (decide (u ∈ xs)) := cmp_inG (by decide) u xs
theorem cmp_nin3 (u : P3) (xs : List P3) : CmpD .NotIn u.en (.list (xs.map P3.en)) (!decide (u ∈ xs)) := cmp_ninG (by decide) u xs
theorem cmp_eqI (u v : List Int) : CmpD .Eq (.list (u.map .int)) (.list (v.map .int)) (decide (u = v)) := cmp_eqG (by decide) u v
theorem cmp_neI (u v : List Int) : CmpD .NotEq (.list (u.map .int)) (.list (v.map .int)) (!decide (u = v)) := cmp_neG (by decide) u v
theorem cmp_ne3F {u v : P3} (h : u = v) : CmpD .NotEq u.en v.en false := by
  have := cmp_ne3 u v
  rwa [decide_eq_true h] at this
theorem cmp_eq3T {u v : P3} (h : u = v) : CmpD .Eq u.en v.en true := by
  have := cmp_eq3 u v
  rwa [decide_eq_true h] at this
theorem cmp_ne4F {u v : Pl} (h : u = v) : CmpD .NotEq u.en v.en false := by
  have := cmp_ne4 u v
  rwa [decide_eq_true h] at this
theorem cmp_eq4T {u v : Pl} (h : u = v) : CmpD .Eq u.en v.en true := by
  have := cmp_eq4 u v
  rwa [decide_eq_true h] at this
theorem cmp_ne3T {u v : P3} (h : u ≠ v) : CmpD .NotEq u.en v.en true := by
  have := cmp_ne3 u v
  rwa [decide_eq_false h] at this
theorem cmp_eq3F {u v : P3} (h : u ≠ v) : CmpD .Eq u.en v.en false := by
  have := cmp_eq3 u v
  rwa [decide_eq_false h] at this
theorem cmp_eqT_of {op : CmpOp} {x y : D} {b c : Bool} (h : CmpD op x y b) (e : b = c) : CmpD op x y c := e ▸ h
/-- an empty list on the right -/
theorem eqvAll_nil (xs : List D) : PyData.eqvAll xs [] = xs.isEmpty := by
  cases xs <;> simp [PyData.eqvAll]
theorem cmp_neN {α : Type} [DecidableEq α] [En α] (h : En.dp α + 1 ≤ 64) (xs : List α) : CmpD .NotEq (.list (xs.map En.en)) (.list []) (!decide (xs = [])) := cmp_neG (α := List α) h xs []
theorem cmp_eqN {α : Type} [DecidableEq α] [En α] (h : En.dp α + 1 ≤ 64) (xs : List α) : CmpD .Eq (.list (xs.map En.en)) (.list []) (decide (xs = [])) := cmp_eqG (α := List α) h xs []
theorem cmp_neN3 (xs : List P3) : CmpD .NotEq (.list (xs.map P3.en)) (.list []) (!decide (xs = [])) := cmp_neN (by decide) xs
theorem cmp_eqN3 (xs : List P3) : CmpD .Eq (.list (xs.map P3.en)) (.list []) (decide (xs = [])) := cmp_eqN (by decide) xs
theorem cmp_neNI (xs : List Int) : CmpD .NotEq (.list (xs.map .int)) (.list []) (!decide (xs = [])) := cmp_neN (by decide) xs
theorem cmp_eqNI (xs : List Int) : CmpD .Eq (.list (xs.map .int)) (.list []) (decide (xs = [])) := cmp_eqN (by decide) xs
theorem ge_p4 {X : Cx} {G : Gm} {e1 e2 e3 e4 : Expr} {a b c d : Int} {n1 : Nat} {pos : Pos} (h1 : GE X G e1 (.int a)) (h2 : GE X G e2 (.int b)) (h3 : GE X G e3 (.int c)) (h4 : GE X G e4 (.int d)) (n : nst e1 = true) (n' : nst e2 = true) (n'' : nst e3 = true) (n3 : nst e4 = true) : GE X G (.Tuple [e1, e2, e3, e4] n1 pos) (Pl.en ⟨⟨a, b, c⟩, d⟩) :=
  ge_tup (ga_cons h1 (ga_cons h2 (ga_cons h3 (ga_cons h4 ga_nil n3) n'') n') n) (by show 4 ≤ sizeLine; decide)
section
variable {X : Cx} {G : Gm} {tg iter elt e a b : Expr} {items ds us : List D} {d : D} {W : Wd} {N : List Str} {sc scope : Scope} {k : Nat} {pos p1 p2 p3 p : Pos} {ws : List Nat} {ifs : List Expr} {st : Stmt} {sts : List Stmt} {E : DE} {x : Str}
theorem gss_par (C : Cok X W N sc k) (i j : Nat) {y : Str} {d1 d2 : D} {kt k2 : Nat} {pt pt2 : Pos} (hi : N[i]? = some x) (hj : N[j]? = some y) (hij : i ≠ j) (hx : loc1B sc x = true) (hy : loc1B sc y = true) (ha : GA X G [a, b] [d1, d2]) (hn : GSs X ((G.set i (.fz d1)).set j (.fz d2)) sts E)
    (hk : sc.kind = .function) (hw : ∀ env : Env, env.blockKind = .function → env.kindOf x = some .local → env.kindOf y = some .local → swappedStores [.Tuple [.Name x p1, .Name y p2] kt pt] (.Tuple [a, b] k2 pt2) env = pure (some [x, y])) (hs : swapsWithSole [.Tuple [.Name x p1, .Name y p2] kt pt] (.Tuple [a, b] k2 pt2) pos.line X.env = pure false) :
    GSs X G (.Assign [.Tuple [.Name x p1, .Name y p2] kt pt] (.Tuple [a, b] k2 pt2) pos :: sts) E := gs_cons (gs_par C i j hi hj hij hx hy ha hn hk hw hs)
theorem dpa_three {K : PySem.W.Frag} {H : Hp} {vs : List V} {a b c : D} (h : DpAll K H vs [a, b, c]) : ∃ u v w, vs = [u, v, w] ∧ Dp K H u a ∧ Dp K H v b ∧ Dp K H w c := by
  cases h with
  | cons h1 h => cases h with
    | cons h2 h => cases h with
      | cons h3 h => cases h with
        | nil => exact ⟨_, _, _, rfl, h1, h2, h3⟩
theorem gss_par3 {a b c : Expr} {p4 : Pos} (C : Cok X W N sc k) (i j l : Nat) {y z : Str} {d1 d2 d3 : D} {kt k2 : Nat} {pt pt2 : Pos} (hi : N[i]? = some x) (hj : N[j]? = some y) (hl : N[l]? = some z) (hij : i ≠ j) (hil : i ≠ l) (hjl : j ≠ l) (hx : loc1B sc x = true) (hy : loc1B sc y = true) (hz : loc1B sc z = true) (ha : GA X G [a, b, c] [d1, d2, d3]) (hn : GSs X (((G.set i (.fz d1)).set j (.fz d2)).set l (.fz d3)) sts E)
    (hk : sc.kind = .function) (hw : ∀ env : Env, env.blockKind = .function → env.kindOf x = some .local → env.kindOf y = some .local → env.kindOf z = some .local → swappedStores [.Tuple [.Name x p1, .Name y p2, .Name z p4] kt pt] (.Tuple [a, b, c] k2 pt2) env = pure (some [x, y, z])) (hs : swapsWithSole [.Tuple [.Name x p1, .Name y p2, .Name z p4] kt pt] (.Tuple [a, b, c] k2 pt2) pos.line X.env = pure false) :
    GSs X G (.Assign [.Tuple [.Name x p1, .Name y p2, .Name z p4] kt pt] (.Tuple [a, b, c] k2 pt2) pos :: sts) E := by
  refine gs_cons ⟨fun bs B σ H S De m => inS (ps_par3 (X := X) C.calm (by rw [C.N]; exact C.nd) (by rw [C.N]; exact hi) (by rw [C.N]; exact hj) (by rw [C.N]; exact hl) hij hil hjl (C.loc1 x hx) (C.loc1 y hy) (C.loc1 z hz) pA (hw _ (C.bk hk) (C.loc1 x hx) (C.loc1 y hy) (C.loc1 z hz)) hs) (ha.run bs B σ H S _ fun vs B1 H1 g r => ?_)⟩
  obtain ⟨u, v, w, rfl, r1, r2, r3⟩ := dpa_three r
  exact ⟨u, v, w, rfl, m.nx _ B1 _ H1 hn ((((S.gro g).setF r1).setF r2).setF r3)⟩
theorem gss_unp {G' : Gm} (he : GE X G e d) (hg : GG X G tg d G' ws) (hn : GSs X G' sts E) (hs : swapsWithSole [tg] e pos.line X.env = pure false) (hw : swappedStores [tg] e X.env = pure none)
    (h1 : (assignEach [tg] X.env).map (·.2) = [assign tg X.env]) : GSs X G (.Assign [tg] e pos :: sts) E := gs_cons (gs_unp he hg hn hs hw h1)
theorem gss_unpE {G' : Gm} {d' : D} (he : GE X G e d') (hd : d' = d) (hg : GG X G tg d G' ws) (hn : GSs X G' sts E) (hs : swapsWithSole [tg] e pos.line X.env = pure false) (hw : swappedStores [tg] e X.env = pure none)
    (h1 : (assignEach [tg] X.env).map (·.2) = [assign tg X.env]) : GSs X G (.Assign [tg] e pos :: sts) E := by
  subst hd
  exact gss_unp he hg hn hs hw h1
theorem gss_augA (C : Cok X W N sc k) (i : Nat) (h : okL N sc i x = true) {u v : Int} (hG : G[i]? = some (.fz (.int u))) (he : GE X G e (.int v)) (hn : GSs X (G.set i (.fz (.int (u + v)))) sts E) : GSs X G (.AugAssign (.Name x p1) .Add e pos :: sts) E := gs_cons (gs_augA C i h hG he hn)
theorem gss_augS (C : Cok X W N sc k) (i : Nat) (h : okL N sc i x = true) {u v : Int} (hG : G[i]? = some (.fz (.int u))) (he : GE X G e (.int v)) (hn : GSs X (G.set i (.fz (.int (u - v)))) sts E) : GSs X G (.AugAssign (.Name x p1) .Sub e pos :: sts) E := gs_cons (gs_augS C i h hG he hn)
theorem gss_setI (C : Cok X W N sc k) (i : Nat) (h : okV N sc i x = true) (hG : G[i]? = some (.ow ds)) (he : GE X G e d) {j : Int} {jn : Nat} (hj : GE X G a (.int j)) (hjn : ixN ds.length j = some jn) (hn : GSs X (G.set i (.ow (ds.set jn d))) sts E)
    (ha : ∀ v, assign (.Subscript (.Name x p1) a p2) X.env v = (do
      let ov ← holding [v] (eval (.Name x p1) X.env)
      let iv ← holding [v, ov] (eval a X.env)
      standAt p2
      holding [v, ov, iv] (setItem ov iv v)
      release [v, ov, iv] []))
    (hs : swapsWithSole [.Subscript (.Name x p1) a p2] e pos.line X.env = pure false) (hw : swappedStores [.Subscript (.Name x p1) a p2] e X.env = pure none)
    (h1' : (assignEach [.Subscript (.Name x p1) a p2] X.env).map (·.2) = [assign (.Subscript (.Name x p1) a p2) X.env]) : GSs X G (.Assign [.Subscript (.Name x p1) a p2] e pos :: sts) E := gs_cons (gs_setI C i h hG he hj hjn hn ha hs hw h1')
theorem gss_app (C : Cok X W N sc k) (i : Nat) (h : okV N sc i x = true) (hG : G[i]? = some (.ow ds)) (he : GE X G e d) (hz : ds.length < 16777216) (hn : GSs X (G.set i (.ow (ds ++ [d]))) sts E)
    (hb : attributeBase (.Name x p1) "append" X.env (eval (.Name x p1) X.env) = eval (.Name x p1) X.env) (hl : (p2.endLine == p3.line) = true) (hst : nst e = true)
    (hfew : ((backTo p3 (starEach [e] X.env)).all (fun x => !x.1) && (backToKw p3 (keywordEach [] X.env)).all (fun x => x.1.isSome) && decide (([e] : List Expr).length + ([] : List Keyword).length + (if ([] : List Keyword).isEmpty then 0 else 1) < 30)) = true)
    (hs : swapsWith (.Call (.Attribute (.Name x p1) "append" p2) [e] [] p3) none pos.line X.env = pure false) : GSs X G (.Expr (.Call (.Attribute (.Name x p1) "append" p2) [e] [] p3) pos :: sts) E := gs_cons (gs_app C i h hG he hz hn hb hl hst hfew hs)
theorem gss_brk (h : E.bk G) : GSs X G (.Break pos :: sts) E := gs_cons (gs_brk h)
theorem gss_cnt (h : E.ct G) : GSs X G (.Continue pos :: sts) E := gs_cons (gs_cnt h)
end
theorem ge_sl3 {X : Cx} {G : Gm} {a : Expr} {p : Pl} {pos p1 p2 : Pos} (h : GE X G a p.en) : GE X G (.Subscript a (.Slice none (some (.Constant (.int 3) 0 p1)) none p2) pos) p.n.en :=
  ge_slT h gp_no (gp_yes ge_int)
section
variable {X : Cx} {G : Gm} {elt iter c : Expr} {W : Wd} {N : List Str} {sc scope : Scope} {k : Nat} {pos p1 p2 p : Pos} {sts : List Stmt} {E : DE} {x y : Str}
/-- y = [elt for x in iter] -/
theorem gss_lc1 {α : Type} {xs : List α} {en : α → D} {g : α → D} (C : Cok X W N sc k) (j i : Nat) (okj : okL N sc j y = true) (hyl : loc1B sc y = true) (hk : sc.kind = .function) (ok : blkC N sc scope [(x, i)] = true) (okl : okL N scope i x = true) (hi : GIw X G (.Name x p) iter (xs.map en)) (hz : xs.length ≤ 16777216)
    (he : ∀ X', Cok X' W N scope k → ∀ a ∈ xs, GE X' ((wipeG G [i]).set i (.fz (en a))) elt (g a)) (hl : (p1.line == p2.line) = true) (ha : (scope.names.any fun (n, k) => n == y && (k == .local || k == .cell)) = false) (hs : ∀ x, foldedSetIterable iter X.env x = pure x)
    (hn : GSs X (G.set j (.ow (xs.map g))) sts E) : GSs X G (.Assign [.Name y p1] (.ListComp elt [⟨.Name x p, iter, [], 0⟩] scope p2) pos :: sts) E := by
  refine gs_cons (gs_asgLc (bt := fun _ => true) (G1 := fun a => (wipeG G [i]).set i (.fz (en a))) C j [(x, i)] okj hyl hk ok hi hz (fun X' C' a ha => gg_name C' i okl (by simp)) (fun X' C' a ha => gts_nil) (fun X' C' a ha _ => he X' C' a ha) ?_ hl ha hs)
  rw [show xs.filter (fun _ => true) = xs from List.filter_eq_self.mpr fun _ _ => rfl]
  exact hn
/-- y = [elt for x in iter if c] -/
theorem gss_lc1f {α : Type} {xs : List α} {en : α → D} {bt : α → Bool} {g : α → D} (C : Cok X W N sc k) (j i : Nat) (okj : okL N sc j y = true) (hyl : loc1B sc y = true) (hk : sc.kind = .function) (ok : blkC N sc scope [(x, i)] = true) (okl : okL N scope i x = true) (hi : GIw X G (.Name x p) iter (xs.map en)) (hz : xs.length ≤ 16777216)
    (ht : ∀ X', Cok X' W N scope k → ∀ a ∈ xs, GT X' ((wipeG G [i]).set i (.fz (en a))) c (bt a))
    (he : ∀ X', Cok X' W N scope k → ∀ a ∈ xs, bt a = true → GE X' ((wipeG G [i]).set i (.fz (en a))) elt (g a)) (hl : (p1.line == p2.line) = true) (ha : (scope.names.any fun (n, k) => n == y && (k == .local || k == .cell)) = false) (hs : ∀ x, foldedSetIterable iter X.env x = pure x)
    (hn : GSs X (G.set j (.ow ((xs.filter bt).map g))) sts E) : GSs X G (.Assign [.Name y p1] (.ListComp elt [⟨.Name x p, iter, [c], 0⟩] scope p2) pos :: sts) E :=
  gs_cons (gs_asgLc (G1 := fun a => (wipeG G [i]).set i (.fz (en a))) C j [(x, i)] okj hyl hk ok hi hz (fun X' C' a ha => gg_name C' i okl (by simp)) (fun X' C' a ha => gts_one (ht X' C' a ha)) he hn hl ha hs)
end
theorem Bd.sm {n : Nat} {i : Int} (h : -1048576 < i) (h2 : i < 1048576) (hn : 20 ≤ n) : Bd n i := by
  have : Bd 20 i := by
    show i.natAbs < 2 ^ 20
    omega
  exact this.mono hn
theorem Bd.of {n : Nat} {i : Int} (h : i.natAbs < 2 ^ n) : Bd n i := h
/-- the body of a list's first loop | the ways of a first if -/
def lpB (l : List Stmt) : List Stmt := match l.head? with
  | some (.For _ _ b _ _) => b
  | some (.While _ b _ _) => b
  | _ => []
def ifA (l : List Stmt) : List Stmt := match l.head? with
  | some (.If _ b _ _) => b
  | _ => []
def ifB (l : List Stmt) : List Stmt := match l.head? with
  | some (.If _ _ b _) => b
  | _ => []
def celB (sc : Scope) (x : Str) : Bool := match sc.names.lookup x with
  | some .cell => true
  | _ => false
theorem celB_of {sc : Scope} {x : Str} (h : celB sc x = true) : sc.names.lookup x = some .cell := by
  unfold celB at h
  split at h
  · assumption
  · cases h
theorem sw_falseC {elt : Expr} {gs : List Comprehension} {scope : Scope} {pos py : Pos} {y : Str} {l : Nat} {env : Env} (hy : env.scope.names.lookup y = some .cell ∨ env.scope.names.lookup y = some .free) : swapsWith (.ListComp elt gs scope pos) (some (.Name y py)) l env = pure false := by
  have ky : (env.kindOf y == some .local) = false := by
    unfold Env.kindOf
    rcases hy with e | e
    · rw [e]
      rfl
    · rw [e]
      rfl
  unfold swapsWith
  simp only [ky, Bool.and_false, Bool.false_and]
/-- name = [..], the name one that the comprehensions see -/
theorem gss_asgOc {X : Cx} {G : Gm} {elt : Expr} {gs : List Comprehension} {W : Wd} {N : List Str} {sc scope : Scope} {k : Nat} {pos p1 p2 : Pos} {sts : List Stmt} {E : DE} {x : Str} {ds : List D} (C : Cok X W N sc k) (i : Nat) (h : okL N sc i x = true) (hc : celB sc x = true) (he : GO X G (.ListComp elt gs scope p2) ds) (hn : GSs X (G.set i (.ow ds)) sts E) : GSs X G (.Assign [.Name x p1] (.ListComp elt gs scope p2) pos :: sts) E :=
  gs_cons (gs_asgO C i h he hn (sw_falseC (C.fr x (.inl (celB_of hc)))))
def P3.at (u : P3) (a : Int) : Int := if a = 0 then u.x else if a = 1 then u.y else u.z
theorem ix3 {u : P3} {a : Int} (h0 : 0 ≤ a) (h1 : a < 3) : IxV (.s u.en) a (.int (u.at a)) := by
  have h : a = 0 ∨ a = 1 ∨ a = 2 := by omega
  rcases h with h | h | h
  · subst h
    exact .tup rfl
  · subst h
    exact .tup rfl
  · subst h
    exact .tup rfl
/-- [elt for x in a point] -/
theorem go_lcP {X : Cx} {G : Gm} {elt iter : Expr} {W : Wd} {N : List Str} {sc scope : Scope} {k : Nat} {pos p : Pos} {x : Str} {u : P3} {g : Int → D} (C : Cok X W N sc k) (i : Nat) (ok : blkC N sc scope [(x, i)] = true) (okl : okL N scope i x = true) (h : GE X G iter u.en)
    (he : ∀ X', Cok X' W N scope k → ∀ a ∈ [u.x, u.y, u.z], GE X' ((wipeG G [i]).set i (.fz (.int a))) elt (g a)) (hs : ∀ x, foldedSetIterable iter X.env x = pure x) :
    GO X G (.ListComp elt [⟨.Name x p, iter, [], 0⟩] scope pos) [g u.x, g u.y, g u.z] :=
  go_lc1 (xs := [u.x, u.y, u.z]) (en := .int) C i ok okl (gi_tup h).w (Nat.le_of_ble_eq_true rfl) he hs
theorem ge_sumC {X : Cx} {G : Gm} {e : Expr} {W : Wd} {N : List Str} {sc : Scope} {k : Nat} {pos p : Pos} {α : Type} {us : List α} {f : α → Int} (C : Cok X W N sc k) (hg : glB sc "sum" = true) (hm : W.mg "sum" = none) (ha : GO X G e (us.map fun a => .int (f a))) (he : nst e = true) : GE X G (.Call (.Name "sum" p) [e] [] pos) (.int (us.map f).sum) := by
  refine ge_sum C hg hm (GL.gh (GO.gl (GO.is ha ?_))) he
  rw [List.map_map]
  rfl
/-! ### targets of any length -/
structure GGs (X : Cx) (G : Gm) (es : List Expr) (ds : List D) (G' : Gm) (ws : List Nat) : Prop where
  ex : ∃ t, PGs X es t ∧ ∀ (bs : Bs) (B : Hp) (σ : L2.St) (H : Hp) (vs : List V), Sat X.K bs G B σ H → DpAll X.K B vs ds → ∀ Q : L2.St → Hp → Prop, (∀ σ', Agr ws σ σ' → Sat X.K bs G' B σ' H → Q σ' H) → t vs σ H Q
theorem agr_refl' {ws : List Nat} {σ : L2.St} (h : Agr ws σ σ) : Agr ws σ σ := h
section
variable {X : Cx} {G G' : Gm} {es : List Expr} {ds : List D} {d : D} {W : Wd} {N : List Str} {sc : Scope} {k n1 : Nat} {pos p1 : Pos} {ws : List Nat} {x : Str}
theorem ggs_nil : GGs X G [] [] G ws := ⟨_, pgs_nil, fun bs B σ H vs S r Q q => by
  cases r
  exact ⟨rfl, q σ .refl S⟩⟩
theorem ggs_cons (C : Cok X W N sc k) (i : Nat) (h : okL N sc i x = true) (hw : i ∈ ws) (hr : GGs X (G.set i (.fz d)) es ds G' ws) : GGs X G (.Name x p1 :: es) (d :: ds) G' ws := by
  obtain ⟨h1, h2⟩ := okL_of h
  obtain ⟨l1, l2⟩ := C.loc x h2
  have nd : X.N.Nodup := by
    rw [C.N]
    exact C.nd
  obtain ⟨t, ht, hq⟩ := hr.ex
  refine ⟨_, pgs_cons (pg_name (i := i) nd (by rw [C.N]; exact h1) l1 l2) ht, fun bs B σ H vs S r Q q => ?_⟩
  cases r with
  | cons r1 rs => exact ⟨_, _, rfl, hq bs B _ H _ (S.setF r1) rs Q fun σ' a S' => q σ' ((Agr.set hw).trans a) S'⟩
theorem gg_tupN (C : Cok X W N sc k) (h : GGs X G es ds G' ws) (hn : (assignEach es X.env).length = ds.length) (hst : (assignEach es X.env).findIdx? (·.1) = none) : GG X G (.Tuple es n1 pos) (.tuple ds) G' ws := by
  obtain ⟨t, ht, hq⟩ := h.ex
  refine ⟨fun bs B σ H v S r Q q => inG (pg_tup C.calm ht hn hst) ?_⟩
  obtain ⟨a, vs, rfl, q1, q2⟩ := dp_tup r
  exact ⟨a, vs, rfl, same_sqT S.bh q1, dpa_len q2, hq bs B σ H vs S q2 Q q⟩
theorem gg_lstN (C : Cok X W N sc k) (h : GGs X G es ds G' ws) (hn : (assignEach es X.env).length = ds.length) (hst : (assignEach es X.env).findIdx? (·.1) = none) : GG X G (.Tuple es n1 pos) (.list ds) G' ws := by
  obtain ⟨t, ht, hq⟩ := h.ex
  refine ⟨fun bs B σ H v S r Q q => inG (pg_unl C.calm ht hn hst) ?_⟩
  obtain ⟨a, vs, rfl, q1, q2⟩ := dp_lst r
  exact ⟨a, vs, rfl, S.bh.seq q1, dpa_len q2, hq bs B σ H vs S q2 Q q⟩
end
/-! ### the greatest common divisor, as loops find it -/
theorem gcd_fmod (a b : Int) : Int.gcd b (a.fmod b) = Int.gcd a b := by
  have h := Int.fmod_add_mul_fdiv a b
  have e : a.fmod b = a - b * a.fdiv b := by omega
  rw [e, Int.gcd_comm a b]
  apply Nat.dvd_antisymm
  · apply Int.dvd_gcd
    · exact Int.gcd_dvd_left ..
    · have h1 := Int.gcd_dvd_left b (a - b * a.fdiv b)
      have h2 := Int.gcd_dvd_right b (a - b * a.fdiv b)
      have h3 := Int.dvd_add h2 (Int.dvd_trans h1 (Int.dvd_mul_right b (a.fdiv b)))
      rwa [Int.sub_add_cancel] at h3
  · apply Int.dvd_gcd
    · exact Int.gcd_dvd_left ..
    · exact Int.dvd_sub (Int.gcd_dvd_right ..) (Int.dvd_trans (Int.gcd_dvd_left ..) (Int.dvd_mul_right ..))
theorem fmod_lt_abs (a : Int) {b : Int} (h : b ≠ 0) : (a.fmod b).natAbs < b.natAbs := by
  rcases Int.lt_or_gt_of_ne h with h | h
  · have e : (a.fmod b) = -((-a).fmod (-b)) := by rw [Int.neg_fmod_neg, Int.neg_neg]
    have h1 := Int.fmod_nonneg_of_pos (-a) (b := -b) (by omega)
    have h2 := Int.fmod_lt_of_pos (-a) (b := -b) (by omega)
    omega
  · have h1 := Int.fmod_nonneg_of_pos a h
    have h2 := Int.fmod_lt_of_pos a h
    omega
theorem gcd_zero_abs (a : Int) : ((Int.gcd a 0 : Nat) : Int) = if a < 0 then -a else a := by
  rw [Int.gcd_zero_right]
  split <;> omega
end DW

set_option Elab.async false
set_option linter.all false
set_option maxRecDepth 100000
set_option maxHeartbeats 4000000
set_option autoImplicit false
namespace DW
open PySem PySem.Spec PyProof.Rows L2

/-! ### the program's own errors -/
structure ExK (W : Wd) (x : Str) (C : Addr) : Prop where
  mg : W.mg x = some (.ref C)
  xf : PySem.W.excIn W.K C [.type "ValueError", .type "Exception", .type "BaseException", .type "object"] "ValueError.__new__" = true
  kp : PySem.W.keepIn W.K (.ref C) = true
  sb : PySem.W.subIn W.K (.ref C) (.type "BaseException") = some true
  ty : PySem.W.typeIn W.K (.ref C) = some (.type "type")
  ic : ExcC W.K C
section
variable {X : Cx} {G : Gm} {e a b : Expr} {es : List Expr} {ds : List D} {d : D} {W : Wd} {N : List Str} {sc : Scope} {k j : Nat} {pos pos' p1 p2 p : Pos} {E : DE} {x nm : Str} {c : Ct} {sts : List Stmt}
theorem gs_raise {m : Str} {j : Nat} {Ca : Addr} (C : Cok X W N sc k) (F : ExK W x Ca) (hg : glB sc x = true) (h : E.rt (.ex x G)) : GS X G (.Raise (some (.Call (.Name x p) [.Constant (.str m) j p2] [] pos)) none pos') E := by
  have hw := C.wd
  subst hw
  refine ⟨fun bs B σ H S De mm => ?_⟩
  obtain ⟨Wx, tk, q⟩ := mm.xm.xe
  exact inS (ps_raise C.calm tk (pmk_own PySem.F.excBase_ValueError F.xf F.mg F.kp (raises_own F.sb F.ty) (C.gl x hg).1 (C.gl x hg).2)) (q x Ca G B σ H h F.mg S)
/-- e lets an error out -/
structure GEx (X : Cx) (G : Gm) (e : Expr) (x : Str) : Prop where
  run : ∀ (bs : Bs) (B : Hp) (σ : L2.St) (H : Hp), Sat X.K bs G B σ H → ∀ Wx : WX, Takes X Wx → (∀ C B' H', X.mg x = some (.ref C) → Grow B H B' H' → Wx (.ref C) none σ H') → ∀ Q : VK, tE X e σ H Q
theorem gex_call (C : Cok X W N sc k) (Hs : Has W j nm c) (hj : j ≤ k) (hg : glB sc nm = true) (ha : GA X G (e :: es) ds) (hc : ∀ R : Rs → Prop, (∀ G', R (.ex x G')) → c ds R) (he : nst e = true) (hpl : es.all nst = true) :
    GEx X G (.Call (.Name nm p) (e :: es) [] pos) x := by
  obtain ⟨f, fd, ps, h1, h2, h3, h4⟩ := Hs.ex
  have hw := C.wd
  subst hw
  refine ⟨fun bs B σ H S Wx tk q Q => inE (pe_callS (E := WE Wx) h4 (C.room.mono hj) (C.gl nm hg).1 h1 h2 h3 (fun σ => passAt tk σ) pA (C.gl nm hg).2 (star_cons he) (star_all hpl)) (ha.run bs B σ H S _ fun vs B1 H1 g1 r1 => ?_)⟩
  refine ⟨B1, ds, fun r => ∃ G', r = .ex x G', g1.bh, r1, hc _ fun G' => ⟨G', rfl⟩, (fun _ _ _ _ ⟨_, e'⟩ => by cases e'), (fun _ _ _ _ _ ⟨_, e'⟩ => by cases e'), fun x' G' C' B' H' e' hm g => ?_⟩
  obtain ⟨_, e'⟩ := e'
  cases e'
  exact q C' B' H' hm (g1.trans g)
theorem gs_exprX (he : GEx X G e x) (h : E.rt (.ex x G)) (hs : swapsWith e none pos.line X.env = pure false) : GS X G (.Expr e pos) E := by
  refine ⟨fun bs B σ H S De mm => ?_⟩
  obtain ⟨Wx, tk, q⟩ := mm.xm.xe
  exact inS (ps_expr pE hs) (he.run bs B σ H S Wx tk (fun C B' H' hm g => q x C G B' σ H' h hm (S.gro g)) _)
theorem gs_retX (he : GEx X G e x) (h : E.rt (.ex x G)) : GS X G (.Return (some e) pos) E := by
  refine ⟨fun bs B σ H S De mm => ?_⟩
  obtain ⟨Wx, tk, q⟩ := mm.xm.xe
  exact inS (ps_ret pE) (he.run bs B σ H S Wx tk (fun C B' H' hm g => q x C G B' σ H' h hm (S.gro g)) _)
theorem gs_asgX {y : Str} (C : Cok X W N sc k) (i : Nat) (hl : okL N sc i y = true) (he : GEx X G e x) (h : E.rt (.ex x G)) (hs : swapsWith e (some (.Name y p1)) pos.line X.env = pure false) : GS X G (.Assign [.Name y p1] e pos) E := by
  obtain ⟨h1, h2⟩ := okL_of hl
  obtain ⟨l1, l2⟩ := C.loc y h2
  refine ⟨fun bs B σ H S De mm => ?_⟩
  obtain ⟨Wx, tk, q⟩ := mm.xm.xe
  exact inS (ps_set (by rw [C.N]; exact C.nd) (by rw [C.N]; exact h1) l1 pE hs l2) (he.run bs B σ H S Wx tk (fun C B' H' hm g => q x C G B' σ H' h hm (S.gro g)) _)
theorem gss_raise {m : Str} {j : Nat} {Ca : Addr} (C : Cok X W N sc k) (F : ExK W x Ca) (hg : glB sc x = true) (h : E.rt (.ex x G)) : GSs X G (.Raise (some (.Call (.Name x p) [.Constant (.str m) j p2] [] pos)) none pos' :: sts) E := gs_cons (gs_raise C F hg h)
theorem gss_exprX (he : GEx X G e x) (h : E.rt (.ex x G)) (hs : swapsWith e none pos.line X.env = pure false) : GSs X G (.Expr e pos :: sts) E := gs_cons (gs_exprX he h hs)
theorem gss_expr (he : GE X G e d) (hs : swapsWith e none pos.line X.env = pure false) (h : GSs X G sts E) : GSs X G (.Expr e pos :: sts) E := gs_cons (gs_drop he h hs)
theorem gss_retX (he : GEx X G e x) (h : E.rt (.ex x G)) : GSs X G (.Return (some e) pos :: sts) E := gs_cons (gs_retX he h)
theorem gss_asgX {y : Str} (C : Cok X W N sc k) (i : Nat) (hl : okL N sc i y = true) (he : GEx X G e x) (h : E.rt (.ex x G)) (hs : swapsWith e (some (.Name y p1)) pos.line X.env = pure false) : GSs X G (.Assign [.Name y p1] e pos :: sts) E := gs_cons (gs_asgX C i hl he h hs)
end

/-! ### try .. except X as e -/
/-- within the suite: what isinstance tells of the error -/
structure IsR (W : Wd) (Xs : Cx) (N : List Str) (sc : Scope) (i : Nat) (en x : Str) (a : Addr) : Prop where
  own : ∀ {G : Gm} {y : Str} {p1 p2 p3 p4 : Pos} {Cx Cy : Addr} {b : Bool}, G[i]? = some (.ex a) → W.mg x = some (.ref Cx) → W.mg y = some (.ref Cy) → glB sc y = true → PySem.W.kitOne W.K (.ref Cx) (.ref Cy) = some b →
    GE Xs G (.Call (.Name "isinstance" p1) [.Name en p2, .Name y p3] [] p4) (.bool b)
  blt : ∀ {G : Gm} {y : Str} {p1 p2 p3 p4 : Pos} {Cx : Addr} {T : String} {b : Bool}, G[i]? = some (.ex a) → W.mg x = some (.ref Cx) → W.mg y = none → bootBuiltins y = some (.type T) → y ≠ "__name__" → glB sc y = true → PySem.W.kitOne W.K (.ref Cx) (.type T) = some b →
    GE Xs G (.Call (.Name "isinstance" p1) [.Name en p2, .Name y p3] [] p4) (.bool b)
def noX (rt : Rs → Prop) : Rs → Prop
  | .ex _ _ => False
  | r => rt r
def orX (rt : Rs → Prop) (h : Str → Gm → Prop) : Rs → Prop
  | .ex x G => h x G
  | r => rt r
theorem isr_mk {X : Cx} {W : Wd} {N : List Str} {sc : Scope} {k i : Nat} {en x : Str} {a Ca : Addr} {oe : Obj} {pn : List (Addr × Obj)} (C : Cok X W N sc k) (F : ExK W x Ca) (hv : okV N sc i en = true) (hgi : glB sc "isinstance" = true) (hmi : W.mg "isinstance" = none) (hz : Zc (.ref Ca) none oe) (hd : ∃ vs, oe.data = .fields vs) :
    IsR W (X.suite a ((a, oe) :: pn)) N sc i en x a := by
  have hw := C.wd
  subst hw
  obtain ⟨h1, h2, h3, h4⟩ := okV_of hv
  have hc := call_isE (X := X) (pn := pn) (a := a) F.ic hz hd
  refine ⟨fun {G y p1 p2 p3 p4 Cx Cy b} hG hx hy hgy hk => ?_, fun {G y p1 p2 p3 p4 Cx T b} hG hx hy hby hny hgy hk => ?_⟩
  · have e1 := F.mg.symm.trans hx
    cases e1
    refine ⟨fun bs B σ H S Q q => inE (pe_callB hc (C.gl _ hgi).1 hmi (by decide +kernel) (pa_cons (pe_var (i := i) (by rw [show (X.suite a ((a, oe) :: pn)).N = X.N from rfl, C.N]; exact h1) (C.vis en h2) h3 h4) (pa_cons (pe_glob (C.gl y hgy).1 hy (v := .ref Cy) rfl (C.gl y hgy).2) pa_nil (star_cons rfl)) (star_cons rfl)) (by decide) (C.gl _ hgi).2 (star_cons rfl) (star_all rfl)) ?_⟩
    have hi : i < σ.length := by
      rw [S.len]
      exact (List.getElem?_eq_some_iff.mp hG).1
    have es : σ[i]? = some σ[i] := List.getElem?_eq_getElem hi
    have r : σ[i] = some (.ref a) := S.sl i _ _ hG es
    rw [r] at es
    exact ⟨_, es, .ref Cy, .ref Cy, b, rfl, fun u hu => hu, hk, q _ B H (.refl S.bh) (.bl _)⟩
  · have e1 := F.mg.symm.trans hx
    cases e1
    refine ⟨fun bs B σ H S Q q => inE (pe_callB hc (C.gl _ hgi).1 hmi (by decide +kernel) (pa_cons (pe_var (i := i) (by rw [show (X.suite a ((a, oe) :: pn)).N = X.N from rfl, C.N]; exact h1) (C.vis en h2) h3 h4) (pa_cons (pe_bltn (C.gl y hgy).1 hy hby (v := .ty T) rfl hny (C.gl y hgy).2) pa_nil (star_cons rfl)) (star_cons rfl)) (by decide) (C.gl _ hgi).2 (star_cons rfl) (star_all rfl)) ?_⟩
    have hi : i < σ.length := by
      rw [S.len]
      exact (List.getElem?_eq_some_iff.mp hG).1
    have es : σ[i]? = some σ[i] := List.getElem?_eq_getElem hi
    have r : σ[i] = some (.ref a) := S.sl i _ _ hG es
    rw [r] at es
    exact ⟨_, es, .ty T, .type T, b, rfl, fun u hu => hu, hk, q _ B H (.refl S.bh) (.bl _)⟩
theorem gs_try_as {X : Cx} {G : Gm} {W : Wd} {N : List Str} {sc : Scope} {k : Nat} {E : DE} {en bn : Str} {Cb : Addr} {body suite : List Stmt} {b₀ : Stmt} {np pos pos' : Pos} {Hs : Str → Gm → Prop} (C : Cok X W N sc k) (i : Nat) (hv : okV N sc i en = true) (hl : loc1B sc en = true) (hbn : W.mg bn = some (.ref Cb)) (hgb : glB sc bn = true)
    (hgi : glB sc "isinstance" = true) (hmi : W.mg "isinstance" = none)
    (hb : ∀ X', Cok X' W N sc k → GSs X' G body ⟨E.nx, orX E.rt Hs, E.bk, E.ct⟩)
    (hs : ∀ x G', Hs x G' → ∃ Ca, ExK W x Ca ∧ PySem.W.exmOne W.K (.ref Ca) (.ref Cb) = some true ∧ ∀ Xs a, Cnm Xs W N sc → IsR W Xs N sc i en x a →
      GSs Xs (G'.set i (.ex a)) (b₀ :: suite) ⟨fun G2 => E.nx (G2.set i .no), noX E.rt, fun G2 => E.bk (G2.set i .no), fun G2 => E.ct (G2.set i .no)⟩) :
    GS X G (.Try body [.ExceptHandler (some (.Name bn np)) (some en) (b₀ :: suite) pos'] [] [] pos) E := by
  have hw := C.wd
  subst hw
  obtain ⟨h1, h2, h3, h4⟩ := okV_of hv
  refine ⟨fun bs B σ H S De mm => ?_⟩
  obtain ⟨Wx, tk, qx⟩ := mm.xm.xe
  have nd : X.N.Nodup := by
    rw [C.N]
    exact C.nd
  refine inS (ps_try_as (i := i) (Wout := Wx)
    (tb := fun W' => fun D σ H => ∀ (pn : List (Addr × Obj)) (xe : Value → Shared → Prop), Takes (X.tr pn xe) W' → PassesOwn (model X.prog X.w) X.A X.env xe → tB1 (X.tr pn xe) body D σ H)
    (ts := fun a cls d => fun D σ H => ∀ (oe : Obj) (pn : List (Addr × Obj)), Zc cls d oe → (∃ vs, oe.data = .fields vs) → tB1 (X.suite a ((a, oe) :: pn)) (b₀ :: suite) D σ H)
    mm.xm.top.1 mm.xm.top.2 nd (by rw [C.N]; exact h1) (C.loc1 en hl) ⟨(C.gl bn hgb).1, (C.gl bn hgb).2, .inl hbn⟩ tk
    (fun W' pn xe tk' po => ⟨fun pins s σ H D I h => pB.run pins s σ H D I (h pn xe tk' po)⟩)
    (fun a oe cls d pn hz hd => ⟨fun pins s σ H D I h => pB.run pins s σ H D I (h oe pn hz hd)⟩)) ?_
  intro pn xe tk' po
  have C' : Cok (X.tr pn xe) (wdOf X) N sc k := ⟨⟨rfl, C.nd, C.N, C.vis, C.loc, C.loc1, C.gl, C.fr, C.bk⟩, C.calm, C.room, po⟩
  refine (hb (X.tr pn xe) C').run bs B σ H S De ⟨mm.nx, mm.rf, mm.ro, mm.bk, mm.ct, ⟨mm.xm.top, _, tk', fun x C1 G' B' σ' H' hr hm S' => ?_⟩⟩
  obtain ⟨Ca, F, hx, hsu⟩ := hs x G' hr
  have e1 := F.mg.symm.trans hm
  cases e1
  refine ⟨true, hx, fun _ a ha oe pn2 hz hd => ?_, fun z => nomatch z⟩
  have Cs : Cnm (X.suite a ((a, oe) :: pn2)) (wdOf X) N sc := ⟨rfl, C.nd, C.N, C.vis, C.loc, C.loc1, C.gl, C.fr, C.bk⟩
  refine (hsu _ a Cs (isr_mk C F hv hgi hmi hz hd)).run bs B' _ H' S'.setE _ ⟨fun G2 B2 σ2 H2 g S2 => mm.nx _ B2 _ H2 g S2.setN, mm.rf, mm.ro, fun G2 B2 σ2 H2 g S2 => mm.bk _ B2 _ H2 g S2.setN, fun G2 B2 σ2 H2 g S2 => mm.ct _ B2 _ H2 g S2.setN, ⟨mm.xm.top, fun _ _ _ _ => False, takes0, fun x C G B σ H hr => hr.elim⟩⟩
section
variable {X : Cx} {G : Gm} {e : Expr} {ds : List D} {W : Wd} {N : List Str} {sc : Scope} {k : Nat} {pos p1 : Pos} {E : DE} {x : Str} {sts : List Stmt}
theorem gss_asgON (C : Cnm X W N sc) (i : Nat) (h : okL N sc i x = true) (he : GO X G e ds) (hs : swapsWith e (some (.Name x p1)) pos.line X.env = pure false) (hn : GSs X (G.set i (.ow ds)) sts E) : GSs X G (.Assign [.Name x p1] e pos :: sts) E := by
  obtain ⟨h1, h2⟩ := okL_of h
  obtain ⟨l1, l2⟩ := C.loc x h2
  exact gs_cons ⟨fun bs B σ H S De m => inS (ps_set (by rw [C.N]; exact C.nd) (by rw [C.N]; exact h1) l1 pE hs l2) (he.run bs B σ H S _ fun q vs B1 H1 g q0 q1 q2 r =>
    m.nx _ B1 _ H1 hn (S.setO g q0 rfl ⟨q, vs, rfl, same_none S.gr.h q0, q1, q2, r⟩))⟩
end
/-! ### a list so many times -/
theorem dpa_rep {K : PySem.W.Frag} {B : Hp} {vs : List V} {ds : List D} (h : DpAll K B vs ds) : ∀ n : Nat, DpAll K B (List.replicate n vs).flatten (List.replicate n ds).flatten
  | 0 => .nil
  | n + 1 => by
    rw [List.replicate_succ, List.replicate_succ, List.flatten_cons, List.flatten_cons]
    exact dpa_app h (dpa_rep h n)
theorem go_rep {X : Cx} {G : Gm} {a b : Expr} {xs : List D} {n : Int} {pos : Pos} (ha : GO X G a xs) (hb : GE X G b (.int n)) (h0 : 0 ≤ n) (hn : n < 16777216) (hz : xs.length * n.toNat ≤ 16777216) : GO X G (.BinOp a .Mult b pos) (List.replicate n.toNat xs).flatten :=
  ⟨fun bs B σ H S Q q => inE (pe_op op_rep pE pE) (ha.run bs B σ H S _ fun p vs B1 H1 g1 q0 q1 q2 r => hb.run bs B1 σ H1 (S.gro g1) _ fun w B2 H2 g2 r2 => by
    have l1 := dpa_len r
    refine ⟨p, n, vs, rfl, dp_int r2, g2.h p _ q2, by omega, by omega, by rw [l1, sizeLine_eq]; exact hz, fun p' hp => ?_⟩
    have g := (g1.trans g2).trans (Grow.own (p := p') (o := .lst (List.replicate n.toNat vs).flatten) g2.bh hp)
    exact q p' _ _ _ g (same_none (g1.trans g2).h hp) (same_none g2.bh hp) upd_same (dpa_rep (moA r g2.b) _))⟩
/-! ### the errors of a law -/
def names9 : List Str := ["BodyError", "Flat", "NoPoints", "NoAxis", "NoMove", "NoText", "NoName", "NoRow", "TooGreat"]
structure SubK (W : Wd) (x y : Str) (b : Bool) : Prop where
  ex : ∃ Cx Cy, W.mg x = some (.ref Cx) ∧ W.mg y = some (.ref Cy) ∧ PySem.W.kitOne W.K (.ref Cx) (.ref Cy) = some b ∧ PySem.W.exmOne W.K (.ref Cx) (.ref Cy) = some b
structure ErOne (W : Wd) (x : Str) : Prop where
  ex : ∃ C, ExK W x C ∧ (∀ y ∈ names9, SubK W x y (decide (x = y ∨ y = "BodyError"))) ∧ PySem.W.kitOne W.K (.ref C) (.type "ValueError") = some true ∧ W.mg "ValueError" = none
def Er (W : Wd) (rs : List Str) : Prop := ∀ x ∈ rs, ErOne W x
theorem er_nil {W : Wd} : Er W [] := fun _ h => by cases h
theorem er_cons {W : Wd} {x : Str} {rs : List Str} (h : ErOne W x) (t : Er W rs) : Er W (x :: rs) := fun y hy => by
  rcases List.mem_cons.mp hy with e | e
  · exact e ▸ h
  · exact t y e
theorem kit_ref {K : PySem.W.Frag} {C Cy : Addr} {b : Bool} (hd : PySem.W.hasDictIn K Cy = true) (ht : PySem.W.typeIn K (.ref Cy) = some (.type "type")) (h : PySem.W.subIn K (.ref C) (.ref Cy) = some b) (hs : PySem.W.subIn K (.ref C) (.ref C) = some true) : PySem.W.kitOne K (.ref C) (.ref Cy) = some b := by
  obtain ⟨cd, hc, _⟩ := PySem.W.any_some hd
  unfold PySem.W.kitOne
  split
  · rename_i e
    have e' : C = Cy := Value.ref.inj (beq_iff_eq.mp e)
    subst e'
    exact hs.symm.trans h
  · unfold PySem.W.kitCls
    have e2 : ((PySem.W.clsIn K Cy).isSome && PySem.W.typeIn K (.ref Cy) == some (.type "type")) = true := by rw [hc, ht] <;> rfl
    dsimp only
    rw [if_pos e2]
    exact h
theorem kit_val {K : PySem.W.Frag} {C : Addr} {T : String} {b : Bool} (hm : PySem.W.kitMeta T = true) (h : PySem.W.subIn K (.ref C) (.type T) = some b) : PySem.W.kitOne K (.ref C) (.type T) = some b := by
  unfold PySem.W.kitOne
  rw [if_neg (by intro e; have := beq_iff_eq.mp e; cases this)]
  unfold PySem.W.kitCls
  dsimp only
  rw [if_pos hm]
  exact h
theorem sub_mk {W : Wd} {x y : Str} {Cx Cy : Addr} {b c : Bool} (hx : W.mg x = some (.ref Cx)) (hy : W.mg y = some (.ref Cy)) (hb : PySem.W.subIn W.K (.ref Cy) (.type "BaseException") = some true) (hd : PySem.W.hasDictIn W.K Cy = true) (ht : PySem.W.typeIn W.K (.ref Cy) = some (.type "type"))
    (h : PySem.W.subIn W.K (.ref Cx) (.ref Cy) = some b) (hs : PySem.W.subIn W.K (.ref Cx) (.ref Cx) = some true) (e : b = c) : SubK W x y c := by
  subst e
  exact ⟨Cx, Cy, hx, hy, kit_ref hd ht h hs, PySem.W.exm_ref hb hd ht h⟩
/-- within a suite: isinstance(e, Y) -/
theorem IsR.go {W : Wd} {Xs : Cx} {N : List Str} {sc : Scope} {i : Nat} {en x : Str} {a : Addr} (I : IsR W Xs N sc i en x a) (Z : ErOne W x) {G : Gm} {y : Str} {p1 p2 p3 p4 : Pos} {b : Bool} (hG : G[i]? = some (.ex a)) (hg : glB sc y = true) (hy : y ∈ names9) (hb : decide (x = y ∨ y = "BodyError") = b) :
    GE Xs G (.Call (.Name "isinstance" p1) [.Name en p2, .Name y p3] [] p4) (.bool b) := by
  obtain ⟨C, _, h, _, _⟩ := Z.ex
  obtain ⟨Cx, Cy, h1, h2, h3, _⟩ := (h y hy).ex
  subst hb
  exact I.own hG h1 h2 hg h3
theorem IsR.goV {W : Wd} {Xs : Cx} {N : List Str} {sc : Scope} {i : Nat} {en x : Str} {a : Addr} (I : IsR W Xs N sc i en x a) (Z : ErOne W x) {G : Gm} {p1 p2 p3 p4 : Pos} (hG : G[i]? = some (.ex a)) (hg : glB sc "ValueError" = true) :
    GE Xs G (.Call (.Name "isinstance" p1) [.Name en p2, .Name "ValueError" p3] [] p4) (.bool true) := by
  obtain ⟨C, F, _, h, hv⟩ := Z.ex
  exact I.blt hG F.mg hv (by decide +kernel) (by decide) hg h
/-- except BodyError as e -/
theorem gs_tryB {X : Cx} {G : Gm} {W : Wd} {N : List Str} {sc : Scope} {k : Nat} {E : DE} {en : Str} {rs : List Str} {body suite : List Stmt} {b₀ : Stmt} {np pos pos' : Pos} {Hs : Str → Gm → Prop} (C : Cok X W N sc k) (Z : Er W rs) (i : Nat) (hv : okV N sc i en = true) (hl : loc1B sc en = true) (hgb : glB sc "BodyError" = true) (hbm : ∃ Cb, W.mg "BodyError" = some (.ref Cb))
    (hgi : glB sc "isinstance" = true) (hmi : W.mg "isinstance" = none)
    (hb : ∀ X', Cok X' W N sc k → GSs X' G body ⟨E.nx, orX E.rt Hs, E.bk, E.ct⟩)
    (hs : ∀ x G', Hs x G' → x ∈ rs ∧ ∀ Xs a, Cnm Xs W N sc → IsR W Xs N sc i en x a →
      GSs Xs (G'.set i (.ex a)) (b₀ :: suite) ⟨fun G2 => E.nx (G2.set i .no), noX E.rt, fun G2 => E.bk (G2.set i .no), fun G2 => E.ct (G2.set i .no)⟩) :
    GS X G (.Try body [.ExceptHandler (some (.Name "BodyError" np)) (some en) (b₀ :: suite) pos'] [] [] pos) E := by
  obtain ⟨Cb, hCb⟩ := hbm
  refine gs_try_as C i hv hl hCb hgb hgi hmi hb fun x G' h => ?_
  obtain ⟨hx, hsu⟩ := hs x G' h
  obtain ⟨Ca, F, hsub, _, _⟩ := (Z x hx).ex
  obtain ⟨Cx, Cy, h1, h2, h3, h4⟩ := (hsub "BodyError" (by decide)).ex
  have e1 := F.mg.symm.trans h1
  cases e1
  have e2 := hCb.symm.trans h2
  cases e2
  rw [show decide (x = "BodyError" ∨ ("BodyError" : Str) = "BodyError") = true from decide_eq_true (.inr rfl)] at h4
  exact ⟨Ca, F, h4, hsu⟩
theorem er_body {W : Wd} {x : Str} {rs : List Str} (Z : Er W (x :: rs)) : ∃ Cb, W.mg "BodyError" = some (.ref Cb) := by
  obtain ⟨_, _, h, _, _⟩ := (Z x List.mem_cons_self).ex
  obtain ⟨_, Cy, _, h2, _⟩ := (h "BodyError" (by decide)).ex
  exact ⟨Cy, h2⟩
end DW

namespace DW
open PySem PySem.Spec PyProof.Rows L2
def way (P Q : P3) : P3 := ⟨Q.x - P.x, Q.y - P.y, Q.z - P.z⟩
def cross (u v : P3) : P3 := ⟨u.y * v.z - u.z * v.y, u.z * v.x - u.x * v.z, u.x * v.y - u.y * v.x⟩
def prod (u v : P3) : Int := u.x * v.x + u.y * v.y + u.z * v.z
def lift (P Q R S : P3) : Int := prod (cross (way P Q) (way P R)) (way P S)
structure P3.Bd (n : Nat) (u : P3) : Prop where
  x : DW.Bd n u.x
  y : DW.Bd n u.y
  z : DW.Bd n u.z
theorem P3.ext {u v : P3} (h1 : u.x = v.x) (h2 : u.y = v.y) (h3 : u.z = v.z) : u = v := by
  obtain ⟨a, b, c⟩ := u
  obtain ⟨a', b', c'⟩ := v
  cases h1
  cases h2
  cases h3
  rfl
def sideA (p : Pl) (P : P3) : Int := if prod p.n P - p.d > 0 then 1 else if prod p.n P - p.d < 0 then -1 else 0
theorem P3.Bd.mono {n m : Nat} {u : P3} (h : P3.Bd n u) (e : n ≤ m) : P3.Bd m u := ⟨h.x.mono e, h.y.mono e, h.z.mono e⟩
theorem P3.Bd.way {n : Nat} {u v : P3} (h : P3.Bd n u) (g : P3.Bd n v) : P3.Bd (n + 1) (way u v) := ⟨(g.x.sub h.x).mono (by omega), (g.y.sub h.y).mono (by omega), (g.z.sub h.z).mono (by omega)⟩
theorem P3.Bd.cross {n : Nat} {u v : P3} (h : P3.Bd n u) (g : P3.Bd n v) : P3.Bd (n + n + 1) (cross u v) := ⟨((h.y.mul g.z).sub (h.z.mul g.y)).mono (by omega), ((h.z.mul g.x).sub (h.x.mul g.z)).mono (by omega), ((h.x.mul g.y).sub (h.y.mul g.x)).mono (by omega)⟩
theorem P3.Bd.prod {n : Nat} {u v : P3} (h : P3.Bd n u) (g : P3.Bd n v) : DW.Bd (n + n + 2) (prod u v) := (((h.x.mul g.x).add (h.y.mul g.y)).add (h.z.mul g.z)).mono (by omega)
def p3g (w : P3) : Int := Int.gcd (Int.gcd w.x w.y) w.z
theorem p3g_pos {w : P3} (h : ¬(w.x = 0 ∧ w.y = 0 ∧ w.z = 0)) : 0 < p3g w := by
  unfold p3g
  have h0 : Int.gcd (Int.gcd w.x w.y) w.z ≠ 0 := by
    intro e
    rw [Int.gcd_eq_zero_iff] at e
    have e2 : Int.gcd w.x w.y = 0 := by omega
    rw [Int.gcd_eq_zero_iff] at e2
    exact h ⟨e2.1, e2.2, e.2⟩
  omega
theorem p3g_bd {w : P3} {n : Nat} (h : P3.Bd n w) (hp : 0 < p3g w) : Bd n (p3g w) := by
  have d1 : (p3g w) ∣ w.x := Int.dvd_trans (Int.gcd_dvd_left ..) (Int.gcd_dvd_left ..)
  have d2 : (p3g w) ∣ w.y := Int.dvd_trans (Int.gcd_dvd_left ..) (Int.gcd_dvd_right ..)
  have d3 : (p3g w) ∣ w.z := Int.gcd_dvd_right ..
  have key : ∀ z : Int, Bd n z → p3g w ∣ z → z ≠ 0 → Bd n (p3g w) := fun z hz hd h0 => by
    have := Nat.le_of_dvd (by omega) (Int.natAbs_dvd_natAbs.mpr hd)
    exact Nat.lt_of_le_of_lt this hz
  by_cases hx : w.x = 0
  · by_cases hy : w.y = 0
    · by_cases hz : w.z = 0
      · exfalso
        unfold p3g at hp
        rw [hx, hy, hz] at hp
        exact absurd hp (by decide)
      · exact key _ h.z d3 hz
    · exact key _ h.y d2 hy
  · exact key _ h.x d1 hx
def divP (w : P3) (m : Int) : P3 := ⟨w.x / m, w.y / m, w.z / m⟩
def planeOf (c P : P3) : Pl := ⟨divP c (p3g c), prod (divP c (p3g c)) P⟩
def planeA (P Q R : P3) : Pl := planeOf (cross (way P Q) (way P R)) P
theorem P3.Bd.divP {n : Nat} {w : P3} {m : Int} (h : P3.Bd n w) (hm : 0 < m) : P3.Bd n (divP w m) := ⟨h.x.div hm, h.y.div hm, h.z.div hm⟩
theorem gcd_nat_left (a b : Int) : Int.gcd ((Int.gcd 0 a : Nat) : Int) b = Int.gcd a b := by
  rw [Int.gcd_zero_left]
  show Nat.gcd (Int.natAbs ((a.natAbs : Nat) : Int)) b.natAbs = Nat.gcd a.natAbs b.natAbs
  rw [Int.natAbs_natCast]
theorem p3g_fold (w : P3) : ((Int.gcd ((Int.gcd ((Int.gcd 0 w.x : Nat) : Int) w.y : Nat) : Int) w.z : Nat) : Int) = p3g w := by
  unfold p3g
  rw [gcd_nat_left]
theorem p3g_div {w : P3} (h : 0 < p3g w) : w.x = (w.x / p3g w) * p3g w ∧ w.y = (w.y / p3g w) * p3g w ∧ w.z = (w.z / p3g w) * p3g w := by
  have d1 : (p3g w) ∣ w.x := Int.dvd_trans (Int.gcd_dvd_left ..) (Int.gcd_dvd_left ..)
  have d2 : (p3g w) ∣ w.y := Int.dvd_trans (Int.gcd_dvd_left ..) (Int.gcd_dvd_right ..)
  have d3 : (p3g w) ∣ w.z := Int.gcd_dvd_right ..
  exact ⟨(Int.ediv_mul_cancel d1).symm, (Int.ediv_mul_cancel d2).symm, (Int.ediv_mul_cancel d3).symm⟩
theorem P3.Bd.mem {n : Nat} {u : P3} {a : Int} (h : P3.Bd n u) (m : a ∈ [u.x, u.y, u.z]) : DW.Bd n a := by
  simp only [List.mem_cons, List.not_mem_nil, or_false] at m
  rcases m with rfl | rfl | rfl
  · exact h.x
  · exact h.y
  · exact h.z
theorem lagrange (u v : P3) : prod (cross u v) (cross u v) + prod u v * prod u v = prod u u * prod v v := by
  obtain ⟨a, b, c⟩ := u
  obtain ⟨d, e, f⟩ := v
  simp only [prod, cross]
  grind
theorem sgn_mul {z g l : Int} (hg : 0 < g) (key : l = z * g) : (if z > 0 then (1 : Int) else if z < 0 then -1 else 0) = (if l > 0 then 1 else 0) - (if l < 0 then 1 else 0) := by
  subst key
  rcases Int.lt_trichotomy z 0 with h | h | h
  · have : z * g < 0 := Int.mul_neg_of_neg_of_pos h hg
    rw [if_neg (by omega), if_pos h, if_neg (by omega), if_pos this]
    rfl
  · subst h
    simp
  · have : 0 < z * g := Int.mul_pos h hg
    rw [if_pos h, if_pos this, if_neg (by omega)]
    rfl
theorem lift_plane {P Q S T : P3} (hg : 0 < p3g (cross (way P Q) (way P S))) : lift P Q S T = (prod (planeA P Q S).n T - (planeA P Q S).d) * p3g (cross (way P Q) (way P S)) := by
  obtain ⟨q1, q2, q3⟩ := p3g_div hg
  show prod (cross (way P Q) (way P S)) (way P T) = (prod (divP _ _) T - prod (divP _ _) P) * _
  generalize p3g (cross (way P Q) (way P S)) = g at q1 q2 q3
  generalize cross (way P Q) (way P S) = c at q1 q2 q3
  simp only [prod, way, divP]
  generalize c.x / g = a at q1
  generalize c.y / g = b at q2
  generalize c.z / g = d at q3
  rw [q1, q2, q3]
  obtain ⟨p1, p2, p3⟩ := P
  obtain ⟨t1, t2, t3⟩ := T
  clear q1 q2 q3 hg
  grind
theorem faces_zero (P Q S T : P3) : (⟨(cross (way P Q) (way P S)).x + ((cross (way P S) (way P T)).x + ((cross (way P T) (way P Q)).x + ((cross (way Q T) (way Q S)).x + 0))), (cross (way P Q) (way P S)).y + ((cross (way P S) (way P T)).y + ((cross (way P T) (way P Q)).y + ((cross (way Q T) (way Q S)).y + 0))), (cross (way P Q) (way P S)).z + ((cross (way P S) (way P T)).z + ((cross (way P T) (way P Q)).z + ((cross (way Q T) (way Q S)).z + 0)))⟩ : P3) = ⟨0, 0, 0⟩ := by
  simp only [cross, way]
  apply P3.ext
  all_goals
    dsimp only
    grind
theorem P3.Bd.at {n : Nat} {u : P3} {a : Int} (h : P3.Bd n u) : DW.Bd n (u.at a) := by
  unfold P3.at
  split
  · exact h.x
  · split
    · exact h.y
    · exact h.z
theorem cross_cyc (P Q S : P3) : cross (way Q S) (way Q P) = cross (way P Q) (way P S) := by
  apply P3.ext
  all_goals
    simp only [cross, way]
    grind
def negP (u : P3) : P3 := ⟨-u.x, -u.y, -u.z⟩
theorem cross_sw (u v : P3) : cross v u = negP (cross u v) := by
  apply P3.ext
  all_goals
    simp only [cross, negP]
    grind
theorem p3g_neg (u : P3) : p3g (negP u) = p3g u := by
  unfold p3g negP
  simp only [Int.gcd_neg, Int.neg_gcd]
theorem lift_self (P Q S : P3) : lift P Q S Q = 0 ∧ lift P Q S S = 0 := by
  simp only [lift, prod, cross, way]
  constructor
  · grind
  · grind
theorem plane_on {P Q S : P3} (hg : 0 < p3g (cross (way P Q) (way P S))) : prod (planeA P Q S).n Q = (planeA P Q S).d ∧ prod (planeA P Q S).n S = (planeA P Q S).d := by
  have h1 := lift_plane (T := Q) hg
  have h2 := lift_plane (T := S) hg
  rw [(lift_self P Q S).1] at h1
  rw [(lift_self P Q S).2] at h2
  have e1 := (Int.mul_eq_zero.mp h1.symm).resolve_right (by omega)
  have e2 := (Int.mul_eq_zero.mp h2.symm).resolve_right (by omega)
  omega
theorem planeA_cyc {P Q S : P3} (hg : 0 < p3g (cross (way P Q) (way P S))) : planeA Q S P = planeA P Q S := by
  have h := (plane_on hg).1
  show planeOf (cross (way Q S) (way Q P)) Q = planeOf (cross (way P Q) (way P S)) P
  rw [cross_cyc]
  unfold planeOf
  congr 1
theorem divP_neg {c : P3} (hg : 0 < p3g c) : divP (negP c) (p3g c) = negP (divP c (p3g c)) := by
  have d1 : (p3g c) ∣ c.x := Int.dvd_trans (Int.gcd_dvd_left ..) (Int.gcd_dvd_left ..)
  have d2 : (p3g c) ∣ c.y := Int.dvd_trans (Int.gcd_dvd_left ..) (Int.gcd_dvd_right ..)
  have d3 : (p3g c) ∣ c.z := Int.gcd_dvd_right ..
  unfold divP negP
  rw [Int.neg_ediv_of_dvd d1, Int.neg_ediv_of_dvd d2, Int.neg_ediv_of_dvd d3]
theorem planeA_sw {P Q S : P3} (hg : 0 < p3g (cross (way P Q) (way P S))) : planeA P S Q = ⟨negP (planeA P Q S).n, -(planeA P Q S).d⟩ := by
  show planeOf (cross (way P S) (way P Q)) P = ⟨negP (divP (cross (way P Q) (way P S)) (p3g (cross (way P Q) (way P S)))), -(prod (divP (cross (way P Q) (way P S)) (p3g (cross (way P Q) (way P S)))) P)⟩
  rw [cross_sw]
  generalize cross (way P Q) (way P S) = c at hg
  unfold planeOf
  rw [p3g_neg, divP_neg hg]
  generalize divP c (p3g c) = n
  congr 1
  simp only [prod, negP]
  grind
end DW

namespace DW
open PySem PySem.Spec PyProof.Rows L2
instance {n : Nat} {i : Int} : Decidable (Bd n i) := inferInstanceAs (Decidable (i.natAbs < 2 ^ n))
/-! the cells and numbers of the first laws -/
def cellA (ns : List Int) (k : Int) : Int := if k < (ns.length : Int) then ns.getD k.toNat 0 else 7 * k * k + 10 * k + 3
theorem getD_mem {ns : List Int} {k : Nat} (h : k < ns.length) : ns.getD k 0 ∈ ns := by
  rw [List.getD_eq_getElem?_getD, List.getElem?_eq_getElem h]
  exact List.getElem_mem h
theorem cellA_bd {ns : List Int} {k : Int} (hb : ∀ z ∈ ns, Bd 1048576 z) (h0 : 0 ≤ k) (h1 : k ≤ 100) : Bd 1048576 (cellA ns k) := by
  unfold cellA
  split
  · exact hb _ (getD_mem (by omega))
  · have e : Bd 100 (7 * k * k + 10 * k + 3) := by
      have hk : Bd 7 k := by
        show k.natAbs < 2 ^ 7
        omega
      have h7 : Bd 3 7 := by decide
      have h10 : Bd 4 10 := by decide
      have h3 : Bd 2 3 := by decide
      exact ((((h7.mul hk).mul hk).add (h10.mul hk)).add h3).mono (by decide)
    exact e.mono (by decide)
def greatA : Int := 10 ^ 64 * 10 ^ 34
def numA (c : Int) : Int := if c % 5 = 0 then c / 5 * (greatA / 8675309 + 11) % (2 * greatA + 1) - greatA else if c % 5 = 1 then c / 5 % 2000001 - 1000000 else c / 5 % 15 - 7
theorem greatA_bd : Bd 330 greatA := by decide +kernel
theorem greatA_pos : 0 < greatA := by decide +kernel
theorem bd_emod {n : Nat} {a m : Int} (h : 0 < m) (g : Bd n m) : Bd n (a % m) := Bd.mod h g
theorem numA_bd (c : Int) : Bd 400 (numA c) := by
  unfold numA
  split
  · have h1 : Bd 330 (2 * greatA + 1) := by decide +kernel
    have h2 : Bd 330 greatA := by decide +kernel
    exact (Bd.sub (Bd.mod (by decide +kernel) h1) h2).mono (by decide)
  · split
    · have h1 : Bd 30 (2000001 : Int) := by decide
      have h2 : Bd 30 (1000000 : Int) := by decide
      exact (Bd.sub (Bd.mod (by decide) h1) h2).mono (by decide)
    · have h1 : Bd 30 (15 : Int) := by decide
      have h2 : Bd 30 (7 : Int) := by decide
      exact (Bd.sub (Bd.mod (by decide) h1) h2).mono (by decide)
def wayR (c0 c1 c2 : Int) : P3 := if numA c0 = 0 ∧ numA c1 = 0 ∧ numA c2 = 0 then ⟨0, 2, -1⟩ else ⟨numA c0, numA c1, numA c2⟩
def wayN (c0 c1 c2 : Int) : P3 := ⟨(wayR c0 c1 c2).x / p3g (wayR c0 c1 c2), (wayR c0 c1 c2).y / p3g (wayR c0 c1 c2), (wayR c0 c1 c2).z / p3g (wayR c0 c1 c2)⟩
theorem wayR_bd (c0 c1 c2 : Int) : P3.Bd 400 (wayR c0 c1 c2) := by
  unfold wayR
  split
  · exact ⟨by decide, by decide, by decide⟩
  · exact ⟨numA_bd _, numA_bd _, numA_bd _⟩
theorem wayR_pos (c0 c1 c2 : Int) : 0 < p3g (wayR c0 c1 c2) := by
  apply p3g_pos
  unfold wayR
  split
  · decide
  · assumption
theorem wayN_bd (c0 c1 c2 : Int) : P3.Bd 400 (wayN c0 c1 c2) := by
  have h := wayR_bd c0 c1 c2
  have p := wayR_pos c0 c1 c2
  exact ⟨h.x.div p, h.y.div p, h.z.div p⟩

end DW

namespace DW
open PySem PySem.Spec PyProof.Rows L2
def topS (i : Nat) : Stmt := PySem.Challenge.pw_stakebodies_k03_planes.main.body.getD i (.Pass ⟨0, 0, 0, 0⟩)
set_option hygiene false in
local macro_rules | `(tactic| walk_at "dw.hc") => `(tactic| (intro R_ h_; repeat' (first
  | exact h_
  | exact rfl
  | (with_reducible assumption)
  | ((with_reducible show P3.Bd _ _); refine P3.Bd.mono (by with_reducible assumption) (by decide))
  | ((with_reducible show DW.Bd _ _); first | refine DW.Bd.mono (by with_reducible assumption) (by decide) | (with_reducible exact numA_bd _) | (with_reducible apply hcb))
  | ((with_reducible show _ ≤ _); first | omega | (dsimp only; omega))
  | ((with_reducible show _ < _); first | omega | (dsimp only; omega))
  | apply Exists.intro
  | apply And.intro
  | apply Or.inl)))
set_option hygiene false in
local macro_rules | `(tactic| walk_at "dw.v") => `(tactic| first
  | ((with_reducible apply ge_v C _ v0) <;> rfl)
  | ((with_reducible apply ge_v C _ v1) <;> rfl)
  | ((with_reducible apply ge_v C _ v2) <;> rfl)
  | ((with_reducible apply ge_v C _ v3) <;> rfl)
  | ((with_reducible apply ge_v C _ v4) <;> rfl)
  | ((with_reducible apply ge_v C _ v5) <;> rfl)
  | ((with_reducible apply ge_v C _ v6) <;> rfl)
  | ((with_reducible apply ge_v C _ v7) <;> rfl)
  | ((with_reducible apply ge_v C _ v8) <;> rfl)
  | ((with_reducible apply ge_v C _ v9) <;> rfl)
  | ((with_reducible apply ge_v C _ v10) <;> rfl)
  | ((with_reducible apply ge_v C _ v11) <;> rfl)
  | ((with_reducible apply ge_v C _ v12) <;> rfl)
  | ((with_reducible apply ge_v C _ v13) <;> rfl)
  | ((with_reducible apply ge_v C _ v14) <;> rfl)
  | ((with_reducible apply ge_v C _ v15) <;> rfl)
  | ((with_reducible apply ge_v C _ v16) <;> rfl)
  | ((with_reducible apply ge_v C _ v17) <;> rfl)
  | ((with_reducible apply ge_v C _ v18) <;> rfl)
  | ((with_reducible apply ge_v C _ v19) <;> rfl)
  | ((with_reducible apply ge_v C 0); (case h => decide +kernel); (case hG => rfl))
  | ((with_reducible apply ge_v C 1); (case h => decide +kernel); (case hG => rfl))
  | ((with_reducible apply ge_v C 2); (case h => decide +kernel); (case hG => rfl))
  | ((with_reducible apply ge_v C 3); (case h => decide +kernel); (case hG => rfl))
  | ((with_reducible apply ge_v C 4); (case h => decide +kernel); (case hG => rfl))
  | ((with_reducible apply ge_v C 5); (case h => decide +kernel); (case hG => rfl))
  | ((with_reducible apply ge_v C 6); (case h => decide +kernel); (case hG => rfl))
  | ((with_reducible apply ge_v C 7); (case h => decide +kernel); (case hG => rfl))
  | ((with_reducible apply ge_v C 8); (case h => decide +kernel); (case hG => rfl))
  | ((with_reducible apply ge_v C 9); (case h => decide +kernel); (case hG => rfl))
  | ((with_reducible apply ge_v C 10); (case h => decide +kernel); (case hG => rfl))
  | ((with_reducible apply ge_v C 11); (case h => decide +kernel); (case hG => rfl))
  | ((with_reducible apply ge_v C 12); (case h => decide +kernel); (case hG => rfl))
  | ((with_reducible apply ge_v C 13); (case h => decide +kernel); (case hG => rfl))
  | ((with_reducible apply ge_v C 14); (case h => decide +kernel); (case hG => rfl))
  | ((with_reducible apply ge_v C 15); (case h => decide +kernel); (case hG => rfl))
  | ((with_reducible apply ge_v C 16); (case h => decide +kernel); (case hG => rfl))
  | ((with_reducible apply ge_v C 17); (case h => decide +kernel); (case hG => rfl))
  | ((with_reducible apply ge_v C 18); (case h => decide +kernel); (case hG => rfl))
  | ((with_reducible apply ge_v C 19); (case h => decide +kernel); (case hG => rfl)))
set_option hygiene false in
local macro_rules | `(tactic| walk_at "dw.o") => `(tactic| (with_reducible show GL _ _ (Expr.Name _ _) _); first
  | ((with_reducible apply gl_v C _ v0) <;> rfl)
  | ((with_reducible apply gl_v C _ v1) <;> rfl)
  | ((with_reducible apply gl_v C _ v2) <;> rfl)
  | ((with_reducible apply gl_v C _ v3) <;> rfl)
  | ((with_reducible apply gl_v C _ v4) <;> rfl)
  | ((with_reducible apply gl_v C _ v5) <;> rfl)
  | ((with_reducible apply gl_v C _ v6) <;> rfl)
  | ((with_reducible apply gl_v C _ v7) <;> rfl)
  | ((with_reducible apply gl_v C _ v8) <;> rfl)
  | ((with_reducible apply gl_v C _ v9) <;> rfl)
  | ((with_reducible apply gl_v C _ v10) <;> rfl)
  | ((with_reducible apply gl_v C _ v11) <;> rfl)
  | ((with_reducible apply gl_v C _ v12) <;> rfl)
  | ((with_reducible apply gl_v C _ v13) <;> rfl)
  | ((with_reducible apply gl_v C _ v14) <;> rfl)
  | ((with_reducible apply gl_v C _ v15) <;> rfl)
  | ((with_reducible apply gl_v C _ v16) <;> rfl)
  | ((with_reducible apply gl_v C _ v17) <;> rfl)
  | ((with_reducible apply gl_v C _ v18) <;> rfl)
  | ((with_reducible apply gl_v C _ v19) <;> rfl)
  | ((with_reducible apply gl_v C 0); (case h => decide +kernel); (case hG => rfl))
  | ((with_reducible apply gl_v C 1); (case h => decide +kernel); (case hG => rfl))
  | ((with_reducible apply gl_v C 2); (case h => decide +kernel); (case hG => rfl))
  | ((with_reducible apply gl_v C 3); (case h => decide +kernel); (case hG => rfl))
  | ((with_reducible apply gl_v C 4); (case h => decide +kernel); (case hG => rfl))
  | ((with_reducible apply gl_v C 5); (case h => decide +kernel); (case hG => rfl))
  | ((with_reducible apply gl_v C 6); (case h => decide +kernel); (case hG => rfl))
  | ((with_reducible apply gl_v C 7); (case h => decide +kernel); (case hG => rfl))
  | ((with_reducible apply gl_v C 8); (case h => decide +kernel); (case hG => rfl))
  | ((with_reducible apply gl_v C 9); (case h => decide +kernel); (case hG => rfl))
  | ((with_reducible apply gl_v C 10); (case h => decide +kernel); (case hG => rfl))
  | ((with_reducible apply gl_v C 11); (case h => decide +kernel); (case hG => rfl))
  | ((with_reducible apply gl_v C 12); (case h => decide +kernel); (case hG => rfl))
  | ((with_reducible apply gl_v C 13); (case h => decide +kernel); (case hG => rfl))
  | ((with_reducible apply gl_v C 14); (case h => decide +kernel); (case hG => rfl))
  | ((with_reducible apply gl_v C 15); (case h => decide +kernel); (case hG => rfl))
  | ((with_reducible apply gl_v C 16); (case h => decide +kernel); (case hG => rfl))
  | ((with_reducible apply gl_v C 17); (case h => decide +kernel); (case hG => rfl))
  | ((with_reducible apply gl_v C 18); (case h => decide +kernel); (case hG => rfl))
  | ((with_reducible apply gl_v C 19); (case h => decide +kernel); (case hG => rfl)))
local macro_rules | `(tactic| walk_at "dw.nf") => `(tactic| (apply GSs.is; (case e => ((try simp only [List.set_cons_zero, List.set_cons_succ]); try exact rfl))))
local macro_rules | `(tactic| walk_at "dw.gl") => `(tactic| first | (with_reducible assumption) | decide +kernel)
set_option hygiene false in
local macro_rules | `(tactic| walk_at "dw.b") => `(tactic| repeat' first
  | (with_reducible assumption)
  | with_reducible apply Bd.mul | with_reducible apply Bd.add | with_reducible apply Bd.sub | with_reducible apply Bd.neg
  | (with_reducible exact Bd.lit (i := OfNat.ofNat _))
  | ((with_reducible show Bd _ (P3.x _)); refine P3.Bd.x (by with_reducible assumption))
  | ((with_reducible show Bd _ (P3.y _)); refine P3.Bd.y (by with_reducible assumption))
  | ((with_reducible show Bd _ (P3.z _)); refine P3.Bd.z (by with_reducible assumption))
  | ((with_reducible apply Bd.mod (by decide)))
  | ((with_reducible refine Bd.div ?_ (by decide)))
  | ((with_reducible show Bd _ (P3.at _ _)); refine P3.Bd.at (by with_reducible assumption))
  | (with_reducible exact P3.Bd.mem (by with_reducible assumption) ha)
  | (with_reducible exact numA_bd _))
set_option hygiene false in
local macro_rules | `(tactic| walk_at "dw.GE") => `(tactic| first
  | ((with_reducible show GE _ _ (Expr.Name _ _) _); walk_at "dw.v")
  | ((with_reducible show GE _ _ (Expr.Subscript _ (Expr.Slice _ _ _ _) _) _); first | (with_reducible apply ge_sl3; walk_at "dw.v") | with_reducible apply ge_slT)
  | ((with_reducible show GE _ _ (Expr.ListComp _ _ _ _) _); with_reducible apply GO.ge)
  | ((with_reducible show GE _ _ (Expr.List _ _) _); with_reducible apply GO.ge)
  | with_reducible exact ge_int | with_reducible apply ge_ix | with_reducible apply ge_add | with_reducible apply ge_sub | with_reducible apply ge_mul | with_reducible apply ge_p3 | with_reducible apply ge_p4 | with_reducible exact ge_str | with_reducible exact ge_bl | with_reducible exact ge_non
  | ((with_reducible show GE _ _ (Expr.Call (Expr.Name _ _) _ _ _) _); walk_at "dw.call")
  | with_reducible apply ge_cp C | with_reducible apply ge_div | with_reducible apply ge_mod | with_reducible apply ge_fmod | with_reducible apply ge_pow | with_reducible apply ge_neg | with_reducible apply ge_and | with_reducible apply ge_or | with_reducible apply ge_one | with_reducible apply ge_not | with_reducible apply ge_andT | with_reducible apply ge_orF | with_reducible apply ge_notF | with_reducible apply ge_notT | with_reducible apply ge_slT | with_reducible apply ge_tup)
set_option hygiene false in
local macro_rules | `(tactic| walk_at "dw.call") => `(tactic| first
  | with_reducible apply ge_sumC C | with_reducible apply ge_len C | with_reducible apply ge_abs C | with_reducible apply ge_max C | with_reducible apply ge_min C | with_reducible apply ge_intB C | with_reducible apply ge_isi C | with_reducible apply ge_tupleL C
  | ((with_reducible apply ge_call C); (with_reducible case Hs => assumption)))
set_option hygiene false in
local macro_rules | `(tactic| walk_at "dw.1") => `(tactic| first
  | ((with_reducible show GE _ _ _ _); walk_at "dw.GE")
  | ((with_reducible show IxV _ _ _); first | exact IxV.tup rfl | exact IxV.lst rfl | exact IxV.own rfl | exact ix3 (by omega) (by omega))
  | ((with_reducible show GV _ _ _ _); first | ((with_reducible apply GV.l); walk_at "dw.o") | with_reducible apply GV.s)
  | ((with_reducible show PlainIx _); intro _ _; rfl)
  | ((with_reducible show IntMulOk _ _); refine' Bd.ok ?_a ?_b ?_c; (case _a => walk_at "dw.b"); (case _b => walk_at "dw.b"); (case _c => decide))
  | ((with_reducible show AddD _ _ _); first | exact AddD.int _ _ | exact AddD.tup _ _ (by decide) | exact AddD.lst _ _ (by decide))
  | ((with_reducible show glB _ _ = true); walk_at "dw.gl")
  | ((with_reducible show Wd.mg _ _ = none); with_reducible first | exact B.len | exact B.isinstance | exact B.int | exact B.bool | exact B.tuple | exact B.range | exact B.abs | exact B.max | exact B.min | exact B.list | exact B.sum | exact B.sorted | exact B.str | exact B.set | exact B.zip | exact B.reversed | exact B.dict)
  | ((with_reducible show bootBuiltins _ = _); with_reducible first | exact bt_int | exact bt_bool | exact bt_tuple | exact bt_list | exact bt_str)
  | ((with_reducible show _ ≠ _); first | (with_reducible assumption) | decide | omega)
  | ((with_reducible show _ ≤ _); with_reducible exact Nat.le_refl _)
  | ((with_reducible show List.length _ ≤ sizeLine); exact Nat.le_of_ble_eq_true rfl)
  | ((with_reducible show (0 : Int) < _); first | decide | assumption | omega)
  | ((with_reducible show CDivW _ _); refine' Bd.dv ?_a ?_b ?_c; (case _a => first | decide | assumption | omega); (case _b => walk_at "dw.b"); (case _c => decide))
  | ((with_reducible show CPow _ _); exact ⟨by decide, by decide, by decide +kernel⟩)
  | ((with_reducible show nst _ = true); rfl) | ((with_reducible show SeqAt.shaped _ = true); rfl) | ((with_reducible show List.all _ _ = true); rfl)
  | ((with_reducible show GH _ _ (Expr.List _ _) _); (with_reducible apply GL.gh); (with_reducible apply GO.gl); (with_reducible apply go_lst))
  | ((with_reducible show GH _ _ (Expr.ListComp _ _ _ _) _); (with_reducible apply GL.gh); (with_reducible apply GO.gl))
  | ((with_reducible show GH _ _ (Expr.Name _ _) _); first | ((with_reducible apply GE.gh); walk_at "dw.v") | ((with_reducible apply GL.gh); walk_at "dw.o"))
  | ((with_reducible show GH _ _ _ _); first | ((with_reducible apply GL.gh); walk_at "dw.o") | with_reducible apply GE.gh)
  | ((with_reducible show CmpD _ _ _ _); first | with_reducible exact cmp_eq3 _ _ | with_reducible exact cmp_ne3 _ _ | with_reducible exact cmp_eq4 _ _ | with_reducible exact cmp_ne4 _ _ | with_reducible apply cmp_ne3F | with_reducible apply cmp_eq3T | with_reducible apply cmp_ne4F | with_reducible apply cmp_eq4T | with_reducible apply cmp_eq3F | with_reducible apply cmp_ne3T | with_reducible exact cmp_in3 _ _ | with_reducible exact cmp_nin3 _ _ | with_reducible exact cmp_neN3 _ | with_reducible exact cmp_eqN3 _ | with_reducible exact cmp_neNI _ | with_reducible exact cmp_eqNI _ | exact CmpD.eqI _ _ | exact CmpD.neI _ _ | exact cmp_eqI [_, _, _] [_, _, _] | exact cmp_neI [_, _, _] [_, _, _] | exact CmpD.lt _ _ | exact CmpD.le _ _ | exact CmpD.gt _ _ | exact CmpD.ge _ _ | exact CmpD.isN _ | exact CmpD.notN _ | exact CmpD.eq _ _ rfl rfl | exact CmpD.ne _ _ rfl rfl | with_reducible exact cmp_eqT rfl | with_reducible exact cmp_neF rfl | ((with_reducible refine' cmp_eqTd rfl ?_); rfl) | ((with_reducible refine' cmp_neFd rfl ?_); rfl) | exact cmp_eqF (by omega) | exact cmp_neT (by omega) | exact cmp_ltT (by omega) | exact cmp_ltF (by omega) | exact cmp_gtT (by omega) | exact cmp_gtF (by omega) | with_reducible apply cmp_eqT | with_reducible apply cmp_neF | with_reducible apply cmp_eqTd | with_reducible apply cmp_neFd)
  | ((with_reducible show behindInMarks _ _ = false); rfl)
  | ((with_reducible show GT _ _ _ _); first | with_reducible apply gt_not | with_reducible apply gt_notF | with_reducible apply gt_notT | with_reducible apply gt_cp C | ((with_reducible apply GW.gt); first | with_reducible apply gw_and | with_reducible apply gw_or | with_reducible apply gw_and1 | with_reducible apply gw_or1 | with_reducible apply gw_orF | with_reducible apply gw_andT) | with_reducible apply gt_val)
  | ((with_reducible show GW _ _ _ _); first | with_reducible apply gw_and | with_reducible apply gw_or | with_reducible apply gw_and1 | with_reducible apply gw_or1 | with_reducible apply gw_orF | with_reducible apply gw_andT)
  | ((with_reducible show GA _ _ _ _); first | with_reducible exact ga_nil | with_reducible apply ga_cons)
  | ((with_reducible show GP _ _ _ _); first | with_reducible exact gp_no | with_reducible apply gp_yes)
  | ((with_reducible show GL _ _ (Expr.Subscript _ (Expr.Slice _ _ _ _) _) _); with_reducible apply GO.gl; with_reducible apply go_slL)
  | ((with_reducible show GL _ _ _ _); first | walk_at "dw.o" | ((with_reducible show GL _ _ (Expr.ListComp _ _ _ _) _); with_reducible apply GO.gl) | with_reducible apply GE.gl)
  | ((with_reducible show GO _ _ (Expr.ListComp _ _ _ _) _); walk_at "dw.lc")
  | ((with_reducible show GIw _ _ _ _ _); first | ((with_reducible show GIw _ _ _ (Expr.Call _ _ _ _) _); with_reducible apply GI.w) | ((with_reducible apply gw_list); walk_at "dw.o") | with_reducible apply GI.w)
  | ((with_reducible show GI _ _ _ _ _); first | with_reducible apply gi_rng1 C | with_reducible apply gi_rng2 C | with_reducible apply gi_rng3 C | with_reducible apply gi_it)
  | ((with_reducible show ItD _ _); first | exact ItD.lst | exact ItD.tup)
  | ((with_reducible show List.length _ ≤ 16777216); first | exact Nat.le_of_ble_eq_true rfl | (rw [rngL_len]; omega))
  | ((with_reducible show -(2 ^ 62) ≤ _ ∧ _); first | decide | omega)
  | ((with_reducible show LenD _ _); first | exact LenD.lst | exact LenD.tup)
  | ((with_reducible show kitB _ _ = some _); decide +kernel)
  | ((with_reducible show _ = true → _); intro _)
  | ((with_reducible show _ = false → _); intro _)
  | ((with_reducible show ∀ (_ : Rs → Prop), _); walk_at "dw.hc")
  | ((with_reducible show ∀ _, _ = _); intro _; rfl)
  | with_reducible exact PUnit.unit
  | with_reducible apply go_lst
  | ((with_reducible show _ = _); with_reducible rfl)
  | ((with_reducible show _ = _); (fail_if_success (with_reducible show (_ : Int) = _)); (fail_if_success (with_reducible show (_ : PyData) = _)); rfl))
set_option hygiene false in
local macro_rules | `(tactic| walk_at "dw.lc0") => `(tactic| first
  | ((with_reducible apply go_lc1 C 0); (case ok => decide +kernel); (case okl => decide +kernel))
  | ((with_reducible apply go_lc1 C 1); (case ok => decide +kernel); (case okl => decide +kernel))
  | ((with_reducible apply go_lc1 C 2); (case ok => decide +kernel); (case okl => decide +kernel))
  | ((with_reducible apply go_lc1 C 3); (case ok => decide +kernel); (case okl => decide +kernel))
  | ((with_reducible apply go_lc1 C 4); (case ok => decide +kernel); (case okl => decide +kernel))
  | ((with_reducible apply go_lc1 C 5); (case ok => decide +kernel); (case okl => decide +kernel))
  | ((with_reducible apply go_lc1 C 6); (case ok => decide +kernel); (case okl => decide +kernel))
  | ((with_reducible apply go_lc1 C 7); (case ok => decide +kernel); (case okl => decide +kernel))
  | ((with_reducible apply go_lc1 C 8); (case ok => decide +kernel); (case okl => decide +kernel))
  | ((with_reducible apply go_lc1 C 9); (case ok => decide +kernel); (case okl => decide +kernel))
  | ((with_reducible apply go_lc1 C 10); (case ok => decide +kernel); (case okl => decide +kernel))
  | ((with_reducible apply go_lc1 C 11); (case ok => decide +kernel); (case okl => decide +kernel))
  | ((with_reducible apply go_lc1 C 12); (case ok => decide +kernel); (case okl => decide +kernel))
  | ((with_reducible apply go_lc1 C 13); (case ok => decide +kernel); (case okl => decide +kernel))
  | ((with_reducible apply go_lc1 C 14); (case ok => decide +kernel); (case okl => decide +kernel))
  | ((with_reducible apply go_lc1 C 15); (case ok => decide +kernel); (case okl => decide +kernel))
  | ((with_reducible apply go_lc1 C 16); (case ok => decide +kernel); (case okl => decide +kernel))
  | ((with_reducible apply go_lc1 C 17); (case ok => decide +kernel); (case okl => decide +kernel))
  | ((with_reducible apply go_lc1 C 18); (case ok => decide +kernel); (case okl => decide +kernel))
  | ((with_reducible apply go_lc1 C 19); (case ok => decide +kernel); (case okl => decide +kernel)))
set_option hygiene false in
local macro_rules | `(tactic| walk_at "dw.lcP0") => `(tactic| first
  | ((with_reducible apply go_lcP C 0); (case ok => decide +kernel); (case okl => decide +kernel); (case h => first | walk_at "dw.v" | ((with_reducible apply ge_sl3); walk_at "dw.v")))
  | ((with_reducible apply go_lcP C 1); (case ok => decide +kernel); (case okl => decide +kernel); (case h => first | walk_at "dw.v" | ((with_reducible apply ge_sl3); walk_at "dw.v")))
  | ((with_reducible apply go_lcP C 2); (case ok => decide +kernel); (case okl => decide +kernel); (case h => first | walk_at "dw.v" | ((with_reducible apply ge_sl3); walk_at "dw.v")))
  | ((with_reducible apply go_lcP C 3); (case ok => decide +kernel); (case okl => decide +kernel); (case h => first | walk_at "dw.v" | ((with_reducible apply ge_sl3); walk_at "dw.v")))
  | ((with_reducible apply go_lcP C 4); (case ok => decide +kernel); (case okl => decide +kernel); (case h => first | walk_at "dw.v" | ((with_reducible apply ge_sl3); walk_at "dw.v")))
  | ((with_reducible apply go_lcP C 5); (case ok => decide +kernel); (case okl => decide +kernel); (case h => first | walk_at "dw.v" | ((with_reducible apply ge_sl3); walk_at "dw.v")))
  | ((with_reducible apply go_lcP C 6); (case ok => decide +kernel); (case okl => decide +kernel); (case h => first | walk_at "dw.v" | ((with_reducible apply ge_sl3); walk_at "dw.v")))
  | ((with_reducible apply go_lcP C 7); (case ok => decide +kernel); (case okl => decide +kernel); (case h => first | walk_at "dw.v" | ((with_reducible apply ge_sl3); walk_at "dw.v")))
  | ((with_reducible apply go_lcP C 8); (case ok => decide +kernel); (case okl => decide +kernel); (case h => first | walk_at "dw.v" | ((with_reducible apply ge_sl3); walk_at "dw.v")))
  | ((with_reducible apply go_lcP C 9); (case ok => decide +kernel); (case okl => decide +kernel); (case h => first | walk_at "dw.v" | ((with_reducible apply ge_sl3); walk_at "dw.v")))
  | ((with_reducible apply go_lcP C 10); (case ok => decide +kernel); (case okl => decide +kernel); (case h => first | walk_at "dw.v" | ((with_reducible apply ge_sl3); walk_at "dw.v")))
  | ((with_reducible apply go_lcP C 11); (case ok => decide +kernel); (case okl => decide +kernel); (case h => first | walk_at "dw.v" | ((with_reducible apply ge_sl3); walk_at "dw.v")))
  | ((with_reducible apply go_lcP C 12); (case ok => decide +kernel); (case okl => decide +kernel); (case h => first | walk_at "dw.v" | ((with_reducible apply ge_sl3); walk_at "dw.v")))
  | ((with_reducible apply go_lcP C 13); (case ok => decide +kernel); (case okl => decide +kernel); (case h => first | walk_at "dw.v" | ((with_reducible apply ge_sl3); walk_at "dw.v")))
  | ((with_reducible apply go_lcP C 14); (case ok => decide +kernel); (case okl => decide +kernel); (case h => first | walk_at "dw.v" | ((with_reducible apply ge_sl3); walk_at "dw.v")))
  | ((with_reducible apply go_lcP C 15); (case ok => decide +kernel); (case okl => decide +kernel); (case h => first | walk_at "dw.v" | ((with_reducible apply ge_sl3); walk_at "dw.v")))
  | ((with_reducible apply go_lcP C 16); (case ok => decide +kernel); (case okl => decide +kernel); (case h => first | walk_at "dw.v" | ((with_reducible apply ge_sl3); walk_at "dw.v")))
  | ((with_reducible apply go_lcP C 17); (case ok => decide +kernel); (case okl => decide +kernel); (case h => first | walk_at "dw.v" | ((with_reducible apply ge_sl3); walk_at "dw.v")))
  | ((with_reducible apply go_lcP C 18); (case ok => decide +kernel); (case okl => decide +kernel); (case h => first | walk_at "dw.v" | ((with_reducible apply ge_sl3); walk_at "dw.v")))
  | ((with_reducible apply go_lcP C 19); (case ok => decide +kernel); (case okl => decide +kernel); (case h => first | walk_at "dw.v" | ((with_reducible apply ge_sl3); walk_at "dw.v"))))
set_option hygiene false in
local macro_rules | `(tactic| walk_at "dw.lc") => `(tactic| first | (walk_at "dw.lcP0"; (case' he => (intro X C a ha; repeat' (walk_at "dw.1")))) | (walk_at "dw.lc0"; (case' hi => repeat' (walk_at "dw.1")); (case' he => (intro X C a ha; (try have ha' := rngL_mem ha); (try have hba_ := Bd.sm (n := 20) (i := a) (by omega) (by omega) (by decide)); repeat' (walk_at "dw.1")))))
local macro_rules | `(tactic| walk_at "dw.e") => `(tactic| repeat' (walk_at "dw.1"))
set_option hygiene false in
local macro_rules | `(tactic| walk_at "dw.asg0") => `(tactic| first
  | (with_reducible apply gss_asg C _ l0)
  | (with_reducible apply gss_asg C _ l1)
  | (with_reducible apply gss_asg C _ l2)
  | (with_reducible apply gss_asg C _ l3)
  | (with_reducible apply gss_asg C _ l4)
  | (with_reducible apply gss_asg C _ l5)
  | (with_reducible apply gss_asg C _ l6)
  | (with_reducible apply gss_asg C _ l7)
  | (with_reducible apply gss_asg C _ l8)
  | (with_reducible apply gss_asg C _ l9)
  | (with_reducible apply gss_asg C _ l10)
  | (with_reducible apply gss_asg C _ l11)
  | (with_reducible apply gss_asg C _ l12)
  | (with_reducible apply gss_asg C _ l13)
  | (with_reducible apply gss_asg C _ l14)
  | (with_reducible apply gss_asg C _ l15)
  | (with_reducible apply gss_asg C _ l16)
  | (with_reducible apply gss_asg C _ l17)
  | (with_reducible apply gss_asg C _ l18)
  | (with_reducible apply gss_asg C _ l19))
set_option hygiene false in
local macro_rules | `(tactic| walk_at "dw.asgO0") => `(tactic| first
  | (with_reducible apply gss_asgO C _ l0)
  | (with_reducible apply gss_asgO C _ l1)
  | (with_reducible apply gss_asgO C _ l2)
  | (with_reducible apply gss_asgO C _ l3)
  | (with_reducible apply gss_asgO C _ l4)
  | (with_reducible apply gss_asgO C _ l5)
  | (with_reducible apply gss_asgO C _ l6)
  | (with_reducible apply gss_asgO C _ l7)
  | (with_reducible apply gss_asgO C _ l8)
  | (with_reducible apply gss_asgO C _ l9)
  | (with_reducible apply gss_asgO C _ l10)
  | (with_reducible apply gss_asgO C _ l11)
  | (with_reducible apply gss_asgO C _ l12)
  | (with_reducible apply gss_asgO C _ l13)
  | (with_reducible apply gss_asgO C _ l14)
  | (with_reducible apply gss_asgO C _ l15)
  | (with_reducible apply gss_asgO C _ l16)
  | (with_reducible apply gss_asgO C _ l17)
  | (with_reducible apply gss_asgO C _ l18)
  | (with_reducible apply gss_asgO C _ l19))
set_option hygiene false in
local macro_rules | `(tactic| walk_at "dw.asgE0") => `(tactic| first
  | (with_reducible apply gss_asgE C _ l0)
  | (with_reducible apply gss_asgE C _ l1)
  | (with_reducible apply gss_asgE C _ l2)
  | (with_reducible apply gss_asgE C _ l3)
  | (with_reducible apply gss_asgE C _ l4)
  | (with_reducible apply gss_asgE C _ l5)
  | (with_reducible apply gss_asgE C _ l6)
  | (with_reducible apply gss_asgE C _ l7)
  | (with_reducible apply gss_asgE C _ l8)
  | (with_reducible apply gss_asgE C _ l9)
  | (with_reducible apply gss_asgE C _ l10)
  | (with_reducible apply gss_asgE C _ l11)
  | (with_reducible apply gss_asgE C _ l12)
  | (with_reducible apply gss_asgE C _ l13)
  | (with_reducible apply gss_asgE C _ l14)
  | (with_reducible apply gss_asgE C _ l15)
  | (with_reducible apply gss_asgE C _ l16)
  | (with_reducible apply gss_asgE C _ l17)
  | (with_reducible apply gss_asgE C _ l18)
  | (with_reducible apply gss_asgE C _ l19))
set_option hygiene false in
local macro_rules | `(tactic| walk_at "dw.asg") => `(tactic| (show GSs _ _ (List.cons _ _) _; walk_at "dw.asg0"; (case hs => rfl); (case' he => walk_at "dw.e"); (case' hn => walk_at "dw.nf")))
set_option hygiene false in
local macro_rules | `(tactic| walk_at "dw.asgO") => `(tactic| (show GSs _ _ (List.cons _ _) _; walk_at "dw.asgO0"; (case hs => rfl); (case' he => walk_at "dw.e"); (case' hn => walk_at "dw.nf")))
set_option hygiene false in
local macro_rules | `(tactic| walk_at "dw.asgE") => `(tactic| (show GSs _ _ (List.cons _ _) _; walk_at "dw.asgE0"; (case hs => rfl); (case' he => walk_at "dw.e"); (case' hn => walk_at "dw.nf")))
set_option hygiene false in
local macro_rules | `(tactic| walk_at "dw.par") => `(tactic| ((case hi => rfl); (case hj => rfl); (case hij => decide); (case hx => decide +kernel); (case hy => decide +kernel); (case hk => rfl); (case hw => (intro _ h1_ h2_ h3_; unfold swappedStores; simp only [h1_, List.filterMap_cons, List.filterMap_nil, h2_, h3_]; rfl)); (case hs => rfl); (case' ha => walk_at "dw.e"); (case' hn => walk_at "dw.nf")))
set_option hygiene false in
local macro_rules | `(tactic| walk_at "dw.lcs") => `(tactic| ((case okj => assumption); (case hyl => decide +kernel); (case hk => rfl); (case ok => decide +kernel); (case okl => decide +kernel); (case hl => rfl); (case ha => decide +kernel); (case hs => (intro _; rfl)); (case' hi => walk_at "dw.e"); (case' hz => first | exact Nat.le_of_ble_eq_true rfl | (rw [rngL_len]; omega) | (simp only [List.length_map]; omega) | omega | skip); (case' he => (intro X C a ha; (try have ha' := rngL_mem ha); (try have hba_ := Bd.sm (n := 20) (i := a) (by omega) (by omega) (by decide)); repeat' (walk_at "dw.1"))); (case' hn => walk_at "dw.nf")))
set_option hygiene false in
local macro_rules | `(tactic| walk_at "dw.lcsf") => `(tactic| ((case okj => assumption); (case hyl => decide +kernel); (case hk => rfl); (case ok => decide +kernel); (case okl => decide +kernel); (case hl => rfl); (case ha => decide +kernel); (case hs => (intro _; rfl)); (case' hi => walk_at "dw.e"); (case' hz => first | exact Nat.le_of_ble_eq_true rfl | (rw [rngL_len]; omega) | (simp only [List.length_map]; omega) | omega | skip); (case' ht => (intro X C a ha; (try have ha' := rngL_mem ha); (try have hba_ := Bd.sm (n := 20) (i := a) (by omega) (by omega) (by decide)); repeat' (walk_at "dw.1"))); (case' he => (intro X C a ha hbt; (try have ha' := rngL_mem ha); (try have hba_ := Bd.sm (n := 20) (i := a) (by omega) (by omega) (by decide)); repeat' (walk_at "dw.1"))); (case' hn => walk_at "dw.nf")))
set_option hygiene false in
local macro_rules | `(tactic| walk_at "dw.par3") => `(tactic| ((case hi => rfl); (case hj => rfl); (case hl => rfl); (case hij => decide); (case hil => decide); (case hjl => decide); (case hx => decide +kernel); (case hy => decide +kernel); (case hz => decide +kernel); (case hk => rfl); (case hw => (intro _ h1_ h2_ h3_ h4_; unfold swappedStores; simp only [h1_, List.filterMap_cons, List.filterMap_nil, h2_, h3_, h4_]; rfl)); (case hs => rfl); (case' ha => walk_at "dw.e"); (case' hn => walk_at "dw.nf")))
set_option hygiene false in
local macro_rules | `(tactic| walk_at "dw.ggs") => `(tactic| repeat' first
  | with_reducible exact ggs_nil
  | ((with_reducible apply ggs_cons C _ l0); (case hw => decide))
  | ((with_reducible apply ggs_cons C _ l1); (case hw => decide))
  | ((with_reducible apply ggs_cons C _ l2); (case hw => decide))
  | ((with_reducible apply ggs_cons C _ l3); (case hw => decide))
  | ((with_reducible apply ggs_cons C _ l4); (case hw => decide))
  | ((with_reducible apply ggs_cons C _ l5); (case hw => decide))
  | ((with_reducible apply ggs_cons C _ l6); (case hw => decide))
  | ((with_reducible apply ggs_cons C _ l7); (case hw => decide))
  | ((with_reducible apply ggs_cons C _ l8); (case hw => decide))
  | ((with_reducible apply ggs_cons C _ l9); (case hw => decide))
  | ((with_reducible apply ggs_cons C _ l10); (case hw => decide))
  | ((with_reducible apply ggs_cons C _ l11); (case hw => decide))
  | ((with_reducible apply ggs_cons C _ l12); (case hw => decide))
  | ((with_reducible apply ggs_cons C _ l13); (case hw => decide))
  | ((with_reducible apply ggs_cons C _ l14); (case hw => decide))
  | ((with_reducible apply ggs_cons C _ l15); (case hw => decide))
  | ((with_reducible apply ggs_cons C _ l16); (case hw => decide))
  | ((with_reducible apply ggs_cons C _ l17); (case hw => decide))
  | ((with_reducible apply ggs_cons C _ l18); (case hw => decide))
  | ((with_reducible apply ggs_cons C _ l19); (case hw => decide))
  | ((with_reducible apply ggs_cons C _ l20); (case hw => decide))
  | ((with_reducible apply ggs_cons C _ l21); (case hw => decide))
  | ((with_reducible apply ggs_cons C _ l22); (case hw => decide))
  | ((with_reducible apply ggs_cons C _ l23); (case hw => decide)))
set_option hygiene false in
local macro_rules | `(tactic| walk_at "dw.gg") => `(tactic| (first | (with_reducible apply gg_tupN C) | (with_reducible apply gg_lstN C)); (case h => walk_at "dw.ggs"); (case hn => rfl); (case hst => rfl))
set_option hygiene false in
local macro_rules | `(tactic| walk_at "dw.unp") => `(tactic| (show GSs _ _ (List.cons _ _) _; (with_reducible apply gss_unp (ws := List.range 40)); (case he => walk_at "dw.e"); (case hg => walk_at "dw.gg"); (case hs => rfl); (case hw => rfl); (case h1 => rfl); (case' hn => walk_at "dw.nf")))
set_option hygiene false in
local macro_rules | `(tactic| walk_at "dw.setI") => `(tactic| ((case h => assumption); (case hG => rfl); (case ha => (intro _; rfl)); (case hs => rfl); (case hw => rfl); (case h1' => rfl); (case' he => walk_at "dw.e"); (case' hj => walk_at "dw.e"); (case hjn => rfl); (case' hn => walk_at "dw.nf")))
set_option hygiene false in
local macro_rules | `(tactic| walk_at "dw.app") => `(tactic| ((case h => assumption); (case hG => rfl); (case hb => rfl); (case hl => rfl); (case hst => rfl); (case hfew => rfl); (case hs => rfl); (case' he => walk_at "dw.e"); (case' hn => walk_at "dw.nf")))
set_option hygiene false in
local macro_rules | `(tactic| walk_at "dw.asgC0") => `(tactic| first
  | (with_reducible apply gss_asgOc C _ l0)
  | (with_reducible apply gss_asgOc C _ l1)
  | (with_reducible apply gss_asgOc C _ l2)
  | (with_reducible apply gss_asgOc C _ l3)
  | (with_reducible apply gss_asgOc C _ l4)
  | (with_reducible apply gss_asgOc C _ l5)
  | (with_reducible apply gss_asgOc C _ l6)
  | (with_reducible apply gss_asgOc C _ l7)
  | (with_reducible apply gss_asgOc C _ l8)
  | (with_reducible apply gss_asgOc C _ l9)
  | (with_reducible apply gss_asgOc C _ l10)
  | (with_reducible apply gss_asgOc C _ l11)
  | (with_reducible apply gss_asgOc C _ l12)
  | (with_reducible apply gss_asgOc C _ l13)
  | (with_reducible apply gss_asgOc C _ l14)
  | (with_reducible apply gss_asgOc C _ l15)
  | (with_reducible apply gss_asgOc C _ l16)
  | (with_reducible apply gss_asgOc C _ l17)
  | (with_reducible apply gss_asgOc C _ l18)
  | (with_reducible apply gss_asgOc C _ l19))
set_option hygiene false in
local macro_rules | `(tactic| walk_at "dw.asgC") => `(tactic| (show GSs _ _ (List.cons _ _) _; walk_at "dw.asgC0"; (case hc => decide +kernel); (case' he => walk_at "dw.e"); (case' hn => walk_at "dw.nf")))
set_option hygiene false in
local macro_rules | `(tactic| walk_at "dw.unpE") => `(tactic| ((case he => walk_at "dw.e"); (case hd => rfl); (case hg => walk_at "dw.gg"); (case hs => rfl); (case hw => rfl); (case h1 => rfl); (case' hn => walk_at "dw.nf")))

abbrev RS : List Str := ["Flat"]
/-! ### way_between -/
abbrev s_way_between : Stmt := topS 11
abbrev n_way_between : List Str := ["P", "Q"]
theorem sc_way_between : FnScope n_way_between ["P", "Q"] (defScope s_way_between) := ⟨rfl, rfl, rfl, by decide +kernel, rfl, by decide +kernel, by decide +kernel⟩
theorem v0_way_between : okV n_way_between (defScope s_way_between) 0 "P" = true := by decide +kernel
theorem v1_way_between : okV n_way_between (defScope s_way_between) 1 "Q" = true := by decide +kernel
def c_way_between : Ct := fun ds R => ∃ P Q : P3, ds = [P.en, Q.en] ∧ R (.fz (P3.en (way P Q)))
theorem ln_way_between : ∀ ds R, c_way_between ds R → ds.length = 2 := by
  rintro ds R ⟨P, Q, rfl, _⟩
  rfl
theorem bd_way_between {W : Wd} {k : Nat} (B : Bn W) (X : Cx) (C : Cok X W n_way_between (defScope s_way_between) k) (ds : List D) (R : Rs → Prop) (h : c_way_between ds R) :
    GSs X (startG n_way_between ds) (defBody s_way_between) { nx := fun _ => R (.fz .none), rt := R } := by
  obtain ⟨P, Q, rfl, hR⟩ := h
  have v0 := v0_way_between
  have v1 := v1_way_between
  (show GSs X [.fz _, .fz _] (List.cons _ _) _)
  apply gss_ret
  · walk_at "dw.e"
  · exact hR

theorem has_way_between {W : Wd} {k : Nat} (B : Bn W) (F : FunAt W "way_between" s_way_between) : Has W (k + 1) "way_between" c_way_between :=
  has_mk F sc_way_between ln_way_between (fun _ _ _ _ _ _ us hl => match us, hl with | [_, _], _ => rfl) fun X C ds R h => bd_way_between B X C ds R h
/-! ### cross_of -/
abbrev s_cross_of : Stmt := topS 12
abbrev n_cross_of : List Str := ["u", "v"]
theorem sc_cross_of : FnScope n_cross_of ["u", "v"] (defScope s_cross_of) := ⟨rfl, rfl, rfl, by decide +kernel, rfl, by decide +kernel, by decide +kernel⟩
theorem v0_cross_of : okV n_cross_of (defScope s_cross_of) 0 "u" = true := by decide +kernel
theorem v1_cross_of : okV n_cross_of (defScope s_cross_of) 1 "v" = true := by decide +kernel
def c_cross_of : Ct := fun ds R => ∃ u v : P3, ds = [u.en, v.en] ∧ P3.Bd 100000 u ∧ P3.Bd 100000 v ∧ R (.fz (P3.en (cross u v)))
theorem ln_cross_of : ∀ ds R, c_cross_of ds R → ds.length = 2 := by
  rintro ds R ⟨u, v, rfl, _⟩
  rfl
theorem bd_cross_of {W : Wd} {k : Nat} (B : Bn W) (X : Cx) (C : Cok X W n_cross_of (defScope s_cross_of) k) (ds : List D) (R : Rs → Prop) (h : c_cross_of ds R) :
    GSs X (startG n_cross_of ds) (defBody s_cross_of) { nx := fun _ => R (.fz .none), rt := R } := by
  obtain ⟨u, v, rfl, ⟨hux, huy, huz⟩, ⟨hvx, hvy, hvz⟩, hR⟩ := h
  have v0 := v0_cross_of
  have v1 := v1_cross_of
  (show GSs X [.fz _, .fz _] (List.cons _ _) _)
  apply gss_ret
  · walk_at "dw.e"
  · exact hR

theorem has_cross_of {W : Wd} {k : Nat} (B : Bn W) (F : FunAt W "cross_of" s_cross_of) : Has W (k + 1) "cross_of" c_cross_of :=
  has_mk F sc_cross_of ln_cross_of (fun _ _ _ _ _ _ us hl => match us, hl with | [_, _], _ => rfl) fun X C ds R h => bd_cross_of B X C ds R h
/-! ### product_of -/
abbrev s_product_of : Stmt := topS 13
abbrev n_product_of : List Str := ["u", "v"]
theorem sc_product_of : FnScope n_product_of ["u", "v"] (defScope s_product_of) := ⟨rfl, rfl, rfl, by decide +kernel, rfl, by decide +kernel, by decide +kernel⟩
theorem v0_product_of : okV n_product_of (defScope s_product_of) 0 "u" = true := by decide +kernel
theorem v1_product_of : okV n_product_of (defScope s_product_of) 1 "v" = true := by decide +kernel
def c_product_of : Ct := fun ds R => ∃ u v : P3, ds = [u.en, v.en] ∧ P3.Bd 100000 u ∧ P3.Bd 100000 v ∧ R (.fz (.int (prod u v)))
theorem ln_product_of : ∀ ds R, c_product_of ds R → ds.length = 2 := by
  rintro ds R ⟨u, v, rfl, _⟩
  rfl
theorem bd_product_of {W : Wd} {k : Nat} (B : Bn W) (X : Cx) (C : Cok X W n_product_of (defScope s_product_of) k) (ds : List D) (R : Rs → Prop) (h : c_product_of ds R) :
    GSs X (startG n_product_of ds) (defBody s_product_of) { nx := fun _ => R (.fz .none), rt := R } := by
  obtain ⟨u, v, rfl, ⟨hux, huy, huz⟩, ⟨hvx, hvy, hvz⟩, hR⟩ := h
  have v0 := v0_product_of
  have v1 := v1_product_of
  (show GSs X [.fz _, .fz _] (List.cons _ _) _)
  apply gss_ret
  · walk_at "dw.e"
  · exact hR

theorem has_product_of {W : Wd} {k : Nat} (B : Bn W) (F : FunAt W "product_of" s_product_of) : Has W (k + 1) "product_of" c_product_of :=
  has_mk F sc_product_of ln_product_of (fun _ _ _ _ _ _ us hl => match us, hl with | [_, _], _ => rfl) fun X C ds R h => bd_product_of B X C ds R h
/-! ### shared_by -/
abbrev s_shared_by : Stmt := topS 14
abbrev n_shared_by : List Str := ["numbers", "found", "number", "other"]
theorem sc_shared_by : FnScope n_shared_by ["numbers"] (defScope s_shared_by) := ⟨rfl, rfl, rfl, by decide +kernel, rfl, by decide +kernel, by decide +kernel⟩
theorem v0_shared_by : okV n_shared_by (defScope s_shared_by) 0 "numbers" = true := by decide +kernel
theorem v1_shared_by : okV n_shared_by (defScope s_shared_by) 1 "found" = true := by decide +kernel
theorem l1_shared_by : okL n_shared_by (defScope s_shared_by) 1 "found" = true := by decide +kernel
theorem v2_shared_by : okV n_shared_by (defScope s_shared_by) 2 "number" = true := by decide +kernel
theorem l2_shared_by : okL n_shared_by (defScope s_shared_by) 2 "number" = true := by decide +kernel
theorem v3_shared_by : okV n_shared_by (defScope s_shared_by) 3 "other" = true := by decide +kernel
theorem l3_shared_by : okL n_shared_by (defScope s_shared_by) 3 "other" = true := by decide +kernel
theorem g_abs_shared_by : glB (defScope s_shared_by) "abs" = true := by decide +kernel
def c_shared_by : Ct := fun ds R => ∃ (u : P3), ds = [u.en] ∧ R (.fz (.int (p3g u)))
theorem ln_shared_by : ∀ ds R, c_shared_by ds R → ds.length = 1 := by
  rintro ds R ⟨u, rfl, _⟩
  rfl
theorem bd_shared_by {W : Wd} {k : Nat} (B : Bn W)  (X : Cx) (C : Cok X W n_shared_by (defScope s_shared_by) k) (ds : List D) (R : Rs → Prop) (h : c_shared_by ds R) :
    GSs X (startG n_shared_by ds) (defBody s_shared_by) { nx := fun _ => R (.fz .none), rt := R } := by
  obtain ⟨u, rfl, hR⟩ := h
  have v0 := v0_shared_by
  have v1 := v1_shared_by
  have l1 := l1_shared_by
  have v2 := v2_shared_by
  have l2 := l2_shared_by
  have v3 := v3_shared_by
  have l3 := l3_shared_by
  have g_abs := g_abs_shared_by
  (show GSs X [.fz _, .no, .no, .no] (List.cons _ _) _)
  walk_at "dw.asg"
  apply gss_for C (fun i G' => ∃ (f : Int) (a b : Sl), G' = [.fz u.en, .fz (.int f), a, b] ∧ 0 ≤ f ∧ f = ([u.x, u.y, u.z].take i).foldl (fun g n => ((Int.gcd g n : Nat) : Int)) 0)
  · walk_at "dw.e"
  · exact ⟨0, _, _, rfl, Int.le_refl _, rfl⟩
  · rintro i d G' hd ⟨f, a, b, rfl, hf, hfe⟩
    obtain ⟨n, rfl, hn⟩ : ∃ n : Int, d = .int n ∧ [u.x, u.y, u.z][i]? = some n := by
      match i, hd with
      | 0, hd => exact ⟨_, (Option.some.inj hd).symm, rfl⟩
      | 1, hd => exact ⟨_, (Option.some.inj hd).symm, rfl⟩
      | 2, hd => exact ⟨_, (Option.some.inj hd).symm, rfl⟩
    refine ⟨_, [2], gg_name C 2 l2 (by simp), ?_⟩
    walk_at "dw.asg"
    apply gss_while C (fun m G2 => ∃ x y : Int, G2 = [.fz u.en, .fz (.int x), .fz (.int n), .fz (.int y)] ∧ y.natAbs = m ∧ 0 ≤ x ∧ 0 ≤ y ∧ Int.gcd x y = Int.gcd f n) n.natAbs
    · refine ⟨f, _, rfl, ?_, hf, ?_, ?_⟩
      · split <;> omega
      · split <;> omega
      · split
        · rw [Int.gcd_neg]
        · rfl
    · rintro m G2 ⟨x, y, rfl, hm, hx, hy, hg⟩
      refine ⟨!decide (y = 0), ?_, ?_, ?_⟩
      · walk_at "dw.e"
      · intro ht
        have hy0 : y ≠ 0 := by simpa using ht
        (show GSs _ _ (List.cons _ _) _)
        apply gss_par C 1 3 (d1 := .int y) (d2 := .int (x.fmod y))
        walk_at "dw.par"
        apply gss_nil
        refine ⟨_, ?_, y, x.fmod y, rfl, rfl, hy, ?_, (gcd_fmod x y).trans hg⟩
        · have := fmod_lt_abs x hy0
          omega
        · exact Int.fmod_nonneg_of_pos x (by omega)
      · intro ht
        have hy0 : y = 0 := by simpa using ht
        subst hy0
        apply gss_nil
        refine ⟨x, _, _, rfl, hx, ?_⟩
        rw [List.take_add_one, hn, List.foldl_append, ← hfe]
        show x = ((Int.gcd f n : Nat) : Int)
        rw [← hg, Int.gcd_zero_right]
        omega
  · rintro G' ⟨f, a, b, rfl, hf, hfe⟩
    apply gss_ret
    · walk_at "dw.e"
    · have e : f = p3g u := hfe.trans (p3g_fold u)
      rw [e]
      exact hR
  · intro x
    rfl

theorem has_shared_by {W : Wd} {k : Nat} (B : Bn W) (F : FunAt W "shared_by" s_shared_by) : Has W (k + 1) "shared_by" c_shared_by :=
  has_mk F sc_shared_by ln_shared_by (fun _ _ _ _ _ _ us hl => match us, hl with | [_], _ => rfl) fun X C ds R h => bd_shared_by B X C ds R h
/-! ### plane_through -/
abbrev s_plane_through : Stmt := topS 15
abbrev n_plane_through : List Str := ["P", "Q", "R", "cross", "many", "a", "b", "c", "number"]
theorem sc_plane_through : FnScope n_plane_through ["P", "Q", "R"] (defScope s_plane_through) := ⟨rfl, rfl, rfl, by decide +kernel, rfl, by decide +kernel, by decide +kernel⟩
theorem v0_plane_through : okV n_plane_through (defScope s_plane_through) 0 "P" = true := by decide +kernel
theorem v1_plane_through : okV n_plane_through (defScope s_plane_through) 1 "Q" = true := by decide +kernel
theorem v2_plane_through : okV n_plane_through (defScope s_plane_through) 2 "R" = true := by decide +kernel
theorem v3_plane_through : okV n_plane_through (defScope s_plane_through) 3 "cross" = true := by decide +kernel
theorem l3_plane_through : okL n_plane_through (defScope s_plane_through) 3 "cross" = true := by decide +kernel
theorem v4_plane_through : okV n_plane_through (defScope s_plane_through) 4 "many" = true := by decide +kernel
theorem l4_plane_through : okL n_plane_through (defScope s_plane_through) 4 "many" = true := by decide +kernel
theorem v5_plane_through : okV n_plane_through (defScope s_plane_through) 5 "a" = true := by decide +kernel
theorem l5_plane_through : okL n_plane_through (defScope s_plane_through) 5 "a" = true := by decide +kernel
theorem v6_plane_through : okV n_plane_through (defScope s_plane_through) 6 "b" = true := by decide +kernel
theorem l6_plane_through : okL n_plane_through (defScope s_plane_through) 6 "b" = true := by decide +kernel
theorem v7_plane_through : okV n_plane_through (defScope s_plane_through) 7 "c" = true := by decide +kernel
theorem l7_plane_through : okL n_plane_through (defScope s_plane_through) 7 "c" = true := by decide +kernel
theorem g_cross_of_plane_through : glB (defScope s_plane_through) "cross_of" = true := by decide +kernel
theorem g_shared_by_plane_through : glB (defScope s_plane_through) "shared_by" = true := by decide +kernel
theorem g_way_between_plane_through : glB (defScope s_plane_through) "way_between" = true := by decide +kernel
theorem g_Flat_plane_through : glB (defScope s_plane_through) "Flat" = true := by decide +kernel
theorem g_product_of_plane_through : glB (defScope s_plane_through) "product_of" = true := by decide +kernel
-- exc
def c_plane_through : Ct := fun ds R => ∃ (P Q T : P3), ds = [P.en, Q.en, T.en] ∧ P3.Bd 3000 P ∧ P3.Bd 3000 Q ∧ P3.Bd 3000 T ∧ ((0 < p3g (cross (way P Q) (way P T)) ∧ R (.fz (Pl.en (planeA P Q T)))) ∨ (p3g (cross (way P Q) (way P T)) = 0 ∧ ∀ G', R (.ex "Flat" G')))
theorem ln_plane_through : ∀ ds R, c_plane_through ds R → ds.length = 3 := by
  rintro ds R ⟨P, Q, T, rfl, _⟩
  rfl
theorem bd_plane_through {W : Wd} {k : Nat} (B : Bn W) (Z : Er W RS) (h_cross_of : Has W k "cross_of" c_cross_of) (h_shared_by : Has W k "shared_by" c_shared_by) (h_way_between : Has W k "way_between" c_way_between) (h_product_of : Has W k "product_of" c_product_of) (X : Cx) (C : Cok X W n_plane_through (defScope s_plane_through) k) (ds : List D) (R : Rs → Prop) (h : c_plane_through ds R) :
    GSs X (startG n_plane_through ds) (defBody s_plane_through) { nx := fun _ => R (.fz .none), rt := R } := by
  obtain ⟨P, Q, T, rfl, hP, hQ, hT, hR⟩ := h
  have v0 := v0_plane_through
  have v1 := v1_plane_through
  have v2 := v2_plane_through
  have v3 := v3_plane_through
  have l3 := l3_plane_through
  have v4 := v4_plane_through
  have l4 := l4_plane_through
  have v5 := v5_plane_through
  have l5 := l5_plane_through
  have v6 := v6_plane_through
  have l6 := l6_plane_through
  have v7 := v7_plane_through
  have l7 := l7_plane_through
  have g_cross_of := g_cross_of_plane_through
  have g_shared_by := g_shared_by_plane_through
  have g_way_between := g_way_between_plane_through
  have g_Flat := g_Flat_plane_through
  have g_product_of := g_product_of_plane_through
  (show GSs X [.fz _, .fz _, .fz _, .no, .no, .no, .no, .no, .no] (List.cons _ _) _)
  have w1 := hP.way hQ
  have w2 := hP.way hT
  have hc := w1.cross w2
  walk_at "dw.asgE"
  case hd => show _ = P3.en (cross (way P Q) (way P T)); rfl
  rw [show planeA P Q T = planeOf (cross (way P Q) (way P T)) P from rfl] at hR
  generalize cross (way P Q) (way P T) = c at hc hR
  walk_at "dw.asgE"
  case hd => show _ = PyData.int (p3g c); rfl
  apply gss_when (t := decide (p3g c = 0))
  · walk_at "dw.e"
  · intro ht
    have hz := of_decide_eq_true ht
    obtain ⟨C0, F, _⟩ := (Z "Flat" (by decide)).ex
    apply gss_raise C F g_Flat
    rcases hR with ⟨h, _⟩ | ⟨_, h⟩
    · omega
    · exact h _
  intro ht
  have hz := of_decide_eq_false ht
  have hR : 0 < p3g c ∧ R (.fz (Pl.en (planeOf c P))) := hR.resolve_right fun h => hz h.1
  obtain ⟨hg, hR⟩ := hR
  have hgb := p3g_bd hc hg
  have hdb := hc.divP hg
  (show GSs _ _ (List.cons _ _) _)
  apply gss_unpE (ws := List.range 40) (d := .list [.int (divP c (p3g c)).x, .int (divP c (p3g c)).y, .int (divP c (p3g c)).z])
  walk_at "dw.unpE"
  generalize hv : divP c (p3g c) = v at hdb
  apply gss_retE (d := Pl.en ⟨v, prod v P⟩)
  · walk_at "dw.e"
  · rfl
  · subst hv
    exact hR

theorem has_plane_through {W : Wd} {k : Nat} (B : Bn W) (Z : Er W RS) (F : FunAt W "plane_through" s_plane_through) (h_cross_of : Has W k "cross_of" c_cross_of) (h_shared_by : Has W k "shared_by" c_shared_by) (h_way_between : Has W k "way_between" c_way_between) (h_product_of : Has W k "product_of" c_product_of) : Has W (k + 1) "plane_through" c_plane_through :=
  has_mk F sc_plane_through ln_plane_through (fun _ _ _ _ _ _ us hl => match us, hl with | [_, _, _], _ => rfl) fun X C ds R h => bd_plane_through B Z (h_cross_of := h_cross_of) (h_shared_by := h_shared_by) (h_way_between := h_way_between) (h_product_of := h_product_of) X C ds R h
/-! ### _law_cell -/
abbrev s_L_cell : Stmt := topS 17
abbrev n_L_cell : List Str := ["script", "k"]
theorem sc_L_cell : FnScope n_L_cell ["script", "k"] (defScope s_L_cell) := ⟨rfl, rfl, rfl, by decide +kernel, rfl, by decide +kernel, by decide +kernel⟩
theorem v0_L_cell : okV n_L_cell (defScope s_L_cell) 0 "script" = true := by decide +kernel
theorem v1_L_cell : okV n_L_cell (defScope s_L_cell) 1 "k" = true := by decide +kernel
theorem g_len_L_cell : glB (defScope s_L_cell) "len" = true := by decide +kernel
def c_L_cell : Ct := fun ds R => ∃ (ns : List Int) (k : Int), ds = [.list (ns.map .int), .int k] ∧ 0 ≤ k ∧ k ≤ 100 ∧ R (.fz (.int (cellA ns k)))
theorem ln_L_cell : ∀ ds R, c_L_cell ds R → ds.length = 2 := by
  rintro ds R ⟨ns, k, rfl, _⟩
  rfl
theorem bd_L_cell {W : Wd} {k : Nat} (B : Bn W) (X : Cx) (C : Cok X W n_L_cell (defScope s_L_cell) k) (ds : List D) (R : Rs → Prop) (h : c_L_cell ds R) :
    GSs X (startG n_L_cell ds) (defBody s_L_cell) { nx := fun _ => R (.fz .none), rt := R } := by
  obtain ⟨ns, c, rfl, h0, h1, hR⟩ := h
  have v0 := v0_L_cell
  have v1 := v1_L_cell
  have g_len := g_len_L_cell
  (show GSs X [.fz _, .fz _] (List.cons _ _) _)
  have bc : Bd 7 c := by
    show c.natAbs < 2 ^ 7
    omega
  apply gss_when
  · walk_at "dw.e"
  · intro ht
    have hc := of_decide_eq_true ht
    rw [List.length_map] at hc
    rw [show cellA ns c = ns.getD c.toNat 0 from if_pos hc] at hR
    apply gss_ret
    · walk_at "dw.e"
      exact IxV.lst (atI_map (atI_getD h0 hc))
    · exact hR
  · intro ht
    have hc := of_decide_eq_false ht
    rw [List.length_map] at hc
    rw [show cellA ns c = 7 * c * c + 10 * c + 3 from if_neg hc] at hR
    apply gss_ret
    · walk_at "dw.e"
    · exact hR

theorem has_L_cell {W : Wd} {k : Nat} (B : Bn W) (F : FunAt W "_law_cell" s_L_cell) : Has W (k + 1) "_law_cell" c_L_cell :=
  has_mk F sc_L_cell ln_L_cell (fun _ _ _ _ _ _ us hl => match us, hl with | [_, _], _ => rfl) fun X C ds R h => bd_L_cell B X C ds R h
/-! ### _law_whole -/
abbrev s_L_whole : Stmt := topS 18
abbrev n_L_whole : List Str := ["found"]
theorem sc_L_whole : FnScope n_L_whole ["found"] (defScope s_L_whole) := ⟨rfl, rfl, rfl, by decide +kernel, rfl, by decide +kernel, by decide +kernel⟩
theorem v0_L_whole : okV n_L_whole (defScope s_L_whole) 0 "found" = true := by decide +kernel
theorem g_isinstance_L_whole : glB (defScope s_L_whole) "isinstance" = true := by decide +kernel
theorem g_int_L_whole : glB (defScope s_L_whole) "int" = true := by decide +kernel
theorem g_bool_L_whole : glB (defScope s_L_whole) "bool" = true := by decide +kernel
def c_L_whole : Ct := fun ds R => ∃ i : Int, ds = [.int i] ∧ R (.fz (.bool true))
theorem ln_L_whole : ∀ ds R, c_L_whole ds R → ds.length = 1 := by
  rintro ds R ⟨i, rfl, _⟩
  rfl
theorem bd_L_whole {W : Wd} {k : Nat} (B : Bn W) (X : Cx) (C : Cok X W n_L_whole (defScope s_L_whole) k) (ds : List D) (R : Rs → Prop) (h : c_L_whole ds R) :
    GSs X (startG n_L_whole ds) (defBody s_L_whole) { nx := fun _ => R (.fz .none), rt := R } := by
  obtain ⟨i, rfl, hR⟩ := h
  have v0 := v0_L_whole
  have g_isinstance := g_isinstance_L_whole
  have g_int := g_int_L_whole
  have g_bool := g_bool_L_whole
  (show GSs X [.fz _] (List.cons _ _) _)
  apply gss_ret
  · walk_at "dw.e"
  · exact hR

theorem has_L_whole {W : Wd} {k : Nat} (B : Bn W) (F : FunAt W "_law_whole" s_L_whole) : Has W (k + 1) "_law_whole" c_L_whole :=
  has_mk F sc_L_whole ln_L_whole (fun _ _ _ _ _ _ us hl => match us, hl with | [_], _ => rfl) fun X C ds R h => bd_L_whole B X C ds R h
/-! ### _law_number -/
abbrev s_L_number : Stmt := topS 19
abbrev n_L_number : List Str := ["cell", "great"]
theorem sc_L_number : FnScope n_L_number ["cell"] (defScope s_L_number) := ⟨rfl, rfl, rfl, by decide +kernel, rfl, by decide +kernel, by decide +kernel⟩
theorem v0_L_number : okV n_L_number (defScope s_L_number) 0 "cell" = true := by decide +kernel
theorem v1_L_number : okV n_L_number (defScope s_L_number) 1 "great" = true := by decide +kernel
theorem l1_L_number : okL n_L_number (defScope s_L_number) 1 "great" = true := by decide +kernel
def c_L_number : Ct := fun ds R => ∃ c : Int, ds = [.int c] ∧ Bd 1048576 c ∧ R (.fz (.int (numA c)))
theorem ln_L_number : ∀ ds R, c_L_number ds R → ds.length = 1 := by
  rintro ds R ⟨i, rfl, _⟩
  rfl
theorem bd_L_number {W : Wd} {k : Nat} (B : Bn W) (X : Cx) (C : Cok X W n_L_number (defScope s_L_number) k) (ds : List D) (R : Rs → Prop) (h : c_L_number ds R) :
    GSs X (startG n_L_number ds) (defBody s_L_number) { nx := fun _ => R (.fz .none), rt := R } := by
  obtain ⟨c, rfl, hb, hR⟩ := h
  have v0 := v0_L_number
  have v1 := v1_L_number
  have l1 := l1_L_number
  (show GSs X [.fz _, .no] (List.cons _ _) _)
  have hg := greatA_bd
  have hgp := greatA_pos
  have hb5 : Bd 1048576 (c / 5) := hb.div (by decide)
  have hg8 : Bd 330 (greatA / 8675309) := hg.div (by decide)
  apply gss_when
  · walk_at "dw.e"
  · intro ht
    rw [show numA c = c / 5 * (greatA / 8675309 + 11) % (2 * greatA + 1) - greatA from if_pos (of_decide_eq_true ht)] at hR
    apply gss_asg C _ l1 (d := .int greatA)
    · refine GE.is (d := .int ((10 : Int) ^ (64 : Int).toNat * 10 ^ (34 : Int).toNat)) ?_ rfl
      apply ge_mul
      · walk_at "dw.e"
      · walk_at "dw.e"
      · exact Bd.ok (n := 300) (m := 300) (by decide +kernel) (by decide +kernel) (by decide)
    · apply gss_ret
      · walk_at "dw.e"
      · exact hR
    · rfl
  · intro ht
    have h1 : ¬ c % 5 = 0 := of_decide_eq_false ht
    apply gss_when
    · walk_at "dw.e"
    · intro ht2
      rw [show numA c = c / 5 % 2000001 - 1000000 from (if_neg h1).trans (if_pos (of_decide_eq_true ht2))] at hR
      apply gss_ret
      · walk_at "dw.e"
      · exact hR
    · intro ht2
      rw [show numA c = c / 5 % 15 - 7 from (if_neg h1).trans (if_neg (of_decide_eq_false ht2))] at hR
      apply gss_ret
      · walk_at "dw.e"
      · exact hR

theorem has_L_number {W : Wd} {k : Nat} (B : Bn W) (F : FunAt W "_law_number" s_L_number) : Has W (k + 1) "_law_number" c_L_number :=
  has_mk F sc_L_number ln_L_number (fun _ _ _ _ _ _ us hl => match us, hl with | [_], _ => rfl) fun X C ds R h => bd_L_number B X C ds R h
/-! ### _law_between -/
abbrev s_L_between : Stmt := topS 20
abbrev n_L_between : List Str := ["P", "Q"]
theorem sc_L_between : FnScope n_L_between ["P", "Q"] (defScope s_L_between) := ⟨rfl, rfl, rfl, by decide +kernel, rfl, by decide +kernel, by decide +kernel⟩
theorem v0_L_between : okV n_L_between (defScope s_L_between) 0 "P" = true := by decide +kernel
theorem v1_L_between : okV n_L_between (defScope s_L_between) 1 "Q" = true := by decide +kernel
def c_L_between : Ct := fun ds R => ∃ (P Q : P3), ds = [P.en, Q.en] ∧ R (.fz (P3.en (way P Q)))
theorem ln_L_between : ∀ ds R, c_L_between ds R → ds.length = 2 := by
  rintro ds R ⟨P, Q, rfl, _⟩
  rfl
theorem bd_L_between {W : Wd} {k : Nat} (B : Bn W)  (X : Cx) (C : Cok X W n_L_between (defScope s_L_between) k) (ds : List D) (R : Rs → Prop) (h : c_L_between ds R) :
    GSs X (startG n_L_between ds) (defBody s_L_between) { nx := fun _ => R (.fz .none), rt := R } := by
  obtain ⟨P, Q, rfl, hR⟩ := h
  have v0 := v0_L_between
  have v1 := v1_L_between
  (show GSs X [.fz _, .fz _] (List.cons _ _) _)
  apply gss_ret
  · walk_at "dw.e"
  · exact hR

theorem has_L_between {W : Wd} {k : Nat} (B : Bn W) (F : FunAt W "_law_between" s_L_between) : Has W (k + 1) "_law_between" c_L_between :=
  has_mk F sc_L_between ln_L_between (fun _ _ _ _ _ _ us hl => match us, hl with | [_, _], _ => rfl) fun X C ds R h => bd_L_between B X C ds R h
/-! ### _law_cross -/
abbrev s_L_cross : Stmt := topS 21
abbrev n_L_cross : List Str := ["P", "Q", "R", "u", "v"]
theorem sc_L_cross : FnScope n_L_cross ["P", "Q", "R"] (defScope s_L_cross) := ⟨rfl, rfl, rfl, by decide +kernel, rfl, by decide +kernel, by decide +kernel⟩
theorem v0_L_cross : okV n_L_cross (defScope s_L_cross) 0 "P" = true := by decide +kernel
theorem v1_L_cross : okV n_L_cross (defScope s_L_cross) 1 "Q" = true := by decide +kernel
theorem v2_L_cross : okV n_L_cross (defScope s_L_cross) 2 "R" = true := by decide +kernel
theorem v3_L_cross : okV n_L_cross (defScope s_L_cross) 3 "u" = true := by decide +kernel
theorem l3_L_cross : okL n_L_cross (defScope s_L_cross) 3 "u" = true := by decide +kernel
theorem v4_L_cross : okV n_L_cross (defScope s_L_cross) 4 "v" = true := by decide +kernel
theorem l4_L_cross : okL n_L_cross (defScope s_L_cross) 4 "v" = true := by decide +kernel
theorem g_L_between_L_cross : glB (defScope s_L_cross) "_law_between" = true := by decide +kernel
def c_L_cross : Ct := fun ds R => ∃ (P Q T : P3), ds = [P.en, Q.en, T.en] ∧ P3.Bd 3000 P ∧ P3.Bd 3000 Q ∧ P3.Bd 3000 T ∧ R (.fz (P3.en (cross (way P Q) (way P T))))
theorem ln_L_cross : ∀ ds R, c_L_cross ds R → ds.length = 3 := by
  rintro ds R ⟨P, Q, T, rfl, _⟩
  rfl
theorem bd_L_cross {W : Wd} {k : Nat} (B : Bn W) (h_L_between : Has W k "_law_between" c_L_between) (X : Cx) (C : Cok X W n_L_cross (defScope s_L_cross) k) (ds : List D) (R : Rs → Prop) (h : c_L_cross ds R) :
    GSs X (startG n_L_cross ds) (defBody s_L_cross) { nx := fun _ => R (.fz .none), rt := R } := by
  obtain ⟨P, Q, T, rfl, hP, hQ, hT, hR⟩ := h
  have v0 := v0_L_cross
  have v1 := v1_L_cross
  have v2 := v2_L_cross
  have v3 := v3_L_cross
  have l3 := l3_L_cross
  have v4 := v4_L_cross
  have l4 := l4_L_cross
  have g_L_between := g_L_between_L_cross
  (show GSs X [.fz _, .fz _, .fz _, .no, .no] (List.cons _ _) _)
  have w1 := hP.way hQ
  have w2 := hP.way hT
  walk_at "dw.asgE"
  case hd => show _ = P3.en (way P Q); rfl
  walk_at "dw.asgE"
  case hd => show _ = P3.en (way P T); rfl
  apply gss_ret
  · walk_at "dw.e"
  · exact hR

theorem has_L_cross {W : Wd} {k : Nat} (B : Bn W) (F : FunAt W "_law_cross" s_L_cross) (h_L_between : Has W k "_law_between" c_L_between) : Has W (k + 1) "_law_cross" c_L_cross :=
  has_mk F sc_L_cross ln_L_cross (fun _ _ _ _ _ _ us hl => match us, hl with | [_, _, _], _ => rfl) fun X C ds R h => bd_L_cross B (h_L_between := h_L_between) X C ds R h
/-! ### _law_divisor -/
abbrev s_L_divisor : Stmt := topS 22
abbrev n_L_divisor : List Str := ["one", "other"]
theorem sc_L_divisor : FnScope n_L_divisor ["one", "other"] (defScope s_L_divisor) := ⟨rfl, rfl, rfl, by decide +kernel, rfl, by decide +kernel, by decide +kernel⟩
theorem v0_L_divisor : okV n_L_divisor (defScope s_L_divisor) 0 "one" = true := by decide +kernel
theorem l0_L_divisor : okL n_L_divisor (defScope s_L_divisor) 0 "one" = true := by decide +kernel
theorem v1_L_divisor : okV n_L_divisor (defScope s_L_divisor) 1 "other" = true := by decide +kernel
theorem l1_L_divisor : okL n_L_divisor (defScope s_L_divisor) 1 "other" = true := by decide +kernel
theorem g_abs_L_divisor : glB (defScope s_L_divisor) "abs" = true := by decide +kernel
def c_L_divisor : Ct := fun ds R => ∃ (a b : Int), ds = [.int a, .int b] ∧ R (.fz (.int (Int.gcd a b)))
theorem ln_L_divisor : ∀ ds R, c_L_divisor ds R → ds.length = 2 := by
  rintro ds R ⟨a, b, rfl, _⟩
  rfl
theorem bd_L_divisor {W : Wd} {k : Nat} (B : Bn W)  (X : Cx) (C : Cok X W n_L_divisor (defScope s_L_divisor) k) (ds : List D) (R : Rs → Prop) (h : c_L_divisor ds R) :
    GSs X (startG n_L_divisor ds) (defBody s_L_divisor) { nx := fun _ => R (.fz .none), rt := R } := by
  obtain ⟨a, b, rfl, hR⟩ := h
  have v0 := v0_L_divisor
  have l0 := l0_L_divisor
  have v1 := v1_L_divisor
  have l1 := l1_L_divisor
  have g_abs := g_abs_L_divisor
  (show GSs X [.fz _, .fz _] (List.cons _ _) _)
  apply gss_while C (fun n G' => ∃ x y : Int, G' = [.fz (.int x), .fz (.int y)] ∧ y.natAbs = n ∧ Int.gcd x y = Int.gcd a b) b.natAbs
  · exact ⟨a, b, rfl, rfl, rfl⟩
  · rintro n G' ⟨x, y, rfl, hn, hg⟩
    refine ⟨!decide (y = 0), ?_, ?_, ?_⟩
    · walk_at "dw.e"
    · intro ht
      have hy : y ≠ 0 := by simpa using ht
      apply gss_par C 0 1 (d1 := .int y) (d2 := .int (x.fmod y))
      walk_at "dw.par"
      apply gss_nil
      refine ⟨_, ?_, y, x.fmod y, rfl, rfl, (gcd_fmod x y).trans hg⟩
      have := fmod_lt_abs x hy
      omega
    · intro ht
      have hy : y = 0 := by simpa using ht
      subst hy
      apply gss_ret
      · walk_at "dw.e"
      · rw [← hg, gcd_zero_abs] at hR
        exact hR

theorem has_L_divisor {W : Wd} {k : Nat} (B : Bn W) (F : FunAt W "_law_divisor" s_L_divisor) : Has W (k + 1) "_law_divisor" c_L_divisor :=
  has_mk F sc_L_divisor ln_L_divisor (fun _ _ _ _ _ _ us hl => match us, hl with | [_, _], _ => rfl) fun X C ds R h => bd_L_divisor B X C ds R h
/-! ### _law_refused -/
abbrev s_L_refused : Stmt := topS 23
abbrev n_L_refused : List Str := ["P", "Q", "R", "kinds", "e"]
theorem sc_L_refused : FnScope n_L_refused ["P", "Q", "R"] (defScope s_L_refused) := ⟨rfl, rfl, rfl, by decide +kernel, rfl, by decide +kernel, by decide +kernel⟩
theorem v0_L_refused : okV n_L_refused (defScope s_L_refused) 0 "P" = true := by decide +kernel
theorem v1_L_refused : okV n_L_refused (defScope s_L_refused) 1 "Q" = true := by decide +kernel
theorem v2_L_refused : okV n_L_refused (defScope s_L_refused) 2 "R" = true := by decide +kernel
theorem v3_L_refused : okV n_L_refused (defScope s_L_refused) 3 "kinds" = true := by decide +kernel
theorem l3_L_refused : okL n_L_refused (defScope s_L_refused) 3 "kinds" = true := by decide +kernel
theorem v4_L_refused : okV n_L_refused (defScope s_L_refused) 4 "e" = true := by decide +kernel
theorem l4_L_refused : okL n_L_refused (defScope s_L_refused) 4 "e" = true := by decide +kernel
theorem g_BodyError_L_refused : glB (defScope s_L_refused) "BodyError" = true := by decide +kernel
theorem g_plane_through_L_refused : glB (defScope s_L_refused) "plane_through" = true := by decide +kernel
theorem g_isinstance_L_refused : glB (defScope s_L_refused) "isinstance" = true := by decide +kernel
theorem g_Flat_L_refused : glB (defScope s_L_refused) "Flat" = true := by decide +kernel
theorem g_ValueError_L_refused : glB (defScope s_L_refused) "ValueError" = true := by decide +kernel
theorem g_NoAxis_L_refused : glB (defScope s_L_refused) "NoAxis" = true := by decide +kernel
theorem g_NoMove_L_refused : glB (defScope s_L_refused) "NoMove" = true := by decide +kernel
theorem g_NoName_L_refused : glB (defScope s_L_refused) "NoName" = true := by decide +kernel
theorem g_NoPoints_L_refused : glB (defScope s_L_refused) "NoPoints" = true := by decide +kernel
theorem g_NoRow_L_refused : glB (defScope s_L_refused) "NoRow" = true := by decide +kernel
theorem g_NoText_L_refused : glB (defScope s_L_refused) "NoText" = true := by decide +kernel
theorem g_TooGreat_L_refused : glB (defScope s_L_refused) "TooGreat" = true := by decide +kernel
-- exc
def c_L_refused : Ct := fun ds R => ∃ (P Q T : P3), ds = [P.en, Q.en, T.en] ∧ P3.Bd 3000 P ∧ P3.Bd 3000 Q ∧ P3.Bd 3000 T ∧ p3g (cross (way P Q) (way P T)) = 0 ∧ R (.fz (.bool true))
theorem ln_L_refused : ∀ ds R, c_L_refused ds R → ds.length = 3 := by
  rintro ds R ⟨P, Q, T, rfl, _⟩
  rfl
theorem bd_L_refused {W : Wd} {k : Nat} (B : Bn W) (Z : Er W RS) (h_plane_through : Has W k "plane_through" c_plane_through) (X : Cx) (C : Cok X W n_L_refused (defScope s_L_refused) k) (ds : List D) (R : Rs → Prop) (h : c_L_refused ds R) :
    GSs X (startG n_L_refused ds) (defBody s_L_refused) { nx := fun _ => R (.fz .none), rt := R } := by
  obtain ⟨P, Q, T, rfl, hP, hQ, hT, hz, hR⟩ := h
  have v0 := v0_L_refused
  have v1 := v1_L_refused
  have v2 := v2_L_refused
  have v3 := v3_L_refused
  have l3 := l3_L_refused
  have v4 := v4_L_refused
  have l4 := l4_L_refused
  have g_BodyError := g_BodyError_L_refused
  have g_plane_through := g_plane_through_L_refused
  have g_isinstance := g_isinstance_L_refused
  have g_Flat := g_Flat_L_refused
  have g_ValueError := g_ValueError_L_refused
  have g_NoAxis := g_NoAxis_L_refused
  have g_NoMove := g_NoMove_L_refused
  have g_NoName := g_NoName_L_refused
  have g_NoPoints := g_NoPoints_L_refused
  have g_NoRow := g_NoRow_L_refused
  have g_NoText := g_NoText_L_refused
  have g_TooGreat := g_TooGreat_L_refused
  (show GSs X [.fz _, .fz _, .fz _, .no, .no] (List.cons _ _) _)
  walk_at "dw.asgO"
  refine gs_cons (gs_tryB (E := ⟨_, _, _, _⟩) (Hs := fun x G' => x = "Flat" ∧ G' = [.fz P.en, .fz Q.en, .fz T.en, .ow [], .no]) C Z 4 v4 (by decide +kernel) g_BodyError (er_body Z) g_isinstance B.isinstance ?_ ?_)
  · intro X' C'
    refine gss_exprX (x := "Flat") (gex_call C' h_plane_through (Nat.le_refl _) g_plane_through (ds := [P.en, Q.en, T.en]) ?_ ?_ rfl rfl) ⟨rfl, rfl⟩ rfl
    · revert C'
      intro C
      walk_at "dw.e"
    · exact fun R h => ⟨P, Q, T, rfl, hP, hQ, hT, .inr ⟨hz, h⟩⟩
  · rintro x G' ⟨rfl, rfl⟩
    refine ⟨by decide, fun Xs a Cs I => ?_⟩
    have ZF := Z "Flat" (by decide)
    apply gss_asgON Cs 3 l3 (ds := [.bool true, .bool true, .bool false, .bool false])
    · refine go_lst (x1 := ()) (ga_cons ?_ (ga_cons ?_ (ga_cons ?_ (ga_cons ?_ ga_nil rfl) rfl) rfl) rfl) (by decide)
      · exact I.go ZF rfl g_Flat (by decide) (by decide)
      · exact I.goV ZF rfl g_ValueError
      · exact I.go ZF rfl g_NoAxis (by decide) (by decide)
      · exact I.go ZF rfl g_NoMove (by decide) (by decide)
    · rfl
    apply gss_asgON Cs 3 l3 (ds := [.bool true, .bool true, .bool false, .bool false] ++ [.bool false, .bool false, .bool false])
    · refine go_add (gl_vN Cs 3 v3 rfl) (GO.gl (go_lst (x1 := ()) (ga_cons ?_ (ga_cons ?_ (ga_cons ?_ ga_nil rfl) rfl) rfl) (by decide))) (by decide)
      · exact I.go ZF rfl g_NoName (by decide) (by decide)
      · exact I.go ZF rfl g_NoPoints (by decide) (by decide)
      · exact I.go ZF rfl g_NoRow (by decide) (by decide)
    · rfl
    apply gss_asgON Cs 3 l3 (ds := ([.bool true, .bool true, .bool false, .bool false] ++ [.bool false, .bool false, .bool false]) ++ [.bool false, .bool false])
    · refine go_add (gl_vN Cs 3 v3 rfl) (GO.gl (go_lst (x1 := ()) (ga_cons ?_ (ga_cons ?_ ga_nil rfl) rfl) (by decide))) (by decide)
      · exact I.go ZF rfl g_NoText (by decide) (by decide)
      · exact I.go ZF rfl g_TooGreat (by decide) (by decide)
    · rfl
    apply gss_nil
    show GSs X [.fz P.en, .fz Q.en, .fz T.en, .ow [.bool true, .bool true, .bool false, .bool false, .bool false, .bool false, .bool false, .bool false, .bool false], .no] _ _
    apply gss_ret (d := .bool true)
    · refine ge_cp C (GL.gh (gl_v C 3 v3 rfl)) (GL.gh (GO.gl (go_add (xs := [.bool true, .bool true]) (ys := (List.replicate (Int.toNat 7) [.bool false]).flatten) (GO.gl (go_lst (x1 := ()) (ga_cons ge_bl (ga_cons ge_bl ga_nil rfl) rfl) (by decide))) (GO.gl (go_rep (xs := [.bool false]) (go_lst (x1 := ()) (ga_cons ge_bl ga_nil rfl) (by decide)) ge_int (by decide) (by decide) (by decide))) (by decide)))) ?_ ?_
      · exact cmp_eqTd rfl rfl
      · rfl
    · exact hR

theorem has_L_refused {W : Wd} {k : Nat} (B : Bn W) (Z : Er W RS) (F : FunAt W "_law_refused" s_L_refused) (h_plane_through : Has W k "plane_through" c_plane_through) : Has W (k + 1) "_law_refused" c_L_refused :=
  has_mk F sc_L_refused ln_L_refused (fun _ _ _ _ _ _ us hl => match us, hl with | [_, _, _], _ => rfl) fun X C ds R h => bd_L_refused B Z (h_plane_through := h_plane_through) X C ds R h
/-! ### _law_good -/
abbrev s_L_good : Stmt := topS 24
abbrev n_L_good : List Str := ["P", "Q", "R", "cross", "many", "found", "number", "a", "b", "c", "far", "one", "here"]
theorem sc_L_good : FnScope n_L_good ["P", "Q", "R"] (defScope s_L_good) := ⟨rfl, rfl, rfl, by decide +kernel, rfl, by decide +kernel, by decide +kernel⟩
theorem v0_L_good : okV n_L_good (defScope s_L_good) 0 "P" = true := by decide +kernel
theorem v1_L_good : okV n_L_good (defScope s_L_good) 1 "Q" = true := by decide +kernel
theorem v2_L_good : okV n_L_good (defScope s_L_good) 2 "R" = true := by decide +kernel
theorem v3_L_good : okV n_L_good (defScope s_L_good) 3 "cross" = true := by decide +kernel
theorem l3_L_good : okL n_L_good (defScope s_L_good) 3 "cross" = true := by decide +kernel
theorem v4_L_good : okV n_L_good (defScope s_L_good) 4 "many" = true := by decide +kernel
theorem l4_L_good : okL n_L_good (defScope s_L_good) 4 "many" = true := by decide +kernel
theorem v5_L_good : okV n_L_good (defScope s_L_good) 5 "found" = true := by decide +kernel
theorem l5_L_good : okL n_L_good (defScope s_L_good) 5 "found" = true := by decide +kernel
theorem v7_L_good : okV n_L_good (defScope s_L_good) 7 "a" = true := by decide +kernel
theorem l7_L_good : okL n_L_good (defScope s_L_good) 7 "a" = true := by decide +kernel
theorem v8_L_good : okV n_L_good (defScope s_L_good) 8 "b" = true := by decide +kernel
theorem l8_L_good : okL n_L_good (defScope s_L_good) 8 "b" = true := by decide +kernel
theorem v9_L_good : okV n_L_good (defScope s_L_good) 9 "c" = true := by decide +kernel
theorem l9_L_good : okL n_L_good (defScope s_L_good) 9 "c" = true := by decide +kernel
theorem v10_L_good : okV n_L_good (defScope s_L_good) 10 "far" = true := by decide +kernel
theorem l10_L_good : okL n_L_good (defScope s_L_good) 10 "far" = true := by decide +kernel
theorem v11_L_good : okV n_L_good (defScope s_L_good) 11 "one" = true := by decide +kernel
theorem l11_L_good : okL n_L_good (defScope s_L_good) 11 "one" = true := by decide +kernel
theorem v12_L_good : okV n_L_good (defScope s_L_good) 12 "here" = true := by decide +kernel
theorem l12_L_good : okL n_L_good (defScope s_L_good) 12 "here" = true := by decide +kernel
theorem g_L_cross_L_good : glB (defScope s_L_good) "_law_cross" = true := by decide +kernel
theorem g_L_divisor_L_good : glB (defScope s_L_good) "_law_divisor" = true := by decide +kernel
theorem g_plane_through_L_good : glB (defScope s_L_good) "plane_through" = true := by decide +kernel
theorem g_isinstance_L_good : glB (defScope s_L_good) "isinstance" = true := by decide +kernel
theorem g_tuple_L_good : glB (defScope s_L_good) "tuple" = true := by decide +kernel
theorem g_L_refused_L_good : glB (defScope s_L_good) "_law_refused" = true := by decide +kernel
def c_L_good : Ct := fun ds R => ∃ (P Q T : P3), ds = [P.en, Q.en, T.en] ∧ P3.Bd 2000 P ∧ P3.Bd 2000 Q ∧ P3.Bd 2000 T ∧ R (.fz (.bool true))
theorem ln_L_good : ∀ ds R, c_L_good ds R → ds.length = 3 := by
  rintro ds R ⟨P, Q, T, rfl, _⟩
  rfl
theorem bd_L_good {W : Wd} {k : Nat} (B : Bn W) (h_L_cross : Has W k "_law_cross" c_L_cross) (h_L_divisor : Has W k "_law_divisor" c_L_divisor) (h_plane_through : Has W k "plane_through" c_plane_through) (h_L_refused : Has W k "_law_refused" c_L_refused) (h_L_whole : Has W k "_law_whole" c_L_whole) (X : Cx) (C : Cok X W n_L_good (defScope s_L_good) k) (ds : List D) (R : Rs → Prop) (h : c_L_good ds R) :
    GSs X (startG n_L_good ds) (defBody s_L_good) { nx := fun _ => R (.fz .none), rt := R } := by
  obtain ⟨P, Q, T, rfl, hP, hQ, hT, hR⟩ := h
  have v0 := v0_L_good
  have v1 := v1_L_good
  have v2 := v2_L_good
  have v3 := v3_L_good
  have l3 := l3_L_good
  have v4 := v4_L_good
  have l4 := l4_L_good
  have v5 := v5_L_good
  have l5 := l5_L_good
  have v7 := v7_L_good
  have l7 := l7_L_good
  have v8 := v8_L_good
  have l8 := l8_L_good
  have v9 := v9_L_good
  have l9 := l9_L_good
  have v10 := v10_L_good
  have l10 := l10_L_good
  have v11 := v11_L_good
  have l11 := l11_L_good
  have v12 := v12_L_good
  have l12 := l12_L_good
  have g_L_cross := g_L_cross_L_good
  have g_L_divisor := g_L_divisor_L_good
  have g_plane_through := g_plane_through_L_good
  have g_isinstance := g_isinstance_L_good
  have g_tuple := g_tuple_L_good
  have g_L_refused := g_L_refused_L_good
  (show GSs X [.fz _, .fz _, .fz _, .no, .no, .no, .no, .no, .no, .no, .no, .no, .no] (List.cons _ _) _)
  have hu := hP.way hQ
  have hv := hP.way hT
  have hc := hu.cross hv
  walk_at "dw.asgE"
  case hd => show _ = P3.en (cross (way P Q) (way P T)); rfl
  walk_at "dw.asgE"
  case hd => show _ = PyData.int (p3g (cross (way P Q) (way P T))); rfl
  apply gss_when (t := decide (p3g (cross (way P Q) (way P T)) = 0))
  · walk_at "dw.e"
  · intro ht
    have hz := of_decide_eq_true ht
    have hz2 : p3g (cross (way T P) (way T Q)) = 0 := by
      rw [show cross (way T P) (way T Q) = cross (way P Q) (way P T) from ((cross_cyc T P Q).symm.trans (by rfl)).trans rfl]
      exact hz
    apply gss_ret (d := .bool true)
    · walk_at "dw.e"
    · exact hR
  intro ht
  have hz := of_decide_eq_false ht
  have hg : 0 < p3g (cross (way P Q) (way P T)) := by
    have : 0 ≤ p3g (cross (way P Q) (way P T)) := Int.natCast_nonneg _
    omega
  have hgb := p3g_bd hc hg
  have hdv := hc.divP hg
  have hon := plane_on hg
  have hcy := planeA_cyc hg
  walk_at "dw.asgE"
  case hd => show _ = Pl.en (planeA P Q T); rfl
  apply gss_not
  · walk_at "dw.e"
  have hg2 : 0 < p3g (cross (way Q T) (way Q P)) := by
    rw [cross_cyc]
    exact hg
  have hg3 : 0 < p3g (cross (way T P) (way T Q)) := by
    rw [cross_cyc Q T P]
    exact hg2
  have hg4 : 0 < p3g (cross (way P T) (way P Q)) := by
    rw [cross_sw, p3g_neg]
    exact hg
  have hcy2 : planeA T P Q = planeA P Q T := (planeA_cyc hg2).trans hcy
  have hsw := planeA_sw hg
  apply gss_not
  · refine gt_cp C (x := .list []) (y := .list []) (GL.gh (GO.gl (GO.is (go_lc1f C 6 (xs := [(planeA P Q T).n.x, (planeA P Q T).n.y, (planeA P Q T).n.z, (planeA P Q T).d]) (en := .int) (bt := fun _ => false) (g := fun a => .int a) ?_ ?_ ?_ ?_ ?_ ?_ ?_) rfl))) (GL.gh (GO.gl (go_lst (x1 := ()) ga_nil (by decide)))) (cmp_neFd rfl rfl) rfl
    · decide +kernel
    · decide +kernel
    · walk_at "dw.e"
    · exact Nat.le_of_ble_eq_true rfl
    · intro X C a ha
      walk_at "dw.e"
    · intro X C a ha h
      cases h
    · intro _
      rfl
  (show GSs _ _ (List.cons _ _) _)
  have hpd : planeA P Q T = ⟨divP (cross (way P Q) (way P T)) (p3g (cross (way P Q) (way P T))), prod (divP (cross (way P Q) (way P T)) (p3g (cross (way P Q) (way P T)))) P⟩ := rfl
  generalize hn : divP (cross (way P Q) (way P T)) (p3g (cross (way P Q) (way P T))) = n at hdv hpd
  apply gss_unpE (ws := List.range 40) (d := .list [.int n.x, .int n.y, .int n.z])
  case he => walk_at "dw.e"
  case hd => subst hn; rfl
  case hg => walk_at "dw.gg"
  case hs => rfl
  case hw => rfl
  case h1 => rfl
  walk_at "dw.nf"
  walk_at "dw.asgE"
  case hd => show _ = PyData.int (prod n P); rfl
  rw [hpd] at hon hcy hcy2 hsw ⊢
  apply gss_not
  · walk_at "dw.e"
  have hbn : Bd 100000 n.x ∧ Bd 100000 n.y ∧ Bd 100000 n.z := ⟨hdv.x.mono (by decide), hdv.y.mono (by decide), hdv.z.mono (by decide)⟩
  obtain ⟨hb1, hb2, hb3⟩ := hbn
  apply gss_for C (fun _ G' => ∃ x6 o h, G' = [.fz P.en, .fz Q.en, .fz T.en, .fz (cross (way P Q) (way P T)).en, .fz (.int (p3g (cross (way P Q) (way P T)))), .fz (Pl.en ⟨n, prod n P⟩), x6, .fz (.int n.x), .fz (.int n.y), .fz (.int n.z), .fz (.int (prod n P)), o, h])
  · walk_at "dw.e"
  · exact ⟨_, _, _, rfl⟩
  · rintro i d G' hd ⟨x6, o, h, rfl⟩
    obtain ⟨u, rfl, hub, hu⟩ : ∃ u : P3, d = u.en ∧ P3.Bd 2000 u ∧ prod n u = prod n P := by
      match i, hd with
      | 0, hd => exact ⟨Q, (Option.some.inj hd).symm, hQ, hon.1⟩
      | 1, hd => exact ⟨T, (Option.some.inj hd).symm, hT, hon.2⟩
    refine ⟨_, [11], gg_name C 11 l11 (by simp), ?_⟩
    walk_at "dw.asgE"
    case hd => show _ = PyData.int (prod n u); rfl
    apply gss_not
    · walk_at "dw.e"
      exact hu
    · apply gss_nil
      exact ⟨_, _, _, rfl⟩
  · rintro G' ⟨x6, o, h, rfl⟩
    apply gss_not
    · walk_at "dw.e"
      all_goals first | exact hcy | exact hcy2 | exact hsw
    apply gss_ret (d := .bool true)
    · walk_at "dw.e"
      all_goals first | exact hcy | exact hcy2 | exact hsw
    · exact hR
  · intro x
    rfl

theorem has_L_good {W : Wd} {k : Nat} (B : Bn W) (F : FunAt W "_law_good" s_L_good) (h_L_cross : Has W k "_law_cross" c_L_cross) (h_L_divisor : Has W k "_law_divisor" c_L_divisor) (h_plane_through : Has W k "plane_through" c_plane_through) (h_L_refused : Has W k "_law_refused" c_L_refused) (h_L_whole : Has W k "_law_whole" c_L_whole) : Has W (k + 1) "_law_good" c_L_good :=
  has_mk F sc_L_good ln_L_good (fun _ _ _ _ _ _ us hl => match us, hl with | [_, _, _], _ => rfl) fun X C ds R h => bd_L_good B (h_L_cross := h_L_cross) (h_L_divisor := h_L_divisor) (h_plane_through := h_plane_through) (h_L_refused := h_L_refused) (h_L_whole := h_L_whole) X C ds R h
/-! ### law -/
abbrev s_law : Stmt := topS 25
abbrev n_law : List Str := ["script", "k", "numbers", "j", "P", "Q", "R", "last", "u", "v", "many"]
theorem sc_law : FnScope n_law ["script"] (defScope s_law) := ⟨rfl, rfl, rfl, by decide +kernel, rfl, by decide +kernel, by decide +kernel⟩
theorem v0_law : okV n_law (defScope s_law) 0 "script" = true := by decide +kernel
theorem v1_law : okV n_law (defScope s_law) 1 "k" = true := by decide +kernel
theorem l1_law : okL n_law (defScope s_law) 1 "k" = true := by decide +kernel
theorem v2_law : okV n_law (defScope s_law) 2 "numbers" = true := by decide +kernel
theorem l2_law : okL n_law (defScope s_law) 2 "numbers" = true := by decide +kernel
theorem v4_law : okV n_law (defScope s_law) 4 "P" = true := by decide +kernel
theorem l4_law : okL n_law (defScope s_law) 4 "P" = true := by decide +kernel
theorem v5_law : okV n_law (defScope s_law) 5 "Q" = true := by decide +kernel
theorem l5_law : okL n_law (defScope s_law) 5 "Q" = true := by decide +kernel
theorem v6_law : okV n_law (defScope s_law) 6 "R" = true := by decide +kernel
theorem l6_law : okL n_law (defScope s_law) 6 "R" = true := by decide +kernel
theorem v7_law : okV n_law (defScope s_law) 7 "last" = true := by decide +kernel
theorem l7_law : okL n_law (defScope s_law) 7 "last" = true := by decide +kernel
theorem v8_law : okV n_law (defScope s_law) 8 "u" = true := by decide +kernel
theorem l8_law : okL n_law (defScope s_law) 8 "u" = true := by decide +kernel
theorem v9_law : okV n_law (defScope s_law) 9 "v" = true := by decide +kernel
theorem l9_law : okL n_law (defScope s_law) 9 "v" = true := by decide +kernel
theorem v10_law : okV n_law (defScope s_law) 10 "many" = true := by decide +kernel
theorem l10_law : okL n_law (defScope s_law) 10 "many" = true := by decide +kernel
theorem g_range_law : glB (defScope s_law) "range" = true := by decide +kernel
theorem g_max_law : glB (defScope s_law) "max" = true := by decide +kernel
theorem g_min_law : glB (defScope s_law) "min" = true := by decide +kernel
theorem g_L_cell_law : glB (defScope s_law) "_law_cell" = true := by decide +kernel
theorem g_L_between_law : glB (defScope s_law) "_law_between" = true := by decide +kernel
theorem g_L_good_law : glB (defScope s_law) "_law_good" = true := by decide +kernel
theorem g_len_law : glB (defScope s_law) "len" = true := by decide +kernel
-- exc
theorem bd_law {W : Wd} {k : Nat} (B : Bn W) (Z : Er W RS) (h_L_number : Has W k "_law_number" c_L_number) (h_L_cell : Has W k "_law_cell" c_L_cell) (h_L_between : Has W k "_law_between" c_L_between) (h_L_good : Has W k "_law_good" c_L_good) (X : Cx) (C : Cok X W n_law (defScope s_law) k) (ds : List D) (R : Rs → Prop) (h : c_script ds R) :
    GSs X (startG n_law ds) (defBody s_law) { nx := fun _ => R (.fz .none), rt := R } := by
  obtain ⟨ns, rfl, hl, hb, hR⟩ := h
  have v0 := v0_law
  have v1 := v1_law
  have l1 := l1_law
  have v2 := v2_law
  have l2 := l2_law
  have v4 := v4_law
  have l4 := l4_law
  have v5 := v5_law
  have l5 := l5_law
  have v6 := v6_law
  have l6 := l6_law
  have v7 := v7_law
  have l7 := l7_law
  have v8 := v8_law
  have l8 := l8_law
  have v9 := v9_law
  have l9 := l9_law
  have v10 := v10_law
  have l10 := l10_law
  have g_range := g_range_law
  have g_max := g_max_law
  have g_min := g_min_law
  have g_L_cell := g_L_cell_law
  have g_L_between := g_L_between_law
  have g_L_good := g_L_good_law
  have g_len := g_len_law
  (show GSs X [.fz _, .no, .no, .no, .no, .no, .no, .no, .no, .no, .no] (List.cons _ _) _)
  have hcb : ∀ z, 0 ≤ z → z ≤ 100 → Bd 1048576 (cellA ns z) := fun z h0 h1 => cellA_bd hb h0 h1
  apply gss_for C (fun _ G' => ∃ x0_ x1_ x2_ x3_ x4_ x5_ x6_ x7_ x8_ x9_ : Sl, G' = [.fz (.list (ns.map .int)), x0_, x1_, x2_, x3_, x4_, x5_, x6_, x7_, x8_, x9_])
  · exact gi_cells C B 9 63 rfl rfl g_range g_max g_min g_len v0 rfl (by decide) (by decide) (by decide)
  · exact ⟨_, _, _, _, _, _, _, _, _, _, rfl⟩
  · rintro i d G' hd ⟨_, _, _, _, _, _, _, _, _, _, rfl⟩
    obtain ⟨hi, rfl⟩ := rngS_item hd
    refine ⟨_, [1], gg_name C 1 l1 (by simp), ?_⟩
    generalize hk : (0 : Int) + (i : Int) * 9 = K
    have hK : 0 ≤ K ∧ K ≤ 71 := by omega
    walk_at "dw.asgC"
    obtain ⟨P, hP⟩ : ∃ P : P3, P = ⟨numA (cellA ns (K + 0)), numA (cellA ns (K + 1)), numA (cellA ns (K + 2))⟩ := ⟨_, rfl⟩
    obtain ⟨Q, hQ⟩ : ∃ P : P3, P = ⟨numA (cellA ns (K + 3)), numA (cellA ns (K + 4)), numA (cellA ns (K + 5))⟩ := ⟨_, rfl⟩
    obtain ⟨S, hS⟩ : ∃ P : P3, P = ⟨numA (cellA ns (K + 6)), numA (cellA ns (K + 7)), numA (cellA ns (K + 8))⟩ := ⟨_, rfl⟩
    refine GSs.is (G := [.fz (.list (ns.map .int)), .fz (.int K), .ow [.int P.x, .int P.y, .int P.z, .int Q.x, .int Q.y, .int Q.z, .int S.x, .int S.y, .int S.z], _, _, _, _, _, _, _, _]) ?_ (by subst hP hQ hS; rfl)
    have bP : P3.Bd 400 P := hP ▸ ⟨numA_bd _, numA_bd _, numA_bd _⟩
    have bQ : P3.Bd 400 Q := hQ ▸ ⟨numA_bd _, numA_bd _, numA_bd _⟩
    have bS : P3.Bd 400 S := hS ▸ ⟨numA_bd _, numA_bd _, numA_bd _⟩
    clear hP hQ hS
    (show GSs _ _ (List.cons _ _) _)
    apply gss_unpE (ws := List.range 40) (d := .list [P.en, Q.en, S.en])
    walk_at "dw.unpE"
    have bL0 := (hcb (K + 8) (by omega) (by omega)).div (j := 75) (by decide)
    walk_at "dw.asg"
    generalize cellA ns (K + 8) / 75 = L at bL0
    have rest : ∀ (Q S : P3) (x2 x3 x8 x9 x10 : Sl), P3.Bd 2000 Q → P3.Bd 2000 S → GSs X [.fz (.list (ns.map .int)), .fz (.int K), x2, x3, .fz P.en, .fz Q.en, .fz S.en, .fz (.int L), x8, x9, x10] ((lpB (defBody s_law)).drop 5) ⟨fun G' => ∃ x0_ x1_ x2_ x3_ x4_ x5_ x6_ x7_ x8_ x9_ : Sl, G' = [.fz (.list (ns.map .int)), x0_, x1_, x2_, x3_, x4_, x5_, x6_, x7_, x8_, x9_], R, fun G' => GSs X G' ((defBody s_law).drop 1) { nx := fun _ => R (.fz .none), rt := R }, fun G' => ∃ x0_ x1_ x2_ x3_ x4_ x5_ x6_ x7_ x8_ x9_ : Sl, G' = [.fz (.list (ns.map .int)), x0_, x1_, x2_, x3_, x4_, x5_, x6_, x7_, x8_, x9_]⟩ := by
      intro Q S x2 x3 x8 x9 x10 bQ bS
      (show GSs _ _ (List.cons _ _) _)
      apply gss_not
      · walk_at "dw.e"
      · apply gss_nil
        exact ⟨_, _, _, _, _, _, _, _, _, _, rfl⟩
    have rest2 : ∀ (Q S : P3) (x2 x3 x8 x9 x10 : Sl), P3.Bd 1000 Q → P3.Bd 1000 S → GSs X [.fz (.list (ns.map .int)), .fz (.int K), x2, x3, .fz P.en, .fz Q.en, .fz S.en, .fz (.int L), x8, x9, x10] ((lpB (defBody s_law)).drop 4) ⟨fun G' => ∃ x0_ x1_ x2_ x3_ x4_ x5_ x6_ x7_ x8_ x9_ : Sl, G' = [.fz (.list (ns.map .int)), x0_, x1_, x2_, x3_, x4_, x5_, x6_, x7_, x8_, x9_], R, fun G' => GSs X G' ((defBody s_law).drop 1) { nx := fun _ => R (.fz .none), rt := R }, fun G' => ∃ x0_ x1_ x2_ x3_ x4_ x5_ x6_ x7_ x8_ x9_ : Sl, G' = [.fz (.list (ns.map .int)), x0_, x1_, x2_, x3_, x4_, x5_, x6_, x7_, x8_, x9_]⟩ := by
      intro Q S x2 x3 x8 x9 x10 bQ bS
      (show GSs _ _ (List.cons _ _) _)
      apply gss_if (t := _)
      · walk_at "dw.e"
      · intro ht
        have bm1 : Bd 20 (L / 15 % 7 - 3) := Bd.sm (by omega) (by omega) (by decide)
        have w1 := (bP.mono (m := 1000) (by decide)).way bQ
        walk_at "dw.asgE"
        case hd => show _ = P3.en (way P Q); rfl
        walk_at "dw.asg"
        generalize L / 15 % 7 - 3 = m1 at bm1
        walk_at "dw.asgE"
        case hd => show _ = P3.en ⟨P.x + (way P Q).x * m1, P.y + (way P Q).y * m1, P.z + (way P Q).z * m1⟩; rfl
        apply gss_nil
        exact rest Q ⟨P.x + (way P Q).x * m1, P.y + (way P Q).y * m1, P.z + (way P Q).z * m1⟩ _ _ _ _ _ (bQ.mono (by decide)) ⟨(bP.x.add (w1.x.mul bm1)).mono (by decide), (bP.y.add (w1.y.mul bm1)).mono (by decide), (bP.z.add (w1.z.mul bm1)).mono (by decide)⟩
      · intro ht
        apply gss_nil
        exact rest Q S _ _ _ _ _ (bQ.mono (by decide)) (bS.mono (by decide))
    apply gss_if (t := _)
    · walk_at "dw.e"
    · intro ht
      have bm1 : Bd 20 (1 + L / 3 % 12) := Bd.sm (by omega) (by omega) (by decide)
      have bm2 : Bd 20 (1 + L / 36 % 12) := Bd.sm (by omega) (by omega) (by decide)
      have w1 := bP.way bQ
      have w2 := bP.way bS
      walk_at "dw.asgE"
      case hd => show _ = P3.en (way P Q); rfl
      walk_at "dw.asgE"
      case hd => show _ = P3.en (way P S); rfl
      walk_at "dw.asg"
      generalize 1 + L / 3 % 12 = m1 at bm1
      walk_at "dw.asgE"
      case hd => show _ = P3.en ⟨P.x + (way P Q).x * m1, P.y + (way P Q).y * m1, P.z + (way P Q).z * m1⟩; rfl
      walk_at "dw.asg"
      generalize 1 + L / 36 % 12 = m2 at bm2
      walk_at "dw.asgE"
      case hd => show _ = P3.en ⟨P.x + (way P S).x * m2, P.y + (way P S).y * m2, P.z + (way P S).z * m2⟩; rfl
      apply gss_nil
      exact rest2 ⟨P.x + (way P Q).x * m1, P.y + (way P Q).y * m1, P.z + (way P Q).z * m1⟩ ⟨P.x + (way P S).x * m2, P.y + (way P S).y * m2, P.z + (way P S).z * m2⟩ _ _ _ _ _ ⟨(bP.x.add (w1.x.mul bm1)).mono (by decide), (bP.y.add (w1.y.mul bm1)).mono (by decide), (bP.z.add (w1.z.mul bm1)).mono (by decide)⟩ ⟨(bP.x.add (w2.x.mul bm2)).mono (by decide), (bP.y.add (w2.y.mul bm2)).mono (by decide), (bP.z.add (w2.z.mul bm2)).mono (by decide)⟩
    · intro ht
      apply gss_nil
      exact rest2 Q S _ _ _ _ _ (bQ.mono (by decide)) (bS.mono (by decide))
  · rintro G' ⟨_, _, _, _, _, _, _, _, _, _, rfl⟩
    apply gss_ret
    · walk_at "dw.e"
    · exact hR
  · intro x
    rfl

theorem all_mk {l : PySem.W.OpenLaw} {w : World} {K : PySem.W.Frag} {h : Heap} {mg : Str → Option Value} {fa f0 f1 f2 f3 f4 f5 f6 f7 f8 f9 f10 f11 f12 f13 : Addr} (X : K.In h) (G : h.Ns mainGlobals mg) (hfa : mg "law" = some (.ref fa))
    {od0 an0 od1 an1 od2 an2 od3 an3 od4 an4 od5 an5 od6 an6 od7 an7 od8 an8 od9 an9 od10 an10 od11 an11 od12 an12 od13 an13 : Option Addr} {sl0 sl1 sl2 sl3 sl4 sl5 sl6 sl7 sl8 sl9 sl10 sl11 sl12 sl13 : Array (Option Value)} {oc0 kV0 dc0 pm0 cd0 ct0 oc1 kV1 dc1 pm1 cd1 ct1 oc2 kV2 dc2 pm2 cd2 ct2 oc3 kV3 dc3 pm3 cd3 ct3 oc4 kV4 dc4 pm4 cd4 ct4 oc5 kV5 dc5 pm5 cd5 ct5 oc6 kV6 dc6 pm6 cd6 ct6 oc7 kV7 dc7 pm7 cd7 ct7 oc8 kV8 dc8 pm8 cd8 ct8 oc9 kV9 dc9 pm9 cd9 ct9 oc10 kV10 dc10 pm10 cd10 ct10 oc11 kV11 dc11 pm11 cd11 ct11 oc12 kV12 dc12 pm12 cd12 ct12 oc13 kV13 dc13 pm13 cd13 ct13 : Value}
    (a0 : PySem.W.nsIn K mainGlobals "way_between" = some (some (.ref f0))) (q0 : K.lookup f0 = some ⟨oc0, od0, .func (PySem.W.fnOf "way_between" "way_between" (defArgs s_way_between) (defBody s_way_between) (defScope s_way_between) .none kV0 dc0 pm0 an0 cd0 ct0), sl0⟩) (c0 : PySem.W.codeIn K cd0 "way_between" = true) (k0 : PySem.W.keepIn K (.ref f0) = true)
    (a1 : PySem.W.nsIn K mainGlobals "cross_of" = some (some (.ref f1))) (q1 : K.lookup f1 = some ⟨oc1, od1, .func (PySem.W.fnOf "cross_of" "cross_of" (defArgs s_cross_of) (defBody s_cross_of) (defScope s_cross_of) .none kV1 dc1 pm1 an1 cd1 ct1), sl1⟩) (c1 : PySem.W.codeIn K cd1 "cross_of" = true) (k1 : PySem.W.keepIn K (.ref f1) = true)
    (a2 : PySem.W.nsIn K mainGlobals "product_of" = some (some (.ref f2))) (q2 : K.lookup f2 = some ⟨oc2, od2, .func (PySem.W.fnOf "product_of" "product_of" (defArgs s_product_of) (defBody s_product_of) (defScope s_product_of) .none kV2 dc2 pm2 an2 cd2 ct2), sl2⟩) (c2 : PySem.W.codeIn K cd2 "product_of" = true) (k2 : PySem.W.keepIn K (.ref f2) = true)
    (a3 : PySem.W.nsIn K mainGlobals "shared_by" = some (some (.ref f3))) (q3 : K.lookup f3 = some ⟨oc3, od3, .func (PySem.W.fnOf "shared_by" "shared_by" (defArgs s_shared_by) (defBody s_shared_by) (defScope s_shared_by) .none kV3 dc3 pm3 an3 cd3 ct3), sl3⟩) (c3 : PySem.W.codeIn K cd3 "shared_by" = true) (k3 : PySem.W.keepIn K (.ref f3) = true)
    (a4 : PySem.W.nsIn K mainGlobals "plane_through" = some (some (.ref f4))) (q4 : K.lookup f4 = some ⟨oc4, od4, .func (PySem.W.fnOf "plane_through" "plane_through" (defArgs s_plane_through) (defBody s_plane_through) (defScope s_plane_through) .none kV4 dc4 pm4 an4 cd4 ct4), sl4⟩) (c4 : PySem.W.codeIn K cd4 "plane_through" = true) (k4 : PySem.W.keepIn K (.ref f4) = true)
    (a5 : PySem.W.nsIn K mainGlobals "_law_cell" = some (some (.ref f5))) (q5 : K.lookup f5 = some ⟨oc5, od5, .func (PySem.W.fnOf "_law_cell" "_law_cell" (defArgs s_L_cell) (defBody s_L_cell) (defScope s_L_cell) .none kV5 dc5 pm5 an5 cd5 ct5), sl5⟩) (c5 : PySem.W.codeIn K cd5 "_law_cell" = true) (k5 : PySem.W.keepIn K (.ref f5) = true)
    (a6 : PySem.W.nsIn K mainGlobals "_law_whole" = some (some (.ref f6))) (q6 : K.lookup f6 = some ⟨oc6, od6, .func (PySem.W.fnOf "_law_whole" "_law_whole" (defArgs s_L_whole) (defBody s_L_whole) (defScope s_L_whole) .none kV6 dc6 pm6 an6 cd6 ct6), sl6⟩) (c6 : PySem.W.codeIn K cd6 "_law_whole" = true) (k6 : PySem.W.keepIn K (.ref f6) = true)
    (a7 : PySem.W.nsIn K mainGlobals "_law_number" = some (some (.ref f7))) (q7 : K.lookup f7 = some ⟨oc7, od7, .func (PySem.W.fnOf "_law_number" "_law_number" (defArgs s_L_number) (defBody s_L_number) (defScope s_L_number) .none kV7 dc7 pm7 an7 cd7 ct7), sl7⟩) (c7 : PySem.W.codeIn K cd7 "_law_number" = true) (k7 : PySem.W.keepIn K (.ref f7) = true)
    (a8 : PySem.W.nsIn K mainGlobals "_law_between" = some (some (.ref f8))) (q8 : K.lookup f8 = some ⟨oc8, od8, .func (PySem.W.fnOf "_law_between" "_law_between" (defArgs s_L_between) (defBody s_L_between) (defScope s_L_between) .none kV8 dc8 pm8 an8 cd8 ct8), sl8⟩) (c8 : PySem.W.codeIn K cd8 "_law_between" = true) (k8 : PySem.W.keepIn K (.ref f8) = true)
    (a9 : PySem.W.nsIn K mainGlobals "_law_cross" = some (some (.ref f9))) (q9 : K.lookup f9 = some ⟨oc9, od9, .func (PySem.W.fnOf "_law_cross" "_law_cross" (defArgs s_L_cross) (defBody s_L_cross) (defScope s_L_cross) .none kV9 dc9 pm9 an9 cd9 ct9), sl9⟩) (c9 : PySem.W.codeIn K cd9 "_law_cross" = true) (k9 : PySem.W.keepIn K (.ref f9) = true)
    (a10 : PySem.W.nsIn K mainGlobals "_law_divisor" = some (some (.ref f10))) (q10 : K.lookup f10 = some ⟨oc10, od10, .func (PySem.W.fnOf "_law_divisor" "_law_divisor" (defArgs s_L_divisor) (defBody s_L_divisor) (defScope s_L_divisor) .none kV10 dc10 pm10 an10 cd10 ct10), sl10⟩) (c10 : PySem.W.codeIn K cd10 "_law_divisor" = true) (k10 : PySem.W.keepIn K (.ref f10) = true)
    (a11 : PySem.W.nsIn K mainGlobals "_law_refused" = some (some (.ref f11))) (q11 : K.lookup f11 = some ⟨oc11, od11, .func (PySem.W.fnOf "_law_refused" "_law_refused" (defArgs s_L_refused) (defBody s_L_refused) (defScope s_L_refused) .none kV11 dc11 pm11 an11 cd11 ct11), sl11⟩) (c11 : PySem.W.codeIn K cd11 "_law_refused" = true) (k11 : PySem.W.keepIn K (.ref f11) = true)
    (a12 : PySem.W.nsIn K mainGlobals "_law_good" = some (some (.ref f12))) (q12 : K.lookup f12 = some ⟨oc12, od12, .func (PySem.W.fnOf "_law_good" "_law_good" (defArgs s_L_good) (defBody s_L_good) (defScope s_L_good) .none kV12 dc12 pm12 an12 cd12 ct12), sl12⟩) (c12 : PySem.W.codeIn K cd12 "_law_good" = true) (k12 : PySem.W.keepIn K (.ref f12) = true)
    (a13 : PySem.W.nsIn K mainGlobals "law" = some (some (.ref f13))) (q13 : K.lookup f13 = some ⟨oc13, od13, .func (PySem.W.fnOf "law" "law" (defArgs s_law) (defBody s_law) (defScope s_law) .none kV13 dc13 pm13 an13 cd13 ct13), sl13⟩) (c13 : PySem.W.codeIn K cd13 "law" = true) (k13 : PySem.W.keepIn K (.ref f13) = true)
    (z_len : PySem.W.nsIn K mainGlobals "len" = some none) (z_abs : PySem.W.nsIn K mainGlobals "abs" = some none) (z_max : PySem.W.nsIn K mainGlobals "max" = some none) (z_min : PySem.W.nsIn K mainGlobals "min" = some none) (z_int : PySem.W.nsIn K mainGlobals "int" = some none) (z_bool : PySem.W.nsIn K mainGlobals "bool" = some none) (z_str : PySem.W.nsIn K mainGlobals "str" = some none) (z_sum : PySem.W.nsIn K mainGlobals "sum" = some none) (z_isinstance : PySem.W.nsIn K mainGlobals "isinstance" = some none) (z_tuple : PySem.W.nsIn K mainGlobals "tuple" = some none) (z_list : PySem.W.nsIn K mainGlobals "list" = some none) (z_dict : PySem.W.nsIn K mainGlobals "dict" = some none) (z_set : PySem.W.nsIn K mainGlobals "set" = some none) (z_sorted : PySem.W.nsIn K mainGlobals "sorted" = some none) (z_range : PySem.W.nsIn K mainGlobals "range" = some none) (z_zip : PySem.W.nsIn K mainGlobals "zip" = some none) (z_reversed : PySem.W.nsIn K mainGlobals "reversed" = some none)
    {e0 : Addr} (cA0 : PySem.W.nsIn K mainGlobals "BodyError" = some (some (.ref e0))) (cK0 : PySem.W.keepIn K (.ref e0) = true) (cS0 : PySem.W.subIn K (.ref e0) (.type "BaseException") = some true) (cT0 : PySem.W.typeIn K (.ref e0) = some (.type "type")) (cD0 : PySem.W.hasDictIn K e0 = true)
    {e1 : Addr} (cA1 : PySem.W.nsIn K mainGlobals "Flat" = some (some (.ref e1))) (cK1 : PySem.W.keepIn K (.ref e1) = true) (cS1 : PySem.W.subIn K (.ref e1) (.type "BaseException") = some true) (cT1 : PySem.W.typeIn K (.ref e1) = some (.type "type")) (cD1 : PySem.W.hasDictIn K e1 = true)
    {e2 : Addr} (cA2 : PySem.W.nsIn K mainGlobals "NoPoints" = some (some (.ref e2))) (cK2 : PySem.W.keepIn K (.ref e2) = true) (cS2 : PySem.W.subIn K (.ref e2) (.type "BaseException") = some true) (cT2 : PySem.W.typeIn K (.ref e2) = some (.type "type")) (cD2 : PySem.W.hasDictIn K e2 = true)
    {e3 : Addr} (cA3 : PySem.W.nsIn K mainGlobals "NoAxis" = some (some (.ref e3))) (cK3 : PySem.W.keepIn K (.ref e3) = true) (cS3 : PySem.W.subIn K (.ref e3) (.type "BaseException") = some true) (cT3 : PySem.W.typeIn K (.ref e3) = some (.type "type")) (cD3 : PySem.W.hasDictIn K e3 = true)
    {e4 : Addr} (cA4 : PySem.W.nsIn K mainGlobals "NoMove" = some (some (.ref e4))) (cK4 : PySem.W.keepIn K (.ref e4) = true) (cS4 : PySem.W.subIn K (.ref e4) (.type "BaseException") = some true) (cT4 : PySem.W.typeIn K (.ref e4) = some (.type "type")) (cD4 : PySem.W.hasDictIn K e4 = true)
    {e5 : Addr} (cA5 : PySem.W.nsIn K mainGlobals "NoText" = some (some (.ref e5))) (cK5 : PySem.W.keepIn K (.ref e5) = true) (cS5 : PySem.W.subIn K (.ref e5) (.type "BaseException") = some true) (cT5 : PySem.W.typeIn K (.ref e5) = some (.type "type")) (cD5 : PySem.W.hasDictIn K e5 = true)
    {e6 : Addr} (cA6 : PySem.W.nsIn K mainGlobals "NoName" = some (some (.ref e6))) (cK6 : PySem.W.keepIn K (.ref e6) = true) (cS6 : PySem.W.subIn K (.ref e6) (.type "BaseException") = some true) (cT6 : PySem.W.typeIn K (.ref e6) = some (.type "type")) (cD6 : PySem.W.hasDictIn K e6 = true)
    {e7 : Addr} (cA7 : PySem.W.nsIn K mainGlobals "NoRow" = some (some (.ref e7))) (cK7 : PySem.W.keepIn K (.ref e7) = true) (cS7 : PySem.W.subIn K (.ref e7) (.type "BaseException") = some true) (cT7 : PySem.W.typeIn K (.ref e7) = some (.type "type")) (cD7 : PySem.W.hasDictIn K e7 = true)
    {e8 : Addr} (cA8 : PySem.W.nsIn K mainGlobals "TooGreat" = some (some (.ref e8))) (cK8 : PySem.W.keepIn K (.ref e8) = true) (cS8 : PySem.W.subIn K (.ref e8) (.type "BaseException") = some true) (cT8 : PySem.W.typeIn K (.ref e8) = some (.type "type")) (cD8 : PySem.W.hasDictIn K e8 = true)
    (cX1 : PySem.W.excIn K e1 [.type "ValueError", .type "Exception", .type "BaseException", .type "object"] "ValueError.__new__" = true) (cG1 : PySem.W.findIn K (.ref e1) "__getattribute__" = some (some (.builtin "BaseException.__getattribute__"))) (cH1 : PySem.W.findIn K (.ref e1) "__getattr__" = some none) (cC1 : PySem.W.findIn K (.ref e1) "__class__" = some (some (.builtin "object.__class__"))) (cM1 : PySem.W.mroIn K e1 (.type "object") = some true) (cV1 : PySem.W.subIn K (.ref e1) (.type "ValueError") = some true)
    (cR1_0 : PySem.W.subIn K (.ref e1) (.ref e0) = some true)
    (cR1_1 : PySem.W.subIn K (.ref e1) (.ref e1) = some true)
    (cR1_2 : PySem.W.subIn K (.ref e1) (.ref e2) = some false)
    (cR1_3 : PySem.W.subIn K (.ref e1) (.ref e3) = some false)
    (cR1_4 : PySem.W.subIn K (.ref e1) (.ref e4) = some false)
    (cR1_5 : PySem.W.subIn K (.ref e1) (.ref e5) = some false)
    (cR1_6 : PySem.W.subIn K (.ref e1) (.ref e6) = some false)
    (cR1_7 : PySem.W.subIn K (.ref e1) (.ref e7) = some false)
    (cR1_8 : PySem.W.subIn K (.ref e1) (.ref e8) = some false)
    (cN : PySem.W.specialIn K (.builtin "object.__class__") "__get__" = some (some (.builtin "getset_descriptor.__get__"))) (cL : PySem.W.takesIn K (.builtin "object.__class__") = some true) (z_ValueError : PySem.W.nsIn K mainGlobals "ValueError" = some none) :
    ∃ fd : FuncData, (∀ (s : Shared) (v : Value), BindsTo s fd ⟨[v], []⟩ [("script", v)]) ∧ ∀ base : Heap, K.In base → base.Ns mainGlobals mg → FnOk l.prog w K mg base (L2.CX l.prog w) 5 fa fd ["script"] (spL K c_script) := by
  have e := hfa.symm.trans (PySem.W.mg_of X G a13)
  cases e
  have F0 := fun_mk (st := s_way_between) q0 c0 k0
  have F1 := fun_mk (st := s_cross_of) q1 c1 k1
  have F2 := fun_mk (st := s_product_of) q2 c2 k2
  have F3 := fun_mk (st := s_shared_by) q3 c3 k3
  have F4 := fun_mk (st := s_plane_through) q4 c4 k4
  have F5 := fun_mk (st := s_L_cell) q5 c5 k5
  have F6 := fun_mk (st := s_L_whole) q6 c6 k6
  have F7 := fun_mk (st := s_L_number) q7 c7 k7
  have F8 := fun_mk (st := s_L_between) q8 c8 k8
  have F9 := fun_mk (st := s_L_cross) q9 c9 k9
  have F10 := fun_mk (st := s_L_divisor) q10 c10 k10
  have F11 := fun_mk (st := s_L_refused) q11 c11 k11
  have F12 := fun_mk (st := s_L_good) q12 c12 k12
  have F13 := fun_mk (st := s_law) q13 c13 k13
  refine ⟨PySem.W.fnOf "law" "law" (defArgs s_law) (defBody s_law) (defScope s_law) .none kV13 dc13 pm13 an13 cd13 ct13, fun s v => .of_eq rfl, fun base _ _ => ?_⟩
  have B : Bn ⟨l.prog, w, K, mg, base⟩ := ⟨PySem.W.mg_none_of X G z_len, PySem.W.mg_none_of X G z_abs, PySem.W.mg_none_of X G z_max, PySem.W.mg_none_of X G z_min, PySem.W.mg_none_of X G z_int, PySem.W.mg_none_of X G z_bool, PySem.W.mg_none_of X G z_str, PySem.W.mg_none_of X G z_sum, PySem.W.mg_none_of X G z_isinstance, PySem.W.mg_none_of X G z_tuple, PySem.W.mg_none_of X G z_list, PySem.W.mg_none_of X G z_dict, PySem.W.mg_none_of X G z_set, PySem.W.mg_none_of X G z_sorted, PySem.W.mg_none_of X G z_range, PySem.W.mg_none_of X G z_zip, PySem.W.mg_none_of X G z_reversed⟩
  have Z : Er ⟨l.prog, w, K, mg, base⟩ RS := by
    refine er_cons ⟨e1, ⟨PySem.W.mg_of X G cA1, cX1, cK1, cS1, cT1, ⟨cG1, cH1, cS1, cD1, cC1, cN, cL, cM1⟩⟩, fun y hy => ?_, kit_val (by decide +kernel) cV1, PySem.W.mg_none_of X G z_ValueError⟩ ?_
    · simp only [names9, List.mem_cons, List.not_mem_nil, or_false] at hy
      rcases hy with rfl | rfl | rfl | rfl | rfl | rfl | rfl | rfl | rfl
      · exact sub_mk (PySem.W.mg_of X G cA1) (PySem.W.mg_of X G cA0) cS0 cD0 cT0 cR1_0 cR1_1 (by decide)
      · exact sub_mk (PySem.W.mg_of X G cA1) (PySem.W.mg_of X G cA1) cS1 cD1 cT1 cR1_1 cR1_1 (by decide)
      · exact sub_mk (PySem.W.mg_of X G cA1) (PySem.W.mg_of X G cA2) cS2 cD2 cT2 cR1_2 cR1_1 (by decide)
      · exact sub_mk (PySem.W.mg_of X G cA1) (PySem.W.mg_of X G cA3) cS3 cD3 cT3 cR1_3 cR1_1 (by decide)
      · exact sub_mk (PySem.W.mg_of X G cA1) (PySem.W.mg_of X G cA4) cS4 cD4 cT4 cR1_4 cR1_1 (by decide)
      · exact sub_mk (PySem.W.mg_of X G cA1) (PySem.W.mg_of X G cA5) cS5 cD5 cT5 cR1_5 cR1_1 (by decide)
      · exact sub_mk (PySem.W.mg_of X G cA1) (PySem.W.mg_of X G cA6) cS6 cD6 cT6 cR1_6 cR1_1 (by decide)
      · exact sub_mk (PySem.W.mg_of X G cA1) (PySem.W.mg_of X G cA7) cS7 cD7 cT7 cR1_7 cR1_1 (by decide)
      · exact sub_mk (PySem.W.mg_of X G cA1) (PySem.W.mg_of X G cA8) cS8 cD8 cT8 cR1_8 cR1_1 (by decide)
    exact er_nil
  have h_way_between : Has ⟨l.prog, w, K, mg, base⟩ 1 "way_between" c_way_between := has_way_between (k := 0) B ⟨_, _, PySem.W.mg_of X G a0, F0⟩
  have h_cross_of : Has ⟨l.prog, w, K, mg, base⟩ 1 "cross_of" c_cross_of := has_cross_of (k := 0) B ⟨_, _, PySem.W.mg_of X G a1, F1⟩
  have h_product_of : Has ⟨l.prog, w, K, mg, base⟩ 1 "product_of" c_product_of := has_product_of (k := 0) B ⟨_, _, PySem.W.mg_of X G a2, F2⟩
  have h_shared_by : Has ⟨l.prog, w, K, mg, base⟩ 1 "shared_by" c_shared_by := has_shared_by (k := 0) B ⟨_, _, PySem.W.mg_of X G a3, F3⟩
  have h_plane_through : Has ⟨l.prog, w, K, mg, base⟩ 2 "plane_through" c_plane_through := has_plane_through (k := 1) B Z ⟨_, _, PySem.W.mg_of X G a4, F4⟩ (h_cross_of := h_cross_of.mono (by decide)) (h_shared_by := h_shared_by.mono (by decide)) (h_way_between := h_way_between.mono (by decide)) (h_product_of := h_product_of.mono (by decide))
  have h_L_cell : Has ⟨l.prog, w, K, mg, base⟩ 1 "_law_cell" c_L_cell := has_L_cell (k := 0) B ⟨_, _, PySem.W.mg_of X G a5, F5⟩
  have h_L_whole : Has ⟨l.prog, w, K, mg, base⟩ 1 "_law_whole" c_L_whole := has_L_whole (k := 0) B ⟨_, _, PySem.W.mg_of X G a6, F6⟩
  have h_L_number : Has ⟨l.prog, w, K, mg, base⟩ 1 "_law_number" c_L_number := has_L_number (k := 0) B ⟨_, _, PySem.W.mg_of X G a7, F7⟩
  have h_L_between : Has ⟨l.prog, w, K, mg, base⟩ 1 "_law_between" c_L_between := has_L_between (k := 0) B ⟨_, _, PySem.W.mg_of X G a8, F8⟩
  have h_L_cross : Has ⟨l.prog, w, K, mg, base⟩ 2 "_law_cross" c_L_cross := has_L_cross (k := 1) B ⟨_, _, PySem.W.mg_of X G a9, F9⟩ (h_L_between := h_L_between.mono (by decide))
  have h_L_divisor : Has ⟨l.prog, w, K, mg, base⟩ 1 "_law_divisor" c_L_divisor := has_L_divisor (k := 0) B ⟨_, _, PySem.W.mg_of X G a10, F10⟩
  have h_L_refused : Has ⟨l.prog, w, K, mg, base⟩ 3 "_law_refused" c_L_refused := has_L_refused (k := 2) B Z ⟨_, _, PySem.W.mg_of X G a11, F11⟩ (h_plane_through := h_plane_through.mono (by decide))
  have h_L_good : Has ⟨l.prog, w, K, mg, base⟩ 4 "_law_good" c_L_good := has_L_good (k := 3) B ⟨_, _, PySem.W.mg_of X G a12, F12⟩ (h_L_cross := h_L_cross.mono (by decide)) (h_L_divisor := h_L_divisor.mono (by decide)) (h_plane_through := h_plane_through.mono (by decide)) (h_L_refused := h_L_refused.mono (by decide)) (h_L_whole := h_L_whole.mono (by decide))
  exact FnOk.imp (fn_ok F13 sc_law ln_script fun X C ds R h => bd_law B Z (h_L_number := h_L_number.mono (by decide)) (h_L_cell := h_L_cell.mono (by decide)) (h_L_between := h_L_between.mono (by decide)) (h_L_good := h_L_good.mono (by decide)) X C ds R h) spL_D
end DW
open PySem PySem.W PyProof.Rows
set_option maxHeartbeats 0 in
theorem PySem.Challenge.cw_stakebodies_k03_planes_holds : PySem.Challenge.rw_stakebodies_k03_planes.Holds := by
  w_on; o_law; k_head; (case hw => w_witness2)
  k_fill
  refine L2.walk_ofB (l := PySem.Challenge.rw_stakebodies_k03_planes) (n := 63) (k := 5) (x := "script") (CX := fun w => L2.CX (PySem.Challenge.rw_stakebodies_k03_planes).prog w) (sp := fun w => DW.spL _ DW.c_script) rfl (by decide) rfl ⟨rfl, by decide, by decide⟩ (fun w h Y => PySem.W.kIn_of Y) ?F (fun _ _ a ns hl hb _ hS => DW.sp_script hl hb hS) (fun _ _ _ _ _ h => by obtain ⟨_, _, _, _, _, _, _, _, _, _, _, _, z⟩ := h; exact z)
  case F =>
    intro w mg fa h KX G hmg
    refine' DW.all_mk KX G hmg ?a0 ?q0 ?c0 ?k0 ?a1 ?q1 ?c1 ?k1 ?a2 ?q2 ?c2 ?k2 ?a3 ?q3 ?c3 ?k3 ?a4 ?q4 ?c4 ?k4 ?a5 ?q5 ?c5 ?k5 ?a6 ?q6 ?c6 ?k6 ?a7 ?q7 ?c7 ?k7 ?a8 ?q8 ?c8 ?k8 ?a9 ?q9 ?c9 ?k9 ?a10 ?q10 ?c10 ?k10 ?a11 ?q11 ?c11 ?k11 ?a12 ?q12 ?c12 ?k12 ?a13 ?q13 ?c13 ?k13 ?z_len ?z_abs ?z_max ?z_min ?z_int ?z_bool ?z_str ?z_sum ?z_isinstance ?z_tuple ?z_list ?z_dict ?z_set ?z_sorted ?z_range ?z_zip ?z_reversed ?cA0 ?cK0 ?cS0 ?cT0 ?cD0 ?cA1 ?cK1 ?cS1 ?cT1 ?cD1 ?cA2 ?cK2 ?cS2 ?cT2 ?cD2 ?cA3 ?cK3 ?cS3 ?cT3 ?cD3 ?cA4 ?cK4 ?cS4 ?cT4 ?cD4 ?cA5 ?cK5 ?cS5 ?cT5 ?cD5 ?cA6 ?cK6 ?cS6 ?cT6 ?cD6 ?cA7 ?cK7 ?cS7 ?cT7 ?cD7 ?cA8 ?cK8 ?cS8 ?cT8 ?cD8 ?cX1 ?cG1 ?cH1 ?cC1 ?cM1 ?cV1 ?cR1_0 ?cR1_1 ?cR1_2 ?cR1_3 ?cR1_4 ?cR1_5 ?cR1_6 ?cR1_7 ?cR1_8 ?cN ?cL ?z_ValueError
    (case a0 => k_is)
    (case q0 => k_is)
    (case c0 => k_is)
    (case k0 => k_is)
    (case a1 => k_is)
    (case q1 => k_is)
    (case c1 => k_is)
    (case k1 => k_is)
    (case a2 => k_is)
    (case q2 => k_is)
    (case c2 => k_is)
    (case k2 => k_is)
    (case a3 => k_is)
    (case q3 => k_is)
    (case c3 => k_is)
    (case k3 => k_is)
    (case a4 => k_is)
    (case q4 => k_is)
    (case c4 => k_is)
    (case k4 => k_is)
    (case a5 => k_is)
    (case q5 => k_is)
    (case c5 => k_is)
    (case k5 => k_is)
    (case a6 => k_is)
    (case q6 => k_is)
    (case c6 => k_is)
    (case k6 => k_is)
    (case a7 => k_is)
    (case q7 => k_is)
    (case c7 => k_is)
    (case k7 => k_is)
    (case a8 => k_is)
    (case q8 => k_is)
    (case c8 => k_is)
    (case k8 => k_is)
    (case a9 => k_is)
    (case q9 => k_is)
    (case c9 => k_is)
    (case k9 => k_is)
    (case a10 => k_is)
    (case q10 => k_is)
    (case c10 => k_is)
    (case k10 => k_is)
    (case a11 => k_is)
    (case q11 => k_is)
    (case c11 => k_is)
    (case k11 => k_is)
    (case a12 => k_is)
    (case q12 => k_is)
    (case c12 => k_is)
    (case k12 => k_is)
    (case a13 => k_is)
    (case q13 => k_is)
    (case c13 => k_is)
    (case k13 => k_is)
    (case z_len => k_is)
    (case z_abs => k_is)
    (case z_max => k_is)
    (case z_min => k_is)
    (case z_int => k_is)
    (case z_bool => k_is)
    (case z_str => k_is)
    (case z_sum => k_is)
    (case z_isinstance => k_is)
    (case z_tuple => k_is)
    (case z_list => k_is)
    (case z_dict => k_is)
    (case z_set => k_is)
    (case z_sorted => k_is)
    (case z_range => k_is)
    (case z_zip => k_is)
    (case z_reversed => k_is)
    (case cA0 => k_is)
    (case cK0 => k_is)
    (case cS0 => k_is)
    (case cT0 => k_is)
    (case cD0 => k_is)
    (case cA1 => k_is)
    (case cK1 => k_is)
    (case cS1 => k_is)
    (case cT1 => k_is)
    (case cD1 => k_is)
    (case cA2 => k_is)
    (case cK2 => k_is)
    (case cS2 => k_is)
    (case cT2 => k_is)
    (case cD2 => k_is)
    (case cA3 => k_is)
    (case cK3 => k_is)
    (case cS3 => k_is)
    (case cT3 => k_is)
    (case cD3 => k_is)
    (case cA4 => k_is)
    (case cK4 => k_is)
    (case cS4 => k_is)
    (case cT4 => k_is)
    (case cD4 => k_is)
    (case cA5 => k_is)
    (case cK5 => k_is)
    (case cS5 => k_is)
    (case cT5 => k_is)
    (case cD5 => k_is)
    (case cA6 => k_is)
    (case cK6 => k_is)
    (case cS6 => k_is)
    (case cT6 => k_is)
    (case cD6 => k_is)
    (case cA7 => k_is)
    (case cK7 => k_is)
    (case cS7 => k_is)
    (case cT7 => k_is)
    (case cD7 => k_is)
    (case cA8 => k_is)
    (case cK8 => k_is)
    (case cS8 => k_is)
    (case cT8 => k_is)
    (case cD8 => k_is)
    (case cX1 => k_exc)
    (case cG1 => k_is)
    (case cH1 => k_is)
    (case cC1 => k_is)
    (case cM1 => k_is)
    (case cV1 => k_is)
    (case cR1_0 => first | k_is | rfl)
    (case cR1_1 => first | k_is | rfl)
    (case cR1_2 => first | k_is | rfl)
    (case cR1_3 => first | k_is | rfl)
    (case cR1_4 => first | k_is | rfl)
    (case cR1_5 => first | k_is | rfl)
    (case cR1_6 => first | k_is | rfl)
    (case cR1_7 => first | k_is | rfl)
    (case cR1_8 => first | k_is | rfl)
    (case cN => k_is)
    (case cL => k_is)
    (case z_ValueError => k_is)
