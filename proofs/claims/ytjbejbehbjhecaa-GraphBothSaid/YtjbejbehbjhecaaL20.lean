/- Graphs: what the printed functions compute, told by the matrix of costs. -/
import Derived.Test.YtjbejbehbjhecaaQ20x123
import Derived.Test.YtjbejbehbjhecaaBase
namespace Go.Proofs.Ytjbejbehbjhecaa.L20
open Go.RowKit Go.Proofs.YtjbejbehbjhecaaW.PrintWords Go.Proofs.YtjbejbehbjhecaaW.PrintMore Go.Proofs.Ytjbejbehbjhecaa.Base Go.Proofs.Ytjbejbehbjhecaa.Q20
set_option linter.unusedVariables false
set_option linter.unusedSimpArgs false
set_option maxRecDepth 100000
structure CostOk (c : Nat → Nat → Int) : Prop where
  range : ∀ i j, i < 4 → j < 4 → 0 ≤ c i j ∧ c i j ≤ 65535
  diag : ∀ i, i < 4 → c i i = 0
abbrev Mat := Nat → Nat → Int
/-- Sixteen cells as a matrix. -/
def mk (c0 c1 c2 c3 c4 c5 c6 c7 c8 c9 c10 c11 c12 c13 c14 c15 : Int) : Mat := fun i j => match i, j with
  | 0, 0 => c0 | 0, 1 => c1 | 0, 2 => c2 | 0, 3 => c3
  | 1, 0 => c4 | 1, 1 => c5 | 1, 2 => c6 | 1, 3 => c7
  | 2, 0 => c8 | 2, 1 => c9 | 2, 2 => c10 | 2, 3 => c11
  | 3, 0 => c12 | 3, 1 => c13 | 3, 2 => c14 | 3, 3 => c15
  | _, _ => 0
theorem four {P : Nat → Prop} (h0 : P 0) (h1 : P 1) (h2 : P 2) (h3 : P 3) : ∀ i, i < 4 → P i := by
  intro i hi
  obtain rfl | rfl | rfl | rfl : i = 0 ∨ i = 1 ∨ i = 2 ∨ i = 3 := by omega
  all_goals assumption
/-! #### a matrix read and written -/
theorem sel_at (m : Mat) {a b : Nat} (ha : a < 4) (hb : b < 4) :
    ix4 (ix4 (m 0 0) (m 0 1) (m 0 2) (m 0 3) (b : Int)) (ix4 (m 1 0) (m 1 1) (m 1 2) (m 1 3) (b : Int)) (ix4 (m 2 0) (m 2 1) (m 2 2) (m 2 3) (b : Int)) (ix4 (m 3 0) (m 3 1) (m 3 2) (m 3 3) (b : Int)) (a : Int) = m a b := by
  obtain rfl | rfl | rfl | rfl : a = 0 ∨ a = 1 ∨ a = 2 ∨ a = 3 := by omega
  all_goals (obtain rfl | rfl | rfl | rfl : b = 0 ∨ b = 1 ∨ b = 2 ∨ b = 3 := by omega)
  all_goals rfl
theorem row_at (r : Nat → Int) {b : Nat} (hb : b < 4) : ix4 (r 0) (r 1) (r 2) (r 3) (b : Int) = r b := by
  obtain rfl | rfl | rfl | rfl : b = 0 ∨ b = 1 ∨ b = 2 ∨ b = 3 := by omega
  all_goals rfl
def upd2 (m : Mat) (a b : Nat) (v : Int) : Mat := fun i j => if i = a ∧ j = b then v else m i j
theorem up_at (m : Mat) (a b : Nat) (v : Int) (i j : Nat) : up (((a : Nat) : Int) == ((i : Nat) : Int) && ((b : Nat) : Int) == ((j : Nat) : Int)) v (m i j) = upd2 m a b v i j := by
  unfold up upd2
  by_cases h : i = a ∧ j = b
  · obtain ⟨rfl, rfl⟩ := h; simp
  · rw [if_neg h, if_neg]
    simp only [Bool.and_eq_true, beq_iff_eq, not_and]
    intro e1 e2; exact h ⟨by omega, by omega⟩
theorem ups (m : Mat) (a b : Nat) (v : Int) :
    up (((a : Nat) : Int) == 0 && ((b : Nat) : Int) == 0) v (m 0 0) = upd2 m a b v 0 0 ∧ up (((a : Nat) : Int) == 0 && ((b : Nat) : Int) == 1) v (m 0 1) = upd2 m a b v 0 1 ∧
    up (((a : Nat) : Int) == 0 && ((b : Nat) : Int) == 2) v (m 0 2) = upd2 m a b v 0 2 ∧ up (((a : Nat) : Int) == 0 && ((b : Nat) : Int) == 3) v (m 0 3) = upd2 m a b v 0 3 ∧
    up (((a : Nat) : Int) == 1 && ((b : Nat) : Int) == 0) v (m 1 0) = upd2 m a b v 1 0 ∧ up (((a : Nat) : Int) == 1 && ((b : Nat) : Int) == 1) v (m 1 1) = upd2 m a b v 1 1 ∧
    up (((a : Nat) : Int) == 1 && ((b : Nat) : Int) == 2) v (m 1 2) = upd2 m a b v 1 2 ∧ up (((a : Nat) : Int) == 1 && ((b : Nat) : Int) == 3) v (m 1 3) = upd2 m a b v 1 3 ∧
    up (((a : Nat) : Int) == 2 && ((b : Nat) : Int) == 0) v (m 2 0) = upd2 m a b v 2 0 ∧ up (((a : Nat) : Int) == 2 && ((b : Nat) : Int) == 1) v (m 2 1) = upd2 m a b v 2 1 ∧
    up (((a : Nat) : Int) == 2 && ((b : Nat) : Int) == 2) v (m 2 2) = upd2 m a b v 2 2 ∧ up (((a : Nat) : Int) == 2 && ((b : Nat) : Int) == 3) v (m 2 3) = upd2 m a b v 2 3 ∧
    up (((a : Nat) : Int) == 3 && ((b : Nat) : Int) == 0) v (m 3 0) = upd2 m a b v 3 0 ∧ up (((a : Nat) : Int) == 3 && ((b : Nat) : Int) == 1) v (m 3 1) = upd2 m a b v 3 1 ∧
    up (((a : Nat) : Int) == 3 && ((b : Nat) : Int) == 2) v (m 3 2) = upd2 m a b v 3 2 ∧ up (((a : Nat) : Int) == 3 && ((b : Nat) : Int) == 3) v (m 3 3) = upd2 m a b v 3 3 :=
  ⟨up_at m a b v 0 0, up_at m a b v 0 1, up_at m a b v 0 2, up_at m a b v 0 3, up_at m a b v 1 0, up_at m a b v 1 1, up_at m a b v 1 2, up_at m a b v 1 3,
   up_at m a b v 2 0, up_at m a b v 2 1, up_at m a b v 2 2, up_at m a b v 2 3, up_at m a b v 3 0, up_at m a b v 3 1, up_at m a b v 3 2, up_at m a b v 3 3⟩
theorem next4 {b : Nat} (h : b < 4) : wrap64 ((b : Int) + 1) = ((b + 1 : Nat) : Int) := by unfold wrap64; omega
/-! #### may these costs be -/
def cellOk (a b c : Int) : Bool := decide (0 ≤ c) && decide (c ≤ 65535) && (decide (a ≠ b) || decide (c = 0))
def rowOk (a r0 r1 r2 r3 : Int) : Bool := cellOk a 0 r0 && (cellOk a 1 r1 && (cellOk a 2 r2 && cellOk a 3 r3))
def okC (c0 c1 c2 c3 c4 c5 c6 c7 c8 c9 c10 c11 c12 c13 c14 c15 : Int) : Bool := rowOk 0 c0 c1 c2 c3 && (rowOk 1 c4 c5 c6 c7 && (rowOk 2 c8 c9 c10 c11 && rowOk 3 c12 c13 c14 c15))
def okM (m : Mat) : Bool := okC (m 0 0) (m 0 1) (m 0 2) (m 0 3) (m 1 0) (m 1 1) (m 1 2) (m 1 3) (m 2 0) (m 2 1) (m 2 2) (m 2 3) (m 3 0) (m 3 1) (m 3 2) (m 3 3)
theorem May_step (k : Nat) {a b r0 r1 r2 r3 c0 c1 c2 c3 c4 c5 c6 c7 c8 c9 c10 c11 c12 c13 c14 c15 : Int} (h0 : 0 ≤ b) (h4 : b < 4) :
    graph_May.l1 (k + 1) a a b c0 c1 c2 c3 c4 c5 c6 c7 c8 c9 c10 c11 c12 c13 c14 c15 r0 r1 r2 r3 = if cellOk a b (ix4 r0 r1 r2 r3 b) = true then graph_May.l1 k a a (wrap64 (b + 1)) c0 c1 c2 c3 c4 c5 c6 c7 c8 c9 c10 c11 c12 c13 c14 c15 r0 r1 r2 r3 else some false := by
  simp only [graph_May.l1]
  rw [if_pos h4, if_pos h0]
  generalize ix4 r0 r1 r2 r3 b = x
  unfold cellOk
  by_cases h1 : x < 0
  · rw [if_pos h1, if_neg (by simp; omega)]
  · rw [if_neg h1]
    by_cases h2 : x > 65535
    · rw [if_pos h2, if_neg (by simp; omega)]
    · rw [if_neg h2]
      by_cases h3 : a = b
      · rw [if_pos h3]
        by_cases h5 : x = 0
        · rw [if_pos h5, if_pos (by simp; omega)]
        · rw [if_neg h5, if_neg (by simp; omega)]
      · rw [if_neg h3, if_pos (by simp; omega)]
theorem May_row (k : Nat) {a r0 r1 r2 r3 c0 c1 c2 c3 c4 c5 c6 c7 c8 c9 c10 c11 c12 c13 c14 c15 : Int} :
    graph_May.l1 (k + 5) a a 0 c0 c1 c2 c3 c4 c5 c6 c7 c8 c9 c10 c11 c12 c13 c14 c15 r0 r1 r2 r3 = if rowOk a r0 r1 r2 r3 = true then graph_May.l0 k (wrap64 (a + 1)) c0 c1 c2 c3 c4 c5 c6 c7 c8 c9 c10 c11 c12 c13 c14 c15 else some false := by
  rw [May_step (k + 4) (by decide) (by decide), show wrap64 (0 + 1) = 1 by decide +kernel, show ix4 r0 r1 r2 r3 0 = r0 from rfl,
    May_step (k + 3) (by decide) (by decide), show wrap64 (1 + 1) = 2 by decide +kernel, show ix4 r0 r1 r2 r3 1 = r1 from rfl,
    May_step (k + 2) (by decide) (by decide), show wrap64 (2 + 1) = 3 by decide +kernel, show ix4 r0 r1 r2 r3 2 = r2 from rfl,
    May_step (k + 1) (by decide) (by decide), show wrap64 (3 + 1) = 4 by decide +kernel, show ix4 r0 r1 r2 r3 3 = r3 from rfl]
  simp only [graph_May.l1]
  rw [if_neg (show ¬ ((4 : Int) < 4) by decide)]
  unfold rowOk
  cases cellOk a 0 r0 <;> cases cellOk a 1 r1 <;> cases cellOk a 2 r2 <;> cases cellOk a 3 r3 <;> simp
theorem May_f (k : Nat) (c0 c1 c2 c3 c4 c5 c6 c7 c8 c9 c10 c11 c12 c13 c14 c15 : Int) : graph_May.f (k + 25) c0 c1 c2 c3 c4 c5 c6 c7 c8 c9 c10 c11 c12 c13 c14 c15 = some (okC c0 c1 c2 c3 c4 c5 c6 c7 c8 c9 c10 c11 c12 c13 c14 c15) := by
  unfold graph_May.f
  have s (k : Nat) (x : Int) (h0 : 0 ≤ x) (h4 : x < 4) : graph_May.l0 (k + 1) x c0 c1 c2 c3 c4 c5 c6 c7 c8 c9 c10 c11 c12 c13 c14 c15 = graph_May.l1 k x x 0 c0 c1 c2 c3 c4 c5 c6 c7 c8 c9 c10 c11 c12 c13 c14 c15 (ix4 c0 c4 c8 c12 x) (ix4 c1 c5 c9 c13 x) (ix4 c2 c6 c10 c14 x) (ix4 c3 c7 c11 c15 x) := by
    simp only [graph_May.l0]; rw [if_pos h4, if_pos h0]
  rw [s (k + 24) 0 (by decide) (by decide), May_row (k + 19), show wrap64 (0 + 1) = 1 by decide +kernel, s (k + 18) 1 (by decide) (by decide), May_row (k + 13), show wrap64 (1 + 1) = 2 by decide +kernel,
    s (k + 12) 2 (by decide) (by decide), May_row (k + 7), show wrap64 (2 + 1) = 3 by decide +kernel, s (k + 6) 3 (by decide) (by decide), May_row (k + 1), show wrap64 (3 + 1) = 4 by decide +kernel]
  simp only [graph_May.l0]
  rw [if_neg (show ¬ ((4 : Int) < 4) by decide)]
  unfold okC
  show (if rowOk 0 c0 c1 c2 c3 = true then (if rowOk 1 c4 c5 c6 c7 = true then (if rowOk 2 c8 c9 c10 c11 = true then (if rowOk 3 c12 c13 c14 c15 = true then some true else some false) else some false) else some false) else some false) = _
  cases rowOk 0 c0 c1 c2 c3 <;> cases rowOk 1 c4 c5 c6 c7 <;> cases rowOk 2 c8 c9 c10 c11 <;> cases rowOk 3 c12 c13 c14 c15 <;> simp
theorem cellOk_iff {a b c : Int} : cellOk a b c = true ↔ (0 ≤ c ∧ c ≤ 65535 ∧ (a = b → c = 0)) := by
  unfold cellOk
  simp only [Bool.and_eq_true, Bool.or_eq_true, decide_eq_true_eq]
  constructor
  · rintro ⟨⟨h1, h2⟩, h3⟩; exact ⟨h1, h2, fun e => h3.resolve_left (fun h => h e)⟩
  · rintro ⟨h1, h2, h3⟩; refine ⟨⟨h1, h2⟩, ?_⟩
    by_cases e : a = b
    · exact .inr (h3 e)
    · exact .inl e
theorem okM_iff (m : Mat) : okM m = true ↔ CostOk m := by
  unfold okM okC rowOk
  simp only [Bool.and_eq_true]
  constructor
  · rintro ⟨⟨a, b, d, e⟩, ⟨f, g, h, i⟩, ⟨j, k, l, n⟩, o, p, q, s⟩
    rw [cellOk_iff] at a b d e f g h i j k l n o p q s
    exact ⟨fun i' j' hi hj => four (P := fun i => 0 ≤ m i j' ∧ m i j' ≤ 65535) (four (P := fun j => 0 ≤ m 0 j ∧ m 0 j ≤ 65535) ⟨a.1, a.2.1⟩ ⟨b.1, b.2.1⟩ ⟨d.1, d.2.1⟩ ⟨e.1, e.2.1⟩ j' hj) (four (P := fun j => 0 ≤ m 1 j ∧ m 1 j ≤ 65535) ⟨f.1, f.2.1⟩ ⟨g.1, g.2.1⟩ ⟨h.1, h.2.1⟩ ⟨i.1, i.2.1⟩ j' hj)
      (four (P := fun j => 0 ≤ m 2 j ∧ m 2 j ≤ 65535) ⟨j.1, j.2.1⟩ ⟨k.1, k.2.1⟩ ⟨l.1, l.2.1⟩ ⟨n.1, n.2.1⟩ j' hj) (four (P := fun j => 0 ≤ m 3 j ∧ m 3 j ≤ 65535) ⟨o.1, o.2.1⟩ ⟨p.1, p.2.1⟩ ⟨q.1, q.2.1⟩ ⟨s.1, s.2.1⟩ j' hj) i' hi,
      four (P := fun i => m i i = 0) (a.2.2 rfl) (g.2.2 rfl) (l.2.2 rfl) (s.2.2 rfl)⟩
  · rintro ⟨r, d⟩
    have z (i j : Nat) (hi : i < 4) (hj : j < 4) (a b : Int) (hab : a = (i : Int)) (hb : b = (j : Int)) : cellOk a b (m i j) = true :=
      cellOk_iff.2 ⟨(r i j hi hj).1, (r i j hi hj).2, fun e => (show i = j by omega) ▸ d i hi⟩
    exact ⟨⟨z 0 0 (by decide) (by decide) _ _ rfl rfl, z 0 1 (by decide) (by decide) _ _ rfl rfl, z 0 2 (by decide) (by decide) _ _ rfl rfl, z 0 3 (by decide) (by decide) _ _ rfl rfl⟩,
      ⟨z 1 0 (by decide) (by decide) _ _ rfl rfl, z 1 1 (by decide) (by decide) _ _ rfl rfl, z 1 2 (by decide) (by decide) _ _ rfl rfl, z 1 3 (by decide) (by decide) _ _ rfl rfl⟩,
      ⟨z 2 0 (by decide) (by decide) _ _ rfl rfl, z 2 1 (by decide) (by decide) _ _ rfl rfl, z 2 2 (by decide) (by decide) _ _ rfl rfl, z 2 3 (by decide) (by decide) _ _ rfl rfl⟩,
      z 3 0 (by decide) (by decide) _ _ rfl rfl, z 3 1 (by decide) (by decide) _ _ rfl rfl, z 3 2 (by decide) (by decide) _ _ rfl rfl, z 3 3 (by decide) (by decide) _ _ rfl rfl⟩
/-- The only link, if it costs what none may, spoils all. -/
theorem May_bad (k : Nat) {r c : Nat} (hr : r < 4) (hc : c < 4) {v : Int} (hv : v < 0 ∨ 65535 < v) : okM (upd2 (fun _ _ => 0) r c v) = false := by
  rw [Bool.eq_false_iff]
  intro h
  have h1 := ((okM_iff _).1 h).range r c hr hc
  unfold upd2 at h1
  rw [if_pos ⟨rfl, rfl⟩] at h1
  omega
end Go.Proofs.Ytjbejbehbjhecaa.L20
