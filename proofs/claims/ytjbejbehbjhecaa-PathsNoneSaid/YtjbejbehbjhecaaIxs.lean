/- Arrays of fixed length as their cells one by one: a cell at an index, the cells behind a store at an index. -/
import Derived.ChangeKeysEq
import Derived.Test.YtjbejbehbjhecaaWLast
import Derived.Test.YtjbejbehbjhecaaWMore
namespace Go.Proofs.YtjbejbehbjhecaaW.PrintWords
open Go.RowKit
set_option linter.unusedVariables false
set_option linter.unusedSimpArgs false
def ix4 {α : Type} (a b c d : α) (i : Int) : α := if i = 0 then a else if i = 1 then b else if i = 2 then c else d
def ix5 {α : Type} (a b c d e : α) (i : Int) : α := if i = 0 then a else if i = 1 then b else if i = 2 then c else if i = 3 then d else e
/-- A cell behind a store: the new one where the place is its own. -/
def up {α : Type} (p : Bool) (v c : α) : α := if p then v else c
theorem up_in {α β : Type} (f : α → β) (p : Bool) (v c : α) : f (up p v c) = up p (f v) (f c) := by cases p <;> rfl
section
variable {α : Type} (f : α → Value)
theorem ix_4 (a b c d : α) (i : Int) (h0 : 0 ≤ i) (h1 : i < 4) : #[f a, f b, f c, f d][i.toNat]? = some (f (ix4 a b c d i)) := by
  obtain rfl | rfl | rfl | rfl : i = 0 ∨ i = 1 ∨ i = 2 ∨ i = 3 := by omega
  all_goals rfl
theorem ix_5 (a b c d e : α) (i : Int) (h0 : 0 ≤ i) (h1 : i < 5) : #[f a, f b, f c, f d, f e][i.toNat]? = some (f (ix5 a b c d e i)) := by
  obtain rfl | rfl | rfl | rfl | rfl : i = 0 ∨ i = 1 ∨ i = 2 ∨ i = 3 ∨ i = 4 := by omega
  all_goals rfl
variable (c0 c1 c2 c3 c4 c5 c6 c7 c8 c9 c10 c11 c12 c13 c14 c15 : α)
theorem ix_44 (i j : Int) (h0 : 0 ≤ i) (h1 : i < 4) (k0 : 0 ≤ j) (k1 : j < 4) : #[f c0, f c1, f c2, f c3, f c4, f c5, f c6, f c7, f c8, f c9, f c10, f c11, f c12, f c13, f c14, f c15][i.toNat * 4 + j.toNat]? =
    some (f (ix4 (ix4 c0 c1 c2 c3 j) (ix4 c4 c5 c6 c7 j) (ix4 c8 c9 c10 c11 j) (ix4 c12 c13 c14 c15 j) i)) := by
  obtain rfl | rfl | rfl | rfl : i = 0 ∨ i = 1 ∨ i = 2 ∨ i = 3 := by omega
  all_goals (obtain rfl | rfl | rfl | rfl : j = 0 ∨ j = 1 ∨ j = 2 ∨ j = 3 := by omega)
  all_goals rfl
theorem ix_40 (i : Int) (h0 : 0 ≤ i) (h1 : i < 4) : #[f c0, f c1, f c2, f c3, f c4, f c5, f c6, f c7, f c8, f c9, f c10, f c11, f c12, f c13, f c14, f c15][i.toNat * 4]? = some (f (ix4 c0 c4 c8 c12 i)) := by
  obtain rfl | rfl | rfl | rfl : i = 0 ∨ i = 1 ∨ i = 2 ∨ i = 3 := by omega
  all_goals rfl
theorem ix_41 (i : Int) (h0 : 0 ≤ i) (h1 : i < 4) : #[f c0, f c1, f c2, f c3, f c4, f c5, f c6, f c7, f c8, f c9, f c10, f c11, f c12, f c13, f c14, f c15][i.toNat * 4 + 1]? = some (f (ix4 c1 c5 c9 c13 i)) := by
  obtain rfl | rfl | rfl | rfl : i = 0 ∨ i = 1 ∨ i = 2 ∨ i = 3 := by omega
  all_goals rfl
theorem ix_42 (i : Int) (h0 : 0 ≤ i) (h1 : i < 4) : #[f c0, f c1, f c2, f c3, f c4, f c5, f c6, f c7, f c8, f c9, f c10, f c11, f c12, f c13, f c14, f c15][i.toNat * 4 + 2]? = some (f (ix4 c2 c6 c10 c14 i)) := by
  obtain rfl | rfl | rfl | rfl : i = 0 ∨ i = 1 ∨ i = 2 ∨ i = 3 := by omega
  all_goals rfl
theorem ix_43 (i : Int) (h0 : 0 ≤ i) (h1 : i < 4) : #[f c0, f c1, f c2, f c3, f c4, f c5, f c6, f c7, f c8, f c9, f c10, f c11, f c12, f c13, f c14, f c15][i.toNat * 4 + 3]? = some (f (ix4 c3 c7 c11 c15 i)) := by
  obtain rfl | rfl | rfl | rfl : i = 0 ∨ i = 1 ∨ i = 2 ∨ i = 3 := by omega
  all_goals rfl
/-- A whole row of a value. -/
theorem row_44 (i : Int) (h0 : 0 ≤ i) (h1 : i < 4) : #[f c0, f c1, f c2, f c3, f c4, f c5, f c6, f c7, f c8, f c9, f c10, f c11, f c12, f c13, f c14, f c15].extract (i.toNat * 4) (i.toNat * 4 + 4) =
    #[f (ix4 c0 c4 c8 c12 i), f (ix4 c1 c5 c9 c13 i), f (ix4 c2 c6 c10 c14 i), f (ix4 c3 c7 c11 c15 i)] := by
  obtain rfl | rfl | rfl | rfl : i = 0 ∨ i = 1 ∨ i = 2 ∨ i = 3 := by omega
  all_goals rfl
theorem up_4 (a b c d : α) (i : Int) (v : α) (h0 : 0 ≤ i) (h1 : i < 4) : #[f a, f b, f c, f d].setIfInBounds i.toNat (f v) =
    #[f (up (i == 0) v a), f (up (i == 1) v b), f (up (i == 2) v c), f (up (i == 3) v d)] := by
  obtain rfl | rfl | rfl | rfl : i = 0 ∨ i = 1 ∨ i = 2 ∨ i = 3 := by omega
  all_goals rfl
theorem up_5 (a b c d e : α) (i : Int) (v : α) (h0 : 0 ≤ i) (h1 : i < 5) : #[f a, f b, f c, f d, f e].setIfInBounds i.toNat (f v) =
    #[f (up (i == 0) v a), f (up (i == 1) v b), f (up (i == 2) v c), f (up (i == 3) v d), f (up (i == 4) v e)] := by
  obtain rfl | rfl | rfl | rfl | rfl : i = 0 ∨ i = 1 ∨ i = 2 ∨ i = 3 ∨ i = 4 := by omega
  all_goals rfl
theorem up_44 (i j : Int) (v : α) (h0 : 0 ≤ i) (h1 : i < 4) (k0 : 0 ≤ j) (k1 : j < 4) :
    #[f c0, f c1, f c2, f c3, f c4, f c5, f c6, f c7, f c8, f c9, f c10, f c11, f c12, f c13, f c14, f c15].setIfInBounds (i.toNat * 4 + j.toNat) (f v) =
    #[f (up (i == 0 && j == 0) v c0), f (up (i == 0 && j == 1) v c1), f (up (i == 0 && j == 2) v c2), f (up (i == 0 && j == 3) v c3),
      f (up (i == 1 && j == 0) v c4), f (up (i == 1 && j == 1) v c5), f (up (i == 1 && j == 2) v c6), f (up (i == 1 && j == 3) v c7),
      f (up (i == 2 && j == 0) v c8), f (up (i == 2 && j == 1) v c9), f (up (i == 2 && j == 2) v c10), f (up (i == 2 && j == 3) v c11),
      f (up (i == 3 && j == 0) v c12), f (up (i == 3 && j == 1) v c13), f (up (i == 3 && j == 2) v c14), f (up (i == 3 && j == 3) v c15)] := by
  obtain rfl | rfl | rfl | rfl : i = 0 ∨ i = 1 ∨ i = 2 ∨ i = 3 := by omega
  all_goals (obtain rfl | rfl | rfl | rfl : j = 0 ∨ j = 1 ∨ j = 2 ∨ j = 3 := by omega)
  all_goals rfl
end
/-- An index into an array that a slot holds. -/
theorem run_index {P : Program} {t e : TypeId} {n : Nat} {j : Int} {cs : Array Value} {v : Value} (w : World) (hu : P.underlying t = some (.array n e)) (hi : (P.info? e).isSome = true) (h0 : 0 ≤ j) (h1 : j < n)
    (hp : (part e cs (j.toNat * P.cellsOf e)).run P w = .ok v w) : (Instr.index t (.agg cs) (.int .i64 j)).run P w = .ok v w := by
  obtain ⟨i, hi⟩ := Option.isSome_iff_exists.1 hi
  unfold Instr.index
  simp only [asIntOf, Sem.run_bind, Sem.run_pure, run_underlying hu, Result.andThen_ok, run_sizeOf w hi]
  rw [if_pos ⟨h0, h1⟩]
  simp only [Sem.run_bind, run_sizeOf w hi, Result.andThen_ok]
  exact hp
theorem index_cell {P : Program} {t e : TypeId} {n : Nat} {j : Int} {cs : Array Value} {v : Value} (hu : P.underlying t = some (.array n e)) (hi : (P.info? e).isSome = true) (hp : P.plainKey e = true) (hc : P.cellsOf e = 1) (h0 : 0 ≤ j) (h1 : j < n)
    (hr : cs[j.toNat]? = some v) (w : World) : (Instr.index t (.agg cs) (.int .i64 j)).run P w = .ok v w :=
  run_index w hu hi h0 h1 (by rw [hc, Nat.mul_one]; exact run_part_plain w hp hr)
theorem index_row {P : Program} {t e e2 : TypeId} {n m : Nat} {j : Int} {cs row : Array Value} (hu : P.underlying t = some (.array n e)) (hi : (P.info? e).isSome = true) (hue : P.underlying e = some (.array m e2)) (hc : P.cellsOf e = 4) (h0 : 0 ≤ j) (h1 : j < n)
    (hr : cs.extract (j.toNat * 4) (j.toNat * 4 + 4) = row) (w : World) : (Instr.index t (.agg cs) (.int .i64 j)).run P w = .ok (.agg row) w :=
  run_index w hu hi h0 h1 (by
    rw [hc]
    obtain ⟨i, hi⟩ := Option.isSome_iff_exists.1 hi
    unfold part
    simp only [isAgg, Sem.run_bind, Sem.run_pure, run_underlying hue, Result.andThen_ok, run_sizeOf w hi, if_true, hc, hr])
end Go.Proofs.YtjbejbehbjhecaaW.PrintWords
