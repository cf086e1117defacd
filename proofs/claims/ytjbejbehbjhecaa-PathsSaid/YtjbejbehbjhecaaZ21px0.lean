/- Written by a program of this session (out of what the print wrote for this seat): the functions' walks, packed. -/
import Derived.Test.YtjbejbehbjhecaaM21p
namespace Go.Proofs.YtjbejbehbjhecaaW.PrintWords
open Go.RowKit
set_option linter.unusedVariables false
set_option linter.unusedSimpArgs false
def ix4 {α : Type} (a b c d : α) (i : Int) : α := if i = 0 then a else if i = 1 then b else if i = 2 then c else d
def ix5 {α : Type} (a b c d e : α) (i : Int) : α := if i = 0 then a else if i = 1 then b else if i = 2 then c else if i = 3 then d else e
/-- A cell behind a store: the new one where the place is its own. -/
def up {α : Type} (p : Bool) (v c : α) : α := if p then v else c
theorem up_in {α β : Type} (f : α → β) (p : Bool) (v c : α) : f (up p v c) = up p (f v) (f c) := by cases p <;> rfl
section
variable {α : Type} (f : α → Value)
theorem ix_4 (a b c d : α) (i : Int) (h0 : 0 ≤ i) (h1 : i < 4) : #[f a, f b, f c, f d][i.toNat]? = some (f (ix4 a b c d i)) := by
  obtain rfl | rfl | rfl | rfl : i = 0 ∨ i = 1 ∨ i = 2 ∨ i = 3 := by omega
  all_goals rfl
theorem ix_5 (a b c d e : α) (i : Int) (h0 : 0 ≤ i) (h1 : i < 5) : #[f a, f b, f c, f d, f e][i.toNat]? = some (f (ix5 a b c d e i)) := by
  obtain rfl | rfl | rfl | rfl | rfl : i = 0 ∨ i = 1 ∨ i = 2 ∨ i = 3 ∨ i = 4 := by omega
  all_goals rfl
variable (c0 c1 c2 c3 c4 c5 c6 c7 c8 c9 c10 c11 c12 c13 c14 c15 : α)
theorem ix_44 (i j : Int) (h0 : 0 ≤ i) (h1 : i < 4) (k0 : 0 ≤ j) (k1 : j < 4) : #[f c0, f c1, f c2, f c3, f c4, f c5, f c6, f c7, f c8, f c9, f c10, f c11, f c12, f c13, f c14, f c15][i.toNat * 4 + j.toNat]? =
    some (f (ix4 (ix4 c0 c1 c2 c3 j) (ix4 c4 c5 c6 c7 j) (ix4 c8 c9 c10 c11 j) (ix4 c12 c13 c14 c15 j) i)) := by
  obtain rfl | rfl | rfl | rfl : i = 0 ∨ i = 1 ∨ i = 2 ∨ i = 3 := by omega
  all_goals (obtain rfl | rfl | rfl | rfl : j = 0 ∨ j = 1 ∨ j = 2 ∨ j = 3 := by omega)
  all_goals rfl
theorem ix_40 (i : Int) (h0 : 0 ≤ i) (h1 : i < 4) : #[f c0, f c1, f c2, f c3, f c4, f c5, f c6, f c7, f c8, f c9, f c10, f c11, f c12, f c13, f c14, f c15][i.toNat * 4]? = some (f (ix4 c0 c4 c8 c12 i)) := by
  obtain rfl | rfl | rfl | rfl : i = 0 ∨ i = 1 ∨ i = 2 ∨ i = 3 := by omega
  all_goals rfl
theorem ix_41 (i : Int) (h0 : 0 ≤ i) (h1 : i < 4) : #[f c0, f c1, f c2, f c3, f c4, f c5, f c6, f c7, f c8, f c9, f c10, f c11, f c12, f c13, f c14, f c15][i.toNat * 4 + 1]? = some (f (ix4 c1 c5 c9 c13 i)) := by
  obtain rfl | rfl | rfl | rfl : i = 0 ∨ i = 1 ∨ i = 2 ∨ i = 3 := by omega
  all_goals rfl
theorem ix_42 (i : Int) (h0 : 0 ≤ i) (h1 : i < 4) : #[f c0, f c1, f c2, f c3, f c4, f c5, f c6, f c7, f c8, f c9, f c10, f c11, f c12, f c13, f c14, f c15][i.toNat * 4 + 2]? = some (f (ix4 c2 c6 c10 c14 i)) := by
  obtain rfl | rfl | rfl | rfl : i = 0 ∨ i = 1 ∨ i = 2 ∨ i = 3 := by omega
  all_goals rfl
theorem ix_43 (i : Int) (h0 : 0 ≤ i) (h1 : i < 4) : #[f c0, f c1, f c2, f c3, f c4, f c5, f c6, f c7, f c8, f c9, f c10, f c11, f c12, f c13, f c14, f c15][i.toNat * 4 + 3]? = some (f (ix4 c3 c7 c11 c15 i)) := by
  obtain rfl | rfl | rfl | rfl : i = 0 ∨ i = 1 ∨ i = 2 ∨ i = 3 := by omega
  all_goals rfl
/-- A whole row of a value. -/
theorem row_44 (i : Int) (h0 : 0 ≤ i) (h1 : i < 4) : #[f c0, f c1, f c2, f c3, f c4, f c5, f c6, f c7, f c8, f c9, f c10, f c11, f c12, f c13, f c14, f c15].extract (i.toNat * 4) (i.toNat * 4 + 4) =
    #[f (ix4 c0 c4 c8 c12 i), f (ix4 c1 c5 c9 c13 i), f (ix4 c2 c6 c10 c14 i), f (ix4 c3 c7 c11 c15 i)] := by
  obtain rfl | rfl | rfl | rfl : i = 0 ∨ i = 1 ∨ i = 2 ∨ i = 3 := by omega
  all_goals rfl
theorem up_4 (a b c d : α) (i : Int) (v : α) (h0 : 0 ≤ i) (h1 : i < 4) : #[f a, f b, f c, f d].setIfInBounds i.toNat (f v) =
    #[f (up (i == 0) v a), f (up (i == 1) v b), f (up (i == 2) v c), f (up (i == 3) v d)] := by
  obtain rfl | rfl | rfl | rfl : i = 0 ∨ i = 1 ∨ i = 2 ∨ i = 3 := by omega
  all_goals rfl
theorem up_5 (a b c d e : α) (i : Int) (v : α) (h0 : 0 ≤ i) (h1 : i < 5) : #[f a, f b, f c, f d, f e].setIfInBounds i.toNat (f v) =
    #[f (up (i == 0) v a), f (up (i == 1) v b), f (up (i == 2) v c), f (up (i == 3) v d), f (up (i == 4) v e)] := by
  obtain rfl | rfl | rfl | rfl | rfl : i = 0 ∨ i = 1 ∨ i = 2 ∨ i = 3 ∨ i = 4 := by omega
  all_goals rfl
theorem up_44 (i j : Int) (v : α) (h0 : 0 ≤ i) (h1 : i < 4) (k0 : 0 ≤ j) (k1 : j < 4) :
    #[f c0, f c1, f c2, f c3, f c4, f c5, f c6, f c7, f c8, f c9, f c10, f c11, f c12, f c13, f c14, f c15].setIfInBounds (i.toNat * 4 + j.toNat) (f v) =
    #[f (up (i == 0 && j == 0) v c0), f (up (i == 0 && j == 1) v c1), f (up (i == 0 && j == 2) v c2), f (up (i == 0 && j == 3) v c3),
      f (up (i == 1 && j == 0) v c4), f (up (i == 1 && j == 1) v c5), f (up (i == 1 && j == 2) v c6), f (up (i == 1 && j == 3) v c7),
      f (up (i == 2 && j == 0) v c8), f (up (i == 2 && j == 1) v c9), f (up (i == 2 && j == 2) v c10), f (up (i == 2 && j == 3) v c11),
      f (up (i == 3 && j == 0) v c12), f (up (i == 3 && j == 1) v c13), f (up (i == 3 && j == 2) v c14), f (up (i == 3 && j == 3) v c15)] := by
  obtain rfl | rfl | rfl | rfl : i = 0 ∨ i = 1 ∨ i = 2 ∨ i = 3 := by omega
  all_goals (obtain rfl | rfl | rfl | rfl : j = 0 ∨ j = 1 ∨ j = 2 ∨ j = 3 := by omega)
  all_goals rfl
theorem upr_0 (i : Int) (v : α) (h0 : 0 ≤ i) (h1 : i < 4) : #[f c0, f c1, f c2, f c3, f c4, f c5, f c6, f c7, f c8, f c9, f c10, f c11, f c12, f c13, f c14, f c15].setIfInBounds (i.toNat * 4) (f v) =
    #[f (up (i == 0) v c0), f c1, f c2, f c3, f (up (i == 1) v c4), f c5, f c6, f c7, f (up (i == 2) v c8), f c9, f c10, f c11, f (up (i == 3) v c12), f c13, f c14, f c15] := by
  obtain rfl | rfl | rfl | rfl : i = 0 ∨ i = 1 ∨ i = 2 ∨ i = 3 := by omega
  all_goals rfl
theorem upr_1 (i : Int) (v : α) (h0 : 0 ≤ i) (h1 : i < 4) : #[f c0, f c1, f c2, f c3, f c4, f c5, f c6, f c7, f c8, f c9, f c10, f c11, f c12, f c13, f c14, f c15].setIfInBounds (i.toNat * 4 + 1) (f v) =
    #[f c0, f (up (i == 0) v c1), f c2, f c3, f c4, f (up (i == 1) v c5), f c6, f c7, f c8, f (up (i == 2) v c9), f c10, f c11, f c12, f (up (i == 3) v c13), f c14, f c15] := by
  obtain rfl | rfl | rfl | rfl : i = 0 ∨ i = 1 ∨ i = 2 ∨ i = 3 := by omega
  all_goals rfl
theorem upr_2 (i : Int) (v : α) (h0 : 0 ≤ i) (h1 : i < 4) : #[f c0, f c1, f c2, f c3, f c4, f c5, f c6, f c7, f c8, f c9, f c10, f c11, f c12, f c13, f c14, f c15].setIfInBounds (i.toNat * 4 + 2) (f v) =
    #[f c0, f c1, f (up (i == 0) v c2), f c3, f c4, f c5, f (up (i == 1) v c6), f c7, f c8, f c9, f (up (i == 2) v c10), f c11, f c12, f c13, f (up (i == 3) v c14), f c15] := by
  obtain rfl | rfl | rfl | rfl : i = 0 ∨ i = 1 ∨ i = 2 ∨ i = 3 := by omega
  all_goals rfl
theorem upr_3 (i : Int) (v : α) (h0 : 0 ≤ i) (h1 : i < 4) : #[f c0, f c1, f c2, f c3, f c4, f c5, f c6, f c7, f c8, f c9, f c10, f c11, f c12, f c13, f c14, f c15].setIfInBounds (i.toNat * 4 + 3) (f v) =
    #[f c0, f c1, f c2, f (up (i == 0) v c3), f c4, f c5, f c6, f (up (i == 1) v c7), f c8, f c9, f c10, f (up (i == 2) v c11), f c12, f c13, f c14, f (up (i == 3) v c15)] := by
  obtain rfl | rfl | rfl | rfl : i = 0 ∨ i = 1 ∨ i = 2 ∨ i = 3 := by omega
  all_goals rfl
end
/-- The cells of a block of sixteen. -/
theorem cells16 {w : World} {g : Nat} {t : TypeId} {c0 c1 c2 c3 c4 c5 c6 c7 c8 c9 c10 c11 c12 c13 c14 c15 : Value} (h : w.heap[g]? = some (.cells #[c0, c1, c2, c3, c4, c5, c6, c7, c8, c9, c10, c11, c12, c13, c14, c15] t (0, 0))) :
    w.cell? ⟨g, 0, none⟩ = some c0 ∧ w.cell? ⟨g, 1, none⟩ = some c1 ∧ w.cell? ⟨g, 2, none⟩ = some c2 ∧ w.cell? ⟨g, 3, none⟩ = some c3 ∧ w.cell? ⟨g, 4, none⟩ = some c4 ∧ w.cell? ⟨g, 5, none⟩ = some c5 ∧ w.cell? ⟨g, 6, none⟩ = some c6 ∧ w.cell? ⟨g, 7, none⟩ = some c7 ∧ w.cell? ⟨g, 8, none⟩ = some c8 ∧ w.cell? ⟨g, 9, none⟩ = some c9 ∧ w.cell? ⟨g, 10, none⟩ = some c10 ∧ w.cell? ⟨g, 11, none⟩ = some c11 ∧ w.cell? ⟨g, 12, none⟩ = some c12 ∧ w.cell? ⟨g, 13, none⟩ = some c13 ∧ w.cell? ⟨g, 14, none⟩ = some c14 ∧ w.cell? ⟨g, 15, none⟩ = some c15 :=
  ⟨(blk_cell h 0).trans rfl, (blk_cell h 1).trans rfl, (blk_cell h 2).trans rfl, (blk_cell h 3).trans rfl, (blk_cell h 4).trans rfl, (blk_cell h 5).trans rfl, (blk_cell h 6).trans rfl, (blk_cell h 7).trans rfl, (blk_cell h 8).trans rfl, (blk_cell h 9).trans rfl, (blk_cell h 10).trans rfl, (blk_cell h 11).trans rfl, (blk_cell h 12).trans rfl, (blk_cell h 13).trans rfl, (blk_cell h 14).trans rfl, (blk_cell h 15).trans rfl⟩
/-- An index into an array that a slot holds. -/
theorem run_index {P : Program} {t e : TypeId} {n : Nat} {j : Int} {cs : Array Value} {v : Value} (w : World) (hu : P.underlying t = some (.array n e)) (hi : (P.info? e).isSome = true) (h0 : 0 ≤ j) (h1 : j < n)
    (hp : (part e cs (j.toNat * P.cellsOf e)).run P w = .ok v w) : (Instr.index t (.agg cs) (.int .i64 j)).run P w = .ok v w := by
  obtain ⟨i, hi⟩ := Option.isSome_iff_exists.1 hi
  unfold Instr.index
  simp only [asIntOf, Sem.run_bind, Sem.run_pure, run_underlying hu, Result.andThen_ok, run_sizeOf w hi]
  rw [if_pos ⟨h0, h1⟩]
  simp only [Sem.run_bind, run_sizeOf w hi, Result.andThen_ok]
  exact hp
theorem index_cell {P : Program} {t e : TypeId} {n : Nat} {j : Int} {cs : Array Value} {v : Value} (hu : P.underlying t = some (.array n e)) (hi : (P.info? e).isSome = true) (hp : P.plainKey e = true) (hc : P.cellsOf e = 1) (h0 : 0 ≤ j) (h1 : j < n)
    (hr : cs[j.toNat]? = some v) (w : World) : (Instr.index t (.agg cs) (.int .i64 j)).run P w = .ok v w :=
  run_index w hu hi h0 h1 (by rw [hc, Nat.mul_one]; exact run_part_plain w hp hr)
theorem index_row {P : Program} {t e e2 : TypeId} {n m : Nat} {j : Int} {cs row : Array Value} (hu : P.underlying t = some (.array n e)) (hi : (P.info? e).isSome = true) (hue : P.underlying e = some (.array m e2)) (hc : P.cellsOf e = 4) (h0 : 0 ≤ j) (h1 : j < n)
    (hr : cs.extract (j.toNat * 4) (j.toNat * 4 + 4) = row) (w : World) : (Instr.index t (.agg cs) (.int .i64 j)).run P w = .ok (.agg row) w :=
  run_index w hu hi h0 h1 (by
    rw [hc]
    obtain ⟨i, hi⟩ := Option.isSome_iff_exists.1 hi
    unfold part
    simp only [isAgg, Sem.run_bind, Sem.run_pure, run_underlying hue, Result.andThen_ok, run_sizeOf w hi, if_true, hc, hr])
end Go.Proofs.YtjbejbehbjhecaaW.PrintWords
namespace Go.Proofs.Ytjbejbehbjhecaa.Q21p
open Go.RowKit Go.Proofs.YtjbejbehbjhecaaW.PrintWords Go.Proofs.YtjbejbehbjhecaaW.PrintLast Go.Proofs.YtjbejbehbjhecaaW.PrintMore
attribute [local go_sem] max2_int min2_int max_two min_two max_three min_three max_four min_four   -- for this text's walks alone
set_option linter.unusedVariables false
set_option linter.unusedSimpArgs false



def errW : Option Int → Value
  | none => .nilIface
  | some c => .iface 0 (.int .i64 c)
theorem errW_none : errW none = .nilIface := rfl
theorem errW_some (c : Int) : errW (some c) = .iface 0 (.int .i64 c) := rfl

theorem info3 : (Try.prog.info? 3).map (fun i => (i.zero, i.size, i.bytes)) = some (some (.int .i64 0), 1, 8) := by kernel_rfl
theorem info41 : (Try.prog.info? 41).map (fun i => (i.zero, i.size, i.bytes)) = some (some (.agg #[(.int .i64 0), (.int .i64 0), (.slice none 0 0)]), 3, 40) := by kernel_rfl
-- the values' own types
def rd_L1 (xs : List (List Int)) (i : Int) : (List Int) := xs.getD i.toNat ([] : List Int)
theorem at_L1 {w : World} {A : Option Addr} {n : Nat} {xs : List (List Int)} (h : Kd.C (Kd.slice 3 (Kd.int .i64)) w A n xs) (i : Int) (h0 : 0 ≤ i) (h1 : i < n) : ∃ ad A0 c0, A = some ad ∧ w.cell? (ad.add i.toNat) = some (.slice A0 (rd_L1 xs i).length c0) ∧ (rd_L1 xs i).length ≤ c0 ∧ (Kd.int .i64).C w A0 (rd_L1 xs i).length (rd_L1 xs i) := by
  obtain ⟨ad, c, e, _, hK, hc0⟩ := Kd.C_get h ([] : List Int) i h0 h1
  have hc : ∀ j u, c[j]? = some u → w.cell? (ad.add (i.toNat * 1 + j)) = some u := hc0
  obtain ⟨A0, c0, rfl, l0, g0⟩ := hK
  exact ⟨ad, A0, c0, e, by have hq := hc 0 _ rfl; rwa [Nat.mul_one, Nat.add_zero] at hq, l0, g0⟩

/-! #### struct type 41 -/
structure S41 where
  f0 : Int
  f1 : Int
  f2 : (List Int)
def z41 : S41 := ⟨(0 : Int), (0 : Int), ([] : List Int)⟩
def k41 : Kd S41 := Kd.iso (Kd.pair (Kd.int .i64) (Kd.pair (Kd.int .i64) (Kd.slice 3 (Kd.int .i64)))) (fun x : S41 => (x.f0, x.f1, x.f2))
theorem k41_open {w : World} {x : S41} {cs : List Value} (h : k41.K w x cs) : ∃ A2 c2, cs = [.int .i64 x.f0, .int .i64 x.f1, .slice A2 x.f2.length c2] ∧ x.f2.length ≤ c2 ∧ (Kd.int .i64).C w A2 x.f2.length x.f2 := by
  obtain ⟨_, _, rfl, rfl, ⟨_, _, rfl, rfl, ⟨A2, c2, rfl, l2, g2⟩⟩⟩ := h
  exact ⟨A2, c2, rfl, l2, g2⟩
theorem k41_openM {w : World} {base : Nat} {ok : Nat → Prop} {x : S41} {cs : List Value} (h : k41.M w base ok x cs) : ∃ v2, cs = [.int .i64 x.f0, .int .i64 x.f1, v2] ∧ (Kd.int .i64).R 3 w base ok v2 x.f2 := by
  obtain ⟨_, _, rfl, rfl, ⟨_, _, rfl, rfl, ⟨v2, rfl, g2⟩⟩⟩ := h
  exact ⟨v2, rfl, g2⟩
theorem k41_mk (w : World) (x : S41) {A2 : Option Addr} {c2 : Nat} (l2 : x.f2.length ≤ c2) (g2 : (Kd.int .i64).C w A2 x.f2.length x.f2) : k41.K w x [.int .i64 x.f0, .int .i64 x.f1, .slice A2 x.f2.length c2] := ⟨[.int .i64 x.f0], [.int .i64 x.f1, .slice A2 x.f2.length c2], rfl, rfl, ⟨[.int .i64 x.f1], [.slice A2 x.f2.length c2], rfl, rfl, ⟨A2, c2, rfl, l2, g2⟩⟩⟩
theorem k41_mkM (w : World) (base : Nat) (ok : Nat → Prop) (x : S41) {v2 : Value} (g2 : (Kd.int .i64).R 3 w base ok v2 x.f2) : k41.M w base ok x [.int .i64 x.f0, .int .i64 x.f1, v2] := ⟨[.int .i64 x.f0], [.int .i64 x.f1, v2], rfl, rfl, ⟨[.int .i64 x.f1], [v2], rfl, rfl, ⟨v2, rfl, g2⟩⟩⟩
theorem k41_openF {W : World} {ok : Nat → Prop} {x : S41} {cs : List Value} (h : Kd.FK k41 W ok x cs) : ∃ A2 c2, cs = [.int .i64 x.f0, .int .i64 x.f1, .slice A2 x.f2.length c2] ∧ x.f2.length ≤ c2 ∧ Kd.F (Kd.int .i64) W ok A2 x.f2.length x.f2 := by
  obtain ⟨A2, c2, rfl, l2, _⟩ := k41_open (Kd.FK_now h)
  exact ⟨A2, c2, rfl, l2, (fun W' hW => by obtain ⟨A2_, c2_, he, l2_, g2_⟩ := k41_open (h W' hW); injection (Option.some.inj (show some (Value.slice A2 x.f2.length c2) = some (Value.slice A2_ x.f2.length c2_) from congrArg (fun l => l[2]?) he)) with ha_ _ _; rw [ha_]; exact g2_)⟩
theorem k41_mkF (W : World) (ok : Nat → Prop) (x : S41) {A2 : Option Addr} {c2 : Nat} (l2 : x.f2.length ≤ c2) (g2 : Kd.F (Kd.int .i64) W ok A2 x.f2.length x.f2) : Kd.FK k41 W ok x [.int .i64 x.f0, .int .i64 x.f1, .slice A2 x.f2.length c2] := fun W2 hW => k41_mk W2 x l2 (g2 W2 hW)
def rd_T41 (xs : List S41) (i : Int) : S41 := xs.getD i.toNat z41
theorem at_T41 {w : World} {A : Option Addr} {n : Nat} {xs : List S41} (h : Kd.C k41 w A n xs) (i : Int) (h0 : 0 ≤ i) (h1 : i < n) : ∃ ad A2 c2, A = some ad ∧ w.cell? (ad.add (i.toNat * 3)) = some (.int .i64 (rd_T41 xs i).f0) ∧ w.cell? ⟨(ad.add (i.toNat * 3)).block, (ad.add (i.toNat * 3)).off + 1, none⟩ = some (.int .i64 (rd_T41 xs i).f1) ∧ w.cell? ⟨(ad.add (i.toNat * 3)).block, (ad.add (i.toNat * 3)).off + 2, none⟩ = some (.slice A2 (rd_T41 xs i).f2.length c2) ∧ (rd_T41 xs i).f2.length ≤ c2 ∧ (Kd.int .i64).C w A2 (rd_T41 xs i).f2.length (rd_T41 xs i).f2 := by
  obtain ⟨ad, c, e, _, hK, hc0⟩ := Kd.C_get h z41 i h0 h1
  have hc : ∀ j u, c[j]? = some u → w.cell? (ad.add (i.toNat * 3 + j)) = some u := hc0
  obtain ⟨A2, c2, rfl, l2, g2⟩ := k41_open hK
  exact ⟨ad, A2, c2, e, hc 0 _ rfl, by rw [← add_field _ _ 1 (by omega)]; exact hc 1 _ rfl, by rw [← add_field _ _ 2 (by omega)]; exact hc 2 _ rfl, l2, g2⟩

end Go.Proofs.Ytjbejbehbjhecaa.Q21p
namespace Go.Proofs.Ytjbejbehbjhecaa.Q21p
open Go.RowKit Go.Proofs.YtjbejbehbjhecaaW.PrintWords Go.Proofs.YtjbejbehbjhecaaW.PrintLast Go.Proofs.YtjbejbehbjhecaaW.PrintMore
attribute [local go_sem] max2_int min2_int max_two min_two max_three min_three max_four min_four   -- for this text's walks alone
set_option linter.unusedVariables false
set_option linter.unusedSimpArgs false

/-! ### watchwordlaw0_SpoilInts: function 31 -/
def watchwordlaw0_SpoilInts.l0 : Nat → List Int → Int → Option (List Int)
 | 0, _, _ => none
 | k + 1, x0, x2 => if x2 < (x0.length : Int) then (if 0 ≤ x2 then (watchwordlaw0_SpoilInts.l0 k (x0.set (x2 : Int).toNat (wrap64 ((-9) - (rd x0 x2)))) (wrap64 (x2 + 1))) else (none)) else (some x0)
def watchwordlaw0_SpoilInts.f (k : Nat) (l0 : List Int) : Option (List Int) := watchwordlaw0_SpoilInts.l0 k l0 0
theorem watchwordlaw0_SpoilInts.mono_l : ∀ k, (∀ y0 y1, LeO (watchwordlaw0_SpoilInts.l0 k y0 y1) (watchwordlaw0_SpoilInts.l0 (k + 1) y0 y1))
 | 0 => fun _ _ r h => by simp [watchwordlaw0_SpoilInts.l0] at h
 | k + 1 => by
  have ih0 := watchwordlaw0_SpoilInts.mono_l k
  ·intro y0 y1
   unfold watchwordlaw0_SpoilInts.l0
   repeat' first
   | (with_reducible exact ih0 _ _)
   | (with_reducible exact LeO.refl _)
   | (with_reducible exact LeO.none _)
   | (with_reducible refine LeO.ite ?_ ?_)
   | (with_reducible refine LeO.bind ?_ (fun _ => ?_))
   | exact ih0 _ _
   | exact LeO.none _
   | refine LeO.ite ?_ ?_
   | refine LeO.bind ?_ (fun _ => ?_)
theorem watchwordlaw0_SpoilInts.mono : ∀ a0 k, LeO (watchwordlaw0_SpoilInts.f k a0) (watchwordlaw0_SpoilInts.f (k + 1) a0) := by
 intro a0 k
 have ih0 := watchwordlaw0_SpoilInts.mono_l k
 unfold watchwordlaw0_SpoilInts.f
 repeat' first
   | (with_reducible exact ih0 _ _)
   | (with_reducible exact LeO.refl _)
   | (with_reducible exact LeO.none _)
   | (with_reducible refine LeO.ite ?_ ?_)
   | (with_reducible refine LeO.bind ?_ (fun _ => ?_))
   | exact ih0 _ _
   | exact LeO.none _
   | refine LeO.ite ?_ ?_
   | refine LeO.bind ?_ (fun _ => ?_)
set_option maxHeartbeats 8000000 in
set_option maxRecDepth 100000 in
theorem watchwordlaw0_SpoilInts.calls (k : Nat) (P0_ : Nat → Prop) (u9000_ : Value) (l0 : List Int) (r : List Int) (w0 w : World) (hB : Below w0.heap.size w0 w) (ho0 : Kd.R (Kd.int .i64) 3 w w0.heap.size P0_ u9000_ l0) (h : watchwordlaw0_SpoilInts.f k l0 = some r) :
  Calls Try.prog 31 #[u9000_] w fun e w' => e = .returned (.tuple #[]) ∧ Kd.R (Kd.int .i64) 3 w' w0.heap.size (fun k_ => (P0_ k_ ∨ w.heap.size ≤ k_)) u9000_ r ∧ Below w0.heap.size w0 w' ∧ Kept w w' (fun k_ => P0_ k_) := by
 have HO0 := Aside0.mk (show Kd.R (Kd.int .i64) 3 w w0.heap.size (fun k_ => (P0_ k_ ∨ w.heap.size ≤ k_)) u9000_ l0 from Kd.R_mono ho0 (fun k_ hk => (.inl hk)))
 have HK := Aside0.mk (Kept.refl w (fun k_ => P0_ k_))
 have HW0 := Aside0.mk hB.size
 have HB := Aside0.mk hB
 clear hB
 have H : (watchwordlaw0_SpoilInts.l0 k l0 0) = some r := h
 clear h
 have H' := Aside0.mk H
 clear H
 go_enter Try.func31, Try.ntmps31
 go_wp2
 go_loopg [2] k (fun kq v2 w' => ∃ (x0_1 : List Int) (x2_1 : Int), v2 = .int .i64 x2_1 ∧ Aside0 (watchwordlaw0_SpoilInts.l0 kq x0_1 x2_1 = some r) ∧ Aside0 (kq ≤ k) ∧ Aside0 (Kd.R (Kd.int .i64) 3 w' w0.heap.size (fun k_ => (P0_ k_ ∨ w.heap.size ≤ k_)) u9000_ x0_1) ∧ Aside0 (Kept w w' (fun k_ => P0_ k_)) ∧ Aside0 (Below w0.heap.size w0 w'))
 case atStart => exact ⟨(l0), (0), (by first | rfl | (simp; done) | (simp [*]; done)), H', ⟨Nat.le_refl _⟩, ⟨by (with_reducible repeat (first | apply Kd.R_alloc | apply Kd.R_drewN | apply Kd.R_drew)); exact HO0.out⟩, ⟨by repeat (first | (with_reducible first | exact HK.out | apply Kept.alloc | apply Kept.drewN | apply Kept.drew) | exact HK.out)⟩, ⟨by repeat (first | (with_reducible first | exact HB.out | apply below_alloc | apply pw_below_drewN | apply below_drew1) | exact HB.out)⟩⟩
 case round =>
  clear H'
  obtain ⟨x0_1, x2_1, rfl, HA, HK1, HO_0, HK, HB⟩ := hrel
  cases gk with
  | zero => exact absurd HA.out (by simp [watchwordlaw0_SpoilInts.l0])
  | succ k1 =>
   have H := HA.out
   clear HA
   simp only [watchwordlaw0_SpoilInts.l0] at H
   by_cases c2 : x2_1 < (x0_1.length : Int)
   ·rw [if_pos c2] at H
    have c2b0 : decide (x2_1 < (x0_1.length : Int)) = true := decide_eq_true c2
    clear c2
    by_cases c3 : 0 ≤ x2_1
    ·rw [if_pos c3] at H
     have c3b0 : decide (0 ≤ x2_1) = true := decide_eq_true c3
     clear c3
     obtain ⟨y170, hy170⟩ : ∃ y_ : List Int, y_ = (x0_1.set (x2_1 : Int).toNat (wrap64 ((-9) - (rd x0_1 x2_1)))) := ⟨_, rfl⟩
     replace H : (watchwordlaw0_SpoilInts.l0 k1 y170 (wrap64 (x2_1 + 1))) = some r := by first | (rw [hy170]; with_reducible exact H) | (have H2_ := (Option.bind_some _ _).symm.trans H; rw [hy170]; with_reducible exact H2_) | (have H2_ := (Option.bind_some _ _).symm.trans H; with_reducible exact H2_) | with_reducible exact H | (rw [hy170]; exact H) | exact H
     have Ny170 := Aside0.mk hy170
     clear hy170
     have H' := Aside0.mk H
     clear H
     obtain ⟨Ao5, co5, eo5⟩ := Kd.R_slice HO_0.out
     subst eo5
     have p169 : 0 ≤ (x2_1 : Int) := of_decide_eq_true (by first | (with_reducible assumption) | assumption)
     have q169 : x2_1 < (x0_1.length : Int) := of_decide_eq_true (by first | (with_reducible assumption) | assumption)
     obtain ⟨ad169, e169, hx169_0⟩ := Kd.at_int (Kd.R_reads' HO_0.out).2.2 x2_1 p169 q169
     cases e169
     replace p169 := eq_true p169
     replace q169 := eq_true q169
     have p4 : 0 ≤ (x2_1 : Int) := of_decide_eq_true (by first | (with_reducible assumption) | assumption)
     have q4 : (x2_1 : Int) < ((x0_1.length : Int) : Int) := of_decide_eq_true (by first | (with_reducible assumption) | assumption)
     obtain ⟨go4, co4, eo4, gb4, gl4, cl4, HG4⟩ := Kd.R_form HO_0.out (by omega)
     (first | cases eo4 | (injection eo4 with ea_ en_ ec_; (first | subst ea_ | (injection ea_ with ea_; subst ea_)); subst ec_; clear en_))
     have GB4 := Aside0.mk gb4
     have GG4 := Aside0.mk HG4
     clear gb4 gl4 HG4
     have HMgo4 := Aside0.mk (show (P0_ go4 ∨ w.heap.size ≤ go4) from (HO_0.out.1 _ rfl))
     (first | simp only [add_plain] at hx169_0 | skip)
     obtain ⟨hx4_0, hf4_0⟩ := Kd.R_celln 0 HO_0.out (x2_1 : Int) p4 q4
     replace p4 := eq_true p4
     replace q4 := eq_true q4
     have HP6 := Kd.R_putg HO_0.out (x2_1 : Int) (wrap64 ((-9) - (rd x0_1 x2_1)))
     go_wp2_with (first | ((with_reducible refine gate_store (t := 3) (p := 16) rfl ?_); refine store_event (t := 3) (p := 16) (v := ?vo_w7) (w1 := (wr.setCell ⟨go4, (x2_1 : Int).toNat, none⟩ (.int .i64 (wrap64 ((-9) - (rd x0_1 x2_1)))))) ?hg ?ho ?hn ?hr ?_; (case ho => rfl); (case hg => rfl); (case hn => rfl); (case hr => first | (go_simp; done) | (go_simp; rfl)); intro w7 hw; have hg : wr.grownBy w7 (some go4) := (by rw [hw]; exact HP6.2); have hp_ : Kd.R (Kd.int .i64) 3 w7 w0.heap.size (fun k_ => (P0_ k_ ∨ w.heap.size ≤ k_)) (.slice (some ⟨go4, 0, none⟩) x0_1.length co5) y170 := (by rw [hw, Ny170.out]; exact HP6.1); clear HP6; have n0_ := Aside0.mk (hp_); have n1_ := Aside0.mk ((by rw [hw]; exact below_set (HB.out) GB4.out : Below w0.heap.size w0 w7)); have n2_ := Aside0.mk (Kept.of_grown (S := (fun k_ => P0_ k_)) hg (by repeat (first | (with_reducible first | exact HK.out | apply Kept.alloc | apply Kept.drewN | apply Kept.drew) | exact HK.out)) (fun k_ e_ => (HO_0.out.1 k_ e_))); clear HO_0; clear HB; clear HK; have HO_0 := n0_; have HB := n1_; have HK := n2_; clear n0_ n1_ n2_; clear hg hw hp_))
     go_roundg k1
     case measure => have := HK1.out; omega
     case rel => exact ⟨(y170), (wrap64 (x2_1 + 1)), (by first | rfl | (simp; done) | (simp [*]; done)), H', ⟨by have := HK1.out; omega⟩, ⟨by (with_reducible repeat (first | apply Kd.R_alloc | apply Kd.R_drewN | apply Kd.R_drew)); exact HO_0.out⟩, ⟨by repeat (first | (with_reducible first | exact HK.out | apply Kept.alloc | apply Kept.drewN | apply Kept.drew) | exact HK.out)⟩, ⟨by repeat (first | (with_reducible first | exact HB.out | apply below_alloc | apply pw_below_drewN | apply below_drew1) | exact HB.out)⟩⟩
    ·rw [if_neg c3] at H
     exact absurd H (by simp)
   ·rw [if_neg c2] at H
    have c2b0 : decide (x2_1 < (x0_1.length : Int)) = false := decide_eq_false c2
    clear c2
    obtain rfl := Option.some.inj H
    obtain ⟨Ao8, co8, eo8⟩ := Kd.R_slice HO_0.out
    subst eo8
    go_wp2
    first | go_end0 | ((try simp only [Exit.inBlock, Exit.then]); refine bodyPost_ret (results_none rfl _ _ _) rfl ?_)
    exact ⟨by first | rfl | (simp [errW_none, errW_some] <;> rfl) | (simp [*, errW_none, errW_some] <;> rfl), by (with_reducible repeat (first | apply Kd.R_alloc | apply Kd.R_drewN | apply Kd.R_drew)); exact HO_0.out, by repeat (first | (with_reducible first | exact HB.out | apply below_alloc | apply pw_below_drewN | apply below_drew1) | exact HB.out), by repeat (first | (with_reducible first | exact HK.out | apply Kept.alloc | apply Kept.drewN | apply Kept.drew) | exact HK.out)⟩

-- NOT PRINTED: function 17 (watchwordlaw0_SpoilRoutes)

end Go.Proofs.Ytjbejbehbjhecaa.Q21p
namespace Go.Proofs.Ytjbejbehbjhecaa.Q21p
open Go.RowKit Go.Proofs.YtjbejbehbjhecaaW.PrintWords Go.Proofs.YtjbejbehbjhecaaW.PrintLast Go.Proofs.YtjbejbehbjhecaaW.PrintMore
set_option linter.unusedVariables false
set_option linter.unusedSimpArgs false

theorem spoil_some : ∀ (d k i : Nat) (l : List Int), l.length ≤ 1000 → i + d = l.length → d < k → ∃ m, watchwordlaw0_SpoilInts.l0 k l (i : Int) = some m := by
  intro d
  induction d with
  | zero =>
    intro k i l hl hi hk
    obtain ⟨k, rfl⟩ : ∃ m, k = m + 1 := ⟨k - 1, by omega⟩
    simp only [watchwordlaw0_SpoilInts.l0]
    exact ⟨l, if_neg (by omega)⟩
  | succ d ih =>
    intro k i l hl hi hk
    obtain ⟨k, rfl⟩ : ∃ m, k = m + 1 := ⟨k - 1, by omega⟩
    have h4 : wrap64 ((i : Int) + 1) = ((i + 1 : Nat) : Int) := by rw [IntWalk.wrap64_in _ ⟨by omega, by omega⟩]; omega
    simp only [watchwordlaw0_SpoilInts.l0, h4]
    rw [if_pos (by omega), if_pos (by omega)]
    exact ih k (i + 1) _ (by rw [List.length_set]; exact hl) (by rw [List.length_set]; omega) (by omega)
theorem spoil_ints (l : List Int) (hl : l.length ≤ 1000) : ∃ m, watchwordlaw0_SpoilInts.f 2000 l = some m :=
  spoil_some l.length 2000 0 l hl (by omega) (by omega)
theorem rdU_set_ne (ys : List S41) (x : S41) {i j : Nat} (h : i ≠ j) : rd_T41 (ys.set i x) (j : Int) = rd_T41 ys (j : Int) := by
  unfold rd_T41; rw [Int.toNat_natCast, List.getD_eq_getElem?_getD, List.getD_eq_getElem?_getD, List.getElem?_set_ne h]
set_option maxHeartbeats 8000000 in
set_option maxRecDepth 100000 in
theorem watchwordlaw0_SpoilRoutes.spoilt (v : Value) (xs : List S41) (w0 w : World) (hB : Below w0.heap.size w0 w) (h : Kd.S k41 41 w w0.heap.size (fun _ => True) v xs) (hn : xs.length ≤ 1000000) (hx : ∀ j : Nat, j < xs.length → (rd_T41 xs (j : Int)).f2.length ≤ 1000) :
    Calls Try.prog 17 #[v] w fun e w' => e = .returned (.tuple #[]) ∧ (∃ ys, Kd.S k41 41 w' w0.heap.size (fun _ => True) v ys) ∧ Below w0.heap.size w0 w' := by
  have HS0 := Aside0.mk h
  have HX0 := Aside0.mk hx
  have HB := Aside0.mk hB
  have HN0 := Aside0.mk hn
  clear h hx hB hn
  go_enter Try.func17, Try.ntmps17
  go_wp2
  go_loopg [2] xs.length (fun kx s2 wr => ∃ (i : Nat) (ys : List S41), s2 = .int .i64 (i : Int) ∧ Aside0 (i ≤ xs.length) ∧ Aside0 (xs.length - i ≤ kx) ∧ Aside0 (ys.length = xs.length) ∧ Aside0 (Kd.S k41 41 wr w0.heap.size (fun _ => True) v ys) ∧ Aside0 (∀ j : Nat, i ≤ j → j < xs.length → (rd_T41 ys (j : Int)).f2.length ≤ 1000) ∧ Aside0 (Below w0.heap.size w0 wr))
  case atStart => exact ⟨0, xs, rfl, ⟨Nat.zero_le _⟩, ⟨by omega⟩, ⟨rfl⟩, HS0, ⟨fun j _ hj => HX0.out j hj⟩, HB⟩
  case round =>
    clear HS0 HX0 HB
    obtain ⟨i, ys, rfl, HI, HK, HN, HS, HX, HB⟩ := hrel
    by_cases hi : i < xs.length
    · have hlen : 0 < ys.length := by rw [HN.out]; omega
      obtain ⟨g, cap, ev, hg, hgl, cells, hgc⟩ := Kd.S_form HS.out hlen
      subst ev
      have hiy : (i : Int) < (ys.length : Int) := by rw [HN.out]; omega
      have hc : decide (i < ys.length) = true := decide_eq_true (by omega)
      have e0 : ((i : Nat) : Int).toNat = i := Int.toNat_natCast i
      obtain ⟨oki, c, hcl, hM, hcc, hfr, hoki, hH⟩ := Kd.S_elem HS.out z41 (i : Int) (Int.natCast_nonneg _) hiy
      rw [e0] at hM hcc hfr
      obtain ⟨v3, rfl, hv3⟩ := k41_openM hM
      have hl3 : (ys.getD i z41).f2.length ≤ 1000 := HX.out i (Nat.le_refl _) hi
      generalize hel : ys.getD i z41 = el at *
      obtain ⟨m, hm⟩ := spoil_ints el.f2 hl3
      obtain ⟨A3, c3, e3⟩ := Kd.R_slice hv3
      subst e3
      have hc3 : wr.cell? ⟨g, i * 3 + 2, none⟩ = some (.slice A3 el.f2.length c3) := hcc 2 _ rfl
      have HH := Aside0.mk hH
      have HV := Aside0.mk hv3
      have HM := Aside0.mk hm
      have HG := Aside0.mk hg
      clear hcc hH hv3 hm hg hel hM hcl hfr hoki hgc hgl hlen hl3 HS
      go_upto_region 4 with (first | ((with_reducible refine gate_callee (f := 31) rfl ?_); refine goesL_ (some 14) rfl rfl Try.func31 (by kernel_rfl) rfl #[.slice A3 el.f2.length c3] rfl (by (try simp only [List.map_toArray, List.map_cons, List.map_nil]); first | done | rfl) ?_; (with_reducible refine (watchwordlaw0_SpoilInts.calls 2000 oki (.slice A3 el.f2.length c3) el.f2 m w0 wr HB.out HV.out HM.out).mono ?_); rintro e w5 ⟨rfl, hr5, hb5, hk5⟩; refine ⟨_, rfl, ?_⟩; have HR5 := Aside0.mk hr5; have HB5 := Aside0.mk hb5; have HK5 := Aside0.mk hk5; clear hr5 hb5 hk5))
      have n0_ := Aside0.mk (show Kd.S k41 41 w5 w0.heap.size (fun _ => True) (.slice (some ⟨g, 0, none⟩) ys.length cap) (ys.set i ⟨el.f0, el.f1, m⟩) from by
          have h1 := Kd.H_step (Kd.H_widen HH.out) (w1 := w5) (fun k _ hk hlt => HK5.out.2 k hlt (fun h => hk (.inl h)))
          have h2 := Kd.H_back h1 (x' := (⟨el.f0, el.f1, m⟩ : S41)) (k41_mkM w5 w0.heap.size _ ⟨el.f0, el.f1, m⟩ HR5.out) (fun k hk => hk.elim .inl (fun h => .inr ⟨trivial, h⟩))
          rw [Int.toNat_natCast] at h2; exact h2)
      have n1_ : (ys.set i ⟨el.f0, el.f1, m⟩).length = ys.length := List.length_set
      obtain ⟨oki6, c6, hcl6, hM6, hcc6, hfr6, hoki6, hH6⟩ := Kd.S_elem n0_.out z41 (i : Int) (Int.natCast_nonneg _) (by omega)
      rw [Int.toNat_natCast] at hM6 hcc6 hfr6
      rw [show (ys.set i (⟨el.f0, el.f1, m⟩ : S41)).getD i z41 = ⟨el.f0, el.f1, m⟩ from by rw [List.getD_eq_getElem?_getD, List.getElem?_set_self (by omega)]; rfl] at hM6
      obtain ⟨v6, rfl, hv6⟩ := k41_openM hM6
      have hx6 : w5.cell? ⟨g, i * 3, none⟩ = some (.int .i64 el.f0) := hcc6 0 _ rfl
      have hf6 : w5.frozen? ⟨g, i * 3, none⟩ = false := hfr6 0
      have HP6 := Aside0.mk (Kd.S_seg (okg := fun _ => False) (d := k41) (e := 41) (Kd.H_mono hH6 (fun k hk => ⟨trivial, id⟩)) (Int.natCast_nonneg i) (by omega) (seg := [.int .i64 (Go.bits .xor .i64 el.f0 90)]) (j := 0) (show 0 + 1 ≤ 3 from by decide) (x' := (⟨Go.bits .xor .i64 el.f0 90, el.f1, m⟩ : S41)) (k41_mkM w5 w0.heap.size oki6 ⟨Go.bits .xor .i64 el.f0 90, el.f1, m⟩ hv6) (fun _ hk => .inl hk) (fun _ hk => hk.elim))
      clear hcl6 hcc6 hfr6 hM6 hoki6 hH6 hv6 HK5 HR5 n0_ HB HH HV HM hc3
      have hy6 : decide (i < (ys.set i (⟨el.f0, el.f1, m⟩ : S41)).length) = true := decide_eq_true (by rw [n1_]; exact of_decide_eq_true hc)
      go_wp2_with (first | ((with_reducible refine gate_store (t := 3) (p := 24) rfl ?_); refine store_event (t := 3) (p := 24) (v := ?vo_w7) (w1 := (w5.setCell ⟨g, i * 3, none⟩ (.int .i64 (Go.bits .xor .i64 el.f0 90)))) ?hg ?ho ?hn ?hr ?_; (case ho => rfl); (case hg => rfl); (case hn => rfl); (case hr => first | (go_simp; done) | (go_simp; rfl)); intro w7 hw; have HW7 := Aside0.mk hw; clear hw))
      have hS7 : Kd.S k41 41 w7 w0.heap.size (fun _ => True) (.slice (some ⟨g, 0, none⟩) ys.length cap) ((ys.set i (⟨el.f0, el.f1, m⟩ : S41)).set i ⟨Go.bits .xor .i64 el.f0 90, el.f1, m⟩) := by
        rw [HW7.out]; have h9 := HP6.out.1; rw [Int.toNat_natCast] at h9; exact h9
      go_roundg (xs.length - (i + 1))
      case measure => have := HK.out; omega
      case rel =>
        refine ⟨i + 1, _, by have hN := HN0.out; first | rfl | (rw [IntWalk.wrap64_in _ ⟨by omega, by omega⟩]; rfl), ⟨by omega⟩, ⟨Nat.le_refl _⟩, ⟨by rw [List.length_set, List.length_set]; exact HN.out⟩, ⟨hS7⟩, ⟨fun j h1 h2 => ?_⟩, ⟨?_⟩⟩
        · rw [rdU_set_ne _ _ (by omega), rdU_set_ne _ _ (by omega)]; exact HX.out j (by omega) h2
        · rw [HW7.out]; exact below_set HB5.out HG.out
    · have hiy : ¬ (i : Int) < (ys.length : Int) := by rw [HN.out]; omega
      have hc : decide (i < ys.length) = false := decide_eq_false (by rw [HN.out]; omega)
      obtain ⟨A9, c9, e9⟩ := Kd.S_slice HS.out
      subst e9
      go_wp2
      first | go_end0 | ((try simp only [Exit.inBlock, Exit.then]); refine bodyPost_ret (results_none rfl _ _ _) rfl ?_)
      exact ⟨by first | rfl | simp, ⟨ys, HS.out⟩, HB.out⟩

end Go.Proofs.Ytjbejbehbjhecaa.Q21p
namespace Go.Proofs.Ytjbejbehbjhecaa.Q21p
open Go.RowKit Go.Proofs.YtjbejbehbjhecaaW.PrintWords Go.Proofs.YtjbejbehbjhecaaW.PrintLast Go.Proofs.YtjbejbehbjhecaaW.PrintMore
attribute [local go_sem] max2_int min2_int max_two min_two max_three min_three max_four min_four   -- for this text's walks alone
set_option linter.unusedVariables false
set_option linter.unusedSimpArgs false

/-! ### graph_May: function 23 -/
mutual
def graph_May.l0 : Nat → Int → Int → Int → Int → Int → Int → Int → Int → Int → Int → Int → Int → Int → Int → Int → Int → Int → Option (Bool)
 | 0, _, _, _, _, _, _, _, _, _, _, _, _, _, _, _, _, _ => none
 | k + 1, x8, x500008000, x500008001, x500008002, x500008003, x500008004, x500008005, x500008006, x500008007, x500008008, x500008009, x500008010, x500008011, x500008012, x500008013, x500008014, x500008015 => if x8 < 4 then (if 0 ≤ x8 then (graph_May.l1 k x8 x8 0 x500008000 x500008001 x500008002 x500008003 x500008004 x500008005 x500008006 x500008007 x500008008 x500008009 x500008010 x500008011 x500008012 x500008013 x500008014 x500008015 (ix4 x500008000 x500008004 x500008008 x500008012 x8) (ix4 x500008001 x500008005 x500008009 x500008013 x8) (ix4 x500008002 x500008006 x500008010 x500008014 x8) (ix4 x500008003 x500008007 x500008011 x500008015 x8)) else (none)) else (some true)
def graph_May.l1 : Nat → Int → Int → Int → Int → Int → Int → Int → Int → Int → Int → Int → Int → Int → Int → Int → Int → Int → Int → Int → Int → Int → Int → Int → Option (Bool)
 | 0, _, _, _, _, _, _, _, _, _, _, _, _, _, _, _, _, _, _, _, _, _, _, _ => none
 | k + 1, x3, x8, x13, x500008000, x500008001, x500008002, x500008003, x500008004, x500008005, x500008006, x500008007, x500008008, x500008009, x500008010, x500008011, x500008012, x500008013, x500008014, x500008015, x500013000, x500013001, x500013002, x500013003 => if x13 < 4 then (if 0 ≤ x13 then (if (ix4 x500013000 x500013001 x500013002 x500013003 x13) < 0 then (some false) else (if (ix4 x500013000 x500013001 x500013002 x500013003 x13) > 65535 then (some false) else (if x3 = x13 then (if (ix4 x500013000 x500013001 x500013002 x500013003 x13) = 0 then (graph_May.l1 k x3 x8 (wrap64 (x13 + 1)) x500008000 x500008001 x500008002 x500008003 x500008004 x500008005 x500008006 x500008007 x500008008 x500008009 x500008010 x500008011 x500008012 x500008013 x500008014 x500008015 x500013000 x500013001 x500013002 x500013003) else (some false)) else (graph_May.l1 k x3 x8 (wrap64 (x13 + 1)) x500008000 x500008001 x500008002 x500008003 x500008004 x500008005 x500008006 x500008007 x500008008 x500008009 x500008010 x500008011 x500008012 x500008013 x500008014 x500008015 x500013000 x500013001 x500013002 x500013003)))) else (none)) else (graph_May.l0 k (wrap64 (x8 + 1)) x500008000 x500008001 x500008002 x500008003 x500008004 x500008005 x500008006 x500008007 x500008008 x500008009 x500008010 x500008011 x500008012 x500008013 x500008014 x500008015)
end
def graph_May.f (k : Nat) (a0_0 : Int) (a0_1 : Int) (a0_2 : Int) (a0_3 : Int) (a0_4 : Int) (a0_5 : Int) (a0_6 : Int) (a0_7 : Int) (a0_8 : Int) (a0_9 : Int) (a0_10 : Int) (a0_11 : Int) (a0_12 : Int) (a0_13 : Int) (a0_14 : Int) (a0_15 : Int) : Option (Bool) := graph_May.l0 k 0 a0_0 a0_1 a0_2 a0_3 a0_4 a0_5 a0_6 a0_7 a0_8 a0_9 a0_10 a0_11 a0_12 a0_13 a0_14 a0_15
theorem graph_May.mono_l : ∀ k, (∀ y0 y1 y2 y3 y4 y5 y6 y7 y8 y9 y10 y11 y12 y13 y14 y15 y16, LeO (graph_May.l0 k y0 y1 y2 y3 y4 y5 y6 y7 y8 y9 y10 y11 y12 y13 y14 y15 y16) (graph_May.l0 (k + 1) y0 y1 y2 y3 y4 y5 y6 y7 y8 y9 y10 y11 y12 y13 y14 y15 y16)) ∧ (∀ y0 y1 y2 y3 y4 y5 y6 y7 y8 y9 y10 y11 y12 y13 y14 y15 y16 y17 y18 y19 y20 y21 y22, LeO (graph_May.l1 k y0 y1 y2 y3 y4 y5 y6 y7 y8 y9 y10 y11 y12 y13 y14 y15 y16 y17 y18 y19 y20 y21 y22) (graph_May.l1 (k + 1) y0 y1 y2 y3 y4 y5 y6 y7 y8 y9 y10 y11 y12 y13 y14 y15 y16 y17 y18 y19 y20 y21 y22))
 | 0 => ⟨fun _ _ _ _ _ _ _ _ _ _ _ _ _ _ _ _ _ r h => by simp [graph_May.l0] at h, fun _ _ _ _ _ _ _ _ _ _ _ _ _ _ _ _ _ _ _ _ _ _ _ r h => by simp [graph_May.l1] at h⟩
 | k + 1 => by
  obtain ⟨ih0, ih1⟩ := graph_May.mono_l k
  refine ⟨?_, ?_⟩
  ·intro y0 y1 y2 y3 y4 y5 y6 y7 y8 y9 y10 y11 y12 y13 y14 y15 y16
   unfold graph_May.l0
   repeat' first
   | (with_reducible exact ih0 _ _ _ _ _ _ _ _ _ _ _ _ _ _ _ _ _)
   | (with_reducible exact ih1 _ _ _ _ _ _ _ _ _ _ _ _ _ _ _ _ _ _ _ _ _ _ _)
   | (with_reducible exact LeO.refl _)
   | (with_reducible exact LeO.none _)
   | (with_reducible refine LeO.ite ?_ ?_)
   | (with_reducible refine LeO.bind ?_ (fun _ => ?_))
   | exact ih0 _ _ _ _ _ _ _ _ _ _ _ _ _ _ _ _ _
   | exact ih1 _ _ _ _ _ _ _ _ _ _ _ _ _ _ _ _ _ _ _ _ _ _ _
   | exact LeO.none _
   | refine LeO.ite ?_ ?_
   | refine LeO.bind ?_ (fun _ => ?_)
  ·intro y0 y1 y2 y3 y4 y5 y6 y7 y8 y9 y10 y11 y12 y13 y14 y15 y16 y17 y18 y19 y20 y21 y22
   unfold graph_May.l1
   repeat' first
   | (with_reducible exact ih0 _ _ _ _ _ _ _ _ _ _ _ _ _ _ _ _ _)
   | (with_reducible exact ih1 _ _ _ _ _ _ _ _ _ _ _ _ _ _ _ _ _ _ _ _ _ _ _)
   | (with_reducible exact LeO.refl _)
   | (with_reducible exact LeO.none _)
   | (with_reducible refine LeO.ite ?_ ?_)
   | (with_reducible refine LeO.bind ?_ (fun _ => ?_))
   | exact ih0 _ _ _ _ _ _ _ _ _ _ _ _ _ _ _ _ _
   | exact ih1 _ _ _ _ _ _ _ _ _ _ _ _ _ _ _ _ _ _ _ _ _ _ _
   | exact LeO.none _
   | refine LeO.ite ?_ ?_
   | refine LeO.bind ?_ (fun _ => ?_)
theorem graph_May.mono : ∀ a0 a1 a2 a3 a4 a5 a6 a7 a8 a9 a10 a11 a12 a13 a14 a15 k, LeO (graph_May.f k a0 a1 a2 a3 a4 a5 a6 a7 a8 a9 a10 a11 a12 a13 a14 a15) (graph_May.f (k + 1) a0 a1 a2 a3 a4 a5 a6 a7 a8 a9 a10 a11 a12 a13 a14 a15) := by
 intro a0 a1 a2 a3 a4 a5 a6 a7 a8 a9 a10 a11 a12 a13 a14 a15 k
 obtain ⟨ih0, ih1⟩ := graph_May.mono_l k
 unfold graph_May.f
 repeat' first
   | (with_reducible exact ih0 _ _ _ _ _ _ _ _ _ _ _ _ _ _ _ _ _)
   | (with_reducible exact ih1 _ _ _ _ _ _ _ _ _ _ _ _ _ _ _ _ _ _ _ _ _ _ _)
   | (with_reducible exact LeO.refl _)
   | (with_reducible exact LeO.none _)
   | (with_reducible refine LeO.ite ?_ ?_)
   | (with_reducible refine LeO.bind ?_ (fun _ => ?_))
   | exact ih0 _ _ _ _ _ _ _ _ _ _ _ _ _ _ _ _ _
   | exact ih1 _ _ _ _ _ _ _ _ _ _ _ _ _ _ _ _ _ _ _ _ _ _ _
   | exact LeO.none _
   | refine LeO.ite ?_ ?_
   | refine LeO.bind ?_ (fun _ => ?_)
set_option maxHeartbeats 8000000 in
set_option maxRecDepth 100000 in
theorem graph_May.calls (k : Nat) (a0_0 : Int) (a0_1 : Int) (a0_2 : Int) (a0_3 : Int) (a0_4 : Int) (a0_5 : Int) (a0_6 : Int) (a0_7 : Int) (a0_8 : Int) (a0_9 : Int) (a0_10 : Int) (a0_11 : Int) (a0_12 : Int) (a0_13 : Int) (a0_14 : Int) (a0_15 : Int) (r : Bool) (w : World) (h : graph_May.f k a0_0 a0_1 a0_2 a0_3 a0_4 a0_5 a0_6 a0_7 a0_8 a0_9 a0_10 a0_11 a0_12 a0_13 a0_14 a0_15 = some r) :
  Calls Try.prog 23 #[.agg #[.int .i64 a0_0, .int .i64 a0_1, .int .i64 a0_2, .int .i64 a0_3, .int .i64 a0_4, .int .i64 a0_5, .int .i64 a0_6, .int .i64 a0_7, .int .i64 a0_8, .int .i64 a0_9, .int .i64 a0_10, .int .i64 a0_11, .int .i64 a0_12, .int .i64 a0_13, .int .i64 a0_14, .int .i64 a0_15]] w fun e w' => e = .returned (.bool r) ∧ Below w.heap.size w w' := by
 have hu23 := Try.underlying23
 have hu22 := Try.underlying22
 have HB := Aside0.mk (Below.refl w.heap.size w)
 have H : (graph_May.l0 k 0 a0_0 a0_1 a0_2 a0_3 a0_4 a0_5 a0_6 a0_7 a0_8 a0_9 a0_10 a0_11 a0_12 a0_13 a0_14 a0_15) = some r := h
 clear h
 have H' := Aside0.mk H
 clear H
 go_enter Try.func23, Try.ntmps23
 go_wp2_with (first | ((with_reducible refine gate_dst (N := 1) rfl ?_); refine box_event ?hg (N := 1) ?hd (cs := #[.int .i64 a0_0, .int .i64 a0_1, .int .i64 a0_2, .int .i64 a0_3, .int .i64 a0_4, .int .i64 a0_5, .int .i64 a0_6, .int .i64 a0_7, .int .i64 a0_8, .int .i64 a0_9, .int .i64 a0_10, .int .i64 a0_11, .int .i64 a0_12, .int .i64 a0_13, .int .i64 a0_14, .int .i64 a0_15]) (t := 23) ?hr ?_; (case hd => rfl); (case hg => rfl); (case hr => first | (go_simp; done) | (go_simp; rfl)); intro gb101 hg w2 hbox hb; have n0_ := Aside0.mk (below_step (by repeat (first | (with_reducible first | exact HB.out | apply below_alloc | apply pw_below_drewN | apply below_drew1) | exact HB.out)) hb); have n1_ := Aside0.mk (hbox); have n2_ := Aside0.mk ((by rw [hg]; exact (below_size (by repeat (first | (with_reducible first | exact HB.out | apply below_alloc | apply pw_below_drewN | apply below_drew1) | exact HB.out))) : w.heap.size ≤ gb101)); have n3_ := Aside0.mk ((by rw [hg]; exact (below_size (by repeat (first | (with_reducible first | exact HB.out | apply below_alloc | apply pw_below_drewN | apply below_drew1) | exact HB.out))) : w.heap.size ≤ gb101)); clear HB; have HB := n0_; have BK101 := n1_; have GW101 := n2_; have GE101 := n3_; clear n0_ n1_ n2_ n3_; clear hb hbox hg; obtain ⟨hcz3_0, hcz3_1, hcz3_2, hcz3_3, hcz3_4, hcz3_5, hcz3_6, hcz3_7, hcz3_8, hcz3_9, hcz3_10, hcz3_11, hcz3_12, hcz3_13, hcz3_14, hcz3_15⟩ := cells16 BK101.out; have hfz3_0 := fun (j_ : Nat) => blk_frozen BK101.out j_))
 go_loopg [8] k (fun kq v8 w' => ∃ (x8_1 : Int), v8 = .int .i64 x8_1 ∧ Aside0 (graph_May.l0 kq x8_1 a0_0 a0_1 a0_2 a0_3 a0_4 a0_5 a0_6 a0_7 a0_8 a0_9 a0_10 a0_11 a0_12 a0_13 a0_14 a0_15 = some r) ∧ Aside0 (kq ≤ k) ∧ Aside0 (w'.heap[gb101]? = some (.cells #[.int .i64 a0_0, .int .i64 a0_1, .int .i64 a0_2, .int .i64 a0_3, .int .i64 a0_4, .int .i64 a0_5, .int .i64 a0_6, .int .i64 a0_7, .int .i64 a0_8, .int .i64 a0_9, .int .i64 a0_10, .int .i64 a0_11, .int .i64 a0_12, .int .i64 a0_13, .int .i64 a0_14, .int .i64 a0_15] 23 (0, 0))) ∧ Aside0 (Below w.heap.size w w'))
 case atStart => exact ⟨(0), (by first | rfl | (simp; done) | (simp [*]; done)), H', ⟨Nat.le_refl _⟩, ⟨by (with_reducible repeat (first | refine blk_drewN ?_ _ | refine blk_drew ?_ | refine blk_alloc ?_ _)); exact BK101.out⟩, ⟨by repeat (first | (with_reducible first | exact HB.out | apply below_alloc | apply pw_below_drewN | apply below_drew1 | refine below_set ?_ GE101.out) | exact HB.out)⟩⟩
 case round =>
  clear H'
  try clear c2
  try clear p2
  try clear hcz3_0
  try clear hcz3_1
  try clear hcz3_10
  try clear hcz3_11
  try clear hcz3_12
  try clear hcz3_13
  try clear hcz3_14
  try clear hcz3_15
  try clear hcz3_2
  try clear hcz3_3
  try clear hcz3_4
  try clear hcz3_5
  try clear hcz3_6
  try clear hcz3_7
  try clear hcz3_8
  try clear hcz3_9
  try clear hfz3_0
  obtain ⟨x8_1, rfl, HA, HK1, BK101, HB⟩ := hrel
  cases gk with
  | zero => exact absurd HA.out (by simp [graph_May.l0])
  | succ k1 =>
   have H := HA.out
   clear HA
   simp only [graph_May.l0] at H
   by_cases c4 : x8_1 < 4
   ·rw [if_pos c4] at H
    have c4b0 : decide (x8_1 < 4) = true := decide_eq_true c4
    clear c4
    by_cases c5 : 0 ≤ x8_1
    ·rw [if_pos c5] at H
     have c5b0 : decide (0 ≤ x8_1) = true := decide_eq_true c5
     clear c5
     have H' := Aside0.mk H
     clear H
     have p6 : (0 ≤ (x8_1 : Int)) = True := eq_true (of_decide_eq_true (by first | (with_reducible assumption) | assumption))
     have q6 : ((x8_1 : Int) < 4) = True := eq_true (of_decide_eq_true (by first | (with_reducible assumption) | assumption))
     have hv7 : ∀ w_ : World, (Instr.index 23 (.agg (#[.int .i64 a0_0, .int .i64 a0_1, .int .i64 a0_2, .int .i64 a0_3, .int .i64 a0_4, .int .i64 a0_5, .int .i64 a0_6, .int .i64 a0_7, .int .i64 a0_8, .int .i64 a0_9, .int .i64 a0_10, .int .i64 a0_11, .int .i64 a0_12, .int .i64 a0_13, .int .i64 a0_14, .int .i64 a0_15] : Array Value)) (.int .i64 x8_1)).run Try.prog w_ = .ok (.agg #[.int .i64 (ix4 a0_0 a0_4 a0_8 a0_12 x8_1), .int .i64 (ix4 a0_1 a0_5 a0_9 a0_13 x8_1), .int .i64 (ix4 a0_2 a0_6 a0_10 a0_14 x8_1), .int .i64 (ix4 a0_3 a0_7 a0_11 a0_15 x8_1)]) w_ := fun w_ => index_row Try.underlying23 (by kernel_rfl) Try.underlying22 (by kernel_rfl) (of_decide_eq_true (by first | (with_reducible assumption) | assumption)) (of_decide_eq_true (by first | (with_reducible assumption) | assumption)) (row_44 (Value.int .i64) _ _ _ _ _ _ _ _ _ _ _ _ _ _ _ _ x8_1 (of_decide_eq_true (by first | (with_reducible assumption) | assumption)) (of_decide_eq_true (by first | (with_reducible assumption) | assumption))) w_
     go_wp2_with (first | ((with_reducible refine gate_dst (N := 4) rfl ?_); refine box_event ?hg (N := 4) ?hd (cs := #[.int .i64 0, .int .i64 0, .int .i64 0, .int .i64 0]) (t := 22) ?hr ?_; (case hd => rfl); (case hg => rfl); (case hr => first | (go_simp; done) | (go_simp; rfl)); intro gb102 hg w8 hbox hb; have n0_ := Aside0.mk (blk_below (g := gb101) (o := .cells #[.int .i64 a0_0, .int .i64 a0_1, .int .i64 a0_2, .int .i64 a0_3, .int .i64 a0_4, .int .i64 a0_5, .int .i64 a0_6, .int .i64 a0_7, .int .i64 a0_8, .int .i64 a0_9, .int .i64 a0_10, .int .i64 a0_11, .int .i64 a0_12, .int .i64 a0_13, .int .i64 a0_14, .int .i64 a0_15] 23 (0, 0)) (by (with_reducible repeat (first | refine blk_drewN ?_ _ | refine blk_drew ?_ | refine blk_alloc ?_ _)); exact BK101.out) hb); have n1_ := Aside0.mk (below_step (by repeat (first | (with_reducible first | exact HB.out | apply below_alloc | apply pw_below_drewN | apply below_drew1 | refine below_set ?_ GE101.out) | exact HB.out)) hb); have n2_ := Aside0.mk (hbox); have n3_ := Aside0.mk ((by rw [hg]; exact (below_size (by repeat (first | (with_reducible first | exact HB.out | apply below_alloc | apply pw_below_drewN | apply below_drew1 | refine below_set ?_ GE101.out) | exact HB.out))) : w.heap.size ≤ gb102)); have n4_ := Aside0.mk ((by rw [hg]; exact (below_size (by repeat (first | (with_reducible first | exact HB.out | apply below_alloc | apply pw_below_drewN | apply below_drew1 | refine below_set ?_ GE101.out) | exact HB.out))) : w.heap.size ≤ gb102)); have n5_ := Aside0.mk ((by rw [hg]; exact Nat.ne_of_lt (blk_lt (g := gb101) (o := .cells #[.int .i64 a0_0, .int .i64 a0_1, .int .i64 a0_2, .int .i64 a0_3, .int .i64 a0_4, .int .i64 a0_5, .int .i64 a0_6, .int .i64 a0_7, .int .i64 a0_8, .int .i64 a0_9, .int .i64 a0_10, .int .i64 a0_11, .int .i64 a0_12, .int .i64 a0_13, .int .i64 a0_14, .int .i64 a0_15] 23 (0, 0)) (by (with_reducible repeat (first | refine blk_drewN ?_ _ | refine blk_drew ?_ | refine blk_alloc ?_ _)); exact BK101.out)) : gb101 ≠ gb102)); have n6_ := Aside0.mk ((by rw [hg]; exact Nat.ne_of_gt (blk_lt (g := gb101) (o := .cells #[.int .i64 a0_0, .int .i64 a0_1, .int .i64 a0_2, .int .i64 a0_3, .int .i64 a0_4, .int .i64 a0_5, .int .i64 a0_6, .int .i64 a0_7, .int .i64 a0_8, .int .i64 a0_9, .int .i64 a0_10, .int .i64 a0_11, .int .i64 a0_12, .int .i64 a0_13, .int .i64 a0_14, .int .i64 a0_15] 23 (0, 0)) (by (with_reducible repeat (first | refine blk_drewN ?_ _ | refine blk_drew ?_ | refine blk_alloc ?_ _)); exact BK101.out)) : gb102 ≠ gb101)); clear BK101; clear HB; have BK101 := n0_; have HB := n1_; have BK102 := n2_; have GW102 := n3_; have GE102 := n4_; have NB101_102 := n5_; have NB102_101 := n6_; clear n0_ n1_ n2_ n3_ n4_ n5_ n6_; clear hb hbox hg; have hnb9 := NB102_101.out; have hnc9 := NB101_102.out; have hcz10_0 : w8.cell? ⟨gb102, 0, none⟩ = some (.int .i64 0) := (blk_cell BK102.out 0).trans rfl; have hcz10_1 : w8.cell? ⟨gb102, 1, none⟩ = some (.int .i64 0) := (blk_cell BK102.out 1).trans rfl; have hcz10_2 : w8.cell? ⟨gb102, 2, none⟩ = some (.int .i64 0) := (blk_cell BK102.out 2).trans rfl; have hcz10_3 : w8.cell? ⟨gb102, 3, none⟩ = some (.int .i64 0) := (blk_cell BK102.out 3).trans rfl; have hfz10_0 := blk_frozen BK102.out 0; have hfz10_1 := blk_frozen BK102.out 1; have hfz10_2 := blk_frozen BK102.out 2; have hfz10_3 := blk_frozen BK102.out 3) | ((with_reducible refine gate_store (t := 22) (p := 4) rfl ?_); refine store_event (t := 22) (p := 4) (v := ?vo_w11) (w1 := ((((w8.setCell ⟨gb102, 0, none⟩ (.int .i64 (ix4 a0_0 a0_4 a0_8 a0_12 x8_1))).setCell ⟨gb102, 1, none⟩ (.int .i64 (ix4 a0_1 a0_5 a0_9 a0_13 x8_1))).setCell ⟨gb102, 2, none⟩ (.int .i64 (ix4 a0_2 a0_6 a0_10 a0_14 x8_1))).setCell ⟨gb102, 3, none⟩ (.int .i64 (ix4 a0_3 a0_7 a0_11 a0_15 x8_1)))) ?hg ?ho ?hn ?hr ?_; (case ho => rfl); (case hg => rfl); (case hn => rfl); (case hr => first | (go_simp; done) | (go_simp; rfl)); intro w11 hw; have n0_ : Aside0 (w11.heap[gb101]? = some (.cells #[.int .i64 a0_0, .int .i64 a0_1, .int .i64 a0_2, .int .i64 a0_3, .int .i64 a0_4, .int .i64 a0_5, .int .i64 a0_6, .int .i64 a0_7, .int .i64 a0_8, .int .i64 a0_9, .int .i64 a0_10, .int .i64 a0_11, .int .i64 a0_12, .int .i64 a0_13, .int .i64 a0_14, .int .i64 a0_15] 23 (0, 0))) := ⟨(by rw [hw]; exact (by (with_reducible repeat (first | refine blk_drewN ?_ _ | refine blk_drew ?_ | refine blk_alloc ?_ _)); refine blk_far ?_ NB101_102.out _; (with_reducible repeat (first | refine blk_drewN ?_ _ | refine blk_drew ?_ | refine blk_alloc ?_ _)); refine blk_far ?_ NB101_102.out _; (with_reducible repeat (first | refine blk_drewN ?_ _ | refine blk_drew ?_ | refine blk_alloc ?_ _)); refine blk_far ?_ NB101_102.out _; (with_reducible repeat (first | refine blk_drewN ?_ _ | refine blk_drew ?_ | refine blk_alloc ?_ _)); refine blk_far ?_ NB101_102.out _; (with_reducible repeat (first | refine blk_drewN ?_ _ | refine blk_drew ?_ | refine blk_alloc ?_ _)); exact BK101.out))⟩; have n1_ : Aside0 (w11.heap[gb102]? = some (.cells #[.int .i64 (ix4 a0_0 a0_4 a0_8 a0_12 x8_1), .int .i64 (ix4 a0_1 a0_5 a0_9 a0_13 x8_1), .int .i64 (ix4 a0_2 a0_6 a0_10 a0_14 x8_1), .int .i64 (ix4 a0_3 a0_7 a0_11 a0_15 x8_1)] 22 (0, 0))) := ⟨(by rw [hw]; exact (by (with_reducible repeat (first | refine blk_drewN ?_ _ | refine blk_drew ?_ | refine blk_alloc ?_ _)); refine blk_put (cs := #[.int .i64 (ix4 a0_0 a0_4 a0_8 a0_12 x8_1), .int .i64 (ix4 a0_1 a0_5 a0_9 a0_13 x8_1), .int .i64 (ix4 a0_2 a0_6 a0_10 a0_14 x8_1), .int .i64 0]) ?_ 3 _ rfl; (with_reducible repeat (first | refine blk_drewN ?_ _ | refine blk_drew ?_ | refine blk_alloc ?_ _)); refine blk_put (cs := #[.int .i64 (ix4 a0_0 a0_4 a0_8 a0_12 x8_1), .int .i64 (ix4 a0_1 a0_5 a0_9 a0_13 x8_1), .int .i64 0, .int .i64 0]) ?_ 2 _ rfl; (with_reducible repeat (first | refine blk_drewN ?_ _ | refine blk_drew ?_ | refine blk_alloc ?_ _)); refine blk_put (cs := #[.int .i64 (ix4 a0_0 a0_4 a0_8 a0_12 x8_1), .int .i64 0, .int .i64 0, .int .i64 0]) ?_ 1 _ rfl; (with_reducible repeat (first | refine blk_drewN ?_ _ | refine blk_drew ?_ | refine blk_alloc ?_ _)); refine blk_put (cs := #[.int .i64 0, .int .i64 0, .int .i64 0, .int .i64 0]) ?_ 0 _ rfl; (with_reducible repeat (first | refine blk_drewN ?_ _ | refine blk_drew ?_ | refine blk_alloc ?_ _)); exact BK102.out))⟩; have n2_ : Aside0 (Below w.heap.size w w11) := ⟨(by rw [hw]; exact (by repeat (first | (with_reducible first | exact HB.out | apply below_alloc | apply pw_below_drewN | apply below_drew1 | refine below_set ?_ GE101.out | refine below_set ?_ GE102.out) | exact HB.out)))⟩; clear hw; clear BK101; clear BK102; clear HB; have BK101 := n0_; have BK102 := n1_; have HB := n2_; clear n0_ n1_ n2_; have hcz12_0 : w11.cell? ⟨gb102, 0, none⟩ = some (.int .i64 (ix4 a0_0 a0_4 a0_8 a0_12 x8_1)) := (blk_cell BK102.out 0).trans rfl; have hcz12_1 : w11.cell? ⟨gb102, 1, none⟩ = some (.int .i64 (ix4 a0_1 a0_5 a0_9 a0_13 x8_1)) := (blk_cell BK102.out 1).trans rfl; have hcz12_2 : w11.cell? ⟨gb102, 2, none⟩ = some (.int .i64 (ix4 a0_2 a0_6 a0_10 a0_14 x8_1)) := (blk_cell BK102.out 2).trans rfl; have hcz12_3 : w11.cell? ⟨gb102, 3, none⟩ = some (.int .i64 (ix4 a0_3 a0_7 a0_11 a0_15 x8_1)) := (blk_cell BK102.out 3).trans rfl; have hfz12_0 := blk_frozen BK102.out 0; have hfz12_1 := blk_frozen BK102.out 1; have hfz12_2 := blk_frozen BK102.out 2; have hfz12_3 := blk_frozen BK102.out 3))
     go_loopg [13] k1 (fun kq v13 w' => ∃ (x13_2 : Int), v13 = .int .i64 x13_2 ∧ Aside0 (graph_May.l1 kq x8_1 x8_1 x13_2 a0_0 a0_1 a0_2 a0_3 a0_4 a0_5 a0_6 a0_7 a0_8 a0_9 a0_10 a0_11 a0_12 a0_13 a0_14 a0_15 (ix4 a0_0 a0_4 a0_8 a0_12 x8_1) (ix4 a0_1 a0_5 a0_9 a0_13 x8_1) (ix4 a0_2 a0_6 a0_10 a0_14 x8_1) (ix4 a0_3 a0_7 a0_11 a0_15 x8_1) = some r) ∧ Aside0 (kq ≤ k1) ∧ Aside0 (w'.heap[gb101]? = some (.cells #[.int .i64 a0_0, .int .i64 a0_1, .int .i64 a0_2, .int .i64 a0_3, .int .i64 a0_4, .int .i64 a0_5, .int .i64 a0_6, .int .i64 a0_7, .int .i64 a0_8, .int .i64 a0_9, .int .i64 a0_10, .int .i64 a0_11, .int .i64 a0_12, .int .i64 a0_13, .int .i64 a0_14, .int .i64 a0_15] 23 (0, 0))) ∧ Aside0 (w'.heap[gb102]? = some (.cells #[.int .i64 (ix4 a0_0 a0_4 a0_8 a0_12 x8_1), .int .i64 (ix4 a0_1 a0_5 a0_9 a0_13 x8_1), .int .i64 (ix4 a0_2 a0_6 a0_10 a0_14 x8_1), .int .i64 (ix4 a0_3 a0_7 a0_11 a0_15 x8_1)] 22 (0, 0))) ∧ Aside0 (Below w.heap.size w w'))
     case atStart => exact ⟨(0), (by first | rfl | (simp; done) | (simp [*]; done)), H', ⟨Nat.le_refl _⟩, ⟨by (with_reducible repeat (first | refine blk_drewN ?_ _ | refine blk_drew ?_ | refine blk_alloc ?_ _)); exact BK101.out⟩, ⟨by (with_reducible repeat (first | refine blk_drewN ?_ _ | refine blk_drew ?_ | refine blk_alloc ?_ _)); exact BK102.out⟩, ⟨by repeat (first | (with_reducible first | exact HB.out | apply below_alloc | apply pw_below_drewN | apply below_drew1 | refine below_set ?_ GE101.out | refine below_set ?_ GE102.out) | exact HB.out)⟩⟩
     case round =>
      clear H'
      try clear c2
      try clear p2
      try clear c4
      try clear c4b0
      try clear c5
      try clear c5b0
      try clear p6
      try clear q6
      try clear c9
      try clear hcz10_0
      try clear hcz10_1
      try clear hcz10_2
      try clear hcz10_3
      try clear hcz12_0
      try clear hcz12_1
      try clear hcz12_2
      try clear hcz12_3
      try clear hcz3_0
      try clear hcz3_1
      try clear hcz3_10
      try clear hcz3_11
      try clear hcz3_12
      try clear hcz3_13
      try clear hcz3_14
      try clear hcz3_15
      try clear hcz3_2
      try clear hcz3_3
      try clear hcz3_4
      try clear hcz3_5
      try clear hcz3_6
      try clear hcz3_7
      try clear hcz3_8
      try clear hcz3_9
      try clear hfz10_0
      try clear hfz10_1
      try clear hfz10_2
      try clear hfz10_3
      try clear hfz12_0
      try clear hfz12_1
      try clear hfz12_2
      try clear hfz12_3
      try clear hfz3_0
      try clear p2
      try clear p6
      try clear q6
      obtain ⟨x13_2, rfl, HA, HK2, BK101, BK102, HB⟩ := hrel
      cases gk with
      | zero => exact absurd HA.out (by simp [graph_May.l1])
      | succ k2 =>
       have H := HA.out
       clear HA
       simp only [graph_May.l1] at H
       by_cases c13 : x13_2 < 4
       ·rw [if_pos c13] at H
        have c13b0 : decide (x13_2 < 4) = true := decide_eq_true c13
        clear c13
        by_cases c14 : 0 ≤ x13_2
        ·rw [if_pos c14] at H
         have c14b0 : decide (0 ≤ x13_2) = true := decide_eq_true c14
         clear c14
         by_cases c15 : (ix4 (ix4 a0_0 a0_4 a0_8 a0_12 x8_1) (ix4 a0_1 a0_5 a0_9 a0_13 x8_1) (ix4 a0_2 a0_6 a0_10 a0_14 x8_1) (ix4 a0_3 a0_7 a0_11 a0_15 x8_1) x13_2) < 0
         ·rw [if_pos c15] at H
          have c15b0 : decide ((ix4 (ix4 a0_0 a0_4 a0_8 a0_12 x8_1) (ix4 a0_1 a0_5 a0_9 a0_13 x8_1) (ix4 a0_2 a0_6 a0_10 a0_14 x8_1) (ix4 a0_3 a0_7 a0_11 a0_15 x8_1) x13_2) < 0) = true := decide_eq_true c15
          clear c15
          obtain rfl := Option.some.inj H
          have p16 : (0 ≤ (x13_2 : Int)) = True := eq_true (of_decide_eq_true (by first | (with_reducible assumption) | assumption))
          have q16 : ((x13_2 : Int) < 4) = True := eq_true (of_decide_eq_true (by first | (with_reducible assumption) | assumption))
          have hv17 : ∀ w_ : World, (Instr.index 22 (.agg (#[.int .i64 (ix4 a0_0 a0_4 a0_8 a0_12 x8_1), .int .i64 (ix4 a0_1 a0_5 a0_9 a0_13 x8_1), .int .i64 (ix4 a0_2 a0_6 a0_10 a0_14 x8_1), .int .i64 (ix4 a0_3 a0_7 a0_11 a0_15 x8_1)] : Array Value)) (.int .i64 x13_2)).run Try.prog w_ = .ok (.int .i64 (ix4 (ix4 a0_0 a0_4 a0_8 a0_12 x8_1) (ix4 a0_1 a0_5 a0_9 a0_13 x8_1) (ix4 a0_2 a0_6 a0_10 a0_14 x8_1) (ix4 a0_3 a0_7 a0_11 a0_15 x8_1) x13_2)) w_ := fun w_ => index_cell Try.underlying22 (by kernel_rfl) (by kernel_rfl) (by kernel_rfl) (of_decide_eq_true (by first | (with_reducible assumption) | assumption)) (of_decide_eq_true (by first | (with_reducible assumption) | assumption)) (ix_4 (Value.int .i64) _ _ _ _ x13_2 (of_decide_eq_true (by first | (with_reducible assumption) | assumption)) (of_decide_eq_true (by first | (with_reducible assumption) | assumption))) w_
          go_wp2
          go_ret
          exact ⟨by first | rfl | (simp [errW_none, errW_some] <;> rfl) | (simp [*, errW_none, errW_some] <;> rfl), by repeat (first | (with_reducible first | exact HB.out | apply below_alloc | apply pw_below_drewN | apply below_drew1 | refine below_set ?_ GE101.out | refine below_set ?_ GE102.out) | exact HB.out)⟩
         ·rw [if_neg c15] at H
          have c15b0 : decide ((ix4 (ix4 a0_0 a0_4 a0_8 a0_12 x8_1) (ix4 a0_1 a0_5 a0_9 a0_13 x8_1) (ix4 a0_2 a0_6 a0_10 a0_14 x8_1) (ix4 a0_3 a0_7 a0_11 a0_15 x8_1) x13_2) < 0) = false := decide_eq_false c15
          clear c15
          by_cases c18 : (ix4 (ix4 a0_0 a0_4 a0_8 a0_12 x8_1) (ix4 a0_1 a0_5 a0_9 a0_13 x8_1) (ix4 a0_2 a0_6 a0_10 a0_14 x8_1) (ix4 a0_3 a0_7 a0_11 a0_15 x8_1) x13_2) > 65535
          ·rw [if_pos c18] at H
           have c18b0 : decide (65535 < (ix4 (ix4 a0_0 a0_4 a0_8 a0_12 x8_1) (ix4 a0_1 a0_5 a0_9 a0_13 x8_1) (ix4 a0_2 a0_6 a0_10 a0_14 x8_1) (ix4 a0_3 a0_7 a0_11 a0_15 x8_1) x13_2)) = true := decide_eq_true c18
           clear c18
           obtain rfl := Option.some.inj H
           have p19 : (0 ≤ (x13_2 : Int)) = True := eq_true (of_decide_eq_true (by first | (with_reducible assumption) | assumption))
           have q19 : ((x13_2 : Int) < 4) = True := eq_true (of_decide_eq_true (by first | (with_reducible assumption) | assumption))
           have hv20 : ∀ w_ : World, (Instr.index 22 (.agg (#[.int .i64 (ix4 a0_0 a0_4 a0_8 a0_12 x8_1), .int .i64 (ix4 a0_1 a0_5 a0_9 a0_13 x8_1), .int .i64 (ix4 a0_2 a0_6 a0_10 a0_14 x8_1), .int .i64 (ix4 a0_3 a0_7 a0_11 a0_15 x8_1)] : Array Value)) (.int .i64 x13_2)).run Try.prog w_ = .ok (.int .i64 (ix4 (ix4 a0_0 a0_4 a0_8 a0_12 x8_1) (ix4 a0_1 a0_5 a0_9 a0_13 x8_1) (ix4 a0_2 a0_6 a0_10 a0_14 x8_1) (ix4 a0_3 a0_7 a0_11 a0_15 x8_1) x13_2)) w_ := fun w_ => index_cell Try.underlying22 (by kernel_rfl) (by kernel_rfl) (by kernel_rfl) (of_decide_eq_true (by first | (with_reducible assumption) | assumption)) (of_decide_eq_true (by first | (with_reducible assumption) | assumption)) (ix_4 (Value.int .i64) _ _ _ _ x13_2 (of_decide_eq_true (by first | (with_reducible assumption) | assumption)) (of_decide_eq_true (by first | (with_reducible assumption) | assumption))) w_
           go_wp2
           go_ret
           exact ⟨by first | rfl | (simp [errW_none, errW_some] <;> rfl) | (simp [*, errW_none, errW_some] <;> rfl), by repeat (first | (with_reducible first | exact HB.out | apply below_alloc | apply pw_below_drewN | apply below_drew1 | refine below_set ?_ GE101.out | refine below_set ?_ GE102.out) | exact HB.out)⟩
          ·rw [if_neg c18] at H
           have c18b0 : decide (65535 < (ix4 (ix4 a0_0 a0_4 a0_8 a0_12 x8_1) (ix4 a0_1 a0_5 a0_9 a0_13 x8_1) (ix4 a0_2 a0_6 a0_10 a0_14 x8_1) (ix4 a0_3 a0_7 a0_11 a0_15 x8_1) x13_2)) = false := decide_eq_false c18
           clear c18
           by_cases c21 : x8_1 = x13_2
           ·rw [if_pos c21] at H
            have c21b0 : (x8_1 == x13_2) = true := beq_iff_eq.mpr c21
            have c21b1 : (x8_1 != x13_2) = false := bne_eq_false_iff_eq.mpr c21
            clear c21
            by_cases c22 : (ix4 (ix4 a0_0 a0_4 a0_8 a0_12 x8_1) (ix4 a0_1 a0_5 a0_9 a0_13 x8_1) (ix4 a0_2 a0_6 a0_10 a0_14 x8_1) (ix4 a0_3 a0_7 a0_11 a0_15 x8_1) x13_2) = 0
            ·rw [if_pos c22] at H
             have c22b0 : ((ix4 (ix4 a0_0 a0_4 a0_8 a0_12 x8_1) (ix4 a0_1 a0_5 a0_9 a0_13 x8_1) (ix4 a0_2 a0_6 a0_10 a0_14 x8_1) (ix4 a0_3 a0_7 a0_11 a0_15 x8_1) x13_2) == 0) = true := beq_iff_eq.mpr c22
             have c22b1 : ((ix4 (ix4 a0_0 a0_4 a0_8 a0_12 x8_1) (ix4 a0_1 a0_5 a0_9 a0_13 x8_1) (ix4 a0_2 a0_6 a0_10 a0_14 x8_1) (ix4 a0_3 a0_7 a0_11 a0_15 x8_1) x13_2) != 0) = false := bne_eq_false_iff_eq.mpr c22
             clear c22
             have H' := Aside0.mk H
             clear H
             have p23 : (0 ≤ (x13_2 : Int)) = True := eq_true (of_decide_eq_true (by first | (with_reducible assumption) | assumption))
             have q23 : ((x13_2 : Int) < 4) = True := eq_true (of_decide_eq_true (by first | (with_reducible assumption) | assumption))
             have hv24 : ∀ w_ : World, (Instr.index 22 (.agg (#[.int .i64 (ix4 a0_0 a0_4 a0_8 a0_12 x8_1), .int .i64 (ix4 a0_1 a0_5 a0_9 a0_13 x8_1), .int .i64 (ix4 a0_2 a0_6 a0_10 a0_14 x8_1), .int .i64 (ix4 a0_3 a0_7 a0_11 a0_15 x8_1)] : Array Value)) (.int .i64 x13_2)).run Try.prog w_ = .ok (.int .i64 (ix4 (ix4 a0_0 a0_4 a0_8 a0_12 x8_1) (ix4 a0_1 a0_5 a0_9 a0_13 x8_1) (ix4 a0_2 a0_6 a0_10 a0_14 x8_1) (ix4 a0_3 a0_7 a0_11 a0_15 x8_1) x13_2)) w_ := fun w_ => index_cell Try.underlying22 (by kernel_rfl) (by kernel_rfl) (by kernel_rfl) (of_decide_eq_true (by first | (with_reducible assumption) | assumption)) (of_decide_eq_true (by first | (with_reducible assumption) | assumption)) (ix_4 (Value.int .i64) _ _ _ _ x13_2 (of_decide_eq_true (by first | (with_reducible assumption) | assumption)) (of_decide_eq_true (by first | (with_reducible assumption) | assumption))) w_
             go_wp2
             go_roundg k2
             case measure => have := HK1.out; have := HK2.out; omega
             case rel => exact ⟨(wrap64 (x13_2 + 1)), (by first | rfl | (simp; done) | (simp [*]; done)), H', ⟨by have := HK1.out; have := HK2.out; omega⟩, ⟨by (with_reducible repeat (first | refine blk_drewN ?_ _ | refine blk_drew ?_ | refine blk_alloc ?_ _)); exact BK101.out⟩, ⟨by (with_reducible repeat (first | refine blk_drewN ?_ _ | refine blk_drew ?_ | refine blk_alloc ?_ _)); exact BK102.out⟩, ⟨by repeat (first | (with_reducible first | exact HB.out | apply below_alloc | apply pw_below_drewN | apply below_drew1 | refine below_set ?_ GE101.out | refine below_set ?_ GE102.out) | exact HB.out)⟩⟩
            ·rw [if_neg c22] at H
             have c22b0 : ((ix4 (ix4 a0_0 a0_4 a0_8 a0_12 x8_1) (ix4 a0_1 a0_5 a0_9 a0_13 x8_1) (ix4 a0_2 a0_6 a0_10 a0_14 x8_1) (ix4 a0_3 a0_7 a0_11 a0_15 x8_1) x13_2) == 0) = false := beq_eq_false_iff_ne.mpr c22
             have c22b1 : ((ix4 (ix4 a0_0 a0_4 a0_8 a0_12 x8_1) (ix4 a0_1 a0_5 a0_9 a0_13 x8_1) (ix4 a0_2 a0_6 a0_10 a0_14 x8_1) (ix4 a0_3 a0_7 a0_11 a0_15 x8_1) x13_2) != 0) = true := bne_iff_ne.mpr c22
             obtain rfl := Option.some.inj H
             have p25 : (0 ≤ (x13_2 : Int)) = True := eq_true (of_decide_eq_true (by first | (with_reducible assumption) | assumption))
             have q25 : ((x13_2 : Int) < 4) = True := eq_true (of_decide_eq_true (by first | (with_reducible assumption) | assumption))
             have hv26 : ∀ w_ : World, (Instr.index 22 (.agg (#[.int .i64 (ix4 a0_0 a0_4 a0_8 a0_12 x8_1), .int .i64 (ix4 a0_1 a0_5 a0_9 a0_13 x8_1), .int .i64 (ix4 a0_2 a0_6 a0_10 a0_14 x8_1), .int .i64 (ix4 a0_3 a0_7 a0_11 a0_15 x8_1)] : Array Value)) (.int .i64 x13_2)).run Try.prog w_ = .ok (.int .i64 (ix4 (ix4 a0_0 a0_4 a0_8 a0_12 x8_1) (ix4 a0_1 a0_5 a0_9 a0_13 x8_1) (ix4 a0_2 a0_6 a0_10 a0_14 x8_1) (ix4 a0_3 a0_7 a0_11 a0_15 x8_1) x13_2)) w_ := fun w_ => index_cell Try.underlying22 (by kernel_rfl) (by kernel_rfl) (by kernel_rfl) (of_decide_eq_true (by first | (with_reducible assumption) | assumption)) (of_decide_eq_true (by first | (with_reducible assumption) | assumption)) (ix_4 (Value.int .i64) _ _ _ _ x13_2 (of_decide_eq_true (by first | (with_reducible assumption) | assumption)) (of_decide_eq_true (by first | (with_reducible assumption) | assumption))) w_
             go_wp2
             go_ret
             exact ⟨by first | rfl | (simp [errW_none, errW_some] <;> rfl) | (simp [*, errW_none, errW_some] <;> rfl), by repeat (first | (with_reducible first | exact HB.out | apply below_alloc | apply pw_below_drewN | apply below_drew1 | refine below_set ?_ GE101.out | refine below_set ?_ GE102.out) | exact HB.out)⟩
           ·rw [if_neg c21] at H
            have c21b0 : (x8_1 == x13_2) = false := beq_eq_false_iff_ne.mpr c21
            have c21b1 : (x8_1 != x13_2) = true := bne_iff_ne.mpr c21
            have H' := Aside0.mk H
            clear H
            have p27 : (0 ≤ (x13_2 : Int)) = True := eq_true (of_decide_eq_true (by first | (with_reducible assumption) | assumption))
            have q27 : ((x13_2 : Int) < 4) = True := eq_true (of_decide_eq_true (by first | (with_reducible assumption) | assumption))
            have hv28 : ∀ w_ : World, (Instr.index 22 (.agg (#[.int .i64 (ix4 a0_0 a0_4 a0_8 a0_12 x8_1), .int .i64 (ix4 a0_1 a0_5 a0_9 a0_13 x8_1), .int .i64 (ix4 a0_2 a0_6 a0_10 a0_14 x8_1), .int .i64 (ix4 a0_3 a0_7 a0_11 a0_15 x8_1)] : Array Value)) (.int .i64 x13_2)).run Try.prog w_ = .ok (.int .i64 (ix4 (ix4 a0_0 a0_4 a0_8 a0_12 x8_1) (ix4 a0_1 a0_5 a0_9 a0_13 x8_1) (ix4 a0_2 a0_6 a0_10 a0_14 x8_1) (ix4 a0_3 a0_7 a0_11 a0_15 x8_1) x13_2)) w_ := fun w_ => index_cell Try.underlying22 (by kernel_rfl) (by kernel_rfl) (by kernel_rfl) (of_decide_eq_true (by first | (with_reducible assumption) | assumption)) (of_decide_eq_true (by first | (with_reducible assumption) | assumption)) (ix_4 (Value.int .i64) _ _ _ _ x13_2 (of_decide_eq_true (by first | (with_reducible assumption) | assumption)) (of_decide_eq_true (by first | (with_reducible assumption) | assumption))) w_
            go_wp2
            go_roundg k2
            case measure => have := HK1.out; have := HK2.out; omega
            case rel => exact ⟨(wrap64 (x13_2 + 1)), (by first | rfl | (simp; done) | (simp [*]; done)), H', ⟨by have := HK1.out; have := HK2.out; omega⟩, ⟨by (with_reducible repeat (first | refine blk_drewN ?_ _ | refine blk_drew ?_ | refine blk_alloc ?_ _)); exact BK101.out⟩, ⟨by (with_reducible repeat (first | refine blk_drewN ?_ _ | refine blk_drew ?_ | refine blk_alloc ?_ _)); exact BK102.out⟩, ⟨by repeat (first | (with_reducible first | exact HB.out | apply below_alloc | apply pw_below_drewN | apply below_drew1 | refine below_set ?_ GE101.out | refine below_set ?_ GE102.out) | exact HB.out)⟩⟩
        ·rw [if_neg c14] at H
         exact absurd H (by simp)
       ·rw [if_neg c13] at H
        have c13b0 : decide (x13_2 < 4) = false := decide_eq_false c13
        clear c13
        have H' := Aside0.mk H
        clear H
        go_wp2
        go_roundg k2
        case measure => have := HK1.out; have := HK2.out; omega
        case rel => exact ⟨(wrap64 (x8_1 + 1)), (by first | rfl | (simp; done) | (simp [*]; done)), H', ⟨by have := HK1.out; have := HK2.out; omega⟩, ⟨by (with_reducible repeat (first | refine blk_drewN ?_ _ | refine blk_drew ?_ | refine blk_alloc ?_ _)); exact BK101.out⟩, ⟨by repeat (first | (with_reducible first | exact HB.out | apply below_alloc | apply pw_below_drewN | apply below_drew1 | refine below_set ?_ GE101.out | refine below_set ?_ GE102.out) | exact HB.out)⟩⟩
    ·rw [if_neg c5] at H
     exact absurd H (by simp)
   ·rw [if_neg c4] at H
    have c4b0 : decide (x8_1 < 4) = false := decide_eq_false c4
    clear c4
    obtain rfl := Option.some.inj H
    go_wp2
    go_ret
    exact ⟨by first | rfl | (simp [errW_none, errW_some] <;> rfl) | (simp [*, errW_none, errW_some] <;> rfl), by repeat (first | (with_reducible first | exact HB.out | apply below_alloc | apply pw_below_drewN | apply below_drew1 | refine below_set ?_ GE101.out) | exact HB.out)⟩

end Go.Proofs.Ytjbejbehbjhecaa.Q21p
namespace Go.Proofs.Ytjbejbehbjhecaa.Q21p
open Go.RowKit Go.Proofs.YtjbejbehbjhecaaW.PrintWords Go.Proofs.YtjbejbehbjhecaaW.PrintLast Go.Proofs.YtjbejbehbjhecaaW.PrintMore
attribute [local go_sem] max2_int min2_int max_two min_two max_three min_three max_four min_four   -- for this text's walks alone
set_option linter.unusedVariables false
set_option linter.unusedSimpArgs false

/-! ### lsa_Router: function 27 -/
def lsa_Router.f (a0 : Int) : Option (Bool) := if a0 ≥ 1 then (some (decide (a0 ≤ 4))) else (some false)
set_option maxHeartbeats 8000000 in
set_option maxRecDepth 100000 in
theorem lsa_Router.calls (a0 : Int) (r : Bool) (w : World) (h : lsa_Router.f a0 = some r) :
  Calls Try.prog 27 #[.int .i64 a0] w fun e w' => e = .returned (.bool r) ∧ Drawn0 w w' := by
 have H : (if a0 ≥ 1 then (some (decide (a0 ≤ 4))) else (some false)) = some r := h
 clear h
 by_cases c2 : a0 ≥ 1
 ·rw [if_pos c2] at H
  have c2b0 : decide (1 ≤ a0) = true := decide_eq_true c2
  clear c2
  obtain rfl := Option.some.inj H
  go_enter Try.func27, Try.ntmps27
  go_wp2
  go_ret
  exact ⟨by first | rfl | (simp; done) | (simp [*]; done), by repeat (first | exact Drawn0.refl _ | apply Drawn0.step)⟩
 ·rw [if_neg c2] at H
  have c2b0 : decide (1 ≤ a0) = false := decide_eq_false c2
  clear c2
  obtain rfl := Option.some.inj H
  go_enter Try.func27, Try.ntmps27
  go_wp2
  go_ret
  exact ⟨by first | rfl | (simp; done) | (simp [*]; done), by repeat (first | exact Drawn0.refl _ | apply Drawn0.step)⟩

end Go.Proofs.Ytjbejbehbjhecaa.Q21p
namespace Go.Proofs.Ytjbejbehbjhecaa.Q21p
open Go.RowKit Go.Proofs.YtjbejbehbjhecaaW.PrintWords Go.Proofs.YtjbejbehbjhecaaW.PrintLast Go.Proofs.YtjbejbehbjhecaaW.PrintMore
attribute [local go_sem] max2_int min2_int max_two min_two max_three min_three max_four min_four   -- for this text's walks alone
set_option linter.unusedVariables false
set_option linter.unusedSimpArgs false

/-! ### paths_step: function 36 -/
def paths_step.f (a0 : Int) : Option (Int) := if a0 = 0 then (some 262144) else (some a0)
set_option maxHeartbeats 8000000 in
set_option maxRecDepth 100000 in
theorem paths_step.calls (a0 : Int) (r : Int) (w : World) (h : paths_step.f a0 = some r) :
  Calls Try.prog 36 #[.int .i64 a0] w fun e w' => e = .returned (.int .i64 r) ∧ Drawn0 w w' := by
 have H : (if a0 = 0 then (some 262144) else (some a0)) = some r := h
 clear h
 by_cases c2 : a0 = 0
 ·rw [if_pos c2] at H
  have c2b0 : (a0 == 0) = true := beq_iff_eq.mpr c2
  have c2b1 : (a0 != 0) = false := bne_eq_false_iff_eq.mpr c2
  clear c2
  obtain rfl := Option.some.inj H
  go_enter Try.func36, Try.ntmps36
  go_wp2
  go_ret
  exact ⟨by first | rfl | (simp; done) | (simp [*]; done), by repeat (first | exact Drawn0.refl _ | apply Drawn0.step)⟩
 ·rw [if_neg c2] at H
  have c2b0 : (a0 == 0) = false := beq_eq_false_iff_ne.mpr c2
  have c2b1 : (a0 != 0) = true := bne_iff_ne.mpr c2
  obtain rfl := Option.some.inj H
  go_enter Try.func36, Try.ntmps36
  go_wp2
  go_ret
  exact ⟨by first | rfl | (simp; done) | (simp [*]; done), by repeat (first | exact Drawn0.refl _ | apply Drawn0.step)⟩

end Go.Proofs.Ytjbejbehbjhecaa.Q21p
namespace Go.Proofs.Ytjbejbehbjhecaa.Q21p
open Go.RowKit Go.Proofs.YtjbejbehbjhecaaW.PrintWords Go.Proofs.YtjbejbehbjhecaaW.PrintLast Go.Proofs.YtjbejbehbjhecaaW.PrintMore
attribute [local go_sem] max2_int min2_int max_two min_two max_three min_three max_four min_four   -- for this text's walks alone
set_option linter.unusedVariables false
set_option linter.unusedSimpArgs false

/-! ### paths_sums: function 28 -/
mutual
def paths_sums.l0 : Nat → Int → Int → Int → Int → Int → Int → Int → Int → Int → Int → Int → Int → Int → Int → Int → Int → Int → Int → Int → Int → Int → Int → Int → Int → Int → Int → Int → Int → Int → Int → Int → Int → Int → Option (Int × Int × Int × Int × Int × Int × Int × Int × Int × Int × Int × Int × Int × Int × Int × Int)
 | 0, _, _, _, _, _, _, _, _, _, _, _, _, _, _, _, _, _, _, _, _, _, _, _, _, _, _, _, _, _, _, _, _, _ => none
 | k + 1, x9, x104000, x104001, x104002, x104003, x104004, x104005, x104006, x104007, x104008, x104009, x104010, x104011, x104012, x104013, x104014, x104015, x106000, x106001, x106002, x106003, x106004, x106005, x106006, x106007, x106008, x106009, x106010, x106011, x106012, x106013, x106014, x106015 => if x9 < 4 then (paths_sums.l1 k x9 x9 0 x104000 x104001 x104002 x104003 x104004 x104005 x104006 x104007 x104008 x104009 x104010 x104011 x104012 x104013 x104014 x104015 x106000 x106001 x106002 x106003 x106004 x106005 x106006 x106007 x106008 x106009 x106010 x106011 x106012 x106013 x106014 x106015) else (paths_sums.l2 k 0 x106000 x106001 x106002 x106003 x106004 x106005 x106006 x106007 x106008 x106009 x106010 x106011 x106012 x106013 x106014 x106015)
def paths_sums.l1 : Nat → Int → Int → Int → Int → Int → Int → Int → Int → Int → Int → Int → Int → Int → Int → Int → Int → Int → Int → Int → Int → Int → Int → Int → Int → Int → Int → Int → Int → Int → Int → Int → Int → Int → Int → Int → Option (Int × Int × Int × Int × Int × Int × Int × Int × Int × Int × Int × Int × Int × Int × Int × Int)
 | 0, _, _, _, _, _, _, _, _, _, _, _, _, _, _, _, _, _, _, _, _, _, _, _, _, _, _, _, _, _, _, _, _, _, _, _ => none
 | k + 1, x4, x9, x12, x104000, x104001, x104002, x104003, x104004, x104005, x104006, x104007, x104008, x104009, x104010, x104011, x104012, x104013, x104014, x104015, x106000, x106001, x106002, x106003, x106004, x106005, x106006, x106007, x106008, x106009, x106010, x106011, x106012, x106013, x106014, x106015 => if x12 < 4 then (if x4 = x12 then (paths_sums.l1 k x4 x9 (wrap64 (x12 + 1)) x104000 x104001 x104002 x104003 x104004 x104005 x104006 x104007 x104008 x104009 x104010 x104011 x104012 x104013 x104014 x104015 x106000 x106001 x106002 x106003 x106004 x106005 x106006 x106007 x106008 x106009 x106010 x106011 x106012 x106013 x106014 x106015) else (if 0 ≤ x4 then (if x4 < 4 then (if 0 ≤ x12 then ((paths_step.f (ix4 (ix4 x104000 x104001 x104002 x104003 x12) (ix4 x104004 x104005 x104006 x104007 x12) (ix4 x104008 x104009 x104010 x104011 x12) (ix4 x104012 x104013 x104014 x104015 x12) x4)).bind fun t106 => (paths_sums.l1 k x4 x9 (wrap64 (x12 + 1)) x104000 x104001 x104002 x104003 x104004 x104005 x104006 x104007 x104008 x104009 x104010 x104011 x104012 x104013 x104014 x104015 (up (x4 == 0 && x12 == 0) t106 x106000) (up (x4 == 0 && x12 == 1) t106 x106001) (up (x4 == 0 && x12 == 2) t106 x106002) (up (x4 == 0 && x12 == 3) t106 x106003) (up (x4 == 1 && x12 == 0) t106 x106004) (up (x4 == 1 && x12 == 1) t106 x106005) (up (x4 == 1 && x12 == 2) t106 x106006) (up (x4 == 1 && x12 == 3) t106 x106007) (up (x4 == 2 && x12 == 0) t106 x106008) (up (x4 == 2 && x12 == 1) t106 x106009) (up (x4 == 2 && x12 == 2) t106 x106010) (up (x4 == 2 && x12 == 3) t106 x106011) (up (x4 == 3 && x12 == 0) t106 x106012) (up (x4 == 3 && x12 == 1) t106 x106013) (up (x4 == 3 && x12 == 2) t106 x106014) (up (x4 == 3 && x12 == 3) t106 x106015))) else (none)) else (none)) else (none))) else (paths_sums.l0 k (wrap64 (x9 + 1)) x104000 x104001 x104002 x104003 x104004 x104005 x104006 x104007 x104008 x104009 x104010 x104011 x104012 x104013 x104014 x104015 x106000 x106001 x106002 x106003 x106004 x106005 x106006 x106007 x106008 x106009 x106010 x106011 x106012 x106013 x106014 x106015)
def paths_sums.l2 : Nat → Int → Int → Int → Int → Int → Int → Int → Int → Int → Int → Int → Int → Int → Int → Int → Int → Int → Option (Int × Int × Int × Int × Int × Int × Int × Int × Int × Int × Int × Int × Int × Int × Int × Int)
 | 0, _, _, _, _, _, _, _, _, _, _, _, _, _, _, _, _, _ => none
 | k + 1, x32, x106000, x106001, x106002, x106003, x106004, x106005, x106006, x106007, x106008, x106009, x106010, x106011, x106012, x106013, x106014, x106015 => if x32 < 4 then (paths_sums.l3 k x32 x32 0 x106000 x106001 x106002 x106003 x106004 x106005 x106006 x106007 x106008 x106009 x106010 x106011 x106012 x106013 x106014 x106015) else (some (x106000, x106001, x106002, x106003, x106004, x106005, x106006, x106007, x106008, x106009, x106010, x106011, x106012, x106013, x106014, x106015))
def paths_sums.l3 : Nat → Int → Int → Int → Int → Int → Int → Int → Int → Int → Int → Int → Int → Int → Int → Int → Int → Int → Int → Int → Option (Int × Int × Int × Int × Int × Int × Int × Int × Int × Int × Int × Int × Int × Int × Int × Int)
 | 0, _, _, _, _, _, _, _, _, _, _, _, _, _, _, _, _, _, _, _ => none
 | k + 1, x6, x32, x35, x106000, x106001, x106002, x106003, x106004, x106005, x106006, x106007, x106008, x106009, x106010, x106011, x106012, x106013, x106014, x106015 => if x35 < 4 then (paths_sums.l4 k x6 x35 x32 x35 0 x106000 x106001 x106002 x106003 x106004 x106005 x106006 x106007 x106008 x106009 x106010 x106011 x106012 x106013 x106014 x106015) else (paths_sums.l2 k (wrap64 (x32 + 1)) x106000 x106001 x106002 x106003 x106004 x106005 x106006 x106007 x106008 x106009 x106010 x106011 x106012 x106013 x106014 x106015)
def paths_sums.l4 : Nat → Int → Int → Int → Int → Int → Int → Int → Int → Int → Int → Int → Int → Int → Int → Int → Int → Int → Int → Int → Int → Int → Option (Int × Int × Int × Int × Int × Int × Int × Int × Int × Int × Int × Int × Int × Int × Int × Int)
 | 0, _, _, _, _, _, _, _, _, _, _, _, _, _, _, _, _, _, _, _, _, _ => none
 | k + 1, x6, x7, x32, x35, x38, x106000, x106001, x106002, x106003, x106004, x106005, x106006, x106007, x106008, x106009, x106010, x106011, x106012, x106013, x106014, x106015 => if x38 < 4 then (if 0 ≤ x7 then (if x7 < 4 then (if 0 ≤ x38 then (if 0 ≤ x6 then (if x6 < 4 then (paths_sums.l4 k x6 x7 x32 x35 (wrap64 (x38 + 1)) (up (x7 == 0 && x38 == 0) (mn (ix4 (ix4 x106000 x106001 x106002 x106003 x38) (ix4 x106004 x106005 x106006 x106007 x38) (ix4 x106008 x106009 x106010 x106011 x38) (ix4 x106012 x106013 x106014 x106015 x38) x7) (wrap64 ((ix4 (ix4 x106000 x106001 x106002 x106003 x6) (ix4 x106004 x106005 x106006 x106007 x6) (ix4 x106008 x106009 x106010 x106011 x6) (ix4 x106012 x106013 x106014 x106015 x6) x7) + (ix4 (ix4 x106000 x106001 x106002 x106003 x38) (ix4 x106004 x106005 x106006 x106007 x38) (ix4 x106008 x106009 x106010 x106011 x38) (ix4 x106012 x106013 x106014 x106015 x38) x6)))) x106000) (up (x7 == 0 && x38 == 1) (mn (ix4 (ix4 x106000 x106001 x106002 x106003 x38) (ix4 x106004 x106005 x106006 x106007 x38) (ix4 x106008 x106009 x106010 x106011 x38) (ix4 x106012 x106013 x106014 x106015 x38) x7) (wrap64 ((ix4 (ix4 x106000 x106001 x106002 x106003 x6) (ix4 x106004 x106005 x106006 x106007 x6) (ix4 x106008 x106009 x106010 x106011 x6) (ix4 x106012 x106013 x106014 x106015 x6) x7) + (ix4 (ix4 x106000 x106001 x106002 x106003 x38) (ix4 x106004 x106005 x106006 x106007 x38) (ix4 x106008 x106009 x106010 x106011 x38) (ix4 x106012 x106013 x106014 x106015 x38) x6)))) x106001) (up (x7 == 0 && x38 == 2) (mn (ix4 (ix4 x106000 x106001 x106002 x106003 x38) (ix4 x106004 x106005 x106006 x106007 x38) (ix4 x106008 x106009 x106010 x106011 x38) (ix4 x106012 x106013 x106014 x106015 x38) x7) (wrap64 ((ix4 (ix4 x106000 x106001 x106002 x106003 x6) (ix4 x106004 x106005 x106006 x106007 x6) (ix4 x106008 x106009 x106010 x106011 x6) (ix4 x106012 x106013 x106014 x106015 x6) x7) + (ix4 (ix4 x106000 x106001 x106002 x106003 x38) (ix4 x106004 x106005 x106006 x106007 x38) (ix4 x106008 x106009 x106010 x106011 x38) (ix4 x106012 x106013 x106014 x106015 x38) x6)))) x106002) (up (x7 == 0 && x38 == 3) (mn (ix4 (ix4 x106000 x106001 x106002 x106003 x38) (ix4 x106004 x106005 x106006 x106007 x38) (ix4 x106008 x106009 x106010 x106011 x38) (ix4 x106012 x106013 x106014 x106015 x38) x7) (wrap64 ((ix4 (ix4 x106000 x106001 x106002 x106003 x6) (ix4 x106004 x106005 x106006 x106007 x6) (ix4 x106008 x106009 x106010 x106011 x6) (ix4 x106012 x106013 x106014 x106015 x6) x7) + (ix4 (ix4 x106000 x106001 x106002 x106003 x38) (ix4 x106004 x106005 x106006 x106007 x38) (ix4 x106008 x106009 x106010 x106011 x38) (ix4 x106012 x106013 x106014 x106015 x38) x6)))) x106003) (up (x7 == 1 && x38 == 0) (mn (ix4 (ix4 x106000 x106001 x106002 x106003 x38) (ix4 x106004 x106005 x106006 x106007 x38) (ix4 x106008 x106009 x106010 x106011 x38) (ix4 x106012 x106013 x106014 x106015 x38) x7) (wrap64 ((ix4 (ix4 x106000 x106001 x106002 x106003 x6) (ix4 x106004 x106005 x106006 x106007 x6) (ix4 x106008 x106009 x106010 x106011 x6) (ix4 x106012 x106013 x106014 x106015 x6) x7) + (ix4 (ix4 x106000 x106001 x106002 x106003 x38) (ix4 x106004 x106005 x106006 x106007 x38) (ix4 x106008 x106009 x106010 x106011 x38) (ix4 x106012 x106013 x106014 x106015 x38) x6)))) x106004) (up (x7 == 1 && x38 == 1) (mn (ix4 (ix4 x106000 x106001 x106002 x106003 x38) (ix4 x106004 x106005 x106006 x106007 x38) (ix4 x106008 x106009 x106010 x106011 x38) (ix4 x106012 x106013 x106014 x106015 x38) x7) (wrap64 ((ix4 (ix4 x106000 x106001 x106002 x106003 x6) (ix4 x106004 x106005 x106006 x106007 x6) (ix4 x106008 x106009 x106010 x106011 x6) (ix4 x106012 x106013 x106014 x106015 x6) x7) + (ix4 (ix4 x106000 x106001 x106002 x106003 x38) (ix4 x106004 x106005 x106006 x106007 x38) (ix4 x106008 x106009 x106010 x106011 x38) (ix4 x106012 x106013 x106014 x106015 x38) x6)))) x106005) (up (x7 == 1 && x38 == 2) (mn (ix4 (ix4 x106000 x106001 x106002 x106003 x38) (ix4 x106004 x106005 x106006 x106007 x38) (ix4 x106008 x106009 x106010 x106011 x38) (ix4 x106012 x106013 x106014 x106015 x38) x7) (wrap64 ((ix4 (ix4 x106000 x106001 x106002 x106003 x6) (ix4 x106004 x106005 x106006 x106007 x6) (ix4 x106008 x106009 x106010 x106011 x6) (ix4 x106012 x106013 x106014 x106015 x6) x7) + (ix4 (ix4 x106000 x106001 x106002 x106003 x38) (ix4 x106004 x106005 x106006 x106007 x38) (ix4 x106008 x106009 x106010 x106011 x38) (ix4 x106012 x106013 x106014 x106015 x38) x6)))) x106006) (up (x7 == 1 && x38 == 3) (mn (ix4 (ix4 x106000 x106001 x106002 x106003 x38) (ix4 x106004 x106005 x106006 x106007 x38) (ix4 x106008 x106009 x106010 x106011 x38) (ix4 x106012 x106013 x106014 x106015 x38) x7) (wrap64 ((ix4 (ix4 x106000 x106001 x106002 x106003 x6) (ix4 x106004 x106005 x106006 x106007 x6) (ix4 x106008 x106009 x106010 x106011 x6) (ix4 x106012 x106013 x106014 x106015 x6) x7) + (ix4 (ix4 x106000 x106001 x106002 x106003 x38) (ix4 x106004 x106005 x106006 x106007 x38) (ix4 x106008 x106009 x106010 x106011 x38) (ix4 x106012 x106013 x106014 x106015 x38) x6)))) x106007) (up (x7 == 2 && x38 == 0) (mn (ix4 (ix4 x106000 x106001 x106002 x106003 x38) (ix4 x106004 x106005 x106006 x106007 x38) (ix4 x106008 x106009 x106010 x106011 x38) (ix4 x106012 x106013 x106014 x106015 x38) x7) (wrap64 ((ix4 (ix4 x106000 x106001 x106002 x106003 x6) (ix4 x106004 x106005 x106006 x106007 x6) (ix4 x106008 x106009 x106010 x106011 x6) (ix4 x106012 x106013 x106014 x106015 x6) x7) + (ix4 (ix4 x106000 x106001 x106002 x106003 x38) (ix4 x106004 x106005 x106006 x106007 x38) (ix4 x106008 x106009 x106010 x106011 x38) (ix4 x106012 x106013 x106014 x106015 x38) x6)))) x106008) (up (x7 == 2 && x38 == 1) (mn (ix4 (ix4 x106000 x106001 x106002 x106003 x38) (ix4 x106004 x106005 x106006 x106007 x38) (ix4 x106008 x106009 x106010 x106011 x38) (ix4 x106012 x106013 x106014 x106015 x38) x7) (wrap64 ((ix4 (ix4 x106000 x106001 x106002 x106003 x6) (ix4 x106004 x106005 x106006 x106007 x6) (ix4 x106008 x106009 x106010 x106011 x6) (ix4 x106012 x106013 x106014 x106015 x6) x7) + (ix4 (ix4 x106000 x106001 x106002 x106003 x38) (ix4 x106004 x106005 x106006 x106007 x38) (ix4 x106008 x106009 x106010 x106011 x38) (ix4 x106012 x106013 x106014 x106015 x38) x6)))) x106009) (up (x7 == 2 && x38 == 2) (mn (ix4 (ix4 x106000 x106001 x106002 x106003 x38) (ix4 x106004 x106005 x106006 x106007 x38) (ix4 x106008 x106009 x106010 x106011 x38) (ix4 x106012 x106013 x106014 x106015 x38) x7) (wrap64 ((ix4 (ix4 x106000 x106001 x106002 x106003 x6) (ix4 x106004 x106005 x106006 x106007 x6) (ix4 x106008 x106009 x106010 x106011 x6) (ix4 x106012 x106013 x106014 x106015 x6) x7) + (ix4 (ix4 x106000 x106001 x106002 x106003 x38) (ix4 x106004 x106005 x106006 x106007 x38) (ix4 x106008 x106009 x106010 x106011 x38) (ix4 x106012 x106013 x106014 x106015 x38) x6)))) x106010) (up (x7 == 2 && x38 == 3) (mn (ix4 (ix4 x106000 x106001 x106002 x106003 x38) (ix4 x106004 x106005 x106006 x106007 x38) (ix4 x106008 x106009 x106010 x106011 x38) (ix4 x106012 x106013 x106014 x106015 x38) x7) (wrap64 ((ix4 (ix4 x106000 x106001 x106002 x106003 x6) (ix4 x106004 x106005 x106006 x106007 x6) (ix4 x106008 x106009 x106010 x106011 x6) (ix4 x106012 x106013 x106014 x106015 x6) x7) + (ix4 (ix4 x106000 x106001 x106002 x106003 x38) (ix4 x106004 x106005 x106006 x106007 x38) (ix4 x106008 x106009 x106010 x106011 x38) (ix4 x106012 x106013 x106014 x106015 x38) x6)))) x106011) (up (x7 == 3 && x38 == 0) (mn (ix4 (ix4 x106000 x106001 x106002 x106003 x38) (ix4 x106004 x106005 x106006 x106007 x38) (ix4 x106008 x106009 x106010 x106011 x38) (ix4 x106012 x106013 x106014 x106015 x38) x7) (wrap64 ((ix4 (ix4 x106000 x106001 x106002 x106003 x6) (ix4 x106004 x106005 x106006 x106007 x6) (ix4 x106008 x106009 x106010 x106011 x6) (ix4 x106012 x106013 x106014 x106015 x6) x7) + (ix4 (ix4 x106000 x106001 x106002 x106003 x38) (ix4 x106004 x106005 x106006 x106007 x38) (ix4 x106008 x106009 x106010 x106011 x38) (ix4 x106012 x106013 x106014 x106015 x38) x6)))) x106012) (up (x7 == 3 && x38 == 1) (mn (ix4 (ix4 x106000 x106001 x106002 x106003 x38) (ix4 x106004 x106005 x106006 x106007 x38) (ix4 x106008 x106009 x106010 x106011 x38) (ix4 x106012 x106013 x106014 x106015 x38) x7) (wrap64 ((ix4 (ix4 x106000 x106001 x106002 x106003 x6) (ix4 x106004 x106005 x106006 x106007 x6) (ix4 x106008 x106009 x106010 x106011 x6) (ix4 x106012 x106013 x106014 x106015 x6) x7) + (ix4 (ix4 x106000 x106001 x106002 x106003 x38) (ix4 x106004 x106005 x106006 x106007 x38) (ix4 x106008 x106009 x106010 x106011 x38) (ix4 x106012 x106013 x106014 x106015 x38) x6)))) x106013) (up (x7 == 3 && x38 == 2) (mn (ix4 (ix4 x106000 x106001 x106002 x106003 x38) (ix4 x106004 x106005 x106006 x106007 x38) (ix4 x106008 x106009 x106010 x106011 x38) (ix4 x106012 x106013 x106014 x106015 x38) x7) (wrap64 ((ix4 (ix4 x106000 x106001 x106002 x106003 x6) (ix4 x106004 x106005 x106006 x106007 x6) (ix4 x106008 x106009 x106010 x106011 x6) (ix4 x106012 x106013 x106014 x106015 x6) x7) + (ix4 (ix4 x106000 x106001 x106002 x106003 x38) (ix4 x106004 x106005 x106006 x106007 x38) (ix4 x106008 x106009 x106010 x106011 x38) (ix4 x106012 x106013 x106014 x106015 x38) x6)))) x106014) (up (x7 == 3 && x38 == 3) (mn (ix4 (ix4 x106000 x106001 x106002 x106003 x38) (ix4 x106004 x106005 x106006 x106007 x38) (ix4 x106008 x106009 x106010 x106011 x38) (ix4 x106012 x106013 x106014 x106015 x38) x7) (wrap64 ((ix4 (ix4 x106000 x106001 x106002 x106003 x6) (ix4 x106004 x106005 x106006 x106007 x6) (ix4 x106008 x106009 x106010 x106011 x6) (ix4 x106012 x106013 x106014 x106015 x6) x7) + (ix4 (ix4 x106000 x106001 x106002 x106003 x38) (ix4 x106004 x106005 x106006 x106007 x38) (ix4 x106008 x106009 x106010 x106011 x38) (ix4 x106012 x106013 x106014 x106015 x38) x6)))) x106015)) else (none)) else (none)) else (none)) else (none)) else (none)) else (paths_sums.l3 k x6 x32 (wrap64 (x35 + 1)) x106000 x106001 x106002 x106003 x106004 x106005 x106006 x106007 x106008 x106009 x106010 x106011 x106012 x106013 x106014 x106015)
end
def paths_sums.f (k : Nat) (a0_0 : Int) (a0_1 : Int) (a0_2 : Int) (a0_3 : Int) (a0_4 : Int) (a0_5 : Int) (a0_6 : Int) (a0_7 : Int) (a0_8 : Int) (a0_9 : Int) (a0_10 : Int) (a0_11 : Int) (a0_12 : Int) (a0_13 : Int) (a0_14 : Int) (a0_15 : Int) : Option (Int × Int × Int × Int × Int × Int × Int × Int × Int × Int × Int × Int × Int × Int × Int × Int) := paths_sums.l0 k 0 a0_0 a0_1 a0_2 a0_3 a0_4 a0_5 a0_6 a0_7 a0_8 a0_9 a0_10 a0_11 a0_12 a0_13 a0_14 a0_15 0 0 0 0 0 0 0 0 0 0 0 0 0 0 0 0
theorem paths_sums.mono_l : ∀ k, (∀ y0 y1 y2 y3 y4 y5 y6 y7 y8 y9 y10 y11 y12 y13 y14 y15 y16 y17 y18 y19 y20 y21 y22 y23 y24 y25 y26 y27 y28 y29 y30 y31 y32, LeO (paths_sums.l0 k y0 y1 y2 y3 y4 y5 y6 y7 y8 y9 y10 y11 y12 y13 y14 y15 y16 y17 y18 y19 y20 y21 y22 y23 y24 y25 y26 y27 y28 y29 y30 y31 y32) (paths_sums.l0 (k + 1) y0 y1 y2 y3 y4 y5 y6 y7 y8 y9 y10 y11 y12 y13 y14 y15 y16 y17 y18 y19 y20 y21 y22 y23 y24 y25 y26 y27 y28 y29 y30 y31 y32)) ∧ (∀ y0 y1 y2 y3 y4 y5 y6 y7 y8 y9 y10 y11 y12 y13 y14 y15 y16 y17 y18 y19 y20 y21 y22 y23 y24 y25 y26 y27 y28 y29 y30 y31 y32 y33 y34, LeO (paths_sums.l1 k y0 y1 y2 y3 y4 y5 y6 y7 y8 y9 y10 y11 y12 y13 y14 y15 y16 y17 y18 y19 y20 y21 y22 y23 y24 y25 y26 y27 y28 y29 y30 y31 y32 y33 y34) (paths_sums.l1 (k + 1) y0 y1 y2 y3 y4 y5 y6 y7 y8 y9 y10 y11 y12 y13 y14 y15 y16 y17 y18 y19 y20 y21 y22 y23 y24 y25 y26 y27 y28 y29 y30 y31 y32 y33 y34)) ∧ (∀ y0 y1 y2 y3 y4 y5 y6 y7 y8 y9 y10 y11 y12 y13 y14 y15 y16, LeO (paths_sums.l2 k y0 y1 y2 y3 y4 y5 y6 y7 y8 y9 y10 y11 y12 y13 y14 y15 y16) (paths_sums.l2 (k + 1) y0 y1 y2 y3 y4 y5 y6 y7 y8 y9 y10 y11 y12 y13 y14 y15 y16)) ∧ (∀ y0 y1 y2 y3 y4 y5 y6 y7 y8 y9 y10 y11 y12 y13 y14 y15 y16 y17 y18, LeO (paths_sums.l3 k y0 y1 y2 y3 y4 y5 y6 y7 y8 y9 y10 y11 y12 y13 y14 y15 y16 y17 y18) (paths_sums.l3 (k + 1) y0 y1 y2 y3 y4 y5 y6 y7 y8 y9 y10 y11 y12 y13 y14 y15 y16 y17 y18)) ∧ (∀ y0 y1 y2 y3 y4 y5 y6 y7 y8 y9 y10 y11 y12 y13 y14 y15 y16 y17 y18 y19 y20, LeO (paths_sums.l4 k y0 y1 y2 y3 y4 y5 y6 y7 y8 y9 y10 y11 y12 y13 y14 y15 y16 y17 y18 y19 y20) (paths_sums.l4 (k + 1) y0 y1 y2 y3 y4 y5 y6 y7 y8 y9 y10 y11 y12 y13 y14 y15 y16 y17 y18 y19 y20))
 | 0 => ⟨fun _ _ _ _ _ _ _ _ _ _ _ _ _ _ _ _ _ _ _ _ _ _ _ _ _ _ _ _ _ _ _ _ _ r h => by simp [paths_sums.l0] at h, fun _ _ _ _ _ _ _ _ _ _ _ _ _ _ _ _ _ _ _ _ _ _ _ _ _ _ _ _ _ _ _ _ _ _ _ r h => by simp [paths_sums.l1] at h, fun _ _ _ _ _ _ _ _ _ _ _ _ _ _ _ _ _ r h => by simp [paths_sums.l2] at h, fun _ _ _ _ _ _ _ _ _ _ _ _ _ _ _ _ _ _ _ r h => by simp [paths_sums.l3] at h, fun _ _ _ _ _ _ _ _ _ _ _ _ _ _ _ _ _ _ _ _ _ r h => by simp [paths_sums.l4] at h⟩
 | k + 1 => by
  obtain ⟨ih0, ih1, ih2, ih3, ih4⟩ := paths_sums.mono_l k
  refine ⟨?_, ?_, ?_, ?_, ?_⟩
  ·intro y0 y1 y2 y3 y4 y5 y6 y7 y8 y9 y10 y11 y12 y13 y14 y15 y16 y17 y18 y19 y20 y21 y22 y23 y24 y25 y26 y27 y28 y29 y30 y31 y32
   unfold paths_sums.l0
   repeat' first
   | (with_reducible exact ih0 _ _ _ _ _ _ _ _ _ _ _ _ _ _ _ _ _ _ _ _ _ _ _ _ _ _ _ _ _ _ _ _ _)
   | (with_reducible exact ih1 _ _ _ _ _ _ _ _ _ _ _ _ _ _ _ _ _ _ _ _ _ _ _ _ _ _ _ _ _ _ _ _ _ _ _)
   | (with_reducible exact ih2 _ _ _ _ _ _ _ _ _ _ _ _ _ _ _ _ _)
   | (with_reducible exact ih3 _ _ _ _ _ _ _ _ _ _ _ _ _ _ _ _ _ _ _)
   | (with_reducible exact ih4 _ _ _ _ _ _ _ _ _ _ _ _ _ _ _ _ _ _ _ _ _)
   | (with_reducible exact LeO.refl _)
   | (with_reducible exact LeO.none _)
   | (with_reducible refine LeO.ite ?_ ?_)
   | (with_reducible refine LeO.bind ?_ (fun _ => ?_))
   | exact ih0 _ _ _ _ _ _ _ _ _ _ _ _ _ _ _ _ _ _ _ _ _ _ _ _ _ _ _ _ _ _ _ _ _
   | exact ih1 _ _ _ _ _ _ _ _ _ _ _ _ _ _ _ _ _ _ _ _ _ _ _ _ _ _ _ _ _ _ _ _ _ _ _
   | exact ih2 _ _ _ _ _ _ _ _ _ _ _ _ _ _ _ _ _
   | exact ih3 _ _ _ _ _ _ _ _ _ _ _ _ _ _ _ _ _ _ _
   | exact ih4 _ _ _ _ _ _ _ _ _ _ _ _ _ _ _ _ _ _ _ _ _
   | exact LeO.none _
   | refine LeO.ite ?_ ?_
   | refine LeO.bind ?_ (fun _ => ?_)
  ·intro y0 y1 y2 y3 y4 y5 y6 y7 y8 y9 y10 y11 y12 y13 y14 y15 y16 y17 y18 y19 y20 y21 y22 y23 y24 y25 y26 y27 y28 y29 y30 y31 y32 y33 y34
   unfold paths_sums.l1
   repeat' first
   | (with_reducible exact ih0 _ _ _ _ _ _ _ _ _ _ _ _ _ _ _ _ _ _ _ _ _ _ _ _ _ _ _ _ _ _ _ _ _)
   | (with_reducible exact ih1 _ _ _ _ _ _ _ _ _ _ _ _ _ _ _ _ _ _ _ _ _ _ _ _ _ _ _ _ _ _ _ _ _ _ _)
   | (with_reducible exact ih2 _ _ _ _ _ _ _ _ _ _ _ _ _ _ _ _ _)
   | (with_reducible exact ih3 _ _ _ _ _ _ _ _ _ _ _ _ _ _ _ _ _ _ _)
   | (with_reducible exact ih4 _ _ _ _ _ _ _ _ _ _ _ _ _ _ _ _ _ _ _ _ _)
   | (with_reducible exact LeO.refl _)
   | (with_reducible exact LeO.none _)
   | (with_reducible refine LeO.ite ?_ ?_)
   | (with_reducible refine LeO.bind ?_ (fun _ => ?_))
   | exact ih0 _ _ _ _ _ _ _ _ _ _ _ _ _ _ _ _ _ _ _ _ _ _ _ _ _ _ _ _ _ _ _ _ _
   | exact ih1 _ _ _ _ _ _ _ _ _ _ _ _ _ _ _ _ _ _ _ _ _ _ _ _ _ _ _ _ _ _ _ _ _ _ _
   | exact ih2 _ _ _ _ _ _ _ _ _ _ _ _ _ _ _ _ _
   | exact ih3 _ _ _ _ _ _ _ _ _ _ _ _ _ _ _ _ _ _ _
   | exact ih4 _ _ _ _ _ _ _ _ _ _ _ _ _ _ _ _ _ _ _ _ _
   | exact LeO.none _
   | refine LeO.ite ?_ ?_
   | refine LeO.bind ?_ (fun _ => ?_)
  ·intro y0 y1 y2 y3 y4 y5 y6 y7 y8 y9 y10 y11 y12 y13 y14 y15 y16
   unfold paths_sums.l2
   repeat' first
   | (with_reducible exact ih0 _ _ _ _ _ _ _ _ _ _ _ _ _ _ _ _ _ _ _ _ _ _ _ _ _ _ _ _ _ _ _ _ _)
   | (with_reducible exact ih1 _ _ _ _ _ _ _ _ _ _ _ _ _ _ _ _ _ _ _ _ _ _ _ _ _ _ _ _ _ _ _ _ _ _ _)
   | (with_reducible exact ih2 _ _ _ _ _ _ _ _ _ _ _ _ _ _ _ _ _)
   | (with_reducible exact ih3 _ _ _ _ _ _ _ _ _ _ _ _ _ _ _ _ _ _ _)
   | (with_reducible exact ih4 _ _ _ _ _ _ _ _ _ _ _ _ _ _ _ _ _ _ _ _ _)
   | (with_reducible exact LeO.refl _)
   | (with_reducible exact LeO.none _)
   | (with_reducible refine LeO.ite ?_ ?_)
   | (with_reducible refine LeO.bind ?_ (fun _ => ?_))
   | exact ih0 _ _ _ _ _ _ _ _ _ _ _ _ _ _ _ _ _ _ _ _ _ _ _ _ _ _ _ _ _ _ _ _ _
   | exact ih1 _ _ _ _ _ _ _ _ _ _ _ _ _ _ _ _ _ _ _ _ _ _ _ _ _ _ _ _ _ _ _ _ _ _ _
   | exact ih2 _ _ _ _ _ _ _ _ _ _ _ _ _ _ _ _ _
   | exact ih3 _ _ _ _ _ _ _ _ _ _ _ _ _ _ _ _ _ _ _
   | exact ih4 _ _ _ _ _ _ _ _ _ _ _ _ _ _ _ _ _ _ _ _ _
   | exact LeO.none _
   | refine LeO.ite ?_ ?_
   | refine LeO.bind ?_ (fun _ => ?_)
  ·intro y0 y1 y2 y3 y4 y5 y6 y7 y8 y9 y10 y11 y12 y13 y14 y15 y16 y17 y18
   unfold paths_sums.l3
   repeat' first
   | (with_reducible exact ih0 _ _ _ _ _ _ _ _ _ _ _ _ _ _ _ _ _ _ _ _ _ _ _ _ _ _ _ _ _ _ _ _ _)
   | (with_reducible exact ih1 _ _ _ _ _ _ _ _ _ _ _ _ _ _ _ _ _ _ _ _ _ _ _ _ _ _ _ _ _ _ _ _ _ _ _)
   | (with_reducible exact ih2 _ _ _ _ _ _ _ _ _ _ _ _ _ _ _ _ _)
   | (with_reducible exact ih3 _ _ _ _ _ _ _ _ _ _ _ _ _ _ _ _ _ _ _)
   | (with_reducible exact ih4 _ _ _ _ _ _ _ _ _ _ _ _ _ _ _ _ _ _ _ _ _)
   | (with_reducible exact LeO.refl _)
   | (with_reducible exact LeO.none _)
   | (with_reducible refine LeO.ite ?_ ?_)
   | (with_reducible refine LeO.bind ?_ (fun _ => ?_))
   | exact ih0 _ _ _ _ _ _ _ _ _ _ _ _ _ _ _ _ _ _ _ _ _ _ _ _ _ _ _ _ _ _ _ _ _
   | exact ih1 _ _ _ _ _ _ _ _ _ _ _ _ _ _ _ _ _ _ _ _ _ _ _ _ _ _ _ _ _ _ _ _ _ _ _
   | exact ih2 _ _ _ _ _ _ _ _ _ _ _ _ _ _ _ _ _
   | exact ih3 _ _ _ _ _ _ _ _ _ _ _ _ _ _ _ _ _ _ _
   | exact ih4 _ _ _ _ _ _ _ _ _ _ _ _ _ _ _ _ _ _ _ _ _
   | exact LeO.none _
   | refine LeO.ite ?_ ?_
   | refine LeO.bind ?_ (fun _ => ?_)
  ·intro y0 y1 y2 y3 y4 y5 y6 y7 y8 y9 y10 y11 y12 y13 y14 y15 y16 y17 y18 y19 y20
   unfold paths_sums.l4
   repeat' first
   | (with_reducible exact ih0 _ _ _ _ _ _ _ _ _ _ _ _ _ _ _ _ _ _ _ _ _ _ _ _ _ _ _ _ _ _ _ _ _)
   | (with_reducible exact ih1 _ _ _ _ _ _ _ _ _ _ _ _ _ _ _ _ _ _ _ _ _ _ _ _ _ _ _ _ _ _ _ _ _ _ _)
   | (with_reducible exact ih2 _ _ _ _ _ _ _ _ _ _ _ _ _ _ _ _ _)
   | (with_reducible exact ih3 _ _ _ _ _ _ _ _ _ _ _ _ _ _ _ _ _ _ _)
   | (with_reducible exact ih4 _ _ _ _ _ _ _ _ _ _ _ _ _ _ _ _ _ _ _ _ _)
   | (with_reducible exact LeO.refl _)
   | (with_reducible exact LeO.none _)
   | (with_reducible refine LeO.ite ?_ ?_)
   | (with_reducible refine LeO.bind ?_ (fun _ => ?_))
   | exact ih0 _ _ _ _ _ _ _ _ _ _ _ _ _ _ _ _ _ _ _ _ _ _ _ _ _ _ _ _ _ _ _ _ _
   | exact ih1 _ _ _ _ _ _ _ _ _ _ _ _ _ _ _ _ _ _ _ _ _ _ _ _ _ _ _ _ _ _ _ _ _ _ _
   | exact ih2 _ _ _ _ _ _ _ _ _ _ _ _ _ _ _ _ _
   | exact ih3 _ _ _ _ _ _ _ _ _ _ _ _ _ _ _ _ _ _ _
   | exact ih4 _ _ _ _ _ _ _ _ _ _ _ _ _ _ _ _ _ _ _ _ _
   | exact LeO.none _
   | refine LeO.ite ?_ ?_
   | refine LeO.bind ?_ (fun _ => ?_)
theorem paths_sums.mono : ∀ a0 a1 a2 a3 a4 a5 a6 a7 a8 a9 a10 a11 a12 a13 a14 a15 k, LeO (paths_sums.f k a0 a1 a2 a3 a4 a5 a6 a7 a8 a9 a10 a11 a12 a13 a14 a15) (paths_sums.f (k + 1) a0 a1 a2 a3 a4 a5 a6 a7 a8 a9 a10 a11 a12 a13 a14 a15) := by
 intro a0 a1 a2 a3 a4 a5 a6 a7 a8 a9 a10 a11 a12 a13 a14 a15 k
 obtain ⟨ih0, ih1, ih2, ih3, ih4⟩ := paths_sums.mono_l k
 unfold paths_sums.f
 repeat' first
   | (with_reducible exact ih0 _ _ _ _ _ _ _ _ _ _ _ _ _ _ _ _ _ _ _ _ _ _ _ _ _ _ _ _ _ _ _ _ _)
   | (with_reducible exact ih1 _ _ _ _ _ _ _ _ _ _ _ _ _ _ _ _ _ _ _ _ _ _ _ _ _ _ _ _ _ _ _ _ _ _ _)
   | (with_reducible exact ih2 _ _ _ _ _ _ _ _ _ _ _ _ _ _ _ _ _)
   | (with_reducible exact ih3 _ _ _ _ _ _ _ _ _ _ _ _ _ _ _ _ _ _ _)
   | (with_reducible exact ih4 _ _ _ _ _ _ _ _ _ _ _ _ _ _ _ _ _ _ _ _ _)
   | (with_reducible exact LeO.refl _)
   | (with_reducible exact LeO.none _)
   | (with_reducible refine LeO.ite ?_ ?_)
   | (with_reducible refine LeO.bind ?_ (fun _ => ?_))
   | exact ih0 _ _ _ _ _ _ _ _ _ _ _ _ _ _ _ _ _ _ _ _ _ _ _ _ _ _ _ _ _ _ _ _ _
   | exact ih1 _ _ _ _ _ _ _ _ _ _ _ _ _ _ _ _ _ _ _ _ _ _ _ _ _ _ _ _ _ _ _ _ _ _ _
   | exact ih2 _ _ _ _ _ _ _ _ _ _ _ _ _ _ _ _ _
   | exact ih3 _ _ _ _ _ _ _ _ _ _ _ _ _ _ _ _ _ _ _
   | exact ih4 _ _ _ _ _ _ _ _ _ _ _ _ _ _ _ _ _ _ _ _ _
   | exact LeO.none _
   | refine LeO.ite ?_ ?_
   | refine LeO.bind ?_ (fun _ => ?_)
def paths_sums.T9 : Bool × List (List Nat × List Nat) := (true, [([], []), ([], []), ([], []), ([], []), ([], []), ([2], [2]), ([5, 3], [3, 5]), ([6, 4], [4, 6]), ([7], [7]), ([8], [8]), ([0], [0]), ([10, 1, 0, 1, 2, 3, 4, 5, 6, 7, 8, 9], [1, 10]), ([11, 9, 9, 0, 1, 2, 3, 4, 5, 6, 7, 8, 9], [9, 11])])
def paths_sums.B9 : List Nat := [0, 0, 0, 0, 0, 4, 44, 124, 252, 508, 1, 2047, 4095]
theorem paths_sums.tab9 : rtab .any (opsOf Try.f28 9) = paths_sums.T9 := by kernel_rfl
theorem paths_sums.bits9 : waitsOk paths_sums.T9.2 paths_sums.B9 = true := by kernel_rfl
def paths_sums.T21 : Bool × List (List Nat × List Nat) := (true, [([], []), ([], []), ([], []), ([], []), ([2], [2]), ([4, 3], [3, 4]), ([5], [5]), ([], []), ([], []), ([7], [7]), ([9, 8], [8, 9]), ([10], [10]), ([], []), ([], []), ([12], [12]), ([14, 13], [13, 14]), ([15], [15]), ([11, 16], [11, 16]), ([6, 17], [6, 17]), ([0], [0]), ([19, 1, 0, 1, 2, 3, 4, 5, 6, 7, 8, 9, 10, 11, 12, 13, 14, 15, 16, 17, 18], [1, 19]), ([20, 18, 0, 1, 2, 3, 4, 5, 6, 7, 8, 9, 10, 11, 12, 13, 14, 15, 16, 17, 18], [18, 20])])
def paths_sums.B21 : List Nat := [0, 0, 0, 0, 4, 28, 60, 0, 0, 128, 896, 1920, 0, 0, 4096, 28672, 61440, 130944, 262140, 1, 1048575, 2097151]
theorem paths_sums.tab21 : rtab .any (opsOf Try.f28 21) = paths_sums.T21 := by kernel_rfl
theorem paths_sums.bits21 : waitsOk paths_sums.T21.2 paths_sums.B21 = true := by kernel_rfl
set_option maxHeartbeats 8000000 in
set_option maxRecDepth 100000 in
theorem paths_sums.calls (k : Nat) (g0_ : Nat) (a0_0 : Int) (a0_1 : Int) (a0_2 : Int) (a0_3 : Int) (a0_4 : Int) (a0_5 : Int) (a0_6 : Int) (a0_7 : Int) (a0_8 : Int) (a0_9 : Int) (a0_10 : Int) (a0_11 : Int) (a0_12 : Int) (a0_13 : Int) (a0_14 : Int) (a0_15 : Int) (r1 : Int) (r2 : Int) (r3 : Int) (r4 : Int) (r5 : Int) (r6 : Int) (r7 : Int) (r8 : Int) (r9 : Int) (r10 : Int) (r11 : Int) (r12 : Int) (r13 : Int) (r14 : Int) (r15 : Int) (r16 : Int) (w : World) (hb0 : w.heap[g0_]? = some (.cells #[.int .i64 a0_0, .int .i64 a0_1, .int .i64 a0_2, .int .i64 a0_3, .int .i64 a0_4, .int .i64 a0_5, .int .i64 a0_6, .int .i64 a0_7, .int .i64 a0_8, .int .i64 a0_9, .int .i64 a0_10, .int .i64 a0_11, .int .i64 a0_12, .int .i64 a0_13, .int .i64 a0_14, .int .i64 a0_15] 23 (0, 0))) (h : paths_sums.f k a0_0 a0_1 a0_2 a0_3 a0_4 a0_5 a0_6 a0_7 a0_8 a0_9 a0_10 a0_11 a0_12 a0_13 a0_14 a0_15 = some (r1, r2, r3, r4, r5, r6, r7, r8, r9, r10, r11, r12, r13, r14, r15, r16)) :
  Calls Try.prog 28 #[.pointer (some ⟨g0_, 0, none⟩)] w fun e w' => e = .returned (.agg #[.int .i64 r1, .int .i64 r2, .int .i64 r3, .int .i64 r4, .int .i64 r5, .int .i64 r6, .int .i64 r7, .int .i64 r8, .int .i64 r9, .int .i64 r10, .int .i64 r11, .int .i64 r12, .int .i64 r13, .int .i64 r14, .int .i64 r15, .int .i64 r16]) ∧ Below w.heap.size w w' := by
 have hu23 := Try.underlying23
 have BK103 := Aside0.mk hb0
 clear hb0
 have HB := Aside0.mk (Below.refl w.heap.size w)
 have H : (paths_sums.l0 k 0 a0_0 a0_1 a0_2 a0_3 a0_4 a0_5 a0_6 a0_7 a0_8 a0_9 a0_10 a0_11 a0_12 a0_13 a0_14 a0_15 0 0 0 0 0 0 0 0 0 0 0 0 0 0 0 0) = some (r1, r2, r3, r4, r5, r6, r7, r8, r9, r10, r11, r12, r13, r14, r15, r16) := h
 clear h
 have H' := Aside0.mk H
 clear H
 go_enter Try.func28, Try.ntmps28
 go_wp2_with (first | ((with_reducible refine gate_dst (N := 2) rfl ?_); refine box_event ?hg (N := 2) ?hd (cs := #[.int .i64 0, .int .i64 0, .int .i64 0, .int .i64 0, .int .i64 0, .int .i64 0, .int .i64 0, .int .i64 0, .int .i64 0, .int .i64 0, .int .i64 0, .int .i64 0, .int .i64 0, .int .i64 0, .int .i64 0, .int .i64 0]) (t := 23) ?hr ?_; (case hd => rfl); (case hg => rfl); (case hr => first | (go_simp; done) | (go_simp; rfl)); intro gb104 hg w2 hbox hb; have n0_ := Aside0.mk (blk_below (g := g0_) (o := .cells #[.int .i64 a0_0, .int .i64 a0_1, .int .i64 a0_2, .int .i64 a0_3, .int .i64 a0_4, .int .i64 a0_5, .int .i64 a0_6, .int .i64 a0_7, .int .i64 a0_8, .int .i64 a0_9, .int .i64 a0_10, .int .i64 a0_11, .int .i64 a0_12, .int .i64 a0_13, .int .i64 a0_14, .int .i64 a0_15] 23 (0, 0)) (by (with_reducible repeat (first | refine blk_drewN ?_ _ | refine blk_drew ?_ | refine blk_alloc ?_ _)); exact BK103.out) hb); have n1_ := Aside0.mk (below_step (by repeat (first | (with_reducible first | exact HB.out | apply below_alloc | apply pw_below_drewN | apply below_drew1 | refine below_set ?_ GE103.out) | exact HB.out)) hb); have n2_ := Aside0.mk (hbox); have n3_ := Aside0.mk ((by rw [hg]; exact (below_size (by repeat (first | (with_reducible first | exact HB.out | apply below_alloc | apply pw_below_drewN | apply below_drew1 | refine below_set ?_ GE103.out) | exact HB.out))) : w.heap.size ≤ gb104)); have n4_ := Aside0.mk ((by rw [hg]; exact (below_size (by repeat (first | (with_reducible first | exact HB.out | apply below_alloc | apply pw_below_drewN | apply below_drew1 | refine below_set ?_ GE103.out) | exact HB.out))) : w.heap.size ≤ gb104)); have n5_ := Aside0.mk ((by rw [hg]; exact Nat.ne_of_lt (blk_lt (g := g0_) (o := .cells #[.int .i64 a0_0, .int .i64 a0_1, .int .i64 a0_2, .int .i64 a0_3, .int .i64 a0_4, .int .i64 a0_5, .int .i64 a0_6, .int .i64 a0_7, .int .i64 a0_8, .int .i64 a0_9, .int .i64 a0_10, .int .i64 a0_11, .int .i64 a0_12, .int .i64 a0_13, .int .i64 a0_14, .int .i64 a0_15] 23 (0, 0)) (by (with_reducible repeat (first | refine blk_drewN ?_ _ | refine blk_drew ?_ | refine blk_alloc ?_ _)); exact BK103.out)) : g0_ ≠ gb104)); have n6_ := Aside0.mk ((by rw [hg]; exact Nat.ne_of_gt (blk_lt (g := g0_) (o := .cells #[.int .i64 a0_0, .int .i64 a0_1, .int .i64 a0_2, .int .i64 a0_3, .int .i64 a0_4, .int .i64 a0_5, .int .i64 a0_6, .int .i64 a0_7, .int .i64 a0_8, .int .i64 a0_9, .int .i64 a0_10, .int .i64 a0_11, .int .i64 a0_12, .int .i64 a0_13, .int .i64 a0_14, .int .i64 a0_15] 23 (0, 0)) (by (with_reducible repeat (first | refine blk_drewN ?_ _ | refine blk_drew ?_ | refine blk_alloc ?_ _)); exact BK103.out)) : gb104 ≠ g0_)); clear BK103; clear HB; have BK103 := n0_; have HB := n1_; have BK104 := n2_; have GW104 := n3_; have GE104 := n4_; have NB103_104 := n5_; have NB104_103 := n6_; clear n0_ n1_ n2_ n3_ n4_ n5_ n6_; clear hb hbox hg) | ((with_reducible refine gate_dst (N := 3) rfl ?_); refine box_event ?hg (N := 3) ?hd (cs := #[.int .i64 0, .int .i64 0, .int .i64 0, .int .i64 0, .int .i64 0, .int .i64 0, .int .i64 0, .int .i64 0, .int .i64 0, .int .i64 0, .int .i64 0, .int .i64 0, .int .i64 0, .int .i64 0, .int .i64 0, .int .i64 0]) (t := 23) ?hr ?_; (case hd => rfl); (case hg => rfl); (case hr => first | (go_simp; done) | (go_simp; rfl)); intro gb105 hg w3 hbox hb; have n0_ := Aside0.mk (blk_below (g := g0_) (o := .cells #[.int .i64 a0_0, .int .i64 a0_1, .int .i64 a0_2, .int .i64 a0_3, .int .i64 a0_4, .int .i64 a0_5, .int .i64 a0_6, .int .i64 a0_7, .int .i64 a0_8, .int .i64 a0_9, .int .i64 a0_10, .int .i64 a0_11, .int .i64 a0_12, .int .i64 a0_13, .int .i64 a0_14, .int .i64 a0_15] 23 (0, 0)) (by (with_reducible repeat (first | refine blk_drewN ?_ _ | refine blk_drew ?_ | refine blk_alloc ?_ _)); exact BK103.out) hb); have n1_ := Aside0.mk (blk_below (g := gb104) (o := .cells #[.int .i64 0, .int .i64 0, .int .i64 0, .int .i64 0, .int .i64 0, .int .i64 0, .int .i64 0, .int .i64 0, .int .i64 0, .int .i64 0, .int .i64 0, .int .i64 0, .int .i64 0, .int .i64 0, .int .i64 0, .int .i64 0] 23 (0, 0)) (by (with_reducible repeat (first | refine blk_drewN ?_ _ | refine blk_drew ?_ | refine blk_alloc ?_ _)); exact BK104.out) hb); have n2_ := Aside0.mk (below_step (by repeat (first | (with_reducible first | exact HB.out | apply below_alloc | apply pw_below_drewN | apply below_drew1 | refine below_set ?_ GE103.out | refine below_set ?_ GE104.out) | exact HB.out)) hb); have n3_ := Aside0.mk (hbox); have n4_ := Aside0.mk ((by rw [hg]; exact (below_size (by repeat (first | (with_reducible first | exact HB.out | apply below_alloc | apply pw_below_drewN | apply below_drew1 | refine below_set ?_ GE103.out | refine below_set ?_ GE104.out) | exact HB.out))) : w.heap.size ≤ gb105)); have n5_ := Aside0.mk ((by rw [hg]; exact (below_size (by repeat (first | (with_reducible first | exact HB.out | apply below_alloc | apply pw_below_drewN | apply below_drew1 | refine below_set ?_ GE103.out | refine below_set ?_ GE104.out) | exact HB.out))) : w.heap.size ≤ gb105)); have n6_ := Aside0.mk ((by rw [hg]; exact Nat.ne_of_lt (blk_lt (g := g0_) (o := .cells #[.int .i64 a0_0, .int .i64 a0_1, .int .i64 a0_2, .int .i64 a0_3, .int .i64 a0_4, .int .i64 a0_5, .int .i64 a0_6, .int .i64 a0_7, .int .i64 a0_8, .int .i64 a0_9, .int .i64 a0_10, .int .i64 a0_11, .int .i64 a0_12, .int .i64 a0_13, .int .i64 a0_14, .int .i64 a0_15] 23 (0, 0)) (by (with_reducible repeat (first | refine blk_drewN ?_ _ | refine blk_drew ?_ | refine blk_alloc ?_ _)); exact BK103.out)) : g0_ ≠ gb105)); have n7_ := Aside0.mk ((by rw [hg]; exact Nat.ne_of_gt (blk_lt (g := g0_) (o := .cells #[.int .i64 a0_0, .int .i64 a0_1, .int .i64 a0_2, .int .i64 a0_3, .int .i64 a0_4, .int .i64 a0_5, .int .i64 a0_6, .int .i64 a0_7, .int .i64 a0_8, .int .i64 a0_9, .int .i64 a0_10, .int .i64 a0_11, .int .i64 a0_12, .int .i64 a0_13, .int .i64 a0_14, .int .i64 a0_15] 23 (0, 0)) (by (with_reducible repeat (first | refine blk_drewN ?_ _ | refine blk_drew ?_ | refine blk_alloc ?_ _)); exact BK103.out)) : gb105 ≠ g0_)); have n8_ := Aside0.mk ((by rw [hg]; exact Nat.ne_of_lt (blk_lt (g := gb104) (o := .cells #[.int .i64 0, .int .i64 0, .int .i64 0, .int .i64 0, .int .i64 0, .int .i64 0, .int .i64 0, .int .i64 0, .int .i64 0, .int .i64 0, .int .i64 0, .int .i64 0, .int .i64 0, .int .i64 0, .int .i64 0, .int .i64 0] 23 (0, 0)) (by (with_reducible repeat (first | refine blk_drewN ?_ _ | refine blk_drew ?_ | refine blk_alloc ?_ _)); exact BK104.out)) : gb104 ≠ gb105)); have n9_ := Aside0.mk ((by rw [hg]; exact Nat.ne_of_gt (blk_lt (g := gb104) (o := .cells #[.int .i64 0, .int .i64 0, .int .i64 0, .int .i64 0, .int .i64 0, .int .i64 0, .int .i64 0, .int .i64 0, .int .i64 0, .int .i64 0, .int .i64 0, .int .i64 0, .int .i64 0, .int .i64 0, .int .i64 0, .int .i64 0] 23 (0, 0)) (by (with_reducible repeat (first | refine blk_drewN ?_ _ | refine blk_drew ?_ | refine blk_alloc ?_ _)); exact BK104.out)) : gb105 ≠ gb104)); clear BK103; clear BK104; clear HB; have BK103 := n0_; have BK104 := n1_; have HB := n2_; have BK105 := n3_; have GW105 := n4_; have GE105 := n5_; have NB103_105 := n6_; have NB105_103 := n7_; have NB104_105 := n8_; have NB105_104 := n9_; clear n0_ n1_ n2_ n3_ n4_ n5_ n6_ n7_ n8_ n9_; clear hb hbox hg))
 go_loopg [9] k (fun kq v9 w' => ∃ (x9_1 : Int) (x106000_1 : Int) (x106001_1 : Int) (x106002_1 : Int) (x106003_1 : Int) (x106004_1 : Int) (x106005_1 : Int) (x106006_1 : Int) (x106007_1 : Int) (x106008_1 : Int) (x106009_1 : Int) (x106010_1 : Int) (x106011_1 : Int) (x106012_1 : Int) (x106013_1 : Int) (x106014_1 : Int) (x106015_1 : Int), v9 = .int .i64 x9_1 ∧ Aside0 (paths_sums.l0 kq x9_1 a0_0 a0_1 a0_2 a0_3 a0_4 a0_5 a0_6 a0_7 a0_8 a0_9 a0_10 a0_11 a0_12 a0_13 a0_14 a0_15 x106000_1 x106001_1 x106002_1 x106003_1 x106004_1 x106005_1 x106006_1 x106007_1 x106008_1 x106009_1 x106010_1 x106011_1 x106012_1 x106013_1 x106014_1 x106015_1 = some (r1, r2, r3, r4, r5, r6, r7, r8, r9, r10, r11, r12, r13, r14, r15, r16)) ∧ Aside0 (kq ≤ k) ∧ Aside0 (w'.heap[g0_]? = some (.cells #[.int .i64 a0_0, .int .i64 a0_1, .int .i64 a0_2, .int .i64 a0_3, .int .i64 a0_4, .int .i64 a0_5, .int .i64 a0_6, .int .i64 a0_7, .int .i64 a0_8, .int .i64 a0_9, .int .i64 a0_10, .int .i64 a0_11, .int .i64 a0_12, .int .i64 a0_13, .int .i64 a0_14, .int .i64 a0_15] 23 (0, 0))) ∧ Aside0 (w'.heap[gb104]? = some (.cells #[.int .i64 0, .int .i64 0, .int .i64 0, .int .i64 0, .int .i64 0, .int .i64 0, .int .i64 0, .int .i64 0, .int .i64 0, .int .i64 0, .int .i64 0, .int .i64 0, .int .i64 0, .int .i64 0, .int .i64 0, .int .i64 0] 23 (0, 0))) ∧ Aside0 (w'.heap[gb105]? = some (.cells #[.int .i64 x106000_1, .int .i64 x106001_1, .int .i64 x106002_1, .int .i64 x106003_1, .int .i64 x106004_1, .int .i64 x106005_1, .int .i64 x106006_1, .int .i64 x106007_1, .int .i64 x106008_1, .int .i64 x106009_1, .int .i64 x106010_1, .int .i64 x106011_1, .int .i64 x106012_1, .int .i64 x106013_1, .int .i64 x106014_1, .int .i64 x106015_1] 23 (0, 0))) ∧ Aside0 (Below w.heap.size w w'))
 case atStart => exact ⟨(0), (0), (0), (0), (0), (0), (0), (0), (0), (0), (0), (0), (0), (0), (0), (0), (0), (by first | rfl | (simp; done) | (simp [*]; done)), H', ⟨Nat.le_refl _⟩, ⟨by (with_reducible repeat (first | refine blk_drewN ?_ _ | refine blk_drew ?_ | refine blk_alloc ?_ _)); exact BK103.out⟩, ⟨by (with_reducible repeat (first | refine blk_drewN ?_ _ | refine blk_drew ?_ | refine blk_alloc ?_ _)); exact BK104.out⟩, ⟨by (with_reducible repeat (first | refine blk_drewN ?_ _ | refine blk_drew ?_ | refine blk_alloc ?_ _)); exact BK105.out⟩, ⟨by repeat (first | (with_reducible first | exact HB.out | apply below_alloc | apply pw_below_drewN | apply below_drew1 | refine below_set ?_ GE103.out | refine below_set ?_ GE104.out | refine below_set ?_ GE105.out) | exact HB.out)⟩⟩
 case round =>
  clear H'
  try clear c2
  try clear p2
  obtain ⟨x9_1, x106000_1, x106001_1, x106002_1, x106003_1, x106004_1, x106005_1, x106006_1, x106007_1, x106008_1, x106009_1, x106010_1, x106011_1, x106012_1, x106013_1, x106014_1, x106015_1, rfl, HA, HK1, BK103, BK104, BK105, HB⟩ := hrel
  cases gk with
  | zero => exact absurd HA.out (by simp [paths_sums.l0])
  | succ k1 =>
   have H := HA.out
   clear HA
   simp only [paths_sums.l0] at H
   by_cases c4 : x9_1 < 4
   ·rw [if_pos c4] at H
    have c4b0 : decide (x9_1 < 4) = true := decide_eq_true c4
    clear c4
    have H' := Aside0.mk H
    clear H
    go_wp2
    go_loopg [12] k1 (fun kq v12 w' => ∃ (x12_2 : Int) (x106000_2 : Int) (x106001_2 : Int) (x106002_2 : Int) (x106003_2 : Int) (x106004_2 : Int) (x106005_2 : Int) (x106006_2 : Int) (x106007_2 : Int) (x106008_2 : Int) (x106009_2 : Int) (x106010_2 : Int) (x106011_2 : Int) (x106012_2 : Int) (x106013_2 : Int) (x106014_2 : Int) (x106015_2 : Int), v12 = .int .i64 x12_2 ∧ Aside0 (paths_sums.l1 kq x9_1 x9_1 x12_2 a0_0 a0_1 a0_2 a0_3 a0_4 a0_5 a0_6 a0_7 a0_8 a0_9 a0_10 a0_11 a0_12 a0_13 a0_14 a0_15 x106000_2 x106001_2 x106002_2 x106003_2 x106004_2 x106005_2 x106006_2 x106007_2 x106008_2 x106009_2 x106010_2 x106011_2 x106012_2 x106013_2 x106014_2 x106015_2 = some (r1, r2, r3, r4, r5, r6, r7, r8, r9, r10, r11, r12, r13, r14, r15, r16)) ∧ Aside0 (kq ≤ k1) ∧ Aside0 (w'.heap[g0_]? = some (.cells #[.int .i64 a0_0, .int .i64 a0_1, .int .i64 a0_2, .int .i64 a0_3, .int .i64 a0_4, .int .i64 a0_5, .int .i64 a0_6, .int .i64 a0_7, .int .i64 a0_8, .int .i64 a0_9, .int .i64 a0_10, .int .i64 a0_11, .int .i64 a0_12, .int .i64 a0_13, .int .i64 a0_14, .int .i64 a0_15] 23 (0, 0))) ∧ Aside0 (w'.heap[gb104]? = some (.cells #[.int .i64 0, .int .i64 0, .int .i64 0, .int .i64 0, .int .i64 0, .int .i64 0, .int .i64 0, .int .i64 0, .int .i64 0, .int .i64 0, .int .i64 0, .int .i64 0, .int .i64 0, .int .i64 0, .int .i64 0, .int .i64 0] 23 (0, 0))) ∧ Aside0 (w'.heap[gb105]? = some (.cells #[.int .i64 x106000_2, .int .i64 x106001_2, .int .i64 x106002_2, .int .i64 x106003_2, .int .i64 x106004_2, .int .i64 x106005_2, .int .i64 x106006_2, .int .i64 x106007_2, .int .i64 x106008_2, .int .i64 x106009_2, .int .i64 x106010_2, .int .i64 x106011_2, .int .i64 x106012_2, .int .i64 x106013_2, .int .i64 x106014_2, .int .i64 x106015_2] 23 (0, 0))) ∧ Aside0 (Below w.heap.size w w'))
    case atStart => exact ⟨(0), (x106000_1), (x106001_1), (x106002_1), (x106003_1), (x106004_1), (x106005_1), (x106006_1), (x106007_1), (x106008_1), (x106009_1), (x106010_1), (x106011_1), (x106012_1), (x106013_1), (x106014_1), (x106015_1), (by first | rfl | (simp; done) | (simp [*]; done)), H', ⟨Nat.le_refl _⟩, ⟨by (with_reducible repeat (first | refine blk_drewN ?_ _ | refine blk_drew ?_ | refine blk_alloc ?_ _)); exact BK103.out⟩, ⟨by (with_reducible repeat (first | refine blk_drewN ?_ _ | refine blk_drew ?_ | refine blk_alloc ?_ _)); exact BK104.out⟩, ⟨by (with_reducible repeat (first | refine blk_drewN ?_ _ | refine blk_drew ?_ | refine blk_alloc ?_ _)); exact BK105.out⟩, ⟨by repeat (first | (with_reducible first | exact HB.out | apply below_alloc | apply pw_below_drewN | apply below_drew1 | refine below_set ?_ GE103.out | refine below_set ?_ GE104.out | refine below_set ?_ GE105.out) | exact HB.out)⟩⟩
    case round =>
     clear H'
     try clear c2
     try clear p2
     try clear c4
     try clear c4b0
     try clear p2
     obtain ⟨x12_2, x106000_2, x106001_2, x106002_2, x106003_2, x106004_2, x106005_2, x106006_2, x106007_2, x106008_2, x106009_2, x106010_2, x106011_2, x106012_2, x106013_2, x106014_2, x106015_2, rfl, HA, HK2, BK103, BK104, BK105, HB⟩ := hrel
     cases gk with
     | zero => exact absurd HA.out (by simp [paths_sums.l1])
     | succ k2 =>
      have H := HA.out
      clear HA
      simp only [paths_sums.l1] at H
      by_cases c5 : x12_2 < 4
      ·rw [if_pos c5] at H
       have c5b0 : decide (x12_2 < 4) = true := decide_eq_true c5
       clear c5
       by_cases c6 : x9_1 = x12_2
       ·rw [if_pos c6] at H
        have c6b0 : (x9_1 == x12_2) = true := beq_iff_eq.mpr c6
        have c6b1 : (x9_1 != x12_2) = false := bne_eq_false_iff_eq.mpr c6
        clear c6
        have H' := Aside0.mk H
        clear H
        go_wp2
        go_roundg k2
        case measure => have := HK1.out; have := HK2.out; omega
        case rel => exact ⟨(wrap64 (x12_2 + 1)), (x106000_2), (x106001_2), (x106002_2), (x106003_2), (x106004_2), (x106005_2), (x106006_2), (x106007_2), (x106008_2), (x106009_2), (x106010_2), (x106011_2), (x106012_2), (x106013_2), (x106014_2), (x106015_2), (by first | rfl | (simp; done) | (simp [*]; done)), H', ⟨by have := HK1.out; have := HK2.out; omega⟩, ⟨by (with_reducible repeat (first | refine blk_drewN ?_ _ | refine blk_drew ?_ | refine blk_alloc ?_ _)); exact BK103.out⟩, ⟨by (with_reducible repeat (first | refine blk_drewN ?_ _ | refine blk_drew ?_ | refine blk_alloc ?_ _)); exact BK104.out⟩, ⟨by (with_reducible repeat (first | refine blk_drewN ?_ _ | refine blk_drew ?_ | refine blk_alloc ?_ _)); exact BK105.out⟩, ⟨by repeat (first | (with_reducible first | exact HB.out | apply below_alloc | apply pw_below_drewN | apply below_drew1 | refine below_set ?_ GE103.out | refine below_set ?_ GE104.out | refine below_set ?_ GE105.out) | exact HB.out)⟩⟩
       ·rw [if_neg c6] at H
        have c6b0 : (x9_1 == x12_2) = false := beq_eq_false_iff_ne.mpr c6
        have c6b1 : (x9_1 != x12_2) = true := bne_iff_ne.mpr c6
        by_cases c7 : 0 ≤ x9_1
        ·rw [if_pos c7] at H
         have c7b0 : decide (0 ≤ x9_1) = true := decide_eq_true c7
         clear c7
         by_cases c8 : x9_1 < 4
         ·rw [if_pos c8] at H
          have c8b0 : decide (x9_1 < 4) = true := decide_eq_true c8
          clear c8
          by_cases c9 : 0 ≤ x12_2
          ·rw [if_pos c9] at H
           have c9b0 : decide (0 ≤ x12_2) = true := decide_eq_true c9
           clear c9
           replace H := Option.bind_eq_some_iff.mp H
           obtain ⟨t106, A100, H⟩ := H
           replace H : (paths_sums.l1 k2 x9_1 x9_1 (wrap64 (x12_2 + 1)) a0_0 a0_1 a0_2 a0_3 a0_4 a0_5 a0_6 a0_7 a0_8 a0_9 a0_10 a0_11 a0_12 a0_13 a0_14 a0_15 (up (x9_1 == 0 && x12_2 == 0) t106 x106000_2) (up (x9_1 == 0 && x12_2 == 1) t106 x106001_2) (up (x9_1 == 0 && x12_2 == 2) t106 x106002_2) (up (x9_1 == 0 && x12_2 == 3) t106 x106003_2) (up (x9_1 == 1 && x12_2 == 0) t106 x106004_2) (up (x9_1 == 1 && x12_2 == 1) t106 x106005_2) (up (x9_1 == 1 && x12_2 == 2) t106 x106006_2) (up (x9_1 == 1 && x12_2 == 3) t106 x106007_2) (up (x9_1 == 2 && x12_2 == 0) t106 x106008_2) (up (x9_1 == 2 && x12_2 == 1) t106 x106009_2) (up (x9_1 == 2 && x12_2 == 2) t106 x106010_2) (up (x9_1 == 2 && x12_2 == 3) t106 x106011_2) (up (x9_1 == 3 && x12_2 == 0) t106 x106012_2) (up (x9_1 == 3 && x12_2 == 1) t106 x106013_2) (up (x9_1 == 3 && x12_2 == 2) t106 x106014_2) (up (x9_1 == 3 && x12_2 == 3) t106 x106015_2)) = some (r1, r2, r3, r4, r5, r6, r7, r8, r9, r10, r11, r12, r13, r14, r15, r16) := H
           have A10 := Aside0.mk A100
           clear A100
           have H' := Aside0.mk H
           clear H
           try go_wp2
           have n0_ := Aside0.mk (blk_drew BK103.out)
           have n1_ := Aside0.mk (blk_drew BK104.out)
           have n2_ := Aside0.mk (blk_drew BK105.out)
           have n3_ := Aside0.mk (below_drew1 HB.out)
           clear BK103
           clear BK104
           clear BK105
           clear HB
           have BK103 := n0_
           have BK104 := n1_
           have BK105 := n2_
           have HB := n3_
           clear n0_ n1_ n2_ n3_
           have p12 : (0 ≤ (x9_1 : Int)) = True := eq_true (of_decide_eq_true (by first | (with_reducible assumption) | assumption))
           have q12 : ((x9_1 : Int) < 4) = True := eq_true (of_decide_eq_true (by first | (with_reducible assumption) | assumption))
           have p13 : (0 ≤ (x12_2 : Int)) = True := eq_true (of_decide_eq_true (by first | (with_reducible assumption) | assumption))
           have q13 : ((x12_2 : Int) < 4) = True := eq_true (of_decide_eq_true (by first | (with_reducible assumption) | assumption))
           have p15 : (0 ≤ (x9_1 : Int)) = True := eq_true (of_decide_eq_true (by first | (with_reducible assumption) | assumption))
           have q15 : ((x9_1 : Int) < 4) = True := eq_true (of_decide_eq_true (by first | (with_reducible assumption) | assumption))
           refine start_ (n := 13) (S := fun w' => w'.cell? ⟨g0_, x9_1.toNat * 4 + x12_2.toNat, none⟩ = some (.int .i64 (ix4 (ix4 a0_0 a0_1 a0_2 a0_3 x12_2) (ix4 a0_4 a0_5 a0_6 a0_7 x12_2) (ix4 a0_8 a0_9 a0_10 a0_11 x12_2) (ix4 a0_12 a0_13 a0_14 a0_15 x12_2) x9_1))) (ds := []) mk_13_0 (by kernel_rfl) rfl rfl ((blk_cell BK103.out (x9_1.toNat * 4 + x12_2.toNat)).trans (ix_44 (Value.int .i64) _ _ _ _ _ _ _ _ _ _ _ _ _ _ _ _ x9_1 x12_2  (of_decide_eq_true (by first | (with_reducible assumption) | assumption)) (of_decide_eq_true (by first | (with_reducible assumption) | assumption))  (of_decide_eq_true (by first | (with_reducible assumption) | assumption)) (of_decide_eq_true (by first | (with_reducible assumption) | assumption)))) (fun hHeld => ?_); refine with_tabW paths_sums.tab9 paths_sums.bits9 (fun HT_ HW_ => ?_)
           generalize wr.drew = w11 at BK103 BK104 BK105 HB hHeld ⊢
           refine pure_ (i := 0) (N := some 18) (v := ?_) (a' := ?_) mk_13_1 rfl rfl (any_of HT_.out (by kernel_rfl)) (fun _ _ _ h => h) (Or.inl ⟨by rfl, ?_⟩) ?_ ?_
           rotate_left
           ·intro w'
            go_simp
            with_reducible rfl
           rotate_left
           ·simp only [Act.put, List.setIfInBounds_toArray, List.set_cons_zero, List.set_cons_succ, i64_w, i32_w]
            rfl
           refine pure_ (i := 1) (N := some 19) (v := ?_) (a' := ?_) mk_13_2 rfl rfl (any_of HT_.out (by kernel_rfl)) (fun _ _ _ h => h) (Or.inl ⟨by rfl, ?_⟩) ?_ ?_
           rotate_left
           ·intro w'
            go_simp
            with_reducible rfl
           rotate_left
           ·simp only [Act.put, List.setIfInBounds_toArray, List.set_cons_zero, List.set_cons_succ, i64_w, i32_w]
            rfl
           refine pure_ (i := 2) (N := some 20) (v := ?_) (a' := ?_) mk_13_3 rfl rfl (any_of HT_.out (by kernel_rfl)) (fun _ _ _ h => h) (Or.inl ⟨by rfl, ?_⟩) ?_ ?_
           rotate_left
           ·intro w'
            go_simp
            with_reducible rfl
           rotate_left
           ·simp only [Act.put, List.setIfInBounds_toArray, List.set_cons_zero, List.set_cons_succ, i64_w, i32_w]
            rfl
           refine pure_ (i := 3) (N := some 21) (v := ?_) (a' := ?_) mk_13_4 rfl rfl (any_of HT_.out (by kernel_rfl)) (fun _ _ _ h => h) (Or.inl ⟨by rfl, ?_⟩) ?_ ?_
           rotate_left
           ·intro w'
            go_simp
            with_reducible rfl
           rotate_left
           ·simp only [Act.put, List.setIfInBounds_toArray, List.set_cons_zero, List.set_cons_succ, i64_w, i32_w]
            rfl
           refine pure_ (i := 4) (N := some 22) (v := ?_) (a' := ?_) mk_13_5 rfl rfl (any_of HT_.out (by kernel_rfl)) (fun _ _ _ h => h) (Or.inl ⟨by rfl, ?_⟩) ?_ ?_
           rotate_left
           ·intro w'
            go_simp
            with_reducible rfl
           rotate_left
           ·simp only [Act.put, List.setIfInBounds_toArray, List.set_cons_zero, List.set_cons_succ, i64_w, i32_w]
            rfl
           refine pure_ (i := 5) (N := some 23) (v := ?_) (a' := ?_) mk_13_6 rfl rfl (any_of HT_.out (by kernel_rfl)) (fun _ _ _ h => h) (Or.inl ⟨by rfl, ?_⟩) ?_ ?_
           rotate_left
           ·intro w'
            go_simp
            with_reducible rfl
           rotate_left
           ·simp only [Act.put, List.setIfInBounds_toArray, List.set_cons_zero, List.set_cons_succ, i64_w, i32_w]
            rfl
           refine pure_ (i := 6) (N := some 24) (v := ?_) (a' := ?_) mk_13_7 rfl rfl (any_of HT_.out (by kernel_rfl)) (fun _ _ _ h => h) (Or.inl ⟨by rfl, ?_⟩) ?_ ?_
           rotate_left
           ·intro w'
            go_simp
            with_reducible rfl
           rotate_left
           ·simp only [Act.put, List.setIfInBounds_toArray, List.set_cons_zero, List.set_cons_succ, i64_w, i32_w]
            rfl
           refine pure_ (i := 7) (N := some 25) (v := ?_) (a' := ?_) mk_13_8 rfl rfl (any_of HT_.out (by kernel_rfl)) (fun _ _ _ h => h) (Or.inl ⟨by rfl, ?_⟩) ?_ ?_
           rotate_left
           ·intro w'
            go_simp
            with_reducible rfl
           rotate_left
           ·simp only [Act.put, List.setIfInBounds_toArray, List.set_cons_zero, List.set_cons_succ, i64_w, i32_w]
            rfl
           refine pure_ (i := 10) (N := some 28) (v := ?_) (a' := ?_) #[true, true, true, true, true, true, true, true, false, false, true, false, false] rfl rfl (any_of HT_.out (by kernel_rfl)) (fun _ _ _ h => h) (Or.inl ⟨by rfl, ?_⟩) ?_ ?_
           rotate_left
           ·intro w'
            go_simp
            with_reducible rfl
           rotate_left
           ·simp only [Act.put, List.setIfInBounds_toArray, List.set_cons_zero, List.set_cons_succ, i64_w, i32_w]
            rfl
           refine take_ (i := 8) (N := some 26) (v := ?_) (a' := ?_) #[true, true, true, true, true, true, true, true, true, false, true, false, false] rfl rfl (take_ofW HT_.out HW_.out (by kernel_rfl)) (fun _ _ _ h => h) (Or.inl ⟨by rfl, ?_⟩) hHeld ?_ ?_
           rotate_left
           ·intro w' s0
            go_simp
            with_reducible rfl
           rotate_left
           ·simp only [Act.put, List.setIfInBounds_toArray, List.set_cons_zero, List.set_cons_succ, i64_w, i32_w]
            rfl
           refine one_ (i := 9) (N := some 27) mk_13_11 rfl rfl (one_of HT_.out (by kernel_rfl)) (by decide) (fun K hK => ?_)
           refine goes_ Try.func36 (by kernel_rfl) rfl #[.int .i64 (ix4 (ix4 a0_0 a0_1 a0_2 a0_3 x12_2) (ix4 a0_4 a0_5 a0_6 a0_7 x12_2) (ix4 a0_8 a0_9 a0_10 a0_11 x12_2) (ix4 a0_12 a0_13 a0_14 a0_15 x12_2) x9_1)] (by rfl) rfl rfl (by (try simp only [List.map_toArray, List.map_cons, List.map_nil]); first | done | rfl | (simp only [List.length_drop, List.length_take]; rfl)) ?_
           with_reducible refine (paths_step.calls (ix4 (ix4 a0_0 a0_1 a0_2 a0_3 x12_2) (ix4 a0_4 a0_5 a0_6 a0_7 x12_2) (ix4 a0_8 a0_9 a0_10 a0_11 x12_2) (ix4 a0_12 a0_13 a0_14 a0_15 x12_2) x9_1) t106 _ A10.out).mono ?_
           rintro e w' ⟨rfl, ⟨nd, rfl⟩⟩
           refine ⟨_, rfl, ?_⟩
           have p16 : (0 ≤ (x12_2 : Int)) = True := eq_true (of_decide_eq_true (by first | (with_reducible assumption) | assumption))
           have q16 : ((x12_2 : Int) < 4) = True := eq_true (of_decide_eq_true (by first | (with_reducible assumption) | assumption))
           refine hK.out _ _ ((blk_cell BK103.out (x9_1.toNat * 4 + x12_2.toNat)).trans (ix_44 (Value.int .i64) _ _ _ _ _ _ _ _ _ _ _ _ _ _ _ _ x9_1 x12_2  (of_decide_eq_true (by first | (with_reducible assumption) | assumption)) (of_decide_eq_true (by first | (with_reducible assumption) | assumption))  (of_decide_eq_true (by first | (with_reducible assumption) | assumption)) (of_decide_eq_true (by first | (with_reducible assumption) | assumption)))) (fun hHeld => ?_)
           clear hK K
           refine norm_ (a' := ?_) ?_ ?_
           rotate_left
           ·show Act.put _ (some 27) _ = _
            simp only [Act.put, List.setIfInBounds_toArray, List.set_cons_zero, List.set_cons_succ, i64_w, i32_w]
            rfl
           refine pure_ (i := 11) (N := some 29) (v := ?_) (a' := ?_) mk_13_12 rfl rfl (any_of HT_.out (by kernel_rfl)) (fun _ _ _ h => h) (Or.inl ⟨by rfl, ?_⟩) ?_ ?_
           rotate_left
           ·intro w'
            go_simp
            with_reducible rfl
           rotate_left
           ·simp only [Act.put, List.setIfInBounds_toArray, List.set_cons_zero, List.set_cons_succ, i64_w, i32_w]
            rfl
           refine one_ (i := 12) (N := none) mk_13_13 rfl rfl (one_of HT_.out (by kernel_rfl)) (by decide) (fun K hK => ?_)
           have hs17 : w11.cell? ⟨gb105, x9_1.toNat * 4 + x12_2.toNat, none⟩ = some (.int .i64 (ix4 (ix4 x106000_2 x106001_2 x106002_2 x106003_2 x12_2) (ix4 x106004_2 x106005_2 x106006_2 x106007_2 x12_2) (ix4 x106008_2 x106009_2 x106010_2 x106011_2 x12_2) (ix4 x106012_2 x106013_2 x106014_2 x106015_2 x12_2) x9_1)) := (blk_cell BK105.out (x9_1.toNat * 4 + x12_2.toNat)).trans (ix_44 (Value.int .i64) _ _ _ _ _ _ _ _ _ _ _ _ _ _ _ _ x9_1 x12_2  (of_decide_eq_true (by first | (with_reducible assumption) | assumption)) (of_decide_eq_true (by first | (with_reducible assumption) | assumption))  (of_decide_eq_true (by first | (with_reducible assumption) | assumption)) (of_decide_eq_true (by first | (with_reducible assumption) | assumption)))
           have hfs17 := blk_frozen BK105.out (x9_1.toNat * 4 + x12_2.toNat)
           have hns17_0 := NB103_105.out
           have hns17_1 := NB104_105.out
           have hms17_0 := NB105_103.out
           have hms17_1 := NB105_104.out
           refine skip_ (w1 := ?_) (by rfl) rfl ?_ ?_
           rotate_left
           ·go_simp
            rfl
           refine hK.out _ _ (((cell_far (p := ⟨gb105, _, none⟩) NB103_105.out _).trans (hHeld))) (fun hHeld => ?_)
           clear hK K
           refine done_ (done_of HT_.out (by kernel_rfl)) ?_
           try go_wp2
           go_roundg k2
           case measure => have := HK1.out; have := HK2.out; omega
           case rel => exact ⟨(wrap64 (x12_2 + 1)), (up (x9_1 == 0 && x12_2 == 0) t106 x106000_2), (up (x9_1 == 0 && x12_2 == 1) t106 x106001_2), (up (x9_1 == 0 && x12_2 == 2) t106 x106002_2), (up (x9_1 == 0 && x12_2 == 3) t106 x106003_2), (up (x9_1 == 1 && x12_2 == 0) t106 x106004_2), (up (x9_1 == 1 && x12_2 == 1) t106 x106005_2), (up (x9_1 == 1 && x12_2 == 2) t106 x106006_2), (up (x9_1 == 1 && x12_2 == 3) t106 x106007_2), (up (x9_1 == 2 && x12_2 == 0) t106 x106008_2), (up (x9_1 == 2 && x12_2 == 1) t106 x106009_2), (up (x9_1 == 2 && x12_2 == 2) t106 x106010_2), (up (x9_1 == 2 && x12_2 == 3) t106 x106011_2), (up (x9_1 == 3 && x12_2 == 0) t106 x106012_2), (up (x9_1 == 3 && x12_2 == 1) t106 x106013_2), (up (x9_1 == 3 && x12_2 == 2) t106 x106014_2), (up (x9_1 == 3 && x12_2 == 3) t106 x106015_2), (by first | rfl | (simp; done) | (simp [*]; done)), H', ⟨by have := HK1.out; have := HK2.out; omega⟩, ⟨by (with_reducible repeat (first | refine blk_drewN ?_ _ | refine blk_drew ?_ | refine blk_alloc ?_ _)); refine blk_far ?_ NB103_105.out _; (with_reducible repeat (first | refine blk_drewN ?_ _ | refine blk_drew ?_ | refine blk_alloc ?_ _)); exact BK103.out⟩, ⟨by (with_reducible repeat (first | refine blk_drewN ?_ _ | refine blk_drew ?_ | refine blk_alloc ?_ _)); refine blk_far ?_ NB104_105.out _; (with_reducible repeat (first | refine blk_drewN ?_ _ | refine blk_drew ?_ | refine blk_alloc ?_ _)); exact BK104.out⟩, ⟨by (with_reducible repeat (first | refine blk_drewN ?_ _ | refine blk_drew ?_ | refine blk_alloc ?_ _)); refine blk_put (cs := #[.int .i64 x106000_2, .int .i64 x106001_2, .int .i64 x106002_2, .int .i64 x106003_2, .int .i64 x106004_2, .int .i64 x106005_2, .int .i64 x106006_2, .int .i64 x106007_2, .int .i64 x106008_2, .int .i64 x106009_2, .int .i64 x106010_2, .int .i64 x106011_2, .int .i64 x106012_2, .int .i64 x106013_2, .int .i64 x106014_2, .int .i64 x106015_2]) ?_ (x9_1.toNat * 4 + x12_2.toNat) _ (up_44 (Value.int .i64) _ _ _ _ _ _ _ _ _ _ _ _ _ _ _ _ x9_1 x12_2 t106 (of_decide_eq_true (by first | (with_reducible assumption) | assumption)) (of_decide_eq_true (by first | (with_reducible assumption) | assumption)) (of_decide_eq_true (by first | (with_reducible assumption) | assumption)) (of_decide_eq_true (by first | (with_reducible assumption) | assumption))); (with_reducible repeat (first | refine blk_drewN ?_ _ | refine blk_drew ?_ | refine blk_alloc ?_ _)); exact BK105.out⟩, ⟨by repeat (first | (with_reducible first | exact HB.out | apply below_alloc | apply pw_below_drewN | apply below_drew1 | refine below_set ?_ GE103.out | refine below_set ?_ GE104.out | refine below_set ?_ GE105.out) | exact HB.out)⟩⟩
          ·rw [if_neg c9] at H
           exact absurd H (by simp)
         ·rw [if_neg c8] at H
          exact absurd H (by simp)
        ·rw [if_neg c7] at H
         exact absurd H (by simp)
      ·rw [if_neg c5] at H
       have c5b0 : decide (x12_2 < 4) = false := decide_eq_false c5
       clear c5
       have H' := Aside0.mk H
       clear H
       go_wp2
       go_roundg k2
       case measure => have := HK1.out; have := HK2.out; omega
       case rel => exact ⟨(wrap64 (x9_1 + 1)), (x106000_2), (x106001_2), (x106002_2), (x106003_2), (x106004_2), (x106005_2), (x106006_2), (x106007_2), (x106008_2), (x106009_2), (x106010_2), (x106011_2), (x106012_2), (x106013_2), (x106014_2), (x106015_2), (by first | rfl | (simp; done) | (simp [*]; done)), H', ⟨by have := HK1.out; have := HK2.out; omega⟩, ⟨by (with_reducible repeat (first | refine blk_drewN ?_ _ | refine blk_drew ?_ | refine blk_alloc ?_ _)); exact BK103.out⟩, ⟨by (with_reducible repeat (first | refine blk_drewN ?_ _ | refine blk_drew ?_ | refine blk_alloc ?_ _)); exact BK104.out⟩, ⟨by (with_reducible repeat (first | refine blk_drewN ?_ _ | refine blk_drew ?_ | refine blk_alloc ?_ _)); exact BK105.out⟩, ⟨by repeat (first | (with_reducible first | exact HB.out | apply below_alloc | apply pw_below_drewN | apply below_drew1 | refine below_set ?_ GE103.out | refine below_set ?_ GE104.out | refine below_set ?_ GE105.out) | exact HB.out)⟩⟩
   ·rw [if_neg c4] at H
    have c4b0 : decide (x9_1 < 4) = false := decide_eq_false c4
    clear c4
    have H' := Aside0.mk H
    clear H
    go_wp2
    go_loopg [32] k1 (fun kq v32 w' => ∃ (x32_2 : Int) (x106000_2 : Int) (x106001_2 : Int) (x106002_2 : Int) (x106003_2 : Int) (x106004_2 : Int) (x106005_2 : Int) (x106006_2 : Int) (x106007_2 : Int) (x106008_2 : Int) (x106009_2 : Int) (x106010_2 : Int) (x106011_2 : Int) (x106012_2 : Int) (x106013_2 : Int) (x106014_2 : Int) (x106015_2 : Int), v32 = .int .i64 x32_2 ∧ Aside0 (paths_sums.l2 kq x32_2 x106000_2 x106001_2 x106002_2 x106003_2 x106004_2 x106005_2 x106006_2 x106007_2 x106008_2 x106009_2 x106010_2 x106011_2 x106012_2 x106013_2 x106014_2 x106015_2 = some (r1, r2, r3, r4, r5, r6, r7, r8, r9, r10, r11, r12, r13, r14, r15, r16)) ∧ Aside0 (kq ≤ k1) ∧ Aside0 (w'.heap[g0_]? = some (.cells #[.int .i64 a0_0, .int .i64 a0_1, .int .i64 a0_2, .int .i64 a0_3, .int .i64 a0_4, .int .i64 a0_5, .int .i64 a0_6, .int .i64 a0_7, .int .i64 a0_8, .int .i64 a0_9, .int .i64 a0_10, .int .i64 a0_11, .int .i64 a0_12, .int .i64 a0_13, .int .i64 a0_14, .int .i64 a0_15] 23 (0, 0))) ∧ Aside0 (w'.heap[gb104]? = some (.cells #[.int .i64 0, .int .i64 0, .int .i64 0, .int .i64 0, .int .i64 0, .int .i64 0, .int .i64 0, .int .i64 0, .int .i64 0, .int .i64 0, .int .i64 0, .int .i64 0, .int .i64 0, .int .i64 0, .int .i64 0, .int .i64 0] 23 (0, 0))) ∧ Aside0 (w'.heap[gb105]? = some (.cells #[.int .i64 x106000_2, .int .i64 x106001_2, .int .i64 x106002_2, .int .i64 x106003_2, .int .i64 x106004_2, .int .i64 x106005_2, .int .i64 x106006_2, .int .i64 x106007_2, .int .i64 x106008_2, .int .i64 x106009_2, .int .i64 x106010_2, .int .i64 x106011_2, .int .i64 x106012_2, .int .i64 x106013_2, .int .i64 x106014_2, .int .i64 x106015_2] 23 (0, 0))) ∧ Aside0 (Below w.heap.size w w'))
    case atStart => exact ⟨(0), (x106000_1), (x106001_1), (x106002_1), (x106003_1), (x106004_1), (x106005_1), (x106006_1), (x106007_1), (x106008_1), (x106009_1), (x106010_1), (x106011_1), (x106012_1), (x106013_1), (x106014_1), (x106015_1), (by first | rfl | (simp; done) | (simp [*]; done)), H', ⟨Nat.le_refl _⟩, ⟨by (with_reducible repeat (first | refine blk_drewN ?_ _ | refine blk_drew ?_ | refine blk_alloc ?_ _)); exact BK103.out⟩, ⟨by (with_reducible repeat (first | refine blk_drewN ?_ _ | refine blk_drew ?_ | refine blk_alloc ?_ _)); exact BK104.out⟩, ⟨by (with_reducible repeat (first | refine blk_drewN ?_ _ | refine blk_drew ?_ | refine blk_alloc ?_ _)); exact BK105.out⟩, ⟨by repeat (first | (with_reducible first | exact HB.out | apply below_alloc | apply pw_below_drewN | apply below_drew1 | refine below_set ?_ GE103.out | refine below_set ?_ GE104.out | refine below_set ?_ GE105.out) | exact HB.out)⟩⟩
    case round =>
     clear H'
     try clear p1
     try clear q1
     try clear c2
     try clear p2
     try clear c3
     try clear c4
     try clear c4b0
     try clear c5
     try clear c5b0
     try clear c6
     try clear c6b0
     try clear c6b1
     try clear p6
     try clear c7
     try clear c7b0
     try clear c8
     try clear c8b0
     try clear c9
     try clear c9b0
     try clear p12
     try clear q12
     try clear p13
     try clear q13
     try clear p15
     try clear q15
     try clear p16
     try clear q16
     try clear p12
     try clear p13
     try clear p15
     try clear p16
     try clear p2
     try clear q12
     try clear q13
     try clear q15
     try clear q16
     obtain ⟨x32_2, x106000_2, x106001_2, x106002_2, x106003_2, x106004_2, x106005_2, x106006_2, x106007_2, x106008_2, x106009_2, x106010_2, x106011_2, x106012_2, x106013_2, x106014_2, x106015_2, rfl, HA, HK2, BK103, BK104, BK105, HB⟩ := hrel
     cases gk with
     | zero => exact absurd HA.out (by simp [paths_sums.l2])
     | succ k2 =>
      have H := HA.out
      clear HA
      simp only [paths_sums.l2] at H
      by_cases c18 : x32_2 < 4
      ·rw [if_pos c18] at H
       have c18b0 : decide (x32_2 < 4) = true := decide_eq_true c18
       clear c18
       have H' := Aside0.mk H
       clear H
       go_wp2
       go_loopg [35] k2 (fun kq v35 w' => ∃ (x35_3 : Int) (x106000_3 : Int) (x106001_3 : Int) (x106002_3 : Int) (x106003_3 : Int) (x106004_3 : Int) (x106005_3 : Int) (x106006_3 : Int) (x106007_3 : Int) (x106008_3 : Int) (x106009_3 : Int) (x106010_3 : Int) (x106011_3 : Int) (x106012_3 : Int) (x106013_3 : Int) (x106014_3 : Int) (x106015_3 : Int), v35 = .int .i64 x35_3 ∧ Aside0 (paths_sums.l3 kq x32_2 x32_2 x35_3 x106000_3 x106001_3 x106002_3 x106003_3 x106004_3 x106005_3 x106006_3 x106007_3 x106008_3 x106009_3 x106010_3 x106011_3 x106012_3 x106013_3 x106014_3 x106015_3 = some (r1, r2, r3, r4, r5, r6, r7, r8, r9, r10, r11, r12, r13, r14, r15, r16)) ∧ Aside0 (kq ≤ k2) ∧ Aside0 (w'.heap[g0_]? = some (.cells #[.int .i64 a0_0, .int .i64 a0_1, .int .i64 a0_2, .int .i64 a0_3, .int .i64 a0_4, .int .i64 a0_5, .int .i64 a0_6, .int .i64 a0_7, .int .i64 a0_8, .int .i64 a0_9, .int .i64 a0_10, .int .i64 a0_11, .int .i64 a0_12, .int .i64 a0_13, .int .i64 a0_14, .int .i64 a0_15] 23 (0, 0))) ∧ Aside0 (w'.heap[gb104]? = some (.cells #[.int .i64 0, .int .i64 0, .int .i64 0, .int .i64 0, .int .i64 0, .int .i64 0, .int .i64 0, .int .i64 0, .int .i64 0, .int .i64 0, .int .i64 0, .int .i64 0, .int .i64 0, .int .i64 0, .int .i64 0, .int .i64 0] 23 (0, 0))) ∧ Aside0 (w'.heap[gb105]? = some (.cells #[.int .i64 x106000_3, .int .i64 x106001_3, .int .i64 x106002_3, .int .i64 x106003_3, .int .i64 x106004_3, .int .i64 x106005_3, .int .i64 x106006_3, .int .i64 x106007_3, .int .i64 x106008_3, .int .i64 x106009_3, .int .i64 x106010_3, .int .i64 x106011_3, .int .i64 x106012_3, .int .i64 x106013_3, .int .i64 x106014_3, .int .i64 x106015_3] 23 (0, 0))) ∧ Aside0 (Below w.heap.size w w'))
       case atStart => exact ⟨(0), (x106000_2), (x106001_2), (x106002_2), (x106003_2), (x106004_2), (x106005_2), (x106006_2), (x106007_2), (x106008_2), (x106009_2), (x106010_2), (x106011_2), (x106012_2), (x106013_2), (x106014_2), (x106015_2), (by first | rfl | (simp; done) | (simp [*]; done)), H', ⟨Nat.le_refl _⟩, ⟨by (with_reducible repeat (first | refine blk_drewN ?_ _ | refine blk_drew ?_ | refine blk_alloc ?_ _)); exact BK103.out⟩, ⟨by (with_reducible repeat (first | refine blk_drewN ?_ _ | refine blk_drew ?_ | refine blk_alloc ?_ _)); exact BK104.out⟩, ⟨by (with_reducible repeat (first | refine blk_drewN ?_ _ | refine blk_drew ?_ | refine blk_alloc ?_ _)); exact BK105.out⟩, ⟨by repeat (first | (with_reducible first | exact HB.out | apply below_alloc | apply pw_below_drewN | apply below_drew1 | refine below_set ?_ GE103.out | refine below_set ?_ GE104.out | refine below_set ?_ GE105.out) | exact HB.out)⟩⟩
       case round =>
        clear H'
        try clear c1
        try clear p1
        try clear q1
        try clear c2
        try clear p2
        try clear c3
        try clear c4
        try clear c4b0
        try clear c5
        try clear c5b0
        try clear c6
        try clear c6b0
        try clear c6b1
        try clear p6
        try clear c7
        try clear c7b0
        try clear c8
        try clear c8b0
        try clear c9
        try clear c9b0
        try clear p12
        try clear q12
        try clear p13
        try clear q13
        try clear p15
        try clear q15
        try clear p16
        try clear q16
        try clear c18
        try clear c18b0
        try clear p1
        try clear p12
        try clear p13
        try clear p15
        try clear p16
        try clear p2
        try clear p6
        try clear q1
        try clear q12
        try clear q13
        try clear q15
        try clear q16
        obtain ⟨x35_3, x106000_3, x106001_3, x106002_3, x106003_3, x106004_3, x106005_3, x106006_3, x106007_3, x106008_3, x106009_3, x106010_3, x106011_3, x106012_3, x106013_3, x106014_3, x106015_3, rfl, HA, HK3, BK103, BK104, BK105, HB⟩ := hrel
        cases gk with
        | zero => exact absurd HA.out (by simp [paths_sums.l3])
        | succ k3 =>
         have H := HA.out
         clear HA
         simp only [paths_sums.l3] at H
         by_cases c19 : x35_3 < 4
         ·rw [if_pos c19] at H
          have c19b0 : decide (x35_3 < 4) = true := decide_eq_true c19
          clear c19
          have H' := Aside0.mk H
          clear H
          go_wp2
          go_loopg [38] k3 (fun kq v38 w' => ∃ (x38_4 : Int) (x106000_4 : Int) (x106001_4 : Int) (x106002_4 : Int) (x106003_4 : Int) (x106004_4 : Int) (x106005_4 : Int) (x106006_4 : Int) (x106007_4 : Int) (x106008_4 : Int) (x106009_4 : Int) (x106010_4 : Int) (x106011_4 : Int) (x106012_4 : Int) (x106013_4 : Int) (x106014_4 : Int) (x106015_4 : Int), v38 = .int .i64 x38_4 ∧ Aside0 (paths_sums.l4 kq x32_2 x35_3 x32_2 x35_3 x38_4 x106000_4 x106001_4 x106002_4 x106003_4 x106004_4 x106005_4 x106006_4 x106007_4 x106008_4 x106009_4 x106010_4 x106011_4 x106012_4 x106013_4 x106014_4 x106015_4 = some (r1, r2, r3, r4, r5, r6, r7, r8, r9, r10, r11, r12, r13, r14, r15, r16)) ∧ Aside0 (kq ≤ k3) ∧ Aside0 (w'.heap[g0_]? = some (.cells #[.int .i64 a0_0, .int .i64 a0_1, .int .i64 a0_2, .int .i64 a0_3, .int .i64 a0_4, .int .i64 a0_5, .int .i64 a0_6, .int .i64 a0_7, .int .i64 a0_8, .int .i64 a0_9, .int .i64 a0_10, .int .i64 a0_11, .int .i64 a0_12, .int .i64 a0_13, .int .i64 a0_14, .int .i64 a0_15] 23 (0, 0))) ∧ Aside0 (w'.heap[gb104]? = some (.cells #[.int .i64 0, .int .i64 0, .int .i64 0, .int .i64 0, .int .i64 0, .int .i64 0, .int .i64 0, .int .i64 0, .int .i64 0, .int .i64 0, .int .i64 0, .int .i64 0, .int .i64 0, .int .i64 0, .int .i64 0, .int .i64 0] 23 (0, 0))) ∧ Aside0 (w'.heap[gb105]? = some (.cells #[.int .i64 x106000_4, .int .i64 x106001_4, .int .i64 x106002_4, .int .i64 x106003_4, .int .i64 x106004_4, .int .i64 x106005_4, .int .i64 x106006_4, .int .i64 x106007_4, .int .i64 x106008_4, .int .i64 x106009_4, .int .i64 x106010_4, .int .i64 x106011_4, .int .i64 x106012_4, .int .i64 x106013_4, .int .i64 x106014_4, .int .i64 x106015_4] 23 (0, 0))) ∧ Aside0 (Below w.heap.size w w'))
          case atStart => exact ⟨(0), (x106000_3), (x106001_3), (x106002_3), (x106003_3), (x106004_3), (x106005_3), (x106006_3), (x106007_3), (x106008_3), (x106009_3), (x106010_3), (x106011_3), (x106012_3), (x106013_3), (x106014_3), (x106015_3), (by first | rfl | (simp; done) | (simp [*]; done)), H', ⟨Nat.le_refl _⟩, ⟨by (with_reducible repeat (first | refine blk_drewN ?_ _ | refine blk_drew ?_ | refine blk_alloc ?_ _)); exact BK103.out⟩, ⟨by (with_reducible repeat (first | refine blk_drewN ?_ _ | refine blk_drew ?_ | refine blk_alloc ?_ _)); exact BK104.out⟩, ⟨by (with_reducible repeat (first | refine blk_drewN ?_ _ | refine blk_drew ?_ | refine blk_alloc ?_ _)); exact BK105.out⟩, ⟨by repeat (first | (with_reducible first | exact HB.out | apply below_alloc | apply pw_below_drewN | apply below_drew1 | refine below_set ?_ GE103.out | refine below_set ?_ GE104.out | refine below_set ?_ GE105.out) | exact HB.out)⟩⟩
          case round =>
           clear H'
           try clear c1
           try clear p1
           try clear q1
           try clear c2
           try clear p2
           try clear c3
           try clear c4
           try clear c4b0
           try clear c5
           try clear c5b0
           try clear c6
           try clear c6b0
           try clear c6b1
           try clear p6
           try clear c7
           try clear c7b0
           try clear c8
           try clear c8b0
           try clear c9
           try clear c9b0
           try clear p12
           try clear q12
           try clear p13
           try clear q13
           try clear p15
           try clear q15
           try clear p16
           try clear q16
           try clear c18
           try clear c18b0
           try clear c19
           try clear c19b0
           try clear p1
           try clear p12
           try clear p13
           try clear p15
           try clear p16
           try clear p2
           try clear p6
           try clear q1
           try clear q12
           try clear q13
           try clear q15
           try clear q16
           obtain ⟨x38_4, x106000_4, x106001_4, x106002_4, x106003_4, x106004_4, x106005_4, x106006_4, x106007_4, x106008_4, x106009_4, x106010_4, x106011_4, x106012_4, x106013_4, x106014_4, x106015_4, rfl, HA, HK4, BK103, BK104, BK105, HB⟩ := hrel
           cases gk with
           | zero => exact absurd HA.out (by simp [paths_sums.l4])
           | succ k4 =>
            have H := HA.out
            clear HA
            simp only [paths_sums.l4] at H
            by_cases c20 : x38_4 < 4
            ·rw [if_pos c20] at H
             have c20b0 : decide (x38_4 < 4) = true := decide_eq_true c20
             clear c20
             by_cases c21 : 0 ≤ x35_3
             ·rw [if_pos c21] at H
              have c21b0 : decide (0 ≤ x35_3) = true := decide_eq_true c21
              clear c21
              by_cases c22 : x35_3 < 4
              ·rw [if_pos c22] at H
               have c22b0 : decide (x35_3 < 4) = true := decide_eq_true c22
               clear c22
               by_cases c23 : 0 ≤ x38_4
               ·rw [if_pos c23] at H
                have c23b0 : decide (0 ≤ x38_4) = true := decide_eq_true c23
                clear c23
                by_cases c24 : 0 ≤ x32_2
                ·rw [if_pos c24] at H
                 have c24b0 : decide (0 ≤ x32_2) = true := decide_eq_true c24
                 clear c24
                 by_cases c25 : x32_2 < 4
                 ·rw [if_pos c25] at H
                  have c25b0 : decide (x32_2 < 4) = true := decide_eq_true c25
                  clear c25
                  obtain ⟨ji26, hji26⟩ : ∃ j_ : Int, (mn (ix4 (ix4 x106000_4 x106001_4 x106002_4 x106003_4 x38_4) (ix4 x106004_4 x106005_4 x106006_4 x106007_4 x38_4) (ix4 x106008_4 x106009_4 x106010_4 x106011_4 x38_4) (ix4 x106012_4 x106013_4 x106014_4 x106015_4 x38_4) x35_3) (wrap64 ((ix4 (ix4 x106000_4 x106001_4 x106002_4 x106003_4 x32_2) (ix4 x106004_4 x106005_4 x106006_4 x106007_4 x32_2) (ix4 x106008_4 x106009_4 x106010_4 x106011_4 x32_2) (ix4 x106012_4 x106013_4 x106014_4 x106015_4 x32_2) x35_3) + (ix4 (ix4 x106000_4 x106001_4 x106002_4 x106003_4 x38_4) (ix4 x106004_4 x106005_4 x106006_4 x106007_4 x38_4) (ix4 x106008_4 x106009_4 x106010_4 x106011_4 x38_4) (ix4 x106012_4 x106013_4 x106014_4 x106015_4 x38_4) x32_2)))) = j_ := ⟨_, rfl⟩
                  replace H : (paths_sums.l4 k4 x32_2 x35_3 x32_2 x35_3 (wrap64 (x38_4 + 1)) (up (x35_3 == 0 && x38_4 == 0) (ji26) x106000_4) (up (x35_3 == 0 && x38_4 == 1) (ji26) x106001_4) (up (x35_3 == 0 && x38_4 == 2) (ji26) x106002_4) (up (x35_3 == 0 && x38_4 == 3) (ji26) x106003_4) (up (x35_3 == 1 && x38_4 == 0) (ji26) x106004_4) (up (x35_3 == 1 && x38_4 == 1) (ji26) x106005_4) (up (x35_3 == 1 && x38_4 == 2) (ji26) x106006_4) (up (x35_3 == 1 && x38_4 == 3) (ji26) x106007_4) (up (x35_3 == 2 && x38_4 == 0) (ji26) x106008_4) (up (x35_3 == 2 && x38_4 == 1) (ji26) x106009_4) (up (x35_3 == 2 && x38_4 == 2) (ji26) x106010_4) (up (x35_3 == 2 && x38_4 == 3) (ji26) x106011_4) (up (x35_3 == 3 && x38_4 == 0) (ji26) x106012_4) (up (x35_3 == 3 && x38_4 == 1) (ji26) x106013_4) (up (x35_3 == 3 && x38_4 == 2) (ji26) x106014_4) (up (x35_3 == 3 && x38_4 == 3) (ji26) x106015_4)) = some (r1, r2, r3, r4, r5, r6, r7, r8, r9, r10, r11, r12, r13, r14, r15, r16) := by first | (rw [hji26] at H; exact H) | (simp only [hji26] at H ⊢; exact H)
                  have hji26_ : (if (wrap64 ((ix4 (ix4 x106000_4 x106001_4 x106002_4 x106003_4 x32_2) (ix4 x106004_4 x106005_4 x106006_4 x106007_4 x32_2) (ix4 x106008_4 x106009_4 x106010_4 x106011_4 x32_2) (ix4 x106012_4 x106013_4 x106014_4 x106015_4 x32_2) x35_3) + (ix4 (ix4 x106000_4 x106001_4 x106002_4 x106003_4 x38_4) (ix4 x106004_4 x106005_4 x106006_4 x106007_4 x38_4) (ix4 x106008_4 x106009_4 x106010_4 x106011_4 x38_4) (ix4 x106012_4 x106013_4 x106014_4 x106015_4 x38_4) x32_2))) < (ix4 (ix4 x106000_4 x106001_4 x106002_4 x106003_4 x38_4) (ix4 x106004_4 x106005_4 x106006_4 x106007_4 x38_4) (ix4 x106008_4 x106009_4 x106010_4 x106011_4 x38_4) (ix4 x106012_4 x106013_4 x106014_4 x106015_4 x38_4) x35_3) then (wrap64 ((ix4 (ix4 x106000_4 x106001_4 x106002_4 x106003_4 x32_2) (ix4 x106004_4 x106005_4 x106006_4 x106007_4 x32_2) (ix4 x106008_4 x106009_4 x106010_4 x106011_4 x32_2) (ix4 x106012_4 x106013_4 x106014_4 x106015_4 x32_2) x35_3) + (ix4 (ix4 x106000_4 x106001_4 x106002_4 x106003_4 x38_4) (ix4 x106004_4 x106005_4 x106006_4 x106007_4 x38_4) (ix4 x106008_4 x106009_4 x106010_4 x106011_4 x38_4) (ix4 x106012_4 x106013_4 x106014_4 x106015_4 x38_4) x32_2))) else (ix4 (ix4 x106000_4 x106001_4 x106002_4 x106003_4 x38_4) (ix4 x106004_4 x106005_4 x106006_4 x106007_4 x38_4) (ix4 x106008_4 x106009_4 x106010_4 x106011_4 x38_4) (ix4 x106012_4 x106013_4 x106014_4 x106015_4 x38_4) x35_3)) = ji26 := hji26
                  have H' := Aside0.mk H
                  clear H
                  try go_wp2
                  have n0_ := Aside0.mk (blk_drew BK103.out)
                  have n1_ := Aside0.mk (blk_drew BK104.out)
                  have n2_ := Aside0.mk (blk_drew BK105.out)
                  have n3_ := Aside0.mk (below_drew1 HB.out)
                  clear BK103
                  clear BK104
                  clear BK105
                  clear HB
                  have BK103 := n0_
                  have BK104 := n1_
                  have BK105 := n2_
                  have HB := n3_
                  clear n0_ n1_ n2_ n3_
                  have p28 : (0 ≤ (x35_3 : Int)) = True := eq_true (of_decide_eq_true (by first | (with_reducible assumption) | assumption))
                  have q28 : ((x35_3 : Int) < 4) = True := eq_true (of_decide_eq_true (by first | (with_reducible assumption) | assumption))
                  have p29 : (0 ≤ (x38_4 : Int)) = True := eq_true (of_decide_eq_true (by first | (with_reducible assumption) | assumption))
                  have q29 : ((x38_4 : Int) < 4) = True := eq_true (of_decide_eq_true (by first | (with_reducible assumption) | assumption))
                  have p31 : (0 ≤ (x35_3 : Int)) = True := eq_true (of_decide_eq_true (by first | (with_reducible assumption) | assumption))
                  have q31 : ((x35_3 : Int) < 4) = True := eq_true (of_decide_eq_true (by first | (with_reducible assumption) | assumption))
                  have p32 : (0 ≤ (x32_2 : Int)) = True := eq_true (of_decide_eq_true (by first | (with_reducible assumption) | assumption))
                  have q32 : ((x32_2 : Int) < 4) = True := eq_true (of_decide_eq_true (by first | (with_reducible assumption) | assumption))
                  have p34 : (0 ≤ (x32_2 : Int)) = True := eq_true (of_decide_eq_true (by first | (with_reducible assumption) | assumption))
                  have q34 : ((x32_2 : Int) < 4) = True := eq_true (of_decide_eq_true (by first | (with_reducible assumption) | assumption))
                  have p35 : (0 ≤ (x38_4 : Int)) = True := eq_true (of_decide_eq_true (by first | (with_reducible assumption) | assumption))
                  have q35 : ((x38_4 : Int) < 4) = True := eq_true (of_decide_eq_true (by first | (with_reducible assumption) | assumption))
                  have p37 : (0 ≤ (x35_3 : Int)) = True := eq_true (of_decide_eq_true (by first | (with_reducible assumption) | assumption))
                  have q37 : ((x35_3 : Int) < 4) = True := eq_true (of_decide_eq_true (by first | (with_reducible assumption) | assumption))
                  have p38 : (0 ≤ (x38_4 : Int)) = True := eq_true (of_decide_eq_true (by first | (with_reducible assumption) | assumption))
                  have q38 : ((x38_4 : Int) < 4) = True := eq_true (of_decide_eq_true (by first | (with_reducible assumption) | assumption))
                  refine start_ (n := 22) (S := fun w' => w'.cell? ⟨gb105, x35_3.toNat * 4 + x38_4.toNat, none⟩ = some (.int .i64 (ix4 (ix4 x106000_4 x106001_4 x106002_4 x106003_4 x38_4) (ix4 x106004_4 x106005_4 x106006_4 x106007_4 x38_4) (ix4 x106008_4 x106009_4 x106010_4 x106011_4 x38_4) (ix4 x106012_4 x106013_4 x106014_4 x106015_4 x38_4) x35_3)) ∧ w'.cell? ⟨gb105, x35_3.toNat * 4 + x32_2.toNat, none⟩ = some (.int .i64 (ix4 (ix4 x106000_4 x106001_4 x106002_4 x106003_4 x32_2) (ix4 x106004_4 x106005_4 x106006_4 x106007_4 x32_2) (ix4 x106008_4 x106009_4 x106010_4 x106011_4 x32_2) (ix4 x106012_4 x106013_4 x106014_4 x106015_4 x32_2) x35_3)) ∧ w'.cell? ⟨gb105, x32_2.toNat * 4 + x38_4.toNat, none⟩ = some (.int .i64 (ix4 (ix4 x106000_4 x106001_4 x106002_4 x106003_4 x38_4) (ix4 x106004_4 x106005_4 x106006_4 x106007_4 x38_4) (ix4 x106008_4 x106009_4 x106010_4 x106011_4 x38_4) (ix4 x106012_4 x106013_4 x106014_4 x106015_4 x38_4) x32_2))) (ds := [21]) mk_22_0 (by kernel_rfl) rfl rfl ⟨(blk_cell BK105.out (x35_3.toNat * 4 + x38_4.toNat)).trans (ix_44 (Value.int .i64) _ _ _ _ _ _ _ _ _ _ _ _ _ _ _ _ x35_3 x38_4  (of_decide_eq_true (by first | (with_reducible assumption) | assumption)) (of_decide_eq_true (by first | (with_reducible assumption) | assumption))  (of_decide_eq_true (by first | (with_reducible assumption) | assumption)) (of_decide_eq_true (by first | (with_reducible assumption) | assumption))), (blk_cell BK105.out (x35_3.toNat * 4 + x32_2.toNat)).trans (ix_44 (Value.int .i64) _ _ _ _ _ _ _ _ _ _ _ _ _ _ _ _ x35_3 x32_2  (of_decide_eq_true (by first | (with_reducible assumption) | assumption)) (of_decide_eq_true (by first | (with_reducible assumption) | assumption))  (of_decide_eq_true (by first | (with_reducible assumption) | assumption)) (of_decide_eq_true (by first | (with_reducible assumption) | assumption))), (blk_cell BK105.out (x32_2.toNat * 4 + x38_4.toNat)).trans (ix_44 (Value.int .i64) _ _ _ _ _ _ _ _ _ _ _ _ _ _ _ _ x32_2 x38_4  (of_decide_eq_true (by first | (with_reducible assumption) | assumption)) (of_decide_eq_true (by first | (with_reducible assumption) | assumption))  (of_decide_eq_true (by first | (with_reducible assumption) | assumption)) (of_decide_eq_true (by first | (with_reducible assumption) | assumption)))⟩ (fun hHeld => ?_); refine with_tabW paths_sums.tab21 paths_sums.bits21 (fun HT_ HW_ => ?_)
                  generalize wr.drew = w27 at BK103 BK104 BK105 HB hHeld ⊢
                  refine pure_ (i := 0) (N := some 41) (v := ?_) (a' := ?_) mk_22_1 rfl rfl (any_of HT_.out (by kernel_rfl)) (fun _ _ _ h => h) (Or.inl ⟨by rfl, ?_⟩) ?_ ?_
                  rotate_left
                  ·intro w'
                   go_simp
                   with_reducible rfl
                  rotate_left
                  ·simp only [Act.put, List.setIfInBounds_toArray, List.set_cons_zero, List.set_cons_succ, i64_w, i32_w]
                   rfl
                  refine pure_ (i := 1) (N := some 42) (v := ?_) (a' := ?_) mk_22_2 rfl rfl (any_of HT_.out (by kernel_rfl)) (fun _ _ _ h => h) (Or.inl ⟨by rfl, ?_⟩) ?_ ?_
                  rotate_left
                  ·intro w'
                   go_simp
                   with_reducible rfl
                  rotate_left
                  ·simp only [Act.put, List.setIfInBounds_toArray, List.set_cons_zero, List.set_cons_succ, i64_w, i32_w]
                   rfl
                  refine pure_ (i := 2) (N := some 43) (v := ?_) (a' := ?_) mk_22_3 rfl rfl (any_of HT_.out (by kernel_rfl)) (fun _ _ _ h => h) (Or.inl ⟨by rfl, ?_⟩) ?_ ?_
                  rotate_left
                  ·intro w'
                   go_simp
                   with_reducible rfl
                  rotate_left
                  ·simp only [Act.put, List.setIfInBounds_toArray, List.set_cons_zero, List.set_cons_succ, i64_w, i32_w]
                   rfl
                  refine pure_ (i := 3) (N := some 44) (v := ?_) (a' := ?_) mk_22_4 rfl rfl (any_of HT_.out (by kernel_rfl)) (fun _ _ _ h => h) (Or.inl ⟨by rfl, ?_⟩) ?_ ?_
                  rotate_left
                  ·intro w'
                   go_simp
                   with_reducible rfl
                  rotate_left
                  ·simp only [Act.put, List.setIfInBounds_toArray, List.set_cons_zero, List.set_cons_succ, i64_w, i32_w]
                   rfl
                  refine pure_ (i := 4) (N := some 45) (v := ?_) (a' := ?_) mk_22_5 rfl rfl (any_of HT_.out (by kernel_rfl)) (fun _ _ _ h => h) (Or.inl ⟨by rfl, ?_⟩) ?_ ?_
                  rotate_left
                  ·intro w'
                   go_simp
                   with_reducible rfl
                  rotate_left
                  ·simp only [Act.put, List.setIfInBounds_toArray, List.set_cons_zero, List.set_cons_succ, i64_w, i32_w]
                   rfl
                  refine pure_ (i := 5) (N := some 46) (v := ?_) (a' := ?_) mk_22_6 rfl rfl (any_of HT_.out (by kernel_rfl)) (fun _ _ _ h => h) (Or.inl ⟨by rfl, ?_⟩) ?_ ?_
                  rotate_left
                  ·intro w'
                   go_simp
                   with_reducible rfl
                  rotate_left
                  ·simp only [Act.put, List.setIfInBounds_toArray, List.set_cons_zero, List.set_cons_succ, i64_w, i32_w]
                   rfl
                  refine pure_ (i := 7) (N := some 48) (v := ?_) (a' := ?_) #[true, true, true, true, true, true, false, true, false, false, false, false, false, false, false, false, false, false, false, false, false, false] rfl rfl (any_of HT_.out (by kernel_rfl)) (fun _ _ _ h => h) (Or.inl ⟨by rfl, ?_⟩) ?_ ?_
                  rotate_left
                  ·intro w'
                   go_simp
                   with_reducible rfl
                  rotate_left
                  ·simp only [Act.put, List.setIfInBounds_toArray, List.set_cons_zero, List.set_cons_succ, i64_w, i32_w]
                   rfl
                  refine pure_ (i := 8) (N := some 49) (v := ?_) (a' := ?_) #[true, true, true, true, true, true, false, true, true, false, false, false, false, false, false, false, false, false, false, false, false, false] rfl rfl (any_of HT_.out (by kernel_rfl)) (fun _ _ _ h => h) (Or.inl ⟨by rfl, ?_⟩) ?_ ?_
                  rotate_left
                  ·intro w'
                   go_simp
                   with_reducible rfl
                  rotate_left
                  ·simp only [Act.put, List.setIfInBounds_toArray, List.set_cons_zero, List.set_cons_succ, i64_w, i32_w]
                   rfl
                  refine pure_ (i := 9) (N := some 50) (v := ?_) (a' := ?_) #[true, true, true, true, true, true, false, true, true, true, false, false, false, false, false, false, false, false, false, false, false, false] rfl rfl (any_of HT_.out (by kernel_rfl)) (fun _ _ _ h => h) (Or.inl ⟨by rfl, ?_⟩) ?_ ?_
                  rotate_left
                  ·intro w'
                   go_simp
                   with_reducible rfl
                  rotate_left
                  ·simp only [Act.put, List.setIfInBounds_toArray, List.set_cons_zero, List.set_cons_succ, i64_w, i32_w]
                   rfl
                  refine pure_ (i := 10) (N := some 51) (v := ?_) (a' := ?_) #[true, true, true, true, true, true, false, true, true, true, true, false, false, false, false, false, false, false, false, false, false, false] rfl rfl (any_of HT_.out (by kernel_rfl)) (fun _ _ _ h => h) (Or.inl ⟨by rfl, ?_⟩) ?_ ?_
                  rotate_left
                  ·intro w'
                   go_simp
                   with_reducible rfl
                  rotate_left
                  ·simp only [Act.put, List.setIfInBounds_toArray, List.set_cons_zero, List.set_cons_succ, i64_w, i32_w]
                   rfl
                  refine pure_ (i := 12) (N := some 53) (v := ?_) (a' := ?_) #[true, true, true, true, true, true, false, true, true, true, true, false, true, false, false, false, false, false, false, false, false, false] rfl rfl (any_of HT_.out (by kernel_rfl)) (fun _ _ _ h => h) (Or.inl ⟨by rfl, ?_⟩) ?_ ?_
                  rotate_left
                  ·intro w'
                   go_simp
                   with_reducible rfl
                  rotate_left
                  ·simp only [Act.put, List.setIfInBounds_toArray, List.set_cons_zero, List.set_cons_succ, i64_w, i32_w]
                   rfl
                  refine pure_ (i := 13) (N := some 54) (v := ?_) (a' := ?_) #[true, true, true, true, true, true, false, true, true, true, true, false, true, true, false, false, false, false, false, false, false, false] rfl rfl (any_of HT_.out (by kernel_rfl)) (fun _ _ _ h => h) (Or.inl ⟨by rfl, ?_⟩) ?_ ?_
                  rotate_left
                  ·intro w'
                   go_simp
                   with_reducible rfl
                  rotate_left
                  ·simp only [Act.put, List.setIfInBounds_toArray, List.set_cons_zero, List.set_cons_succ, i64_w, i32_w]
                   rfl
                  refine pure_ (i := 14) (N := some 55) (v := ?_) (a' := ?_) #[true, true, true, true, true, true, false, true, true, true, true, false, true, true, true, false, false, false, false, false, false, false] rfl rfl (any_of HT_.out (by kernel_rfl)) (fun _ _ _ h => h) (Or.inl ⟨by rfl, ?_⟩) ?_ ?_
                  rotate_left
                  ·intro w'
                   go_simp
                   with_reducible rfl
                  rotate_left
                  ·simp only [Act.put, List.setIfInBounds_toArray, List.set_cons_zero, List.set_cons_succ, i64_w, i32_w]
                   rfl
                  refine pure_ (i := 15) (N := some 56) (v := ?_) (a' := ?_) #[true, true, true, true, true, true, false, true, true, true, true, false, true, true, true, true, false, false, false, false, false, false] rfl rfl (any_of HT_.out (by kernel_rfl)) (fun _ _ _ h => h) (Or.inl ⟨by rfl, ?_⟩) ?_ ?_
                  rotate_left
                  ·intro w'
                   go_simp
                   with_reducible rfl
                  rotate_left
                  ·simp only [Act.put, List.setIfInBounds_toArray, List.set_cons_zero, List.set_cons_succ, i64_w, i32_w]
                   rfl
                  refine pure_ (i := 19) (N := some 60) (v := ?_) (a' := ?_) #[true, true, true, true, true, true, false, true, true, true, true, false, true, true, true, true, false, false, false, true, false, false] rfl rfl (any_of HT_.out (by kernel_rfl)) (fun _ _ _ h => h) (Or.inl ⟨by rfl, ?_⟩) ?_ ?_
                  rotate_left
                  ·intro w'
                   go_simp
                   with_reducible rfl
                  rotate_left
                  ·simp only [Act.put, List.setIfInBounds_toArray, List.set_cons_zero, List.set_cons_succ, i64_w, i32_w]
                   rfl
                  refine take_ (i := 6) (N := some 47) (v := ?_) (a' := ?_) #[true, true, true, true, true, true, true, true, true, true, true, false, true, true, true, true, false, false, false, true, false, false] rfl rfl (take_ofW HT_.out HW_.out (by kernel_rfl)) (fun _ _ _ h => h) (Or.inl ⟨by rfl, ?_⟩) hHeld ?_ ?_
                  rotate_left
                  ·rintro w' ⟨s0, s1, s2⟩
                   go_simp
                   with_reducible rfl
                  rotate_left
                  ·simp only [Act.put, List.setIfInBounds_toArray, List.set_cons_zero, List.set_cons_succ, i64_w, i32_w]
                   rfl
                  refine take_ (i := 11) (N := some 52) (v := ?_) (a' := ?_) #[true, true, true, true, true, true, true, true, true, true, true, true, true, true, true, true, false, false, false, true, false, false] rfl rfl (take_ofW HT_.out HW_.out (by kernel_rfl)) (fun _ _ _ h => h) (Or.inl ⟨by rfl, ?_⟩) hHeld ?_ ?_
                  rotate_left
                  ·rintro w' ⟨s0, s1, s2⟩
                   go_simp
                   with_reducible rfl
                  rotate_left
                  ·simp only [Act.put, List.setIfInBounds_toArray, List.set_cons_zero, List.set_cons_succ, i64_w, i32_w]
                   rfl
                  refine take_ (i := 16) (N := some 57) (v := ?_) (a' := ?_) #[true, true, true, true, true, true, true, true, true, true, true, true, true, true, true, true, true, false, false, true, false, false] rfl rfl (take_ofW HT_.out HW_.out (by kernel_rfl)) (fun _ _ _ h => h) (Or.inl ⟨by rfl, ?_⟩) hHeld ?_ ?_
                  rotate_left
                  ·rintro w' ⟨s0, s1, s2⟩
                   go_simp
                   with_reducible rfl
                  rotate_left
                  ·simp only [Act.put, List.setIfInBounds_toArray, List.set_cons_zero, List.set_cons_succ, i64_w, i32_w]
                   rfl
                  refine pure_ (i := 17) (N := some 58) (v := ?_) (a' := ?_) #[true, true, true, true, true, true, true, true, true, true, true, true, true, true, true, true, true, true, false, true, false, false] rfl rfl (any_of HT_.out (by kernel_rfl)) (fun _ _ _ h => h) (Or.inl ⟨by rfl, ?_⟩) ?_ ?_
                  rotate_left
                  ·intro w'
                   go_simp
                   with_reducible rfl
                  rotate_left
                  ·simp only [Act.put, List.setIfInBounds_toArray, List.set_cons_zero, List.set_cons_succ, i64_w, i32_w]
                   rfl
                  refine pure_ (i := 18) (N := some 59) (v := ?_) (a' := ?_) mk_22_20 rfl rfl (any_of HT_.out (by kernel_rfl)) (fun _ _ _ h => h) (Or.inl ⟨by rfl, ?_⟩) ?_ ?_
                  rotate_left
                  ·intro w'
                   go_simp
                   with_reducible rfl
                  rotate_left
                  ·simp only [Act.put, List.setIfInBounds_toArray, List.set_cons_zero, List.set_cons_succ, i64_w, i32_w]
                   rfl
                  refine pure_ (i := 20) (N := some 61) (v := ?_) (a' := ?_) mk_22_21 rfl rfl (any_of HT_.out (by kernel_rfl)) (fun _ _ _ h => h) (Or.inl ⟨by rfl, ?_⟩) ?_ ?_
                  rotate_left
                  ·intro w'
                   go_simp
                   with_reducible rfl
                  rotate_left
                  ·simp only [Act.put, List.setIfInBounds_toArray, List.set_cons_zero, List.set_cons_succ, i64_w, i32_w]
                   rfl
                  refine last_ (i := 21) (N := none) mk_22_22 rfl rfl (one_of HT_.out (by kernel_rfl)) (by decide) (fun K hK => ?_)
                  have hs39 : w27.cell? ⟨gb105, x35_3.toNat * 4 + x38_4.toNat, none⟩ = some (.int .i64 (ix4 (ix4 x106000_4 x106001_4 x106002_4 x106003_4 x38_4) (ix4 x106004_4 x106005_4 x106006_4 x106007_4 x38_4) (ix4 x106008_4 x106009_4 x106010_4 x106011_4 x38_4) (ix4 x106012_4 x106013_4 x106014_4 x106015_4 x38_4) x35_3)) := (blk_cell BK105.out (x35_3.toNat * 4 + x38_4.toNat)).trans (ix_44 (Value.int .i64) _ _ _ _ _ _ _ _ _ _ _ _ _ _ _ _ x35_3 x38_4  (of_decide_eq_true (by first | (with_reducible assumption) | assumption)) (of_decide_eq_true (by first | (with_reducible assumption) | assumption))  (of_decide_eq_true (by first | (with_reducible assumption) | assumption)) (of_decide_eq_true (by first | (with_reducible assumption) | assumption)))
                  have hfs39 := blk_frozen BK105.out (x35_3.toNat * 4 + x38_4.toNat)
                  have hns39_0 := NB103_105.out
                  have hns39_1 := NB104_105.out
                  have hms39_0 := NB105_103.out
                  have hms39_1 := NB105_104.out
                  refine skip_ (w1 := ?_) (by rfl) rfl ?_ ?_
                  rotate_left
                  ·go_simp
                   rfl
                  refine hK.out _ _ ?_
                  clear hK K
                  refine done_ (done_of HT_.out (by kernel_rfl)) ?_
                  try go_wp2
                  go_roundg k4
                  case measure => have := HK1.out; have := HK2.out; have := HK3.out; have := HK4.out; omega
                  case rel => exact ⟨(wrap64 (x38_4 + 1)), (up (x35_3 == 0 && x38_4 == 0) (ji26) x106000_4), (up (x35_3 == 0 && x38_4 == 1) (ji26) x106001_4), (up (x35_3 == 0 && x38_4 == 2) (ji26) x106002_4), (up (x35_3 == 0 && x38_4 == 3) (ji26) x106003_4), (up (x35_3 == 1 && x38_4 == 0) (ji26) x106004_4), (up (x35_3 == 1 && x38_4 == 1) (ji26) x106005_4), (up (x35_3 == 1 && x38_4 == 2) (ji26) x106006_4), (up (x35_3 == 1 && x38_4 == 3) (ji26) x106007_4), (up (x35_3 == 2 && x38_4 == 0) (ji26) x106008_4), (up (x35_3 == 2 && x38_4 == 1) (ji26) x106009_4), (up (x35_3 == 2 && x38_4 == 2) (ji26) x106010_4), (up (x35_3 == 2 && x38_4 == 3) (ji26) x106011_4), (up (x35_3 == 3 && x38_4 == 0) (ji26) x106012_4), (up (x35_3 == 3 && x38_4 == 1) (ji26) x106013_4), (up (x35_3 == 3 && x38_4 == 2) (ji26) x106014_4), (up (x35_3 == 3 && x38_4 == 3) (ji26) x106015_4), (by first | rfl | (simp; done) | (simp [*]; done)), H', ⟨by have := HK1.out; have := HK2.out; have := HK3.out; have := HK4.out; omega⟩, ⟨by (with_reducible repeat (first | refine blk_drewN ?_ _ | refine blk_drew ?_ | refine blk_alloc ?_ _)); refine blk_far ?_ NB103_105.out _; (with_reducible repeat (first | refine blk_drewN ?_ _ | refine blk_drew ?_ | refine blk_alloc ?_ _)); exact BK103.out⟩, ⟨by (with_reducible repeat (first | refine blk_drewN ?_ _ | refine blk_drew ?_ | refine blk_alloc ?_ _)); refine blk_far ?_ NB104_105.out _; (with_reducible repeat (first | refine blk_drewN ?_ _ | refine blk_drew ?_ | refine blk_alloc ?_ _)); exact BK104.out⟩, ⟨by (with_reducible repeat (first | refine blk_drewN ?_ _ | refine blk_drew ?_ | refine blk_alloc ?_ _)); refine blk_put (cs := #[.int .i64 x106000_4, .int .i64 x106001_4, .int .i64 x106002_4, .int .i64 x106003_4, .int .i64 x106004_4, .int .i64 x106005_4, .int .i64 x106006_4, .int .i64 x106007_4, .int .i64 x106008_4, .int .i64 x106009_4, .int .i64 x106010_4, .int .i64 x106011_4, .int .i64 x106012_4, .int .i64 x106013_4, .int .i64 x106014_4, .int .i64 x106015_4]) ?_ (x35_3.toNat * 4 + x38_4.toNat) _ (up_44 (Value.int .i64) _ _ _ _ _ _ _ _ _ _ _ _ _ _ _ _ x35_3 x38_4 ji26 (of_decide_eq_true (by first | (with_reducible assumption) | assumption)) (of_decide_eq_true (by first | (with_reducible assumption) | assumption)) (of_decide_eq_true (by first | (with_reducible assumption) | assumption)) (of_decide_eq_true (by first | (with_reducible assumption) | assumption))); (with_reducible repeat (first | refine blk_drewN ?_ _ | refine blk_drew ?_ | refine blk_alloc ?_ _)); exact BK105.out⟩, ⟨by repeat (first | (with_reducible first | exact HB.out | apply below_alloc | apply pw_below_drewN | apply below_drew1 | refine below_set ?_ GE103.out | refine below_set ?_ GE104.out | refine below_set ?_ GE105.out) | exact HB.out)⟩⟩
                 ·rw [if_neg c25] at H
                  exact absurd H (by simp)
                ·rw [if_neg c24] at H
                 exact absurd H (by simp)
               ·rw [if_neg c23] at H
                exact absurd H (by simp)
              ·rw [if_neg c22] at H
               exact absurd H (by simp)
             ·rw [if_neg c21] at H
              exact absurd H (by simp)
            ·rw [if_neg c20] at H
             have c20b0 : decide (x38_4 < 4) = false := decide_eq_false c20
             clear c20
             have H' := Aside0.mk H
             clear H
             go_wp2
             go_roundg k4
             case measure => have := HK1.out; have := HK2.out; have := HK3.out; have := HK4.out; omega
             case rel => exact ⟨(wrap64 (x35_3 + 1)), (x106000_4), (x106001_4), (x106002_4), (x106003_4), (x106004_4), (x106005_4), (x106006_4), (x106007_4), (x106008_4), (x106009_4), (x106010_4), (x106011_4), (x106012_4), (x106013_4), (x106014_4), (x106015_4), (by first | rfl | (simp; done) | (simp [*]; done)), H', ⟨by have := HK1.out; have := HK2.out; have := HK3.out; have := HK4.out; omega⟩, ⟨by (with_reducible repeat (first | refine blk_drewN ?_ _ | refine blk_drew ?_ | refine blk_alloc ?_ _)); exact BK103.out⟩, ⟨by (with_reducible repeat (first | refine blk_drewN ?_ _ | refine blk_drew ?_ | refine blk_alloc ?_ _)); exact BK104.out⟩, ⟨by (with_reducible repeat (first | refine blk_drewN ?_ _ | refine blk_drew ?_ | refine blk_alloc ?_ _)); exact BK105.out⟩, ⟨by repeat (first | (with_reducible first | exact HB.out | apply below_alloc | apply pw_below_drewN | apply below_drew1 | refine below_set ?_ GE103.out | refine below_set ?_ GE104.out | refine below_set ?_ GE105.out) | exact HB.out)⟩⟩
         ·rw [if_neg c19] at H
          have c19b0 : decide (x35_3 < 4) = false := decide_eq_false c19
          clear c19
          have H' := Aside0.mk H
          clear H
          go_wp2
          go_roundg k3
          case measure => have := HK1.out; have := HK2.out; have := HK3.out; omega
          case rel => exact ⟨(wrap64 (x32_2 + 1)), (x106000_3), (x106001_3), (x106002_3), (x106003_3), (x106004_3), (x106005_3), (x106006_3), (x106007_3), (x106008_3), (x106009_3), (x106010_3), (x106011_3), (x106012_3), (x106013_3), (x106014_3), (x106015_3), (by first | rfl | (simp; done) | (simp [*]; done)), H', ⟨by have := HK1.out; have := HK2.out; have := HK3.out; omega⟩, ⟨by (with_reducible repeat (first | refine blk_drewN ?_ _ | refine blk_drew ?_ | refine blk_alloc ?_ _)); exact BK103.out⟩, ⟨by (with_reducible repeat (first | refine blk_drewN ?_ _ | refine blk_drew ?_ | refine blk_alloc ?_ _)); exact BK104.out⟩, ⟨by (with_reducible repeat (first | refine blk_drewN ?_ _ | refine blk_drew ?_ | refine blk_alloc ?_ _)); exact BK105.out⟩, ⟨by repeat (first | (with_reducible first | exact HB.out | apply below_alloc | apply pw_below_drewN | apply below_drew1 | refine below_set ?_ GE103.out | refine below_set ?_ GE104.out | refine below_set ?_ GE105.out) | exact HB.out)⟩⟩
      ·rw [if_neg c18] at H
       have c18b0 : decide (x32_2 < 4) = false := decide_eq_false c18
       clear c18
       simp only [Option.some.injEq, Prod.mk.injEq] at H
       obtain ⟨rfl, rfl, rfl, rfl, rfl, rfl, rfl, rfl, rfl, rfl, rfl, rfl, rfl, rfl, rfl, rfl⟩ := H
       have hnb40 := NB105_103.out
       have hnc40 := NB103_105.out
       have hnb41 := NB105_104.out
       have hnc41 := NB104_105.out
       obtain ⟨hcz42_0, hcz42_1, hcz42_2, hcz42_3, hcz42_4, hcz42_5, hcz42_6, hcz42_7, hcz42_8, hcz42_9, hcz42_10, hcz42_11, hcz42_12, hcz42_13, hcz42_14, hcz42_15⟩ := cells16 BK105.out
       have hfz42_0 := fun (j_ : Nat) => blk_frozen BK105.out j_
       have hnb43 := NB104_103.out
       have hnc43 := NB103_104.out
       obtain ⟨hcz44_0, hcz44_1, hcz44_2, hcz44_3, hcz44_4, hcz44_5, hcz44_6, hcz44_7, hcz44_8, hcz44_9, hcz44_10, hcz44_11, hcz44_12, hcz44_13, hcz44_14, hcz44_15⟩ := cells16 BK104.out
       have hfz44_0 := fun (j_ : Nat) => blk_frozen BK104.out j_
       go_wp2_with (first | ((with_reducible refine gate_store (t := 23) (p := 2) rfl ?_); refine store_event (t := 23) (p := 2) (v := ?vo_w45) (w1 := ((((((((((((((((wr.setCell ⟨gb104, 0, none⟩ (.int .i64 x106000_2)).setCell ⟨gb104, 1, none⟩ (.int .i64 x106001_2)).setCell ⟨gb104, 2, none⟩ (.int .i64 x106002_2)).setCell ⟨gb104, 3, none⟩ (.int .i64 x106003_2)).setCell ⟨gb104, 4, none⟩ (.int .i64 x106004_2)).setCell ⟨gb104, 5, none⟩ (.int .i64 x106005_2)).setCell ⟨gb104, 6, none⟩ (.int .i64 x106006_2)).setCell ⟨gb104, 7, none⟩ (.int .i64 x106007_2)).setCell ⟨gb104, 8, none⟩ (.int .i64 x106008_2)).setCell ⟨gb104, 9, none⟩ (.int .i64 x106009_2)).setCell ⟨gb104, 10, none⟩ (.int .i64 x106010_2)).setCell ⟨gb104, 11, none⟩ (.int .i64 x106011_2)).setCell ⟨gb104, 12, none⟩ (.int .i64 x106012_2)).setCell ⟨gb104, 13, none⟩ (.int .i64 x106013_2)).setCell ⟨gb104, 14, none⟩ (.int .i64 x106014_2)).setCell ⟨gb104, 15, none⟩ (.int .i64 x106015_2))) ?hg ?ho ?hn ?hr ?_; (case ho => rfl); (case hg => rfl); (case hn => rfl); (case hr => first | (go_simp; done) | (go_simp; rfl)); intro w45 hw; have n0_ : Aside0 (w45.heap[g0_]? = some (.cells #[.int .i64 a0_0, .int .i64 a0_1, .int .i64 a0_2, .int .i64 a0_3, .int .i64 a0_4, .int .i64 a0_5, .int .i64 a0_6, .int .i64 a0_7, .int .i64 a0_8, .int .i64 a0_9, .int .i64 a0_10, .int .i64 a0_11, .int .i64 a0_12, .int .i64 a0_13, .int .i64 a0_14, .int .i64 a0_15] 23 (0, 0))) := ⟨(by rw [hw]; exact (by (with_reducible repeat (first | refine blk_drewN ?_ _ | refine blk_drew ?_ | refine blk_alloc ?_ _)); refine blk_far ?_ NB103_104.out _; (with_reducible repeat (first | refine blk_drewN ?_ _ | refine blk_drew ?_ | refine blk_alloc ?_ _)); refine blk_far ?_ NB103_104.out _; (with_reducible repeat (first | refine blk_drewN ?_ _ | refine blk_drew ?_ | refine blk_alloc ?_ _)); refine blk_far ?_ NB103_104.out _; (with_reducible repeat (first | refine blk_drewN ?_ _ | refine blk_drew ?_ | refine blk_alloc ?_ _)); refine blk_far ?_ NB103_104.out _; (with_reducible repeat (first | refine blk_drewN ?_ _ | refine blk_drew ?_ | refine blk_alloc ?_ _)); refine blk_far ?_ NB103_104.out _; (with_reducible repeat (first | refine blk_drewN ?_ _ | refine blk_drew ?_ | refine blk_alloc ?_ _)); refine blk_far ?_ NB103_104.out _; (with_reducible repeat (first | refine blk_drewN ?_ _ | refine blk_drew ?_ | refine blk_alloc ?_ _)); refine blk_far ?_ NB103_104.out _; (with_reducible repeat (first | refine blk_drewN ?_ _ | refine blk_drew ?_ | refine blk_alloc ?_ _)); refine blk_far ?_ NB103_104.out _; (with_reducible repeat (first | refine blk_drewN ?_ _ | refine blk_drew ?_ | refine blk_alloc ?_ _)); refine blk_far ?_ NB103_104.out _; (with_reducible repeat (first | refine blk_drewN ?_ _ | refine blk_drew ?_ | refine blk_alloc ?_ _)); refine blk_far ?_ NB103_104.out _; (with_reducible repeat (first | refine blk_drewN ?_ _ | refine blk_drew ?_ | refine blk_alloc ?_ _)); refine blk_far ?_ NB103_104.out _; (with_reducible repeat (first | refine blk_drewN ?_ _ | refine blk_drew ?_ | refine blk_alloc ?_ _)); refine blk_far ?_ NB103_104.out _; (with_reducible repeat (first | refine blk_drewN ?_ _ | refine blk_drew ?_ | refine blk_alloc ?_ _)); refine blk_far ?_ NB103_104.out _; (with_reducible repeat (first | refine blk_drewN ?_ _ | refine blk_drew ?_ | refine blk_alloc ?_ _)); refine blk_far ?_ NB103_104.out _; (with_reducible repeat (first | refine blk_drewN ?_ _ | refine blk_drew ?_ | refine blk_alloc ?_ _)); refine blk_far ?_ NB103_104.out _; (with_reducible repeat (first | refine blk_drewN ?_ _ | refine blk_drew ?_ | refine blk_alloc ?_ _)); refine blk_far ?_ NB103_104.out _; (with_reducible repeat (first | refine blk_drewN ?_ _ | refine blk_drew ?_ | refine blk_alloc ?_ _)); exact BK103.out))⟩; have n1_ : Aside0 (w45.heap[gb104]? = some (.cells #[.int .i64 x106000_2, .int .i64 x106001_2, .int .i64 x106002_2, .int .i64 x106003_2, .int .i64 x106004_2, .int .i64 x106005_2, .int .i64 x106006_2, .int .i64 x106007_2, .int .i64 x106008_2, .int .i64 x106009_2, .int .i64 x106010_2, .int .i64 x106011_2, .int .i64 x106012_2, .int .i64 x106013_2, .int .i64 x106014_2, .int .i64 x106015_2] 23 (0, 0))) := ⟨(by rw [hw]; exact (by (with_reducible repeat (first | refine blk_drewN ?_ _ | refine blk_drew ?_ | refine blk_alloc ?_ _)); refine blk_put (cs := #[.int .i64 x106000_2, .int .i64 x106001_2, .int .i64 x106002_2, .int .i64 x106003_2, .int .i64 x106004_2, .int .i64 x106005_2, .int .i64 x106006_2, .int .i64 x106007_2, .int .i64 x106008_2, .int .i64 x106009_2, .int .i64 x106010_2, .int .i64 x106011_2, .int .i64 x106012_2, .int .i64 x106013_2, .int .i64 x106014_2, .int .i64 0]) ?_ 15 _ rfl; (with_reducible repeat (first | refine blk_drewN ?_ _ | refine blk_drew ?_ | refine blk_alloc ?_ _)); refine blk_put (cs := #[.int .i64 x106000_2, .int .i64 x106001_2, .int .i64 x106002_2, .int .i64 x106003_2, .int .i64 x106004_2, .int .i64 x106005_2, .int .i64 x106006_2, .int .i64 x106007_2, .int .i64 x106008_2, .int .i64 x106009_2, .int .i64 x106010_2, .int .i64 x106011_2, .int .i64 x106012_2, .int .i64 x106013_2, .int .i64 0, .int .i64 0]) ?_ 14 _ rfl; (with_reducible repeat (first | refine blk_drewN ?_ _ | refine blk_drew ?_ | refine blk_alloc ?_ _)); refine blk_put (cs := #[.int .i64 x106000_2, .int .i64 x106001_2, .int .i64 x106002_2, .int .i64 x106003_2, .int .i64 x106004_2, .int .i64 x106005_2, .int .i64 x106006_2, .int .i64 x106007_2, .int .i64 x106008_2, .int .i64 x106009_2, .int .i64 x106010_2, .int .i64 x106011_2, .int .i64 x106012_2, .int .i64 0, .int .i64 0, .int .i64 0]) ?_ 13 _ rfl; (with_reducible repeat (first | refine blk_drewN ?_ _ | refine blk_drew ?_ | refine blk_alloc ?_ _)); refine blk_put (cs := #[.int .i64 x106000_2, .int .i64 x106001_2, .int .i64 x106002_2, .int .i64 x106003_2, .int .i64 x106004_2, .int .i64 x106005_2, .int .i64 x106006_2, .int .i64 x106007_2, .int .i64 x106008_2, .int .i64 x106009_2, .int .i64 x106010_2, .int .i64 x106011_2, .int .i64 0, .int .i64 0, .int .i64 0, .int .i64 0]) ?_ 12 _ rfl; (with_reducible repeat (first | refine blk_drewN ?_ _ | refine blk_drew ?_ | refine blk_alloc ?_ _)); refine blk_put (cs := #[.int .i64 x106000_2, .int .i64 x106001_2, .int .i64 x106002_2, .int .i64 x106003_2, .int .i64 x106004_2, .int .i64 x106005_2, .int .i64 x106006_2, .int .i64 x106007_2, .int .i64 x106008_2, .int .i64 x106009_2, .int .i64 x106010_2, .int .i64 0, .int .i64 0, .int .i64 0, .int .i64 0, .int .i64 0]) ?_ 11 _ rfl; (with_reducible repeat (first | refine blk_drewN ?_ _ | refine blk_drew ?_ | refine blk_alloc ?_ _)); refine blk_put (cs := #[.int .i64 x106000_2, .int .i64 x106001_2, .int .i64 x106002_2, .int .i64 x106003_2, .int .i64 x106004_2, .int .i64 x106005_2, .int .i64 x106006_2, .int .i64 x106007_2, .int .i64 x106008_2, .int .i64 x106009_2, .int .i64 0, .int .i64 0, .int .i64 0, .int .i64 0, .int .i64 0, .int .i64 0]) ?_ 10 _ rfl; (with_reducible repeat (first | refine blk_drewN ?_ _ | refine blk_drew ?_ | refine blk_alloc ?_ _)); refine blk_put (cs := #[.int .i64 x106000_2, .int .i64 x106001_2, .int .i64 x106002_2, .int .i64 x106003_2, .int .i64 x106004_2, .int .i64 x106005_2, .int .i64 x106006_2, .int .i64 x106007_2, .int .i64 x106008_2, .int .i64 0, .int .i64 0, .int .i64 0, .int .i64 0, .int .i64 0, .int .i64 0, .int .i64 0]) ?_ 9 _ rfl; (with_reducible repeat (first | refine blk_drewN ?_ _ | refine blk_drew ?_ | refine blk_alloc ?_ _)); refine blk_put (cs := #[.int .i64 x106000_2, .int .i64 x106001_2, .int .i64 x106002_2, .int .i64 x106003_2, .int .i64 x106004_2, .int .i64 x106005_2, .int .i64 x106006_2, .int .i64 x106007_2, .int .i64 0, .int .i64 0, .int .i64 0, .int .i64 0, .int .i64 0, .int .i64 0, .int .i64 0, .int .i64 0]) ?_ 8 _ rfl; (with_reducible repeat (first | refine blk_drewN ?_ _ | refine blk_drew ?_ | refine blk_alloc ?_ _)); refine blk_put (cs := #[.int .i64 x106000_2, .int .i64 x106001_2, .int .i64 x106002_2, .int .i64 x106003_2, .int .i64 x106004_2, .int .i64 x106005_2, .int .i64 x106006_2, .int .i64 0, .int .i64 0, .int .i64 0, .int .i64 0, .int .i64 0, .int .i64 0, .int .i64 0, .int .i64 0, .int .i64 0]) ?_ 7 _ rfl; (with_reducible repeat (first | refine blk_drewN ?_ _ | refine blk_drew ?_ | refine blk_alloc ?_ _)); refine blk_put (cs := #[.int .i64 x106000_2, .int .i64 x106001_2, .int .i64 x106002_2, .int .i64 x106003_2, .int .i64 x106004_2, .int .i64 x106005_2, .int .i64 0, .int .i64 0, .int .i64 0, .int .i64 0, .int .i64 0, .int .i64 0, .int .i64 0, .int .i64 0, .int .i64 0, .int .i64 0]) ?_ 6 _ rfl; (with_reducible repeat (first | refine blk_drewN ?_ _ | refine blk_drew ?_ | refine blk_alloc ?_ _)); refine blk_put (cs := #[.int .i64 x106000_2, .int .i64 x106001_2, .int .i64 x106002_2, .int .i64 x106003_2, .int .i64 x106004_2, .int .i64 0, .int .i64 0, .int .i64 0, .int .i64 0, .int .i64 0, .int .i64 0, .int .i64 0, .int .i64 0, .int .i64 0, .int .i64 0, .int .i64 0]) ?_ 5 _ rfl; (with_reducible repeat (first | refine blk_drewN ?_ _ | refine blk_drew ?_ | refine blk_alloc ?_ _)); refine blk_put (cs := #[.int .i64 x106000_2, .int .i64 x106001_2, .int .i64 x106002_2, .int .i64 x106003_2, .int .i64 0, .int .i64 0, .int .i64 0, .int .i64 0, .int .i64 0, .int .i64 0, .int .i64 0, .int .i64 0, .int .i64 0, .int .i64 0, .int .i64 0, .int .i64 0]) ?_ 4 _ rfl; (with_reducible repeat (first | refine blk_drewN ?_ _ | refine blk_drew ?_ | refine blk_alloc ?_ _)); refine blk_put (cs := #[.int .i64 x106000_2, .int .i64 x106001_2, .int .i64 x106002_2, .int .i64 0, .int .i64 0, .int .i64 0, .int .i64 0, .int .i64 0, .int .i64 0, .int .i64 0, .int .i64 0, .int .i64 0, .int .i64 0, .int .i64 0, .int .i64 0, .int .i64 0]) ?_ 3 _ rfl; (with_reducible repeat (first | refine blk_drewN ?_ _ | refine blk_drew ?_ | refine blk_alloc ?_ _)); refine blk_put (cs := #[.int .i64 x106000_2, .int .i64 x106001_2, .int .i64 0, .int .i64 0, .int .i64 0, .int .i64 0, .int .i64 0, .int .i64 0, .int .i64 0, .int .i64 0, .int .i64 0, .int .i64 0, .int .i64 0, .int .i64 0, .int .i64 0, .int .i64 0]) ?_ 2 _ rfl; (with_reducible repeat (first | refine blk_drewN ?_ _ | refine blk_drew ?_ | refine blk_alloc ?_ _)); refine blk_put (cs := #[.int .i64 x106000_2, .int .i64 0, .int .i64 0, .int .i64 0, .int .i64 0, .int .i64 0, .int .i64 0, .int .i64 0, .int .i64 0, .int .i64 0, .int .i64 0, .int .i64 0, .int .i64 0, .int .i64 0, .int .i64 0, .int .i64 0]) ?_ 1 _ rfl; (with_reducible repeat (first | refine blk_drewN ?_ _ | refine blk_drew ?_ | refine blk_alloc ?_ _)); refine blk_put (cs := #[.int .i64 0, .int .i64 0, .int .i64 0, .int .i64 0, .int .i64 0, .int .i64 0, .int .i64 0, .int .i64 0, .int .i64 0, .int .i64 0, .int .i64 0, .int .i64 0, .int .i64 0, .int .i64 0, .int .i64 0, .int .i64 0]) ?_ 0 _ rfl; (with_reducible repeat (first | refine blk_drewN ?_ _ | refine blk_drew ?_ | refine blk_alloc ?_ _)); exact BK104.out))⟩; have n2_ : Aside0 (w45.heap[gb105]? = some (.cells #[.int .i64 x106000_2, .int .i64 x106001_2, .int .i64 x106002_2, .int .i64 x106003_2, .int .i64 x106004_2, .int .i64 x106005_2, .int .i64 x106006_2, .int .i64 x106007_2, .int .i64 x106008_2, .int .i64 x106009_2, .int .i64 x106010_2, .int .i64 x106011_2, .int .i64 x106012_2, .int .i64 x106013_2, .int .i64 x106014_2, .int .i64 x106015_2] 23 (0, 0))) := ⟨(by rw [hw]; exact (by (with_reducible repeat (first | refine blk_drewN ?_ _ | refine blk_drew ?_ | refine blk_alloc ?_ _)); refine blk_far ?_ NB105_104.out _; (with_reducible repeat (first | refine blk_drewN ?_ _ | refine blk_drew ?_ | refine blk_alloc ?_ _)); refine blk_far ?_ NB105_104.out _; (with_reducible repeat (first | refine blk_drewN ?_ _ | refine blk_drew ?_ | refine blk_alloc ?_ _)); refine blk_far ?_ NB105_104.out _; (with_reducible repeat (first | refine blk_drewN ?_ _ | refine blk_drew ?_ | refine blk_alloc ?_ _)); refine blk_far ?_ NB105_104.out _; (with_reducible repeat (first | refine blk_drewN ?_ _ | refine blk_drew ?_ | refine blk_alloc ?_ _)); refine blk_far ?_ NB105_104.out _; (with_reducible repeat (first | refine blk_drewN ?_ _ | refine blk_drew ?_ | refine blk_alloc ?_ _)); refine blk_far ?_ NB105_104.out _; (with_reducible repeat (first | refine blk_drewN ?_ _ | refine blk_drew ?_ | refine blk_alloc ?_ _)); refine blk_far ?_ NB105_104.out _; (with_reducible repeat (first | refine blk_drewN ?_ _ | refine blk_drew ?_ | refine blk_alloc ?_ _)); refine blk_far ?_ NB105_104.out _; (with_reducible repeat (first | refine blk_drewN ?_ _ | refine blk_drew ?_ | refine blk_alloc ?_ _)); refine blk_far ?_ NB105_104.out _; (with_reducible repeat (first | refine blk_drewN ?_ _ | refine blk_drew ?_ | refine blk_alloc ?_ _)); refine blk_far ?_ NB105_104.out _; (with_reducible repeat (first | refine blk_drewN ?_ _ | refine blk_drew ?_ | refine blk_alloc ?_ _)); refine blk_far ?_ NB105_104.out _; (with_reducible repeat (first | refine blk_drewN ?_ _ | refine blk_drew ?_ | refine blk_alloc ?_ _)); refine blk_far ?_ NB105_104.out _; (with_reducible repeat (first | refine blk_drewN ?_ _ | refine blk_drew ?_ | refine blk_alloc ?_ _)); refine blk_far ?_ NB105_104.out _; (with_reducible repeat (first | refine blk_drewN ?_ _ | refine blk_drew ?_ | refine blk_alloc ?_ _)); refine blk_far ?_ NB105_104.out _; (with_reducible repeat (first | refine blk_drewN ?_ _ | refine blk_drew ?_ | refine blk_alloc ?_ _)); refine blk_far ?_ NB105_104.out _; (with_reducible repeat (first | refine blk_drewN ?_ _ | refine blk_drew ?_ | refine blk_alloc ?_ _)); refine blk_far ?_ NB105_104.out _; (with_reducible repeat (first | refine blk_drewN ?_ _ | refine blk_drew ?_ | refine blk_alloc ?_ _)); exact BK105.out))⟩; have n3_ : Aside0 (Below w.heap.size w w45) := ⟨(by rw [hw]; exact (by repeat (first | (with_reducible first | exact HB.out | apply below_alloc | apply pw_below_drewN | apply below_drew1 | refine below_set ?_ GE103.out | refine below_set ?_ GE104.out | refine below_set ?_ GE105.out) | exact HB.out)))⟩; clear hw; clear BK103; clear BK104; clear BK105; clear HB; have BK103 := n0_; have BK104 := n1_; have BK105 := n2_; have HB := n3_; clear n0_ n1_ n2_ n3_))
       refine bodyPost_ret (results_cell_row rfl _ _ gb104 23 #[.int .i64 x106000_2, .int .i64 x106001_2, .int .i64 x106002_2, .int .i64 x106003_2, .int .i64 x106004_2, .int .i64 x106005_2, .int .i64 x106006_2, .int .i64 x106007_2, .int .i64 x106008_2, .int .i64 x106009_2, .int .i64 x106010_2, .int .i64 x106011_2, .int .i64 x106012_2, .int .i64 x106013_2, .int .i64 x106014_2, .int .i64 x106015_2] (0, 0) _ rfl (by (with_reducible repeat (first | refine blk_drewN ?_ _ | refine blk_drew ?_ | refine blk_alloc ?_ _)); exact BK104.out) Try.underlying23 rfl (by kernel_rfl)) rfl ?_
       exact ⟨by first | rfl | (simp [errW_none, errW_some] <;> rfl) | (simp [*, errW_none, errW_some] <;> rfl), by repeat (first | (with_reducible first | exact HB.out | apply below_alloc | apply pw_below_drewN | apply below_drew1 | refine below_set ?_ GE103.out | refine below_set ?_ GE104.out | refine below_set ?_ GE105.out) | exact HB.out)⟩

end Go.Proofs.Ytjbejbehbjhecaa.Q21p
