/- Written by a program of this session out of the print of the loaded functions: each Go function as a plain function, and that its call comes to it; for a law, the row out of its plain statement. -/
import Derived.Test.YtkfnbnfdcfcfpaaQ8x0
import Derived.Test.YtkfnbnfdcfcfpaaQ8x1
import Derived.Test.YtkfnbnfdcfcfpaaQ8x2
namespace Go.Proofs.Ytkfnbnfdcfcfpaa.Q8
open Go.RowKit Go.Proofs.YtkfnbnfdcfcfpaaW.PrintWords Go.Proofs.YtkfnbnfdcfcfpaaW.PrintLast Go.Proofs.YtkfnbnfdcfcfpaaW.PrintMore
attribute [local go_sem] max2_int min2_int max_two min_two max_three min_three max_four min_four   -- for this text's walks alone
set_option linter.unusedVariables false
set_option linter.unusedSimpArgs false

/-! ### watchwordlaw8_HeadForms: function 4 -/
def watchwordlaw8_HeadForms.j0 : Nat → Int → ByteArray → Int → ByteArray → Bool → Option (Bool)
 | 0, _, _, _, _, _ => none
 | k + 1, x9, x10, x11, x12, x70 => if x70 = true then (some false) else (if 0 ≤ 11 then (if 11 ≤ (x12.size : Int) then (if 1 ≤ (x12.size : Int) then (if 1 + (x12.extract 1 x12.size).size ≤ 9223372036854775807 then (if 0 ≤ 1 then (if (x12.extract 0 1).size + 1 ≤ 9223372036854775807 then (if 2 ≤ (x12.size : Int) then (if ((x12.extract 0 1) ++ (⟨#[6]⟩ : ByteArray)).size + (x12.extract 2 x12.size).size ≤ 9223372036854775807 then (if 0 ≤ 2 then (if (x12.extract 0 2).size + 1 ≤ 9223372036854775807 then (if 3 ≤ (x12.size : Int) then (if ((x12.extract 0 2) ++ (⟨#[255]⟩ : ByteArray)).size + (x12.extract 3 x12.size).size ≤ 9223372036854775807 then (if 0 ≤ 3 then (if (x12.extract 0 3).size + 1 ≤ 9223372036854775807 then (if 4 ≤ (x12.size : Int) then (if ((x12.extract 0 3) ++ (⟨#[11]⟩ : ByteArray)).size + (x12.extract 4 x12.size).size ≤ 9223372036854775807 then (if 0 ≤ 4 then (if (x12.extract 0 4).size + 1 ≤ 9223372036854775807 then (if 5 ≤ (x12.size : Int) then (if ((x12.extract 0 4) ++ (⟨#[1]⟩ : ByteArray)).size + (x12.extract 5 x12.size).size ≤ 9223372036854775807 then (if 0 ≤ 7 then (if 7 ≤ (x12.size : Int) then (if (x12.extract 0 7).size + 1 ≤ 9223372036854775807 then (if 8 ≤ (x12.size : Int) then (if ((x12.extract 0 7) ++ (⟨#[5]⟩ : ByteArray)).size + (x12.extract 8 x12.size).size ≤ 9223372036854775807 then (if 0 ≤ 8 then (if (x12.extract 0 8).size + 1 ≤ 9223372036854775807 then (if 9 ≤ (x12.size : Int) then (if ((x12.extract 0 8) ++ (⟨#[1]⟩ : ByteArray)).size + (x12.extract 9 x12.size).size ≤ 9223372036854775807 then (if (x12.extract 0 11).size + 1 ≤ 9223372036854775807 then ((some (([(⟨#[]⟩ : ByteArray), x12.extract 0 11, (⟨#[1]⟩ : ByteArray) ++ (x12.extract 1 x12.size), ((x12.extract 0 1) ++ (⟨#[6]⟩ : ByteArray)) ++ (x12.extract 2 x12.size), ((x12.extract 0 2) ++ (⟨#[255]⟩ : ByteArray)) ++ (x12.extract 3 x12.size), ((x12.extract 0 3) ++ (⟨#[11]⟩ : ByteArray)) ++ (x12.extract 4 x12.size), ((x12.extract 0 4) ++ (⟨#[1]⟩ : ByteArray)) ++ (x12.extract 5 x12.size), ((x12.extract 0 7) ++ (⟨#[5]⟩ : ByteArray)) ++ (x12.extract 8 x12.size), ((x12.extract 0 8) ++ (⟨#[1]⟩ : ByteArray)) ++ (x12.extract 9 x12.size), (x12.extract 0 11) ++ (⟨#[1]⟩ : ByteArray)] : List ByteArray) : List ByteArray)).bind fun y184 => (if 0 ≤ x9 then (if x9 < (y184.length : Int) then ((head_Get.f k (rdOf ByteArray.empty y184 x9)).bind fun bt188 => (if x10.toList = ([] : List UInt8) then ((watchwordlaw0_Num.f x11).bind fun t192 => (if t192 = 800 then ((watchwordlaw0_Num.f bt188.2.2.2).bind fun t193 => (some (t193 == 800))) else (some false))) else (some false))) else (none)) else (none))) else (none)) else (none)) else (none)) else (none)) else (none)) else (none)) else (none)) else (none)) else (none)) else (none)) else (none)) else (none)) else (none)) else (none)) else (none)) else (none)) else (none)) else (none)) else (none)) else (none)) else (none)) else (none)) else (none)) else (none)) else (none)) else (none)) else (none)) else (none)) else (none)) else (none))
def watchwordlaw8_HeadForms.f (k : Nat) (a0 : Int) (a1 : Int) : Option (Bool) := (watchwordlaw8_awake.f k).bind fun t166 => (if t166 = true then ((some (([wrap64 (-(wrap64 (1 + (Go.bits .and .i64 a1 1023)))), 0, 2, 3, wrap64 (5 + (wrap64 (1 + (Go.bits .and .i64 a1 1023)))), 4, 4, 4, 4, 4] : List Int) : List Int)).bind fun y167 => ((some (([1, 1, 1, 1, 1, 0, wrap64 (-(wrap64 (1 + (Go.bits .and .i64 a1 1023)))), wrap64 (4 + (wrap64 (1 + (Go.bits .and .i64 a1 1023)))), 1, 1] : List Int) : List Int)).bind fun y170 => ((some (([20, 20, 20, 20, 20, 20, 20, 20, wrap64 (12 - (wrap64 (1 + (Go.bits .and .i64 a1 1023)))), wrap64 (512 + (wrap64 (1 + (Go.bits .and .i64 a1 1023))))] : List Int) : List Int)).bind fun y173 => (if 0 ≤ (wrap64 (Int.tmod (IntKind.u64.wrap (a0)) 10)) then (if (wrap64 (Int.tmod (IntKind.u64.wrap (a0)) 10)) < (y167.length : Int) then (if (wrap64 (Int.tmod (IntKind.u64.wrap (a0)) 10)) < (y170.length : Int) then (if (wrap64 (Int.tmod (IntKind.u64.wrap (a0)) 10)) < (y173.length : Int) then ((head_Put.f k (rd y167 (wrap64 (Int.tmod (IntKind.u64.wrap (a0)) 10))) (rd y170 (wrap64 (Int.tmod (IntKind.u64.wrap (a0)) 10))) (rd y173 (wrap64 (Int.tmod (IntKind.u64.wrap (a0)) 10)))).bind fun bt179 => ((head_Put.f k 5 4 20).bind fun bt181 => ((watchwordlaw0_Num.f bt181.2).bind fun t183 => (if t183 = 0 then (watchwordlaw8_HeadForms.j0 k (wrap64 (Int.tmod (IntKind.u64.wrap (a0)) 10)) bt179.1 bt179.2 bt181.1 ((bt181.1.size : Int) != 12)) else (watchwordlaw8_HeadForms.j0 k (wrap64 (Int.tmod (IntKind.u64.wrap (a0)) 10)) bt179.1 bt179.2 bt181.1 true))))) else (none)) else (none)) else (none)) else (none))))) else (some false))
theorem watchwordlaw8_HeadForms.mono_l : ∀ k, (∀ y0 y1 y2 y3 y4, LeO (watchwordlaw8_HeadForms.j0 k y0 y1 y2 y3 y4) (watchwordlaw8_HeadForms.j0 (k + 1) y0 y1 y2 y3 y4))
 | 0 => fun _ _ _ _ _ r h => by simp [watchwordlaw8_HeadForms.j0] at h
 | k + 1 => by
  have ih0 := watchwordlaw8_HeadForms.mono_l k
  ·intro y0 y1 y2 y3 y4
   unfold watchwordlaw8_HeadForms.j0
   repeat' first
   | (with_reducible exact ih0 _ _ _ _ _)
   | (with_reducible exact head_Get.mono _ _)
   | (with_reducible exact head_Put.mono _ _ _ _)
   | (with_reducible exact watchwordlaw8_awake.mono _)
   | (with_reducible exact LeO.refl _)
   | (with_reducible exact LeO.none _)
   | (with_reducible refine LeO.ite ?_ ?_)
   | (with_reducible refine LeO.bind ?_ (fun _ => ?_))
   | exact ih0 _ _ _ _ _
   | exact head_Get.mono _ _
   | exact head_Put.mono _ _ _ _
   | exact watchwordlaw8_awake.mono _
   | exact LeO.none _
   | refine LeO.ite ?_ ?_
   | refine LeO.bind ?_ (fun _ => ?_)
theorem watchwordlaw8_HeadForms.mono : ∀ a0 a1 k, LeO (watchwordlaw8_HeadForms.f k a0 a1) (watchwordlaw8_HeadForms.f (k + 1) a0 a1) := by
 intro a0 a1 k
 have ih0 := watchwordlaw8_HeadForms.mono_l k
 unfold watchwordlaw8_HeadForms.f
 repeat' first
   | (with_reducible exact ih0 _ _ _ _ _)
   | (with_reducible exact head_Get.mono _ _)
   | (with_reducible exact head_Put.mono _ _ _ _)
   | (with_reducible exact watchwordlaw8_awake.mono _)
   | (with_reducible exact LeO.refl _)
   | (with_reducible exact LeO.none _)
   | (with_reducible refine LeO.ite ?_ ?_)
   | (with_reducible refine LeO.bind ?_ (fun _ => ?_))
   | exact ih0 _ _ _ _ _
   | exact head_Get.mono _ _
   | exact head_Put.mono _ _ _ _
   | exact watchwordlaw8_awake.mono _
   | exact LeO.none _
   | refine LeO.ite ?_ ?_
   | refine LeO.bind ?_ (fun _ => ?_)
def watchwordlaw8_HeadForms.T8 : Bool × List (List Nat × List Nat) := (true, [([], []), ([], []), ([0, 1], [0, 1]), ([2], [2]), ([], []), ([], []), ([4, 5], [4, 5]), ([6], [6]), ([], []), ([], []), ([8, 9], [8, 9]), ([10], [10]), ([3, 7, 11], [3, 7, 11]), ([12], [12]), ([13], [13]), ([13], [13]), ([14, 12, 0, 1, 2, 3, 4, 5, 6, 7, 8, 9, 10, 11, 12, 13, 14], [14]), ([15, 16, 0, 1, 2, 3, 4, 5, 6, 7, 8, 9, 10, 11, 12, 13, 14, 15, 16], [15])])
def watchwordlaw8_HeadForms.B8 : List Nat := [0, 0, 3, 7, 0, 0, 48, 112, 0, 0, 768, 1792, 4095, 8191, 16383, 16383, 32767, 131071]
theorem watchwordlaw8_HeadForms.tab8 : rtab .any (opsOf Try.f4 8) = watchwordlaw8_HeadForms.T8 := by kernel_rfl
theorem watchwordlaw8_HeadForms.bits8 : waitsOk watchwordlaw8_HeadForms.T8.2 watchwordlaw8_HeadForms.B8 = true := by kernel_rfl
def watchwordlaw8_HeadForms.T12 : Bool × List (List Nat × List Nat) := (true, [([], []), ([0], [0]), ([], []), ([2], [2]), ([3], [3]), ([], []), ([5], [5]), ([6], [6]), ([], []), ([8], [8]), ([7, 9], [7, 9]), ([], []), ([11], [11]), ([12], [12]), ([], []), ([14], [14]), ([13, 15], [13, 15]), ([], []), ([17], [17]), ([18], [18]), ([], []), ([20], [20]), ([19, 21], [19, 21]), ([], []), ([23], [23]), ([24], [24]), ([], []), ([26], [26]), ([25, 27], [25, 27]), ([], []), ([29], [29]), ([30], [30]), ([], []), ([32], [32]), ([31, 33], [31, 33]), ([], []), ([35], [35]), ([36], [36]), ([], []), ([38], [38]), ([37, 39], [37, 39]), ([], []), ([41], [41]), ([42], [42]), ([1, 4, 10, 16, 22, 28, 34, 40, 43], [1, 4, 10, 16, 22, 28, 34, 40, 43]), ([44, 0, 1, 2, 3, 4, 5, 6, 7, 8, 9, 10, 11, 12, 13, 14, 15, 16, 17, 18, 19, 20, 21, 22, 23, 24, 25, 26, 27, 28, 29, 30, 31, 32, 33, 34, 35, 36, 37, 38, 39, 40, 41, 42, 43, 44], [44])])
def watchwordlaw8_HeadForms.B12 : List Nat := [0, 1, 0, 4, 12, 0, 32, 96, 0, 256, 992, 0, 2048, 6144, 0, 16384, 63488, 0, 131072, 393216, 0, 1048576, 4063232, 0, 8388608, 25165824, 0, 67108864, 260046848, 0, 536870912, 1610612736, 0, 4294967296, 16642998272, 0, 34359738368, 103079215104, 0, 274877906944, 1065151889408, 0, 2199023255552, 6597069766656, 17592186044415, 35184372088831]
theorem watchwordlaw8_HeadForms.tab12 : rtab .any (opsOf Try.f4 12) = watchwordlaw8_HeadForms.T12 := by kernel_rfl
theorem watchwordlaw8_HeadForms.bits12 : waitsOk watchwordlaw8_HeadForms.T12.2 watchwordlaw8_HeadForms.B12 = true := by kernel_rfl
set_option maxHeartbeats 8000000 in
set_option maxRecDepth 100000 in
theorem watchwordlaw8_HeadForms.calls (k : Nat) (a0 : Int) (a1 : Int) (r : Bool) (w : World) (h : watchwordlaw8_HeadForms.f k a0 a1 = some r) :
  Calls Try.prog 4 #[.int .i64 a0, .int .i64 a1] w fun e w' => e = .returned (.bool r) ∧ Below w.heap.size w w' := by
 have HB := Aside0.mk (Below.refl w.heap.size w)
 have H : ((watchwordlaw8_awake.f k).bind fun t166 => (if t166 = true then ((some (([wrap64 (-(wrap64 (1 + (Go.bits .and .i64 a1 1023)))), 0, 2, 3, wrap64 (5 + (wrap64 (1 + (Go.bits .and .i64 a1 1023)))), 4, 4, 4, 4, 4] : List Int) : List Int)).bind fun y167 => ((some (([1, 1, 1, 1, 1, 0, wrap64 (-(wrap64 (1 + (Go.bits .and .i64 a1 1023)))), wrap64 (4 + (wrap64 (1 + (Go.bits .and .i64 a1 1023)))), 1, 1] : List Int) : List Int)).bind fun y170 => ((some (([20, 20, 20, 20, 20, 20, 20, 20, wrap64 (12 - (wrap64 (1 + (Go.bits .and .i64 a1 1023)))), wrap64 (512 + (wrap64 (1 + (Go.bits .and .i64 a1 1023))))] : List Int) : List Int)).bind fun y173 => (if 0 ≤ (wrap64 (Int.tmod (IntKind.u64.wrap (a0)) 10)) then (if (wrap64 (Int.tmod (IntKind.u64.wrap (a0)) 10)) < (y167.length : Int) then (if (wrap64 (Int.tmod (IntKind.u64.wrap (a0)) 10)) < (y170.length : Int) then (if (wrap64 (Int.tmod (IntKind.u64.wrap (a0)) 10)) < (y173.length : Int) then ((head_Put.f k (rd y167 (wrap64 (Int.tmod (IntKind.u64.wrap (a0)) 10))) (rd y170 (wrap64 (Int.tmod (IntKind.u64.wrap (a0)) 10))) (rd y173 (wrap64 (Int.tmod (IntKind.u64.wrap (a0)) 10)))).bind fun bt179 => ((head_Put.f k 5 4 20).bind fun bt181 => ((watchwordlaw0_Num.f bt181.2).bind fun t183 => (if t183 = 0 then (watchwordlaw8_HeadForms.j0 k (wrap64 (Int.tmod (IntKind.u64.wrap (a0)) 10)) bt179.1 bt179.2 bt181.1 ((bt181.1.size : Int) != 12)) else (watchwordlaw8_HeadForms.j0 k (wrap64 (Int.tmod (IntKind.u64.wrap (a0)) 10)) bt179.1 bt179.2 bt181.1 true))))) else (none)) else (none)) else (none)) else (none))))) else (some false))) = some r := h
 clear h
 replace H := Option.bind_eq_some_iff.mp H
 obtain ⟨t166, A30, H⟩ := H
 replace H : (if t166 = true then ((some (([wrap64 (-(wrap64 (1 + (Go.bits .and .i64 a1 1023)))), 0, 2, 3, wrap64 (5 + (wrap64 (1 + (Go.bits .and .i64 a1 1023)))), 4, 4, 4, 4, 4] : List Int) : List Int)).bind fun y167 => ((some (([1, 1, 1, 1, 1, 0, wrap64 (-(wrap64 (1 + (Go.bits .and .i64 a1 1023)))), wrap64 (4 + (wrap64 (1 + (Go.bits .and .i64 a1 1023)))), 1, 1] : List Int) : List Int)).bind fun y170 => ((some (([20, 20, 20, 20, 20, 20, 20, 20, wrap64 (12 - (wrap64 (1 + (Go.bits .and .i64 a1 1023)))), wrap64 (512 + (wrap64 (1 + (Go.bits .and .i64 a1 1023))))] : List Int) : List Int)).bind fun y173 => (if 0 ≤ (wrap64 (Int.tmod (IntKind.u64.wrap (a0)) 10)) then (if (wrap64 (Int.tmod (IntKind.u64.wrap (a0)) 10)) < (y167.length : Int) then (if (wrap64 (Int.tmod (IntKind.u64.wrap (a0)) 10)) < (y170.length : Int) then (if (wrap64 (Int.tmod (IntKind.u64.wrap (a0)) 10)) < (y173.length : Int) then ((head_Put.f k (rd y167 (wrap64 (Int.tmod (IntKind.u64.wrap (a0)) 10))) (rd y170 (wrap64 (Int.tmod (IntKind.u64.wrap (a0)) 10))) (rd y173 (wrap64 (Int.tmod (IntKind.u64.wrap (a0)) 10)))).bind fun bt179 => ((head_Put.f k 5 4 20).bind fun bt181 => ((watchwordlaw0_Num.f bt181.2).bind fun t183 => (if t183 = 0 then (watchwordlaw8_HeadForms.j0 k (wrap64 (Int.tmod (IntKind.u64.wrap (a0)) 10)) bt179.1 bt179.2 bt181.1 ((bt181.1.size : Int) != 12)) else (watchwordlaw8_HeadForms.j0 k (wrap64 (Int.tmod (IntKind.u64.wrap (a0)) 10)) bt179.1 bt179.2 bt181.1 true))))) else (none)) else (none)) else (none)) else (none))))) else (some false)) = some r := H
 have A3 := Aside0.mk A30
 clear A30
 by_cases c4 : t166 = true
 ·subst c4
  have H1 : ((some (([wrap64 (-(wrap64 (1 + (Go.bits .and .i64 a1 1023)))), 0, 2, 3, wrap64 (5 + (wrap64 (1 + (Go.bits .and .i64 a1 1023)))), 4, 4, 4, 4, 4] : List Int) : List Int)).bind fun y167 => ((some (([1, 1, 1, 1, 1, 0, wrap64 (-(wrap64 (1 + (Go.bits .and .i64 a1 1023)))), wrap64 (4 + (wrap64 (1 + (Go.bits .and .i64 a1 1023)))), 1, 1] : List Int) : List Int)).bind fun y170 => ((some (([20, 20, 20, 20, 20, 20, 20, 20, wrap64 (12 - (wrap64 (1 + (Go.bits .and .i64 a1 1023)))), wrap64 (512 + (wrap64 (1 + (Go.bits .and .i64 a1 1023))))] : List Int) : List Int)).bind fun y173 => (if 0 ≤ (wrap64 (Int.tmod (IntKind.u64.wrap (a0)) 10)) then (if (wrap64 (Int.tmod (IntKind.u64.wrap (a0)) 10)) < (y167.length : Int) then (if (wrap64 (Int.tmod (IntKind.u64.wrap (a0)) 10)) < (y170.length : Int) then (if (wrap64 (Int.tmod (IntKind.u64.wrap (a0)) 10)) < (y173.length : Int) then ((head_Put.f k (rd y167 (wrap64 (Int.tmod (IntKind.u64.wrap (a0)) 10))) (rd y170 (wrap64 (Int.tmod (IntKind.u64.wrap (a0)) 10))) (rd y173 (wrap64 (Int.tmod (IntKind.u64.wrap (a0)) 10)))).bind fun bt179 => ((head_Put.f k 5 4 20).bind fun bt181 => ((watchwordlaw0_Num.f bt181.2).bind fun t183 => (if t183 = 0 then (watchwordlaw8_HeadForms.j0 k (wrap64 (Int.tmod (IntKind.u64.wrap (a0)) 10)) bt179.1 bt179.2 bt181.1 ((bt181.1.size : Int) != 12)) else (watchwordlaw8_HeadForms.j0 k (wrap64 (Int.tmod (IntKind.u64.wrap (a0)) 10)) bt179.1 bt179.2 bt181.1 true))))) else (none)) else (none)) else (none)) else (none))))) = some r := by rw [if_pos rfl] at H; exact H
  clear H
  have H := H1
  clear H1
  obtain ⟨y167, hy167⟩ : ∃ y_ : List Int, y_ = (([wrap64 (-(wrap64 (1 + (Go.bits .and .i64 a1 1023)))), 0, 2, 3, wrap64 (5 + (wrap64 (1 + (Go.bits .and .i64 a1 1023)))), 4, 4, 4, 4, 4] : List Int)) := ⟨_, rfl⟩
  replace H : ((some (([1, 1, 1, 1, 1, 0, wrap64 (-(wrap64 (1 + (Go.bits .and .i64 a1 1023)))), wrap64 (4 + (wrap64 (1 + (Go.bits .and .i64 a1 1023)))), 1, 1] : List Int) : List Int)).bind fun y170 => ((some (([20, 20, 20, 20, 20, 20, 20, 20, wrap64 (12 - (wrap64 (1 + (Go.bits .and .i64 a1 1023)))), wrap64 (512 + (wrap64 (1 + (Go.bits .and .i64 a1 1023))))] : List Int) : List Int)).bind fun y173 => (if 0 ≤ (wrap64 (Int.tmod (IntKind.u64.wrap (a0)) 10)) then (if (wrap64 (Int.tmod (IntKind.u64.wrap (a0)) 10)) < (y167.length : Int) then (if (wrap64 (Int.tmod (IntKind.u64.wrap (a0)) 10)) < (y170.length : Int) then (if (wrap64 (Int.tmod (IntKind.u64.wrap (a0)) 10)) < (y173.length : Int) then ((head_Put.f k (rd y167 (wrap64 (Int.tmod (IntKind.u64.wrap (a0)) 10))) (rd y170 (wrap64 (Int.tmod (IntKind.u64.wrap (a0)) 10))) (rd y173 (wrap64 (Int.tmod (IntKind.u64.wrap (a0)) 10)))).bind fun bt179 => ((head_Put.f k 5 4 20).bind fun bt181 => ((watchwordlaw0_Num.f bt181.2).bind fun t183 => (if t183 = 0 then (watchwordlaw8_HeadForms.j0 k (wrap64 (Int.tmod (IntKind.u64.wrap (a0)) 10)) bt179.1 bt179.2 bt181.1 ((bt181.1.size : Int) != 12)) else (watchwordlaw8_HeadForms.j0 k (wrap64 (Int.tmod (IntKind.u64.wrap (a0)) 10)) bt179.1 bt179.2 bt181.1 true))))) else (none)) else (none)) else (none)) else (none)))) = some r := by first | (rw [hy167]; with_reducible exact H) | (have H2_ := (Option.bind_some _ _).symm.trans H; rw [hy167]; with_reducible exact H2_) | (have H2_ := (Option.bind_some _ _).symm.trans H; with_reducible exact H2_) | with_reducible exact H | (rw [hy167]; exact H) | exact H
  have Ny167 := Aside0.mk hy167
  clear hy167
  obtain ⟨y170, hy170⟩ : ∃ y_ : List Int, y_ = (([1, 1, 1, 1, 1, 0, wrap64 (-(wrap64 (1 + (Go.bits .and .i64 a1 1023)))), wrap64 (4 + (wrap64 (1 + (Go.bits .and .i64 a1 1023)))), 1, 1] : List Int)) := ⟨_, rfl⟩
  replace H : ((some (([20, 20, 20, 20, 20, 20, 20, 20, wrap64 (12 - (wrap64 (1 + (Go.bits .and .i64 a1 1023)))), wrap64 (512 + (wrap64 (1 + (Go.bits .and .i64 a1 1023))))] : List Int) : List Int)).bind fun y173 => (if 0 ≤ (wrap64 (Int.tmod (IntKind.u64.wrap (a0)) 10)) then (if (wrap64 (Int.tmod (IntKind.u64.wrap (a0)) 10)) < (y167.length : Int) then (if (wrap64 (Int.tmod (IntKind.u64.wrap (a0)) 10)) < (y170.length : Int) then (if (wrap64 (Int.tmod (IntKind.u64.wrap (a0)) 10)) < (y173.length : Int) then ((head_Put.f k (rd y167 (wrap64 (Int.tmod (IntKind.u64.wrap (a0)) 10))) (rd y170 (wrap64 (Int.tmod (IntKind.u64.wrap (a0)) 10))) (rd y173 (wrap64 (Int.tmod (IntKind.u64.wrap (a0)) 10)))).bind fun bt179 => ((head_Put.f k 5 4 20).bind fun bt181 => ((watchwordlaw0_Num.f bt181.2).bind fun t183 => (if t183 = 0 then (watchwordlaw8_HeadForms.j0 k (wrap64 (Int.tmod (IntKind.u64.wrap (a0)) 10)) bt179.1 bt179.2 bt181.1 ((bt181.1.size : Int) != 12)) else (watchwordlaw8_HeadForms.j0 k (wrap64 (Int.tmod (IntKind.u64.wrap (a0)) 10)) bt179.1 bt179.2 bt181.1 true))))) else (none)) else (none)) else (none)) else (none))) = some r := by first | (rw [hy170]; with_reducible exact H) | (have H2_ := (Option.bind_some _ _).symm.trans H; rw [hy170]; with_reducible exact H2_) | (have H2_ := (Option.bind_some _ _).symm.trans H; with_reducible exact H2_) | with_reducible exact H | (rw [hy170]; exact H) | exact H
  have Ny170 := Aside0.mk hy170
  clear hy170
  obtain ⟨y173, hy173⟩ : ∃ y_ : List Int, y_ = (([20, 20, 20, 20, 20, 20, 20, 20, wrap64 (12 - (wrap64 (1 + (Go.bits .and .i64 a1 1023)))), wrap64 (512 + (wrap64 (1 + (Go.bits .and .i64 a1 1023))))] : List Int)) := ⟨_, rfl⟩
  replace H : (if 0 ≤ (wrap64 (Int.tmod (IntKind.u64.wrap (a0)) 10)) then (if (wrap64 (Int.tmod (IntKind.u64.wrap (a0)) 10)) < (y167.length : Int) then (if (wrap64 (Int.tmod (IntKind.u64.wrap (a0)) 10)) < (y170.length : Int) then (if (wrap64 (Int.tmod (IntKind.u64.wrap (a0)) 10)) < (y173.length : Int) then ((head_Put.f k (rd y167 (wrap64 (Int.tmod (IntKind.u64.wrap (a0)) 10))) (rd y170 (wrap64 (Int.tmod (IntKind.u64.wrap (a0)) 10))) (rd y173 (wrap64 (Int.tmod (IntKind.u64.wrap (a0)) 10)))).bind fun bt179 => ((head_Put.f k 5 4 20).bind fun bt181 => ((watchwordlaw0_Num.f bt181.2).bind fun t183 => (if t183 = 0 then (watchwordlaw8_HeadForms.j0 k (wrap64 (Int.tmod (IntKind.u64.wrap (a0)) 10)) bt179.1 bt179.2 bt181.1 ((bt181.1.size : Int) != 12)) else (watchwordlaw8_HeadForms.j0 k (wrap64 (Int.tmod (IntKind.u64.wrap (a0)) 10)) bt179.1 bt179.2 bt181.1 true))))) else (none)) else (none)) else (none)) else (none)) = some r := by first | (rw [hy173]; with_reducible exact H) | (have H2_ := (Option.bind_some _ _).symm.trans H; rw [hy173]; with_reducible exact H2_) | (have H2_ := (Option.bind_some _ _).symm.trans H; with_reducible exact H2_) | with_reducible exact H | (rw [hy173]; exact H) | exact H
  have Ny173 := Aside0.mk hy173
  clear hy173
  obtain ⟨ji5, hji5⟩ : ∃ j_ : Int, (wrap64 (Int.tmod (IntKind.u64.wrap (a0)) 10)) = j_ := ⟨_, rfl⟩
  replace H : (if 0 ≤ (ji5) then (if (ji5) < (y167.length : Int) then (if (ji5) < (y170.length : Int) then (if (ji5) < (y173.length : Int) then ((head_Put.f k (rd y167 (ji5)) (rd y170 (ji5)) (rd y173 (ji5))).bind fun bt179 => ((head_Put.f k 5 4 20).bind fun bt181 => ((watchwordlaw0_Num.f bt181.2).bind fun t183 => (if t183 = 0 then (watchwordlaw8_HeadForms.j0 k ji5 bt179.1 bt179.2 bt181.1 ((bt181.1.size : Int) != 12)) else (watchwordlaw8_HeadForms.j0 k ji5 bt179.1 bt179.2 bt181.1 true))))) else (none)) else (none)) else (none)) else (none)) = some r := by first | (rw [hji5] at H; exact H) | (simp only [hji5] at H ⊢; exact H)
  (try rw [hji5] at A3)
  have hji5w : (IntKind.i64.wrap (Int.tmod (IntKind.u64.wrap (a0)) 10)) = ji5 := (i64_w _).trans hji5
  by_cases c6 : 0 ≤ (ji5)
  ·rw [if_pos c6] at H
   have c6b0 : decide (0 ≤ (ji5)) = true := decide_eq_true c6
   clear c6
   by_cases c7 : (ji5) < (y167.length : Int)
   ·rw [if_pos c7] at H
    have c7b0 : decide ((ji5) < (y167.length : Int)) = true := decide_eq_true c7
    clear c7
    by_cases c8 : (ji5) < (y170.length : Int)
    ·rw [if_pos c8] at H
     have c8b0 : decide ((ji5) < (y170.length : Int)) = true := decide_eq_true c8
     clear c8
     by_cases c9 : (ji5) < (y173.length : Int)
     ·rw [if_pos c9] at H
      have c9b0 : decide ((ji5) < (y173.length : Int)) = true := decide_eq_true c9
      clear c9
      replace H := Option.bind_eq_some_iff.mp H
      obtain ⟨⟨t179, t180⟩, A100, H⟩ := H
      replace H : ((head_Put.f k 5 4 20).bind fun bt181 => ((watchwordlaw0_Num.f bt181.2).bind fun t183 => (if t183 = 0 then (watchwordlaw8_HeadForms.j0 k ji5 t179 t180 bt181.1 ((bt181.1.size : Int) != 12)) else (watchwordlaw8_HeadForms.j0 k ji5 t179 t180 bt181.1 true)))) = some r := H
      have A10 := Aside0.mk A100
      clear A100
      replace H := Option.bind_eq_some_iff.mp H
      obtain ⟨⟨t181, t182⟩, A110, H⟩ := H
      replace H : ((watchwordlaw0_Num.f t182).bind fun t183 => (if t183 = 0 then (watchwordlaw8_HeadForms.j0 k ji5 t179 t180 t181 ((t181.size : Int) != 12)) else (watchwordlaw8_HeadForms.j0 k ji5 t179 t180 t181 true))) = some r := H
      have A11 := Aside0.mk A110
      clear A110
      have HC12 := Aside0.mk H
      clear H
      go_enter Try.func4, Try.ntmps4
      try go_wp2_with (first | ((with_reducible refine gate_callee (f := 19) rfl ?_); refine goesL_ (some 19) rfl rfl Try.func19 (by kernel_rfl) rfl #[] rfl (by (try simp only [List.map_toArray, List.map_cons, List.map_nil]); first | done | rfl | (simp only [List.length_drop, List.length_take]; rfl)) ?_; (with_reducible refine (watchwordlaw8_awake.calls k  true _ A3.out).mono ?_); rintro e w13 ⟨rfl, hb⟩; refine ⟨_, rfl, ?_⟩; have n0_ := Aside0.mk (below_step (by repeat (first | (with_reducible first | exact HB.out | apply below_alloc | apply pw_below_drewN | apply below_drew1) | exact HB.out)) hb); clear HB; have HB := n0_; clear n0_; (try clear hb); (try clear hb2); (try clear hk); (try clear hi)) | ((with_reducible refine gate_dst (N := 28) rfl ?_); (try (refine gate_guard (by rfl) ?_; dsimp only)); refine Kd.R_lit (Kd.int .i64) _ 3 ?hg (N := 28) ?hd (xs := ([wrap64 (-(wrap64 (1 + (Go.bits .and .i64 a1 1023)))), 0, 2, 3, wrap64 (5 + (wrap64 (1 + (Go.bits .and .i64 a1 1023)))), 4, 4, 4, 4, 4] : List Int)) (inner := [.int .i64 (wrap64 (-(wrap64 (1 + (Go.bits .and .i64 a1 1023))))), .int .i64 0, .int .i64 2, .int .i64 3, .int .i64 (wrap64 (5 + (wrap64 (1 + (Go.bits .and .i64 a1 1023))))), .int .i64 4, .int .i64 4, .int .i64 4, .int .i64 4, .int .i64 4]) (ok := fun _ => True) (okp := fun _ => True) ?hr ?hp (fun _ hk => hk) trivial (Below.refl _ _) (Nat.le_refl _) (by simp) ?_; (case hd => rfl); (case hg => rfl); (case hr => first | (go_simp; done) | (go_simp; rfl)); (case hp => exact (Reps.one (show Kd.M (Kd.int .i64) _ _ _ (wrap64 (-(wrap64 (1 + (Go.bits .and .i64 a1 1023))))) [.int .i64 (wrap64 (-(wrap64 (1 + (Go.bits .and .i64 a1 1023)))))] from rfl) (Reps.one (show Kd.M (Kd.int .i64) _ _ _ 0 [.int .i64 0] from rfl) (Reps.one (show Kd.M (Kd.int .i64) _ _ _ 2 [.int .i64 2] from rfl) (Reps.one (show Kd.M (Kd.int .i64) _ _ _ 3 [.int .i64 3] from rfl) (Reps.one (show Kd.M (Kd.int .i64) _ _ _ (wrap64 (5 + (wrap64 (1 + (Go.bits .and .i64 a1 1023))))) [.int .i64 (wrap64 (5 + (wrap64 (1 + (Go.bits .and .i64 a1 1023)))))] from rfl) (Reps.one (show Kd.M (Kd.int .i64) _ _ _ 4 [.int .i64 4] from rfl) (Reps.one (show Kd.M (Kd.int .i64) _ _ _ 4 [.int .i64 4] from rfl) (Reps.one (show Kd.M (Kd.int .i64) _ _ _ 4 [.int .i64 4] from rfl) (Reps.one (show Kd.M (Kd.int .i64) _ _ _ 4 [.int .i64 4] from rfl) (Reps.one (show Kd.M (Kd.int .i64) _ _ _ 4 [.int .i64 4] from rfl) (Reps.none _ _)))))))))))); intro v168 w14 ho15 hb hg_ hnew_; clear hg_ hnew_; (first | rw [← Ny167.out] at ho15 | (simp only [Int.reduceToNat] at ho15; rw [← Ny167.out] at ho15)); have n0_ := Aside0.mk (Kd.R_lower ho15 (below_size (by repeat (first | (with_reducible first | exact HB.out | apply below_alloc | apply pw_below_drewN | apply below_drew1) | exact HB.out)))); have n1_ := Aside0.mk (below_step (by repeat (first | (with_reducible first | exact HB.out | apply below_alloc | apply pw_below_drewN | apply below_drew1) | exact HB.out)) hb); clear HB; have HO169 := n0_; have HB := n1_; clear n0_ n1_; clear hb ho15) | ((with_reducible refine gate_dst (N := 33) rfl ?_); (try (refine gate_guard (by rfl) ?_; dsimp only)); refine Kd.R_lit (Kd.int .i64) _ 3 ?hg (N := 33) ?hd (xs := ([1, 1, 1, 1, 1, 0, wrap64 (-(wrap64 (1 + (Go.bits .and .i64 a1 1023)))), wrap64 (4 + (wrap64 (1 + (Go.bits .and .i64 a1 1023)))), 1, 1] : List Int)) (inner := [.int .i64 1, .int .i64 1, .int .i64 1, .int .i64 1, .int .i64 1, .int .i64 0, .int .i64 (wrap64 (-(wrap64 (1 + (Go.bits .and .i64 a1 1023))))), .int .i64 (wrap64 (4 + (wrap64 (1 + (Go.bits .and .i64 a1 1023))))), .int .i64 1, .int .i64 1]) (ok := fun _ => True) (okp := fun _ => True) ?hr ?hp (fun _ hk => hk) trivial (Below.refl _ _) (Nat.le_refl _) (by simp) ?_; (case hd => rfl); (case hg => rfl); (case hr => first | (go_simp; done) | (go_simp; rfl)); (case hp => exact (Reps.one (show Kd.M (Kd.int .i64) _ _ _ 1 [.int .i64 1] from rfl) (Reps.one (show Kd.M (Kd.int .i64) _ _ _ 1 [.int .i64 1] from rfl) (Reps.one (show Kd.M (Kd.int .i64) _ _ _ 1 [.int .i64 1] from rfl) (Reps.one (show Kd.M (Kd.int .i64) _ _ _ 1 [.int .i64 1] from rfl) (Reps.one (show Kd.M (Kd.int .i64) _ _ _ 1 [.int .i64 1] from rfl) (Reps.one (show Kd.M (Kd.int .i64) _ _ _ 0 [.int .i64 0] from rfl) (Reps.one (show Kd.M (Kd.int .i64) _ _ _ (wrap64 (-(wrap64 (1 + (Go.bits .and .i64 a1 1023))))) [.int .i64 (wrap64 (-(wrap64 (1 + (Go.bits .and .i64 a1 1023)))))] from rfl) (Reps.one (show Kd.M (Kd.int .i64) _ _ _ (wrap64 (4 + (wrap64 (1 + (Go.bits .and .i64 a1 1023))))) [.int .i64 (wrap64 (4 + (wrap64 (1 + (Go.bits .and .i64 a1 1023)))))] from rfl) (Reps.one (show Kd.M (Kd.int .i64) _ _ _ 1 [.int .i64 1] from rfl) (Reps.one (show Kd.M (Kd.int .i64) _ _ _ 1 [.int .i64 1] from rfl) (Reps.none _ _)))))))))))); intro v171 w16 ho17 hb hg_ hnew_; clear hg_ hnew_; (first | rw [← Ny170.out] at ho17 | (simp only [Int.reduceToNat] at ho17; rw [← Ny170.out] at ho17)); have n0_ := Aside0.mk (Kd.R_elder' (by (with_reducible repeat (first | apply Kd.R_alloc | apply Kd.R_drewN | apply Kd.R_drew)); exact HO169.out) (Kd.R_base ho17) hb); have n1_ := Aside0.mk (Kd.R_lower (Kd.R_new' ho17 (Kd.R_lt (by (with_reducible repeat (first | apply Kd.R_alloc | apply Kd.R_drewN | apply Kd.R_drew)); exact HO169.out))) (below_size (by repeat (first | (with_reducible first | exact HB.out | apply below_alloc | apply pw_below_drewN | apply below_drew1) | exact HB.out)))); have n2_ := Aside0.mk (below_step (by repeat (first | (with_reducible first | exact HB.out | apply below_alloc | apply pw_below_drewN | apply below_drew1) | exact HB.out)) hb); clear HO169; clear HB; have HO169 := n0_; have HO172 := n1_; have HB := n2_; clear n0_ n1_ n2_; clear hb ho17) | ((with_reducible refine gate_dst (N := 38) rfl ?_); (try (refine gate_guard (by rfl) ?_; dsimp only)); refine Kd.R_lit (Kd.int .i64) _ 3 ?hg (N := 38) ?hd (xs := ([20, 20, 20, 20, 20, 20, 20, 20, wrap64 (12 - (wrap64 (1 + (Go.bits .and .i64 a1 1023)))), wrap64 (512 + (wrap64 (1 + (Go.bits .and .i64 a1 1023))))] : List Int)) (inner := [.int .i64 20, .int .i64 20, .int .i64 20, .int .i64 20, .int .i64 20, .int .i64 20, .int .i64 20, .int .i64 20, .int .i64 (wrap64 (12 - (wrap64 (1 + (Go.bits .and .i64 a1 1023))))), .int .i64 (wrap64 (512 + (wrap64 (1 + (Go.bits .and .i64 a1 1023)))))]) (ok := fun _ => True) (okp := fun _ => True) ?hr ?hp (fun _ hk => hk) trivial (Below.refl _ _) (Nat.le_refl _) (by simp) ?_; (case hd => rfl); (case hg => rfl); (case hr => first | (go_simp; done) | (go_simp; rfl)); (case hp => exact (Reps.one (show Kd.M (Kd.int .i64) _ _ _ 20 [.int .i64 20] from rfl) (Reps.one (show Kd.M (Kd.int .i64) _ _ _ 20 [.int .i64 20] from rfl) (Reps.one (show Kd.M (Kd.int .i64) _ _ _ 20 [.int .i64 20] from rfl) (Reps.one (show Kd.M (Kd.int .i64) _ _ _ 20 [.int .i64 20] from rfl) (Reps.one (show Kd.M (Kd.int .i64) _ _ _ 20 [.int .i64 20] from rfl) (Reps.one (show Kd.M (Kd.int .i64) _ _ _ 20 [.int .i64 20] from rfl) (Reps.one (show Kd.M (Kd.int .i64) _ _ _ 20 [.int .i64 20] from rfl) (Reps.one (show Kd.M (Kd.int .i64) _ _ _ 20 [.int .i64 20] from rfl) (Reps.one (show Kd.M (Kd.int .i64) _ _ _ (wrap64 (12 - (wrap64 (1 + (Go.bits .and .i64 a1 1023))))) [.int .i64 (wrap64 (12 - (wrap64 (1 + (Go.bits .and .i64 a1 1023)))))] from rfl) (Reps.one (show Kd.M (Kd.int .i64) _ _ _ (wrap64 (512 + (wrap64 (1 + (Go.bits .and .i64 a1 1023))))) [.int .i64 (wrap64 (512 + (wrap64 (1 + (Go.bits .and .i64 a1 1023)))))] from rfl) (Reps.none _ _)))))))))))); intro v174 w18 ho19 hb hg_ hnew_; clear hg_ hnew_; (first | rw [← Ny173.out] at ho19 | (simp only [Int.reduceToNat] at ho19; rw [← Ny173.out] at ho19)); have n0_ := Aside0.mk (Kd.R_elder' (by (with_reducible repeat (first | apply Kd.R_alloc | apply Kd.R_drewN | apply Kd.R_drew)); exact HO169.out) (Kd.R_base ho19) hb); have n1_ := Aside0.mk (Kd.R_elder' (by (with_reducible repeat (first | apply Kd.R_alloc | apply Kd.R_drewN | apply Kd.R_drew)); exact HO172.out) (Kd.R_base ho19) hb); have n2_ := Aside0.mk (Kd.R_lower (Kd.R_new' (Kd.R_new' ho19 (Kd.R_lt (by (with_reducible repeat (first | apply Kd.R_alloc | apply Kd.R_drewN | apply Kd.R_drew)); exact HO169.out))) (Kd.R_lt (by (with_reducible repeat (first | apply Kd.R_alloc | apply Kd.R_drewN | apply Kd.R_drew)); exact HO172.out))) (below_size (by repeat (first | (with_reducible first | exact HB.out | apply below_alloc | apply pw_below_drewN | apply below_drew1) | exact HB.out)))); have n3_ := Aside0.mk (below_step (by repeat (first | (with_reducible first | exact HB.out | apply below_alloc | apply pw_below_drewN | apply below_drew1) | exact HB.out)) hb); clear HO169; clear HO172; clear HB; have HO169 := n0_; have HO172 := n1_; have HO175 := n2_; have HB := n3_; clear n0_ n1_ n2_ n3_; clear hb ho19))
      have n0_ := Aside0.mk (Kd.R_drew HO169.out)
      have n1_ := Aside0.mk (Kd.R_drew HO172.out)
      have n2_ := Aside0.mk (Kd.R_drew HO175.out)
      have n3_ := Aside0.mk (below_drew1 HB.out)
      clear HO169
      clear HO172
      clear HO175
      clear HB
      have HO169 := n0_
      have HO172 := n1_
      have HO175 := n2_
      have HB := n3_
      clear n0_ n1_ n2_ n3_
      obtain ⟨Ao21, co21, eo21⟩ := Kd.R_slice HO169.out
      (first | subst eo21 | (injection eo21 with f1_ f2_ f3_; have f4_ := f1_.symm; have f5_ := f3_.symm; clear f1_ f2_ f3_; subst f4_; subst f5_))
      have p176 : 0 ≤ ((ji5) : Int) := of_decide_eq_true (by first | (with_reducible assumption) | assumption)
      have q176 : (ji5) < (y167.length : Int) := of_decide_eq_true (by first | (with_reducible assumption) | assumption)
      obtain ⟨ad176, e176, hx176_0⟩ := Kd.at_int (Kd.R_reads' HO169.out).2.2 (ji5) p176 q176
      cases e176
      replace p176 := eq_true p176
      replace q176 := eq_true q176
      obtain ⟨Ao22, co22, eo22⟩ := Kd.R_slice HO172.out
      (first | subst eo22 | (injection eo22 with f1_ f2_ f3_; have f4_ := f1_.symm; have f5_ := f3_.symm; clear f1_ f2_ f3_; subst f4_; subst f5_))
      have p177 : 0 ≤ ((ji5) : Int) := of_decide_eq_true (by first | (with_reducible assumption) | assumption)
      have q177 : (ji5) < (y170.length : Int) := of_decide_eq_true (by first | (with_reducible assumption) | assumption)
      obtain ⟨ad177, e177, hx177_0⟩ := Kd.at_int (Kd.R_reads' HO172.out).2.2 (ji5) p177 q177
      cases e177
      replace p177 := eq_true p177
      replace q177 := eq_true q177
      obtain ⟨Ao23, co23, eo23⟩ := Kd.R_slice HO175.out
      (first | subst eo23 | (injection eo23 with f1_ f2_ f3_; have f4_ := f1_.symm; have f5_ := f3_.symm; clear f1_ f2_ f3_; subst f4_; subst f5_))
      have p178 : 0 ≤ ((ji5) : Int) := of_decide_eq_true (by first | (with_reducible assumption) | assumption)
      have q178 : (ji5) < (y173.length : Int) := of_decide_eq_true (by first | (with_reducible assumption) | assumption)
      obtain ⟨ad178, e178, hx178_0⟩ := Kd.at_int (Kd.R_reads' HO175.out).2.2 (ji5) p178 q178
      cases e178
      replace p178 := eq_true p178
      replace q178 := eq_true q178
      refine start_ (n := 18) (S := fun w' => w'.cell? (ad176.add ((ji5)).toNat) = some (.int .i64 (rd y167 (ji5))) ∧ w'.cell? (ad177.add ((ji5)).toNat) = some (.int .i64 (rd y170 (ji5))) ∧ w'.cell? (ad178.add ((ji5)).toNat) = some (.int .i64 (rd y173 (ji5)))) (ds := []) #[false, false, false, false, false, false, false, false, false, false, false, false, false, false, false, false, false, false] (by kernel_rfl) rfl rfl ⟨hx176_0, hx177_0, hx178_0⟩ (fun hHeld => ?_); refine with_tabW watchwordlaw8_HeadForms.tab8 watchwordlaw8_HeadForms.bits8 (fun HT_ HW_ => ?_)
      generalize w18.drew = w20 at HO169 HO172 HO175 HB hx176_0 hx177_0 hx178_0 hHeld ⊢
      refine pure_ (i := 0) (N := some 44) (v := ?_) (a' := ?_) #[true, false, false, false, false, false, false, false, false, false, false, false, false, false, false, false, false, false] rfl rfl (any_of HT_.out (by kernel_rfl)) (fun _ _ _ h => h) (Or.inl ⟨by rfl, ?_⟩) ?_ ?_
      rotate_left
      ·intro w'
       go_simp
       with_reducible rfl
      rotate_left
      ·simp only [Act.put, List.setIfInBounds_toArray, List.set_cons_zero, List.set_cons_succ, i64_w, i32_w]
       rfl
      refine pure_ (i := 1) (N := some 45) (v := ?_) (a' := ?_) #[true, true, false, false, false, false, false, false, false, false, false, false, false, false, false, false, false, false] rfl rfl (any_of HT_.out (by kernel_rfl)) (fun _ _ _ h => h) (Or.inl ⟨by rfl, ?_⟩) ?_ ?_
      rotate_left
      ·intro w'
       go_simp
       with_reducible rfl
      rotate_left
      ·simp only [Act.put, List.setIfInBounds_toArray, List.set_cons_zero, List.set_cons_succ, i64_w, i32_w]
       rfl
      refine pure_ (i := 2) (N := some 46) (v := ?_) (a' := ?_) #[true, true, true, false, false, false, false, false, false, false, false, false, false, false, false, false, false, false] rfl rfl (any_of HT_.out (by kernel_rfl)) (fun _ _ _ h => h) (Or.inl ⟨by rfl, ?_⟩) ?_ ?_
      rotate_left
      ·intro w'
       go_simp
       with_reducible rfl
      rotate_left
      ·simp only [Act.put, List.setIfInBounds_toArray, List.set_cons_zero, List.set_cons_succ, i64_w, i32_w]
       rfl
      refine pure_ (i := 4) (N := some 48) (v := ?_) (a' := ?_) #[true, true, true, false, true, false, false, false, false, false, false, false, false, false, false, false, false, false] rfl rfl (any_of HT_.out (by kernel_rfl)) (fun _ _ _ h => h) (Or.inl ⟨by rfl, ?_⟩) ?_ ?_
      rotate_left
      ·intro w'
       go_simp
       with_reducible rfl
      rotate_left
      ·simp only [Act.put, List.setIfInBounds_toArray, List.set_cons_zero, List.set_cons_succ, i64_w, i32_w]
       rfl
      refine pure_ (i := 5) (N := some 49) (v := ?_) (a' := ?_) #[true, true, true, false, true, true, false, false, false, false, false, false, false, false, false, false, false, false] rfl rfl (any_of HT_.out (by kernel_rfl)) (fun _ _ _ h => h) (Or.inl ⟨by rfl, ?_⟩) ?_ ?_
      rotate_left
      ·intro w'
       go_simp
       with_reducible rfl
      rotate_left
      ·simp only [Act.put, List.setIfInBounds_toArray, List.set_cons_zero, List.set_cons_succ, i64_w, i32_w]
       rfl
      refine pure_ (i := 6) (N := some 50) (v := ?_) (a' := ?_) #[true, true, true, false, true, true, true, false, false, false, false, false, false, false, false, false, false, false] rfl rfl (any_of HT_.out (by kernel_rfl)) (fun _ _ _ h => h) (Or.inl ⟨by rfl, ?_⟩) ?_ ?_
      rotate_left
      ·intro w'
       go_simp
       with_reducible rfl
      rotate_left
      ·simp only [Act.put, List.setIfInBounds_toArray, List.set_cons_zero, List.set_cons_succ, i64_w, i32_w]
       rfl
      refine pure_ (i := 8) (N := some 52) (v := ?_) (a' := ?_) #[true, true, true, false, true, true, true, false, true, false, false, false, false, false, false, false, false, false] rfl rfl (any_of HT_.out (by kernel_rfl)) (fun _ _ _ h => h) (Or.inl ⟨by rfl, ?_⟩) ?_ ?_
      rotate_left
      ·intro w'
       go_simp
       with_reducible rfl
      rotate_left
      ·simp only [Act.put, List.setIfInBounds_toArray, List.set_cons_zero, List.set_cons_succ, i64_w, i32_w]
       rfl
      refine pure_ (i := 9) (N := some 53) (v := ?_) (a' := ?_) #[true, true, true, false, true, true, true, false, true, true, false, false, false, false, false, false, false, false] rfl rfl (any_of HT_.out (by kernel_rfl)) (fun _ _ _ h => h) (Or.inl ⟨by rfl, ?_⟩) ?_ ?_
      rotate_left
      ·intro w'
       go_simp
       with_reducible rfl
      rotate_left
      ·simp only [Act.put, List.setIfInBounds_toArray, List.set_cons_zero, List.set_cons_succ, i64_w, i32_w]
       rfl
      refine pure_ (i := 10) (N := some 54) (v := ?_) (a' := ?_) #[true, true, true, false, true, true, true, false, true, true, true, false, false, false, false, false, false, false] rfl rfl (any_of HT_.out (by kernel_rfl)) (fun _ _ _ h => h) (Or.inl ⟨by rfl, ?_⟩) ?_ ?_
      rotate_left
      ·intro w'
       go_simp
       with_reducible rfl
      rotate_left
      ·simp only [Act.put, List.setIfInBounds_toArray, List.set_cons_zero, List.set_cons_succ, i64_w, i32_w]
       rfl
      refine take_ (i := 3) (N := some 47) (v := ?_) (a' := ?_) #[true, true, true, true, true, true, true, false, true, true, true, false, false, false, false, false, false, false] rfl rfl (take_ofW HT_.out HW_.out (by kernel_rfl)) (fun _ _ _ h => h) (Or.inl ⟨by rfl, ?_⟩) hHeld ?_ ?_
      rotate_left
      ·rintro w' ⟨s0, s1, s2⟩
       go_simp
       with_reducible rfl
      rotate_left
      ·simp only [Act.put, List.setIfInBounds_toArray, List.set_cons_zero, List.set_cons_succ, i64_w, i32_w]
       rfl
      refine take_ (i := 7) (N := some 51) (v := ?_) (a' := ?_) #[true, true, true, true, true, true, true, true, true, true, true, false, false, false, false, false, false, false] rfl rfl (take_ofW HT_.out HW_.out (by kernel_rfl)) (fun _ _ _ h => h) (Or.inl ⟨by rfl, ?_⟩) hHeld ?_ ?_
      rotate_left
      ·rintro w' ⟨s0, s1, s2⟩
       go_simp
       with_reducible rfl
      rotate_left
      ·simp only [Act.put, List.setIfInBounds_toArray, List.set_cons_zero, List.set_cons_succ, i64_w, i32_w]
       rfl
      refine take_ (i := 11) (N := some 55) (v := ?_) (a' := ?_) #[true, true, true, true, true, true, true, true, true, true, true, true, false, false, false, false, false, false] rfl rfl (take_ofW HT_.out HW_.out (by kernel_rfl)) (fun _ _ _ h => h) (Or.inl ⟨by rfl, ?_⟩) hHeld ?_ ?_
      rotate_left
      ·rintro w' ⟨s0, s1, s2⟩
       go_simp
       with_reducible rfl
      rotate_left
      ·simp only [Act.put, List.setIfInBounds_toArray, List.set_cons_zero, List.set_cons_succ, i64_w, i32_w]
       rfl
      refine one_ (i := 12) (N := some 56) #[true, true, true, true, true, true, true, true, true, true, true, true, true, false, false, false, false, false] rfl rfl (one_of HT_.out (by kernel_rfl)) (by decide) (fun K hK => ?_)
      refine goes_ Try.func14 (by kernel_rfl) rfl #[.int .i64 (rd y167 (ji5)), .int .i64 (rd y170 (ji5)), .int .i64 (rd y173 (ji5))] (by rfl) rfl rfl (by (try simp only [List.map_toArray, List.map_cons, List.map_nil]); first | done | (simp only [hji5]; rfl) | rfl | (simp only [List.length_drop, List.length_take]; rfl)) ?_
      with_reducible refine (head_Put.calls k (rd y167 (ji5)) (rd y170 (ji5)) (rd y173 (ji5)) t179 t180 _ A10.out).mono ?_
      rintro e w24 ⟨rfl, hb⟩
      have HS0_ := (hb.cell (World.block_lt_of_cell? _ _ (hHeld.1))).trans (hHeld.1)
      have HS1_ := (hb.cell (World.block_lt_of_cell? _ _ (hHeld.2.1))).trans (hHeld.2.1)
      have HS2_ := (hb.cell (World.block_lt_of_cell? _ _ (hHeld.2.2))).trans (hHeld.2.2)
      refine ⟨_, rfl, ?_⟩
      have n0_ := Aside0.mk (Kd.R_below (by (with_reducible repeat (first | apply Kd.R_alloc | apply Kd.R_drewN | apply Kd.R_drew)); exact HO169.out) hb)
      have n1_ := Aside0.mk (Kd.R_below (by (with_reducible repeat (first | apply Kd.R_alloc | apply Kd.R_drewN | apply Kd.R_drew)); exact HO172.out) hb)
      have n2_ := Aside0.mk (Kd.R_below (by (with_reducible repeat (first | apply Kd.R_alloc | apply Kd.R_drewN | apply Kd.R_drew)); exact HO175.out) hb)
      have n3_ := Aside0.mk (below_step (by repeat (first | (with_reducible first | exact HB.out | apply below_alloc | apply pw_below_drewN | apply below_drew1) | exact HB.out)) hb)
      clear HO169
      clear HO172
      clear HO175
      clear HB
      have HO169 := n0_
      have HO172 := n1_
      have HO175 := n2_
      have HB := n3_
      clear n0_ n1_ n2_ n3_
      (try clear hb)
      (try clear hb2)
      (try clear hk)
      (try clear hi)
      refine hK.out _ _ ⟨HS0_, HS1_, HS2_⟩ (fun hHeld => ?_)
      clear hK K
      refine norm_ (a' := ?_) ?_ ?_
      rotate_left
      ·show Act.put _ (some 56) _ = _
       simp only [Act.put, List.setIfInBounds_toArray, List.set_cons_zero, List.set_cons_succ, i64_w, i32_w]
       rfl
      refine pure_ (i := 13) (N := some 43) (v := ?_) (a' := ?_) #[true, true, true, true, true, true, true, true, true, true, true, true, true, true, false, false, false, false] rfl rfl (any_of HT_.out (by kernel_rfl)) (fun _ _ _ h => h) (Or.inl ⟨by rfl, ?_⟩) ?_ ?_
      rotate_left
      ·intro w'
       go_simp
       with_reducible rfl
      rotate_left
      ·simp only [Act.put, List.setIfInBounds_toArray, List.set_cons_zero, List.set_cons_succ, i64_w, i32_w]
       rfl
      refine pure_ (i := 14) (N := some 57) (v := ?_) (a' := ?_) #[true, true, true, true, true, true, true, true, true, true, true, true, true, true, true, false, false, false] rfl rfl (any_of HT_.out (by kernel_rfl)) (fun _ _ _ h => h) (Or.inl ⟨by rfl, ?_⟩) ?_ ?_
      rotate_left
      ·intro w'
       go_simp
       with_reducible rfl
      rotate_left
      ·simp only [Act.put, List.setIfInBounds_toArray, List.set_cons_zero, List.set_cons_succ, i64_w, i32_w]
       rfl
      refine pure_ (i := 15) (N := some 58) (v := ?_) (a' := ?_) #[true, true, true, true, true, true, true, true, true, true, true, true, true, true, true, true, false, false] rfl rfl (any_of HT_.out (by kernel_rfl)) (fun _ _ _ h => h) (Or.inl ⟨by rfl, ?_⟩) ?_ ?_
      rotate_left
      ·intro w'
       go_simp
       with_reducible rfl
      rotate_left
      ·simp only [Act.put, List.setIfInBounds_toArray, List.set_cons_zero, List.set_cons_succ, i64_w, i32_w]
       rfl
      refine pure_ (i := 16) (N := some 10) (v := ?_) (a' := ?_) #[true, true, true, true, true, true, true, true, true, true, true, true, true, true, true, true, true, false] rfl rfl (any_of HT_.out (by kernel_rfl)) (fun _ _ _ h => h) (Or.inl ⟨by rfl, ?_⟩) ?_ ?_
      rotate_left
      ·intro w'
       go_simp
       with_reducible rfl
      rotate_left
      ·simp only [Act.put, List.setIfInBounds_toArray, List.set_cons_zero, List.set_cons_succ, i64_w, i32_w]
       rfl
      refine pure_ (i := 17) (N := some 11) (v := ?_) (a' := ?_) #[true, true, true, true, true, true, true, true, true, true, true, true, true, true, true, true, true, true] rfl rfl (any_of HT_.out (by kernel_rfl)) (fun _ _ _ h => h) (Or.inl ⟨by rfl, ?_⟩) ?_ ?_
      rotate_left
      ·intro w'
       go_simp
       with_reducible rfl
      rotate_left
      ·simp only [Act.put, List.setIfInBounds_toArray, List.set_cons_zero, List.set_cons_succ, i64_w, i32_w]
       rfl
      refine done_ (done_of HT_.out (by kernel_rfl)) ?_
      go_upto_region 10 with (first | ((with_reducible refine gate_callee (f := 14) rfl ?_); refine goesL_ (some 60) rfl rfl Try.func14 (by kernel_rfl) rfl #[.int .i64 5, .int .i64 4, .int .i64 20] rfl (by (try simp only [List.map_toArray, List.map_cons, List.map_nil]); first | done | rfl | (simp only [List.length_drop, List.length_take]; rfl)) ?_; (with_reducible refine (head_Put.calls k 5 4 20 t181 t182 _ A11.out).mono ?_); rintro e w25 ⟨rfl, hb⟩; refine ⟨_, rfl, ?_⟩; have n0_ := Aside0.mk (Kd.R_below (by (with_reducible repeat (first | apply Kd.R_alloc | apply Kd.R_drewN | apply Kd.R_drew)); exact HO169.out) hb); have n1_ := Aside0.mk (Kd.R_below (by (with_reducible repeat (first | apply Kd.R_alloc | apply Kd.R_drewN | apply Kd.R_drew)); exact HO172.out) hb); have n2_ := Aside0.mk (Kd.R_below (by (with_reducible repeat (first | apply Kd.R_alloc | apply Kd.R_drewN | apply Kd.R_drew)); exact HO175.out) hb); have n3_ := Aside0.mk (below_step (by repeat (first | (with_reducible first | exact HB.out | apply below_alloc | apply pw_below_drewN | apply below_drew1) | exact HB.out)) hb); clear HO169; clear HO172; clear HO175; clear HB; have HO169 := n0_; have HO172 := n1_; have HO175 := n2_; have HB := n3_; clear n0_ n1_ n2_ n3_; (try clear hb); (try clear hb2); (try clear hk); (try clear hi)))
      (try simp only [Act.put, List.setIfInBounds_toArray, List.set_cons_zero, List.set_cons_succ])
      go_cut [70] (fun v70 wc => ∃ (kq : Nat) (x70_11 : Bool), v70 = .bool x70_11 ∧ Aside0 (watchwordlaw8_HeadForms.j0 kq ji5 t179 t180 t181 x70_11 = some r) ∧ Aside0 (kq ≤ k) ∧ Aside0 (Below w.heap.size w wc))
      case first =>
       have H := HC12.out
       clear HC12
       replace H := Option.bind_eq_some_iff.mp H
       obtain ⟨t183, A260, H⟩ := H
       replace H : (if t183 = 0 then (watchwordlaw8_HeadForms.j0 k ji5 t179 t180 t181 ((t181.size : Int) != 12)) else (watchwordlaw8_HeadForms.j0 k ji5 t179 t180 t181 true)) = some r := H
       have A26 := Aside0.mk A260
       clear A260
       by_cases c27 : t183 = 0
       ·rw [if_pos c27] at H
        have c27b0 : (t183 == 0) = true := beq_iff_eq.mpr c27
        have c27b1 : (t183 != 0) = false := bne_eq_false_iff_eq.mpr c27
        clear c27
        (first | rw [c27b0] | (simp only [i64_w, i32_w]; rw [c27b0]) | skip)
        have H' := Aside0.mk H
        clear H
        go_wp2_with (first | ((with_reducible refine gate_callee (f := 18) rfl ?_); refine goesL_ (some 64) rfl rfl Try.func18 (by kernel_rfl) rfl #[.int .i64 t182] rfl (by (try simp only [List.map_toArray, List.map_cons, List.map_nil]); first | done | rfl | (simp only [List.length_drop, List.length_take]; rfl)) ?_; (with_reducible refine (watchwordlaw0_Num.calls t182 t183 _ A26.out).mono ?_); rintro e w' ⟨rfl, ⟨nd, rfl⟩⟩; refine ⟨_, rfl, ?_⟩))
        go_meet
        case rel => exact ⟨_, (((t181.size : Int) != 12)), (by first | rfl | (simp; done) | (simp [*]; done)), H', ⟨by first | omega | exact Nat.le_refl _⟩, ⟨by repeat (first | (with_reducible first | exact HB.out | apply below_alloc | apply pw_below_drewN | apply below_drew1) | exact HB.out)⟩⟩
       ·rw [if_neg c27] at H
        have c27b0 : (t183 == 0) = false := beq_eq_false_iff_ne.mpr c27
        have c27b1 : (t183 != 0) = true := bne_iff_ne.mpr c27
        (first | rw [c27b0] | (simp only [i64_w, i32_w]; rw [c27b0]) | skip)
        have H' := Aside0.mk H
        clear H
        go_wp2_with (first | ((with_reducible refine gate_callee (f := 18) rfl ?_); refine goesL_ (some 64) rfl rfl Try.func18 (by kernel_rfl) rfl #[.int .i64 t182] rfl (by (try simp only [List.map_toArray, List.map_cons, List.map_nil]); first | done | rfl | (simp only [List.length_drop, List.length_take]; rfl)) ?_; (with_reducible refine (watchwordlaw0_Num.calls t182 t183 _ A26.out).mono ?_); rintro e w' ⟨rfl, ⟨nd, rfl⟩⟩; refine ⟨_, rfl, ?_⟩))
        go_meet
        case rel => exact ⟨_, (true), (by first | rfl | (simp; done) | (simp [*]; done)), H', ⟨by first | omega | exact Nat.le_refl _⟩, ⟨by repeat (first | (with_reducible first | exact HB.out | apply below_alloc | apply pw_below_drewN | apply below_drew1) | exact HB.out)⟩⟩
      case rest =>
       clear HC12
       try clear c1
       try clear p1
       try clear q1
       try clear hx1
       try clear c2
       try clear p2
       try clear c4
       try clear c6
       try clear c6b0
       try clear p6
       try clear c7
       try clear c7b0
       try clear c8
       try clear c8b0
       try clear c9
       try clear c9b0
       try clear c14
       try clear p17
       try clear q17
       try clear hx17
       try clear c18
       try clear c19
       try clear c27
       try clear c27b0
       try clear c27b1
       try clear hx176_0
       try clear hx177_0
       try clear hx178_0
       try clear p176
       try clear p177
       try clear p178
       try clear q176
       try clear q177
       try clear q178
       obtain ⟨kq, x70_11, rfl, HA, HJ11, HB⟩ := hcut
       cases kq with
       | zero => exact absurd HA.out (by simp [watchwordlaw8_HeadForms.j0])
       | succ kj11 =>
        have H := HA.out
        clear HA
        simp only [watchwordlaw8_HeadForms.j0] at H
        by_cases c28 : x70_11 = true
        ·subst c28
         have H1 : (some false) = some r := by rw [if_pos rfl] at H; exact H
         clear H
         have H := H1
         clear H1
         obtain rfl := Option.some.inj H
         go_wp2
         go_ret
         exact ⟨by first | rfl | (simp [errW_none, errW_some] <;> rfl) | (simp only [← hji5]; first | rfl | (simp [errW_none, errW_some] <;> rfl)) | (simp [*, errW_none, errW_some] <;> rfl), by repeat (first | (with_reducible first | exact HB.out | apply below_alloc | apply pw_below_drewN | apply below_drew1) | exact HB.out)⟩
        ·replace c28 := Bool.eq_false_iff.mpr c28
         subst c28
         have H1 : (if 0 ≤ 11 then (if 11 ≤ (t181.size : Int) then (if 1 ≤ (t181.size : Int) then (if 1 + (t181.extract 1 t181.size).size ≤ 9223372036854775807 then (if 0 ≤ 1 then (if (t181.extract 0 1).size + 1 ≤ 9223372036854775807 then (if 2 ≤ (t181.size : Int) then (if ((t181.extract 0 1) ++ (⟨#[6]⟩ : ByteArray)).size + (t181.extract 2 t181.size).size ≤ 9223372036854775807 then (if 0 ≤ 2 then (if (t181.extract 0 2).size + 1 ≤ 9223372036854775807 then (if 3 ≤ (t181.size : Int) then (if ((t181.extract 0 2) ++ (⟨#[255]⟩ : ByteArray)).size + (t181.extract 3 t181.size).size ≤ 9223372036854775807 then (if 0 ≤ 3 then (if (t181.extract 0 3).size + 1 ≤ 9223372036854775807 then (if 4 ≤ (t181.size : Int) then (if ((t181.extract 0 3) ++ (⟨#[11]⟩ : ByteArray)).size + (t181.extract 4 t181.size).size ≤ 9223372036854775807 then (if 0 ≤ 4 then (if (t181.extract 0 4).size + 1 ≤ 9223372036854775807 then (if 5 ≤ (t181.size : Int) then (if ((t181.extract 0 4) ++ (⟨#[1]⟩ : ByteArray)).size + (t181.extract 5 t181.size).size ≤ 9223372036854775807 then (if 0 ≤ 7 then (if 7 ≤ (t181.size : Int) then (if (t181.extract 0 7).size + 1 ≤ 9223372036854775807 then (if 8 ≤ (t181.size : Int) then (if ((t181.extract 0 7) ++ (⟨#[5]⟩ : ByteArray)).size + (t181.extract 8 t181.size).size ≤ 9223372036854775807 then (if 0 ≤ 8 then (if (t181.extract 0 8).size + 1 ≤ 9223372036854775807 then (if 9 ≤ (t181.size : Int) then (if ((t181.extract 0 8) ++ (⟨#[1]⟩ : ByteArray)).size + (t181.extract 9 t181.size).size ≤ 9223372036854775807 then (if (t181.extract 0 11).size + 1 ≤ 9223372036854775807 then ((some (([(⟨#[]⟩ : ByteArray), t181.extract 0 11, (⟨#[1]⟩ : ByteArray) ++ (t181.extract 1 t181.size), ((t181.extract 0 1) ++ (⟨#[6]⟩ : ByteArray)) ++ (t181.extract 2 t181.size), ((t181.extract 0 2) ++ (⟨#[255]⟩ : ByteArray)) ++ (t181.extract 3 t181.size), ((t181.extract 0 3) ++ (⟨#[11]⟩ : ByteArray)) ++ (t181.extract 4 t181.size), ((t181.extract 0 4) ++ (⟨#[1]⟩ : ByteArray)) ++ (t181.extract 5 t181.size), ((t181.extract 0 7) ++ (⟨#[5]⟩ : ByteArray)) ++ (t181.extract 8 t181.size), ((t181.extract 0 8) ++ (⟨#[1]⟩ : ByteArray)) ++ (t181.extract 9 t181.size), (t181.extract 0 11) ++ (⟨#[1]⟩ : ByteArray)] : List ByteArray) : List ByteArray)).bind fun y184 => (if 0 ≤ ji5 then (if ji5 < (y184.length : Int) then ((head_Get.f kj11 (rdOf ByteArray.empty y184 ji5)).bind fun bt188 => (if t179.toList = ([] : List UInt8) then ((watchwordlaw0_Num.f t180).bind fun t192 => (if t192 = 800 then ((watchwordlaw0_Num.f bt188.2.2.2).bind fun t193 => (some (t193 == 800))) else (some false))) else (some false))) else (none)) else (none))) else (none)) else (none)) else (none)) else (none)) else (none)) else (none)) else (none)) else (none)) else (none)) else (none)) else (none)) else (none)) else (none)) else (none)) else (none)) else (none)) else (none)) else (none)) else (none)) else (none)) else (none)) else (none)) else (none)) else (none)) else (none)) else (none)) else (none)) else (none)) else (none)) else (none)) = some r := by rw [if_neg (show ¬ (false = true) by decide)] at H; exact H
         clear H
         have H := H1
         clear H1
         by_cases c29 : 0 ≤ 11
         ·rw [if_pos c29] at H
          have c29b0 := eq_true c29
          have c29b1 : decide (0 ≤ 11) = true := decide_eq_true c29
          clear c29
          by_cases c30 : 11 ≤ (t181.size : Int)
          ·rw [if_pos c30] at H
           have c30p : 11 ≤ t181.size := by omega
           have c30b0 := eq_true c30
           have c30b1 : decide (11 ≤ (t181.size : Int)) = true := decide_eq_true c30
           clear c30
           by_cases c31 : 1 ≤ (t181.size : Int)
           ·rw [if_pos c31] at H
            have c31p : 1 ≤ t181.size := by omega
            have c31b0 := eq_true c31
            have c31b1 : decide (1 ≤ (t181.size : Int)) = true := decide_eq_true c31
            clear c31
            by_cases c32 : 1 + (t181.extract 1 t181.size).size ≤ 9223372036854775807
            ·rw [if_pos c32] at H
             (try (have c32p := c32; simp only [ByteArray.size_extract] at c32p))
             have c32b0 := eq_true c32
             have c32b1 : decide (1 + (t181.extract 1 t181.size).size ≤ 9223372036854775807) = true := decide_eq_true c32
             try have c32b2 : (9223372036854775807 < 1 + (t181.extract 1 t181.size).size) = False := eq_false (Nat.not_lt.2 c32)
             try have c32e0 : (9223372036854775807 < t181.size) = False := eq_false (by have h_ := c32; simp only [ByteArray.size_append, ByteArray.size_extract] at h_; omega)
             by_cases c33 : 0 ≤ 1
             ·rw [if_pos c33] at H
              have c33b0 := eq_true c33
              have c33b1 : decide (0 ≤ 1) = true := decide_eq_true c33
              clear c33
              have c34b0 := eq_true (of_decide_eq_true (by first | (with_reducible assumption) | assumption) : 1 ≤ (t181.size : Int))
              by_cases c35 : (t181.extract 0 1).size + 1 ≤ 9223372036854775807
              ·rw [if_pos c35] at H
               (try (have c35p := c35; simp only [ByteArray.size_extract] at c35p))
               have c35b0 := eq_true c35
               have c35b1 : decide ((t181.extract 0 1).size + 1 ≤ 9223372036854775807) = true := decide_eq_true c35
               try have c35b2 : (9223372036854775807 < (t181.extract 0 1).size + 1) = False := eq_false (Nat.not_lt.2 c35)
               try have c35e0 : (9223372036854775807 < t181.size) = False := eq_false (by have h_ := c35; simp only [ByteArray.size_append, ByteArray.size_extract] at h_; omega)
               by_cases c36 : 2 ≤ (t181.size : Int)
               ·rw [if_pos c36] at H
                have c36p : 2 ≤ t181.size := by omega
                have c36b0 := eq_true c36
                have c36b1 : decide (2 ≤ (t181.size : Int)) = true := decide_eq_true c36
                clear c36
                by_cases c37 : ((t181.extract 0 1) ++ (⟨#[6]⟩ : ByteArray)).size + (t181.extract 2 t181.size).size ≤ 9223372036854775807
                ·rw [if_pos c37] at H
                 (try (have c37p := c37; simp only [ByteArray.size_extract] at c37p))
                 have c37b0 := eq_true c37
                 have c37b1 : decide (((t181.extract 0 1) ++ (⟨#[6]⟩ : ByteArray)).size + (t181.extract 2 t181.size).size ≤ 9223372036854775807) = true := decide_eq_true c37
                 try have c37b2 : (9223372036854775807 < ((t181.extract 0 1) ++ (⟨#[6]⟩ : ByteArray)).size + (t181.extract 2 t181.size).size) = False := eq_false (Nat.not_lt.2 c37)
                 try have c37e0 : (9223372036854775807 < t181.size) = False := eq_false (by have h_ := c37; simp only [ByteArray.size_append, ByteArray.size_extract] at h_; have l0_ : (⟨#[6]⟩ : ByteArray).size = 1 := rfl; omega)
                 try have c37b3 : (9223372036854775807 < (t181.extract 0 1).size + 1 + (t181.extract 2 t181.size).size) = False := eq_false (by have h_ := c37; simp only [ByteArray.size_append] at h_; have l0_ : (⟨#[6]⟩ : ByteArray).size = 1 := rfl; omega)
                 try have c37b4 : (9223372036854775807 < (t181.extract 0 1).size + (⟨#[6]⟩ : ByteArray).size + (t181.extract 2 t181.size).size) = False := eq_false (by have h_ := c37; simp only [ByteArray.size_append] at h_; have l0_ : (⟨#[6]⟩ : ByteArray).size = 1 := rfl; omega)
                 by_cases c38 : 0 ≤ 2
                 ·rw [if_pos c38] at H
                  have c38b0 := eq_true c38
                  have c38b1 : decide (0 ≤ 2) = true := decide_eq_true c38
                  clear c38
                  have c39b0 := eq_true (of_decide_eq_true (by first | (with_reducible assumption) | assumption) : 2 ≤ (t181.size : Int))
                  by_cases c40 : (t181.extract 0 2).size + 1 ≤ 9223372036854775807
                  ·rw [if_pos c40] at H
                   (try (have c40p := c40; simp only [ByteArray.size_extract] at c40p))
                   have c40b0 := eq_true c40
                   have c40b1 : decide ((t181.extract 0 2).size + 1 ≤ 9223372036854775807) = true := decide_eq_true c40
                   try have c40b2 : (9223372036854775807 < (t181.extract 0 2).size + 1) = False := eq_false (Nat.not_lt.2 c40)
                   try have c40e0 : (9223372036854775807 < t181.size) = False := eq_false (by have h_ := c40; simp only [ByteArray.size_append, ByteArray.size_extract] at h_; omega)
                   by_cases c41 : 3 ≤ (t181.size : Int)
                   ·rw [if_pos c41] at H
                    have c41p : 3 ≤ t181.size := by omega
                    have c41b0 := eq_true c41
                    have c41b1 : decide (3 ≤ (t181.size : Int)) = true := decide_eq_true c41
                    clear c41
                    by_cases c42 : ((t181.extract 0 2) ++ (⟨#[255]⟩ : ByteArray)).size + (t181.extract 3 t181.size).size ≤ 9223372036854775807
                    ·rw [if_pos c42] at H
                     (try (have c42p := c42; simp only [ByteArray.size_extract] at c42p))
                     have c42b0 := eq_true c42
                     have c42b1 : decide (((t181.extract 0 2) ++ (⟨#[255]⟩ : ByteArray)).size + (t181.extract 3 t181.size).size ≤ 9223372036854775807) = true := decide_eq_true c42
                     try have c42b2 : (9223372036854775807 < ((t181.extract 0 2) ++ (⟨#[255]⟩ : ByteArray)).size + (t181.extract 3 t181.size).size) = False := eq_false (Nat.not_lt.2 c42)
                     try have c42e0 : (9223372036854775807 < t181.size) = False := eq_false (by have h_ := c42; simp only [ByteArray.size_append, ByteArray.size_extract] at h_; have l0_ : (⟨#[255]⟩ : ByteArray).size = 1 := rfl; omega)
                     try have c42b3 : (9223372036854775807 < (t181.extract 0 2).size + 1 + (t181.extract 3 t181.size).size) = False := eq_false (by have h_ := c42; simp only [ByteArray.size_append] at h_; have l0_ : (⟨#[255]⟩ : ByteArray).size = 1 := rfl; omega)
                     try have c42b4 : (9223372036854775807 < (t181.extract 0 2).size + (⟨#[255]⟩ : ByteArray).size + (t181.extract 3 t181.size).size) = False := eq_false (by have h_ := c42; simp only [ByteArray.size_append] at h_; have l0_ : (⟨#[255]⟩ : ByteArray).size = 1 := rfl; omega)
                     by_cases c43 : 0 ≤ 3
                     ·rw [if_pos c43] at H
                      have c43b0 := eq_true c43
                      have c43b1 : decide (0 ≤ 3) = true := decide_eq_true c43
                      clear c43
                      have c44b0 := eq_true (of_decide_eq_true (by first | (with_reducible assumption) | assumption) : 3 ≤ (t181.size : Int))
                      by_cases c45 : (t181.extract 0 3).size + 1 ≤ 9223372036854775807
                      ·rw [if_pos c45] at H
                       (try (have c45p := c45; simp only [ByteArray.size_extract] at c45p))
                       have c45b0 := eq_true c45
                       have c45b1 : decide ((t181.extract 0 3).size + 1 ≤ 9223372036854775807) = true := decide_eq_true c45
                       try have c45b2 : (9223372036854775807 < (t181.extract 0 3).size + 1) = False := eq_false (Nat.not_lt.2 c45)
                       try have c45e0 : (9223372036854775807 < t181.size) = False := eq_false (by have h_ := c45; simp only [ByteArray.size_append, ByteArray.size_extract] at h_; omega)
                       by_cases c46 : 4 ≤ (t181.size : Int)
                       ·rw [if_pos c46] at H
                        have c46p : 4 ≤ t181.size := by omega
                        have c46b0 := eq_true c46
                        have c46b1 : decide (4 ≤ (t181.size : Int)) = true := decide_eq_true c46
                        clear c46
                        by_cases c47 : ((t181.extract 0 3) ++ (⟨#[11]⟩ : ByteArray)).size + (t181.extract 4 t181.size).size ≤ 9223372036854775807
                        ·rw [if_pos c47] at H
                         (try (have c47p := c47; simp only [ByteArray.size_extract] at c47p))
                         have c47b0 := eq_true c47
                         have c47b1 : decide (((t181.extract 0 3) ++ (⟨#[11]⟩ : ByteArray)).size + (t181.extract 4 t181.size).size ≤ 9223372036854775807) = true := decide_eq_true c47
                         try have c47b2 : (9223372036854775807 < ((t181.extract 0 3) ++ (⟨#[11]⟩ : ByteArray)).size + (t181.extract 4 t181.size).size) = False := eq_false (Nat.not_lt.2 c47)
                         try have c47e0 : (9223372036854775807 < t181.size) = False := eq_false (by have h_ := c47; simp only [ByteArray.size_append, ByteArray.size_extract] at h_; have l0_ : (⟨#[11]⟩ : ByteArray).size = 1 := rfl; omega)
                         try have c47b3 : (9223372036854775807 < (t181.extract 0 3).size + 1 + (t181.extract 4 t181.size).size) = False := eq_false (by have h_ := c47; simp only [ByteArray.size_append] at h_; have l0_ : (⟨#[11]⟩ : ByteArray).size = 1 := rfl; omega)
                         try have c47b4 : (9223372036854775807 < (t181.extract 0 3).size + (⟨#[11]⟩ : ByteArray).size + (t181.extract 4 t181.size).size) = False := eq_false (by have h_ := c47; simp only [ByteArray.size_append] at h_; have l0_ : (⟨#[11]⟩ : ByteArray).size = 1 := rfl; omega)
                         by_cases c48 : 0 ≤ 4
                         ·rw [if_pos c48] at H
                          have c48b0 := eq_true c48
                          have c48b1 : decide (0 ≤ 4) = true := decide_eq_true c48
                          clear c48
                          have c49b0 := eq_true (of_decide_eq_true (by first | (with_reducible assumption) | assumption) : 4 ≤ (t181.size : Int))
                          by_cases c50 : (t181.extract 0 4).size + 1 ≤ 9223372036854775807
                          ·rw [if_pos c50] at H
                           (try (have c50p := c50; simp only [ByteArray.size_extract] at c50p))
                           have c50b0 := eq_true c50
                           have c50b1 : decide ((t181.extract 0 4).size + 1 ≤ 9223372036854775807) = true := decide_eq_true c50
                           try have c50b2 : (9223372036854775807 < (t181.extract 0 4).size + 1) = False := eq_false (Nat.not_lt.2 c50)
                           try have c50e0 : (9223372036854775807 < t181.size) = False := eq_false (by have h_ := c50; simp only [ByteArray.size_append, ByteArray.size_extract] at h_; omega)
                           by_cases c51 : 5 ≤ (t181.size : Int)
                           ·rw [if_pos c51] at H
                            have c51p : 5 ≤ t181.size := by omega
                            have c51b0 := eq_true c51
                            have c51b1 : decide (5 ≤ (t181.size : Int)) = true := decide_eq_true c51
                            clear c51
                            by_cases c52 : ((t181.extract 0 4) ++ (⟨#[1]⟩ : ByteArray)).size + (t181.extract 5 t181.size).size ≤ 9223372036854775807
                            ·rw [if_pos c52] at H
                             (try (have c52p := c52; simp only [ByteArray.size_extract] at c52p))
                             have c52b0 := eq_true c52
                             have c52b1 : decide (((t181.extract 0 4) ++ (⟨#[1]⟩ : ByteArray)).size + (t181.extract 5 t181.size).size ≤ 9223372036854775807) = true := decide_eq_true c52
                             try have c52b2 : (9223372036854775807 < ((t181.extract 0 4) ++ (⟨#[1]⟩ : ByteArray)).size + (t181.extract 5 t181.size).size) = False := eq_false (Nat.not_lt.2 c52)
                             try have c52e0 : (9223372036854775807 < t181.size) = False := eq_false (by have h_ := c52; simp only [ByteArray.size_append, ByteArray.size_extract] at h_; have l0_ : (⟨#[1]⟩ : ByteArray).size = 1 := rfl; omega)
                             try have c52b3 : (9223372036854775807 < (t181.extract 0 4).size + 1 + (t181.extract 5 t181.size).size) = False := eq_false (by have h_ := c52; simp only [ByteArray.size_append] at h_; have l0_ : (⟨#[1]⟩ : ByteArray).size = 1 := rfl; omega)
                             try have c52b4 : (9223372036854775807 < (t181.extract 0 4).size + (⟨#[1]⟩ : ByteArray).size + (t181.extract 5 t181.size).size) = False := eq_false (by have h_ := c52; simp only [ByteArray.size_append] at h_; have l0_ : (⟨#[1]⟩ : ByteArray).size = 1 := rfl; omega)
                             by_cases c53 : 0 ≤ 7
                             ·rw [if_pos c53] at H
                              have c53b0 := eq_true c53
                              have c53b1 : decide (0 ≤ 7) = true := decide_eq_true c53
                              clear c53
                              by_cases c54 : 7 ≤ (t181.size : Int)
                              ·rw [if_pos c54] at H
                               have c54p : 7 ≤ t181.size := by omega
                               have c54b0 := eq_true c54
                               have c54b1 : decide (7 ≤ (t181.size : Int)) = true := decide_eq_true c54
                               clear c54
                               by_cases c55 : (t181.extract 0 7).size + 1 ≤ 9223372036854775807
                               ·rw [if_pos c55] at H
                                (try (have c55p := c55; simp only [ByteArray.size_extract] at c55p))
                                have c55b0 := eq_true c55
                                have c55b1 : decide ((t181.extract 0 7).size + 1 ≤ 9223372036854775807) = true := decide_eq_true c55
                                try have c55b2 : (9223372036854775807 < (t181.extract 0 7).size + 1) = False := eq_false (Nat.not_lt.2 c55)
                                try have c55e0 : (9223372036854775807 < t181.size) = False := eq_false (by have h_ := c55; simp only [ByteArray.size_append, ByteArray.size_extract] at h_; omega)
                                by_cases c56 : 8 ≤ (t181.size : Int)
                                ·rw [if_pos c56] at H
                                 have c56p : 8 ≤ t181.size := by omega
                                 have c56b0 := eq_true c56
                                 have c56b1 : decide (8 ≤ (t181.size : Int)) = true := decide_eq_true c56
                                 clear c56
                                 by_cases c57 : ((t181.extract 0 7) ++ (⟨#[5]⟩ : ByteArray)).size + (t181.extract 8 t181.size).size ≤ 9223372036854775807
                                 ·rw [if_pos c57] at H
                                  (try (have c57p := c57; simp only [ByteArray.size_extract] at c57p))
                                  have c57b0 := eq_true c57
                                  have c57b1 : decide (((t181.extract 0 7) ++ (⟨#[5]⟩ : ByteArray)).size + (t181.extract 8 t181.size).size ≤ 9223372036854775807) = true := decide_eq_true c57
                                  try have c57b2 : (9223372036854775807 < ((t181.extract 0 7) ++ (⟨#[5]⟩ : ByteArray)).size + (t181.extract 8 t181.size).size) = False := eq_false (Nat.not_lt.2 c57)
                                  try have c57e0 : (9223372036854775807 < t181.size) = False := eq_false (by have h_ := c57; simp only [ByteArray.size_append, ByteArray.size_extract] at h_; have l0_ : (⟨#[5]⟩ : ByteArray).size = 1 := rfl; omega)
                                  try have c57b3 : (9223372036854775807 < (t181.extract 0 7).size + 1 + (t181.extract 8 t181.size).size) = False := eq_false (by have h_ := c57; simp only [ByteArray.size_append] at h_; have l0_ : (⟨#[5]⟩ : ByteArray).size = 1 := rfl; omega)
                                  try have c57b4 : (9223372036854775807 < (t181.extract 0 7).size + (⟨#[5]⟩ : ByteArray).size + (t181.extract 8 t181.size).size) = False := eq_false (by have h_ := c57; simp only [ByteArray.size_append] at h_; have l0_ : (⟨#[5]⟩ : ByteArray).size = 1 := rfl; omega)
                                  by_cases c58 : 0 ≤ 8
                                  ·rw [if_pos c58] at H
                                   have c58b0 := eq_true c58
                                   have c58b1 : decide (0 ≤ 8) = true := decide_eq_true c58
                                   clear c58
                                   have c59b0 := eq_true (of_decide_eq_true (by first | (with_reducible assumption) | assumption) : 8 ≤ (t181.size : Int))
                                   by_cases c60 : (t181.extract 0 8).size + 1 ≤ 9223372036854775807
                                   ·rw [if_pos c60] at H
                                    (try (have c60p := c60; simp only [ByteArray.size_extract] at c60p))
                                    have c60b0 := eq_true c60
                                    have c60b1 : decide ((t181.extract 0 8).size + 1 ≤ 9223372036854775807) = true := decide_eq_true c60
                                    try have c60b2 : (9223372036854775807 < (t181.extract 0 8).size + 1) = False := eq_false (Nat.not_lt.2 c60)
                                    try have c60e0 : (9223372036854775807 < t181.size) = False := eq_false (by have h_ := c60; simp only [ByteArray.size_append, ByteArray.size_extract] at h_; omega)
                                    by_cases c61 : 9 ≤ (t181.size : Int)
                                    ·rw [if_pos c61] at H
                                     have c61p : 9 ≤ t181.size := by omega
                                     have c61b0 := eq_true c61
                                     have c61b1 : decide (9 ≤ (t181.size : Int)) = true := decide_eq_true c61
                                     clear c61
                                     by_cases c62 : ((t181.extract 0 8) ++ (⟨#[1]⟩ : ByteArray)).size + (t181.extract 9 t181.size).size ≤ 9223372036854775807
                                     ·rw [if_pos c62] at H
                                      (try (have c62p := c62; simp only [ByteArray.size_extract] at c62p))
                                      have c62b0 := eq_true c62
                                      have c62b1 : decide (((t181.extract 0 8) ++ (⟨#[1]⟩ : ByteArray)).size + (t181.extract 9 t181.size).size ≤ 9223372036854775807) = true := decide_eq_true c62
                                      try have c62b2 : (9223372036854775807 < ((t181.extract 0 8) ++ (⟨#[1]⟩ : ByteArray)).size + (t181.extract 9 t181.size).size) = False := eq_false (Nat.not_lt.2 c62)
                                      try have c62e0 : (9223372036854775807 < t181.size) = False := eq_false (by have h_ := c62; simp only [ByteArray.size_append, ByteArray.size_extract] at h_; have l0_ : (⟨#[1]⟩ : ByteArray).size = 1 := rfl; omega)
                                      try have c62b3 : (9223372036854775807 < (t181.extract 0 8).size + 1 + (t181.extract 9 t181.size).size) = False := eq_false (by have h_ := c62; simp only [ByteArray.size_append] at h_; have l0_ : (⟨#[1]⟩ : ByteArray).size = 1 := rfl; omega)
                                      try have c62b4 : (9223372036854775807 < (t181.extract 0 8).size + (⟨#[1]⟩ : ByteArray).size + (t181.extract 9 t181.size).size) = False := eq_false (by have h_ := c62; simp only [ByteArray.size_append] at h_; have l0_ : (⟨#[1]⟩ : ByteArray).size = 1 := rfl; omega)
                                      have c63b0 := eq_true (of_decide_eq_true (by first | (with_reducible assumption) | assumption) : 0 ≤ 11)
                                      have c64b0 := eq_true (of_decide_eq_true (by first | (with_reducible assumption) | assumption) : 11 ≤ (t181.size : Int))
                                      by_cases c65 : (t181.extract 0 11).size + 1 ≤ 9223372036854775807
                                      ·rw [if_pos c65] at H
                                       (try (have c65p := c65; simp only [ByteArray.size_extract] at c65p))
                                       have c65b0 := eq_true c65
                                       have c65b1 : decide ((t181.extract 0 11).size + 1 ≤ 9223372036854775807) = true := decide_eq_true c65
                                       try have c65b2 : (9223372036854775807 < (t181.extract 0 11).size + 1) = False := eq_false (Nat.not_lt.2 c65)
                                       try have c65e0 : (9223372036854775807 < t181.size) = False := eq_false (by have h_ := c65; simp only [ByteArray.size_append, ByteArray.size_extract] at h_; omega)
                                       obtain ⟨y184, hy184⟩ : ∃ y_ : List ByteArray, y_ = (([(⟨#[]⟩ : ByteArray), t181.extract 0 11, (⟨#[1]⟩ : ByteArray) ++ (t181.extract 1 t181.size), ((t181.extract 0 1) ++ (⟨#[6]⟩ : ByteArray)) ++ (t181.extract 2 t181.size), ((t181.extract 0 2) ++ (⟨#[255]⟩ : ByteArray)) ++ (t181.extract 3 t181.size), ((t181.extract 0 3) ++ (⟨#[11]⟩ : ByteArray)) ++ (t181.extract 4 t181.size), ((t181.extract 0 4) ++ (⟨#[1]⟩ : ByteArray)) ++ (t181.extract 5 t181.size), ((t181.extract 0 7) ++ (⟨#[5]⟩ : ByteArray)) ++ (t181.extract 8 t181.size), ((t181.extract 0 8) ++ (⟨#[1]⟩ : ByteArray)) ++ (t181.extract 9 t181.size), (t181.extract 0 11) ++ (⟨#[1]⟩ : ByteArray)] : List ByteArray)) := ⟨_, rfl⟩
                                       replace H : (if 0 ≤ ji5 then (if ji5 < (y184.length : Int) then ((head_Get.f kj11 (rdOf ByteArray.empty y184 ji5)).bind fun bt188 => (if t179.toList = ([] : List UInt8) then ((watchwordlaw0_Num.f t180).bind fun t192 => (if t192 = 800 then ((watchwordlaw0_Num.f bt188.2.2.2).bind fun t193 => (some (t193 == 800))) else (some false))) else (some false))) else (none)) else (none)) = some r := by first | (rw [hy184]; with_reducible exact H) | (have H2_ := (Option.bind_some _ _).symm.trans H; rw [hy184]; with_reducible exact H2_) | (have H2_ := (Option.bind_some _ _).symm.trans H; with_reducible exact H2_) | with_reducible exact H | (rw [hy184]; exact H) | exact H
                                       have Ny184 := Aside0.mk hy184
                                       clear hy184
                                       by_cases c66 : 0 ≤ ji5
                                       ·rw [if_pos c66] at H
                                        have c66b0 : decide (0 ≤ ji5) = true := decide_eq_true c66
                                        clear c66
                                        by_cases c67 : ji5 < (y184.length : Int)
                                        ·rw [if_pos c67] at H
                                         have c67b0 : decide (ji5 < (y184.length : Int)) = true := decide_eq_true c67
                                         clear c67
                                         replace H := Option.bind_eq_some_iff.mp H
                                         obtain ⟨⟨t188, t189, t190, t191⟩, A680, H⟩ := H
                                         replace H : (if t179.toList = ([] : List UInt8) then ((watchwordlaw0_Num.f t180).bind fun t192 => (if t192 = 800 then ((watchwordlaw0_Num.f t191).bind fun t193 => (some (t193 == 800))) else (some false))) else (some false)) = some r := H
                                         have A68 := Aside0.mk A680
                                         clear A680
                                         by_cases c69 : t179.toList = ([] : List UInt8)
                                         ·rw [if_pos c69] at H
                                          have c69b0 : (t179.toList == ([] : List UInt8)) = true := beq_iff_eq.mpr c69
                                          have c69b1 : (t179.toList != ([] : List UInt8)) = false := bne_eq_false_iff_eq.mpr c69
                                          clear c69
                                          replace H := Option.bind_eq_some_iff.mp H
                                          obtain ⟨t192, A700, H⟩ := H
                                          replace H : (if t192 = 800 then ((watchwordlaw0_Num.f t191).bind fun t193 => (some (t193 == 800))) else (some false)) = some r := H
                                          have A70 := Aside0.mk A700
                                          clear A700
                                          by_cases c71 : t192 = 800
                                          ·rw [if_pos c71] at H
                                           have c71b0 : (t192 == 800) = true := beq_iff_eq.mpr c71
                                           have c71b1 : (t192 != 800) = false := bne_eq_false_iff_eq.mpr c71
                                           clear c71
                                           replace H := Option.bind_eq_some_iff.mp H
                                           obtain ⟨t193, A720, H⟩ := H
                                           replace H : (some (t193 == 800)) = some r := H
                                           have A72 := Aside0.mk A720
                                           clear A720
                                           obtain rfl := Option.some.inj H
                                           try go_wp2
                                           have n0_ := Aside0.mk (below_drew1 HB.out)
                                           clear HB
                                           have HB := n0_
                                           clear n0_
                                           refine start_ (n := 46) (S := fun w' => True) (ds := []) #[false, false, false, false, false, false, false, false, false, false, false, false, false, false, false, false, false, false, false, false, false, false, false, false, false, false, false, false, false, false, false, false, false, false, false, false, false, false, false, false, false, false, false, false, false, false] (by kernel_rfl) rfl rfl trivial (fun hHeld => ?_); refine with_tabW watchwordlaw8_HeadForms.tab12 watchwordlaw8_HeadForms.bits12 (fun HT_ HW_ => ?_)
                                           generalize wc.drew = w73 at HB hHeld ⊢
                                           refine pure_ (i := 0) (N := some 71) (v := ?_) (a' := ?_) #[true, false, false, false, false, false, false, false, false, false, false, false, false, false, false, false, false, false, false, false, false, false, false, false, false, false, false, false, false, false, false, false, false, false, false, false, false, false, false, false, false, false, false, false, false, false] rfl rfl (any_of HT_.out (by kernel_rfl)) (fun _ _ _ h => h) (Or.inl ⟨by rfl, ?_⟩) ?_ ?_
                                           rotate_left
                                           ·intro w'
                                            go_simp
                                            with_reducible rfl
                                           rotate_left
                                           ·simp only [Act.put, List.setIfInBounds_toArray, List.set_cons_zero, List.set_cons_succ, i64_w, i32_w]
                                            rfl
                                           refine pure_ (i := 1) (N := some 72) (v := ?_) (a' := ?_) #[true, true, false, false, false, false, false, false, false, false, false, false, false, false, false, false, false, false, false, false, false, false, false, false, false, false, false, false, false, false, false, false, false, false, false, false, false, false, false, false, false, false, false, false, false, false] rfl rfl (any_of HT_.out (by kernel_rfl)) (fun _ _ _ h => h) (Or.inl ⟨by rfl, ?_⟩) ?_ ?_
                                           rotate_left
                                           ·intro w'
                                            go_simp
                                            with_reducible rfl
                                           rotate_left
                                           ·simp only [Act.put, List.setIfInBounds_toArray, List.set_cons_zero, List.set_cons_succ, i64_w, i32_w]
                                            rfl
                                           refine pure_ (i := 2) (N := some 73) (v := ?_) (a' := ?_) #[true, true, true, false, false, false, false, false, false, false, false, false, false, false, false, false, false, false, false, false, false, false, false, false, false, false, false, false, false, false, false, false, false, false, false, false, false, false, false, false, false, false, false, false, false, false] rfl rfl (any_of HT_.out (by kernel_rfl)) (fun _ _ _ h => h) (Or.inl ⟨by rfl, ?_⟩) ?_ ?_
                                           rotate_left
                                           ·intro w'
                                            go_simp
                                            with_reducible rfl
                                           rotate_left
                                           ·simp only [Act.put, List.setIfInBounds_toArray, List.set_cons_zero, List.set_cons_succ, i64_w, i32_w]
                                            rfl
                                           refine pure_ (i := 3) (N := some 74) (v := ?_) (a' := ?_) #[true, true, true, true, false, false, false, false, false, false, false, false, false, false, false, false, false, false, false, false, false, false, false, false, false, false, false, false, false, false, false, false, false, false, false, false, false, false, false, false, false, false, false, false, false, false] rfl rfl (any_of HT_.out (by kernel_rfl)) (fun _ _ _ h => h) (Or.inl ⟨by rfl, ?_⟩) ?_ ?_
                                           rotate_left
                                           ·intro w'
                                            go_simp
                                            with_reducible rfl
                                           rotate_left
                                           ·simp only [Act.put, List.setIfInBounds_toArray, List.set_cons_zero, List.set_cons_succ, i64_w, i32_w]
                                            rfl
                                           refine pure_ (i := 4) (N := some 75) (v := ?_) (a' := ?_) #[true, true, true, true, true, false, false, false, false, false, false, false, false, false, false, false, false, false, false, false, false, false, false, false, false, false, false, false, false, false, false, false, false, false, false, false, false, false, false, false, false, false, false, false, false, false] rfl rfl (any_of HT_.out (by kernel_rfl)) (fun _ _ _ h => h) (Or.inl ⟨by rfl, ?_⟩) ?_ ?_
                                           rotate_left
                                           ·intro w'
                                            go_simp
                                            with_reducible rfl
                                           rotate_left
                                           ·simp only [Act.put, List.setIfInBounds_toArray, List.set_cons_zero, List.set_cons_succ, i64_w, i32_w]
                                            rfl
                                           refine pure_ (i := 5) (N := some 76) (v := ?_) (a' := ?_) #[true, true, true, true, true, true, false, false, false, false, false, false, false, false, false, false, false, false, false, false, false, false, false, false, false, false, false, false, false, false, false, false, false, false, false, false, false, false, false, false, false, false, false, false, false, false] rfl rfl (any_of HT_.out (by kernel_rfl)) (fun _ _ _ h => h) (Or.inl ⟨by rfl, ?_⟩) ?_ ?_
                                           rotate_left
                                           ·intro w'
                                            go_simp
                                            with_reducible rfl
                                           rotate_left
                                           ·simp only [Act.put, List.setIfInBounds_toArray, List.set_cons_zero, List.set_cons_succ, i64_w, i32_w]
                                            rfl
                                           refine pure_ (i := 6) (N := some 77) (v := ?_) (a' := ?_) #[true, true, true, true, true, true, true, false, false, false, false, false, false, false, false, false, false, false, false, false, false, false, false, false, false, false, false, false, false, false, false, false, false, false, false, false, false, false, false, false, false, false, false, false, false, false] rfl rfl (any_of HT_.out (by kernel_rfl)) (fun _ _ _ h => h) (Or.inl ⟨by rfl, ?_⟩) ?_ ?_
                                           rotate_left
                                           ·intro w'
                                            go_simp
                                            with_reducible rfl
                                           rotate_left
                                           ·simp only [Act.put, List.setIfInBounds_toArray, List.set_cons_zero, List.set_cons_succ, i64_w, i32_w]
                                            rfl
                                           refine pure_ (i := 7) (N := some 78) (v := ?_) (a' := ?_) #[true, true, true, true, true, true, true, true, false, false, false, false, false, false, false, false, false, false, false, false, false, false, false, false, false, false, false, false, false, false, false, false, false, false, false, false, false, false, false, false, false, false, false, false, false, false] rfl rfl (any_of HT_.out (by kernel_rfl)) (fun _ _ _ h => h) (Or.inl ⟨by rfl, ?_⟩) ?_ ?_
                                           rotate_left
                                           ·intro w'
                                            go_simp
                                            with_reducible rfl
                                           rotate_left
                                           ·simp only [Act.put, List.setIfInBounds_toArray, List.set_cons_zero, List.set_cons_succ, i64_w, i32_w]
                                            rfl
                                           refine pure_ (i := 8) (N := some 79) (v := ?_) (a' := ?_) #[true, true, true, true, true, true, true, true, true, false, false, false, false, false, false, false, false, false, false, false, false, false, false, false, false, false, false, false, false, false, false, false, false, false, false, false, false, false, false, false, false, false, false, false, false, false] rfl rfl (any_of HT_.out (by kernel_rfl)) (fun _ _ _ h => h) (Or.inl ⟨by rfl, ?_⟩) ?_ ?_
                                           rotate_left
                                           ·intro w'
                                            go_simp
                                            with_reducible rfl
                                           rotate_left
                                           ·simp only [Act.put, List.setIfInBounds_toArray, List.set_cons_zero, List.set_cons_succ, i64_w, i32_w]
                                            rfl
                                           refine pure_ (i := 9) (N := some 80) (v := ?_) (a' := ?_) #[true, true, true, true, true, true, true, true, true, true, false, false, false, false, false, false, false, false, false, false, false, false, false, false, false, false, false, false, false, false, false, false, false, false, false, false, false, false, false, false, false, false, false, false, false, false] rfl rfl (any_of HT_.out (by kernel_rfl)) (fun _ _ _ h => h) (Or.inl ⟨by rfl, ?_⟩) ?_ ?_
                                           rotate_left
                                           ·intro w'
                                            go_simp
                                            with_reducible rfl
                                           rotate_left
                                           ·simp only [Act.put, List.setIfInBounds_toArray, List.set_cons_zero, List.set_cons_succ, i64_w, i32_w]
                                            rfl
                                           refine pure_ (i := 10) (N := some 81) (v := ?_) (a' := ?_) #[true, true, true, true, true, true, true, true, true, true, true, false, false, false, false, false, false, false, false, false, false, false, false, false, false, false, false, false, false, false, false, false, false, false, false, false, false, false, false, false, false, false, false, false, false, false] rfl rfl (any_of HT_.out (by kernel_rfl)) (fun _ _ _ h => h) (Or.inl ⟨by rfl, ?_⟩) ?_ ?_
                                           rotate_left
                                           ·intro w'
                                            go_simp
                                            with_reducible rfl
                                           rotate_left
                                           ·simp only [Act.put, List.setIfInBounds_toArray, List.set_cons_zero, List.set_cons_succ, i64_w, i32_w]
                                            rfl
                                           refine pure_ (i := 11) (N := some 82) (v := ?_) (a' := ?_) #[true, true, true, true, true, true, true, true, true, true, true, true, false, false, false, false, false, false, false, false, false, false, false, false, false, false, false, false, false, false, false, false, false, false, false, false, false, false, false, false, false, false, false, false, false, false] rfl rfl (any_of HT_.out (by kernel_rfl)) (fun _ _ _ h => h) (Or.inl ⟨by rfl, ?_⟩) ?_ ?_
                                           rotate_left
                                           ·intro w'
                                            go_simp
                                            with_reducible rfl
                                           rotate_left
                                           ·simp only [Act.put, List.setIfInBounds_toArray, List.set_cons_zero, List.set_cons_succ, i64_w, i32_w]
                                            rfl
                                           refine pure_ (i := 12) (N := some 83) (v := ?_) (a' := ?_) #[true, true, true, true, true, true, true, true, true, true, true, true, true, false, false, false, false, false, false, false, false, false, false, false, false, false, false, false, false, false, false, false, false, false, false, false, false, false, false, false, false, false, false, false, false, false] rfl rfl (any_of HT_.out (by kernel_rfl)) (fun _ _ _ h => h) (Or.inl ⟨by rfl, ?_⟩) ?_ ?_
                                           rotate_left
                                           ·intro w'
                                            go_simp
                                            with_reducible rfl
                                           rotate_left
                                           ·simp only [Act.put, List.setIfInBounds_toArray, List.set_cons_zero, List.set_cons_succ, i64_w, i32_w]
                                            rfl
                                           refine pure_ (i := 13) (N := some 84) (v := ?_) (a' := ?_) #[true, true, true, true, true, true, true, true, true, true, true, true, true, true, false, false, false, false, false, false, false, false, false, false, false, false, false, false, false, false, false, false, false, false, false, false, false, false, false, false, false, false, false, false, false, false] rfl rfl (any_of HT_.out (by kernel_rfl)) (fun _ _ _ h => h) (Or.inl ⟨by rfl, ?_⟩) ?_ ?_
                                           rotate_left
                                           ·intro w'
                                            go_simp
                                            with_reducible rfl
                                           rotate_left
                                           ·simp only [Act.put, List.setIfInBounds_toArray, List.set_cons_zero, List.set_cons_succ, i64_w, i32_w]
                                            rfl
                                           refine pure_ (i := 14) (N := some 85) (v := ?_) (a' := ?_) #[true, true, true, true, true, true, true, true, true, true, true, true, true, true, true, false, false, false, false, false, false, false, false, false, false, false, false, false, false, false, false, false, false, false, false, false, false, false, false, false, false, false, false, false, false, false] rfl rfl (any_of HT_.out (by kernel_rfl)) (fun _ _ _ h => h) (Or.inl ⟨by rfl, ?_⟩) ?_ ?_
                                           rotate_left
                                           ·intro w'
                                            go_simp
                                            with_reducible rfl
                                           rotate_left
                                           ·simp only [Act.put, List.setIfInBounds_toArray, List.set_cons_zero, List.set_cons_succ, i64_w, i32_w]
                                            rfl
                                           refine pure_ (i := 15) (N := some 86) (v := ?_) (a' := ?_) #[true, true, true, true, true, true, true, true, true, true, true, true, true, true, true, true, false, false, false, false, false, false, false, false, false, false, false, false, false, false, false, false, false, false, false, false, false, false, false, false, false, false, false, false, false, false] rfl rfl (any_of HT_.out (by kernel_rfl)) (fun _ _ _ h => h) (Or.inl ⟨by rfl, ?_⟩) ?_ ?_
                                           rotate_left
                                           ·intro w'
                                            go_simp
                                            with_reducible rfl
                                           rotate_left
                                           ·simp only [Act.put, List.setIfInBounds_toArray, List.set_cons_zero, List.set_cons_succ, i64_w, i32_w]
                                            rfl
                                           refine pure_ (i := 16) (N := some 87) (v := ?_) (a' := ?_) #[true, true, true, true, true, true, true, true, true, true, true, true, true, true, true, true, true, false, false, false, false, false, false, false, false, false, false, false, false, false, false, false, false, false, false, false, false, false, false, false, false, false, false, false, false, false] rfl rfl (any_of HT_.out (by kernel_rfl)) (fun _ _ _ h => h) (Or.inl ⟨by rfl, ?_⟩) ?_ ?_
                                           rotate_left
                                           ·intro w'
                                            go_simp
                                            with_reducible rfl
                                           rotate_left
                                           ·simp only [Act.put, List.setIfInBounds_toArray, List.set_cons_zero, List.set_cons_succ, i64_w, i32_w]
                                            rfl
                                           refine pure_ (i := 17) (N := some 88) (v := ?_) (a' := ?_) #[true, true, true, true, true, true, true, true, true, true, true, true, true, true, true, true, true, true, false, false, false, false, false, false, false, false, false, false, false, false, false, false, false, false, false, false, false, false, false, false, false, false, false, false, false, false] rfl rfl (any_of HT_.out (by kernel_rfl)) (fun _ _ _ h => h) (Or.inl ⟨by rfl, ?_⟩) ?_ ?_
                                           rotate_left
                                           ·intro w'
                                            go_simp
                                            with_reducible rfl
                                           rotate_left
                                           ·simp only [Act.put, List.setIfInBounds_toArray, List.set_cons_zero, List.set_cons_succ, i64_w, i32_w]
                                            rfl
                                           refine pure_ (i := 18) (N := some 89) (v := ?_) (a' := ?_) #[true, true, true, true, true, true, true, true, true, true, true, true, true, true, true, true, true, true, true, false, false, false, false, false, false, false, false, false, false, false, false, false, false, false, false, false, false, false, false, false, false, false, false, false, false, false] rfl rfl (any_of HT_.out (by kernel_rfl)) (fun _ _ _ h => h) (Or.inl ⟨by rfl, ?_⟩) ?_ ?_
                                           rotate_left
                                           ·intro w'
                                            go_simp
                                            with_reducible rfl
                                           rotate_left
                                           ·simp only [Act.put, List.setIfInBounds_toArray, List.set_cons_zero, List.set_cons_succ, i64_w, i32_w]
                                            rfl
                                           refine pure_ (i := 19) (N := some 90) (v := ?_) (a' := ?_) #[true, true, true, true, true, true, true, true, true, true, true, true, true, true, true, true, true, true, true, true, false, false, false, false, false, false, false, false, false, false, false, false, false, false, false, false, false, false, false, false, false, false, false, false, false, false] rfl rfl (any_of HT_.out (by kernel_rfl)) (fun _ _ _ h => h) (Or.inl ⟨by rfl, ?_⟩) ?_ ?_
                                           rotate_left
                                           ·intro w'
                                            go_simp
                                            with_reducible rfl
                                           rotate_left
                                           ·simp only [Act.put, List.setIfInBounds_toArray, List.set_cons_zero, List.set_cons_succ, i64_w, i32_w]
                                            rfl
                                           refine pure_ (i := 20) (N := some 91) (v := ?_) (a' := ?_) #[true, true, true, true, true, true, true, true, true, true, true, true, true, true, true, true, true, true, true, true, true, false, false, false, false, false, false, false, false, false, false, false, false, false, false, false, false, false, false, false, false, false, false, false, false, false] rfl rfl (any_of HT_.out (by kernel_rfl)) (fun _ _ _ h => h) (Or.inl ⟨by rfl, ?_⟩) ?_ ?_
                                           rotate_left
                                           ·intro w'
                                            go_simp
                                            with_reducible rfl
                                           rotate_left
                                           ·simp only [Act.put, List.setIfInBounds_toArray, List.set_cons_zero, List.set_cons_succ, i64_w, i32_w]
                                            rfl
                                           refine pure_ (i := 21) (N := some 92) (v := ?_) (a' := ?_) #[true, true, true, true, true, true, true, true, true, true, true, true, true, true, true, true, true, true, true, true, true, true, false, false, false, false, false, false, false, false, false, false, false, false, false, false, false, false, false, false, false, false, false, false, false, false] rfl rfl (any_of HT_.out (by kernel_rfl)) (fun _ _ _ h => h) (Or.inl ⟨by rfl, ?_⟩) ?_ ?_
                                           rotate_left
                                           ·intro w'
                                            go_simp
                                            with_reducible rfl
                                           rotate_left
                                           ·simp only [Act.put, List.setIfInBounds_toArray, List.set_cons_zero, List.set_cons_succ, i64_w, i32_w]
                                            rfl
                                           refine pure_ (i := 22) (N := some 93) (v := ?_) (a' := ?_) #[true, true, true, true, true, true, true, true, true, true, true, true, true, true, true, true, true, true, true, true, true, true, true, false, false, false, false, false, false, false, false, false, false, false, false, false, false, false, false, false, false, false, false, false, false, false] rfl rfl (any_of HT_.out (by kernel_rfl)) (fun _ _ _ h => h) (Or.inl ⟨by rfl, ?_⟩) ?_ ?_
                                           rotate_left
                                           ·intro w'
                                            go_simp
                                            with_reducible rfl
                                           rotate_left
                                           ·simp only [Act.put, List.setIfInBounds_toArray, List.set_cons_zero, List.set_cons_succ, i64_w, i32_w]
                                            rfl
                                           refine pure_ (i := 23) (N := some 94) (v := ?_) (a' := ?_) #[true, true, true, true, true, true, true, true, true, true, true, true, true, true, true, true, true, true, true, true, true, true, true, true, false, false, false, false, false, false, false, false, false, false, false, false, false, false, false, false, false, false, false, false, false, false] rfl rfl (any_of HT_.out (by kernel_rfl)) (fun _ _ _ h => h) (Or.inl ⟨by rfl, ?_⟩) ?_ ?_
                                           rotate_left
                                           ·intro w'
                                            go_simp
                                            with_reducible rfl
                                           rotate_left
                                           ·simp only [Act.put, List.setIfInBounds_toArray, List.set_cons_zero, List.set_cons_succ, i64_w, i32_w]
                                            rfl
                                           refine pure_ (i := 24) (N := some 95) (v := ?_) (a' := ?_) #[true, true, true, true, true, true, true, true, true, true, true, true, true, true, true, true, true, true, true, true, true, true, true, true, true, false, false, false, false, false, false, false, false, false, false, false, false, false, false, false, false, false, false, false, false, false] rfl rfl (any_of HT_.out (by kernel_rfl)) (fun _ _ _ h => h) (Or.inl ⟨by rfl, ?_⟩) ?_ ?_
                                           rotate_left
                                           ·intro w'
                                            go_simp
                                            with_reducible rfl
                                           rotate_left
                                           ·simp only [Act.put, List.setIfInBounds_toArray, List.set_cons_zero, List.set_cons_succ, i64_w, i32_w]
                                            rfl
                                           refine pure_ (i := 25) (N := some 96) (v := ?_) (a' := ?_) #[true, true, true, true, true, true, true, true, true, true, true, true, true, true, true, true, true, true, true, true, true, true, true, true, true, true, false, false, false, false, false, false, false, false, false, false, false, false, false, false, false, false, false, false, false, false] rfl rfl (any_of HT_.out (by kernel_rfl)) (fun _ _ _ h => h) (Or.inl ⟨by rfl, ?_⟩) ?_ ?_
                                           rotate_left
                                           ·intro w'
                                            go_simp
                                            with_reducible rfl
                                           rotate_left
                                           ·simp only [Act.put, List.setIfInBounds_toArray, List.set_cons_zero, List.set_cons_succ, i64_w, i32_w]
                                            rfl
                                           refine pure_ (i := 26) (N := some 97) (v := ?_) (a' := ?_) #[true, true, true, true, true, true, true, true, true, true, true, true, true, true, true, true, true, true, true, true, true, true, true, true, true, true, true, false, false, false, false, false, false, false, false, false, false, false, false, false, false, false, false, false, false, false] rfl rfl (any_of HT_.out (by kernel_rfl)) (fun _ _ _ h => h) (Or.inl ⟨by rfl, ?_⟩) ?_ ?_
                                           rotate_left
                                           ·intro w'
                                            go_simp
                                            with_reducible rfl
                                           rotate_left
                                           ·simp only [Act.put, List.setIfInBounds_toArray, List.set_cons_zero, List.set_cons_succ, i64_w, i32_w]
                                            rfl
                                           refine pure_ (i := 27) (N := some 98) (v := ?_) (a' := ?_) #[true, true, true, true, true, true, true, true, true, true, true, true, true, true, true, true, true, true, true, true, true, true, true, true, true, true, true, true, false, false, false, false, false, false, false, false, false, false, false, false, false, false, false, false, false, false] rfl rfl (any_of HT_.out (by kernel_rfl)) (fun _ _ _ h => h) (Or.inl ⟨by rfl, ?_⟩) ?_ ?_
                                           rotate_left
                                           ·intro w'
                                            go_simp
                                            with_reducible rfl
                                           rotate_left
                                           ·simp only [Act.put, List.setIfInBounds_toArray, List.set_cons_zero, List.set_cons_succ, i64_w, i32_w]
                                            rfl
                                           refine pure_ (i := 28) (N := some 99) (v := ?_) (a' := ?_) #[true, true, true, true, true, true, true, true, true, true, true, true, true, true, true, true, true, true, true, true, true, true, true, true, true, true, true, true, true, false, false, false, false, false, false, false, false, false, false, false, false, false, false, false, false, false] rfl rfl (any_of HT_.out (by kernel_rfl)) (fun _ _ _ h => h) (Or.inl ⟨by rfl, ?_⟩) ?_ ?_
                                           rotate_left
                                           ·intro w'
                                            go_simp
                                            with_reducible rfl
                                           rotate_left
                                           ·simp only [Act.put, List.setIfInBounds_toArray, List.set_cons_zero, List.set_cons_succ, i64_w, i32_w]
                                            rfl
                                           refine pure_ (i := 29) (N := some 100) (v := ?_) (a' := ?_) #[true, true, true, true, true, true, true, true, true, true, true, true, true, true, true, true, true, true, true, true, true, true, true, true, true, true, true, true, true, true, false, false, false, false, false, false, false, false, false, false, false, false, false, false, false, false] rfl rfl (any_of HT_.out (by kernel_rfl)) (fun _ _ _ h => h) (Or.inl ⟨by rfl, ?_⟩) ?_ ?_
                                           rotate_left
                                           ·intro w'
                                            go_simp
                                            with_reducible rfl
                                           rotate_left
                                           ·simp only [Act.put, List.setIfInBounds_toArray, List.set_cons_zero, List.set_cons_succ, i64_w, i32_w]
                                            rfl
                                           refine pure_ (i := 30) (N := some 101) (v := ?_) (a' := ?_) #[true, true, true, true, true, true, true, true, true, true, true, true, true, true, true, true, true, true, true, true, true, true, true, true, true, true, true, true, true, true, true, false, false, false, false, false, false, false, false, false, false, false, false, false, false, false] rfl rfl (any_of HT_.out (by kernel_rfl)) (fun _ _ _ h => h) (Or.inl ⟨by rfl, ?_⟩) ?_ ?_
                                           rotate_left
                                           ·intro w'
                                            go_simp
                                            with_reducible rfl
                                           rotate_left
                                           ·simp only [Act.put, List.setIfInBounds_toArray, List.set_cons_zero, List.set_cons_succ, i64_w, i32_w]
                                            rfl
                                           refine pure_ (i := 31) (N := some 102) (v := ?_) (a' := ?_) #[true, true, true, true, true, true, true, true, true, true, true, true, true, true, true, true, true, true, true, true, true, true, true, true, true, true, true, true, true, true, true, true, false, false, false, false, false, false, false, false, false, false, false, false, false, false] rfl rfl (any_of HT_.out (by kernel_rfl)) (fun _ _ _ h => h) (Or.inl ⟨by rfl, ?_⟩) ?_ ?_
                                           rotate_left
                                           ·intro w'
                                            go_simp
                                            with_reducible rfl
                                           rotate_left
                                           ·simp only [Act.put, List.setIfInBounds_toArray, List.set_cons_zero, List.set_cons_succ, i64_w, i32_w]
                                            rfl
                                           refine pure_ (i := 32) (N := some 103) (v := ?_) (a' := ?_) #[true, true, true, true, true, true, true, true, true, true, true, true, true, true, true, true, true, true, true, true, true, true, true, true, true, true, true, true, true, true, true, true, true, false, false, false, false, false, false, false, false, false, false, false, false, false] rfl rfl (any_of HT_.out (by kernel_rfl)) (fun _ _ _ h => h) (Or.inl ⟨by rfl, ?_⟩) ?_ ?_
                                           rotate_left
                                           ·intro w'
                                            go_simp
                                            with_reducible rfl
                                           rotate_left
                                           ·simp only [Act.put, List.setIfInBounds_toArray, List.set_cons_zero, List.set_cons_succ, i64_w, i32_w]
                                            rfl
                                           refine pure_ (i := 33) (N := some 104) (v := ?_) (a' := ?_) #[true, true, true, true, true, true, true, true, true, true, true, true, true, true, true, true, true, true, true, true, true, true, true, true, true, true, true, true, true, true, true, true, true, true, false, false, false, false, false, false, false, false, false, false, false, false] rfl rfl (any_of HT_.out (by kernel_rfl)) (fun _ _ _ h => h) (Or.inl ⟨by rfl, ?_⟩) ?_ ?_
                                           rotate_left
                                           ·intro w'
                                            go_simp
                                            with_reducible rfl
                                           rotate_left
                                           ·simp only [Act.put, List.setIfInBounds_toArray, List.set_cons_zero, List.set_cons_succ, i64_w, i32_w]
                                            rfl
                                           refine pure_ (i := 34) (N := some 105) (v := ?_) (a' := ?_) #[true, true, true, true, true, true, true, true, true, true, true, true, true, true, true, true, true, true, true, true, true, true, true, true, true, true, true, true, true, true, true, true, true, true, true, false, false, false, false, false, false, false, false, false, false, false] rfl rfl (any_of HT_.out (by kernel_rfl)) (fun _ _ _ h => h) (Or.inl ⟨by rfl, ?_⟩) ?_ ?_
                                           rotate_left
                                           ·intro w'
                                            go_simp
                                            with_reducible rfl
                                           rotate_left
                                           ·simp only [Act.put, List.setIfInBounds_toArray, List.set_cons_zero, List.set_cons_succ, i64_w, i32_w]
                                            rfl
                                           refine pure_ (i := 35) (N := some 106) (v := ?_) (a' := ?_) #[true, true, true, true, true, true, true, true, true, true, true, true, true, true, true, true, true, true, true, true, true, true, true, true, true, true, true, true, true, true, true, true, true, true, true, true, false, false, false, false, false, false, false, false, false, false] rfl rfl (any_of HT_.out (by kernel_rfl)) (fun _ _ _ h => h) (Or.inl ⟨by rfl, ?_⟩) ?_ ?_
                                           rotate_left
                                           ·intro w'
                                            go_simp
                                            with_reducible rfl
                                           rotate_left
                                           ·simp only [Act.put, List.setIfInBounds_toArray, List.set_cons_zero, List.set_cons_succ, i64_w, i32_w]
                                            rfl
                                           refine pure_ (i := 36) (N := some 107) (v := ?_) (a' := ?_) #[true, true, true, true, true, true, true, true, true, true, true, true, true, true, true, true, true, true, true, true, true, true, true, true, true, true, true, true, true, true, true, true, true, true, true, true, true, false, false, false, false, false, false, false, false, false] rfl rfl (any_of HT_.out (by kernel_rfl)) (fun _ _ _ h => h) (Or.inl ⟨by rfl, ?_⟩) ?_ ?_
                                           rotate_left
                                           ·intro w'
                                            go_simp
                                            with_reducible rfl
                                           rotate_left
                                           ·simp only [Act.put, List.setIfInBounds_toArray, List.set_cons_zero, List.set_cons_succ, i64_w, i32_w]
                                            rfl
                                           refine pure_ (i := 37) (N := some 108) (v := ?_) (a' := ?_) #[true, true, true, true, true, true, true, true, true, true, true, true, true, true, true, true, true, true, true, true, true, true, true, true, true, true, true, true, true, true, true, true, true, true, true, true, true, true, false, false, false, false, false, false, false, false] rfl rfl (any_of HT_.out (by kernel_rfl)) (fun _ _ _ h => h) (Or.inl ⟨by rfl, ?_⟩) ?_ ?_
                                           rotate_left
                                           ·intro w'
                                            go_simp
                                            with_reducible rfl
                                           rotate_left
                                           ·simp only [Act.put, List.setIfInBounds_toArray, List.set_cons_zero, List.set_cons_succ, i64_w, i32_w]
                                            rfl
                                           refine pure_ (i := 38) (N := some 109) (v := ?_) (a' := ?_) #[true, true, true, true, true, true, true, true, true, true, true, true, true, true, true, true, true, true, true, true, true, true, true, true, true, true, true, true, true, true, true, true, true, true, true, true, true, true, true, false, false, false, false, false, false, false] rfl rfl (any_of HT_.out (by kernel_rfl)) (fun _ _ _ h => h) (Or.inl ⟨by rfl, ?_⟩) ?_ ?_
                                           rotate_left
                                           ·intro w'
                                            go_simp
                                            with_reducible rfl
                                           rotate_left
                                           ·simp only [Act.put, List.setIfInBounds_toArray, List.set_cons_zero, List.set_cons_succ, i64_w, i32_w]
                                            rfl
                                           refine pure_ (i := 39) (N := some 110) (v := ?_) (a' := ?_) #[true, true, true, true, true, true, true, true, true, true, true, true, true, true, true, true, true, true, true, true, true, true, true, true, true, true, true, true, true, true, true, true, true, true, true, true, true, true, true, true, false, false, false, false, false, false] rfl rfl (any_of HT_.out (by kernel_rfl)) (fun _ _ _ h => h) (Or.inl ⟨by rfl, ?_⟩) ?_ ?_
                                           rotate_left
                                           ·intro w'
                                            go_simp
                                            with_reducible rfl
                                           rotate_left
                                           ·simp only [Act.put, List.setIfInBounds_toArray, List.set_cons_zero, List.set_cons_succ, i64_w, i32_w]
                                            rfl
                                           refine pure_ (i := 40) (N := some 111) (v := ?_) (a' := ?_) #[true, true, true, true, true, true, true, true, true, true, true, true, true, true, true, true, true, true, true, true, true, true, true, true, true, true, true, true, true, true, true, true, true, true, true, true, true, true, true, true, true, false, false, false, false, false] rfl rfl (any_of HT_.out (by kernel_rfl)) (fun _ _ _ h => h) (Or.inl ⟨by rfl, ?_⟩) ?_ ?_
                                           rotate_left
                                           ·intro w'
                                            go_simp
                                            with_reducible rfl
                                           rotate_left
                                           ·simp only [Act.put, List.setIfInBounds_toArray, List.set_cons_zero, List.set_cons_succ, i64_w, i32_w]
                                            rfl
                                           refine pure_ (i := 41) (N := some 112) (v := ?_) (a' := ?_) #[true, true, true, true, true, true, true, true, true, true, true, true, true, true, true, true, true, true, true, true, true, true, true, true, true, true, true, true, true, true, true, true, true, true, true, true, true, true, true, true, true, true, false, false, false, false] rfl rfl (any_of HT_.out (by kernel_rfl)) (fun _ _ _ h => h) (Or.inl ⟨by rfl, ?_⟩) ?_ ?_
                                           rotate_left
                                           ·intro w'
                                            go_simp
                                            with_reducible rfl
                                           rotate_left
                                           ·simp only [Act.put, List.setIfInBounds_toArray, List.set_cons_zero, List.set_cons_succ, i64_w, i32_w]
                                            rfl
                                           refine pure_ (i := 42) (N := some 113) (v := ?_) (a' := ?_) #[true, true, true, true, true, true, true, true, true, true, true, true, true, true, true, true, true, true, true, true, true, true, true, true, true, true, true, true, true, true, true, true, true, true, true, true, true, true, true, true, true, true, true, false, false, false] rfl rfl (any_of HT_.out (by kernel_rfl)) (fun _ _ _ h => h) (Or.inl ⟨by rfl, ?_⟩) ?_ ?_
                                           rotate_left
                                           ·intro w'
                                            go_simp
                                            with_reducible rfl
                                           rotate_left
                                           ·simp only [Act.put, List.setIfInBounds_toArray, List.set_cons_zero, List.set_cons_succ, i64_w, i32_w]
                                            rfl
                                           refine pure_ (i := 43) (N := some 114) (v := ?_) (a' := ?_) #[true, true, true, true, true, true, true, true, true, true, true, true, true, true, true, true, true, true, true, true, true, true, true, true, true, true, true, true, true, true, true, true, true, true, true, true, true, true, true, true, true, true, true, true, false, false] rfl rfl (any_of HT_.out (by kernel_rfl)) (fun _ _ _ h => h) (Or.inl ⟨by rfl, ?_⟩) ?_ ?_
                                           rotate_left
                                           ·intro w'
                                            go_simp
                                            with_reducible rfl
                                           rotate_left
                                           ·simp only [Act.put, List.setIfInBounds_toArray, List.set_cons_zero, List.set_cons_succ, i64_w, i32_w]
                                            rfl
                                           refine one_ (i := 44) (N := some 115) #[true, true, true, true, true, true, true, true, true, true, true, true, true, true, true, true, true, true, true, true, true, true, true, true, true, true, true, true, true, true, true, true, true, true, true, true, true, true, true, true, true, true, true, true, true, false] rfl rfl (one_of HT_.out (by kernel_rfl)) (by decide) (fun K hK => ?_)
                                           refine Kd.R_lit_step Kd.string _ 9 ?hg (N := 115) ?hd (xs := ([(⟨#[]⟩ : ByteArray), t181.extract 0 11, (⟨#[1]⟩ : ByteArray) ++ (t181.extract 1 t181.size), ((t181.extract 0 1) ++ (⟨#[6]⟩ : ByteArray)) ++ (t181.extract 2 t181.size), ((t181.extract 0 2) ++ (⟨#[255]⟩ : ByteArray)) ++ (t181.extract 3 t181.size), ((t181.extract 0 3) ++ (⟨#[11]⟩ : ByteArray)) ++ (t181.extract 4 t181.size), ((t181.extract 0 4) ++ (⟨#[1]⟩ : ByteArray)) ++ (t181.extract 5 t181.size), ((t181.extract 0 7) ++ (⟨#[5]⟩ : ByteArray)) ++ (t181.extract 8 t181.size), ((t181.extract 0 8) ++ (⟨#[1]⟩ : ByteArray)) ++ (t181.extract 9 t181.size), (t181.extract 0 11) ++ (⟨#[1]⟩ : ByteArray)] : List ByteArray)) (inner := [.string (⟨#[]⟩ : ByteArray), .string (t181.extract 0 11), .string ((⟨#[1]⟩ : ByteArray) ++ (t181.extract 1 t181.size)), .string (((t181.extract 0 1) ++ (⟨#[6]⟩ : ByteArray)) ++ (t181.extract 2 t181.size)), .string (((t181.extract 0 2) ++ (⟨#[255]⟩ : ByteArray)) ++ (t181.extract 3 t181.size)), .string (((t181.extract 0 3) ++ (⟨#[11]⟩ : ByteArray)) ++ (t181.extract 4 t181.size)), .string (((t181.extract 0 4) ++ (⟨#[1]⟩ : ByteArray)) ++ (t181.extract 5 t181.size)), .string (((t181.extract 0 7) ++ (⟨#[5]⟩ : ByteArray)) ++ (t181.extract 8 t181.size)), .string (((t181.extract 0 8) ++ (⟨#[1]⟩ : ByteArray)) ++ (t181.extract 9 t181.size)), .string ((t181.extract 0 11) ++ (⟨#[1]⟩ : ByteArray))]) (ok := fun _ => True) (okp := fun _ => True) ?hr ?hp (fun _ hk => hk) trivial (Below.refl _ _) (Nat.le_refl _) (by simp) ?_; (case hd => rfl); (case hg => rfl); (case hr => first | (go_simp; done) | (go_simp; rfl)); (case hp => exact (Reps.one (show Kd.M Kd.string _ _ _ (⟨#[]⟩ : ByteArray) [.string (⟨#[]⟩ : ByteArray)] from rfl) (Reps.one (show Kd.M Kd.string _ _ _ (t181.extract 0 11) [.string (t181.extract 0 11)] from rfl) (Reps.one (show Kd.M Kd.string _ _ _ ((⟨#[1]⟩ : ByteArray) ++ (t181.extract 1 t181.size)) [.string ((⟨#[1]⟩ : ByteArray) ++ (t181.extract 1 t181.size))] from rfl) (Reps.one (show Kd.M Kd.string _ _ _ (((t181.extract 0 1) ++ (⟨#[6]⟩ : ByteArray)) ++ (t181.extract 2 t181.size)) [.string (((t181.extract 0 1) ++ (⟨#[6]⟩ : ByteArray)) ++ (t181.extract 2 t181.size))] from rfl) (Reps.one (show Kd.M Kd.string _ _ _ (((t181.extract 0 2) ++ (⟨#[255]⟩ : ByteArray)) ++ (t181.extract 3 t181.size)) [.string (((t181.extract 0 2) ++ (⟨#[255]⟩ : ByteArray)) ++ (t181.extract 3 t181.size))] from rfl) (Reps.one (show Kd.M Kd.string _ _ _ (((t181.extract 0 3) ++ (⟨#[11]⟩ : ByteArray)) ++ (t181.extract 4 t181.size)) [.string (((t181.extract 0 3) ++ (⟨#[11]⟩ : ByteArray)) ++ (t181.extract 4 t181.size))] from rfl) (Reps.one (show Kd.M Kd.string _ _ _ (((t181.extract 0 4) ++ (⟨#[1]⟩ : ByteArray)) ++ (t181.extract 5 t181.size)) [.string (((t181.extract 0 4) ++ (⟨#[1]⟩ : ByteArray)) ++ (t181.extract 5 t181.size))] from rfl) (Reps.one (show Kd.M Kd.string _ _ _ (((t181.extract 0 7) ++ (⟨#[5]⟩ : ByteArray)) ++ (t181.extract 8 t181.size)) [.string (((t181.extract 0 7) ++ (⟨#[5]⟩ : ByteArray)) ++ (t181.extract 8 t181.size))] from rfl) (Reps.one (show Kd.M Kd.string _ _ _ (((t181.extract 0 8) ++ (⟨#[1]⟩ : ByteArray)) ++ (t181.extract 9 t181.size)) [.string (((t181.extract 0 8) ++ (⟨#[1]⟩ : ByteArray)) ++ (t181.extract 9 t181.size))] from rfl) (Reps.one (show Kd.M Kd.string _ _ _ ((t181.extract 0 11) ++ (⟨#[1]⟩ : ByteArray)) [.string ((t181.extract 0 11) ++ (⟨#[1]⟩ : ByteArray))] from rfl) (Reps.none _ _))))))))))))
                                           intro v185 w74 ho75 hb hg_ hnew_
                                           clear hg_ hnew_
                                           (first | rw [← Ny184.out] at ho75 | (simp only [Int.reduceToNat] at ho75; rw [← Ny184.out] at ho75))
                                           have n0_ := Aside0.mk (Kd.R_lower ho75 (below_size (by repeat (first | (with_reducible first | exact HB.out | apply below_alloc | apply pw_below_drewN | apply below_drew1) | exact HB.out))))
                                           have n1_ := Aside0.mk (below_step (by repeat (first | (with_reducible first | exact HB.out | apply below_alloc | apply pw_below_drewN | apply below_drew1) | exact HB.out)) hb)
                                           clear HB
                                           have HO186 := n0_
                                           have HB := n1_
                                           clear n0_ n1_
                                           clear hb ho75
                                           refine hK.out _ _ trivial (fun hHeld => ?_)
                                           clear hK K
                                           refine norm_ (a' := ?_) ?_ ?_
                                           rotate_left
                                           ·show Act.put _ (some 115) _ = _
                                            simp only [Act.put, List.setIfInBounds_toArray, List.set_cons_zero, List.set_cons_succ, i64_w, i32_w]
                                            rfl
                                           refine pure_ (i := 45) (N := some 14) (v := ?_) (a' := ?_) #[true, true, true, true, true, true, true, true, true, true, true, true, true, true, true, true, true, true, true, true, true, true, true, true, true, true, true, true, true, true, true, true, true, true, true, true, true, true, true, true, true, true, true, true, true, true] rfl rfl (any_of HT_.out (by kernel_rfl)) (fun _ _ _ h => h) (Or.inl ⟨by rfl, ?_⟩) ?_ ?_
                                           rotate_left
                                           ·intro w'
                                            go_simp
                                            with_reducible rfl
                                           rotate_left
                                           ·simp only [Act.put, List.setIfInBounds_toArray, List.set_cons_zero, List.set_cons_succ, i64_w, i32_w]
                                            rfl
                                           refine done_ (done_of HT_.out (by kernel_rfl)) ?_
                                           obtain ⟨Ao76, co76, eo76⟩ := Kd.R_slice HO186.out
                                           subst eo76
                                           have p187 : 0 ≤ (ji5 : Int) := of_decide_eq_true (by first | (with_reducible assumption) | assumption)
                                           have q187 : ji5 < (y184.length : Int) := of_decide_eq_true (by first | (with_reducible assumption) | assumption)
                                           obtain ⟨ad187, e187, hx187_0⟩ := Kd.at_string (Kd.R_reads' HO186.out).2.2 ji5 p187 q187
                                           cases e187
                                           replace p187 := eq_true p187
                                           replace q187 := eq_true q187
                                           try go_wp2_with (first | ((with_reducible refine gate_callee (f := 16) rfl ?_); refine goesL_ (some 121) rfl rfl Try.func16 (by kernel_rfl) rfl #[.string (rdOf ByteArray.empty y184 ji5)] rfl (by (try simp only [List.map_toArray, List.map_cons, List.map_nil]); first | done | (simp only [hji5]; rfl) | rfl | (simp only [List.length_drop, List.length_take]; rfl)) ?_; (with_reducible refine (head_Get.calls kj11 (rdOf ByteArray.empty y184 ji5) t188 t189 t190 t191 _ A68.out).mono ?_); rintro e w77 ⟨rfl, hb⟩; refine ⟨_, rfl, ?_⟩; have n0_ := Aside0.mk (Kd.R_below (by (with_reducible repeat (first | apply Kd.R_alloc | apply Kd.R_drewN | apply Kd.R_drew)); exact HO186.out) hb); have n1_ := Aside0.mk (below_step (by repeat (first | (with_reducible first | exact HB.out | apply below_alloc | apply pw_below_drewN | apply below_drew1) | exact HB.out)) hb); clear HO186; clear HB; have HO186 := n0_; have HB := n1_; clear n0_ n1_; (try clear hb); (try clear hb2); (try clear hk); (try clear hi)) | (go_at_call 18; (with_reducible refine (watchwordlaw0_Num.calls t180 t192 _ A70.out).mono ?_); rintro e w' ⟨rfl, ⟨nd, rfl⟩⟩) | (go_at_call 18; (with_reducible refine (watchwordlaw0_Num.calls t191 t193 _ A72.out).mono ?_); rintro e w' ⟨rfl, ⟨nd, rfl⟩⟩))
                                           go_ret
                                           exact ⟨by first | rfl | (simp [errW_none, errW_some] <;> rfl) | (simp only [← hji5]; first | rfl | (simp [errW_none, errW_some] <;> rfl)) | (simp [*, errW_none, errW_some] <;> rfl), by repeat (first | (with_reducible first | exact HB.out | apply below_alloc | apply pw_below_drewN | apply below_drew1) | exact HB.out)⟩
                                          ·rw [if_neg c71] at H
                                           have c71b0 : (t192 == 800) = false := beq_eq_false_iff_ne.mpr c71
                                           have c71b1 : (t192 != 800) = true := bne_iff_ne.mpr c71
                                           obtain rfl := Option.some.inj H
                                           try go_wp2
                                           have n0_ := Aside0.mk (below_drew1 HB.out)
                                           clear HB
                                           have HB := n0_
                                           clear n0_
                                           refine start_ (n := 46) (S := fun w' => True) (ds := []) #[false, false, false, false, false, false, false, false, false, false, false, false, false, false, false, false, false, false, false, false, false, false, false, false, false, false, false, false, false, false, false, false, false, false, false, false, false, false, false, false, false, false, false, false, false, false] (by kernel_rfl) rfl rfl trivial (fun hHeld => ?_); refine with_tabW watchwordlaw8_HeadForms.tab12 watchwordlaw8_HeadForms.bits12 (fun HT_ HW_ => ?_)
                                           generalize wc.drew = w78 at HB hHeld ⊢
                                           refine pure_ (i := 0) (N := some 71) (v := ?_) (a' := ?_) #[true, false, false, false, false, false, false, false, false, false, false, false, false, false, false, false, false, false, false, false, false, false, false, false, false, false, false, false, false, false, false, false, false, false, false, false, false, false, false, false, false, false, false, false, false, false] rfl rfl (any_of HT_.out (by kernel_rfl)) (fun _ _ _ h => h) (Or.inl ⟨by rfl, ?_⟩) ?_ ?_
                                           rotate_left
                                           ·intro w'
                                            go_simp
                                            with_reducible rfl
                                           rotate_left
                                           ·simp only [Act.put, List.setIfInBounds_toArray, List.set_cons_zero, List.set_cons_succ, i64_w, i32_w]
                                            rfl
                                           refine pure_ (i := 1) (N := some 72) (v := ?_) (a' := ?_) #[true, true, false, false, false, false, false, false, false, false, false, false, false, false, false, false, false, false, false, false, false, false, false, false, false, false, false, false, false, false, false, false, false, false, false, false, false, false, false, false, false, false, false, false, false, false] rfl rfl (any_of HT_.out (by kernel_rfl)) (fun _ _ _ h => h) (Or.inl ⟨by rfl, ?_⟩) ?_ ?_
                                           rotate_left
                                           ·intro w'
                                            go_simp
                                            with_reducible rfl
                                           rotate_left
                                           ·simp only [Act.put, List.setIfInBounds_toArray, List.set_cons_zero, List.set_cons_succ, i64_w, i32_w]
                                            rfl
                                           refine pure_ (i := 2) (N := some 73) (v := ?_) (a' := ?_) #[true, true, true, false, false, false, false, false, false, false, false, false, false, false, false, false, false, false, false, false, false, false, false, false, false, false, false, false, false, false, false, false, false, false, false, false, false, false, false, false, false, false, false, false, false, false] rfl rfl (any_of HT_.out (by kernel_rfl)) (fun _ _ _ h => h) (Or.inl ⟨by rfl, ?_⟩) ?_ ?_
                                           rotate_left
                                           ·intro w'
                                            go_simp
                                            with_reducible rfl
                                           rotate_left
                                           ·simp only [Act.put, List.setIfInBounds_toArray, List.set_cons_zero, List.set_cons_succ, i64_w, i32_w]
                                            rfl
                                           refine pure_ (i := 3) (N := some 74) (v := ?_) (a' := ?_) #[true, true, true, true, false, false, false, false, false, false, false, false, false, false, false, false, false, false, false, false, false, false, false, false, false, false, false, false, false, false, false, false, false, false, false, false, false, false, false, false, false, false, false, false, false, false] rfl rfl (any_of HT_.out (by kernel_rfl)) (fun _ _ _ h => h) (Or.inl ⟨by rfl, ?_⟩) ?_ ?_
                                           rotate_left
                                           ·intro w'
                                            go_simp
                                            with_reducible rfl
                                           rotate_left
                                           ·simp only [Act.put, List.setIfInBounds_toArray, List.set_cons_zero, List.set_cons_succ, i64_w, i32_w]
                                            rfl
                                           refine pure_ (i := 4) (N := some 75) (v := ?_) (a' := ?_) #[true, true, true, true, true, false, false, false, false, false, false, false, false, false, false, false, false, false, false, false, false, false, false, false, false, false, false, false, false, false, false, false, false, false, false, false, false, false, false, false, false, false, false, false, false, false] rfl rfl (any_of HT_.out (by kernel_rfl)) (fun _ _ _ h => h) (Or.inl ⟨by rfl, ?_⟩) ?_ ?_
                                           rotate_left
                                           ·intro w'
                                            go_simp
                                            with_reducible rfl
                                           rotate_left
                                           ·simp only [Act.put, List.setIfInBounds_toArray, List.set_cons_zero, List.set_cons_succ, i64_w, i32_w]
                                            rfl
                                           refine pure_ (i := 5) (N := some 76) (v := ?_) (a' := ?_) #[true, true, true, true, true, true, false, false, false, false, false, false, false, false, false, false, false, false, false, false, false, false, false, false, false, false, false, false, false, false, false, false, false, false, false, false, false, false, false, false, false, false, false, false, false, false] rfl rfl (any_of HT_.out (by kernel_rfl)) (fun _ _ _ h => h) (Or.inl ⟨by rfl, ?_⟩) ?_ ?_
                                           rotate_left
                                           ·intro w'
                                            go_simp
                                            with_reducible rfl
                                           rotate_left
                                           ·simp only [Act.put, List.setIfInBounds_toArray, List.set_cons_zero, List.set_cons_succ, i64_w, i32_w]
                                            rfl
                                           refine pure_ (i := 6) (N := some 77) (v := ?_) (a' := ?_) #[true, true, true, true, true, true, true, false, false, false, false, false, false, false, false, false, false, false, false, false, false, false, false, false, false, false, false, false, false, false, false, false, false, false, false, false, false, false, false, false, false, false, false, false, false, false] rfl rfl (any_of HT_.out (by kernel_rfl)) (fun _ _ _ h => h) (Or.inl ⟨by rfl, ?_⟩) ?_ ?_
                                           rotate_left
                                           ·intro w'
                                            go_simp
                                            with_reducible rfl
                                           rotate_left
                                           ·simp only [Act.put, List.setIfInBounds_toArray, List.set_cons_zero, List.set_cons_succ, i64_w, i32_w]
                                            rfl
                                           refine pure_ (i := 7) (N := some 78) (v := ?_) (a' := ?_) #[true, true, true, true, true, true, true, true, false, false, false, false, false, false, false, false, false, false, false, false, false, false, false, false, false, false, false, false, false, false, false, false, false, false, false, false, false, false, false, false, false, false, false, false, false, false] rfl rfl (any_of HT_.out (by kernel_rfl)) (fun _ _ _ h => h) (Or.inl ⟨by rfl, ?_⟩) ?_ ?_
                                           rotate_left
                                           ·intro w'
                                            go_simp
                                            with_reducible rfl
                                           rotate_left
                                           ·simp only [Act.put, List.setIfInBounds_toArray, List.set_cons_zero, List.set_cons_succ, i64_w, i32_w]
                                            rfl
                                           refine pure_ (i := 8) (N := some 79) (v := ?_) (a' := ?_) #[true, true, true, true, true, true, true, true, true, false, false, false, false, false, false, false, false, false, false, false, false, false, false, false, false, false, false, false, false, false, false, false, false, false, false, false, false, false, false, false, false, false, false, false, false, false] rfl rfl (any_of HT_.out (by kernel_rfl)) (fun _ _ _ h => h) (Or.inl ⟨by rfl, ?_⟩) ?_ ?_
                                           rotate_left
                                           ·intro w'
                                            go_simp
                                            with_reducible rfl
                                           rotate_left
                                           ·simp only [Act.put, List.setIfInBounds_toArray, List.set_cons_zero, List.set_cons_succ, i64_w, i32_w]
                                            rfl
                                           refine pure_ (i := 9) (N := some 80) (v := ?_) (a' := ?_) #[true, true, true, true, true, true, true, true, true, true, false, false, false, false, false, false, false, false, false, false, false, false, false, false, false, false, false, false, false, false, false, false, false, false, false, false, false, false, false, false, false, false, false, false, false, false] rfl rfl (any_of HT_.out (by kernel_rfl)) (fun _ _ _ h => h) (Or.inl ⟨by rfl, ?_⟩) ?_ ?_
                                           rotate_left
                                           ·intro w'
                                            go_simp
                                            with_reducible rfl
                                           rotate_left
                                           ·simp only [Act.put, List.setIfInBounds_toArray, List.set_cons_zero, List.set_cons_succ, i64_w, i32_w]
                                            rfl
                                           refine pure_ (i := 10) (N := some 81) (v := ?_) (a' := ?_) #[true, true, true, true, true, true, true, true, true, true, true, false, false, false, false, false, false, false, false, false, false, false, false, false, false, false, false, false, false, false, false, false, false, false, false, false, false, false, false, false, false, false, false, false, false, false] rfl rfl (any_of HT_.out (by kernel_rfl)) (fun _ _ _ h => h) (Or.inl ⟨by rfl, ?_⟩) ?_ ?_
                                           rotate_left
                                           ·intro w'
                                            go_simp
                                            with_reducible rfl
                                           rotate_left
                                           ·simp only [Act.put, List.setIfInBounds_toArray, List.set_cons_zero, List.set_cons_succ, i64_w, i32_w]
                                            rfl
                                           refine pure_ (i := 11) (N := some 82) (v := ?_) (a' := ?_) #[true, true, true, true, true, true, true, true, true, true, true, true, false, false, false, false, false, false, false, false, false, false, false, false, false, false, false, false, false, false, false, false, false, false, false, false, false, false, false, false, false, false, false, false, false, false] rfl rfl (any_of HT_.out (by kernel_rfl)) (fun _ _ _ h => h) (Or.inl ⟨by rfl, ?_⟩) ?_ ?_
                                           rotate_left
                                           ·intro w'
                                            go_simp
                                            with_reducible rfl
                                           rotate_left
                                           ·simp only [Act.put, List.setIfInBounds_toArray, List.set_cons_zero, List.set_cons_succ, i64_w, i32_w]
                                            rfl
                                           refine pure_ (i := 12) (N := some 83) (v := ?_) (a' := ?_) #[true, true, true, true, true, true, true, true, true, true, true, true, true, false, false, false, false, false, false, false, false, false, false, false, false, false, false, false, false, false, false, false, false, false, false, false, false, false, false, false, false, false, false, false, false, false] rfl rfl (any_of HT_.out (by kernel_rfl)) (fun _ _ _ h => h) (Or.inl ⟨by rfl, ?_⟩) ?_ ?_
                                           rotate_left
                                           ·intro w'
                                            go_simp
                                            with_reducible rfl
                                           rotate_left
                                           ·simp only [Act.put, List.setIfInBounds_toArray, List.set_cons_zero, List.set_cons_succ, i64_w, i32_w]
                                            rfl
                                           refine pure_ (i := 13) (N := some 84) (v := ?_) (a' := ?_) #[true, true, true, true, true, true, true, true, true, true, true, true, true, true, false, false, false, false, false, false, false, false, false, false, false, false, false, false, false, false, false, false, false, false, false, false, false, false, false, false, false, false, false, false, false, false] rfl rfl (any_of HT_.out (by kernel_rfl)) (fun _ _ _ h => h) (Or.inl ⟨by rfl, ?_⟩) ?_ ?_
                                           rotate_left
                                           ·intro w'
                                            go_simp
                                            with_reducible rfl
                                           rotate_left
                                           ·simp only [Act.put, List.setIfInBounds_toArray, List.set_cons_zero, List.set_cons_succ, i64_w, i32_w]
                                            rfl
                                           refine pure_ (i := 14) (N := some 85) (v := ?_) (a' := ?_) #[true, true, true, true, true, true, true, true, true, true, true, true, true, true, true, false, false, false, false, false, false, false, false, false, false, false, false, false, false, false, false, false, false, false, false, false, false, false, false, false, false, false, false, false, false, false] rfl rfl (any_of HT_.out (by kernel_rfl)) (fun _ _ _ h => h) (Or.inl ⟨by rfl, ?_⟩) ?_ ?_
                                           rotate_left
                                           ·intro w'
                                            go_simp
                                            with_reducible rfl
                                           rotate_left
                                           ·simp only [Act.put, List.setIfInBounds_toArray, List.set_cons_zero, List.set_cons_succ, i64_w, i32_w]
                                            rfl
                                           refine pure_ (i := 15) (N := some 86) (v := ?_) (a' := ?_) #[true, true, true, true, true, true, true, true, true, true, true, true, true, true, true, true, false, false, false, false, false, false, false, false, false, false, false, false, false, false, false, false, false, false, false, false, false, false, false, false, false, false, false, false, false, false] rfl rfl (any_of HT_.out (by kernel_rfl)) (fun _ _ _ h => h) (Or.inl ⟨by rfl, ?_⟩) ?_ ?_
                                           rotate_left
                                           ·intro w'
                                            go_simp
                                            with_reducible rfl
                                           rotate_left
                                           ·simp only [Act.put, List.setIfInBounds_toArray, List.set_cons_zero, List.set_cons_succ, i64_w, i32_w]
                                            rfl
                                           refine pure_ (i := 16) (N := some 87) (v := ?_) (a' := ?_) #[true, true, true, true, true, true, true, true, true, true, true, true, true, true, true, true, true, false, false, false, false, false, false, false, false, false, false, false, false, false, false, false, false, false, false, false, false, false, false, false, false, false, false, false, false, false] rfl rfl (any_of HT_.out (by kernel_rfl)) (fun _ _ _ h => h) (Or.inl ⟨by rfl, ?_⟩) ?_ ?_
                                           rotate_left
                                           ·intro w'
                                            go_simp
                                            with_reducible rfl
                                           rotate_left
                                           ·simp only [Act.put, List.setIfInBounds_toArray, List.set_cons_zero, List.set_cons_succ, i64_w, i32_w]
                                            rfl
                                           refine pure_ (i := 17) (N := some 88) (v := ?_) (a' := ?_) #[true, true, true, true, true, true, true, true, true, true, true, true, true, true, true, true, true, true, false, false, false, false, false, false, false, false, false, false, false, false, false, false, false, false, false, false, false, false, false, false, false, false, false, false, false, false] rfl rfl (any_of HT_.out (by kernel_rfl)) (fun _ _ _ h => h) (Or.inl ⟨by rfl, ?_⟩) ?_ ?_
                                           rotate_left
                                           ·intro w'
                                            go_simp
                                            with_reducible rfl
                                           rotate_left
                                           ·simp only [Act.put, List.setIfInBounds_toArray, List.set_cons_zero, List.set_cons_succ, i64_w, i32_w]
                                            rfl
                                           refine pure_ (i := 18) (N := some 89) (v := ?_) (a' := ?_) #[true, true, true, true, true, true, true, true, true, true, true, true, true, true, true, true, true, true, true, false, false, false, false, false, false, false, false, false, false, false, false, false, false, false, false, false, false, false, false, false, false, false, false, false, false, false] rfl rfl (any_of HT_.out (by kernel_rfl)) (fun _ _ _ h => h) (Or.inl ⟨by rfl, ?_⟩) ?_ ?_
                                           rotate_left
                                           ·intro w'
                                            go_simp
                                            with_reducible rfl
                                           rotate_left
                                           ·simp only [Act.put, List.setIfInBounds_toArray, List.set_cons_zero, List.set_cons_succ, i64_w, i32_w]
                                            rfl
                                           refine pure_ (i := 19) (N := some 90) (v := ?_) (a' := ?_) #[true, true, true, true, true, true, true, true, true, true, true, true, true, true, true, true, true, true, true, true, false, false, false, false, false, false, false, false, false, false, false, false, false, false, false, false, false, false, false, false, false, false, false, false, false, false] rfl rfl (any_of HT_.out (by kernel_rfl)) (fun _ _ _ h => h) (Or.inl ⟨by rfl, ?_⟩) ?_ ?_
                                           rotate_left
                                           ·intro w'
                                            go_simp
                                            with_reducible rfl
                                           rotate_left
                                           ·simp only [Act.put, List.setIfInBounds_toArray, List.set_cons_zero, List.set_cons_succ, i64_w, i32_w]
                                            rfl
                                           refine pure_ (i := 20) (N := some 91) (v := ?_) (a' := ?_) #[true, true, true, true, true, true, true, true, true, true, true, true, true, true, true, true, true, true, true, true, true, false, false, false, false, false, false, false, false, false, false, false, false, false, false, false, false, false, false, false, false, false, false, false, false, false] rfl rfl (any_of HT_.out (by kernel_rfl)) (fun _ _ _ h => h) (Or.inl ⟨by rfl, ?_⟩) ?_ ?_
                                           rotate_left
                                           ·intro w'
                                            go_simp
                                            with_reducible rfl
                                           rotate_left
                                           ·simp only [Act.put, List.setIfInBounds_toArray, List.set_cons_zero, List.set_cons_succ, i64_w, i32_w]
                                            rfl
                                           refine pure_ (i := 21) (N := some 92) (v := ?_) (a' := ?_) #[true, true, true, true, true, true, true, true, true, true, true, true, true, true, true, true, true, true, true, true, true, true, false, false, false, false, false, false, false, false, false, false, false, false, false, false, false, false, false, false, false, false, false, false, false, false] rfl rfl (any_of HT_.out (by kernel_rfl)) (fun _ _ _ h => h) (Or.inl ⟨by rfl, ?_⟩) ?_ ?_
                                           rotate_left
                                           ·intro w'
                                            go_simp
                                            with_reducible rfl
                                           rotate_left
                                           ·simp only [Act.put, List.setIfInBounds_toArray, List.set_cons_zero, List.set_cons_succ, i64_w, i32_w]
                                            rfl
                                           refine pure_ (i := 22) (N := some 93) (v := ?_) (a' := ?_) #[true, true, true, true, true, true, true, true, true, true, true, true, true, true, true, true, true, true, true, true, true, true, true, false, false, false, false, false, false, false, false, false, false, false, false, false, false, false, false, false, false, false, false, false, false, false] rfl rfl (any_of HT_.out (by kernel_rfl)) (fun _ _ _ h => h) (Or.inl ⟨by rfl, ?_⟩) ?_ ?_
                                           rotate_left
                                           ·intro w'
                                            go_simp
                                            with_reducible rfl
                                           rotate_left
                                           ·simp only [Act.put, List.setIfInBounds_toArray, List.set_cons_zero, List.set_cons_succ, i64_w, i32_w]
                                            rfl
                                           refine pure_ (i := 23) (N := some 94) (v := ?_) (a' := ?_) #[true, true, true, true, true, true, true, true, true, true, true, true, true, true, true, true, true, true, true, true, true, true, true, true, false, false, false, false, false, false, false, false, false, false, false, false, false, false, false, false, false, false, false, false, false, false] rfl rfl (any_of HT_.out (by kernel_rfl)) (fun _ _ _ h => h) (Or.inl ⟨by rfl, ?_⟩) ?_ ?_
                                           rotate_left
                                           ·intro w'
                                            go_simp
                                            with_reducible rfl
                                           rotate_left
                                           ·simp only [Act.put, List.setIfInBounds_toArray, List.set_cons_zero, List.set_cons_succ, i64_w, i32_w]
                                            rfl
                                           refine pure_ (i := 24) (N := some 95) (v := ?_) (a' := ?_) #[true, true, true, true, true, true, true, true, true, true, true, true, true, true, true, true, true, true, true, true, true, true, true, true, true, false, false, false, false, false, false, false, false, false, false, false, false, false, false, false, false, false, false, false, false, false] rfl rfl (any_of HT_.out (by kernel_rfl)) (fun _ _ _ h => h) (Or.inl ⟨by rfl, ?_⟩) ?_ ?_
                                           rotate_left
                                           ·intro w'
                                            go_simp
                                            with_reducible rfl
                                           rotate_left
                                           ·simp only [Act.put, List.setIfInBounds_toArray, List.set_cons_zero, List.set_cons_succ, i64_w, i32_w]
                                            rfl
                                           refine pure_ (i := 25) (N := some 96) (v := ?_) (a' := ?_) #[true, true, true, true, true, true, true, true, true, true, true, true, true, true, true, true, true, true, true, true, true, true, true, true, true, true, false, false, false, false, false, false, false, false, false, false, false, false, false, false, false, false, false, false, false, false] rfl rfl (any_of HT_.out (by kernel_rfl)) (fun _ _ _ h => h) (Or.inl ⟨by rfl, ?_⟩) ?_ ?_
                                           rotate_left
                                           ·intro w'
                                            go_simp
                                            with_reducible rfl
                                           rotate_left
                                           ·simp only [Act.put, List.setIfInBounds_toArray, List.set_cons_zero, List.set_cons_succ, i64_w, i32_w]
                                            rfl
                                           refine pure_ (i := 26) (N := some 97) (v := ?_) (a' := ?_) #[true, true, true, true, true, true, true, true, true, true, true, true, true, true, true, true, true, true, true, true, true, true, true, true, true, true, true, false, false, false, false, false, false, false, false, false, false, false, false, false, false, false, false, false, false, false] rfl rfl (any_of HT_.out (by kernel_rfl)) (fun _ _ _ h => h) (Or.inl ⟨by rfl, ?_⟩) ?_ ?_
                                           rotate_left
                                           ·intro w'
                                            go_simp
                                            with_reducible rfl
                                           rotate_left
                                           ·simp only [Act.put, List.setIfInBounds_toArray, List.set_cons_zero, List.set_cons_succ, i64_w, i32_w]
                                            rfl
                                           refine pure_ (i := 27) (N := some 98) (v := ?_) (a' := ?_) #[true, true, true, true, true, true, true, true, true, true, true, true, true, true, true, true, true, true, true, true, true, true, true, true, true, true, true, true, false, false, false, false, false, false, false, false, false, false, false, false, false, false, false, false, false, false] rfl rfl (any_of HT_.out (by kernel_rfl)) (fun _ _ _ h => h) (Or.inl ⟨by rfl, ?_⟩) ?_ ?_
                                           rotate_left
                                           ·intro w'
                                            go_simp
                                            with_reducible rfl
                                           rotate_left
                                           ·simp only [Act.put, List.setIfInBounds_toArray, List.set_cons_zero, List.set_cons_succ, i64_w, i32_w]
                                            rfl
                                           refine pure_ (i := 28) (N := some 99) (v := ?_) (a' := ?_) #[true, true, true, true, true, true, true, true, true, true, true, true, true, true, true, true, true, true, true, true, true, true, true, true, true, true, true, true, true, false, false, false, false, false, false, false, false, false, false, false, false, false, false, false, false, false] rfl rfl (any_of HT_.out (by kernel_rfl)) (fun _ _ _ h => h) (Or.inl ⟨by rfl, ?_⟩) ?_ ?_
                                           rotate_left
                                           ·intro w'
                                            go_simp
                                            with_reducible rfl
                                           rotate_left
                                           ·simp only [Act.put, List.setIfInBounds_toArray, List.set_cons_zero, List.set_cons_succ, i64_w, i32_w]
                                            rfl
                                           refine pure_ (i := 29) (N := some 100) (v := ?_) (a' := ?_) #[true, true, true, true, true, true, true, true, true, true, true, true, true, true, true, true, true, true, true, true, true, true, true, true, true, true, true, true, true, true, false, false, false, false, false, false, false, false, false, false, false, false, false, false, false, false] rfl rfl (any_of HT_.out (by kernel_rfl)) (fun _ _ _ h => h) (Or.inl ⟨by rfl, ?_⟩) ?_ ?_
                                           rotate_left
                                           ·intro w'
                                            go_simp
                                            with_reducible rfl
                                           rotate_left
                                           ·simp only [Act.put, List.setIfInBounds_toArray, List.set_cons_zero, List.set_cons_succ, i64_w, i32_w]
                                            rfl
                                           refine pure_ (i := 30) (N := some 101) (v := ?_) (a' := ?_) #[true, true, true, true, true, true, true, true, true, true, true, true, true, true, true, true, true, true, true, true, true, true, true, true, true, true, true, true, true, true, true, false, false, false, false, false, false, false, false, false, false, false, false, false, false, false] rfl rfl (any_of HT_.out (by kernel_rfl)) (fun _ _ _ h => h) (Or.inl ⟨by rfl, ?_⟩) ?_ ?_
                                           rotate_left
                                           ·intro w'
                                            go_simp
                                            with_reducible rfl
                                           rotate_left
                                           ·simp only [Act.put, List.setIfInBounds_toArray, List.set_cons_zero, List.set_cons_succ, i64_w, i32_w]
                                            rfl
                                           refine pure_ (i := 31) (N := some 102) (v := ?_) (a' := ?_) #[true, true, true, true, true, true, true, true, true, true, true, true, true, true, true, true, true, true, true, true, true, true, true, true, true, true, true, true, true, true, true, true, false, false, false, false, false, false, false, false, false, false, false, false, false, false] rfl rfl (any_of HT_.out (by kernel_rfl)) (fun _ _ _ h => h) (Or.inl ⟨by rfl, ?_⟩) ?_ ?_
                                           rotate_left
                                           ·intro w'
                                            go_simp
                                            with_reducible rfl
                                           rotate_left
                                           ·simp only [Act.put, List.setIfInBounds_toArray, List.set_cons_zero, List.set_cons_succ, i64_w, i32_w]
                                            rfl
                                           refine pure_ (i := 32) (N := some 103) (v := ?_) (a' := ?_) #[true, true, true, true, true, true, true, true, true, true, true, true, true, true, true, true, true, true, true, true, true, true, true, true, true, true, true, true, true, true, true, true, true, false, false, false, false, false, false, false, false, false, false, false, false, false] rfl rfl (any_of HT_.out (by kernel_rfl)) (fun _ _ _ h => h) (Or.inl ⟨by rfl, ?_⟩) ?_ ?_
                                           rotate_left
                                           ·intro w'
                                            go_simp
                                            with_reducible rfl
                                           rotate_left
                                           ·simp only [Act.put, List.setIfInBounds_toArray, List.set_cons_zero, List.set_cons_succ, i64_w, i32_w]
                                            rfl
                                           refine pure_ (i := 33) (N := some 104) (v := ?_) (a' := ?_) #[true, true, true, true, true, true, true, true, true, true, true, true, true, true, true, true, true, true, true, true, true, true, true, true, true, true, true, true, true, true, true, true, true, true, false, false, false, false, false, false, false, false, false, false, false, false] rfl rfl (any_of HT_.out (by kernel_rfl)) (fun _ _ _ h => h) (Or.inl ⟨by rfl, ?_⟩) ?_ ?_
                                           rotate_left
                                           ·intro w'
                                            go_simp
                                            with_reducible rfl
                                           rotate_left
                                           ·simp only [Act.put, List.setIfInBounds_toArray, List.set_cons_zero, List.set_cons_succ, i64_w, i32_w]
                                            rfl
                                           refine pure_ (i := 34) (N := some 105) (v := ?_) (a' := ?_) #[true, true, true, true, true, true, true, true, true, true, true, true, true, true, true, true, true, true, true, true, true, true, true, true, true, true, true, true, true, true, true, true, true, true, true, false, false, false, false, false, false, false, false, false, false, false] rfl rfl (any_of HT_.out (by kernel_rfl)) (fun _ _ _ h => h) (Or.inl ⟨by rfl, ?_⟩) ?_ ?_
                                           rotate_left
                                           ·intro w'
                                            go_simp
                                            with_reducible rfl
                                           rotate_left
                                           ·simp only [Act.put, List.setIfInBounds_toArray, List.set_cons_zero, List.set_cons_succ, i64_w, i32_w]
                                            rfl
                                           refine pure_ (i := 35) (N := some 106) (v := ?_) (a' := ?_) #[true, true, true, true, true, true, true, true, true, true, true, true, true, true, true, true, true, true, true, true, true, true, true, true, true, true, true, true, true, true, true, true, true, true, true, true, false, false, false, false, false, false, false, false, false, false] rfl rfl (any_of HT_.out (by kernel_rfl)) (fun _ _ _ h => h) (Or.inl ⟨by rfl, ?_⟩) ?_ ?_
                                           rotate_left
                                           ·intro w'
                                            go_simp
                                            with_reducible rfl
                                           rotate_left
                                           ·simp only [Act.put, List.setIfInBounds_toArray, List.set_cons_zero, List.set_cons_succ, i64_w, i32_w]
                                            rfl
                                           refine pure_ (i := 36) (N := some 107) (v := ?_) (a' := ?_) #[true, true, true, true, true, true, true, true, true, true, true, true, true, true, true, true, true, true, true, true, true, true, true, true, true, true, true, true, true, true, true, true, true, true, true, true, true, false, false, false, false, false, false, false, false, false] rfl rfl (any_of HT_.out (by kernel_rfl)) (fun _ _ _ h => h) (Or.inl ⟨by rfl, ?_⟩) ?_ ?_
                                           rotate_left
                                           ·intro w'
                                            go_simp
                                            with_reducible rfl
                                           rotate_left
                                           ·simp only [Act.put, List.setIfInBounds_toArray, List.set_cons_zero, List.set_cons_succ, i64_w, i32_w]
                                            rfl
                                           refine pure_ (i := 37) (N := some 108) (v := ?_) (a' := ?_) #[true, true, true, true, true, true, true, true, true, true, true, true, true, true, true, true, true, true, true, true, true, true, true, true, true, true, true, true, true, true, true, true, true, true, true, true, true, true, false, false, false, false, false, false, false, false] rfl rfl (any_of HT_.out (by kernel_rfl)) (fun _ _ _ h => h) (Or.inl ⟨by rfl, ?_⟩) ?_ ?_
                                           rotate_left
                                           ·intro w'
                                            go_simp
                                            with_reducible rfl
                                           rotate_left
                                           ·simp only [Act.put, List.setIfInBounds_toArray, List.set_cons_zero, List.set_cons_succ, i64_w, i32_w]
                                            rfl
                                           refine pure_ (i := 38) (N := some 109) (v := ?_) (a' := ?_) #[true, true, true, true, true, true, true, true, true, true, true, true, true, true, true, true, true, true, true, true, true, true, true, true, true, true, true, true, true, true, true, true, true, true, true, true, true, true, true, false, false, false, false, false, false, false] rfl rfl (any_of HT_.out (by kernel_rfl)) (fun _ _ _ h => h) (Or.inl ⟨by rfl, ?_⟩) ?_ ?_
                                           rotate_left
                                           ·intro w'
                                            go_simp
                                            with_reducible rfl
                                           rotate_left
                                           ·simp only [Act.put, List.setIfInBounds_toArray, List.set_cons_zero, List.set_cons_succ, i64_w, i32_w]
                                            rfl
                                           refine pure_ (i := 39) (N := some 110) (v := ?_) (a' := ?_) #[true, true, true, true, true, true, true, true, true, true, true, true, true, true, true, true, true, true, true, true, true, true, true, true, true, true, true, true, true, true, true, true, true, true, true, true, true, true, true, true, false, false, false, false, false, false] rfl rfl (any_of HT_.out (by kernel_rfl)) (fun _ _ _ h => h) (Or.inl ⟨by rfl, ?_⟩) ?_ ?_
                                           rotate_left
                                           ·intro w'
                                            go_simp
                                            with_reducible rfl
                                           rotate_left
                                           ·simp only [Act.put, List.setIfInBounds_toArray, List.set_cons_zero, List.set_cons_succ, i64_w, i32_w]
                                            rfl
                                           refine pure_ (i := 40) (N := some 111) (v := ?_) (a' := ?_) #[true, true, true, true, true, true, true, true, true, true, true, true, true, true, true, true, true, true, true, true, true, true, true, true, true, true, true, true, true, true, true, true, true, true, true, true, true, true, true, true, true, false, false, false, false, false] rfl rfl (any_of HT_.out (by kernel_rfl)) (fun _ _ _ h => h) (Or.inl ⟨by rfl, ?_⟩) ?_ ?_
                                           rotate_left
                                           ·intro w'
                                            go_simp
                                            with_reducible rfl
                                           rotate_left
                                           ·simp only [Act.put, List.setIfInBounds_toArray, List.set_cons_zero, List.set_cons_succ, i64_w, i32_w]
                                            rfl
                                           refine pure_ (i := 41) (N := some 112) (v := ?_) (a' := ?_) #[true, true, true, true, true, true, true, true, true, true, true, true, true, true, true, true, true, true, true, true, true, true, true, true, true, true, true, true, true, true, true, true, true, true, true, true, true, true, true, true, true, true, false, false, false, false] rfl rfl (any_of HT_.out (by kernel_rfl)) (fun _ _ _ h => h) (Or.inl ⟨by rfl, ?_⟩) ?_ ?_
                                           rotate_left
                                           ·intro w'
                                            go_simp
                                            with_reducible rfl
                                           rotate_left
                                           ·simp only [Act.put, List.setIfInBounds_toArray, List.set_cons_zero, List.set_cons_succ, i64_w, i32_w]
                                            rfl
                                           refine pure_ (i := 42) (N := some 113) (v := ?_) (a' := ?_) #[true, true, true, true, true, true, true, true, true, true, true, true, true, true, true, true, true, true, true, true, true, true, true, true, true, true, true, true, true, true, true, true, true, true, true, true, true, true, true, true, true, true, true, false, false, false] rfl rfl (any_of HT_.out (by kernel_rfl)) (fun _ _ _ h => h) (Or.inl ⟨by rfl, ?_⟩) ?_ ?_
                                           rotate_left
                                           ·intro w'
                                            go_simp
                                            with_reducible rfl
                                           rotate_left
                                           ·simp only [Act.put, List.setIfInBounds_toArray, List.set_cons_zero, List.set_cons_succ, i64_w, i32_w]
                                            rfl
                                           refine pure_ (i := 43) (N := some 114) (v := ?_) (a' := ?_) #[true, true, true, true, true, true, true, true, true, true, true, true, true, true, true, true, true, true, true, true, true, true, true, true, true, true, true, true, true, true, true, true, true, true, true, true, true, true, true, true, true, true, true, true, false, false] rfl rfl (any_of HT_.out (by kernel_rfl)) (fun _ _ _ h => h) (Or.inl ⟨by rfl, ?_⟩) ?_ ?_
                                           rotate_left
                                           ·intro w'
                                            go_simp
                                            with_reducible rfl
                                           rotate_left
                                           ·simp only [Act.put, List.setIfInBounds_toArray, List.set_cons_zero, List.set_cons_succ, i64_w, i32_w]
                                            rfl
                                           refine one_ (i := 44) (N := some 115) #[true, true, true, true, true, true, true, true, true, true, true, true, true, true, true, true, true, true, true, true, true, true, true, true, true, true, true, true, true, true, true, true, true, true, true, true, true, true, true, true, true, true, true, true, true, false] rfl rfl (one_of HT_.out (by kernel_rfl)) (by decide) (fun K hK => ?_)
                                           refine Kd.R_lit_step Kd.string _ 9 ?hg (N := 115) ?hd (xs := ([(⟨#[]⟩ : ByteArray), t181.extract 0 11, (⟨#[1]⟩ : ByteArray) ++ (t181.extract 1 t181.size), ((t181.extract 0 1) ++ (⟨#[6]⟩ : ByteArray)) ++ (t181.extract 2 t181.size), ((t181.extract 0 2) ++ (⟨#[255]⟩ : ByteArray)) ++ (t181.extract 3 t181.size), ((t181.extract 0 3) ++ (⟨#[11]⟩ : ByteArray)) ++ (t181.extract 4 t181.size), ((t181.extract 0 4) ++ (⟨#[1]⟩ : ByteArray)) ++ (t181.extract 5 t181.size), ((t181.extract 0 7) ++ (⟨#[5]⟩ : ByteArray)) ++ (t181.extract 8 t181.size), ((t181.extract 0 8) ++ (⟨#[1]⟩ : ByteArray)) ++ (t181.extract 9 t181.size), (t181.extract 0 11) ++ (⟨#[1]⟩ : ByteArray)] : List ByteArray)) (inner := [.string (⟨#[]⟩ : ByteArray), .string (t181.extract 0 11), .string ((⟨#[1]⟩ : ByteArray) ++ (t181.extract 1 t181.size)), .string (((t181.extract 0 1) ++ (⟨#[6]⟩ : ByteArray)) ++ (t181.extract 2 t181.size)), .string (((t181.extract 0 2) ++ (⟨#[255]⟩ : ByteArray)) ++ (t181.extract 3 t181.size)), .string (((t181.extract 0 3) ++ (⟨#[11]⟩ : ByteArray)) ++ (t181.extract 4 t181.size)), .string (((t181.extract 0 4) ++ (⟨#[1]⟩ : ByteArray)) ++ (t181.extract 5 t181.size)), .string (((t181.extract 0 7) ++ (⟨#[5]⟩ : ByteArray)) ++ (t181.extract 8 t181.size)), .string (((t181.extract 0 8) ++ (⟨#[1]⟩ : ByteArray)) ++ (t181.extract 9 t181.size)), .string ((t181.extract 0 11) ++ (⟨#[1]⟩ : ByteArray))]) (ok := fun _ => True) (okp := fun _ => True) ?hr ?hp (fun _ hk => hk) trivial (Below.refl _ _) (Nat.le_refl _) (by simp) ?_; (case hd => rfl); (case hg => rfl); (case hr => first | (go_simp; done) | (go_simp; rfl)); (case hp => exact (Reps.one (show Kd.M Kd.string _ _ _ (⟨#[]⟩ : ByteArray) [.string (⟨#[]⟩ : ByteArray)] from rfl) (Reps.one (show Kd.M Kd.string _ _ _ (t181.extract 0 11) [.string (t181.extract 0 11)] from rfl) (Reps.one (show Kd.M Kd.string _ _ _ ((⟨#[1]⟩ : ByteArray) ++ (t181.extract 1 t181.size)) [.string ((⟨#[1]⟩ : ByteArray) ++ (t181.extract 1 t181.size))] from rfl) (Reps.one (show Kd.M Kd.string _ _ _ (((t181.extract 0 1) ++ (⟨#[6]⟩ : ByteArray)) ++ (t181.extract 2 t181.size)) [.string (((t181.extract 0 1) ++ (⟨#[6]⟩ : ByteArray)) ++ (t181.extract 2 t181.size))] from rfl) (Reps.one (show Kd.M Kd.string _ _ _ (((t181.extract 0 2) ++ (⟨#[255]⟩ : ByteArray)) ++ (t181.extract 3 t181.size)) [.string (((t181.extract 0 2) ++ (⟨#[255]⟩ : ByteArray)) ++ (t181.extract 3 t181.size))] from rfl) (Reps.one (show Kd.M Kd.string _ _ _ (((t181.extract 0 3) ++ (⟨#[11]⟩ : ByteArray)) ++ (t181.extract 4 t181.size)) [.string (((t181.extract 0 3) ++ (⟨#[11]⟩ : ByteArray)) ++ (t181.extract 4 t181.size))] from rfl) (Reps.one (show Kd.M Kd.string _ _ _ (((t181.extract 0 4) ++ (⟨#[1]⟩ : ByteArray)) ++ (t181.extract 5 t181.size)) [.string (((t181.extract 0 4) ++ (⟨#[1]⟩ : ByteArray)) ++ (t181.extract 5 t181.size))] from rfl) (Reps.one (show Kd.M Kd.string _ _ _ (((t181.extract 0 7) ++ (⟨#[5]⟩ : ByteArray)) ++ (t181.extract 8 t181.size)) [.string (((t181.extract 0 7) ++ (⟨#[5]⟩ : ByteArray)) ++ (t181.extract 8 t181.size))] from rfl) (Reps.one (show Kd.M Kd.string _ _ _ (((t181.extract 0 8) ++ (⟨#[1]⟩ : ByteArray)) ++ (t181.extract 9 t181.size)) [.string (((t181.extract 0 8) ++ (⟨#[1]⟩ : ByteArray)) ++ (t181.extract 9 t181.size))] from rfl) (Reps.one (show Kd.M Kd.string _ _ _ ((t181.extract 0 11) ++ (⟨#[1]⟩ : ByteArray)) [.string ((t181.extract 0 11) ++ (⟨#[1]⟩ : ByteArray))] from rfl) (Reps.none _ _))))))))))))
                                           intro v185 w79 ho80 hb hg_ hnew_
                                           clear hg_ hnew_
                                           (first | rw [← Ny184.out] at ho80 | (simp only [Int.reduceToNat] at ho80; rw [← Ny184.out] at ho80))
                                           have n0_ := Aside0.mk (Kd.R_lower ho80 (below_size (by repeat (first | (with_reducible first | exact HB.out | apply below_alloc | apply pw_below_drewN | apply below_drew1) | exact HB.out))))
                                           have n1_ := Aside0.mk (below_step (by repeat (first | (with_reducible first | exact HB.out | apply below_alloc | apply pw_below_drewN | apply below_drew1) | exact HB.out)) hb)
                                           clear HB
                                           have HO186 := n0_
                                           have HB := n1_
                                           clear n0_ n1_
                                           clear hb ho80
                                           refine hK.out _ _ trivial (fun hHeld => ?_)
                                           clear hK K
                                           refine norm_ (a' := ?_) ?_ ?_
                                           rotate_left
                                           ·show Act.put _ (some 115) _ = _
                                            simp only [Act.put, List.setIfInBounds_toArray, List.set_cons_zero, List.set_cons_succ, i64_w, i32_w]
                                            rfl
                                           refine pure_ (i := 45) (N := some 14) (v := ?_) (a' := ?_) #[true, true, true, true, true, true, true, true, true, true, true, true, true, true, true, true, true, true, true, true, true, true, true, true, true, true, true, true, true, true, true, true, true, true, true, true, true, true, true, true, true, true, true, true, true, true] rfl rfl (any_of HT_.out (by kernel_rfl)) (fun _ _ _ h => h) (Or.inl ⟨by rfl, ?_⟩) ?_ ?_
                                           rotate_left
                                           ·intro w'
                                            go_simp
                                            with_reducible rfl
                                           rotate_left
                                           ·simp only [Act.put, List.setIfInBounds_toArray, List.set_cons_zero, List.set_cons_succ, i64_w, i32_w]
                                            rfl
                                           refine done_ (done_of HT_.out (by kernel_rfl)) ?_
                                           obtain ⟨Ao81, co81, eo81⟩ := Kd.R_slice HO186.out
                                           subst eo81
                                           have p187 : 0 ≤ (ji5 : Int) := of_decide_eq_true (by first | (with_reducible assumption) | assumption)
                                           have q187 : ji5 < (y184.length : Int) := of_decide_eq_true (by first | (with_reducible assumption) | assumption)
                                           obtain ⟨ad187, e187, hx187_0⟩ := Kd.at_string (Kd.R_reads' HO186.out).2.2 ji5 p187 q187
                                           cases e187
                                           replace p187 := eq_true p187
                                           replace q187 := eq_true q187
                                           try go_wp2_with (first | ((with_reducible refine gate_callee (f := 16) rfl ?_); refine goesL_ (some 121) rfl rfl Try.func16 (by kernel_rfl) rfl #[.string (rdOf ByteArray.empty y184 ji5)] rfl (by (try simp only [List.map_toArray, List.map_cons, List.map_nil]); first | done | (simp only [hji5]; rfl) | rfl | (simp only [List.length_drop, List.length_take]; rfl)) ?_; (with_reducible refine (head_Get.calls kj11 (rdOf ByteArray.empty y184 ji5) t188 t189 t190 t191 _ A68.out).mono ?_); rintro e w82 ⟨rfl, hb⟩; refine ⟨_, rfl, ?_⟩; have n0_ := Aside0.mk (Kd.R_below (by (with_reducible repeat (first | apply Kd.R_alloc | apply Kd.R_drewN | apply Kd.R_drew)); exact HO186.out) hb); have n1_ := Aside0.mk (below_step (by repeat (first | (with_reducible first | exact HB.out | apply below_alloc | apply pw_below_drewN | apply below_drew1) | exact HB.out)) hb); clear HO186; clear HB; have HO186 := n0_; have HB := n1_; clear n0_ n1_; (try clear hb); (try clear hb2); (try clear hk); (try clear hi)) | (go_at_call 18; (with_reducible refine (watchwordlaw0_Num.calls t180 t192 _ A70.out).mono ?_); rintro e w' ⟨rfl, ⟨nd, rfl⟩⟩))
                                           go_ret
                                           exact ⟨by first | rfl | (simp [errW_none, errW_some] <;> rfl) | (simp only [← hji5]; first | rfl | (simp [errW_none, errW_some] <;> rfl)) | (simp [*, errW_none, errW_some] <;> rfl), by repeat (first | (with_reducible first | exact HB.out | apply below_alloc | apply pw_below_drewN | apply below_drew1) | exact HB.out)⟩
                                         ·rw [if_neg c69] at H
                                          have c69b0 : (t179.toList == ([] : List UInt8)) = false := beq_eq_false_iff_ne.mpr c69
                                          have c69b1 : (t179.toList != ([] : List UInt8)) = true := bne_iff_ne.mpr c69
                                          obtain rfl := Option.some.inj H
                                          try go_wp2
                                          have n0_ := Aside0.mk (below_drew1 HB.out)
                                          clear HB
                                          have HB := n0_
                                          clear n0_
                                          refine start_ (n := 46) (S := fun w' => True) (ds := []) #[false, false, false, false, false, false, false, false, false, false, false, false, false, false, false, false, false, false, false, false, false, false, false, false, false, false, false, false, false, false, false, false, false, false, false, false, false, false, false, false, false, false, false, false, false, false] (by kernel_rfl) rfl rfl trivial (fun hHeld => ?_); refine with_tabW watchwordlaw8_HeadForms.tab12 watchwordlaw8_HeadForms.bits12 (fun HT_ HW_ => ?_)
                                          generalize wc.drew = w83 at HB hHeld ⊢
                                          refine pure_ (i := 0) (N := some 71) (v := ?_) (a' := ?_) #[true, false, false, false, false, false, false, false, false, false, false, false, false, false, false, false, false, false, false, false, false, false, false, false, false, false, false, false, false, false, false, false, false, false, false, false, false, false, false, false, false, false, false, false, false, false] rfl rfl (any_of HT_.out (by kernel_rfl)) (fun _ _ _ h => h) (Or.inl ⟨by rfl, ?_⟩) ?_ ?_
                                          rotate_left
                                          ·intro w'
                                           go_simp
                                           with_reducible rfl
                                          rotate_left
                                          ·simp only [Act.put, List.setIfInBounds_toArray, List.set_cons_zero, List.set_cons_succ, i64_w, i32_w]
                                           rfl
                                          refine pure_ (i := 1) (N := some 72) (v := ?_) (a' := ?_) #[true, true, false, false, false, false, false, false, false, false, false, false, false, false, false, false, false, false, false, false, false, false, false, false, false, false, false, false, false, false, false, false, false, false, false, false, false, false, false, false, false, false, false, false, false, false] rfl rfl (any_of HT_.out (by kernel_rfl)) (fun _ _ _ h => h) (Or.inl ⟨by rfl, ?_⟩) ?_ ?_
                                          rotate_left
                                          ·intro w'
                                           go_simp
                                           with_reducible rfl
                                          rotate_left
                                          ·simp only [Act.put, List.setIfInBounds_toArray, List.set_cons_zero, List.set_cons_succ, i64_w, i32_w]
                                           rfl
                                          refine pure_ (i := 2) (N := some 73) (v := ?_) (a' := ?_) #[true, true, true, false, false, false, false, false, false, false, false, false, false, false, false, false, false, false, false, false, false, false, false, false, false, false, false, false, false, false, false, false, false, false, false, false, false, false, false, false, false, false, false, false, false, false] rfl rfl (any_of HT_.out (by kernel_rfl)) (fun _ _ _ h => h) (Or.inl ⟨by rfl, ?_⟩) ?_ ?_
                                          rotate_left
                                          ·intro w'
                                           go_simp
                                           with_reducible rfl
                                          rotate_left
                                          ·simp only [Act.put, List.setIfInBounds_toArray, List.set_cons_zero, List.set_cons_succ, i64_w, i32_w]
                                           rfl
                                          refine pure_ (i := 3) (N := some 74) (v := ?_) (a' := ?_) #[true, true, true, true, false, false, false, false, false, false, false, false, false, false, false, false, false, false, false, false, false, false, false, false, false, false, false, false, false, false, false, false, false, false, false, false, false, false, false, false, false, false, false, false, false, false] rfl rfl (any_of HT_.out (by kernel_rfl)) (fun _ _ _ h => h) (Or.inl ⟨by rfl, ?_⟩) ?_ ?_
                                          rotate_left
                                          ·intro w'
                                           go_simp
                                           with_reducible rfl
                                          rotate_left
                                          ·simp only [Act.put, List.setIfInBounds_toArray, List.set_cons_zero, List.set_cons_succ, i64_w, i32_w]
                                           rfl
                                          refine pure_ (i := 4) (N := some 75) (v := ?_) (a' := ?_) #[true, true, true, true, true, false, false, false, false, false, false, false, false, false, false, false, false, false, false, false, false, false, false, false, false, false, false, false, false, false, false, false, false, false, false, false, false, false, false, false, false, false, false, false, false, false] rfl rfl (any_of HT_.out (by kernel_rfl)) (fun _ _ _ h => h) (Or.inl ⟨by rfl, ?_⟩) ?_ ?_
                                          rotate_left
                                          ·intro w'
                                           go_simp
                                           with_reducible rfl
                                          rotate_left
                                          ·simp only [Act.put, List.setIfInBounds_toArray, List.set_cons_zero, List.set_cons_succ, i64_w, i32_w]
                                           rfl
                                          refine pure_ (i := 5) (N := some 76) (v := ?_) (a' := ?_) #[true, true, true, true, true, true, false, false, false, false, false, false, false, false, false, false, false, false, false, false, false, false, false, false, false, false, false, false, false, false, false, false, false, false, false, false, false, false, false, false, false, false, false, false, false, false] rfl rfl (any_of HT_.out (by kernel_rfl)) (fun _ _ _ h => h) (Or.inl ⟨by rfl, ?_⟩) ?_ ?_
                                          rotate_left
                                          ·intro w'
                                           go_simp
                                           with_reducible rfl
                                          rotate_left
                                          ·simp only [Act.put, List.setIfInBounds_toArray, List.set_cons_zero, List.set_cons_succ, i64_w, i32_w]
                                           rfl
                                          refine pure_ (i := 6) (N := some 77) (v := ?_) (a' := ?_) #[true, true, true, true, true, true, true, false, false, false, false, false, false, false, false, false, false, false, false, false, false, false, false, false, false, false, false, false, false, false, false, false, false, false, false, false, false, false, false, false, false, false, false, false, false, false] rfl rfl (any_of HT_.out (by kernel_rfl)) (fun _ _ _ h => h) (Or.inl ⟨by rfl, ?_⟩) ?_ ?_
                                          rotate_left
                                          ·intro w'
                                           go_simp
                                           with_reducible rfl
                                          rotate_left
                                          ·simp only [Act.put, List.setIfInBounds_toArray, List.set_cons_zero, List.set_cons_succ, i64_w, i32_w]
                                           rfl
                                          refine pure_ (i := 7) (N := some 78) (v := ?_) (a' := ?_) #[true, true, true, true, true, true, true, true, false, false, false, false, false, false, false, false, false, false, false, false, false, false, false, false, false, false, false, false, false, false, false, false, false, false, false, false, false, false, false, false, false, false, false, false, false, false] rfl rfl (any_of HT_.out (by kernel_rfl)) (fun _ _ _ h => h) (Or.inl ⟨by rfl, ?_⟩) ?_ ?_
                                          rotate_left
                                          ·intro w'
                                           go_simp
                                           with_reducible rfl
                                          rotate_left
                                          ·simp only [Act.put, List.setIfInBounds_toArray, List.set_cons_zero, List.set_cons_succ, i64_w, i32_w]
                                           rfl
                                          refine pure_ (i := 8) (N := some 79) (v := ?_) (a' := ?_) #[true, true, true, true, true, true, true, true, true, false, false, false, false, false, false, false, false, false, false, false, false, false, false, false, false, false, false, false, false, false, false, false, false, false, false, false, false, false, false, false, false, false, false, false, false, false] rfl rfl (any_of HT_.out (by kernel_rfl)) (fun _ _ _ h => h) (Or.inl ⟨by rfl, ?_⟩) ?_ ?_
                                          rotate_left
                                          ·intro w'
                                           go_simp
                                           with_reducible rfl
                                          rotate_left
                                          ·simp only [Act.put, List.setIfInBounds_toArray, List.set_cons_zero, List.set_cons_succ, i64_w, i32_w]
                                           rfl
                                          refine pure_ (i := 9) (N := some 80) (v := ?_) (a' := ?_) #[true, true, true, true, true, true, true, true, true, true, false, false, false, false, false, false, false, false, false, false, false, false, false, false, false, false, false, false, false, false, false, false, false, false, false, false, false, false, false, false, false, false, false, false, false, false] rfl rfl (any_of HT_.out (by kernel_rfl)) (fun _ _ _ h => h) (Or.inl ⟨by rfl, ?_⟩) ?_ ?_
                                          rotate_left
                                          ·intro w'
                                           go_simp
                                           with_reducible rfl
                                          rotate_left
                                          ·simp only [Act.put, List.setIfInBounds_toArray, List.set_cons_zero, List.set_cons_succ, i64_w, i32_w]
                                           rfl
                                          refine pure_ (i := 10) (N := some 81) (v := ?_) (a' := ?_) #[true, true, true, true, true, true, true, true, true, true, true, false, false, false, false, false, false, false, false, false, false, false, false, false, false, false, false, false, false, false, false, false, false, false, false, false, false, false, false, false, false, false, false, false, false, false] rfl rfl (any_of HT_.out (by kernel_rfl)) (fun _ _ _ h => h) (Or.inl ⟨by rfl, ?_⟩) ?_ ?_
                                          rotate_left
                                          ·intro w'
                                           go_simp
                                           with_reducible rfl
                                          rotate_left
                                          ·simp only [Act.put, List.setIfInBounds_toArray, List.set_cons_zero, List.set_cons_succ, i64_w, i32_w]
                                           rfl
                                          refine pure_ (i := 11) (N := some 82) (v := ?_) (a' := ?_) #[true, true, true, true, true, true, true, true, true, true, true, true, false, false, false, false, false, false, false, false, false, false, false, false, false, false, false, false, false, false, false, false, false, false, false, false, false, false, false, false, false, false, false, false, false, false] rfl rfl (any_of HT_.out (by kernel_rfl)) (fun _ _ _ h => h) (Or.inl ⟨by rfl, ?_⟩) ?_ ?_
                                          rotate_left
                                          ·intro w'
                                           go_simp
                                           with_reducible rfl
                                          rotate_left
                                          ·simp only [Act.put, List.setIfInBounds_toArray, List.set_cons_zero, List.set_cons_succ, i64_w, i32_w]
                                           rfl
                                          refine pure_ (i := 12) (N := some 83) (v := ?_) (a' := ?_) #[true, true, true, true, true, true, true, true, true, true, true, true, true, false, false, false, false, false, false, false, false, false, false, false, false, false, false, false, false, false, false, false, false, false, false, false, false, false, false, false, false, false, false, false, false, false] rfl rfl (any_of HT_.out (by kernel_rfl)) (fun _ _ _ h => h) (Or.inl ⟨by rfl, ?_⟩) ?_ ?_
                                          rotate_left
                                          ·intro w'
                                           go_simp
                                           with_reducible rfl
                                          rotate_left
                                          ·simp only [Act.put, List.setIfInBounds_toArray, List.set_cons_zero, List.set_cons_succ, i64_w, i32_w]
                                           rfl
                                          refine pure_ (i := 13) (N := some 84) (v := ?_) (a' := ?_) #[true, true, true, true, true, true, true, true, true, true, true, true, true, true, false, false, false, false, false, false, false, false, false, false, false, false, false, false, false, false, false, false, false, false, false, false, false, false, false, false, false, false, false, false, false, false] rfl rfl (any_of HT_.out (by kernel_rfl)) (fun _ _ _ h => h) (Or.inl ⟨by rfl, ?_⟩) ?_ ?_
                                          rotate_left
                                          ·intro w'
                                           go_simp
                                           with_reducible rfl
                                          rotate_left
                                          ·simp only [Act.put, List.setIfInBounds_toArray, List.set_cons_zero, List.set_cons_succ, i64_w, i32_w]
                                           rfl
                                          refine pure_ (i := 14) (N := some 85) (v := ?_) (a' := ?_) #[true, true, true, true, true, true, true, true, true, true, true, true, true, true, true, false, false, false, false, false, false, false, false, false, false, false, false, false, false, false, false, false, false, false, false, false, false, false, false, false, false, false, false, false, false, false] rfl rfl (any_of HT_.out (by kernel_rfl)) (fun _ _ _ h => h) (Or.inl ⟨by rfl, ?_⟩) ?_ ?_
                                          rotate_left
                                          ·intro w'
                                           go_simp
                                           with_reducible rfl
                                          rotate_left
                                          ·simp only [Act.put, List.setIfInBounds_toArray, List.set_cons_zero, List.set_cons_succ, i64_w, i32_w]
                                           rfl
                                          refine pure_ (i := 15) (N := some 86) (v := ?_) (a' := ?_) #[true, true, true, true, true, true, true, true, true, true, true, true, true, true, true, true, false, false, false, false, false, false, false, false, false, false, false, false, false, false, false, false, false, false, false, false, false, false, false, false, false, false, false, false, false, false] rfl rfl (any_of HT_.out (by kernel_rfl)) (fun _ _ _ h => h) (Or.inl ⟨by rfl, ?_⟩) ?_ ?_
                                          rotate_left
                                          ·intro w'
                                           go_simp
                                           with_reducible rfl
                                          rotate_left
                                          ·simp only [Act.put, List.setIfInBounds_toArray, List.set_cons_zero, List.set_cons_succ, i64_w, i32_w]
                                           rfl
                                          refine pure_ (i := 16) (N := some 87) (v := ?_) (a' := ?_) #[true, true, true, true, true, true, true, true, true, true, true, true, true, true, true, true, true, false, false, false, false, false, false, false, false, false, false, false, false, false, false, false, false, false, false, false, false, false, false, false, false, false, false, false, false, false] rfl rfl (any_of HT_.out (by kernel_rfl)) (fun _ _ _ h => h) (Or.inl ⟨by rfl, ?_⟩) ?_ ?_
                                          rotate_left
                                          ·intro w'
                                           go_simp
                                           with_reducible rfl
                                          rotate_left
                                          ·simp only [Act.put, List.setIfInBounds_toArray, List.set_cons_zero, List.set_cons_succ, i64_w, i32_w]
                                           rfl
                                          refine pure_ (i := 17) (N := some 88) (v := ?_) (a' := ?_) #[true, true, true, true, true, true, true, true, true, true, true, true, true, true, true, true, true, true, false, false, false, false, false, false, false, false, false, false, false, false, false, false, false, false, false, false, false, false, false, false, false, false, false, false, false, false] rfl rfl (any_of HT_.out (by kernel_rfl)) (fun _ _ _ h => h) (Or.inl ⟨by rfl, ?_⟩) ?_ ?_
                                          rotate_left
                                          ·intro w'
                                           go_simp
                                           with_reducible rfl
                                          rotate_left
                                          ·simp only [Act.put, List.setIfInBounds_toArray, List.set_cons_zero, List.set_cons_succ, i64_w, i32_w]
                                           rfl
                                          refine pure_ (i := 18) (N := some 89) (v := ?_) (a' := ?_) #[true, true, true, true, true, true, true, true, true, true, true, true, true, true, true, true, true, true, true, false, false, false, false, false, false, false, false, false, false, false, false, false, false, false, false, false, false, false, false, false, false, false, false, false, false, false] rfl rfl (any_of HT_.out (by kernel_rfl)) (fun _ _ _ h => h) (Or.inl ⟨by rfl, ?_⟩) ?_ ?_
                                          rotate_left
                                          ·intro w'
                                           go_simp
                                           with_reducible rfl
                                          rotate_left
                                          ·simp only [Act.put, List.setIfInBounds_toArray, List.set_cons_zero, List.set_cons_succ, i64_w, i32_w]
                                           rfl
                                          refine pure_ (i := 19) (N := some 90) (v := ?_) (a' := ?_) #[true, true, true, true, true, true, true, true, true, true, true, true, true, true, true, true, true, true, true, true, false, false, false, false, false, false, false, false, false, false, false, false, false, false, false, false, false, false, false, false, false, false, false, false, false, false] rfl rfl (any_of HT_.out (by kernel_rfl)) (fun _ _ _ h => h) (Or.inl ⟨by rfl, ?_⟩) ?_ ?_
                                          rotate_left
                                          ·intro w'
                                           go_simp
                                           with_reducible rfl
                                          rotate_left
                                          ·simp only [Act.put, List.setIfInBounds_toArray, List.set_cons_zero, List.set_cons_succ, i64_w, i32_w]
                                           rfl
                                          refine pure_ (i := 20) (N := some 91) (v := ?_) (a' := ?_) #[true, true, true, true, true, true, true, true, true, true, true, true, true, true, true, true, true, true, true, true, true, false, false, false, false, false, false, false, false, false, false, false, false, false, false, false, false, false, false, false, false, false, false, false, false, false] rfl rfl (any_of HT_.out (by kernel_rfl)) (fun _ _ _ h => h) (Or.inl ⟨by rfl, ?_⟩) ?_ ?_
                                          rotate_left
                                          ·intro w'
                                           go_simp
                                           with_reducible rfl
                                          rotate_left
                                          ·simp only [Act.put, List.setIfInBounds_toArray, List.set_cons_zero, List.set_cons_succ, i64_w, i32_w]
                                           rfl
                                          refine pure_ (i := 21) (N := some 92) (v := ?_) (a' := ?_) #[true, true, true, true, true, true, true, true, true, true, true, true, true, true, true, true, true, true, true, true, true, true, false, false, false, false, false, false, false, false, false, false, false, false, false, false, false, false, false, false, false, false, false, false, false, false] rfl rfl (any_of HT_.out (by kernel_rfl)) (fun _ _ _ h => h) (Or.inl ⟨by rfl, ?_⟩) ?_ ?_
                                          rotate_left
                                          ·intro w'
                                           go_simp
                                           with_reducible rfl
                                          rotate_left
                                          ·simp only [Act.put, List.setIfInBounds_toArray, List.set_cons_zero, List.set_cons_succ, i64_w, i32_w]
                                           rfl
                                          refine pure_ (i := 22) (N := some 93) (v := ?_) (a' := ?_) #[true, true, true, true, true, true, true, true, true, true, true, true, true, true, true, true, true, true, true, true, true, true, true, false, false, false, false, false, false, false, false, false, false, false, false, false, false, false, false, false, false, false, false, false, false, false] rfl rfl (any_of HT_.out (by kernel_rfl)) (fun _ _ _ h => h) (Or.inl ⟨by rfl, ?_⟩) ?_ ?_
                                          rotate_left
                                          ·intro w'
                                           go_simp
                                           with_reducible rfl
                                          rotate_left
                                          ·simp only [Act.put, List.setIfInBounds_toArray, List.set_cons_zero, List.set_cons_succ, i64_w, i32_w]
                                           rfl
                                          refine pure_ (i := 23) (N := some 94) (v := ?_) (a' := ?_) #[true, true, true, true, true, true, true, true, true, true, true, true, true, true, true, true, true, true, true, true, true, true, true, true, false, false, false, false, false, false, false, false, false, false, false, false, false, false, false, false, false, false, false, false, false, false] rfl rfl (any_of HT_.out (by kernel_rfl)) (fun _ _ _ h => h) (Or.inl ⟨by rfl, ?_⟩) ?_ ?_
                                          rotate_left
                                          ·intro w'
                                           go_simp
                                           with_reducible rfl
                                          rotate_left
                                          ·simp only [Act.put, List.setIfInBounds_toArray, List.set_cons_zero, List.set_cons_succ, i64_w, i32_w]
                                           rfl
                                          refine pure_ (i := 24) (N := some 95) (v := ?_) (a' := ?_) #[true, true, true, true, true, true, true, true, true, true, true, true, true, true, true, true, true, true, true, true, true, true, true, true, true, false, false, false, false, false, false, false, false, false, false, false, false, false, false, false, false, false, false, false, false, false] rfl rfl (any_of HT_.out (by kernel_rfl)) (fun _ _ _ h => h) (Or.inl ⟨by rfl, ?_⟩) ?_ ?_
                                          rotate_left
                                          ·intro w'
                                           go_simp
                                           with_reducible rfl
                                          rotate_left
                                          ·simp only [Act.put, List.setIfInBounds_toArray, List.set_cons_zero, List.set_cons_succ, i64_w, i32_w]
                                           rfl
                                          refine pure_ (i := 25) (N := some 96) (v := ?_) (a' := ?_) #[true, true, true, true, true, true, true, true, true, true, true, true, true, true, true, true, true, true, true, true, true, true, true, true, true, true, false, false, false, false, false, false, false, false, false, false, false, false, false, false, false, false, false, false, false, false] rfl rfl (any_of HT_.out (by kernel_rfl)) (fun _ _ _ h => h) (Or.inl ⟨by rfl, ?_⟩) ?_ ?_
                                          rotate_left
                                          ·intro w'
                                           go_simp
                                           with_reducible rfl
                                          rotate_left
                                          ·simp only [Act.put, List.setIfInBounds_toArray, List.set_cons_zero, List.set_cons_succ, i64_w, i32_w]
                                           rfl
                                          refine pure_ (i := 26) (N := some 97) (v := ?_) (a' := ?_) #[true, true, true, true, true, true, true, true, true, true, true, true, true, true, true, true, true, true, true, true, true, true, true, true, true, true, true, false, false, false, false, false, false, false, false, false, false, false, false, false, false, false, false, false, false, false] rfl rfl (any_of HT_.out (by kernel_rfl)) (fun _ _ _ h => h) (Or.inl ⟨by rfl, ?_⟩) ?_ ?_
                                          rotate_left
                                          ·intro w'
                                           go_simp
                                           with_reducible rfl
                                          rotate_left
                                          ·simp only [Act.put, List.setIfInBounds_toArray, List.set_cons_zero, List.set_cons_succ, i64_w, i32_w]
                                           rfl
                                          refine pure_ (i := 27) (N := some 98) (v := ?_) (a' := ?_) #[true, true, true, true, true, true, true, true, true, true, true, true, true, true, true, true, true, true, true, true, true, true, true, true, true, true, true, true, false, false, false, false, false, false, false, false, false, false, false, false, false, false, false, false, false, false] rfl rfl (any_of HT_.out (by kernel_rfl)) (fun _ _ _ h => h) (Or.inl ⟨by rfl, ?_⟩) ?_ ?_
                                          rotate_left
                                          ·intro w'
                                           go_simp
                                           with_reducible rfl
                                          rotate_left
                                          ·simp only [Act.put, List.setIfInBounds_toArray, List.set_cons_zero, List.set_cons_succ, i64_w, i32_w]
                                           rfl
                                          refine pure_ (i := 28) (N := some 99) (v := ?_) (a' := ?_) #[true, true, true, true, true, true, true, true, true, true, true, true, true, true, true, true, true, true, true, true, true, true, true, true, true, true, true, true, true, false, false, false, false, false, false, false, false, false, false, false, false, false, false, false, false, false] rfl rfl (any_of HT_.out (by kernel_rfl)) (fun _ _ _ h => h) (Or.inl ⟨by rfl, ?_⟩) ?_ ?_
                                          rotate_left
                                          ·intro w'
                                           go_simp
                                           with_reducible rfl
                                          rotate_left
                                          ·simp only [Act.put, List.setIfInBounds_toArray, List.set_cons_zero, List.set_cons_succ, i64_w, i32_w]
                                           rfl
                                          refine pure_ (i := 29) (N := some 100) (v := ?_) (a' := ?_) #[true, true, true, true, true, true, true, true, true, true, true, true, true, true, true, true, true, true, true, true, true, true, true, true, true, true, true, true, true, true, false, false, false, false, false, false, false, false, false, false, false, false, false, false, false, false] rfl rfl (any_of HT_.out (by kernel_rfl)) (fun _ _ _ h => h) (Or.inl ⟨by rfl, ?_⟩) ?_ ?_
                                          rotate_left
                                          ·intro w'
                                           go_simp
                                           with_reducible rfl
                                          rotate_left
                                          ·simp only [Act.put, List.setIfInBounds_toArray, List.set_cons_zero, List.set_cons_succ, i64_w, i32_w]
                                           rfl
                                          refine pure_ (i := 30) (N := some 101) (v := ?_) (a' := ?_) #[true, true, true, true, true, true, true, true, true, true, true, true, true, true, true, true, true, true, true, true, true, true, true, true, true, true, true, true, true, true, true, false, false, false, false, false, false, false, false, false, false, false, false, false, false, false] rfl rfl (any_of HT_.out (by kernel_rfl)) (fun _ _ _ h => h) (Or.inl ⟨by rfl, ?_⟩) ?_ ?_
                                          rotate_left
                                          ·intro w'
                                           go_simp
                                           with_reducible rfl
                                          rotate_left
                                          ·simp only [Act.put, List.setIfInBounds_toArray, List.set_cons_zero, List.set_cons_succ, i64_w, i32_w]
                                           rfl
                                          refine pure_ (i := 31) (N := some 102) (v := ?_) (a' := ?_) #[true, true, true, true, true, true, true, true, true, true, true, true, true, true, true, true, true, true, true, true, true, true, true, true, true, true, true, true, true, true, true, true, false, false, false, false, false, false, false, false, false, false, false, false, false, false] rfl rfl (any_of HT_.out (by kernel_rfl)) (fun _ _ _ h => h) (Or.inl ⟨by rfl, ?_⟩) ?_ ?_
                                          rotate_left
                                          ·intro w'
                                           go_simp
                                           with_reducible rfl
                                          rotate_left
                                          ·simp only [Act.put, List.setIfInBounds_toArray, List.set_cons_zero, List.set_cons_succ, i64_w, i32_w]
                                           rfl
                                          refine pure_ (i := 32) (N := some 103) (v := ?_) (a' := ?_) #[true, true, true, true, true, true, true, true, true, true, true, true, true, true, true, true, true, true, true, true, true, true, true, true, true, true, true, true, true, true, true, true, true, false, false, false, false, false, false, false, false, false, false, false, false, false] rfl rfl (any_of HT_.out (by kernel_rfl)) (fun _ _ _ h => h) (Or.inl ⟨by rfl, ?_⟩) ?_ ?_
                                          rotate_left
                                          ·intro w'
                                           go_simp
                                           with_reducible rfl
                                          rotate_left
                                          ·simp only [Act.put, List.setIfInBounds_toArray, List.set_cons_zero, List.set_cons_succ, i64_w, i32_w]
                                           rfl
                                          refine pure_ (i := 33) (N := some 104) (v := ?_) (a' := ?_) #[true, true, true, true, true, true, true, true, true, true, true, true, true, true, true, true, true, true, true, true, true, true, true, true, true, true, true, true, true, true, true, true, true, true, false, false, false, false, false, false, false, false, false, false, false, false] rfl rfl (any_of HT_.out (by kernel_rfl)) (fun _ _ _ h => h) (Or.inl ⟨by rfl, ?_⟩) ?_ ?_
                                          rotate_left
                                          ·intro w'
                                           go_simp
                                           with_reducible rfl
                                          rotate_left
                                          ·simp only [Act.put, List.setIfInBounds_toArray, List.set_cons_zero, List.set_cons_succ, i64_w, i32_w]
                                           rfl
                                          refine pure_ (i := 34) (N := some 105) (v := ?_) (a' := ?_) #[true, true, true, true, true, true, true, true, true, true, true, true, true, true, true, true, true, true, true, true, true, true, true, true, true, true, true, true, true, true, true, true, true, true, true, false, false, false, false, false, false, false, false, false, false, false] rfl rfl (any_of HT_.out (by kernel_rfl)) (fun _ _ _ h => h) (Or.inl ⟨by rfl, ?_⟩) ?_ ?_
                                          rotate_left
                                          ·intro w'
                                           go_simp
                                           with_reducible rfl
                                          rotate_left
                                          ·simp only [Act.put, List.setIfInBounds_toArray, List.set_cons_zero, List.set_cons_succ, i64_w, i32_w]
                                           rfl
                                          refine pure_ (i := 35) (N := some 106) (v := ?_) (a' := ?_) #[true, true, true, true, true, true, true, true, true, true, true, true, true, true, true, true, true, true, true, true, true, true, true, true, true, true, true, true, true, true, true, true, true, true, true, true, false, false, false, false, false, false, false, false, false, false] rfl rfl (any_of HT_.out (by kernel_rfl)) (fun _ _ _ h => h) (Or.inl ⟨by rfl, ?_⟩) ?_ ?_
                                          rotate_left
                                          ·intro w'
                                           go_simp
                                           with_reducible rfl
                                          rotate_left
                                          ·simp only [Act.put, List.setIfInBounds_toArray, List.set_cons_zero, List.set_cons_succ, i64_w, i32_w]
                                           rfl
                                          refine pure_ (i := 36) (N := some 107) (v := ?_) (a' := ?_) #[true, true, true, true, true, true, true, true, true, true, true, true, true, true, true, true, true, true, true, true, true, true, true, true, true, true, true, true, true, true, true, true, true, true, true, true, true, false, false, false, false, false, false, false, false, false] rfl rfl (any_of HT_.out (by kernel_rfl)) (fun _ _ _ h => h) (Or.inl ⟨by rfl, ?_⟩) ?_ ?_
                                          rotate_left
                                          ·intro w'
                                           go_simp
                                           with_reducible rfl
                                          rotate_left
                                          ·simp only [Act.put, List.setIfInBounds_toArray, List.set_cons_zero, List.set_cons_succ, i64_w, i32_w]
                                           rfl
                                          refine pure_ (i := 37) (N := some 108) (v := ?_) (a' := ?_) #[true, true, true, true, true, true, true, true, true, true, true, true, true, true, true, true, true, true, true, true, true, true, true, true, true, true, true, true, true, true, true, true, true, true, true, true, true, true, false, false, false, false, false, false, false, false] rfl rfl (any_of HT_.out (by kernel_rfl)) (fun _ _ _ h => h) (Or.inl ⟨by rfl, ?_⟩) ?_ ?_
                                          rotate_left
                                          ·intro w'
                                           go_simp
                                           with_reducible rfl
                                          rotate_left
                                          ·simp only [Act.put, List.setIfInBounds_toArray, List.set_cons_zero, List.set_cons_succ, i64_w, i32_w]
                                           rfl
                                          refine pure_ (i := 38) (N := some 109) (v := ?_) (a' := ?_) #[true, true, true, true, true, true, true, true, true, true, true, true, true, true, true, true, true, true, true, true, true, true, true, true, true, true, true, true, true, true, true, true, true, true, true, true, true, true, true, false, false, false, false, false, false, false] rfl rfl (any_of HT_.out (by kernel_rfl)) (fun _ _ _ h => h) (Or.inl ⟨by rfl, ?_⟩) ?_ ?_
                                          rotate_left
                                          ·intro w'
                                           go_simp
                                           with_reducible rfl
                                          rotate_left
                                          ·simp only [Act.put, List.setIfInBounds_toArray, List.set_cons_zero, List.set_cons_succ, i64_w, i32_w]
                                           rfl
                                          refine pure_ (i := 39) (N := some 110) (v := ?_) (a' := ?_) #[true, true, true, true, true, true, true, true, true, true, true, true, true, true, true, true, true, true, true, true, true, true, true, true, true, true, true, true, true, true, true, true, true, true, true, true, true, true, true, true, false, false, false, false, false, false] rfl rfl (any_of HT_.out (by kernel_rfl)) (fun _ _ _ h => h) (Or.inl ⟨by rfl, ?_⟩) ?_ ?_
                                          rotate_left
                                          ·intro w'
                                           go_simp
                                           with_reducible rfl
                                          rotate_left
                                          ·simp only [Act.put, List.setIfInBounds_toArray, List.set_cons_zero, List.set_cons_succ, i64_w, i32_w]
                                           rfl
                                          refine pure_ (i := 40) (N := some 111) (v := ?_) (a' := ?_) #[true, true, true, true, true, true, true, true, true, true, true, true, true, true, true, true, true, true, true, true, true, true, true, true, true, true, true, true, true, true, true, true, true, true, true, true, true, true, true, true, true, false, false, false, false, false] rfl rfl (any_of HT_.out (by kernel_rfl)) (fun _ _ _ h => h) (Or.inl ⟨by rfl, ?_⟩) ?_ ?_
                                          rotate_left
                                          ·intro w'
                                           go_simp
                                           with_reducible rfl
                                          rotate_left
                                          ·simp only [Act.put, List.setIfInBounds_toArray, List.set_cons_zero, List.set_cons_succ, i64_w, i32_w]
                                           rfl
                                          refine pure_ (i := 41) (N := some 112) (v := ?_) (a' := ?_) #[true, true, true, true, true, true, true, true, true, true, true, true, true, true, true, true, true, true, true, true, true, true, true, true, true, true, true, true, true, true, true, true, true, true, true, true, true, true, true, true, true, true, false, false, false, false] rfl rfl (any_of HT_.out (by kernel_rfl)) (fun _ _ _ h => h) (Or.inl ⟨by rfl, ?_⟩) ?_ ?_
                                          rotate_left
                                          ·intro w'
                                           go_simp
                                           with_reducible rfl
                                          rotate_left
                                          ·simp only [Act.put, List.setIfInBounds_toArray, List.set_cons_zero, List.set_cons_succ, i64_w, i32_w]
                                           rfl
                                          refine pure_ (i := 42) (N := some 113) (v := ?_) (a' := ?_) #[true, true, true, true, true, true, true, true, true, true, true, true, true, true, true, true, true, true, true, true, true, true, true, true, true, true, true, true, true, true, true, true, true, true, true, true, true, true, true, true, true, true, true, false, false, false] rfl rfl (any_of HT_.out (by kernel_rfl)) (fun _ _ _ h => h) (Or.inl ⟨by rfl, ?_⟩) ?_ ?_
                                          rotate_left
                                          ·intro w'
                                           go_simp
                                           with_reducible rfl
                                          rotate_left
                                          ·simp only [Act.put, List.setIfInBounds_toArray, List.set_cons_zero, List.set_cons_succ, i64_w, i32_w]
                                           rfl
                                          refine pure_ (i := 43) (N := some 114) (v := ?_) (a' := ?_) #[true, true, true, true, true, true, true, true, true, true, true, true, true, true, true, true, true, true, true, true, true, true, true, true, true, true, true, true, true, true, true, true, true, true, true, true, true, true, true, true, true, true, true, true, false, false] rfl rfl (any_of HT_.out (by kernel_rfl)) (fun _ _ _ h => h) (Or.inl ⟨by rfl, ?_⟩) ?_ ?_
                                          rotate_left
                                          ·intro w'
                                           go_simp
                                           with_reducible rfl
                                          rotate_left
                                          ·simp only [Act.put, List.setIfInBounds_toArray, List.set_cons_zero, List.set_cons_succ, i64_w, i32_w]
                                           rfl
                                          refine one_ (i := 44) (N := some 115) #[true, true, true, true, true, true, true, true, true, true, true, true, true, true, true, true, true, true, true, true, true, true, true, true, true, true, true, true, true, true, true, true, true, true, true, true, true, true, true, true, true, true, true, true, true, false] rfl rfl (one_of HT_.out (by kernel_rfl)) (by decide) (fun K hK => ?_)
                                          refine Kd.R_lit_step Kd.string _ 9 ?hg (N := 115) ?hd (xs := ([(⟨#[]⟩ : ByteArray), t181.extract 0 11, (⟨#[1]⟩ : ByteArray) ++ (t181.extract 1 t181.size), ((t181.extract 0 1) ++ (⟨#[6]⟩ : ByteArray)) ++ (t181.extract 2 t181.size), ((t181.extract 0 2) ++ (⟨#[255]⟩ : ByteArray)) ++ (t181.extract 3 t181.size), ((t181.extract 0 3) ++ (⟨#[11]⟩ : ByteArray)) ++ (t181.extract 4 t181.size), ((t181.extract 0 4) ++ (⟨#[1]⟩ : ByteArray)) ++ (t181.extract 5 t181.size), ((t181.extract 0 7) ++ (⟨#[5]⟩ : ByteArray)) ++ (t181.extract 8 t181.size), ((t181.extract 0 8) ++ (⟨#[1]⟩ : ByteArray)) ++ (t181.extract 9 t181.size), (t181.extract 0 11) ++ (⟨#[1]⟩ : ByteArray)] : List ByteArray)) (inner := [.string (⟨#[]⟩ : ByteArray), .string (t181.extract 0 11), .string ((⟨#[1]⟩ : ByteArray) ++ (t181.extract 1 t181.size)), .string (((t181.extract 0 1) ++ (⟨#[6]⟩ : ByteArray)) ++ (t181.extract 2 t181.size)), .string (((t181.extract 0 2) ++ (⟨#[255]⟩ : ByteArray)) ++ (t181.extract 3 t181.size)), .string (((t181.extract 0 3) ++ (⟨#[11]⟩ : ByteArray)) ++ (t181.extract 4 t181.size)), .string (((t181.extract 0 4) ++ (⟨#[1]⟩ : ByteArray)) ++ (t181.extract 5 t181.size)), .string (((t181.extract 0 7) ++ (⟨#[5]⟩ : ByteArray)) ++ (t181.extract 8 t181.size)), .string (((t181.extract 0 8) ++ (⟨#[1]⟩ : ByteArray)) ++ (t181.extract 9 t181.size)), .string ((t181.extract 0 11) ++ (⟨#[1]⟩ : ByteArray))]) (ok := fun _ => True) (okp := fun _ => True) ?hr ?hp (fun _ hk => hk) trivial (Below.refl _ _) (Nat.le_refl _) (by simp) ?_; (case hd => rfl); (case hg => rfl); (case hr => first | (go_simp; done) | (go_simp; rfl)); (case hp => exact (Reps.one (show Kd.M Kd.string _ _ _ (⟨#[]⟩ : ByteArray) [.string (⟨#[]⟩ : ByteArray)] from rfl) (Reps.one (show Kd.M Kd.string _ _ _ (t181.extract 0 11) [.string (t181.extract 0 11)] from rfl) (Reps.one (show Kd.M Kd.string _ _ _ ((⟨#[1]⟩ : ByteArray) ++ (t181.extract 1 t181.size)) [.string ((⟨#[1]⟩ : ByteArray) ++ (t181.extract 1 t181.size))] from rfl) (Reps.one (show Kd.M Kd.string _ _ _ (((t181.extract 0 1) ++ (⟨#[6]⟩ : ByteArray)) ++ (t181.extract 2 t181.size)) [.string (((t181.extract 0 1) ++ (⟨#[6]⟩ : ByteArray)) ++ (t181.extract 2 t181.size))] from rfl) (Reps.one (show Kd.M Kd.string _ _ _ (((t181.extract 0 2) ++ (⟨#[255]⟩ : ByteArray)) ++ (t181.extract 3 t181.size)) [.string (((t181.extract 0 2) ++ (⟨#[255]⟩ : ByteArray)) ++ (t181.extract 3 t181.size))] from rfl) (Reps.one (show Kd.M Kd.string _ _ _ (((t181.extract 0 3) ++ (⟨#[11]⟩ : ByteArray)) ++ (t181.extract 4 t181.size)) [.string (((t181.extract 0 3) ++ (⟨#[11]⟩ : ByteArray)) ++ (t181.extract 4 t181.size))] from rfl) (Reps.one (show Kd.M Kd.string _ _ _ (((t181.extract 0 4) ++ (⟨#[1]⟩ : ByteArray)) ++ (t181.extract 5 t181.size)) [.string (((t181.extract 0 4) ++ (⟨#[1]⟩ : ByteArray)) ++ (t181.extract 5 t181.size))] from rfl) (Reps.one (show Kd.M Kd.string _ _ _ (((t181.extract 0 7) ++ (⟨#[5]⟩ : ByteArray)) ++ (t181.extract 8 t181.size)) [.string (((t181.extract 0 7) ++ (⟨#[5]⟩ : ByteArray)) ++ (t181.extract 8 t181.size))] from rfl) (Reps.one (show Kd.M Kd.string _ _ _ (((t181.extract 0 8) ++ (⟨#[1]⟩ : ByteArray)) ++ (t181.extract 9 t181.size)) [.string (((t181.extract 0 8) ++ (⟨#[1]⟩ : ByteArray)) ++ (t181.extract 9 t181.size))] from rfl) (Reps.one (show Kd.M Kd.string _ _ _ ((t181.extract 0 11) ++ (⟨#[1]⟩ : ByteArray)) [.string ((t181.extract 0 11) ++ (⟨#[1]⟩ : ByteArray))] from rfl) (Reps.none _ _))))))))))))
                                          intro v185 w84 ho85 hb hg_ hnew_
                                          clear hg_ hnew_
                                          (first | rw [← Ny184.out] at ho85 | (simp only [Int.reduceToNat] at ho85; rw [← Ny184.out] at ho85))
                                          have n0_ := Aside0.mk (Kd.R_lower ho85 (below_size (by repeat (first | (with_reducible first | exact HB.out | apply below_alloc | apply pw_below_drewN | apply below_drew1) | exact HB.out))))
                                          have n1_ := Aside0.mk (below_step (by repeat (first | (with_reducible first | exact HB.out | apply below_alloc | apply pw_below_drewN | apply below_drew1) | exact HB.out)) hb)
                                          clear HB
                                          have HO186 := n0_
                                          have HB := n1_
                                          clear n0_ n1_
                                          clear hb ho85
                                          refine hK.out _ _ trivial (fun hHeld => ?_)
                                          clear hK K
                                          refine norm_ (a' := ?_) ?_ ?_
                                          rotate_left
                                          ·show Act.put _ (some 115) _ = _
                                           simp only [Act.put, List.setIfInBounds_toArray, List.set_cons_zero, List.set_cons_succ, i64_w, i32_w]
                                           rfl
                                          refine pure_ (i := 45) (N := some 14) (v := ?_) (a' := ?_) #[true, true, true, true, true, true, true, true, true, true, true, true, true, true, true, true, true, true, true, true, true, true, true, true, true, true, true, true, true, true, true, true, true, true, true, true, true, true, true, true, true, true, true, true, true, true] rfl rfl (any_of HT_.out (by kernel_rfl)) (fun _ _ _ h => h) (Or.inl ⟨by rfl, ?_⟩) ?_ ?_
                                          rotate_left
                                          ·intro w'
                                           go_simp
                                           with_reducible rfl
                                          rotate_left
                                          ·simp only [Act.put, List.setIfInBounds_toArray, List.set_cons_zero, List.set_cons_succ, i64_w, i32_w]
                                           rfl
                                          refine done_ (done_of HT_.out (by kernel_rfl)) ?_
                                          obtain ⟨Ao86, co86, eo86⟩ := Kd.R_slice HO186.out
                                          subst eo86
                                          have p187 : 0 ≤ (ji5 : Int) := of_decide_eq_true (by first | (with_reducible assumption) | assumption)
                                          have q187 : ji5 < (y184.length : Int) := of_decide_eq_true (by first | (with_reducible assumption) | assumption)
                                          obtain ⟨ad187, e187, hx187_0⟩ := Kd.at_string (Kd.R_reads' HO186.out).2.2 ji5 p187 q187
                                          cases e187
                                          replace p187 := eq_true p187
                                          replace q187 := eq_true q187
                                          try go_wp2_with (first | ((with_reducible refine gate_callee (f := 16) rfl ?_); refine goesL_ (some 121) rfl rfl Try.func16 (by kernel_rfl) rfl #[.string (rdOf ByteArray.empty y184 ji5)] rfl (by (try simp only [List.map_toArray, List.map_cons, List.map_nil]); first | done | (simp only [hji5]; rfl) | rfl | (simp only [List.length_drop, List.length_take]; rfl)) ?_; (with_reducible refine (head_Get.calls kj11 (rdOf ByteArray.empty y184 ji5) t188 t189 t190 t191 _ A68.out).mono ?_); rintro e w87 ⟨rfl, hb⟩; refine ⟨_, rfl, ?_⟩; have n0_ := Aside0.mk (Kd.R_below (by (with_reducible repeat (first | apply Kd.R_alloc | apply Kd.R_drewN | apply Kd.R_drew)); exact HO186.out) hb); have n1_ := Aside0.mk (below_step (by repeat (first | (with_reducible first | exact HB.out | apply below_alloc | apply pw_below_drewN | apply below_drew1) | exact HB.out)) hb); clear HO186; clear HB; have HO186 := n0_; have HB := n1_; clear n0_ n1_; (try clear hb); (try clear hb2); (try clear hk); (try clear hi)))
                                          go_ret
                                          exact ⟨by first | rfl | (simp [errW_none, errW_some] <;> rfl) | (simp only [← hji5]; first | rfl | (simp [errW_none, errW_some] <;> rfl)) | (simp [*, errW_none, errW_some] <;> rfl), by repeat (first | (with_reducible first | exact HB.out | apply below_alloc | apply pw_below_drewN | apply below_drew1) | exact HB.out)⟩
                                        ·rw [if_neg c67] at H
                                         exact absurd H (by simp)
                                       ·rw [if_neg c66] at H
                                        exact absurd H (by simp)
                                      ·rw [if_neg c65] at H
                                       exact absurd H (by simp)
                                     ·rw [if_neg c62] at H
                                      exact absurd H (by simp)
                                    ·rw [if_neg c61] at H
                                     exact absurd H (by simp)
                                   ·rw [if_neg c60] at H
                                    exact absurd H (by simp)
                                  ·rw [if_neg c58] at H
                                   exact absurd H (by simp)
                                 ·rw [if_neg c57] at H
                                  exact absurd H (by simp)
                                ·rw [if_neg c56] at H
                                 exact absurd H (by simp)
                               ·rw [if_neg c55] at H
                                exact absurd H (by simp)
                              ·rw [if_neg c54] at H
                               exact absurd H (by simp)
                             ·rw [if_neg c53] at H
                              exact absurd H (by simp)
                            ·rw [if_neg c52] at H
                             exact absurd H (by simp)
                           ·rw [if_neg c51] at H
                            exact absurd H (by simp)
                          ·rw [if_neg c50] at H
                           exact absurd H (by simp)
                         ·rw [if_neg c48] at H
                          exact absurd H (by simp)
                        ·rw [if_neg c47] at H
                         exact absurd H (by simp)
                       ·rw [if_neg c46] at H
                        exact absurd H (by simp)
                      ·rw [if_neg c45] at H
                       exact absurd H (by simp)
                     ·rw [if_neg c43] at H
                      exact absurd H (by simp)
                    ·rw [if_neg c42] at H
                     exact absurd H (by simp)
                   ·rw [if_neg c41] at H
                    exact absurd H (by simp)
                  ·rw [if_neg c40] at H
                   exact absurd H (by simp)
                 ·rw [if_neg c38] at H
                  exact absurd H (by simp)
                ·rw [if_neg c37] at H
                 exact absurd H (by simp)
               ·rw [if_neg c36] at H
                exact absurd H (by simp)
              ·rw [if_neg c35] at H
               exact absurd H (by simp)
             ·rw [if_neg c33] at H
              exact absurd H (by simp)
            ·rw [if_neg c32] at H
             exact absurd H (by simp)
           ·rw [if_neg c31] at H
            exact absurd H (by simp)
          ·rw [if_neg c30] at H
           exact absurd H (by simp)
         ·rw [if_neg c29] at H
          exact absurd H (by simp)
     ·rw [if_neg c9] at H
      exact absurd H (by simp)
    ·rw [if_neg c8] at H
     exact absurd H (by simp)
   ·rw [if_neg c7] at H
    exact absurd H (by simp)
  ·rw [if_neg c6] at H
   exact absurd H (by simp)
 ·replace c4 := Bool.eq_false_iff.mpr c4
  subst c4
  have H1 : (some false) = some r := by rw [if_neg (show ¬ (false = true) by decide)] at H; exact H
  clear H
  have H := H1
  clear H1
  obtain rfl := Option.some.inj H
  go_enter Try.func4, Try.ntmps4
  go_wp2_with (first | ((with_reducible refine gate_callee (f := 19) rfl ?_); refine goesL_ (some 19) rfl rfl Try.func19 (by kernel_rfl) rfl #[] rfl (by (try simp only [List.map_toArray, List.map_cons, List.map_nil]); first | done | rfl | (simp only [List.length_drop, List.length_take]; rfl)) ?_; (with_reducible refine (watchwordlaw8_awake.calls k  false _ A3.out).mono ?_); rintro e w88 ⟨rfl, hb⟩; refine ⟨_, rfl, ?_⟩; have n0_ := Aside0.mk (below_step (by repeat (first | (with_reducible first | exact HB.out | apply below_alloc | apply pw_below_drewN | apply below_drew1) | exact HB.out)) hb); clear HB; have HB := n0_; clear n0_; (try clear hb); (try clear hb2); (try clear hk); (try clear hi)))
  go_ret
  exact ⟨by first | rfl | (simp [errW_none, errW_some] <;> rfl) | (simp [*, errW_none, errW_some] <;> rfl), by repeat (first | (with_reducible first | exact HB.out | apply below_alloc | apply pw_below_drewN | apply below_drew1) | exact HB.out)⟩

/-- THE ONE PURE STATEMENT of watchwordlaw8_HeadForms: yours. -/
def watchwordlaw8_HeadForms.Pure : Prop := ∀ (a0 : Int) (a1 : Int), (Lit.int .i64 a0).wf = true → (Lit.int .i64 a1).wf = true → ∃ k, watchwordlaw8_HeadForms.f k a0 a1 = some true
theorem watchwordlaw8_HeadForms.walk (P : watchwordlaw8_HeadForms.Pure) (a0 : Int) (a1 : Int) (w : World) (w0 : (Lit.int .i64 a0).wf = true) (w1 : (Lit.int .i64 a1).wf = true) :
  Calls Try.prog 4 #[.int .i64 a0, .int .i64 a1] w fun e w' => e = .returned (.bool true) ∧ Below w.heap.size w w' := by
 obtain ⟨k, h⟩ := P a0 a1 w0 w1
 refine (watchwordlaw8_HeadForms.calls k a0 a1 true w h).mono ?_
 rintro e w' ⟨rfl, hd⟩
 exact ⟨rfl, hd⟩

end Go.Proofs.Ytkfnbnfdcfcfpaa.Q8
