/- Written by a program of this session out of the print of the loaded functions: each Go function as a plain function, and that its call comes to it; for a law, the row out of its plain statement. -/
import Derived.Test.YtkfnbnfdcfcfpaaQ13x0
import Derived.Test.YtkfnbnfdcfcfpaaQ13x2
import Derived.Test.YtkfnbnfdcfcfpaaQ13x4
import Derived.Test.YtkfnbnfdcfcfpaaQ13x7
namespace Go.Proofs.Ytkfnbnfdcfcfpaa.Q13
open Go.RowKit Go.Proofs.YtkfnbnfdcfcfpaaW.PrintWords Go.Proofs.YtkfnbnfdcfcfpaaW.PrintLast Go.Proofs.YtkfnbnfdcfcfpaaW.PrintMore
attribute [local go_sem] max2_int min2_int max_two min_two max_three min_three max_four min_four   -- for this text's walks alone
set_option linter.unusedVariables false
set_option linter.unusedSimpArgs false

/-! ### watchwordlaw13_TrailerForms: function 12 -/
def watchwordlaw13_TrailerForms.j0 : Nat → Int → ByteArray → Int → ByteArray → Bool → Int → Int → Int → ByteArray → Option (Bool)
  | 0, _, _, _, _, _, _, _, _, _ => none
  | k + 1, x0, x9, x10, x11, x79, x208000, x208001, x208002, x208003 => if x79 = true then (some false) else (if 0 ≤ 43 then (if 43 ≤ (x11.size : Int) then (if x11.size + 1 ≤ 9223372036854775807 then (if 0 ≤ 1 then (if 1 ≤ (x11.size : Int) then (if (x11.extract 0 1).size + 1 ≤ 9223372036854775807 then (if 2 ≤ (x11.size : Int) then (if ((x11.extract 0 1) ++ (⟨#[1]⟩ : ByteArray)).size + (x11.extract 2 x11.size).size ≤ 9223372036854775807 then (if 0 ≤ 3 then (if 3 ≤ (x11.size : Int) then (if (x11.extract 0 3).size + 1 ≤ 9223372036854775807 then (if 4 ≤ (x11.size : Int) then (if ((x11.extract 0 3) ++ (⟨#[1]⟩ : ByteArray)).size + (x11.extract 4 x11.size).size ≤ 9223372036854775807 then (if 0 ≤ 7 then (if 7 ≤ (x11.size : Int) then (if (x11.extract 0 7).size + 1 ≤ 9223372036854775807 then (if 8 ≤ (x11.size : Int) then (if ((x11.extract 0 7) ++ (⟨#[0]⟩ : ByteArray)).size + (x11.extract 8 x11.size).size ≤ 9223372036854775807 then (if 0 ≤ 11 then (if 11 ≤ (x11.size : Int) then (if (x11.extract 0 11).size + 1 ≤ 9223372036854775807 then (if 12 ≤ (x11.size : Int) then (if ((x11.extract 0 11) ++ (⟨#[0]⟩ : ByteArray)).size + (x11.extract 12 x11.size).size ≤ 9223372036854775807 then ((some (([(⟨#[]⟩ : ByteArray), x11.extract 0 43, x11 ++ (⟨#[120]⟩ : ByteArray), ((x11.extract 0 1) ++ (⟨#[1]⟩ : ByteArray)) ++ (x11.extract 2 x11.size), ((x11.extract 0 3) ++ (⟨#[1]⟩ : ByteArray)) ++ (x11.extract 4 x11.size), ((x11.extract 0 7) ++ (⟨#[0]⟩ : ByteArray)) ++ (x11.extract 8 x11.size), ((x11.extract 0 11) ++ (⟨#[0]⟩ : ByteArray)) ++ (x11.extract 12 x11.size)] : List ByteArray) : List ByteArray)).bind fun y213 => (if 0 ≤ (wrap64 (Int.tmod (IntKind.u64.wrap (x0)) 7)) then (if (wrap64 (Int.tmod (IntKind.u64.wrap (x0)) 7)) < (y213.length : Int) then ((trailer_Get.f k (rdOf ByteArray.empty y213 (wrap64 (Int.tmod (IntKind.u64.wrap (x0)) 7)))).bind fun bt217 => ((trailer_May.f x208000 x208001 x208002 x208003).bind fun t223 => (if t223 = true then (some false) else (if x9.toList = ([] : List UInt8) then ((watchwordlaw0_Num.f x10).bind fun t224 => (if t224 = 1300 then ((watchwordlaw0_Num.f bt217.2.2.2.2).bind fun t225 => (some (t225 == 1300))) else (some false))) else (some false))))) else (none)) else (none))) else (none)) else (none)) else (none)) else (none)) else (none)) else (none)) else (none)) else (none)) else (none)) else (none)) else (none)) else (none)) else (none)) else (none)) else (none)) else (none)) else (none)) else (none)) else (none)) else (none)) else (none)) else (none)) else (none))
def watchwordlaw13_TrailerForms.f (k : Nat) (a0 : Int) (a1 : Int) : Option (Bool) := (watchwordlaw13_awake.f k).bind fun t199 => (if t199 = true then (if 32 ≤ 281474976710656 then ((some (List.replicate 32 0 : List Int)).bind fun y200 => (if 1 ≤ ((strOfNums y200).size : Int) then (if (strOfNums y200).size + 1 ≤ 9223372036854775807 then ((some (([(⟨wrap64 (-(wrap64 (1 + (Go.bits .and .i64 a1 1023)))), 1, 1, strOfNums y200⟩ : S53), (⟨wrap64 (255 + (wrap64 (1 + (Go.bits .and .i64 a1 1023)))), 1, 1, strOfNums y200⟩ : S53), (⟨0, 0, 1, strOfNums y200⟩ : S53), (⟨0, wrap64 (4294967295 + (wrap64 (1 + (Go.bits .and .i64 a1 1023)))), 1, strOfNums y200⟩ : S53), (⟨0, 1, 0, strOfNums y200⟩ : S53), (⟨0, 1, wrap64 (4294967295 + (wrap64 (1 + (Go.bits .and .i64 a1 1023)))), strOfNums y200⟩ : S53), (⟨0, 1, 1, (strOfNums y200).extract 1 (strOfNums y200).size⟩ : S53), (⟨0, 1, 1, (strOfNums y200) ++ (⟨#[120]⟩ : ByteArray)⟩ : S53), (⟨0, wrap64 (-(wrap64 (1 + (Go.bits .and .i64 a1 1023)))), 1, strOfNums y200⟩ : S53)] : List (S53)) : List (S53))).bind fun y203 => (if 0 ≤ (wrap64 (Int.tmod (IntKind.u64.wrap (a0)) 9)) then (if (wrap64 (Int.tmod (IntKind.u64.wrap (a0)) 9)) < (y203.length : Int) then ((trailer_Put.f ((rd_T53 y203 (wrap64 (Int.tmod (IntKind.u64.wrap (a0)) 9))).f0) ((rd_T53 y203 (wrap64 (Int.tmod (IntKind.u64.wrap (a0)) 9))).f1) ((rd_T53 y203 (wrap64 (Int.tmod (IntKind.u64.wrap (a0)) 9))).f2) ((rd_T53 y203 (wrap64 (Int.tmod (IntKind.u64.wrap (a0)) 9))).f3)).bind fun bt208 => ((trailer_Put.f 7 1 1 (strOfNums y200)).bind fun bt210 => ((watchwordlaw0_Num.f bt210.2).bind fun t212 => (if t212 = 0 then (watchwordlaw13_TrailerForms.j0 k a0 bt208.1 bt208.2 bt210.1 ((bt210.1.size : Int) != 44) ((rd_T53 y203 (wrap64 (Int.tmod (IntKind.u64.wrap (a0)) 9))).f0) ((rd_T53 y203 (wrap64 (Int.tmod (IntKind.u64.wrap (a0)) 9))).f1) ((rd_T53 y203 (wrap64 (Int.tmod (IntKind.u64.wrap (a0)) 9))).f2) ((rd_T53 y203 (wrap64 (Int.tmod (IntKind.u64.wrap (a0)) 9))).f3)) else (watchwordlaw13_TrailerForms.j0 k a0 bt208.1 bt208.2 bt210.1 true ((rd_T53 y203 (wrap64 (Int.tmod (IntKind.u64.wrap (a0)) 9))).f0) ((rd_T53 y203 (wrap64 (Int.tmod (IntKind.u64.wrap (a0)) 9))).f1) ((rd_T53 y203 (wrap64 (Int.tmod (IntKind.u64.wrap (a0)) 9))).f2) ((rd_T53 y203 (wrap64 (Int.tmod (IntKind.u64.wrap (a0)) 9))).f3)))))) else (none)) else (none))) else (none)) else (none))) else (none)) else (some false))
theorem watchwordlaw13_TrailerForms.mono_l : ∀ k, (∀ y0 y1 y2 y3 y4 y5 y6 y7 y8, LeO (watchwordlaw13_TrailerForms.j0 k y0 y1 y2 y3 y4 y5 y6 y7 y8) (watchwordlaw13_TrailerForms.j0 (k + 1) y0 y1 y2 y3 y4 y5 y6 y7 y8))
  | 0 => fun _ _ _ _ _ _ _ _ _ r h => by simp [watchwordlaw13_TrailerForms.j0] at h
  | k + 1 => by
    have ih0 := watchwordlaw13_TrailerForms.mono_l k
    · intro y0 y1 y2 y3 y4 y5 y6 y7 y8
      unfold watchwordlaw13_TrailerForms.j0
      repeat' first
      | (with_reducible exact ih0 _ _ _ _ _ _ _ _ _)
      | (with_reducible exact trailer_Get.mono _ _)
      | (with_reducible exact watchwordlaw13_awake.mono _)
      | (with_reducible exact LeO.refl _)
      | (with_reducible exact LeO.none _)
      | (with_reducible refine LeO.ite ?_ ?_)
      | (with_reducible refine LeO.bind ?_ (fun _ => ?_))
      | exact ih0 _ _ _ _ _ _ _ _ _
      | exact trailer_Get.mono _ _
      | exact watchwordlaw13_awake.mono _
      | exact LeO.none _
      | refine LeO.ite ?_ ?_
      | refine LeO.bind ?_ (fun _ => ?_)
theorem watchwordlaw13_TrailerForms.mono : ∀ a0 a1 k, LeO (watchwordlaw13_TrailerForms.f k a0 a1) (watchwordlaw13_TrailerForms.f (k + 1) a0 a1) := by
  intro a0 a1 k
  have ih0 := watchwordlaw13_TrailerForms.mono_l k
  unfold watchwordlaw13_TrailerForms.f
  repeat' first
      | (with_reducible exact ih0 _ _ _ _ _ _ _ _ _)
      | (with_reducible exact trailer_Get.mono _ _)
      | (with_reducible exact watchwordlaw13_awake.mono _)
      | (with_reducible exact LeO.refl _)
      | (with_reducible exact LeO.none _)
      | (with_reducible refine LeO.ite ?_ ?_)
      | (with_reducible refine LeO.bind ?_ (fun _ => ?_))
      | exact ih0 _ _ _ _ _ _ _ _ _
      | exact trailer_Get.mono _ _
      | exact watchwordlaw13_awake.mono _
      | exact LeO.none _
      | refine LeO.ite ?_ ?_
      | refine LeO.bind ?_ (fun _ => ?_)
def watchwordlaw13_TrailerForms.T11 : Bool × List (List Nat × List Nat) := (true, [([], []), ([0], [0]), ([], []), ([2], [2]), ([], []), ([4], [4]), ([5], [5]), ([], []), ([7], [7]), ([6, 8], [6, 8]), ([], []), ([10], [10]), ([11], [11]), ([], []), ([13], [13]), ([12, 14], [12, 14]), ([], []), ([16], [16]), ([17], [17]), ([], []), ([19], [19]), ([18, 20], [18, 20]), ([], []), ([22], [22]), ([23], [23]), ([], []), ([25], [25]), ([24, 26], [24, 26]), ([1, 3, 9, 15, 21, 27], [1, 3, 9, 15, 21, 27]), ([28, 0, 1, 2, 3, 4, 5, 6, 7, 8, 9, 10, 11, 12, 13, 14, 15, 16, 17, 18, 19, 20, 21, 22, 23, 24, 25, 26, 27, 28], [28])])
def watchwordlaw13_TrailerForms.B11 : List Nat := [0, 1, 0, 4, 0, 16, 48, 0, 128, 496, 0, 1024, 3072, 0, 8192, 31744, 0, 65536, 196608, 0, 524288, 2031616, 0, 4194304, 12582912, 0, 33554432, 130023424, 268435455, 536870911]
theorem watchwordlaw13_TrailerForms.tab11 : rtab .any (opsOf Try.f12 11) = watchwordlaw13_TrailerForms.T11 := by kernel_rfl
theorem watchwordlaw13_TrailerForms.bits11 : waitsOk watchwordlaw13_TrailerForms.T11.2 watchwordlaw13_TrailerForms.B11 = true := by kernel_rfl
set_option maxHeartbeats 8000000 in
set_option maxRecDepth 100000 in
theorem watchwordlaw13_TrailerForms.calls (k : Nat) (a0 : Int) (a1 : Int) (r : Bool) (w : World) (h : watchwordlaw13_TrailerForms.f k a0 a1 = some r) :
    Calls Try.prog 12 #[.int .i64 a0, .int .i64 a1] w fun e w' => e = .returned (.bool r) ∧ Below w.heap.size w w' := by
  have hu53 := Try.underlying53
  have HB := Aside0.mk (Below.refl w.heap.size w)
  have H : ((watchwordlaw13_awake.f k).bind fun t199 => (if t199 = true then (if 32 ≤ 281474976710656 then ((some (List.replicate 32 0 : List Int)).bind fun y200 => (if 1 ≤ ((strOfNums y200).size : Int) then (if (strOfNums y200).size + 1 ≤ 9223372036854775807 then ((some (([(⟨wrap64 (-(wrap64 (1 + (Go.bits .and .i64 a1 1023)))), 1, 1, strOfNums y200⟩ : S53), (⟨wrap64 (255 + (wrap64 (1 + (Go.bits .and .i64 a1 1023)))), 1, 1, strOfNums y200⟩ : S53), (⟨0, 0, 1, strOfNums y200⟩ : S53), (⟨0, wrap64 (4294967295 + (wrap64 (1 + (Go.bits .and .i64 a1 1023)))), 1, strOfNums y200⟩ : S53), (⟨0, 1, 0, strOfNums y200⟩ : S53), (⟨0, 1, wrap64 (4294967295 + (wrap64 (1 + (Go.bits .and .i64 a1 1023)))), strOfNums y200⟩ : S53), (⟨0, 1, 1, (strOfNums y200).extract 1 (strOfNums y200).size⟩ : S53), (⟨0, 1, 1, (strOfNums y200) ++ (⟨#[120]⟩ : ByteArray)⟩ : S53), (⟨0, wrap64 (-(wrap64 (1 + (Go.bits .and .i64 a1 1023)))), 1, strOfNums y200⟩ : S53)] : List (S53)) : List (S53))).bind fun y203 => (if 0 ≤ (wrap64 (Int.tmod (IntKind.u64.wrap (a0)) 9)) then (if (wrap64 (Int.tmod (IntKind.u64.wrap (a0)) 9)) < (y203.length : Int) then ((trailer_Put.f ((rd_T53 y203 (wrap64 (Int.tmod (IntKind.u64.wrap (a0)) 9))).f0) ((rd_T53 y203 (wrap64 (Int.tmod (IntKind.u64.wrap (a0)) 9))).f1) ((rd_T53 y203 (wrap64 (Int.tmod (IntKind.u64.wrap (a0)) 9))).f2) ((rd_T53 y203 (wrap64 (Int.tmod (IntKind.u64.wrap (a0)) 9))).f3)).bind fun bt208 => ((trailer_Put.f 7 1 1 (strOfNums y200)).bind fun bt210 => ((watchwordlaw0_Num.f bt210.2).bind fun t212 => (if t212 = 0 then (watchwordlaw13_TrailerForms.j0 k a0 bt208.1 bt208.2 bt210.1 ((bt210.1.size : Int) != 44) ((rd_T53 y203 (wrap64 (Int.tmod (IntKind.u64.wrap (a0)) 9))).f0) ((rd_T53 y203 (wrap64 (Int.tmod (IntKind.u64.wrap (a0)) 9))).f1) ((rd_T53 y203 (wrap64 (Int.tmod (IntKind.u64.wrap (a0)) 9))).f2) ((rd_T53 y203 (wrap64 (Int.tmod (IntKind.u64.wrap (a0)) 9))).f3)) else (watchwordlaw13_TrailerForms.j0 k a0 bt208.1 bt208.2 bt210.1 true ((rd_T53 y203 (wrap64 (Int.tmod (IntKind.u64.wrap (a0)) 9))).f0) ((rd_T53 y203 (wrap64 (Int.tmod (IntKind.u64.wrap (a0)) 9))).f1) ((rd_T53 y203 (wrap64 (Int.tmod (IntKind.u64.wrap (a0)) 9))).f2) ((rd_T53 y203 (wrap64 (Int.tmod (IntKind.u64.wrap (a0)) 9))).f3)))))) else (none)) else (none))) else (none)) else (none))) else (none)) else (some false))) = some r := h
  clear h
  replace H := Option.bind_eq_some_iff.mp H
  obtain ⟨t199, A30, H⟩ := H
  replace H : (if t199 = true then (if 32 ≤ 281474976710656 then ((some (List.replicate 32 0 : List Int)).bind fun y200 => (if 1 ≤ ((strOfNums y200).size : Int) then (if (strOfNums y200).size + 1 ≤ 9223372036854775807 then ((some (([(⟨wrap64 (-(wrap64 (1 + (Go.bits .and .i64 a1 1023)))), 1, 1, strOfNums y200⟩ : S53), (⟨wrap64 (255 + (wrap64 (1 + (Go.bits .and .i64 a1 1023)))), 1, 1, strOfNums y200⟩ : S53), (⟨0, 0, 1, strOfNums y200⟩ : S53), (⟨0, wrap64 (4294967295 + (wrap64 (1 + (Go.bits .and .i64 a1 1023)))), 1, strOfNums y200⟩ : S53), (⟨0, 1, 0, strOfNums y200⟩ : S53), (⟨0, 1, wrap64 (4294967295 + (wrap64 (1 + (Go.bits .and .i64 a1 1023)))), strOfNums y200⟩ : S53), (⟨0, 1, 1, (strOfNums y200).extract 1 (strOfNums y200).size⟩ : S53), (⟨0, 1, 1, (strOfNums y200) ++ (⟨#[120]⟩ : ByteArray)⟩ : S53), (⟨0, wrap64 (-(wrap64 (1 + (Go.bits .and .i64 a1 1023)))), 1, strOfNums y200⟩ : S53)] : List (S53)) : List (S53))).bind fun y203 => (if 0 ≤ (wrap64 (Int.tmod (IntKind.u64.wrap (a0)) 9)) then (if (wrap64 (Int.tmod (IntKind.u64.wrap (a0)) 9)) < (y203.length : Int) then ((trailer_Put.f ((rd_T53 y203 (wrap64 (Int.tmod (IntKind.u64.wrap (a0)) 9))).f0) ((rd_T53 y203 (wrap64 (Int.tmod (IntKind.u64.wrap (a0)) 9))).f1) ((rd_T53 y203 (wrap64 (Int.tmod (IntKind.u64.wrap (a0)) 9))).f2) ((rd_T53 y203 (wrap64 (Int.tmod (IntKind.u64.wrap (a0)) 9))).f3)).bind fun bt208 => ((trailer_Put.f 7 1 1 (strOfNums y200)).bind fun bt210 => ((watchwordlaw0_Num.f bt210.2).bind fun t212 => (if t212 = 0 then (watchwordlaw13_TrailerForms.j0 k a0 bt208.1 bt208.2 bt210.1 ((bt210.1.size : Int) != 44) ((rd_T53 y203 (wrap64 (Int.tmod (IntKind.u64.wrap (a0)) 9))).f0) ((rd_T53 y203 (wrap64 (Int.tmod (IntKind.u64.wrap (a0)) 9))).f1) ((rd_T53 y203 (wrap64 (Int.tmod (IntKind.u64.wrap (a0)) 9))).f2) ((rd_T53 y203 (wrap64 (Int.tmod (IntKind.u64.wrap (a0)) 9))).f3)) else (watchwordlaw13_TrailerForms.j0 k a0 bt208.1 bt208.2 bt210.1 true ((rd_T53 y203 (wrap64 (Int.tmod (IntKind.u64.wrap (a0)) 9))).f0) ((rd_T53 y203 (wrap64 (Int.tmod (IntKind.u64.wrap (a0)) 9))).f1) ((rd_T53 y203 (wrap64 (Int.tmod (IntKind.u64.wrap (a0)) 9))).f2) ((rd_T53 y203 (wrap64 (Int.tmod (IntKind.u64.wrap (a0)) 9))).f3)))))) else (none)) else (none))) else (none)) else (none))) else (none)) else (some false)) = some r := H
  have A3 := Aside0.mk A30
  clear A30
  by_cases c4 : t199 = true
  · subst c4
    have H1 : (if 32 ≤ 281474976710656 then ((some (List.replicate 32 0 : List Int)).bind fun y200 => (if 1 ≤ ((strOfNums y200).size : Int) then (if (strOfNums y200).size + 1 ≤ 9223372036854775807 then ((some (([(⟨wrap64 (-(wrap64 (1 + (Go.bits .and .i64 a1 1023)))), 1, 1, strOfNums y200⟩ : S53), (⟨wrap64 (255 + (wrap64 (1 + (Go.bits .and .i64 a1 1023)))), 1, 1, strOfNums y200⟩ : S53), (⟨0, 0, 1, strOfNums y200⟩ : S53), (⟨0, wrap64 (4294967295 + (wrap64 (1 + (Go.bits .and .i64 a1 1023)))), 1, strOfNums y200⟩ : S53), (⟨0, 1, 0, strOfNums y200⟩ : S53), (⟨0, 1, wrap64 (4294967295 + (wrap64 (1 + (Go.bits .and .i64 a1 1023)))), strOfNums y200⟩ : S53), (⟨0, 1, 1, (strOfNums y200).extract 1 (strOfNums y200).size⟩ : S53), (⟨0, 1, 1, (strOfNums y200) ++ (⟨#[120]⟩ : ByteArray)⟩ : S53), (⟨0, wrap64 (-(wrap64 (1 + (Go.bits .and .i64 a1 1023)))), 1, strOfNums y200⟩ : S53)] : List (S53)) : List (S53))).bind fun y203 => (if 0 ≤ (wrap64 (Int.tmod (IntKind.u64.wrap (a0)) 9)) then (if (wrap64 (Int.tmod (IntKind.u64.wrap (a0)) 9)) < (y203.length : Int) then ((trailer_Put.f ((rd_T53 y203 (wrap64 (Int.tmod (IntKind.u64.wrap (a0)) 9))).f0) ((rd_T53 y203 (wrap64 (Int.tmod (IntKind.u64.wrap (a0)) 9))).f1) ((rd_T53 y203 (wrap64 (Int.tmod (IntKind.u64.wrap (a0)) 9))).f2) ((rd_T53 y203 (wrap64 (Int.tmod (IntKind.u64.wrap (a0)) 9))).f3)).bind fun bt208 => ((trailer_Put.f 7 1 1 (strOfNums y200)).bind fun bt210 => ((watchwordlaw0_Num.f bt210.2).bind fun t212 => (if t212 = 0 then (watchwordlaw13_TrailerForms.j0 k a0 bt208.1 bt208.2 bt210.1 ((bt210.1.size : Int) != 44) ((rd_T53 y203 (wrap64 (Int.tmod (IntKind.u64.wrap (a0)) 9))).f0) ((rd_T53 y203 (wrap64 (Int.tmod (IntKind.u64.wrap (a0)) 9))).f1) ((rd_T53 y203 (wrap64 (Int.tmod (IntKind.u64.wrap (a0)) 9))).f2) ((rd_T53 y203 (wrap64 (Int.tmod (IntKind.u64.wrap (a0)) 9))).f3)) else (watchwordlaw13_TrailerForms.j0 k a0 bt208.1 bt208.2 bt210.1 true ((rd_T53 y203 (wrap64 (Int.tmod (IntKind.u64.wrap (a0)) 9))).f0) ((rd_T53 y203 (wrap64 (Int.tmod (IntKind.u64.wrap (a0)) 9))).f1) ((rd_T53 y203 (wrap64 (Int.tmod (IntKind.u64.wrap (a0)) 9))).f2) ((rd_T53 y203 (wrap64 (Int.tmod (IntKind.u64.wrap (a0)) 9))).f3)))))) else (none)) else (none))) else (none)) else (none))) else (none)) = some r := by rw [if_pos rfl] at H; exact H
    clear H
    have H := H1
    clear H1
    by_cases c5 : 32 ≤ 281474976710656
    · rw [if_pos c5] at H
      have c5b0 := eq_true c5
      have c5b1 : decide (32 ≤ 281474976710656) = true := decide_eq_true c5
      clear c5
      obtain ⟨y200, hy200⟩ : ∃ y_ : List Int, y_ = (List.replicate 32 0) := ⟨_, rfl⟩
      replace H : (if 1 ≤ ((strOfNums y200).size : Int) then (if (strOfNums y200).size + 1 ≤ 9223372036854775807 then ((some (([(⟨wrap64 (-(wrap64 (1 + (Go.bits .and .i64 a1 1023)))), 1, 1, strOfNums y200⟩ : S53), (⟨wrap64 (255 + (wrap64 (1 + (Go.bits .and .i64 a1 1023)))), 1, 1, strOfNums y200⟩ : S53), (⟨0, 0, 1, strOfNums y200⟩ : S53), (⟨0, wrap64 (4294967295 + (wrap64 (1 + (Go.bits .and .i64 a1 1023)))), 1, strOfNums y200⟩ : S53), (⟨0, 1, 0, strOfNums y200⟩ : S53), (⟨0, 1, wrap64 (4294967295 + (wrap64 (1 + (Go.bits .and .i64 a1 1023)))), strOfNums y200⟩ : S53), (⟨0, 1, 1, (strOfNums y200).extract 1 (strOfNums y200).size⟩ : S53), (⟨0, 1, 1, (strOfNums y200) ++ (⟨#[120]⟩ : ByteArray)⟩ : S53), (⟨0, wrap64 (-(wrap64 (1 + (Go.bits .and .i64 a1 1023)))), 1, strOfNums y200⟩ : S53)] : List (S53)) : List (S53))).bind fun y203 => (if 0 ≤ (wrap64 (Int.tmod (IntKind.u64.wrap (a0)) 9)) then (if (wrap64 (Int.tmod (IntKind.u64.wrap (a0)) 9)) < (y203.length : Int) then ((trailer_Put.f ((rd_T53 y203 (wrap64 (Int.tmod (IntKind.u64.wrap (a0)) 9))).f0) ((rd_T53 y203 (wrap64 (Int.tmod (IntKind.u64.wrap (a0)) 9))).f1) ((rd_T53 y203 (wrap64 (Int.tmod (IntKind.u64.wrap (a0)) 9))).f2) ((rd_T53 y203 (wrap64 (Int.tmod (IntKind.u64.wrap (a0)) 9))).f3)).bind fun bt208 => ((trailer_Put.f 7 1 1 (strOfNums y200)).bind fun bt210 => ((watchwordlaw0_Num.f bt210.2).bind fun t212 => (if t212 = 0 then (watchwordlaw13_TrailerForms.j0 k a0 bt208.1 bt208.2 bt210.1 ((bt210.1.size : Int) != 44) ((rd_T53 y203 (wrap64 (Int.tmod (IntKind.u64.wrap (a0)) 9))).f0) ((rd_T53 y203 (wrap64 (Int.tmod (IntKind.u64.wrap (a0)) 9))).f1) ((rd_T53 y203 (wrap64 (Int.tmod (IntKind.u64.wrap (a0)) 9))).f2) ((rd_T53 y203 (wrap64 (Int.tmod (IntKind.u64.wrap (a0)) 9))).f3)) else (watchwordlaw13_TrailerForms.j0 k a0 bt208.1 bt208.2 bt210.1 true ((rd_T53 y203 (wrap64 (Int.tmod (IntKind.u64.wrap (a0)) 9))).f0) ((rd_T53 y203 (wrap64 (Int.tmod (IntKind.u64.wrap (a0)) 9))).f1) ((rd_T53 y203 (wrap64 (Int.tmod (IntKind.u64.wrap (a0)) 9))).f2) ((rd_T53 y203 (wrap64 (Int.tmod (IntKind.u64.wrap (a0)) 9))).f3)))))) else (none)) else (none))) else (none)) else (none)) = some r := by first | (rw [hy200]; with_reducible exact H) | (have H2_ := (Option.bind_some _ _).symm.trans H; rw [hy200]; with_reducible exact H2_) | (have H2_ := (Option.bind_some _ _).symm.trans H; with_reducible exact H2_) | with_reducible exact H | (rw [hy200]; exact H) | exact H
      have Ny200 := Aside0.mk hy200
      clear hy200
      by_cases c6 : 1 ≤ ((strOfNums y200).size : Int)
      · rw [if_pos c6] at H
        have c6b0 := eq_true c6
        have c6b1 : decide (1 ≤ ((strOfNums y200).size : Int)) = true := decide_eq_true c6
        clear c6
        by_cases c7 : (strOfNums y200).size + 1 ≤ 9223372036854775807
        · rw [if_pos c7] at H
          have c7b0 := eq_true c7
          have c7b1 : decide ((strOfNums y200).size + 1 ≤ 9223372036854775807) = true := decide_eq_true c7
          try have c7b2 : (9223372036854775807 < (strOfNums y200).size + 1) = False := eq_false (Nat.not_lt.2 c7)
          obtain ⟨y203, hy203⟩ : ∃ y_ : List (S53), y_ = (([(⟨wrap64 (-(wrap64 (1 + (Go.bits .and .i64 a1 1023)))), 1, 1, strOfNums y200⟩ : S53), (⟨wrap64 (255 + (wrap64 (1 + (Go.bits .and .i64 a1 1023)))), 1, 1, strOfNums y200⟩ : S53), (⟨0, 0, 1, strOfNums y200⟩ : S53), (⟨0, wrap64 (4294967295 + (wrap64 (1 + (Go.bits .and .i64 a1 1023)))), 1, strOfNums y200⟩ : S53), (⟨0, 1, 0, strOfNums y200⟩ : S53), (⟨0, 1, wrap64 (4294967295 + (wrap64 (1 + (Go.bits .and .i64 a1 1023)))), strOfNums y200⟩ : S53), (⟨0, 1, 1, (strOfNums y200).extract 1 (strOfNums y200).size⟩ : S53), (⟨0, 1, 1, (strOfNums y200) ++ (⟨#[120]⟩ : ByteArray)⟩ : S53), (⟨0, wrap64 (-(wrap64 (1 + (Go.bits .and .i64 a1 1023)))), 1, strOfNums y200⟩ : S53)] : List (S53))) := ⟨_, rfl⟩
          replace H : (if 0 ≤ (wrap64 (Int.tmod (IntKind.u64.wrap (a0)) 9)) then (if (wrap64 (Int.tmod (IntKind.u64.wrap (a0)) 9)) < (y203.length : Int) then ((trailer_Put.f ((rd_T53 y203 (wrap64 (Int.tmod (IntKind.u64.wrap (a0)) 9))).f0) ((rd_T53 y203 (wrap64 (Int.tmod (IntKind.u64.wrap (a0)) 9))).f1) ((rd_T53 y203 (wrap64 (Int.tmod (IntKind.u64.wrap (a0)) 9))).f2) ((rd_T53 y203 (wrap64 (Int.tmod (IntKind.u64.wrap (a0)) 9))).f3)).bind fun bt208 => ((trailer_Put.f 7 1 1 (strOfNums y200)).bind fun bt210 => ((watchwordlaw0_Num.f bt210.2).bind fun t212 => (if t212 = 0 then (watchwordlaw13_TrailerForms.j0 k a0 bt208.1 bt208.2 bt210.1 ((bt210.1.size : Int) != 44) ((rd_T53 y203 (wrap64 (Int.tmod (IntKind.u64.wrap (a0)) 9))).f0) ((rd_T53 y203 (wrap64 (Int.tmod (IntKind.u64.wrap (a0)) 9))).f1) ((rd_T53 y203 (wrap64 (Int.tmod (IntKind.u64.wrap (a0)) 9))).f2) ((rd_T53 y203 (wrap64 (Int.tmod (IntKind.u64.wrap (a0)) 9))).f3)) else (watchwordlaw13_TrailerForms.j0 k a0 bt208.1 bt208.2 bt210.1 true ((rd_T53 y203 (wrap64 (Int.tmod (IntKind.u64.wrap (a0)) 9))).f0) ((rd_T53 y203 (wrap64 (Int.tmod (IntKind.u64.wrap (a0)) 9))).f1) ((rd_T53 y203 (wrap64 (Int.tmod (IntKind.u64.wrap (a0)) 9))).f2) ((rd_T53 y203 (wrap64 (Int.tmod (IntKind.u64.wrap (a0)) 9))).f3)))))) else (none)) else (none)) = some r := by first | (rw [hy203]; with_reducible exact H) | (have H2_ := (Option.bind_some _ _).symm.trans H; rw [hy203]; with_reducible exact H2_) | (have H2_ := (Option.bind_some _ _).symm.trans H; with_reducible exact H2_) | with_reducible exact H | (rw [hy203]; exact H) | exact H
          have Ny203 := Aside0.mk hy203
          clear hy203
          obtain ⟨ji8, hji8⟩ : ∃ j_ : Int, (wrap64 (Int.tmod (IntKind.u64.wrap (a0)) 9)) = j_ := ⟨_, rfl⟩
          replace H : (if 0 ≤ (ji8) then (if (ji8) < (y203.length : Int) then ((trailer_Put.f ((rd_T53 y203 (ji8)).f0) ((rd_T53 y203 (ji8)).f1) ((rd_T53 y203 (ji8)).f2) ((rd_T53 y203 (ji8)).f3)).bind fun bt208 => ((trailer_Put.f 7 1 1 (strOfNums y200)).bind fun bt210 => ((watchwordlaw0_Num.f bt210.2).bind fun t212 => (if t212 = 0 then (watchwordlaw13_TrailerForms.j0 k a0 bt208.1 bt208.2 bt210.1 ((bt210.1.size : Int) != 44) ((rd_T53 y203 (ji8)).f0) ((rd_T53 y203 (ji8)).f1) ((rd_T53 y203 (ji8)).f2) ((rd_T53 y203 (ji8)).f3)) else (watchwordlaw13_TrailerForms.j0 k a0 bt208.1 bt208.2 bt210.1 true ((rd_T53 y203 (ji8)).f0) ((rd_T53 y203 (ji8)).f1) ((rd_T53 y203 (ji8)).f2) ((rd_T53 y203 (ji8)).f3)))))) else (none)) else (none)) = some r := by first | (rw [hji8] at H; exact H) | (simp only [hji8] at H ⊢; exact H)
          (try rw [hji8] at A3)
          have hji8w : (IntKind.i64.wrap (Int.tmod (IntKind.u64.wrap (a0)) 9)) = ji8 := (i64_w _).trans hji8
          by_cases c9 : 0 ≤ (ji8)
          · rw [if_pos c9] at H
            have c9b0 : decide (0 ≤ (ji8)) = true := decide_eq_true c9
            clear c9
            by_cases c10 : (ji8) < (y203.length : Int)
            · rw [if_pos c10] at H
              have c10b0 : decide ((ji8) < (y203.length : Int)) = true := decide_eq_true c10
              clear c10
              replace H := Option.bind_eq_some_iff.mp H
              obtain ⟨⟨t208, t209⟩, A110, H⟩ := H
              replace H : ((trailer_Put.f 7 1 1 (strOfNums y200)).bind fun bt210 => ((watchwordlaw0_Num.f bt210.2).bind fun t212 => (if t212 = 0 then (watchwordlaw13_TrailerForms.j0 k a0 t208 t209 bt210.1 ((bt210.1.size : Int) != 44) ((rd_T53 y203 (ji8)).f0) ((rd_T53 y203 (ji8)).f1) ((rd_T53 y203 (ji8)).f2) ((rd_T53 y203 (ji8)).f3)) else (watchwordlaw13_TrailerForms.j0 k a0 t208 t209 bt210.1 true ((rd_T53 y203 (ji8)).f0) ((rd_T53 y203 (ji8)).f1) ((rd_T53 y203 (ji8)).f2) ((rd_T53 y203 (ji8)).f3))))) = some r := H
              have A11 := Aside0.mk A110
              clear A110
              replace H := Option.bind_eq_some_iff.mp H
              obtain ⟨⟨t210, t211⟩, A120, H⟩ := H
              replace H : ((watchwordlaw0_Num.f t211).bind fun t212 => (if t212 = 0 then (watchwordlaw13_TrailerForms.j0 k a0 t208 t209 t210 ((t210.size : Int) != 44) ((rd_T53 y203 (ji8)).f0) ((rd_T53 y203 (ji8)).f1) ((rd_T53 y203 (ji8)).f2) ((rd_T53 y203 (ji8)).f3)) else (watchwordlaw13_TrailerForms.j0 k a0 t208 t209 t210 true ((rd_T53 y203 (ji8)).f0) ((rd_T53 y203 (ji8)).f1) ((rd_T53 y203 (ji8)).f2) ((rd_T53 y203 (ji8)).f3)))) = some r := H
              have A12 := Aside0.mk A120
              clear A120
              have HC13 := Aside0.mk H
              clear H
              go_enter Try.func12, Try.ntmps12
              go_upto_region 9 with (first | ((with_reducible refine gate_callee (f := 37) rfl ?_); refine goesL_ (some 16) rfl rfl Try.func37 (by kernel_rfl) rfl #[] rfl (by (try simp only [List.map_toArray, List.map_cons, List.map_nil]); first | done | rfl | (simp only [List.length_drop, List.length_take]; rfl)) ?_; (with_reducible refine (watchwordlaw13_awake.calls k  true _ A3.out).mono ?_); rintro e w14 ⟨rfl, hb⟩; refine ⟨_, rfl, ?_⟩; have n0_ := Aside0.mk (below_step (by repeat (first | (with_reducible first | exact HB.out | apply below_alloc | apply pw_below_drewN | apply below_drew1) | exact HB.out)) hb); clear HB; have HB := n0_; clear n0_; (try clear hb); (try clear hb2); (try clear hk); (try clear hi)) | ((with_reducible refine gate_dst (N := 21) rfl ?_); (try (refine gate_guard (by rfl) ?_; dsimp only)); refine Kd.R_make (Kd.int .u8) _ 5 rfl (N := 21) rfl 62 _ _ rfl 32 rfl rfl Try.underlying62 (.int .u8 0) 1 info5 rfl (by decide) (by omega) 0 (ok := fun _ => True) (okp := fun _ => True) rfl (fun _ hk => hk) trivial (by omega) (by omega) (Below.refl _ _) (Nat.le_refl _) ?_; intro v201 w15 ho16 hb hg_ hnew_; clear hg_ hnew_; (first | rw [← Ny200.out] at ho16 | (simp only [Int.reduceToNat] at ho16; rw [← Ny200.out] at ho16)); have n0_ := Aside0.mk (Kd.R_lower ho16 (below_size (by repeat (first | (with_reducible first | exact HB.out | apply below_alloc | apply pw_below_drewN | apply below_drew1) | exact HB.out)))); have n1_ := Aside0.mk (below_step (by repeat (first | (with_reducible first | exact HB.out | apply below_alloc | apply pw_below_drewN | apply below_drew1) | exact HB.out)) hb); clear HB; have HO202 := n0_; have HB := n1_; clear n0_ n1_; clear hb ho16; have hcv17 := own_string (P := Try.prog) Try.underlying62 Try.underlying5 Try.underlying9 (Kd.own_of_R HO202.out)) | ((with_reducible refine gate_dst (N := 53) rfl ?_); (try (refine gate_guard (by rfl) ?_; dsimp only)); refine Kd.R_lit k53 _ 53 ?hg (N := 53) ?hd (xs := ([(⟨wrap64 (-(wrap64 (1 + (Go.bits .and .i64 a1 1023)))), 1, 1, strOfNums y200⟩ : S53), (⟨wrap64 (255 + (wrap64 (1 + (Go.bits .and .i64 a1 1023)))), 1, 1, strOfNums y200⟩ : S53), (⟨0, 0, 1, strOfNums y200⟩ : S53), (⟨0, wrap64 (4294967295 + (wrap64 (1 + (Go.bits .and .i64 a1 1023)))), 1, strOfNums y200⟩ : S53), (⟨0, 1, 0, strOfNums y200⟩ : S53), (⟨0, 1, wrap64 (4294967295 + (wrap64 (1 + (Go.bits .and .i64 a1 1023)))), strOfNums y200⟩ : S53), (⟨0, 1, 1, (strOfNums y200).extract 1 (strOfNums y200).size⟩ : S53), (⟨0, 1, 1, (strOfNums y200) ++ (⟨#[120]⟩ : ByteArray)⟩ : S53), (⟨0, wrap64 (-(wrap64 (1 + (Go.bits .and .i64 a1 1023)))), 1, strOfNums y200⟩ : S53)] : List (S53))) (inner := [.int .i64 (wrap64 (-(wrap64 (1 + (Go.bits .and .i64 a1 1023))))), .int .i64 1, .int .i64 1, .string (strOfNums y200), .int .i64 (wrap64 (255 + (wrap64 (1 + (Go.bits .and .i64 a1 1023))))), .int .i64 1, .int .i64 1, .string (strOfNums y200), .int .i64 0, .int .i64 0, .int .i64 1, .string (strOfNums y200), .int .i64 0, .int .i64 (wrap64 (4294967295 + (wrap64 (1 + (Go.bits .and .i64 a1 1023))))), .int .i64 1, .string (strOfNums y200), .int .i64 0, .int .i64 1, .int .i64 0, .string (strOfNums y200), .int .i64 0, .int .i64 1, .int .i64 (wrap64 (4294967295 + (wrap64 (1 + (Go.bits .and .i64 a1 1023))))), .string (strOfNums y200), .int .i64 0, .int .i64 1, .int .i64 1, .string ((strOfNums y200).extract 1 (strOfNums y200).size), .int .i64 0, .int .i64 1, .int .i64 1, .string ((strOfNums y200) ++ (⟨#[120]⟩ : ByteArray)), .int .i64 0, .int .i64 (wrap64 (-(wrap64 (1 + (Go.bits .and .i64 a1 1023))))), .int .i64 1, .string (strOfNums y200)]) (ok := fun _ => True) (okp := fun _ => True) ?hr ?hp (fun _ hk => hk) trivial (Below.refl _ _) (Nat.le_refl _) (by simp) ?_; (case hd => rfl); (case hg => rfl); (case hr => first | (go_simp; done) | (go_simp; rfl)); (case hp => exact (Reps.c4 (show Kd.M k53 _ _ _ (⟨wrap64 (-(wrap64 (1 + (Go.bits .and .i64 a1 1023)))), 1, 1, strOfNums y200⟩ : S53) [.int .i64 (wrap64 (-(wrap64 (1 + (Go.bits .and .i64 a1 1023))))), .int .i64 1, .int .i64 1, .string (strOfNums y200)] from (k53_mkM _ _ _ (⟨wrap64 (-(wrap64 (1 + (Go.bits .and .i64 a1 1023)))), 1, 1, strOfNums y200⟩ : S53) )) (Reps.c4 (show Kd.M k53 _ _ _ (⟨wrap64 (255 + (wrap64 (1 + (Go.bits .and .i64 a1 1023)))), 1, 1, strOfNums y200⟩ : S53) [.int .i64 (wrap64 (255 + (wrap64 (1 + (Go.bits .and .i64 a1 1023))))), .int .i64 1, .int .i64 1, .string (strOfNums y200)] from (k53_mkM _ _ _ (⟨wrap64 (255 + (wrap64 (1 + (Go.bits .and .i64 a1 1023)))), 1, 1, strOfNums y200⟩ : S53) )) (Reps.c4 (show Kd.M k53 _ _ _ (⟨0, 0, 1, strOfNums y200⟩ : S53) [.int .i64 0, .int .i64 0, .int .i64 1, .string (strOfNums y200)] from (k53_mkM _ _ _ (⟨0, 0, 1, strOfNums y200⟩ : S53) )) (Reps.c4 (show Kd.M k53 _ _ _ (⟨0, wrap64 (4294967295 + (wrap64 (1 + (Go.bits .and .i64 a1 1023)))), 1, strOfNums y200⟩ : S53) [.int .i64 0, .int .i64 (wrap64 (4294967295 + (wrap64 (1 + (Go.bits .and .i64 a1 1023))))), .int .i64 1, .string (strOfNums y200)] from (k53_mkM _ _ _ (⟨0, wrap64 (4294967295 + (wrap64 (1 + (Go.bits .and .i64 a1 1023)))), 1, strOfNums y200⟩ : S53) )) (Reps.c4 (show Kd.M k53 _ _ _ (⟨0, 1, 0, strOfNums y200⟩ : S53) [.int .i64 0, .int .i64 1, .int .i64 0, .string (strOfNums y200)] from (k53_mkM _ _ _ (⟨0, 1, 0, strOfNums y200⟩ : S53) )) (Reps.c4 (show Kd.M k53 _ _ _ (⟨0, 1, wrap64 (4294967295 + (wrap64 (1 + (Go.bits .and .i64 a1 1023)))), strOfNums y200⟩ : S53) [.int .i64 0, .int .i64 1, .int .i64 (wrap64 (4294967295 + (wrap64 (1 + (Go.bits .and .i64 a1 1023))))), .string (strOfNums y200)] from (k53_mkM _ _ _ (⟨0, 1, wrap64 (4294967295 + (wrap64 (1 + (Go.bits .and .i64 a1 1023)))), strOfNums y200⟩ : S53) )) (Reps.c4 (show Kd.M k53 _ _ _ (⟨0, 1, 1, (strOfNums y200).extract 1 (strOfNums y200).size⟩ : S53) [.int .i64 0, .int .i64 1, .int .i64 1, .string ((strOfNums y200).extract 1 (strOfNums y200).size)] from (k53_mkM _ _ _ (⟨0, 1, 1, (strOfNums y200).extract 1 (strOfNums y200).size⟩ : S53) )) (Reps.c4 (show Kd.M k53 _ _ _ (⟨0, 1, 1, (strOfNums y200) ++ (⟨#[120]⟩ : ByteArray)⟩ : S53) [.int .i64 0, .int .i64 1, .int .i64 1, .string ((strOfNums y200) ++ (⟨#[120]⟩ : ByteArray))] from (k53_mkM _ _ _ (⟨0, 1, 1, (strOfNums y200) ++ (⟨#[120]⟩ : ByteArray)⟩ : S53) )) (Reps.c4 (show Kd.M k53 _ _ _ (⟨0, wrap64 (-(wrap64 (1 + (Go.bits .and .i64 a1 1023)))), 1, strOfNums y200⟩ : S53) [.int .i64 0, .int .i64 (wrap64 (-(wrap64 (1 + (Go.bits .and .i64 a1 1023))))), .int .i64 1, .string (strOfNums y200)] from (k53_mkM _ _ _ (⟨0, wrap64 (-(wrap64 (1 + (Go.bits .and .i64 a1 1023)))), 1, strOfNums y200⟩ : S53) )) (Reps.none _ _))))))))))); intro v204 w18 ho19 hb hg_ hnew_; clear hg_ hnew_; (first | rw [← Ny203.out] at ho19 | (simp only [Int.reduceToNat] at ho19; rw [← Ny203.out] at ho19)); have n0_ := Aside0.mk (Kd.R_below (by (with_reducible repeat (first | apply Kd.R_alloc | apply Kd.R_drewN | apply Kd.R_drew)); exact HO202.out) hb); have n1_ := Aside0.mk (Kd.R_lower ho19 (below_size (by repeat (first | (with_reducible first | exact HB.out | apply below_alloc | apply pw_below_drewN | apply below_drew1) | exact HB.out)))); have n2_ := Aside0.mk (below_step (by repeat (first | (with_reducible first | exact HB.out | apply below_alloc | apply pw_below_drewN | apply below_drew1) | exact HB.out)) hb); clear HO202; clear HB; have HO202 := n0_; have HO205 := n1_; have HB := n2_; clear n0_ n1_ n2_; clear hb ho19; obtain ⟨Ao20, co20, eo20⟩ := Kd.R_slice HO205.out; subst eo20; have p206 : 0 ≤ ((ji8) : Int) := of_decide_eq_true (by first | (with_reducible assumption) | assumption); have q206 : (ji8) < (y203.length : Int) := of_decide_eq_true (by first | (with_reducible assumption) | assumption); obtain ⟨ad206, e206, hx206_0, hx206_1, hx206_2, hx206_3⟩ := at_T53 (Kd.R_reads' HO205.out).2.2 (ji8) p206 q206; cases e206; replace p206 := eq_true p206; replace q206 := eq_true q206) | ((with_reducible refine gate_dst (N := 8) rfl ?_); (try (refine gate_guard (by rfl) ?_; dsimp only)); refine box_event ?hg (N := 8) ?hd (cs := #[.int .i64 0, .int .i64 0, .int .i64 0, .string (⟨#[]⟩ : ByteArray)]) (t := 53) ?hr ?_; (case hd => rfl); (case hg => rfl); (case hr => first | (go_simp; done) | (go_simp; rfl)); intro gb207 hg w21 hbox hb; have n0_ := Aside0.mk (Kd.R_below (by (with_reducible repeat (first | apply Kd.R_alloc | apply Kd.R_drewN | apply Kd.R_drew)); exact HO202.out) hb); have n1_ := Aside0.mk (Kd.R_below (Kd.R_elderB (by (with_reducible repeat (first | apply Kd.R_alloc | apply Kd.R_drewN | apply Kd.R_drew)); exact HO205.out) gb207 (Nat.le_of_eq hg.symm)) hb); have n2_ := Aside0.mk (below_step (by repeat (first | (with_reducible first | exact HB.out | apply below_alloc | apply pw_below_drewN | apply below_drew1) | exact HB.out)) hb); have n3_ := Aside0.mk (hbox); have n4_ := Aside0.mk ((by rw [hg]; exact (below_size (by repeat (first | (with_reducible first | exact HB.out | apply below_alloc | apply pw_below_drewN | apply below_drew1) | exact HB.out))) : w.heap.size ≤ gb207)); have n5_ := Aside0.mk ((by rw [hg]; exact (below_size (by repeat (first | (with_reducible first | exact HB.out | apply below_alloc | apply pw_below_drewN | apply below_drew1) | exact HB.out))) : w.heap.size ≤ gb207)); clear HO202; clear HO205; clear HB; have HO202 := n0_; have HO205 := n1_; have HB := n2_; have BK207 := n3_; have GW207 := n4_; have GE207 := n5_; clear n0_ n1_ n2_ n3_ n4_ n5_; clear hb hbox hg; have hcz22_0 : w21.cell? ⟨gb207, 0, none⟩ = some (.int .i64 0) := (blk_cell BK207.out 0).trans rfl; have hcz22_1 : w21.cell? ⟨gb207, 1, none⟩ = some (.int .i64 0) := (blk_cell BK207.out 1).trans rfl; have hcz22_2 : w21.cell? ⟨gb207, 2, none⟩ = some (.int .i64 0) := (blk_cell BK207.out 2).trans rfl; have hcz22_3 : w21.cell? ⟨gb207, 3, none⟩ = some (.string (⟨#[]⟩ : ByteArray)) := (blk_cell BK207.out 3).trans rfl; have hfz22_0 := blk_frozen BK207.out 0; have hfz22_1 := blk_frozen BK207.out 1; have hfz22_2 := blk_frozen BK207.out 2; have hfz22_3 := blk_frozen BK207.out 3) | ((with_reducible refine gate_callee (f := 31) rfl ?_); refine goesL_ (some 63) rfl rfl Try.func31 (by kernel_rfl) rfl #[.agg #[.int .i64 ((rd_T53 y203 (ji8)).f0), .int .i64 ((rd_T53 y203 (ji8)).f1), .int .i64 ((rd_T53 y203 (ji8)).f2), .string ((rd_T53 y203 (ji8)).f3)]] rfl (by (try simp only [List.map_toArray, List.map_cons, List.map_nil]); first | done | (simp only [hji8]; rfl) | rfl | (simp only [List.length_drop, List.length_take]; rfl)) ?_; (with_reducible refine (trailer_Put.calls ((rd_T53 y203 (ji8)).f0) ((rd_T53 y203 (ji8)).f1) ((rd_T53 y203 (ji8)).f2) ((rd_T53 y203 (ji8)).f3) t208 t209 _ A11.out).mono ?_); rintro e w23 ⟨rfl, hb⟩; refine ⟨_, rfl, ?_⟩; have n0_ := Aside0.mk (Kd.R_below (by (with_reducible repeat (first | apply Kd.R_alloc | apply Kd.R_drewN | apply Kd.R_drew)); exact (Kd.R_mono (Kd.R_far (p := ⟨gb207, 3, none⟩) (Kd.R_far (p := ⟨gb207, 2, none⟩) (Kd.R_far (p := ⟨gb207, 1, none⟩) (Kd.R_far (p := ⟨gb207, 0, none⟩) (Kd.R_types HO202.out BK207.out (by decide)) (fun _ hk => hk.2) (.int .i64 ((rd_T53 y203 (ji8)).f0))) (fun _ hk => hk.2) (.int .i64 ((rd_T53 y203 (ji8)).f1))) (fun _ hk => hk.2) (.int .i64 ((rd_T53 y203 (ji8)).f2))) (fun _ hk => hk.2) (.string ((rd_T53 y203 (ji8)).f3))) (fun _ h_ => h_.1))) hb); have n1_ := Aside0.mk (Kd.R_below (by (with_reducible repeat (first | apply Kd.R_alloc | apply Kd.R_drewN | apply Kd.R_drew)); exact (Kd.R_mono (Kd.R_far (p := ⟨gb207, 3, none⟩) (Kd.R_far (p := ⟨gb207, 2, none⟩) (Kd.R_far (p := ⟨gb207, 1, none⟩) (Kd.R_far (p := ⟨gb207, 0, none⟩) (Kd.R_mono HO205.out (fun k_ hk => (⟨hk, hk.2⟩ : _ ∧ k_ ≠ gb207))) (fun _ hk => hk.2) (.int .i64 ((rd_T53 y203 (ji8)).f0))) (fun _ hk => hk.2) (.int .i64 ((rd_T53 y203 (ji8)).f1))) (fun _ hk => hk.2) (.int .i64 ((rd_T53 y203 (ji8)).f2))) (fun _ hk => hk.2) (.string ((rd_T53 y203 (ji8)).f3))) (fun _ h_ => h_.1))) hb); have n2_ := Aside0.mk (blk_below (g := gb207) (o := .cells #[.int .i64 ((rd_T53 y203 (ji8)).f0), .int .i64 ((rd_T53 y203 (ji8)).f1), .int .i64 ((rd_T53 y203 (ji8)).f2), .string ((rd_T53 y203 (ji8)).f3)] 53 (0, 0)) (by (with_reducible repeat (first | refine blk_drewN ?_ _ | refine blk_drew ?_ | refine blk_alloc ?_ _)); refine blk_put (cs := #[.int .i64 ((rd_T53 y203 (ji8)).f0), .int .i64 ((rd_T53 y203 (ji8)).f1), .int .i64 ((rd_T53 y203 (ji8)).f2), .string (⟨#[]⟩ : ByteArray)]) ?_ 3 _ rfl; (with_reducible repeat (first | refine blk_drewN ?_ _ | refine blk_drew ?_ | refine blk_alloc ?_ _)); refine blk_put (cs := #[.int .i64 ((rd_T53 y203 (ji8)).f0), .int .i64 ((rd_T53 y203 (ji8)).f1), .int .i64 0, .string (⟨#[]⟩ : ByteArray)]) ?_ 2 _ rfl; (with_reducible repeat (first | refine blk_drewN ?_ _ | refine blk_drew ?_ | refine blk_alloc ?_ _)); refine blk_put (cs := #[.int .i64 ((rd_T53 y203 (ji8)).f0), .int .i64 0, .int .i64 0, .string (⟨#[]⟩ : ByteArray)]) ?_ 1 _ rfl; (with_reducible repeat (first | refine blk_drewN ?_ _ | refine blk_drew ?_ | refine blk_alloc ?_ _)); refine blk_put (cs := #[.int .i64 0, .int .i64 0, .int .i64 0, .string (⟨#[]⟩ : ByteArray)]) ?_ 0 _ rfl; (with_reducible repeat (first | refine blk_drewN ?_ _ | refine blk_drew ?_ | refine blk_alloc ?_ _)); exact BK207.out) hb); have n3_ := Aside0.mk (below_step (by repeat (first | (with_reducible first | exact HB.out | apply below_alloc | apply pw_below_drewN | apply below_drew1 | refine below_set ?_ GE207.out) | exact HB.out)) hb); clear HO202; clear HO205; clear BK207; clear HB; have HO202 := n0_; have HO205 := n1_; have BK207 := n2_; have HB := n3_; clear n0_ n1_ n2_ n3_; (try clear hb); (try clear hb2); (try clear hk); (try clear hi)) | ((with_reducible refine gate_callee (f := 31) rfl ?_); refine goesL_ (some 69) rfl rfl Try.func31 (by kernel_rfl) rfl #[.agg #[.int .i64 7, .int .i64 1, .int .i64 1, .string (strOfNums y200)]] rfl (by (try simp only [List.map_toArray, List.map_cons, List.map_nil]); first | done | rfl | (simp only [List.length_drop, List.length_take]; rfl)) ?_; (with_reducible refine (trailer_Put.calls 7 1 1 (strOfNums y200) t210 t211 _ A12.out).mono ?_); rintro e w24 ⟨rfl, hb⟩; refine ⟨_, rfl, ?_⟩; have n0_ := Aside0.mk (Kd.R_below (by (with_reducible repeat (first | apply Kd.R_alloc | apply Kd.R_drewN | apply Kd.R_drew)); exact HO202.out) hb); have n1_ := Aside0.mk (Kd.R_below (by (with_reducible repeat (first | apply Kd.R_alloc | apply Kd.R_drewN | apply Kd.R_drew)); exact HO205.out) hb); have n2_ := Aside0.mk (blk_below (g := gb207) (o := .cells #[.int .i64 ((rd_T53 y203 (ji8)).f0), .int .i64 ((rd_T53 y203 (ji8)).f1), .int .i64 ((rd_T53 y203 (ji8)).f2), .string ((rd_T53 y203 (ji8)).f3)] 53 (0, 0)) (by (with_reducible repeat (first | refine blk_drewN ?_ _ | refine blk_drew ?_ | refine blk_alloc ?_ _)); exact BK207.out) hb); have n3_ := Aside0.mk (below_step (by repeat (first | (with_reducible first | exact HB.out | apply below_alloc | apply pw_below_drewN | apply below_drew1 | refine below_set ?_ GE207.out) | exact HB.out)) hb); clear HO202; clear HO205; clear BK207; clear HB; have HO202 := n0_; have HO205 := n1_; have BK207 := n2_; have HB := n3_; clear n0_ n1_ n2_ n3_; (try clear hb); (try clear hb2); (try clear hk); (try clear hi)))
              (try simp only [Act.put, List.setIfInBounds_toArray, List.set_cons_zero, List.set_cons_succ])
              go_cut [79] (fun v79 wc => ∃ (kq : Nat) (x79_12 : Bool), v79 = .bool x79_12 ∧ Aside0 (watchwordlaw13_TrailerForms.j0 kq a0 t208 t209 t210 x79_12 ((rd_T53 y203 (ji8)).f0) ((rd_T53 y203 (ji8)).f1) ((rd_T53 y203 (ji8)).f2) ((rd_T53 y203 (ji8)).f3) = some r) ∧ Aside0 (kq ≤ k) ∧ Aside0 (wc.heap[gb207]? = some (.cells #[.int .i64 ((rd_T53 y203 (ji8)).f0), .int .i64 ((rd_T53 y203 (ji8)).f1), .int .i64 ((rd_T53 y203 (ji8)).f2), .string ((rd_T53 y203 (ji8)).f3)] 53 (0, 0))) ∧ Aside0 (Below w.heap.size w wc))
              case first =>
                have H := HC13.out
                clear HC13
                replace H := Option.bind_eq_some_iff.mp H
                obtain ⟨t212, A250, H⟩ := H
                replace H : (if t212 = 0 then (watchwordlaw13_TrailerForms.j0 k a0 t208 t209 t210 ((t210.size : Int) != 44) ((rd_T53 y203 (ji8)).f0) ((rd_T53 y203 (ji8)).f1) ((rd_T53 y203 (ji8)).f2) ((rd_T53 y203 (ji8)).f3)) else (watchwordlaw13_TrailerForms.j0 k a0 t208 t209 t210 true ((rd_T53 y203 (ji8)).f0) ((rd_T53 y203 (ji8)).f1) ((rd_T53 y203 (ji8)).f2) ((rd_T53 y203 (ji8)).f3))) = some r := H
                have A25 := Aside0.mk A250
                clear A250
                by_cases c26 : t212 = 0
                · rw [if_pos c26] at H
                  have c26b0 : (t212 == 0) = true := beq_iff_eq.mpr c26
                  have c26b1 : (t212 != 0) = false := bne_eq_false_iff_eq.mpr c26
                  clear c26
                  (first | rw [c26b0] | (simp only [i64_w, i32_w]; rw [c26b0]) | skip)
                  have H' := Aside0.mk H
                  clear H
                  go_wp2_with (first | ((with_reducible refine gate_callee (f := 18) rfl ?_); refine goesL_ (some 73) rfl rfl Try.func18 (by kernel_rfl) rfl #[.int .i64 t211] rfl (by (try simp only [List.map_toArray, List.map_cons, List.map_nil]); first | done | rfl | (simp only [List.length_drop, List.length_take]; rfl)) ?_; (with_reducible refine (watchwordlaw0_Num.calls t211 t212 _ A25.out).mono ?_); rintro e w' ⟨rfl, ⟨nd, rfl⟩⟩; refine ⟨_, rfl, ?_⟩))
                  go_meet
                  case rel => exact ⟨_, (((t210.size : Int) != 44)), (by first | rfl | (simp; done) | (simp [*]; done)), H', ⟨by first | omega | exact Nat.le_refl _⟩, ⟨by (with_reducible repeat (first | refine blk_drewN ?_ _ | refine blk_drew ?_ | refine blk_alloc ?_ _)); exact BK207.out⟩, ⟨by repeat (first | (with_reducible first | exact HB.out | apply below_alloc | apply pw_below_drewN | apply below_drew1 | refine below_set ?_ GE207.out) | exact HB.out)⟩⟩
                · rw [if_neg c26] at H
                  have c26b0 : (t212 == 0) = false := beq_eq_false_iff_ne.mpr c26
                  have c26b1 : (t212 != 0) = true := bne_iff_ne.mpr c26
                  (first | rw [c26b0] | (simp only [i64_w, i32_w]; rw [c26b0]) | skip)
                  have H' := Aside0.mk H
                  clear H
                  go_wp2_with (first | ((with_reducible refine gate_callee (f := 18) rfl ?_); refine goesL_ (some 73) rfl rfl Try.func18 (by kernel_rfl) rfl #[.int .i64 t211] rfl (by (try simp only [List.map_toArray, List.map_cons, List.map_nil]); first | done | rfl | (simp only [List.length_drop, List.length_take]; rfl)) ?_; (with_reducible refine (watchwordlaw0_Num.calls t211 t212 _ A25.out).mono ?_); rintro e w' ⟨rfl, ⟨nd, rfl⟩⟩; refine ⟨_, rfl, ?_⟩))
                  go_meet
                  case rel => exact ⟨_, (true), (by first | rfl | (simp; done) | (simp [*]; done)), H', ⟨by first | omega | exact Nat.le_refl _⟩, ⟨by (with_reducible repeat (first | refine blk_drewN ?_ _ | refine blk_drew ?_ | refine blk_alloc ?_ _)); exact BK207.out⟩, ⟨by repeat (first | (with_reducible first | exact HB.out | apply below_alloc | apply pw_below_drewN | apply below_drew1 | refine below_set ?_ GE207.out) | exact HB.out)⟩⟩
              case rest =>
                clear HC13
                try clear c1
                try clear hcv1
                try clear c2
                try clear p2
                try clear q2
                try clear hx2
                try clear c3
                try clear c4
                try clear c5
                try clear c5b0
                try clear c5b1
                try clear c6
                try clear c6b0
                try clear c6b1
                try clear p6
                try clear c7
                try clear c7b0
                try clear c7b1
                try clear c7b2
                try clear c9
                try clear c9b0
                try clear c10
                try clear c10b0
                try clear c12
                try clear hcv17
                try clear c18
                try clear p20
                try clear q20
                try clear hx20
                try clear c26
                try clear c26b0
                try clear c26b1
                try clear hcz22_0
                try clear hcz22_1
                try clear hcz22_2
                try clear hcz22_3
                try clear hfz22_0
                try clear hfz22_1
                try clear hfz22_2
                try clear hfz22_3
                try clear hx206_0
                try clear hx206_1
                try clear hx206_2
                try clear hx206_3
                try clear p206
                try clear q206
                obtain ⟨kq, x79_12, rfl, HA, HJ12, BK207, HB⟩ := hcut
                cases kq with
                | zero => exact absurd HA.out (by simp [watchwordlaw13_TrailerForms.j0])
                | succ kj12 =>
                  have H := HA.out
                  clear HA
                  simp only [watchwordlaw13_TrailerForms.j0] at H
                  by_cases c27 : x79_12 = true
                  · subst c27
                    have H1 : (some false) = some r := by rw [if_pos rfl] at H; exact H
                    clear H
                    have H := H1
                    clear H1
                    obtain rfl := Option.some.inj H
                    go_wp2
                    go_ret
                    exact ⟨by first | rfl | (simp [errW_none, errW_some] <;> rfl) | (simp only [← hji8]; first | rfl | (simp [errW_none, errW_some] <;> rfl)) | (simp [*, errW_none, errW_some] <;> rfl), by repeat (first | (with_reducible first | exact HB.out | apply below_alloc | apply pw_below_drewN | apply below_drew1 | refine below_set ?_ GE207.out) | exact HB.out)⟩
                  · replace c27 := Bool.eq_false_iff.mpr c27
                    subst c27
                    have H1 : (if 0 ≤ 43 then (if 43 ≤ (t210.size : Int) then (if t210.size + 1 ≤ 9223372036854775807 then (if 0 ≤ 1 then (if 1 ≤ (t210.size : Int) then (if (t210.extract 0 1).size + 1 ≤ 9223372036854775807 then (if 2 ≤ (t210.size : Int) then (if ((t210.extract 0 1) ++ (⟨#[1]⟩ : ByteArray)).size + (t210.extract 2 t210.size).size ≤ 9223372036854775807 then (if 0 ≤ 3 then (if 3 ≤ (t210.size : Int) then (if (t210.extract 0 3).size + 1 ≤ 9223372036854775807 then (if 4 ≤ (t210.size : Int) then (if ((t210.extract 0 3) ++ (⟨#[1]⟩ : ByteArray)).size + (t210.extract 4 t210.size).size ≤ 9223372036854775807 then (if 0 ≤ 7 then (if 7 ≤ (t210.size : Int) then (if (t210.extract 0 7).size + 1 ≤ 9223372036854775807 then (if 8 ≤ (t210.size : Int) then (if ((t210.extract 0 7) ++ (⟨#[0]⟩ : ByteArray)).size + (t210.extract 8 t210.size).size ≤ 9223372036854775807 then (if 0 ≤ 11 then (if 11 ≤ (t210.size : Int) then (if (t210.extract 0 11).size + 1 ≤ 9223372036854775807 then (if 12 ≤ (t210.size : Int) then (if ((t210.extract 0 11) ++ (⟨#[0]⟩ : ByteArray)).size + (t210.extract 12 t210.size).size ≤ 9223372036854775807 then ((some (([(⟨#[]⟩ : ByteArray), t210.extract 0 43, t210 ++ (⟨#[120]⟩ : ByteArray), ((t210.extract 0 1) ++ (⟨#[1]⟩ : ByteArray)) ++ (t210.extract 2 t210.size), ((t210.extract 0 3) ++ (⟨#[1]⟩ : ByteArray)) ++ (t210.extract 4 t210.size), ((t210.extract 0 7) ++ (⟨#[0]⟩ : ByteArray)) ++ (t210.extract 8 t210.size), ((t210.extract 0 11) ++ (⟨#[0]⟩ : ByteArray)) ++ (t210.extract 12 t210.size)] : List ByteArray) : List ByteArray)).bind fun y213 => (if 0 ≤ (wrap64 (Int.tmod (IntKind.u64.wrap (a0)) 7)) then (if (wrap64 (Int.tmod (IntKind.u64.wrap (a0)) 7)) < (y213.length : Int) then ((trailer_Get.f kj12 (rdOf ByteArray.empty y213 (wrap64 (Int.tmod (IntKind.u64.wrap (a0)) 7)))).bind fun bt217 => ((trailer_May.f ((rd_T53 y203 (ji8)).f0) ((rd_T53 y203 (ji8)).f1) ((rd_T53 y203 (ji8)).f2) ((rd_T53 y203 (ji8)).f3)).bind fun t223 => (if t223 = true then (some false) else (if t208.toList = ([] : List UInt8) then ((watchwordlaw0_Num.f t209).bind fun t224 => (if t224 = 1300 then ((watchwordlaw0_Num.f bt217.2.2.2.2).bind fun t225 => (some (t225 == 1300))) else (some false))) else (some false))))) else (none)) else (none))) else (none)) else (none)) else (none)) else (none)) else (none)) else (none)) else (none)) else (none)) else (none)) else (none)) else (none)) else (none)) else (none)) else (none)) else (none)) else (none)) else (none)) else (none)) else (none)) else (none)) else (none)) else (none)) else (none)) = some r := by rw [if_neg (show ¬ (false = true) by decide)] at H; exact H
                    clear H
                    have H := H1
                    clear H1
                    by_cases c28 : 0 ≤ 43
                    · rw [if_pos c28] at H
                      have c28b0 := eq_true c28
                      have c28b1 : decide (0 ≤ 43) = true := decide_eq_true c28
                      clear c28
                      by_cases c29 : 43 ≤ (t210.size : Int)
                      · rw [if_pos c29] at H
                        have c29p : 43 ≤ t210.size := by omega
                        have c29b0 := eq_true c29
                        have c29b1 : decide (43 ≤ (t210.size : Int)) = true := decide_eq_true c29
                        clear c29
                        by_cases c30 : t210.size + 1 ≤ 9223372036854775807
                        · rw [if_pos c30] at H
                          have c30b0 := eq_true c30
                          have c30b1 : decide (t210.size + 1 ≤ 9223372036854775807) = true := decide_eq_true c30
                          try have c30b2 : (9223372036854775807 < t210.size + 1) = False := eq_false (Nat.not_lt.2 c30)
                          by_cases c31 : 0 ≤ 1
                          · rw [if_pos c31] at H
                            have c31b0 := eq_true c31
                            have c31b1 : decide (0 ≤ 1) = true := decide_eq_true c31
                            clear c31
                            by_cases c32 : 1 ≤ (t210.size : Int)
                            · rw [if_pos c32] at H
                              have c32p : 1 ≤ t210.size := by omega
                              have c32b0 := eq_true c32
                              have c32b1 : decide (1 ≤ (t210.size : Int)) = true := decide_eq_true c32
                              clear c32
                              by_cases c33 : (t210.extract 0 1).size + 1 ≤ 9223372036854775807
                              · rw [if_pos c33] at H
                                (try (have c33p := c33; simp only [ByteArray.size_extract] at c33p))
                                have c33b0 := eq_true c33
                                have c33b1 : decide ((t210.extract 0 1).size + 1 ≤ 9223372036854775807) = true := decide_eq_true c33
                                try have c33b2 : (9223372036854775807 < (t210.extract 0 1).size + 1) = False := eq_false (Nat.not_lt.2 c33)
                                try have c33e0 : (9223372036854775807 < t210.size) = False := eq_false (by have h_ := c33; simp only [ByteArray.size_append, ByteArray.size_extract] at h_; omega)
                                by_cases c34 : 2 ≤ (t210.size : Int)
                                · rw [if_pos c34] at H
                                  have c34p : 2 ≤ t210.size := by omega
                                  have c34b0 := eq_true c34
                                  have c34b1 : decide (2 ≤ (t210.size : Int)) = true := decide_eq_true c34
                                  clear c34
                                  by_cases c35 : ((t210.extract 0 1) ++ (⟨#[1]⟩ : ByteArray)).size + (t210.extract 2 t210.size).size ≤ 9223372036854775807
                                  · rw [if_pos c35] at H
                                    (try (have c35p := c35; simp only [ByteArray.size_extract] at c35p))
                                    have c35b0 := eq_true c35
                                    have c35b1 : decide (((t210.extract 0 1) ++ (⟨#[1]⟩ : ByteArray)).size + (t210.extract 2 t210.size).size ≤ 9223372036854775807) = true := decide_eq_true c35
                                    try have c35b2 : (9223372036854775807 < ((t210.extract 0 1) ++ (⟨#[1]⟩ : ByteArray)).size + (t210.extract 2 t210.size).size) = False := eq_false (Nat.not_lt.2 c35)
                                    try have c35e0 : (9223372036854775807 < t210.size) = False := eq_false (by have h_ := c35; simp only [ByteArray.size_append, ByteArray.size_extract] at h_; have l0_ : (⟨#[1]⟩ : ByteArray).size = 1 := rfl; omega)
                                    try have c35b3 : (9223372036854775807 < (t210.extract 0 1).size + 1 + (t210.extract 2 t210.size).size) = False := eq_false (by have h_ := c35; simp only [ByteArray.size_append] at h_; have l0_ : (⟨#[1]⟩ : ByteArray).size = 1 := rfl; omega)
                                    try have c35b4 : (9223372036854775807 < (t210.extract 0 1).size + (⟨#[1]⟩ : ByteArray).size + (t210.extract 2 t210.size).size) = False := eq_false (by have h_ := c35; simp only [ByteArray.size_append] at h_; have l0_ : (⟨#[1]⟩ : ByteArray).size = 1 := rfl; omega)
                                    by_cases c36 : 0 ≤ 3
                                    · rw [if_pos c36] at H
                                      have c36b0 := eq_true c36
                                      have c36b1 : decide (0 ≤ 3) = true := decide_eq_true c36
                                      clear c36
                                      by_cases c37 : 3 ≤ (t210.size : Int)
                                      · rw [if_pos c37] at H
                                        have c37p : 3 ≤ t210.size := by omega
                                        have c37b0 := eq_true c37
                                        have c37b1 : decide (3 ≤ (t210.size : Int)) = true := decide_eq_true c37
                                        clear c37
                                        by_cases c38 : (t210.extract 0 3).size + 1 ≤ 9223372036854775807
                                        · rw [if_pos c38] at H
                                          (try (have c38p := c38; simp only [ByteArray.size_extract] at c38p))
                                          have c38b0 := eq_true c38
                                          have c38b1 : decide ((t210.extract 0 3).size + 1 ≤ 9223372036854775807) = true := decide_eq_true c38
                                          try have c38b2 : (9223372036854775807 < (t210.extract 0 3).size + 1) = False := eq_false (Nat.not_lt.2 c38)
                                          try have c38e0 : (9223372036854775807 < t210.size) = False := eq_false (by have h_ := c38; simp only [ByteArray.size_append, ByteArray.size_extract] at h_; omega)
                                          by_cases c39 : 4 ≤ (t210.size : Int)
                                          · rw [if_pos c39] at H
                                            have c39p : 4 ≤ t210.size := by omega
                                            have c39b0 := eq_true c39
                                            have c39b1 : decide (4 ≤ (t210.size : Int)) = true := decide_eq_true c39
                                            clear c39
                                            by_cases c40 : ((t210.extract 0 3) ++ (⟨#[1]⟩ : ByteArray)).size + (t210.extract 4 t210.size).size ≤ 9223372036854775807
                                            · rw [if_pos c40] at H
                                              (try (have c40p := c40; simp only [ByteArray.size_extract] at c40p))
                                              have c40b0 := eq_true c40
                                              have c40b1 : decide (((t210.extract 0 3) ++ (⟨#[1]⟩ : ByteArray)).size + (t210.extract 4 t210.size).size ≤ 9223372036854775807) = true := decide_eq_true c40
                                              try have c40b2 : (9223372036854775807 < ((t210.extract 0 3) ++ (⟨#[1]⟩ : ByteArray)).size + (t210.extract 4 t210.size).size) = False := eq_false (Nat.not_lt.2 c40)
                                              try have c40e0 : (9223372036854775807 < t210.size) = False := eq_false (by have h_ := c40; simp only [ByteArray.size_append, ByteArray.size_extract] at h_; have l0_ : (⟨#[1]⟩ : ByteArray).size = 1 := rfl; omega)
                                              try have c40b3 : (9223372036854775807 < (t210.extract 0 3).size + 1 + (t210.extract 4 t210.size).size) = False := eq_false (by have h_ := c40; simp only [ByteArray.size_append] at h_; have l0_ : (⟨#[1]⟩ : ByteArray).size = 1 := rfl; omega)
                                              try have c40b4 : (9223372036854775807 < (t210.extract 0 3).size + (⟨#[1]⟩ : ByteArray).size + (t210.extract 4 t210.size).size) = False := eq_false (by have h_ := c40; simp only [ByteArray.size_append] at h_; have l0_ : (⟨#[1]⟩ : ByteArray).size = 1 := rfl; omega)
                                              by_cases c41 : 0 ≤ 7
                                              · rw [if_pos c41] at H
                                                have c41b0 := eq_true c41
                                                have c41b1 : decide (0 ≤ 7) = true := decide_eq_true c41
                                                clear c41
                                                by_cases c42 : 7 ≤ (t210.size : Int)
                                                · rw [if_pos c42] at H
                                                  have c42p : 7 ≤ t210.size := by omega
                                                  have c42b0 := eq_true c42
                                                  have c42b1 : decide (7 ≤ (t210.size : Int)) = true := decide_eq_true c42
                                                  clear c42
                                                  by_cases c43 : (t210.extract 0 7).size + 1 ≤ 9223372036854775807
                                                  · rw [if_pos c43] at H
                                                    (try (have c43p := c43; simp only [ByteArray.size_extract] at c43p))
                                                    have c43b0 := eq_true c43
                                                    have c43b1 : decide ((t210.extract 0 7).size + 1 ≤ 9223372036854775807) = true := decide_eq_true c43
                                                    try have c43b2 : (9223372036854775807 < (t210.extract 0 7).size + 1) = False := eq_false (Nat.not_lt.2 c43)
                                                    try have c43e0 : (9223372036854775807 < t210.size) = False := eq_false (by have h_ := c43; simp only [ByteArray.size_append, ByteArray.size_extract] at h_; omega)
                                                    by_cases c44 : 8 ≤ (t210.size : Int)
                                                    · rw [if_pos c44] at H
                                                      have c44p : 8 ≤ t210.size := by omega
                                                      have c44b0 := eq_true c44
                                                      have c44b1 : decide (8 ≤ (t210.size : Int)) = true := decide_eq_true c44
                                                      clear c44
                                                      by_cases c45 : ((t210.extract 0 7) ++ (⟨#[0]⟩ : ByteArray)).size + (t210.extract 8 t210.size).size ≤ 9223372036854775807
                                                      · rw [if_pos c45] at H
                                                        (try (have c45p := c45; simp only [ByteArray.size_extract] at c45p))
                                                        have c45b0 := eq_true c45
                                                        have c45b1 : decide (((t210.extract 0 7) ++ (⟨#[0]⟩ : ByteArray)).size + (t210.extract 8 t210.size).size ≤ 9223372036854775807) = true := decide_eq_true c45
                                                        try have c45b2 : (9223372036854775807 < ((t210.extract 0 7) ++ (⟨#[0]⟩ : ByteArray)).size + (t210.extract 8 t210.size).size) = False := eq_false (Nat.not_lt.2 c45)
                                                        try have c45e0 : (9223372036854775807 < t210.size) = False := eq_false (by have h_ := c45; simp only [ByteArray.size_append, ByteArray.size_extract] at h_; have l0_ : (⟨#[0]⟩ : ByteArray).size = 1 := rfl; omega)
                                                        try have c45b3 : (9223372036854775807 < (t210.extract 0 7).size + 1 + (t210.extract 8 t210.size).size) = False := eq_false (by have h_ := c45; simp only [ByteArray.size_append] at h_; have l0_ : (⟨#[0]⟩ : ByteArray).size = 1 := rfl; omega)
                                                        try have c45b4 : (9223372036854775807 < (t210.extract 0 7).size + (⟨#[0]⟩ : ByteArray).size + (t210.extract 8 t210.size).size) = False := eq_false (by have h_ := c45; simp only [ByteArray.size_append] at h_; have l0_ : (⟨#[0]⟩ : ByteArray).size = 1 := rfl; omega)
                                                        by_cases c46 : 0 ≤ 11
                                                        · rw [if_pos c46] at H
                                                          have c46b0 := eq_true c46
                                                          have c46b1 : decide (0 ≤ 11) = true := decide_eq_true c46
                                                          clear c46
                                                          by_cases c47 : 11 ≤ (t210.size : Int)
                                                          · rw [if_pos c47] at H
                                                            have c47p : 11 ≤ t210.size := by omega
                                                            have c47b0 := eq_true c47
                                                            have c47b1 : decide (11 ≤ (t210.size : Int)) = true := decide_eq_true c47
                                                            clear c47
                                                            by_cases c48 : (t210.extract 0 11).size + 1 ≤ 9223372036854775807
                                                            · rw [if_pos c48] at H
                                                              (try (have c48p := c48; simp only [ByteArray.size_extract] at c48p))
                                                              have c48b0 := eq_true c48
                                                              have c48b1 : decide ((t210.extract 0 11).size + 1 ≤ 9223372036854775807) = true := decide_eq_true c48
                                                              try have c48b2 : (9223372036854775807 < (t210.extract 0 11).size + 1) = False := eq_false (Nat.not_lt.2 c48)
                                                              try have c48e0 : (9223372036854775807 < t210.size) = False := eq_false (by have h_ := c48; simp only [ByteArray.size_append, ByteArray.size_extract] at h_; omega)
                                                              by_cases c49 : 12 ≤ (t210.size : Int)
                                                              · rw [if_pos c49] at H
                                                                have c49p : 12 ≤ t210.size := by omega
                                                                have c49b0 := eq_true c49
                                                                have c49b1 : decide (12 ≤ (t210.size : Int)) = true := decide_eq_true c49
                                                                clear c49
                                                                by_cases c50 : ((t210.extract 0 11) ++ (⟨#[0]⟩ : ByteArray)).size + (t210.extract 12 t210.size).size ≤ 9223372036854775807
                                                                · rw [if_pos c50] at H
                                                                  (try (have c50p := c50; simp only [ByteArray.size_extract] at c50p))
                                                                  have c50b0 := eq_true c50
                                                                  have c50b1 : decide (((t210.extract 0 11) ++ (⟨#[0]⟩ : ByteArray)).size + (t210.extract 12 t210.size).size ≤ 9223372036854775807) = true := decide_eq_true c50
                                                                  try have c50b2 : (9223372036854775807 < ((t210.extract 0 11) ++ (⟨#[0]⟩ : ByteArray)).size + (t210.extract 12 t210.size).size) = False := eq_false (Nat.not_lt.2 c50)
                                                                  try have c50e0 : (9223372036854775807 < t210.size) = False := eq_false (by have h_ := c50; simp only [ByteArray.size_append, ByteArray.size_extract] at h_; have l0_ : (⟨#[0]⟩ : ByteArray).size = 1 := rfl; omega)
                                                                  try have c50b3 : (9223372036854775807 < (t210.extract 0 11).size + 1 + (t210.extract 12 t210.size).size) = False := eq_false (by have h_ := c50; simp only [ByteArray.size_append] at h_; have l0_ : (⟨#[0]⟩ : ByteArray).size = 1 := rfl; omega)
                                                                  try have c50b4 : (9223372036854775807 < (t210.extract 0 11).size + (⟨#[0]⟩ : ByteArray).size + (t210.extract 12 t210.size).size) = False := eq_false (by have h_ := c50; simp only [ByteArray.size_append] at h_; have l0_ : (⟨#[0]⟩ : ByteArray).size = 1 := rfl; omega)
                                                                  obtain ⟨y213, hy213⟩ : ∃ y_ : List ByteArray, y_ = (([(⟨#[]⟩ : ByteArray), t210.extract 0 43, t210 ++ (⟨#[120]⟩ : ByteArray), ((t210.extract 0 1) ++ (⟨#[1]⟩ : ByteArray)) ++ (t210.extract 2 t210.size), ((t210.extract 0 3) ++ (⟨#[1]⟩ : ByteArray)) ++ (t210.extract 4 t210.size), ((t210.extract 0 7) ++ (⟨#[0]⟩ : ByteArray)) ++ (t210.extract 8 t210.size), ((t210.extract 0 11) ++ (⟨#[0]⟩ : ByteArray)) ++ (t210.extract 12 t210.size)] : List ByteArray)) := ⟨_, rfl⟩
                                                                  replace H : (if 0 ≤ (wrap64 (Int.tmod (IntKind.u64.wrap (a0)) 7)) then (if (wrap64 (Int.tmod (IntKind.u64.wrap (a0)) 7)) < (y213.length : Int) then ((trailer_Get.f kj12 (rdOf ByteArray.empty y213 (wrap64 (Int.tmod (IntKind.u64.wrap (a0)) 7)))).bind fun bt217 => ((trailer_May.f ((rd_T53 y203 (ji8)).f0) ((rd_T53 y203 (ji8)).f1) ((rd_T53 y203 (ji8)).f2) ((rd_T53 y203 (ji8)).f3)).bind fun t223 => (if t223 = true then (some false) else (if t208.toList = ([] : List UInt8) then ((watchwordlaw0_Num.f t209).bind fun t224 => (if t224 = 1300 then ((watchwordlaw0_Num.f bt217.2.2.2.2).bind fun t225 => (some (t225 == 1300))) else (some false))) else (some false))))) else (none)) else (none)) = some r := by first | (rw [hy213]; with_reducible exact H) | (have H2_ := (Option.bind_some _ _).symm.trans H; rw [hy213]; with_reducible exact H2_) | (have H2_ := (Option.bind_some _ _).symm.trans H; with_reducible exact H2_) | with_reducible exact H | (rw [hy213]; exact H) | exact H
                                                                  have Ny213 := Aside0.mk hy213
                                                                  clear hy213
                                                                  obtain ⟨ji51, hji51⟩ : ∃ j_ : Int, (wrap64 (Int.tmod (IntKind.u64.wrap (a0)) 7)) = j_ := ⟨_, rfl⟩
                                                                  replace H : (if 0 ≤ (ji51) then (if (ji51) < (y213.length : Int) then ((trailer_Get.f kj12 (rdOf ByteArray.empty y213 (ji51))).bind fun bt217 => ((trailer_May.f ((rd_T53 y203 (ji8)).f0) ((rd_T53 y203 (ji8)).f1) ((rd_T53 y203 (ji8)).f2) ((rd_T53 y203 (ji8)).f3)).bind fun t223 => (if t223 = true then (some false) else (if t208.toList = ([] : List UInt8) then ((watchwordlaw0_Num.f t209).bind fun t224 => (if t224 = 1300 then ((watchwordlaw0_Num.f bt217.2.2.2.2).bind fun t225 => (some (t225 == 1300))) else (some false))) else (some false))))) else (none)) else (none)) = some r := by first | (rw [hji51] at H; exact H) | (simp only [hji51] at H ⊢; exact H)
                                                                  have hji51w : (IntKind.i64.wrap (Int.tmod (IntKind.u64.wrap (a0)) 7)) = ji51 := (i64_w _).trans hji51
                                                                  by_cases c52 : 0 ≤ (ji51)
                                                                  · rw [if_pos c52] at H
                                                                    have c52b0 : decide (0 ≤ (ji51)) = true := decide_eq_true c52
                                                                    clear c52
                                                                    by_cases c53 : (ji51) < (y213.length : Int)
                                                                    · rw [if_pos c53] at H
                                                                      have c53b0 : decide ((ji51) < (y213.length : Int)) = true := decide_eq_true c53
                                                                      clear c53
                                                                      replace H := Option.bind_eq_some_iff.mp H
                                                                      obtain ⟨⟨t217, t218, t219, t220, t221⟩, A540, H⟩ := H
                                                                      replace H : ((trailer_May.f ((rd_T53 y203 (ji8)).f0) ((rd_T53 y203 (ji8)).f1) ((rd_T53 y203 (ji8)).f2) ((rd_T53 y203 (ji8)).f3)).bind fun t223 => (if t223 = true then (some false) else (if t208.toList = ([] : List UInt8) then ((watchwordlaw0_Num.f t209).bind fun t224 => (if t224 = 1300 then ((watchwordlaw0_Num.f t221).bind fun t225 => (some (t225 == 1300))) else (some false))) else (some false)))) = some r := H
                                                                      have A54 := Aside0.mk A540
                                                                      clear A540
                                                                      replace H := Option.bind_eq_some_iff.mp H
                                                                      obtain ⟨t223, A550, H⟩ := H
                                                                      replace H : (if t223 = true then (some false) else (if t208.toList = ([] : List UInt8) then ((watchwordlaw0_Num.f t209).bind fun t224 => (if t224 = 1300 then ((watchwordlaw0_Num.f t221).bind fun t225 => (some (t225 == 1300))) else (some false))) else (some false))) = some r := H
                                                                      have A55 := Aside0.mk A550
                                                                      clear A550
                                                                      by_cases c56 : t223 = true
                                                                      · subst c56
                                                                        have H1 : (some false) = some r := by rw [if_pos rfl] at H; exact H
                                                                        clear H
                                                                        have H := H1
                                                                        clear H1
                                                                        obtain rfl := Option.some.inj H
                                                                        try go_wp2
                                                                        have n0_ := Aside0.mk (blk_drew BK207.out)
                                                                        have n1_ := Aside0.mk (below_drew1 HB.out)
                                                                        clear BK207
                                                                        clear HB
                                                                        have BK207 := n0_
                                                                        have HB := n1_
                                                                        clear n0_ n1_
                                                                        refine start_ (n := 30) (S := fun w' => True) (ds := []) #[false, false, false, false, false, false, false, false, false, false, false, false, false, false, false, false, false, false, false, false, false, false, false, false, false, false, false, false, false, false] (by kernel_rfl) rfl rfl trivial (fun hHeld => ?_); refine with_tabW watchwordlaw13_TrailerForms.tab11 watchwordlaw13_TrailerForms.bits11 (fun HT_ HW_ => ?_)
                                                                        generalize wc.drew = w57 at BK207 HB hHeld ⊢
                                                                        refine pure_ (i := 0) (N := some 80) (v := ?_) (a' := ?_) #[true, false, false, false, false, false, false, false, false, false, false, false, false, false, false, false, false, false, false, false, false, false, false, false, false, false, false, false, false, false] rfl rfl (any_of HT_.out (by kernel_rfl)) (fun _ _ _ h => h) (Or.inl ⟨by rfl, ?_⟩) ?_ ?_
                                                                        rotate_left
                                                                        · intro w'
                                                                          go_simp
                                                                          with_reducible rfl
                                                                        rotate_left
                                                                        · simp only [Act.put, List.setIfInBounds_toArray, List.set_cons_zero, List.set_cons_succ, i64_w, i32_w]
                                                                          rfl
                                                                        refine pure_ (i := 1) (N := some 81) (v := ?_) (a' := ?_) #[true, true, false, false, false, false, false, false, false, false, false, false, false, false, false, false, false, false, false, false, false, false, false, false, false, false, false, false, false, false] rfl rfl (any_of HT_.out (by kernel_rfl)) (fun _ _ _ h => h) (Or.inl ⟨by rfl, ?_⟩) ?_ ?_
                                                                        rotate_left
                                                                        · intro w'
                                                                          go_simp
                                                                          with_reducible rfl
                                                                        rotate_left
                                                                        · simp only [Act.put, List.setIfInBounds_toArray, List.set_cons_zero, List.set_cons_succ, i64_w, i32_w]
                                                                          rfl
                                                                        refine pure_ (i := 2) (N := some 82) (v := ?_) (a' := ?_) #[true, true, true, false, false, false, false, false, false, false, false, false, false, false, false, false, false, false, false, false, false, false, false, false, false, false, false, false, false, false] rfl rfl (any_of HT_.out (by kernel_rfl)) (fun _ _ _ h => h) (Or.inl ⟨by rfl, ?_⟩) ?_ ?_
                                                                        rotate_left
                                                                        · intro w'
                                                                          go_simp
                                                                          with_reducible rfl
                                                                        rotate_left
                                                                        · simp only [Act.put, List.setIfInBounds_toArray, List.set_cons_zero, List.set_cons_succ, i64_w, i32_w]
                                                                          rfl
                                                                        refine pure_ (i := 3) (N := some 83) (v := ?_) (a' := ?_) #[true, true, true, true, false, false, false, false, false, false, false, false, false, false, false, false, false, false, false, false, false, false, false, false, false, false, false, false, false, false] rfl rfl (any_of HT_.out (by kernel_rfl)) (fun _ _ _ h => h) (Or.inl ⟨by rfl, ?_⟩) ?_ ?_
                                                                        rotate_left
                                                                        · intro w'
                                                                          go_simp
                                                                          with_reducible rfl
                                                                        rotate_left
                                                                        · simp only [Act.put, List.setIfInBounds_toArray, List.set_cons_zero, List.set_cons_succ, i64_w, i32_w]
                                                                          rfl
                                                                        refine pure_ (i := 4) (N := some 84) (v := ?_) (a' := ?_) #[true, true, true, true, true, false, false, false, false, false, false, false, false, false, false, false, false, false, false, false, false, false, false, false, false, false, false, false, false, false] rfl rfl (any_of HT_.out (by kernel_rfl)) (fun _ _ _ h => h) (Or.inl ⟨by rfl, ?_⟩) ?_ ?_
                                                                        rotate_left
                                                                        · intro w'
                                                                          go_simp
                                                                          with_reducible rfl
                                                                        rotate_left
                                                                        · simp only [Act.put, List.setIfInBounds_toArray, List.set_cons_zero, List.set_cons_succ, i64_w, i32_w]
                                                                          rfl
                                                                        refine pure_ (i := 5) (N := some 85) (v := ?_) (a' := ?_) #[true, true, true, true, true, true, false, false, false, false, false, false, false, false, false, false, false, false, false, false, false, false, false, false, false, false, false, false, false, false] rfl rfl (any_of HT_.out (by kernel_rfl)) (fun _ _ _ h => h) (Or.inl ⟨by rfl, ?_⟩) ?_ ?_
                                                                        rotate_left
                                                                        · intro w'
                                                                          go_simp
                                                                          with_reducible rfl
                                                                        rotate_left
                                                                        · simp only [Act.put, List.setIfInBounds_toArray, List.set_cons_zero, List.set_cons_succ, i64_w, i32_w]
                                                                          rfl
                                                                        refine pure_ (i := 6) (N := some 86) (v := ?_) (a' := ?_) #[true, true, true, true, true, true, true, false, false, false, false, false, false, false, false, false, false, false, false, false, false, false, false, false, false, false, false, false, false, false] rfl rfl (any_of HT_.out (by kernel_rfl)) (fun _ _ _ h => h) (Or.inl ⟨by rfl, ?_⟩) ?_ ?_
                                                                        rotate_left
                                                                        · intro w'
                                                                          go_simp
                                                                          with_reducible rfl
                                                                        rotate_left
                                                                        · simp only [Act.put, List.setIfInBounds_toArray, List.set_cons_zero, List.set_cons_succ, i64_w, i32_w]
                                                                          rfl
                                                                        refine pure_ (i := 7) (N := some 87) (v := ?_) (a' := ?_) #[true, true, true, true, true, true, true, true, false, false, false, false, false, false, false, false, false, false, false, false, false, false, false, false, false, false, false, false, false, false] rfl rfl (any_of HT_.out (by kernel_rfl)) (fun _ _ _ h => h) (Or.inl ⟨by rfl, ?_⟩) ?_ ?_
                                                                        rotate_left
                                                                        · intro w'
                                                                          go_simp
                                                                          with_reducible rfl
                                                                        rotate_left
                                                                        · simp only [Act.put, List.setIfInBounds_toArray, List.set_cons_zero, List.set_cons_succ, i64_w, i32_w]
                                                                          rfl
                                                                        refine pure_ (i := 8) (N := some 88) (v := ?_) (a' := ?_) #[true, true, true, true, true, true, true, true, true, false, false, false, false, false, false, false, false, false, false, false, false, false, false, false, false, false, false, false, false, false] rfl rfl (any_of HT_.out (by kernel_rfl)) (fun _ _ _ h => h) (Or.inl ⟨by rfl, ?_⟩) ?_ ?_
                                                                        rotate_left
                                                                        · intro w'
                                                                          go_simp
                                                                          with_reducible rfl
                                                                        rotate_left
                                                                        · simp only [Act.put, List.setIfInBounds_toArray, List.set_cons_zero, List.set_cons_succ, i64_w, i32_w]
                                                                          rfl
                                                                        refine pure_ (i := 9) (N := some 89) (v := ?_) (a' := ?_) #[true, true, true, true, true, true, true, true, true, true, false, false, false, false, false, false, false, false, false, false, false, false, false, false, false, false, false, false, false, false] rfl rfl (any_of HT_.out (by kernel_rfl)) (fun _ _ _ h => h) (Or.inl ⟨by rfl, ?_⟩) ?_ ?_
                                                                        rotate_left
                                                                        · intro w'
                                                                          go_simp
                                                                          with_reducible rfl
                                                                        rotate_left
                                                                        · simp only [Act.put, List.setIfInBounds_toArray, List.set_cons_zero, List.set_cons_succ, i64_w, i32_w]
                                                                          rfl
                                                                        refine pure_ (i := 10) (N := some 90) (v := ?_) (a' := ?_) #[true, true, true, true, true, true, true, true, true, true, true, false, false, false, false, false, false, false, false, false, false, false, false, false, false, false, false, false, false, false] rfl rfl (any_of HT_.out (by kernel_rfl)) (fun _ _ _ h => h) (Or.inl ⟨by rfl, ?_⟩) ?_ ?_
                                                                        rotate_left
                                                                        · intro w'
                                                                          go_simp
                                                                          with_reducible rfl
                                                                        rotate_left
                                                                        · simp only [Act.put, List.setIfInBounds_toArray, List.set_cons_zero, List.set_cons_succ, i64_w, i32_w]
                                                                          rfl
                                                                        refine pure_ (i := 11) (N := some 91) (v := ?_) (a' := ?_) #[true, true, true, true, true, true, true, true, true, true, true, true, false, false, false, false, false, false, false, false, false, false, false, false, false, false, false, false, false, false] rfl rfl (any_of HT_.out (by kernel_rfl)) (fun _ _ _ h => h) (Or.inl ⟨by rfl, ?_⟩) ?_ ?_
                                                                        rotate_left
                                                                        · intro w'
                                                                          go_simp
                                                                          with_reducible rfl
                                                                        rotate_left
                                                                        · simp only [Act.put, List.setIfInBounds_toArray, List.set_cons_zero, List.set_cons_succ, i64_w, i32_w]
                                                                          rfl
                                                                        refine pure_ (i := 12) (N := some 92) (v := ?_) (a' := ?_) #[true, true, true, true, true, true, true, true, true, true, true, true, true, false, false, false, false, false, false, false, false, false, false, false, false, false, false, false, false, false] rfl rfl (any_of HT_.out (by kernel_rfl)) (fun _ _ _ h => h) (Or.inl ⟨by rfl, ?_⟩) ?_ ?_
                                                                        rotate_left
                                                                        · intro w'
                                                                          go_simp
                                                                          with_reducible rfl
                                                                        rotate_left
                                                                        · simp only [Act.put, List.setIfInBounds_toArray, List.set_cons_zero, List.set_cons_succ, i64_w, i32_w]
                                                                          rfl
                                                                        refine pure_ (i := 13) (N := some 93) (v := ?_) (a' := ?_) #[true, true, true, true, true, true, true, true, true, true, true, true, true, true, false, false, false, false, false, false, false, false, false, false, false, false, false, false, false, false] rfl rfl (any_of HT_.out (by kernel_rfl)) (fun _ _ _ h => h) (Or.inl ⟨by rfl, ?_⟩) ?_ ?_
                                                                        rotate_left
                                                                        · intro w'
                                                                          go_simp
                                                                          with_reducible rfl
                                                                        rotate_left
                                                                        · simp only [Act.put, List.setIfInBounds_toArray, List.set_cons_zero, List.set_cons_succ, i64_w, i32_w]
                                                                          rfl
                                                                        refine pure_ (i := 14) (N := some 94) (v := ?_) (a' := ?_) #[true, true, true, true, true, true, true, true, true, true, true, true, true, true, true, false, false, false, false, false, false, false, false, false, false, false, false, false, false, false] rfl rfl (any_of HT_.out (by kernel_rfl)) (fun _ _ _ h => h) (Or.inl ⟨by rfl, ?_⟩) ?_ ?_
                                                                        rotate_left
                                                                        · intro w'
                                                                          go_simp
                                                                          with_reducible rfl
                                                                        rotate_left
                                                                        · simp only [Act.put, List.setIfInBounds_toArray, List.set_cons_zero, List.set_cons_succ, i64_w, i32_w]
                                                                          rfl
                                                                        refine pure_ (i := 15) (N := some 95) (v := ?_) (a' := ?_) #[true, true, true, true, true, true, true, true, true, true, true, true, true, true, true, true, false, false, false, false, false, false, false, false, false, false, false, false, false, false] rfl rfl (any_of HT_.out (by kernel_rfl)) (fun _ _ _ h => h) (Or.inl ⟨by rfl, ?_⟩) ?_ ?_
                                                                        rotate_left
                                                                        · intro w'
                                                                          go_simp
                                                                          with_reducible rfl
                                                                        rotate_left
                                                                        · simp only [Act.put, List.setIfInBounds_toArray, List.set_cons_zero, List.set_cons_succ, i64_w, i32_w]
                                                                          rfl
                                                                        refine pure_ (i := 16) (N := some 96) (v := ?_) (a' := ?_) #[true, true, true, true, true, true, true, true, true, true, true, true, true, true, true, true, true, false, false, false, false, false, false, false, false, false, false, false, false, false] rfl rfl (any_of HT_.out (by kernel_rfl)) (fun _ _ _ h => h) (Or.inl ⟨by rfl, ?_⟩) ?_ ?_
                                                                        rotate_left
                                                                        · intro w'
                                                                          go_simp
                                                                          with_reducible rfl
                                                                        rotate_left
                                                                        · simp only [Act.put, List.setIfInBounds_toArray, List.set_cons_zero, List.set_cons_succ, i64_w, i32_w]
                                                                          rfl
                                                                        refine pure_ (i := 17) (N := some 97) (v := ?_) (a' := ?_) #[true, true, true, true, true, true, true, true, true, true, true, true, true, true, true, true, true, true, false, false, false, false, false, false, false, false, false, false, false, false] rfl rfl (any_of HT_.out (by kernel_rfl)) (fun _ _ _ h => h) (Or.inl ⟨by rfl, ?_⟩) ?_ ?_
                                                                        rotate_left
                                                                        · intro w'
                                                                          go_simp
                                                                          with_reducible rfl
                                                                        rotate_left
                                                                        · simp only [Act.put, List.setIfInBounds_toArray, List.set_cons_zero, List.set_cons_succ, i64_w, i32_w]
                                                                          rfl
                                                                        refine pure_ (i := 18) (N := some 98) (v := ?_) (a' := ?_) #[true, true, true, true, true, true, true, true, true, true, true, true, true, true, true, true, true, true, true, false, false, false, false, false, false, false, false, false, false, false] rfl rfl (any_of HT_.out (by kernel_rfl)) (fun _ _ _ h => h) (Or.inl ⟨by rfl, ?_⟩) ?_ ?_
                                                                        rotate_left
                                                                        · intro w'
                                                                          go_simp
                                                                          with_reducible rfl
                                                                        rotate_left
                                                                        · simp only [Act.put, List.setIfInBounds_toArray, List.set_cons_zero, List.set_cons_succ, i64_w, i32_w]
                                                                          rfl
                                                                        refine pure_ (i := 19) (N := some 99) (v := ?_) (a' := ?_) #[true, true, true, true, true, true, true, true, true, true, true, true, true, true, true, true, true, true, true, true, false, false, false, false, false, false, false, false, false, false] rfl rfl (any_of HT_.out (by kernel_rfl)) (fun _ _ _ h => h) (Or.inl ⟨by rfl, ?_⟩) ?_ ?_
                                                                        rotate_left
                                                                        · intro w'
                                                                          go_simp
                                                                          with_reducible rfl
                                                                        rotate_left
                                                                        · simp only [Act.put, List.setIfInBounds_toArray, List.set_cons_zero, List.set_cons_succ, i64_w, i32_w]
                                                                          rfl
                                                                        refine pure_ (i := 20) (N := some 100) (v := ?_) (a' := ?_) #[true, true, true, true, true, true, true, true, true, true, true, true, true, true, true, true, true, true, true, true, true, false, false, false, false, false, false, false, false, false] rfl rfl (any_of HT_.out (by kernel_rfl)) (fun _ _ _ h => h) (Or.inl ⟨by rfl, ?_⟩) ?_ ?_
                                                                        rotate_left
                                                                        · intro w'
                                                                          go_simp
                                                                          with_reducible rfl
                                                                        rotate_left
                                                                        · simp only [Act.put, List.setIfInBounds_toArray, List.set_cons_zero, List.set_cons_succ, i64_w, i32_w]
                                                                          rfl
                                                                        refine pure_ (i := 21) (N := some 101) (v := ?_) (a' := ?_) #[true, true, true, true, true, true, true, true, true, true, true, true, true, true, true, true, true, true, true, true, true, true, false, false, false, false, false, false, false, false] rfl rfl (any_of HT_.out (by kernel_rfl)) (fun _ _ _ h => h) (Or.inl ⟨by rfl, ?_⟩) ?_ ?_
                                                                        rotate_left
                                                                        · intro w'
                                                                          go_simp
                                                                          with_reducible rfl
                                                                        rotate_left
                                                                        · simp only [Act.put, List.setIfInBounds_toArray, List.set_cons_zero, List.set_cons_succ, i64_w, i32_w]
                                                                          rfl
                                                                        refine pure_ (i := 22) (N := some 102) (v := ?_) (a' := ?_) #[true, true, true, true, true, true, true, true, true, true, true, true, true, true, true, true, true, true, true, true, true, true, true, false, false, false, false, false, false, false] rfl rfl (any_of HT_.out (by kernel_rfl)) (fun _ _ _ h => h) (Or.inl ⟨by rfl, ?_⟩) ?_ ?_
                                                                        rotate_left
                                                                        · intro w'
                                                                          go_simp
                                                                          with_reducible rfl
                                                                        rotate_left
                                                                        · simp only [Act.put, List.setIfInBounds_toArray, List.set_cons_zero, List.set_cons_succ, i64_w, i32_w]
                                                                          rfl
                                                                        refine pure_ (i := 23) (N := some 103) (v := ?_) (a' := ?_) #[true, true, true, true, true, true, true, true, true, true, true, true, true, true, true, true, true, true, true, true, true, true, true, true, false, false, false, false, false, false] rfl rfl (any_of HT_.out (by kernel_rfl)) (fun _ _ _ h => h) (Or.inl ⟨by rfl, ?_⟩) ?_ ?_
                                                                        rotate_left
                                                                        · intro w'
                                                                          go_simp
                                                                          with_reducible rfl
                                                                        rotate_left
                                                                        · simp only [Act.put, List.setIfInBounds_toArray, List.set_cons_zero, List.set_cons_succ, i64_w, i32_w]
                                                                          rfl
                                                                        refine pure_ (i := 24) (N := some 104) (v := ?_) (a' := ?_) #[true, true, true, true, true, true, true, true, true, true, true, true, true, true, true, true, true, true, true, true, true, true, true, true, true, false, false, false, false, false] rfl rfl (any_of HT_.out (by kernel_rfl)) (fun _ _ _ h => h) (Or.inl ⟨by rfl, ?_⟩) ?_ ?_
                                                                        rotate_left
                                                                        · intro w'
                                                                          go_simp
                                                                          with_reducible rfl
                                                                        rotate_left
                                                                        · simp only [Act.put, List.setIfInBounds_toArray, List.set_cons_zero, List.set_cons_succ, i64_w, i32_w]
                                                                          rfl
                                                                        refine pure_ (i := 25) (N := some 105) (v := ?_) (a' := ?_) #[true, true, true, true, true, true, true, true, true, true, true, true, true, true, true, true, true, true, true, true, true, true, true, true, true, true, false, false, false, false] rfl rfl (any_of HT_.out (by kernel_rfl)) (fun _ _ _ h => h) (Or.inl ⟨by rfl, ?_⟩) ?_ ?_
                                                                        rotate_left
                                                                        · intro w'
                                                                          go_simp
                                                                          with_reducible rfl
                                                                        rotate_left
                                                                        · simp only [Act.put, List.setIfInBounds_toArray, List.set_cons_zero, List.set_cons_succ, i64_w, i32_w]
                                                                          rfl
                                                                        refine pure_ (i := 26) (N := some 106) (v := ?_) (a' := ?_) #[true, true, true, true, true, true, true, true, true, true, true, true, true, true, true, true, true, true, true, true, true, true, true, true, true, true, true, false, false, false] rfl rfl (any_of HT_.out (by kernel_rfl)) (fun _ _ _ h => h) (Or.inl ⟨by rfl, ?_⟩) ?_ ?_
                                                                        rotate_left
                                                                        · intro w'
                                                                          go_simp
                                                                          with_reducible rfl
                                                                        rotate_left
                                                                        · simp only [Act.put, List.setIfInBounds_toArray, List.set_cons_zero, List.set_cons_succ, i64_w, i32_w]
                                                                          rfl
                                                                        refine pure_ (i := 27) (N := some 107) (v := ?_) (a' := ?_) #[true, true, true, true, true, true, true, true, true, true, true, true, true, true, true, true, true, true, true, true, true, true, true, true, true, true, true, true, false, false] rfl rfl (any_of HT_.out (by kernel_rfl)) (fun _ _ _ h => h) (Or.inl ⟨by rfl, ?_⟩) ?_ ?_
                                                                        rotate_left
                                                                        · intro w'
                                                                          go_simp
                                                                          with_reducible rfl
                                                                        rotate_left
                                                                        · simp only [Act.put, List.setIfInBounds_toArray, List.set_cons_zero, List.set_cons_succ, i64_w, i32_w]
                                                                          rfl
                                                                        refine one_ (i := 28) (N := some 108) #[true, true, true, true, true, true, true, true, true, true, true, true, true, true, true, true, true, true, true, true, true, true, true, true, true, true, true, true, true, false] rfl rfl (one_of HT_.out (by kernel_rfl)) (by decide) (fun K hK => ?_)
                                                                        refine Kd.R_lit_step Kd.string _ 9 ?hg (N := 108) ?hd (xs := ([(⟨#[]⟩ : ByteArray), t210.extract 0 43, t210 ++ (⟨#[120]⟩ : ByteArray), ((t210.extract 0 1) ++ (⟨#[1]⟩ : ByteArray)) ++ (t210.extract 2 t210.size), ((t210.extract 0 3) ++ (⟨#[1]⟩ : ByteArray)) ++ (t210.extract 4 t210.size), ((t210.extract 0 7) ++ (⟨#[0]⟩ : ByteArray)) ++ (t210.extract 8 t210.size), ((t210.extract 0 11) ++ (⟨#[0]⟩ : ByteArray)) ++ (t210.extract 12 t210.size)] : List ByteArray)) (inner := [.string (⟨#[]⟩ : ByteArray), .string (t210.extract 0 43), .string (t210 ++ (⟨#[120]⟩ : ByteArray)), .string (((t210.extract 0 1) ++ (⟨#[1]⟩ : ByteArray)) ++ (t210.extract 2 t210.size)), .string (((t210.extract 0 3) ++ (⟨#[1]⟩ : ByteArray)) ++ (t210.extract 4 t210.size)), .string (((t210.extract 0 7) ++ (⟨#[0]⟩ : ByteArray)) ++ (t210.extract 8 t210.size)), .string (((t210.extract 0 11) ++ (⟨#[0]⟩ : ByteArray)) ++ (t210.extract 12 t210.size))]) (ok := fun _ => True) (okp := fun _ => True) ?hr ?hp (fun _ hk => hk) trivial (Below.refl _ _) (Nat.le_refl _) (by simp) ?_; (case hd => rfl); (case hg => rfl); (case hr => first | (go_simp; done) | (go_simp; rfl)); (case hp => exact (Reps.one (show Kd.M Kd.string _ _ _ (⟨#[]⟩ : ByteArray) [.string (⟨#[]⟩ : ByteArray)] from rfl) (Reps.one (show Kd.M Kd.string _ _ _ (t210.extract 0 43) [.string (t210.extract 0 43)] from rfl) (Reps.one (show Kd.M Kd.string _ _ _ (t210 ++ (⟨#[120]⟩ : ByteArray)) [.string (t210 ++ (⟨#[120]⟩ : ByteArray))] from rfl) (Reps.one (show Kd.M Kd.string _ _ _ (((t210.extract 0 1) ++ (⟨#[1]⟩ : ByteArray)) ++ (t210.extract 2 t210.size)) [.string (((t210.extract 0 1) ++ (⟨#[1]⟩ : ByteArray)) ++ (t210.extract 2 t210.size))] from rfl) (Reps.one (show Kd.M Kd.string _ _ _ (((t210.extract 0 3) ++ (⟨#[1]⟩ : ByteArray)) ++ (t210.extract 4 t210.size)) [.string (((t210.extract 0 3) ++ (⟨#[1]⟩ : ByteArray)) ++ (t210.extract 4 t210.size))] from rfl) (Reps.one (show Kd.M Kd.string _ _ _ (((t210.extract 0 7) ++ (⟨#[0]⟩ : ByteArray)) ++ (t210.extract 8 t210.size)) [.string (((t210.extract 0 7) ++ (⟨#[0]⟩ : ByteArray)) ++ (t210.extract 8 t210.size))] from rfl) (Reps.one (show Kd.M Kd.string _ _ _ (((t210.extract 0 11) ++ (⟨#[0]⟩ : ByteArray)) ++ (t210.extract 12 t210.size)) [.string (((t210.extract 0 11) ++ (⟨#[0]⟩ : ByteArray)) ++ (t210.extract 12 t210.size))] from rfl) (Reps.none _ _)))))))))
                                                                        intro v214 w58 ho59 hb hg_ hnew_
                                                                        clear hg_ hnew_
                                                                        (first | rw [← Ny213.out] at ho59 | (simp only [Int.reduceToNat] at ho59; rw [← Ny213.out] at ho59))
                                                                        have n0_ := Aside0.mk (Kd.R_lower ho59 (below_size (by repeat (first | (with_reducible first | exact HB.out | apply below_alloc | apply pw_below_drewN | apply below_drew1 | refine below_set ?_ GE207.out) | exact HB.out))))
                                                                        have n1_ := Aside0.mk (blk_below (g := gb207) (o := .cells #[.int .i64 ((rd_T53 y203 (ji8)).f0), .int .i64 ((rd_T53 y203 (ji8)).f1), .int .i64 ((rd_T53 y203 (ji8)).f2), .string ((rd_T53 y203 (ji8)).f3)] 53 (0, 0)) (by (with_reducible repeat (first | refine blk_drewN ?_ _ | refine blk_drew ?_ | refine blk_alloc ?_ _)); exact BK207.out) hb)
                                                                        have n2_ := Aside0.mk (below_step (by repeat (first | (with_reducible first | exact HB.out | apply below_alloc | apply pw_below_drewN | apply below_drew1 | refine below_set ?_ GE207.out) | exact HB.out)) hb)
                                                                        clear BK207
                                                                        clear HB
                                                                        have HO215 := n0_
                                                                        have BK207 := n1_
                                                                        have HB := n2_
                                                                        clear n0_ n1_ n2_
                                                                        clear hb ho59
                                                                        refine hK.out _ _ trivial (fun hHeld => ?_)
                                                                        clear hK K
                                                                        refine norm_ (a' := ?_) ?_ ?_
                                                                        rotate_left
                                                                        · show Act.put _ (some 108) _ = _
                                                                          simp only [Act.put, List.setIfInBounds_toArray, List.set_cons_zero, List.set_cons_succ, i64_w, i32_w]
                                                                          rfl
                                                                        refine pure_ (i := 29) (N := some 13) (v := ?_) (a' := ?_) #[true, true, true, true, true, true, true, true, true, true, true, true, true, true, true, true, true, true, true, true, true, true, true, true, true, true, true, true, true, true] rfl rfl (any_of HT_.out (by kernel_rfl)) (fun _ _ _ h => h) (Or.inl ⟨by rfl, ?_⟩) ?_ ?_
                                                                        rotate_left
                                                                        · intro w'
                                                                          go_simp
                                                                          with_reducible rfl
                                                                        rotate_left
                                                                        · simp only [Act.put, List.setIfInBounds_toArray, List.set_cons_zero, List.set_cons_succ, i64_w, i32_w]
                                                                          rfl
                                                                        refine done_ (done_of HT_.out (by kernel_rfl)) ?_
                                                                        obtain ⟨Ao60, co60, eo60⟩ := Kd.R_slice HO215.out
                                                                        subst eo60
                                                                        have p216 : 0 ≤ ((ji51) : Int) := of_decide_eq_true (by first | (with_reducible assumption) | assumption)
                                                                        have q216 : (ji51) < (y213.length : Int) := of_decide_eq_true (by first | (with_reducible assumption) | assumption)
                                                                        obtain ⟨ad216, e216, hx216_0⟩ := Kd.at_string (Kd.R_reads' HO215.out).2.2 (ji51) p216 q216
                                                                        cases e216
                                                                        replace p216 := eq_true p216
                                                                        replace q216 := eq_true q216
                                                                        try go_wp2_with (first | ((with_reducible refine gate_callee (f := 33) rfl ?_); refine goesL_ (some 117) rfl rfl Try.func33 (by kernel_rfl) rfl #[.string (rdOf ByteArray.empty y213 (ji51))] rfl (by (try simp only [List.map_toArray, List.map_cons, List.map_nil]); first | done | (simp only [hji51]; rfl) | rfl | (simp only [List.length_drop, List.length_take]; rfl)) ?_; (with_reducible refine (trailer_Get.calls kj12 (rdOf ByteArray.empty y213 (ji51)) t217 t218 t219 t220 t221 _ A54.out).mono ?_); rintro e w61 ⟨rfl, hb⟩; refine ⟨_, rfl, ?_⟩; have n0_ := Aside0.mk (Kd.R_below (by (with_reducible repeat (first | apply Kd.R_alloc | apply Kd.R_drewN | apply Kd.R_drew)); exact HO215.out) hb); have n1_ := Aside0.mk (blk_below (g := gb207) (o := .cells #[.int .i64 ((rd_T53 y203 (ji8)).f0), .int .i64 ((rd_T53 y203 (ji8)).f1), .int .i64 ((rd_T53 y203 (ji8)).f2), .string ((rd_T53 y203 (ji8)).f3)] 53 (0, 0)) (by (with_reducible repeat (first | refine blk_drewN ?_ _ | refine blk_drew ?_ | refine blk_alloc ?_ _)); exact BK207.out) hb); have n2_ := Aside0.mk (below_step (by repeat (first | (with_reducible first | exact HB.out | apply below_alloc | apply pw_below_drewN | apply below_drew1 | refine below_set ?_ GE207.out) | exact HB.out)) hb); clear HO215; clear BK207; clear HB; have HO215 := n0_; have BK207 := n1_; have HB := n2_; clear n0_ n1_ n2_; (try clear hb); (try clear hb2); (try clear hk); (try clear hi)) | ((with_reducible refine gate_dst (N := 14) rfl ?_); (try (refine gate_guard (by rfl) ?_; dsimp only)); refine box_event ?hg (N := 14) ?hd (cs := #[.int .i64 0, .int .i64 0, .int .i64 0, .string (⟨#[]⟩ : ByteArray)]) (t := 53) ?hr ?_; (case hd => rfl); (case hg => rfl); (case hr => first | (go_simp; done) | (go_simp; rfl)); intro gb222 hg w62 hbox hb; have n0_ := Aside0.mk (Kd.R_below (by (with_reducible repeat (first | apply Kd.R_alloc | apply Kd.R_drewN | apply Kd.R_drew)); exact HO215.out) hb); have n1_ := Aside0.mk (blk_below (g := gb207) (o := .cells #[.int .i64 ((rd_T53 y203 (ji8)).f0), .int .i64 ((rd_T53 y203 (ji8)).f1), .int .i64 ((rd_T53 y203 (ji8)).f2), .string ((rd_T53 y203 (ji8)).f3)] 53 (0, 0)) (by (with_reducible repeat (first | refine blk_drewN ?_ _ | refine blk_drew ?_ | refine blk_alloc ?_ _)); exact BK207.out) hb); have n2_ := Aside0.mk (below_step (by repeat (first | (with_reducible first | exact HB.out | apply below_alloc | apply pw_below_drewN | apply below_drew1 | refine below_set ?_ GE207.out) | exact HB.out)) hb); have n3_ := Aside0.mk (hbox); have n4_ := Aside0.mk ((by rw [hg]; exact (below_size (by repeat (first | (with_reducible first | exact HB.out | apply below_alloc | apply pw_below_drewN | apply below_drew1 | refine below_set ?_ GE207.out) | exact HB.out))) : w.heap.size ≤ gb222)); have n5_ := Aside0.mk ((by rw [hg]; exact (below_size (by repeat (first | (with_reducible first | exact HB.out | apply below_alloc | apply pw_below_drewN | apply below_drew1 | refine below_set ?_ GE207.out) | exact HB.out))) : w.heap.size ≤ gb222)); have n6_ := Aside0.mk ((by rw [hg]; exact Nat.ne_of_lt (blk_lt (g := gb207) (o := .cells #[.int .i64 ((rd_T53 y203 (ji8)).f0), .int .i64 ((rd_T53 y203 (ji8)).f1), .int .i64 ((rd_T53 y203 (ji8)).f2), .string ((rd_T53 y203 (ji8)).f3)] 53 (0, 0)) (by (with_reducible repeat (first | refine blk_drewN ?_ _ | refine blk_drew ?_ | refine blk_alloc ?_ _)); exact BK207.out)) : gb207 ≠ gb222)); have n7_ := Aside0.mk ((by rw [hg]; exact Nat.ne_of_gt (blk_lt (g := gb207) (o := .cells #[.int .i64 ((rd_T53 y203 (ji8)).f0), .int .i64 ((rd_T53 y203 (ji8)).f1), .int .i64 ((rd_T53 y203 (ji8)).f2), .string ((rd_T53 y203 (ji8)).f3)] 53 (0, 0)) (by (with_reducible repeat (first | refine blk_drewN ?_ _ | refine blk_drew ?_ | refine blk_alloc ?_ _)); exact BK207.out)) : gb222 ≠ gb207)); clear HO215; clear BK207; clear HB; have HO215 := n0_; have BK207 := n1_; have HB := n2_; have BK222 := n3_; have GW222 := n4_; have GE222 := n5_; have NB207_222 := n6_; have NB222_207 := n7_; clear n0_ n1_ n2_ n3_ n4_ n5_ n6_ n7_; clear hb hbox hg; have hnb63 := NB222_207.out; have hnc63 := NB207_222.out; have hcz64_0 : w62.cell? ⟨gb222, 0, none⟩ = some (.int .i64 0) := (blk_cell BK222.out 0).trans rfl; have hcz64_1 : w62.cell? ⟨gb222, 1, none⟩ = some (.int .i64 0) := (blk_cell BK222.out 1).trans rfl; have hcz64_2 : w62.cell? ⟨gb222, 2, none⟩ = some (.int .i64 0) := (blk_cell BK222.out 2).trans rfl; have hcz64_3 : w62.cell? ⟨gb222, 3, none⟩ = some (.string (⟨#[]⟩ : ByteArray)) := (blk_cell BK222.out 3).trans rfl; have hfz64_0 := blk_frozen BK222.out 0; have hfz64_1 := blk_frozen BK222.out 1; have hfz64_2 := blk_frozen BK222.out 2; have hfz64_3 := blk_frozen BK222.out 3; have hcz65_0 : w62.cell? ⟨gb207, 0, none⟩ = some (.int .i64 ((rd_T53 y203 (ji8)).f0)) := (blk_cell BK207.out 0).trans rfl; have hcz65_1 : w62.cell? ⟨gb207, 1, none⟩ = some (.int .i64 ((rd_T53 y203 (ji8)).f1)) := (blk_cell BK207.out 1).trans rfl; have hcz65_2 : w62.cell? ⟨gb207, 2, none⟩ = some (.int .i64 ((rd_T53 y203 (ji8)).f2)) := (blk_cell BK207.out 2).trans rfl; have hcz65_3 : w62.cell? ⟨gb207, 3, none⟩ = some (.string ((rd_T53 y203 (ji8)).f3)) := (blk_cell BK207.out 3).trans rfl; have hfz65_0 := blk_frozen BK207.out 0; have hfz65_1 := blk_frozen BK207.out 1; have hfz65_2 := blk_frozen BK207.out 2; have hfz65_3 := blk_frozen BK207.out 3) | ((with_reducible refine gate_callee (f := 35) rfl ?_); refine goesL_ (some 121) rfl rfl Try.func35 (by kernel_rfl) rfl #[.agg #[.int .i64 ((rd_T53 y203 (ji8)).f0), .int .i64 ((rd_T53 y203 (ji8)).f1), .int .i64 ((rd_T53 y203 (ji8)).f2), .string ((rd_T53 y203 (ji8)).f3)]] rfl (by (try simp only [List.map_toArray, List.map_cons, List.map_nil]); first | done | (simp only [hji8]; rfl) | rfl | (simp only [List.length_drop, List.length_take]; rfl)) ?_; (with_reducible refine (trailer_May.calls ((rd_T53 y203 (ji8)).f0) ((rd_T53 y203 (ji8)).f1) ((rd_T53 y203 (ji8)).f2) ((rd_T53 y203 (ji8)).f3) true _ A55.out).mono ?_); rintro e w66 ⟨rfl, hb⟩; refine ⟨_, rfl, ?_⟩; have n0_ := Aside0.mk (Kd.R_below (by (with_reducible repeat (first | apply Kd.R_alloc | apply Kd.R_drewN | apply Kd.R_drew)); exact (Kd.R_mono (Kd.R_far (p := ⟨gb222, 3, none⟩) (Kd.R_far (p := ⟨gb222, 2, none⟩) (Kd.R_far (p := ⟨gb222, 1, none⟩) (Kd.R_far (p := ⟨gb222, 0, none⟩) (Kd.R_types HO215.out BK222.out (by decide)) (fun _ hk => hk.2) (.int .i64 t217)) (fun _ hk => hk.2) (.int .i64 t218)) (fun _ hk => hk.2) (.int .i64 t219)) (fun _ hk => hk.2) (.string t220)) (fun _ h_ => h_.1))) hb); have n1_ := Aside0.mk (blk_below (g := gb207) (o := .cells #[.int .i64 ((rd_T53 y203 (ji8)).f0), .int .i64 ((rd_T53 y203 (ji8)).f1), .int .i64 ((rd_T53 y203 (ji8)).f2), .string ((rd_T53 y203 (ji8)).f3)] 53 (0, 0)) (by (with_reducible repeat (first | refine blk_drewN ?_ _ | refine blk_drew ?_ | refine blk_alloc ?_ _)); refine blk_far ?_ NB207_222.out _; (with_reducible repeat (first | refine blk_drewN ?_ _ | refine blk_drew ?_ | refine blk_alloc ?_ _)); refine blk_far ?_ NB207_222.out _; (with_reducible repeat (first | refine blk_drewN ?_ _ | refine blk_drew ?_ | refine blk_alloc ?_ _)); refine blk_far ?_ NB207_222.out _; (with_reducible repeat (first | refine blk_drewN ?_ _ | refine blk_drew ?_ | refine blk_alloc ?_ _)); refine blk_far ?_ NB207_222.out _; (with_reducible repeat (first | refine blk_drewN ?_ _ | refine blk_drew ?_ | refine blk_alloc ?_ _)); exact BK207.out) hb); have n2_ := Aside0.mk (blk_below (g := gb222) (o := .cells #[.int .i64 t217, .int .i64 t218, .int .i64 t219, .string t220] 53 (0, 0)) (by (with_reducible repeat (first | refine blk_drewN ?_ _ | refine blk_drew ?_ | refine blk_alloc ?_ _)); refine blk_put (cs := #[.int .i64 t217, .int .i64 t218, .int .i64 t219, .string (⟨#[]⟩ : ByteArray)]) ?_ 3 _ rfl; (with_reducible repeat (first | refine blk_drewN ?_ _ | refine blk_drew ?_ | refine blk_alloc ?_ _)); refine blk_put (cs := #[.int .i64 t217, .int .i64 t218, .int .i64 0, .string (⟨#[]⟩ : ByteArray)]) ?_ 2 _ rfl; (with_reducible repeat (first | refine blk_drewN ?_ _ | refine blk_drew ?_ | refine blk_alloc ?_ _)); refine blk_put (cs := #[.int .i64 t217, .int .i64 0, .int .i64 0, .string (⟨#[]⟩ : ByteArray)]) ?_ 1 _ rfl; (with_reducible repeat (first | refine blk_drewN ?_ _ | refine blk_drew ?_ | refine blk_alloc ?_ _)); refine blk_put (cs := #[.int .i64 0, .int .i64 0, .int .i64 0, .string (⟨#[]⟩ : ByteArray)]) ?_ 0 _ rfl; (with_reducible repeat (first | refine blk_drewN ?_ _ | refine blk_drew ?_ | refine blk_alloc ?_ _)); exact BK222.out) hb); have n3_ := Aside0.mk (below_step (by repeat (first | (with_reducible first | exact HB.out | apply below_alloc | apply pw_below_drewN | apply below_drew1 | refine below_set ?_ GE207.out | refine below_set ?_ GE222.out) | exact HB.out)) hb); clear HO215; clear BK207; clear BK222; clear HB; have HO215 := n0_; have BK207 := n1_; have BK222 := n2_; have HB := n3_; clear n0_ n1_ n2_ n3_; (try clear hb); (try clear hb2); (try clear hk); (try clear hi)))
                                                                        go_ret
                                                                        exact ⟨by first | rfl | (simp [errW_none, errW_some] <;> rfl) | (simp only [← hji8, ← hji51]; first | rfl | (simp [errW_none, errW_some] <;> rfl)) | (simp [*, errW_none, errW_some] <;> rfl), by repeat (first | (with_reducible first | exact HB.out | apply below_alloc | apply pw_below_drewN | apply below_drew1 | refine below_set ?_ GE207.out | refine below_set ?_ GE222.out) | exact HB.out)⟩
                                                                      · replace c56 := Bool.eq_false_iff.mpr c56
                                                                        subst c56
                                                                        have H1 : (if t208.toList = ([] : List UInt8) then ((watchwordlaw0_Num.f t209).bind fun t224 => (if t224 = 1300 then ((watchwordlaw0_Num.f t221).bind fun t225 => (some (t225 == 1300))) else (some false))) else (some false)) = some r := by rw [if_neg (show ¬ (false = true) by decide)] at H; exact H
                                                                        clear H
                                                                        have H := H1
                                                                        clear H1
                                                                        by_cases c67 : t208.toList = ([] : List UInt8)
                                                                        · rw [if_pos c67] at H
                                                                          have c67b0 : (t208.toList == ([] : List UInt8)) = true := beq_iff_eq.mpr c67
                                                                          have c67b1 : (t208.toList != ([] : List UInt8)) = false := bne_eq_false_iff_eq.mpr c67
                                                                          clear c67
                                                                          replace H := Option.bind_eq_some_iff.mp H
                                                                          obtain ⟨t224, A680, H⟩ := H
                                                                          replace H : (if t224 = 1300 then ((watchwordlaw0_Num.f t221).bind fun t225 => (some (t225 == 1300))) else (some false)) = some r := H
                                                                          have A68 := Aside0.mk A680
                                                                          clear A680
                                                                          by_cases c69 : t224 = 1300
                                                                          · rw [if_pos c69] at H
                                                                            have c69b0 : (t224 == 1300) = true := beq_iff_eq.mpr c69
                                                                            have c69b1 : (t224 != 1300) = false := bne_eq_false_iff_eq.mpr c69
                                                                            clear c69
                                                                            replace H := Option.bind_eq_some_iff.mp H
                                                                            obtain ⟨t225, A700, H⟩ := H
                                                                            replace H : (some (t225 == 1300)) = some r := H
                                                                            have A70 := Aside0.mk A700
                                                                            clear A700
                                                                            obtain rfl := Option.some.inj H
                                                                            try go_wp2
                                                                            have n0_ := Aside0.mk (blk_drew BK207.out)
                                                                            have n1_ := Aside0.mk (below_drew1 HB.out)
                                                                            clear BK207
                                                                            clear HB
                                                                            have BK207 := n0_
                                                                            have HB := n1_
                                                                            clear n0_ n1_
                                                                            refine start_ (n := 30) (S := fun w' => True) (ds := []) #[false, false, false, false, false, false, false, false, false, false, false, false, false, false, false, false, false, false, false, false, false, false, false, false, false, false, false, false, false, false] (by kernel_rfl) rfl rfl trivial (fun hHeld => ?_); refine with_tabW watchwordlaw13_TrailerForms.tab11 watchwordlaw13_TrailerForms.bits11 (fun HT_ HW_ => ?_)
                                                                            generalize wc.drew = w71 at BK207 HB hHeld ⊢
                                                                            refine pure_ (i := 0) (N := some 80) (v := ?_) (a' := ?_) #[true, false, false, false, false, false, false, false, false, false, false, false, false, false, false, false, false, false, false, false, false, false, false, false, false, false, false, false, false, false] rfl rfl (any_of HT_.out (by kernel_rfl)) (fun _ _ _ h => h) (Or.inl ⟨by rfl, ?_⟩) ?_ ?_
                                                                            rotate_left
                                                                            · intro w'
                                                                              go_simp
                                                                              with_reducible rfl
                                                                            rotate_left
                                                                            · simp only [Act.put, List.setIfInBounds_toArray, List.set_cons_zero, List.set_cons_succ, i64_w, i32_w]
                                                                              rfl
                                                                            refine pure_ (i := 1) (N := some 81) (v := ?_) (a' := ?_) #[true, true, false, false, false, false, false, false, false, false, false, false, false, false, false, false, false, false, false, false, false, false, false, false, false, false, false, false, false, false] rfl rfl (any_of HT_.out (by kernel_rfl)) (fun _ _ _ h => h) (Or.inl ⟨by rfl, ?_⟩) ?_ ?_
                                                                            rotate_left
                                                                            · intro w'
                                                                              go_simp
                                                                              with_reducible rfl
                                                                            rotate_left
                                                                            · simp only [Act.put, List.setIfInBounds_toArray, List.set_cons_zero, List.set_cons_succ, i64_w, i32_w]
                                                                              rfl
                                                                            refine pure_ (i := 2) (N := some 82) (v := ?_) (a' := ?_) #[true, true, true, false, false, false, false, false, false, false, false, false, false, false, false, false, false, false, false, false, false, false, false, false, false, false, false, false, false, false] rfl rfl (any_of HT_.out (by kernel_rfl)) (fun _ _ _ h => h) (Or.inl ⟨by rfl, ?_⟩) ?_ ?_
                                                                            rotate_left
                                                                            · intro w'
                                                                              go_simp
                                                                              with_reducible rfl
                                                                            rotate_left
                                                                            · simp only [Act.put, List.setIfInBounds_toArray, List.set_cons_zero, List.set_cons_succ, i64_w, i32_w]
                                                                              rfl
                                                                            refine pure_ (i := 3) (N := some 83) (v := ?_) (a' := ?_) #[true, true, true, true, false, false, false, false, false, false, false, false, false, false, false, false, false, false, false, false, false, false, false, false, false, false, false, false, false, false] rfl rfl (any_of HT_.out (by kernel_rfl)) (fun _ _ _ h => h) (Or.inl ⟨by rfl, ?_⟩) ?_ ?_
                                                                            rotate_left
                                                                            · intro w'
                                                                              go_simp
                                                                              with_reducible rfl
                                                                            rotate_left
                                                                            · simp only [Act.put, List.setIfInBounds_toArray, List.set_cons_zero, List.set_cons_succ, i64_w, i32_w]
                                                                              rfl
                                                                            refine pure_ (i := 4) (N := some 84) (v := ?_) (a' := ?_) #[true, true, true, true, true, false, false, false, false, false, false, false, false, false, false, false, false, false, false, false, false, false, false, false, false, false, false, false, false, false] rfl rfl (any_of HT_.out (by kernel_rfl)) (fun _ _ _ h => h) (Or.inl ⟨by rfl, ?_⟩) ?_ ?_
                                                                            rotate_left
                                                                            · intro w'
                                                                              go_simp
                                                                              with_reducible rfl
                                                                            rotate_left
                                                                            · simp only [Act.put, List.setIfInBounds_toArray, List.set_cons_zero, List.set_cons_succ, i64_w, i32_w]
                                                                              rfl
                                                                            refine pure_ (i := 5) (N := some 85) (v := ?_) (a' := ?_) #[true, true, true, true, true, true, false, false, false, false, false, false, false, false, false, false, false, false, false, false, false, false, false, false, false, false, false, false, false, false] rfl rfl (any_of HT_.out (by kernel_rfl)) (fun _ _ _ h => h) (Or.inl ⟨by rfl, ?_⟩) ?_ ?_
                                                                            rotate_left
                                                                            · intro w'
                                                                              go_simp
                                                                              with_reducible rfl
                                                                            rotate_left
                                                                            · simp only [Act.put, List.setIfInBounds_toArray, List.set_cons_zero, List.set_cons_succ, i64_w, i32_w]
                                                                              rfl
                                                                            refine pure_ (i := 6) (N := some 86) (v := ?_) (a' := ?_) #[true, true, true, true, true, true, true, false, false, false, false, false, false, false, false, false, false, false, false, false, false, false, false, false, false, false, false, false, false, false] rfl rfl (any_of HT_.out (by kernel_rfl)) (fun _ _ _ h => h) (Or.inl ⟨by rfl, ?_⟩) ?_ ?_
                                                                            rotate_left
                                                                            · intro w'
                                                                              go_simp
                                                                              with_reducible rfl
                                                                            rotate_left
                                                                            · simp only [Act.put, List.setIfInBounds_toArray, List.set_cons_zero, List.set_cons_succ, i64_w, i32_w]
                                                                              rfl
                                                                            refine pure_ (i := 7) (N := some 87) (v := ?_) (a' := ?_) #[true, true, true, true, true, true, true, true, false, false, false, false, false, false, false, false, false, false, false, false, false, false, false, false, false, false, false, false, false, false] rfl rfl (any_of HT_.out (by kernel_rfl)) (fun _ _ _ h => h) (Or.inl ⟨by rfl, ?_⟩) ?_ ?_
                                                                            rotate_left
                                                                            · intro w'
                                                                              go_simp
                                                                              with_reducible rfl
                                                                            rotate_left
                                                                            · simp only [Act.put, List.setIfInBounds_toArray, List.set_cons_zero, List.set_cons_succ, i64_w, i32_w]
                                                                              rfl
                                                                            refine pure_ (i := 8) (N := some 88) (v := ?_) (a' := ?_) #[true, true, true, true, true, true, true, true, true, false, false, false, false, false, false, false, false, false, false, false, false, false, false, false, false, false, false, false, false, false] rfl rfl (any_of HT_.out (by kernel_rfl)) (fun _ _ _ h => h) (Or.inl ⟨by rfl, ?_⟩) ?_ ?_
                                                                            rotate_left
                                                                            · intro w'
                                                                              go_simp
                                                                              with_reducible rfl
                                                                            rotate_left
                                                                            · simp only [Act.put, List.setIfInBounds_toArray, List.set_cons_zero, List.set_cons_succ, i64_w, i32_w]
                                                                              rfl
                                                                            refine pure_ (i := 9) (N := some 89) (v := ?_) (a' := ?_) #[true, true, true, true, true, true, true, true, true, true, false, false, false, false, false, false, false, false, false, false, false, false, false, false, false, false, false, false, false, false] rfl rfl (any_of HT_.out (by kernel_rfl)) (fun _ _ _ h => h) (Or.inl ⟨by rfl, ?_⟩) ?_ ?_
                                                                            rotate_left
                                                                            · intro w'
                                                                              go_simp
                                                                              with_reducible rfl
                                                                            rotate_left
                                                                            · simp only [Act.put, List.setIfInBounds_toArray, List.set_cons_zero, List.set_cons_succ, i64_w, i32_w]
                                                                              rfl
                                                                            refine pure_ (i := 10) (N := some 90) (v := ?_) (a' := ?_) #[true, true, true, true, true, true, true, true, true, true, true, false, false, false, false, false, false, false, false, false, false, false, false, false, false, false, false, false, false, false] rfl rfl (any_of HT_.out (by kernel_rfl)) (fun _ _ _ h => h) (Or.inl ⟨by rfl, ?_⟩) ?_ ?_
                                                                            rotate_left
                                                                            · intro w'
                                                                              go_simp
                                                                              with_reducible rfl
                                                                            rotate_left
                                                                            · simp only [Act.put, List.setIfInBounds_toArray, List.set_cons_zero, List.set_cons_succ, i64_w, i32_w]
                                                                              rfl
                                                                            refine pure_ (i := 11) (N := some 91) (v := ?_) (a' := ?_) #[true, true, true, true, true, true, true, true, true, true, true, true, false, false, false, false, false, false, false, false, false, false, false, false, false, false, false, false, false, false] rfl rfl (any_of HT_.out (by kernel_rfl)) (fun _ _ _ h => h) (Or.inl ⟨by rfl, ?_⟩) ?_ ?_
                                                                            rotate_left
                                                                            · intro w'
                                                                              go_simp
                                                                              with_reducible rfl
                                                                            rotate_left
                                                                            · simp only [Act.put, List.setIfInBounds_toArray, List.set_cons_zero, List.set_cons_succ, i64_w, i32_w]
                                                                              rfl
                                                                            refine pure_ (i := 12) (N := some 92) (v := ?_) (a' := ?_) #[true, true, true, true, true, true, true, true, true, true, true, true, true, false, false, false, false, false, false, false, false, false, false, false, false, false, false, false, false, false] rfl rfl (any_of HT_.out (by kernel_rfl)) (fun _ _ _ h => h) (Or.inl ⟨by rfl, ?_⟩) ?_ ?_
                                                                            rotate_left
                                                                            · intro w'
                                                                              go_simp
                                                                              with_reducible rfl
                                                                            rotate_left
                                                                            · simp only [Act.put, List.setIfInBounds_toArray, List.set_cons_zero, List.set_cons_succ, i64_w, i32_w]
                                                                              rfl
                                                                            refine pure_ (i := 13) (N := some 93) (v := ?_) (a' := ?_) #[true, true, true, true, true, true, true, true, true, true, true, true, true, true, false, false, false, false, false, false, false, false, false, false, false, false, false, false, false, false] rfl rfl (any_of HT_.out (by kernel_rfl)) (fun _ _ _ h => h) (Or.inl ⟨by rfl, ?_⟩) ?_ ?_
                                                                            rotate_left
                                                                            · intro w'
                                                                              go_simp
                                                                              with_reducible rfl
                                                                            rotate_left
                                                                            · simp only [Act.put, List.setIfInBounds_toArray, List.set_cons_zero, List.set_cons_succ, i64_w, i32_w]
                                                                              rfl
                                                                            refine pure_ (i := 14) (N := some 94) (v := ?_) (a' := ?_) #[true, true, true, true, true, true, true, true, true, true, true, true, true, true, true, false, false, false, false, false, false, false, false, false, false, false, false, false, false, false] rfl rfl (any_of HT_.out (by kernel_rfl)) (fun _ _ _ h => h) (Or.inl ⟨by rfl, ?_⟩) ?_ ?_
                                                                            rotate_left
                                                                            · intro w'
                                                                              go_simp
                                                                              with_reducible rfl
                                                                            rotate_left
                                                                            · simp only [Act.put, List.setIfInBounds_toArray, List.set_cons_zero, List.set_cons_succ, i64_w, i32_w]
                                                                              rfl
                                                                            refine pure_ (i := 15) (N := some 95) (v := ?_) (a' := ?_) #[true, true, true, true, true, true, true, true, true, true, true, true, true, true, true, true, false, false, false, false, false, false, false, false, false, false, false, false, false, false] rfl rfl (any_of HT_.out (by kernel_rfl)) (fun _ _ _ h => h) (Or.inl ⟨by rfl, ?_⟩) ?_ ?_
                                                                            rotate_left
                                                                            · intro w'
                                                                              go_simp
                                                                              with_reducible rfl
                                                                            rotate_left
                                                                            · simp only [Act.put, List.setIfInBounds_toArray, List.set_cons_zero, List.set_cons_succ, i64_w, i32_w]
                                                                              rfl
                                                                            refine pure_ (i := 16) (N := some 96) (v := ?_) (a' := ?_) #[true, true, true, true, true, true, true, true, true, true, true, true, true, true, true, true, true, false, false, false, false, false, false, false, false, false, false, false, false, false] rfl rfl (any_of HT_.out (by kernel_rfl)) (fun _ _ _ h => h) (Or.inl ⟨by rfl, ?_⟩) ?_ ?_
                                                                            rotate_left
                                                                            · intro w'
                                                                              go_simp
                                                                              with_reducible rfl
                                                                            rotate_left
                                                                            · simp only [Act.put, List.setIfInBounds_toArray, List.set_cons_zero, List.set_cons_succ, i64_w, i32_w]
                                                                              rfl
                                                                            refine pure_ (i := 17) (N := some 97) (v := ?_) (a' := ?_) #[true, true, true, true, true, true, true, true, true, true, true, true, true, true, true, true, true, true, false, false, false, false, false, false, false, false, false, false, false, false] rfl rfl (any_of HT_.out (by kernel_rfl)) (fun _ _ _ h => h) (Or.inl ⟨by rfl, ?_⟩) ?_ ?_
                                                                            rotate_left
                                                                            · intro w'
                                                                              go_simp
                                                                              with_reducible rfl
                                                                            rotate_left
                                                                            · simp only [Act.put, List.setIfInBounds_toArray, List.set_cons_zero, List.set_cons_succ, i64_w, i32_w]
                                                                              rfl
                                                                            refine pure_ (i := 18) (N := some 98) (v := ?_) (a' := ?_) #[true, true, true, true, true, true, true, true, true, true, true, true, true, true, true, true, true, true, true, false, false, false, false, false, false, false, false, false, false, false] rfl rfl (any_of HT_.out (by kernel_rfl)) (fun _ _ _ h => h) (Or.inl ⟨by rfl, ?_⟩) ?_ ?_
                                                                            rotate_left
                                                                            · intro w'
                                                                              go_simp
                                                                              with_reducible rfl
                                                                            rotate_left
                                                                            · simp only [Act.put, List.setIfInBounds_toArray, List.set_cons_zero, List.set_cons_succ, i64_w, i32_w]
                                                                              rfl
                                                                            refine pure_ (i := 19) (N := some 99) (v := ?_) (a' := ?_) #[true, true, true, true, true, true, true, true, true, true, true, true, true, true, true, true, true, true, true, true, false, false, false, false, false, false, false, false, false, false] rfl rfl (any_of HT_.out (by kernel_rfl)) (fun _ _ _ h => h) (Or.inl ⟨by rfl, ?_⟩) ?_ ?_
                                                                            rotate_left
                                                                            · intro w'
                                                                              go_simp
                                                                              with_reducible rfl
                                                                            rotate_left
                                                                            · simp only [Act.put, List.setIfInBounds_toArray, List.set_cons_zero, List.set_cons_succ, i64_w, i32_w]
                                                                              rfl
                                                                            refine pure_ (i := 20) (N := some 100) (v := ?_) (a' := ?_) #[true, true, true, true, true, true, true, true, true, true, true, true, true, true, true, true, true, true, true, true, true, false, false, false, false, false, false, false, false, false] rfl rfl (any_of HT_.out (by kernel_rfl)) (fun _ _ _ h => h) (Or.inl ⟨by rfl, ?_⟩) ?_ ?_
                                                                            rotate_left
                                                                            · intro w'
                                                                              go_simp
                                                                              with_reducible rfl
                                                                            rotate_left
                                                                            · simp only [Act.put, List.setIfInBounds_toArray, List.set_cons_zero, List.set_cons_succ, i64_w, i32_w]
                                                                              rfl
                                                                            refine pure_ (i := 21) (N := some 101) (v := ?_) (a' := ?_) #[true, true, true, true, true, true, true, true, true, true, true, true, true, true, true, true, true, true, true, true, true, true, false, false, false, false, false, false, false, false] rfl rfl (any_of HT_.out (by kernel_rfl)) (fun _ _ _ h => h) (Or.inl ⟨by rfl, ?_⟩) ?_ ?_
                                                                            rotate_left
                                                                            · intro w'
                                                                              go_simp
                                                                              with_reducible rfl
                                                                            rotate_left
                                                                            · simp only [Act.put, List.setIfInBounds_toArray, List.set_cons_zero, List.set_cons_succ, i64_w, i32_w]
                                                                              rfl
                                                                            refine pure_ (i := 22) (N := some 102) (v := ?_) (a' := ?_) #[true, true, true, true, true, true, true, true, true, true, true, true, true, true, true, true, true, true, true, true, true, true, true, false, false, false, false, false, false, false] rfl rfl (any_of HT_.out (by kernel_rfl)) (fun _ _ _ h => h) (Or.inl ⟨by rfl, ?_⟩) ?_ ?_
                                                                            rotate_left
                                                                            · intro w'
                                                                              go_simp
                                                                              with_reducible rfl
                                                                            rotate_left
                                                                            · simp only [Act.put, List.setIfInBounds_toArray, List.set_cons_zero, List.set_cons_succ, i64_w, i32_w]
                                                                              rfl
                                                                            refine pure_ (i := 23) (N := some 103) (v := ?_) (a' := ?_) #[true, true, true, true, true, true, true, true, true, true, true, true, true, true, true, true, true, true, true, true, true, true, true, true, false, false, false, false, false, false] rfl rfl (any_of HT_.out (by kernel_rfl)) (fun _ _ _ h => h) (Or.inl ⟨by rfl, ?_⟩) ?_ ?_
                                                                            rotate_left
                                                                            · intro w'
                                                                              go_simp
                                                                              with_reducible rfl
                                                                            rotate_left
                                                                            · simp only [Act.put, List.setIfInBounds_toArray, List.set_cons_zero, List.set_cons_succ, i64_w, i32_w]
                                                                              rfl
                                                                            refine pure_ (i := 24) (N := some 104) (v := ?_) (a' := ?_) #[true, true, true, true, true, true, true, true, true, true, true, true, true, true, true, true, true, true, true, true, true, true, true, true, true, false, false, false, false, false] rfl rfl (any_of HT_.out (by kernel_rfl)) (fun _ _ _ h => h) (Or.inl ⟨by rfl, ?_⟩) ?_ ?_
                                                                            rotate_left
                                                                            · intro w'
                                                                              go_simp
                                                                              with_reducible rfl
                                                                            rotate_left
                                                                            · simp only [Act.put, List.setIfInBounds_toArray, List.set_cons_zero, List.set_cons_succ, i64_w, i32_w]
                                                                              rfl
                                                                            refine pure_ (i := 25) (N := some 105) (v := ?_) (a' := ?_) #[true, true, true, true, true, true, true, true, true, true, true, true, true, true, true, true, true, true, true, true, true, true, true, true, true, true, false, false, false, false] rfl rfl (any_of HT_.out (by kernel_rfl)) (fun _ _ _ h => h) (Or.inl ⟨by rfl, ?_⟩) ?_ ?_
                                                                            rotate_left
                                                                            · intro w'
                                                                              go_simp
                                                                              with_reducible rfl
                                                                            rotate_left
                                                                            · simp only [Act.put, List.setIfInBounds_toArray, List.set_cons_zero, List.set_cons_succ, i64_w, i32_w]
                                                                              rfl
                                                                            refine pure_ (i := 26) (N := some 106) (v := ?_) (a' := ?_) #[true, true, true, true, true, true, true, true, true, true, true, true, true, true, true, true, true, true, true, true, true, true, true, true, true, true, true, false, false, false] rfl rfl (any_of HT_.out (by kernel_rfl)) (fun _ _ _ h => h) (Or.inl ⟨by rfl, ?_⟩) ?_ ?_
                                                                            rotate_left
                                                                            · intro w'
                                                                              go_simp
                                                                              with_reducible rfl
                                                                            rotate_left
                                                                            · simp only [Act.put, List.setIfInBounds_toArray, List.set_cons_zero, List.set_cons_succ, i64_w, i32_w]
                                                                              rfl
                                                                            refine pure_ (i := 27) (N := some 107) (v := ?_) (a' := ?_) #[true, true, true, true, true, true, true, true, true, true, true, true, true, true, true, true, true, true, true, true, true, true, true, true, true, true, true, true, false, false] rfl rfl (any_of HT_.out (by kernel_rfl)) (fun _ _ _ h => h) (Or.inl ⟨by rfl, ?_⟩) ?_ ?_
                                                                            rotate_left
                                                                            · intro w'
                                                                              go_simp
                                                                              with_reducible rfl
                                                                            rotate_left
                                                                            · simp only [Act.put, List.setIfInBounds_toArray, List.set_cons_zero, List.set_cons_succ, i64_w, i32_w]
                                                                              rfl
                                                                            refine one_ (i := 28) (N := some 108) #[true, true, true, true, true, true, true, true, true, true, true, true, true, true, true, true, true, true, true, true, true, true, true, true, true, true, true, true, true, false] rfl rfl (one_of HT_.out (by kernel_rfl)) (by decide) (fun K hK => ?_)
                                                                            refine Kd.R_lit_step Kd.string _ 9 ?hg (N := 108) ?hd (xs := ([(⟨#[]⟩ : ByteArray), t210.extract 0 43, t210 ++ (⟨#[120]⟩ : ByteArray), ((t210.extract 0 1) ++ (⟨#[1]⟩ : ByteArray)) ++ (t210.extract 2 t210.size), ((t210.extract 0 3) ++ (⟨#[1]⟩ : ByteArray)) ++ (t210.extract 4 t210.size), ((t210.extract 0 7) ++ (⟨#[0]⟩ : ByteArray)) ++ (t210.extract 8 t210.size), ((t210.extract 0 11) ++ (⟨#[0]⟩ : ByteArray)) ++ (t210.extract 12 t210.size)] : List ByteArray)) (inner := [.string (⟨#[]⟩ : ByteArray), .string (t210.extract 0 43), .string (t210 ++ (⟨#[120]⟩ : ByteArray)), .string (((t210.extract 0 1) ++ (⟨#[1]⟩ : ByteArray)) ++ (t210.extract 2 t210.size)), .string (((t210.extract 0 3) ++ (⟨#[1]⟩ : ByteArray)) ++ (t210.extract 4 t210.size)), .string (((t210.extract 0 7) ++ (⟨#[0]⟩ : ByteArray)) ++ (t210.extract 8 t210.size)), .string (((t210.extract 0 11) ++ (⟨#[0]⟩ : ByteArray)) ++ (t210.extract 12 t210.size))]) (ok := fun _ => True) (okp := fun _ => True) ?hr ?hp (fun _ hk => hk) trivial (Below.refl _ _) (Nat.le_refl _) (by simp) ?_; (case hd => rfl); (case hg => rfl); (case hr => first | (go_simp; done) | (go_simp; rfl)); (case hp => exact (Reps.one (show Kd.M Kd.string _ _ _ (⟨#[]⟩ : ByteArray) [.string (⟨#[]⟩ : ByteArray)] from rfl) (Reps.one (show Kd.M Kd.string _ _ _ (t210.extract 0 43) [.string (t210.extract 0 43)] from rfl) (Reps.one (show Kd.M Kd.string _ _ _ (t210 ++ (⟨#[120]⟩ : ByteArray)) [.string (t210 ++ (⟨#[120]⟩ : ByteArray))] from rfl) (Reps.one (show Kd.M Kd.string _ _ _ (((t210.extract 0 1) ++ (⟨#[1]⟩ : ByteArray)) ++ (t210.extract 2 t210.size)) [.string (((t210.extract 0 1) ++ (⟨#[1]⟩ : ByteArray)) ++ (t210.extract 2 t210.size))] from rfl) (Reps.one (show Kd.M Kd.string _ _ _ (((t210.extract 0 3) ++ (⟨#[1]⟩ : ByteArray)) ++ (t210.extract 4 t210.size)) [.string (((t210.extract 0 3) ++ (⟨#[1]⟩ : ByteArray)) ++ (t210.extract 4 t210.size))] from rfl) (Reps.one (show Kd.M Kd.string _ _ _ (((t210.extract 0 7) ++ (⟨#[0]⟩ : ByteArray)) ++ (t210.extract 8 t210.size)) [.string (((t210.extract 0 7) ++ (⟨#[0]⟩ : ByteArray)) ++ (t210.extract 8 t210.size))] from rfl) (Reps.one (show Kd.M Kd.string _ _ _ (((t210.extract 0 11) ++ (⟨#[0]⟩ : ByteArray)) ++ (t210.extract 12 t210.size)) [.string (((t210.extract 0 11) ++ (⟨#[0]⟩ : ByteArray)) ++ (t210.extract 12 t210.size))] from rfl) (Reps.none _ _)))))))))
                                                                            intro v214 w72 ho73 hb hg_ hnew_
                                                                            clear hg_ hnew_
                                                                            (first | rw [← Ny213.out] at ho73 | (simp only [Int.reduceToNat] at ho73; rw [← Ny213.out] at ho73))
                                                                            have n0_ := Aside0.mk (Kd.R_lower ho73 (below_size (by repeat (first | (with_reducible first | exact HB.out | apply below_alloc | apply pw_below_drewN | apply below_drew1 | refine below_set ?_ GE207.out) | exact HB.out))))
                                                                            have n1_ := Aside0.mk (blk_below (g := gb207) (o := .cells #[.int .i64 ((rd_T53 y203 (ji8)).f0), .int .i64 ((rd_T53 y203 (ji8)).f1), .int .i64 ((rd_T53 y203 (ji8)).f2), .string ((rd_T53 y203 (ji8)).f3)] 53 (0, 0)) (by (with_reducible repeat (first | refine blk_drewN ?_ _ | refine blk_drew ?_ | refine blk_alloc ?_ _)); exact BK207.out) hb)
                                                                            have n2_ := Aside0.mk (below_step (by repeat (first | (with_reducible first | exact HB.out | apply below_alloc | apply pw_below_drewN | apply below_drew1 | refine below_set ?_ GE207.out) | exact HB.out)) hb)
                                                                            clear BK207
                                                                            clear HB
                                                                            have HO215 := n0_
                                                                            have BK207 := n1_
                                                                            have HB := n2_
                                                                            clear n0_ n1_ n2_
                                                                            clear hb ho73
                                                                            refine hK.out _ _ trivial (fun hHeld => ?_)
                                                                            clear hK K
                                                                            refine norm_ (a' := ?_) ?_ ?_
                                                                            rotate_left
                                                                            · show Act.put _ (some 108) _ = _
                                                                              simp only [Act.put, List.setIfInBounds_toArray, List.set_cons_zero, List.set_cons_succ, i64_w, i32_w]
                                                                              rfl
                                                                            refine pure_ (i := 29) (N := some 13) (v := ?_) (a' := ?_) #[true, true, true, true, true, true, true, true, true, true, true, true, true, true, true, true, true, true, true, true, true, true, true, true, true, true, true, true, true, true] rfl rfl (any_of HT_.out (by kernel_rfl)) (fun _ _ _ h => h) (Or.inl ⟨by rfl, ?_⟩) ?_ ?_
                                                                            rotate_left
                                                                            · intro w'
                                                                              go_simp
                                                                              with_reducible rfl
                                                                            rotate_left
                                                                            · simp only [Act.put, List.setIfInBounds_toArray, List.set_cons_zero, List.set_cons_succ, i64_w, i32_w]
                                                                              rfl
                                                                            refine done_ (done_of HT_.out (by kernel_rfl)) ?_
                                                                            obtain ⟨Ao74, co74, eo74⟩ := Kd.R_slice HO215.out
                                                                            subst eo74
                                                                            have p216 : 0 ≤ ((ji51) : Int) := of_decide_eq_true (by first | (with_reducible assumption) | assumption)
                                                                            have q216 : (ji51) < (y213.length : Int) := of_decide_eq_true (by first | (with_reducible assumption) | assumption)
                                                                            obtain ⟨ad216, e216, hx216_0⟩ := Kd.at_string (Kd.R_reads' HO215.out).2.2 (ji51) p216 q216
                                                                            cases e216
                                                                            replace p216 := eq_true p216
                                                                            replace q216 := eq_true q216
                                                                            try go_wp2_with (first | ((with_reducible refine gate_callee (f := 33) rfl ?_); refine goesL_ (some 117) rfl rfl Try.func33 (by kernel_rfl) rfl #[.string (rdOf ByteArray.empty y213 (ji51))] rfl (by (try simp only [List.map_toArray, List.map_cons, List.map_nil]); first | done | (simp only [hji51]; rfl) | rfl | (simp only [List.length_drop, List.length_take]; rfl)) ?_; (with_reducible refine (trailer_Get.calls kj12 (rdOf ByteArray.empty y213 (ji51)) t217 t218 t219 t220 t221 _ A54.out).mono ?_); rintro e w75 ⟨rfl, hb⟩; refine ⟨_, rfl, ?_⟩; have n0_ := Aside0.mk (Kd.R_below (by (with_reducible repeat (first | apply Kd.R_alloc | apply Kd.R_drewN | apply Kd.R_drew)); exact HO215.out) hb); have n1_ := Aside0.mk (blk_below (g := gb207) (o := .cells #[.int .i64 ((rd_T53 y203 (ji8)).f0), .int .i64 ((rd_T53 y203 (ji8)).f1), .int .i64 ((rd_T53 y203 (ji8)).f2), .string ((rd_T53 y203 (ji8)).f3)] 53 (0, 0)) (by (with_reducible repeat (first | refine blk_drewN ?_ _ | refine blk_drew ?_ | refine blk_alloc ?_ _)); exact BK207.out) hb); have n2_ := Aside0.mk (below_step (by repeat (first | (with_reducible first | exact HB.out | apply below_alloc | apply pw_below_drewN | apply below_drew1 | refine below_set ?_ GE207.out) | exact HB.out)) hb); clear HO215; clear BK207; clear HB; have HO215 := n0_; have BK207 := n1_; have HB := n2_; clear n0_ n1_ n2_; (try clear hb); (try clear hb2); (try clear hk); (try clear hi)) | ((with_reducible refine gate_dst (N := 14) rfl ?_); (try (refine gate_guard (by rfl) ?_; dsimp only)); refine box_event ?hg (N := 14) ?hd (cs := #[.int .i64 0, .int .i64 0, .int .i64 0, .string (⟨#[]⟩ : ByteArray)]) (t := 53) ?hr ?_; (case hd => rfl); (case hg => rfl); (case hr => first | (go_simp; done) | (go_simp; rfl)); intro gb222 hg w76 hbox hb; have n0_ := Aside0.mk (Kd.R_below (by (with_reducible repeat (first | apply Kd.R_alloc | apply Kd.R_drewN | apply Kd.R_drew)); exact HO215.out) hb); have n1_ := Aside0.mk (blk_below (g := gb207) (o := .cells #[.int .i64 ((rd_T53 y203 (ji8)).f0), .int .i64 ((rd_T53 y203 (ji8)).f1), .int .i64 ((rd_T53 y203 (ji8)).f2), .string ((rd_T53 y203 (ji8)).f3)] 53 (0, 0)) (by (with_reducible repeat (first | refine blk_drewN ?_ _ | refine blk_drew ?_ | refine blk_alloc ?_ _)); exact BK207.out) hb); have n2_ := Aside0.mk (below_step (by repeat (first | (with_reducible first | exact HB.out | apply below_alloc | apply pw_below_drewN | apply below_drew1 | refine below_set ?_ GE207.out) | exact HB.out)) hb); have n3_ := Aside0.mk (hbox); have n4_ := Aside0.mk ((by rw [hg]; exact (below_size (by repeat (first | (with_reducible first | exact HB.out | apply below_alloc | apply pw_below_drewN | apply below_drew1 | refine below_set ?_ GE207.out) | exact HB.out))) : w.heap.size ≤ gb222)); have n5_ := Aside0.mk ((by rw [hg]; exact (below_size (by repeat (first | (with_reducible first | exact HB.out | apply below_alloc | apply pw_below_drewN | apply below_drew1 | refine below_set ?_ GE207.out) | exact HB.out))) : w.heap.size ≤ gb222)); have n6_ := Aside0.mk ((by rw [hg]; exact Nat.ne_of_lt (blk_lt (g := gb207) (o := .cells #[.int .i64 ((rd_T53 y203 (ji8)).f0), .int .i64 ((rd_T53 y203 (ji8)).f1), .int .i64 ((rd_T53 y203 (ji8)).f2), .string ((rd_T53 y203 (ji8)).f3)] 53 (0, 0)) (by (with_reducible repeat (first | refine blk_drewN ?_ _ | refine blk_drew ?_ | refine blk_alloc ?_ _)); exact BK207.out)) : gb207 ≠ gb222)); have n7_ := Aside0.mk ((by rw [hg]; exact Nat.ne_of_gt (blk_lt (g := gb207) (o := .cells #[.int .i64 ((rd_T53 y203 (ji8)).f0), .int .i64 ((rd_T53 y203 (ji8)).f1), .int .i64 ((rd_T53 y203 (ji8)).f2), .string ((rd_T53 y203 (ji8)).f3)] 53 (0, 0)) (by (with_reducible repeat (first | refine blk_drewN ?_ _ | refine blk_drew ?_ | refine blk_alloc ?_ _)); exact BK207.out)) : gb222 ≠ gb207)); clear HO215; clear BK207; clear HB; have HO215 := n0_; have BK207 := n1_; have HB := n2_; have BK222 := n3_; have GW222 := n4_; have GE222 := n5_; have NB207_222 := n6_; have NB222_207 := n7_; clear n0_ n1_ n2_ n3_ n4_ n5_ n6_ n7_; clear hb hbox hg; have hnb77 := NB222_207.out; have hnc77 := NB207_222.out; have hcz78_0 : w76.cell? ⟨gb222, 0, none⟩ = some (.int .i64 0) := (blk_cell BK222.out 0).trans rfl; have hcz78_1 : w76.cell? ⟨gb222, 1, none⟩ = some (.int .i64 0) := (blk_cell BK222.out 1).trans rfl; have hcz78_2 : w76.cell? ⟨gb222, 2, none⟩ = some (.int .i64 0) := (blk_cell BK222.out 2).trans rfl; have hcz78_3 : w76.cell? ⟨gb222, 3, none⟩ = some (.string (⟨#[]⟩ : ByteArray)) := (blk_cell BK222.out 3).trans rfl; have hfz78_0 := blk_frozen BK222.out 0; have hfz78_1 := blk_frozen BK222.out 1; have hfz78_2 := blk_frozen BK222.out 2; have hfz78_3 := blk_frozen BK222.out 3; have hcz79_0 : w76.cell? ⟨gb207, 0, none⟩ = some (.int .i64 ((rd_T53 y203 (ji8)).f0)) := (blk_cell BK207.out 0).trans rfl; have hcz79_1 : w76.cell? ⟨gb207, 1, none⟩ = some (.int .i64 ((rd_T53 y203 (ji8)).f1)) := (blk_cell BK207.out 1).trans rfl; have hcz79_2 : w76.cell? ⟨gb207, 2, none⟩ = some (.int .i64 ((rd_T53 y203 (ji8)).f2)) := (blk_cell BK207.out 2).trans rfl; have hcz79_3 : w76.cell? ⟨gb207, 3, none⟩ = some (.string ((rd_T53 y203 (ji8)).f3)) := (blk_cell BK207.out 3).trans rfl; have hfz79_0 := blk_frozen BK207.out 0; have hfz79_1 := blk_frozen BK207.out 1; have hfz79_2 := blk_frozen BK207.out 2; have hfz79_3 := blk_frozen BK207.out 3) | ((with_reducible refine gate_callee (f := 35) rfl ?_); refine goesL_ (some 121) rfl rfl Try.func35 (by kernel_rfl) rfl #[.agg #[.int .i64 ((rd_T53 y203 (ji8)).f0), .int .i64 ((rd_T53 y203 (ji8)).f1), .int .i64 ((rd_T53 y203 (ji8)).f2), .string ((rd_T53 y203 (ji8)).f3)]] rfl (by (try simp only [List.map_toArray, List.map_cons, List.map_nil]); first | done | (simp only [hji8]; rfl) | rfl | (simp only [List.length_drop, List.length_take]; rfl)) ?_; (with_reducible refine (trailer_May.calls ((rd_T53 y203 (ji8)).f0) ((rd_T53 y203 (ji8)).f1) ((rd_T53 y203 (ji8)).f2) ((rd_T53 y203 (ji8)).f3) false _ A55.out).mono ?_); rintro e w80 ⟨rfl, hb⟩; refine ⟨_, rfl, ?_⟩; have n0_ := Aside0.mk (Kd.R_below (by (with_reducible repeat (first | apply Kd.R_alloc | apply Kd.R_drewN | apply Kd.R_drew)); exact (Kd.R_mono (Kd.R_far (p := ⟨gb222, 3, none⟩) (Kd.R_far (p := ⟨gb222, 2, none⟩) (Kd.R_far (p := ⟨gb222, 1, none⟩) (Kd.R_far (p := ⟨gb222, 0, none⟩) (Kd.R_types HO215.out BK222.out (by decide)) (fun _ hk => hk.2) (.int .i64 t217)) (fun _ hk => hk.2) (.int .i64 t218)) (fun _ hk => hk.2) (.int .i64 t219)) (fun _ hk => hk.2) (.string t220)) (fun _ h_ => h_.1))) hb); have n1_ := Aside0.mk (blk_below (g := gb207) (o := .cells #[.int .i64 ((rd_T53 y203 (ji8)).f0), .int .i64 ((rd_T53 y203 (ji8)).f1), .int .i64 ((rd_T53 y203 (ji8)).f2), .string ((rd_T53 y203 (ji8)).f3)] 53 (0, 0)) (by (with_reducible repeat (first | refine blk_drewN ?_ _ | refine blk_drew ?_ | refine blk_alloc ?_ _)); refine blk_far ?_ NB207_222.out _; (with_reducible repeat (first | refine blk_drewN ?_ _ | refine blk_drew ?_ | refine blk_alloc ?_ _)); refine blk_far ?_ NB207_222.out _; (with_reducible repeat (first | refine blk_drewN ?_ _ | refine blk_drew ?_ | refine blk_alloc ?_ _)); refine blk_far ?_ NB207_222.out _; (with_reducible repeat (first | refine blk_drewN ?_ _ | refine blk_drew ?_ | refine blk_alloc ?_ _)); refine blk_far ?_ NB207_222.out _; (with_reducible repeat (first | refine blk_drewN ?_ _ | refine blk_drew ?_ | refine blk_alloc ?_ _)); exact BK207.out) hb); have n2_ := Aside0.mk (blk_below (g := gb222) (o := .cells #[.int .i64 t217, .int .i64 t218, .int .i64 t219, .string t220] 53 (0, 0)) (by (with_reducible repeat (first | refine blk_drewN ?_ _ | refine blk_drew ?_ | refine blk_alloc ?_ _)); refine blk_put (cs := #[.int .i64 t217, .int .i64 t218, .int .i64 t219, .string (⟨#[]⟩ : ByteArray)]) ?_ 3 _ rfl; (with_reducible repeat (first | refine blk_drewN ?_ _ | refine blk_drew ?_ | refine blk_alloc ?_ _)); refine blk_put (cs := #[.int .i64 t217, .int .i64 t218, .int .i64 0, .string (⟨#[]⟩ : ByteArray)]) ?_ 2 _ rfl; (with_reducible repeat (first | refine blk_drewN ?_ _ | refine blk_drew ?_ | refine blk_alloc ?_ _)); refine blk_put (cs := #[.int .i64 t217, .int .i64 0, .int .i64 0, .string (⟨#[]⟩ : ByteArray)]) ?_ 1 _ rfl; (with_reducible repeat (first | refine blk_drewN ?_ _ | refine blk_drew ?_ | refine blk_alloc ?_ _)); refine blk_put (cs := #[.int .i64 0, .int .i64 0, .int .i64 0, .string (⟨#[]⟩ : ByteArray)]) ?_ 0 _ rfl; (with_reducible repeat (first | refine blk_drewN ?_ _ | refine blk_drew ?_ | refine blk_alloc ?_ _)); exact BK222.out) hb); have n3_ := Aside0.mk (below_step (by repeat (first | (with_reducible first | exact HB.out | apply below_alloc | apply pw_below_drewN | apply below_drew1 | refine below_set ?_ GE207.out | refine below_set ?_ GE222.out) | exact HB.out)) hb); clear HO215; clear BK207; clear BK222; clear HB; have HO215 := n0_; have BK207 := n1_; have BK222 := n2_; have HB := n3_; clear n0_ n1_ n2_ n3_; (try clear hb); (try clear hb2); (try clear hk); (try clear hi)) | (go_at_call 18; (with_reducible refine (watchwordlaw0_Num.calls t209 t224 _ A68.out).mono ?_); rintro e w' ⟨rfl, ⟨nd, rfl⟩⟩) | (go_at_call 18; (with_reducible refine (watchwordlaw0_Num.calls t221 t225 _ A70.out).mono ?_); rintro e w' ⟨rfl, ⟨nd, rfl⟩⟩))
                                                                            go_ret
                                                                            exact ⟨by first | rfl | (simp [errW_none, errW_some] <;> rfl) | (simp only [← hji8, ← hji51]; first | rfl | (simp [errW_none, errW_some] <;> rfl)) | (simp [*, errW_none, errW_some] <;> rfl), by repeat (first | (with_reducible first | exact HB.out | apply below_alloc | apply pw_below_drewN | apply below_drew1 | refine below_set ?_ GE207.out | refine below_set ?_ GE222.out) | exact HB.out)⟩
                                                                          · rw [if_neg c69] at H
                                                                            have c69b0 : (t224 == 1300) = false := beq_eq_false_iff_ne.mpr c69
                                                                            have c69b1 : (t224 != 1300) = true := bne_iff_ne.mpr c69
                                                                            obtain rfl := Option.some.inj H
                                                                            try go_wp2
                                                                            have n0_ := Aside0.mk (blk_drew BK207.out)
                                                                            have n1_ := Aside0.mk (below_drew1 HB.out)
                                                                            clear BK207
                                                                            clear HB
                                                                            have BK207 := n0_
                                                                            have HB := n1_
                                                                            clear n0_ n1_
                                                                            refine start_ (n := 30) (S := fun w' => True) (ds := []) #[false, false, false, false, false, false, false, false, false, false, false, false, false, false, false, false, false, false, false, false, false, false, false, false, false, false, false, false, false, false] (by kernel_rfl) rfl rfl trivial (fun hHeld => ?_); refine with_tabW watchwordlaw13_TrailerForms.tab11 watchwordlaw13_TrailerForms.bits11 (fun HT_ HW_ => ?_)
                                                                            generalize wc.drew = w81 at BK207 HB hHeld ⊢
                                                                            refine pure_ (i := 0) (N := some 80) (v := ?_) (a' := ?_) #[true, false, false, false, false, false, false, false, false, false, false, false, false, false, false, false, false, false, false, false, false, false, false, false, false, false, false, false, false, false] rfl rfl (any_of HT_.out (by kernel_rfl)) (fun _ _ _ h => h) (Or.inl ⟨by rfl, ?_⟩) ?_ ?_
                                                                            rotate_left
                                                                            · intro w'
                                                                              go_simp
                                                                              with_reducible rfl
                                                                            rotate_left
                                                                            · simp only [Act.put, List.setIfInBounds_toArray, List.set_cons_zero, List.set_cons_succ, i64_w, i32_w]
                                                                              rfl
                                                                            refine pure_ (i := 1) (N := some 81) (v := ?_) (a' := ?_) #[true, true, false, false, false, false, false, false, false, false, false, false, false, false, false, false, false, false, false, false, false, false, false, false, false, false, false, false, false, false] rfl rfl (any_of HT_.out (by kernel_rfl)) (fun _ _ _ h => h) (Or.inl ⟨by rfl, ?_⟩) ?_ ?_
                                                                            rotate_left
                                                                            · intro w'
                                                                              go_simp
                                                                              with_reducible rfl
                                                                            rotate_left
                                                                            · simp only [Act.put, List.setIfInBounds_toArray, List.set_cons_zero, List.set_cons_succ, i64_w, i32_w]
                                                                              rfl
                                                                            refine pure_ (i := 2) (N := some 82) (v := ?_) (a' := ?_) #[true, true, true, false, false, false, false, false, false, false, false, false, false, false, false, false, false, false, false, false, false, false, false, false, false, false, false, false, false, false] rfl rfl (any_of HT_.out (by kernel_rfl)) (fun _ _ _ h => h) (Or.inl ⟨by rfl, ?_⟩) ?_ ?_
                                                                            rotate_left
                                                                            · intro w'
                                                                              go_simp
                                                                              with_reducible rfl
                                                                            rotate_left
                                                                            · simp only [Act.put, List.setIfInBounds_toArray, List.set_cons_zero, List.set_cons_succ, i64_w, i32_w]
                                                                              rfl
                                                                            refine pure_ (i := 3) (N := some 83) (v := ?_) (a' := ?_) #[true, true, true, true, false, false, false, false, false, false, false, false, false, false, false, false, false, false, false, false, false, false, false, false, false, false, false, false, false, false] rfl rfl (any_of HT_.out (by kernel_rfl)) (fun _ _ _ h => h) (Or.inl ⟨by rfl, ?_⟩) ?_ ?_
                                                                            rotate_left
                                                                            · intro w'
                                                                              go_simp
                                                                              with_reducible rfl
                                                                            rotate_left
                                                                            · simp only [Act.put, List.setIfInBounds_toArray, List.set_cons_zero, List.set_cons_succ, i64_w, i32_w]
                                                                              rfl
                                                                            refine pure_ (i := 4) (N := some 84) (v := ?_) (a' := ?_) #[true, true, true, true, true, false, false, false, false, false, false, false, false, false, false, false, false, false, false, false, false, false, false, false, false, false, false, false, false, false] rfl rfl (any_of HT_.out (by kernel_rfl)) (fun _ _ _ h => h) (Or.inl ⟨by rfl, ?_⟩) ?_ ?_
                                                                            rotate_left
                                                                            · intro w'
                                                                              go_simp
                                                                              with_reducible rfl
                                                                            rotate_left
                                                                            · simp only [Act.put, List.setIfInBounds_toArray, List.set_cons_zero, List.set_cons_succ, i64_w, i32_w]
                                                                              rfl
                                                                            refine pure_ (i := 5) (N := some 85) (v := ?_) (a' := ?_) #[true, true, true, true, true, true, false, false, false, false, false, false, false, false, false, false, false, false, false, false, false, false, false, false, false, false, false, false, false, false] rfl rfl (any_of HT_.out (by kernel_rfl)) (fun _ _ _ h => h) (Or.inl ⟨by rfl, ?_⟩) ?_ ?_
                                                                            rotate_left
                                                                            · intro w'
                                                                              go_simp
                                                                              with_reducible rfl
                                                                            rotate_left
                                                                            · simp only [Act.put, List.setIfInBounds_toArray, List.set_cons_zero, List.set_cons_succ, i64_w, i32_w]
                                                                              rfl
                                                                            refine pure_ (i := 6) (N := some 86) (v := ?_) (a' := ?_) #[true, true, true, true, true, true, true, false, false, false, false, false, false, false, false, false, false, false, false, false, false, false, false, false, false, false, false, false, false, false] rfl rfl (any_of HT_.out (by kernel_rfl)) (fun _ _ _ h => h) (Or.inl ⟨by rfl, ?_⟩) ?_ ?_
                                                                            rotate_left
                                                                            · intro w'
                                                                              go_simp
                                                                              with_reducible rfl
                                                                            rotate_left
                                                                            · simp only [Act.put, List.setIfInBounds_toArray, List.set_cons_zero, List.set_cons_succ, i64_w, i32_w]
                                                                              rfl
                                                                            refine pure_ (i := 7) (N := some 87) (v := ?_) (a' := ?_) #[true, true, true, true, true, true, true, true, false, false, false, false, false, false, false, false, false, false, false, false, false, false, false, false, false, false, false, false, false, false] rfl rfl (any_of HT_.out (by kernel_rfl)) (fun _ _ _ h => h) (Or.inl ⟨by rfl, ?_⟩) ?_ ?_
                                                                            rotate_left
                                                                            · intro w'
                                                                              go_simp
                                                                              with_reducible rfl
                                                                            rotate_left
                                                                            · simp only [Act.put, List.setIfInBounds_toArray, List.set_cons_zero, List.set_cons_succ, i64_w, i32_w]
                                                                              rfl
                                                                            refine pure_ (i := 8) (N := some 88) (v := ?_) (a' := ?_) #[true, true, true, true, true, true, true, true, true, false, false, false, false, false, false, false, false, false, false, false, false, false, false, false, false, false, false, false, false, false] rfl rfl (any_of HT_.out (by kernel_rfl)) (fun _ _ _ h => h) (Or.inl ⟨by rfl, ?_⟩) ?_ ?_
                                                                            rotate_left
                                                                            · intro w'
                                                                              go_simp
                                                                              with_reducible rfl
                                                                            rotate_left
                                                                            · simp only [Act.put, List.setIfInBounds_toArray, List.set_cons_zero, List.set_cons_succ, i64_w, i32_w]
                                                                              rfl
                                                                            refine pure_ (i := 9) (N := some 89) (v := ?_) (a' := ?_) #[true, true, true, true, true, true, true, true, true, true, false, false, false, false, false, false, false, false, false, false, false, false, false, false, false, false, false, false, false, false] rfl rfl (any_of HT_.out (by kernel_rfl)) (fun _ _ _ h => h) (Or.inl ⟨by rfl, ?_⟩) ?_ ?_
                                                                            rotate_left
                                                                            · intro w'
                                                                              go_simp
                                                                              with_reducible rfl
                                                                            rotate_left
                                                                            · simp only [Act.put, List.setIfInBounds_toArray, List.set_cons_zero, List.set_cons_succ, i64_w, i32_w]
                                                                              rfl
                                                                            refine pure_ (i := 10) (N := some 90) (v := ?_) (a' := ?_) #[true, true, true, true, true, true, true, true, true, true, true, false, false, false, false, false, false, false, false, false, false, false, false, false, false, false, false, false, false, false] rfl rfl (any_of HT_.out (by kernel_rfl)) (fun _ _ _ h => h) (Or.inl ⟨by rfl, ?_⟩) ?_ ?_
                                                                            rotate_left
                                                                            · intro w'
                                                                              go_simp
                                                                              with_reducible rfl
                                                                            rotate_left
                                                                            · simp only [Act.put, List.setIfInBounds_toArray, List.set_cons_zero, List.set_cons_succ, i64_w, i32_w]
                                                                              rfl
                                                                            refine pure_ (i := 11) (N := some 91) (v := ?_) (a' := ?_) #[true, true, true, true, true, true, true, true, true, true, true, true, false, false, false, false, false, false, false, false, false, false, false, false, false, false, false, false, false, false] rfl rfl (any_of HT_.out (by kernel_rfl)) (fun _ _ _ h => h) (Or.inl ⟨by rfl, ?_⟩) ?_ ?_
                                                                            rotate_left
                                                                            · intro w'
                                                                              go_simp
                                                                              with_reducible rfl
                                                                            rotate_left
                                                                            · simp only [Act.put, List.setIfInBounds_toArray, List.set_cons_zero, List.set_cons_succ, i64_w, i32_w]
                                                                              rfl
                                                                            refine pure_ (i := 12) (N := some 92) (v := ?_) (a' := ?_) #[true, true, true, true, true, true, true, true, true, true, true, true, true, false, false, false, false, false, false, false, false, false, false, false, false, false, false, false, false, false] rfl rfl (any_of HT_.out (by kernel_rfl)) (fun _ _ _ h => h) (Or.inl ⟨by rfl, ?_⟩) ?_ ?_
                                                                            rotate_left
                                                                            · intro w'
                                                                              go_simp
                                                                              with_reducible rfl
                                                                            rotate_left
                                                                            · simp only [Act.put, List.setIfInBounds_toArray, List.set_cons_zero, List.set_cons_succ, i64_w, i32_w]
                                                                              rfl
                                                                            refine pure_ (i := 13) (N := some 93) (v := ?_) (a' := ?_) #[true, true, true, true, true, true, true, true, true, true, true, true, true, true, false, false, false, false, false, false, false, false, false, false, false, false, false, false, false, false] rfl rfl (any_of HT_.out (by kernel_rfl)) (fun _ _ _ h => h) (Or.inl ⟨by rfl, ?_⟩) ?_ ?_
                                                                            rotate_left
                                                                            · intro w'
                                                                              go_simp
                                                                              with_reducible rfl
                                                                            rotate_left
                                                                            · simp only [Act.put, List.setIfInBounds_toArray, List.set_cons_zero, List.set_cons_succ, i64_w, i32_w]
                                                                              rfl
                                                                            refine pure_ (i := 14) (N := some 94) (v := ?_) (a' := ?_) #[true, true, true, true, true, true, true, true, true, true, true, true, true, true, true, false, false, false, false, false, false, false, false, false, false, false, false, false, false, false] rfl rfl (any_of HT_.out (by kernel_rfl)) (fun _ _ _ h => h) (Or.inl ⟨by rfl, ?_⟩) ?_ ?_
                                                                            rotate_left
                                                                            · intro w'
                                                                              go_simp
                                                                              with_reducible rfl
                                                                            rotate_left
                                                                            · simp only [Act.put, List.setIfInBounds_toArray, List.set_cons_zero, List.set_cons_succ, i64_w, i32_w]
                                                                              rfl
                                                                            refine pure_ (i := 15) (N := some 95) (v := ?_) (a' := ?_) #[true, true, true, true, true, true, true, true, true, true, true, true, true, true, true, true, false, false, false, false, false, false, false, false, false, false, false, false, false, false] rfl rfl (any_of HT_.out (by kernel_rfl)) (fun _ _ _ h => h) (Or.inl ⟨by rfl, ?_⟩) ?_ ?_
                                                                            rotate_left
                                                                            · intro w'
                                                                              go_simp
                                                                              with_reducible rfl
                                                                            rotate_left
                                                                            · simp only [Act.put, List.setIfInBounds_toArray, List.set_cons_zero, List.set_cons_succ, i64_w, i32_w]
                                                                              rfl
                                                                            refine pure_ (i := 16) (N := some 96) (v := ?_) (a' := ?_) #[true, true, true, true, true, true, true, true, true, true, true, true, true, true, true, true, true, false, false, false, false, false, false, false, false, false, false, false, false, false] rfl rfl (any_of HT_.out (by kernel_rfl)) (fun _ _ _ h => h) (Or.inl ⟨by rfl, ?_⟩) ?_ ?_
                                                                            rotate_left
                                                                            · intro w'
                                                                              go_simp
                                                                              with_reducible rfl
                                                                            rotate_left
                                                                            · simp only [Act.put, List.setIfInBounds_toArray, List.set_cons_zero, List.set_cons_succ, i64_w, i32_w]
                                                                              rfl
                                                                            refine pure_ (i := 17) (N := some 97) (v := ?_) (a' := ?_) #[true, true, true, true, true, true, true, true, true, true, true, true, true, true, true, true, true, true, false, false, false, false, false, false, false, false, false, false, false, false] rfl rfl (any_of HT_.out (by kernel_rfl)) (fun _ _ _ h => h) (Or.inl ⟨by rfl, ?_⟩) ?_ ?_
                                                                            rotate_left
                                                                            · intro w'
                                                                              go_simp
                                                                              with_reducible rfl
                                                                            rotate_left
                                                                            · simp only [Act.put, List.setIfInBounds_toArray, List.set_cons_zero, List.set_cons_succ, i64_w, i32_w]
                                                                              rfl
                                                                            refine pure_ (i := 18) (N := some 98) (v := ?_) (a' := ?_) #[true, true, true, true, true, true, true, true, true, true, true, true, true, true, true, true, true, true, true, false, false, false, false, false, false, false, false, false, false, false] rfl rfl (any_of HT_.out (by kernel_rfl)) (fun _ _ _ h => h) (Or.inl ⟨by rfl, ?_⟩) ?_ ?_
                                                                            rotate_left
                                                                            · intro w'
                                                                              go_simp
                                                                              with_reducible rfl
                                                                            rotate_left
                                                                            · simp only [Act.put, List.setIfInBounds_toArray, List.set_cons_zero, List.set_cons_succ, i64_w, i32_w]
                                                                              rfl
                                                                            refine pure_ (i := 19) (N := some 99) (v := ?_) (a' := ?_) #[true, true, true, true, true, true, true, true, true, true, true, true, true, true, true, true, true, true, true, true, false, false, false, false, false, false, false, false, false, false] rfl rfl (any_of HT_.out (by kernel_rfl)) (fun _ _ _ h => h) (Or.inl ⟨by rfl, ?_⟩) ?_ ?_
                                                                            rotate_left
                                                                            · intro w'
                                                                              go_simp
                                                                              with_reducible rfl
                                                                            rotate_left
                                                                            · simp only [Act.put, List.setIfInBounds_toArray, List.set_cons_zero, List.set_cons_succ, i64_w, i32_w]
                                                                              rfl
                                                                            refine pure_ (i := 20) (N := some 100) (v := ?_) (a' := ?_) #[true, true, true, true, true, true, true, true, true, true, true, true, true, true, true, true, true, true, true, true, true, false, false, false, false, false, false, false, false, false] rfl rfl (any_of HT_.out (by kernel_rfl)) (fun _ _ _ h => h) (Or.inl ⟨by rfl, ?_⟩) ?_ ?_
                                                                            rotate_left
                                                                            · intro w'
                                                                              go_simp
                                                                              with_reducible rfl
                                                                            rotate_left
                                                                            · simp only [Act.put, List.setIfInBounds_toArray, List.set_cons_zero, List.set_cons_succ, i64_w, i32_w]
                                                                              rfl
                                                                            refine pure_ (i := 21) (N := some 101) (v := ?_) (a' := ?_) #[true, true, true, true, true, true, true, true, true, true, true, true, true, true, true, true, true, true, true, true, true, true, false, false, false, false, false, false, false, false] rfl rfl (any_of HT_.out (by kernel_rfl)) (fun _ _ _ h => h) (Or.inl ⟨by rfl, ?_⟩) ?_ ?_
                                                                            rotate_left
                                                                            · intro w'
                                                                              go_simp
                                                                              with_reducible rfl
                                                                            rotate_left
                                                                            · simp only [Act.put, List.setIfInBounds_toArray, List.set_cons_zero, List.set_cons_succ, i64_w, i32_w]
                                                                              rfl
                                                                            refine pure_ (i := 22) (N := some 102) (v := ?_) (a' := ?_) #[true, true, true, true, true, true, true, true, true, true, true, true, true, true, true, true, true, true, true, true, true, true, true, false, false, false, false, false, false, false] rfl rfl (any_of HT_.out (by kernel_rfl)) (fun _ _ _ h => h) (Or.inl ⟨by rfl, ?_⟩) ?_ ?_
                                                                            rotate_left
                                                                            · intro w'
                                                                              go_simp
                                                                              with_reducible rfl
                                                                            rotate_left
                                                                            · simp only [Act.put, List.setIfInBounds_toArray, List.set_cons_zero, List.set_cons_succ, i64_w, i32_w]
                                                                              rfl
                                                                            refine pure_ (i := 23) (N := some 103) (v := ?_) (a' := ?_) #[true, true, true, true, true, true, true, true, true, true, true, true, true, true, true, true, true, true, true, true, true, true, true, true, false, false, false, false, false, false] rfl rfl (any_of HT_.out (by kernel_rfl)) (fun _ _ _ h => h) (Or.inl ⟨by rfl, ?_⟩) ?_ ?_
                                                                            rotate_left
                                                                            · intro w'
                                                                              go_simp
                                                                              with_reducible rfl
                                                                            rotate_left
                                                                            · simp only [Act.put, List.setIfInBounds_toArray, List.set_cons_zero, List.set_cons_succ, i64_w, i32_w]
                                                                              rfl
                                                                            refine pure_ (i := 24) (N := some 104) (v := ?_) (a' := ?_) #[true, true, true, true, true, true, true, true, true, true, true, true, true, true, true, true, true, true, true, true, true, true, true, true, true, false, false, false, false, false] rfl rfl (any_of HT_.out (by kernel_rfl)) (fun _ _ _ h => h) (Or.inl ⟨by rfl, ?_⟩) ?_ ?_
                                                                            rotate_left
                                                                            · intro w'
                                                                              go_simp
                                                                              with_reducible rfl
                                                                            rotate_left
                                                                            · simp only [Act.put, List.setIfInBounds_toArray, List.set_cons_zero, List.set_cons_succ, i64_w, i32_w]
                                                                              rfl
                                                                            refine pure_ (i := 25) (N := some 105) (v := ?_) (a' := ?_) #[true, true, true, true, true, true, true, true, true, true, true, true, true, true, true, true, true, true, true, true, true, true, true, true, true, true, false, false, false, false] rfl rfl (any_of HT_.out (by kernel_rfl)) (fun _ _ _ h => h) (Or.inl ⟨by rfl, ?_⟩) ?_ ?_
                                                                            rotate_left
                                                                            · intro w'
                                                                              go_simp
                                                                              with_reducible rfl
                                                                            rotate_left
                                                                            · simp only [Act.put, List.setIfInBounds_toArray, List.set_cons_zero, List.set_cons_succ, i64_w, i32_w]
                                                                              rfl
                                                                            refine pure_ (i := 26) (N := some 106) (v := ?_) (a' := ?_) #[true, true, true, true, true, true, true, true, true, true, true, true, true, true, true, true, true, true, true, true, true, true, true, true, true, true, true, false, false, false] rfl rfl (any_of HT_.out (by kernel_rfl)) (fun _ _ _ h => h) (Or.inl ⟨by rfl, ?_⟩) ?_ ?_
                                                                            rotate_left
                                                                            · intro w'
                                                                              go_simp
                                                                              with_reducible rfl
                                                                            rotate_left
                                                                            · simp only [Act.put, List.setIfInBounds_toArray, List.set_cons_zero, List.set_cons_succ, i64_w, i32_w]
                                                                              rfl
                                                                            refine pure_ (i := 27) (N := some 107) (v := ?_) (a' := ?_) #[true, true, true, true, true, true, true, true, true, true, true, true, true, true, true, true, true, true, true, true, true, true, true, true, true, true, true, true, false, false] rfl rfl (any_of HT_.out (by kernel_rfl)) (fun _ _ _ h => h) (Or.inl ⟨by rfl, ?_⟩) ?_ ?_
                                                                            rotate_left
                                                                            · intro w'
                                                                              go_simp
                                                                              with_reducible rfl
                                                                            rotate_left
                                                                            · simp only [Act.put, List.setIfInBounds_toArray, List.set_cons_zero, List.set_cons_succ, i64_w, i32_w]
                                                                              rfl
                                                                            refine one_ (i := 28) (N := some 108) #[true, true, true, true, true, true, true, true, true, true, true, true, true, true, true, true, true, true, true, true, true, true, true, true, true, true, true, true, true, false] rfl rfl (one_of HT_.out (by kernel_rfl)) (by decide) (fun K hK => ?_)
                                                                            refine Kd.R_lit_step Kd.string _ 9 ?hg (N := 108) ?hd (xs := ([(⟨#[]⟩ : ByteArray), t210.extract 0 43, t210 ++ (⟨#[120]⟩ : ByteArray), ((t210.extract 0 1) ++ (⟨#[1]⟩ : ByteArray)) ++ (t210.extract 2 t210.size), ((t210.extract 0 3) ++ (⟨#[1]⟩ : ByteArray)) ++ (t210.extract 4 t210.size), ((t210.extract 0 7) ++ (⟨#[0]⟩ : ByteArray)) ++ (t210.extract 8 t210.size), ((t210.extract 0 11) ++ (⟨#[0]⟩ : ByteArray)) ++ (t210.extract 12 t210.size)] : List ByteArray)) (inner := [.string (⟨#[]⟩ : ByteArray), .string (t210.extract 0 43), .string (t210 ++ (⟨#[120]⟩ : ByteArray)), .string (((t210.extract 0 1) ++ (⟨#[1]⟩ : ByteArray)) ++ (t210.extract 2 t210.size)), .string (((t210.extract 0 3) ++ (⟨#[1]⟩ : ByteArray)) ++ (t210.extract 4 t210.size)), .string (((t210.extract 0 7) ++ (⟨#[0]⟩ : ByteArray)) ++ (t210.extract 8 t210.size)), .string (((t210.extract 0 11) ++ (⟨#[0]⟩ : ByteArray)) ++ (t210.extract 12 t210.size))]) (ok := fun _ => True) (okp := fun _ => True) ?hr ?hp (fun _ hk => hk) trivial (Below.refl _ _) (Nat.le_refl _) (by simp) ?_; (case hd => rfl); (case hg => rfl); (case hr => first | (go_simp; done) | (go_simp; rfl)); (case hp => exact (Reps.one (show Kd.M Kd.string _ _ _ (⟨#[]⟩ : ByteArray) [.string (⟨#[]⟩ : ByteArray)] from rfl) (Reps.one (show Kd.M Kd.string _ _ _ (t210.extract 0 43) [.string (t210.extract 0 43)] from rfl) (Reps.one (show Kd.M Kd.string _ _ _ (t210 ++ (⟨#[120]⟩ : ByteArray)) [.string (t210 ++ (⟨#[120]⟩ : ByteArray))] from rfl) (Reps.one (show Kd.M Kd.string _ _ _ (((t210.extract 0 1) ++ (⟨#[1]⟩ : ByteArray)) ++ (t210.extract 2 t210.size)) [.string (((t210.extract 0 1) ++ (⟨#[1]⟩ : ByteArray)) ++ (t210.extract 2 t210.size))] from rfl) (Reps.one (show Kd.M Kd.string _ _ _ (((t210.extract 0 3) ++ (⟨#[1]⟩ : ByteArray)) ++ (t210.extract 4 t210.size)) [.string (((t210.extract 0 3) ++ (⟨#[1]⟩ : ByteArray)) ++ (t210.extract 4 t210.size))] from rfl) (Reps.one (show Kd.M Kd.string _ _ _ (((t210.extract 0 7) ++ (⟨#[0]⟩ : ByteArray)) ++ (t210.extract 8 t210.size)) [.string (((t210.extract 0 7) ++ (⟨#[0]⟩ : ByteArray)) ++ (t210.extract 8 t210.size))] from rfl) (Reps.one (show Kd.M Kd.string _ _ _ (((t210.extract 0 11) ++ (⟨#[0]⟩ : ByteArray)) ++ (t210.extract 12 t210.size)) [.string (((t210.extract 0 11) ++ (⟨#[0]⟩ : ByteArray)) ++ (t210.extract 12 t210.size))] from rfl) (Reps.none _ _)))))))))
                                                                            intro v214 w82 ho83 hb hg_ hnew_
                                                                            clear hg_ hnew_
                                                                            (first | rw [← Ny213.out] at ho83 | (simp only [Int.reduceToNat] at ho83; rw [← Ny213.out] at ho83))
                                                                            have n0_ := Aside0.mk (Kd.R_lower ho83 (below_size (by repeat (first | (with_reducible first | exact HB.out | apply below_alloc | apply pw_below_drewN | apply below_drew1 | refine below_set ?_ GE207.out) | exact HB.out))))
                                                                            have n1_ := Aside0.mk (blk_below (g := gb207) (o := .cells #[.int .i64 ((rd_T53 y203 (ji8)).f0), .int .i64 ((rd_T53 y203 (ji8)).f1), .int .i64 ((rd_T53 y203 (ji8)).f2), .string ((rd_T53 y203 (ji8)).f3)] 53 (0, 0)) (by (with_reducible repeat (first | refine blk_drewN ?_ _ | refine blk_drew ?_ | refine blk_alloc ?_ _)); exact BK207.out) hb)
                                                                            have n2_ := Aside0.mk (below_step (by repeat (first | (with_reducible first | exact HB.out | apply below_alloc | apply pw_below_drewN | apply below_drew1 | refine below_set ?_ GE207.out) | exact HB.out)) hb)
                                                                            clear BK207
                                                                            clear HB
                                                                            have HO215 := n0_
                                                                            have BK207 := n1_
                                                                            have HB := n2_
                                                                            clear n0_ n1_ n2_
                                                                            clear hb ho83
                                                                            refine hK.out _ _ trivial (fun hHeld => ?_)
                                                                            clear hK K
                                                                            refine norm_ (a' := ?_) ?_ ?_
                                                                            rotate_left
                                                                            · show Act.put _ (some 108) _ = _
                                                                              simp only [Act.put, List.setIfInBounds_toArray, List.set_cons_zero, List.set_cons_succ, i64_w, i32_w]
                                                                              rfl
                                                                            refine pure_ (i := 29) (N := some 13) (v := ?_) (a' := ?_) #[true, true, true, true, true, true, true, true, true, true, true, true, true, true, true, true, true, true, true, true, true, true, true, true, true, true, true, true, true, true] rfl rfl (any_of HT_.out (by kernel_rfl)) (fun _ _ _ h => h) (Or.inl ⟨by rfl, ?_⟩) ?_ ?_
                                                                            rotate_left
                                                                            · intro w'
                                                                              go_simp
                                                                              with_reducible rfl
                                                                            rotate_left
                                                                            · simp only [Act.put, List.setIfInBounds_toArray, List.set_cons_zero, List.set_cons_succ, i64_w, i32_w]
                                                                              rfl
                                                                            refine done_ (done_of HT_.out (by kernel_rfl)) ?_
                                                                            obtain ⟨Ao84, co84, eo84⟩ := Kd.R_slice HO215.out
                                                                            subst eo84
                                                                            have p216 : 0 ≤ ((ji51) : Int) := of_decide_eq_true (by first | (with_reducible assumption) | assumption)
                                                                            have q216 : (ji51) < (y213.length : Int) := of_decide_eq_true (by first | (with_reducible assumption) | assumption)
                                                                            obtain ⟨ad216, e216, hx216_0⟩ := Kd.at_string (Kd.R_reads' HO215.out).2.2 (ji51) p216 q216
                                                                            cases e216
                                                                            replace p216 := eq_true p216
                                                                            replace q216 := eq_true q216
                                                                            try go_wp2_with (first | ((with_reducible refine gate_callee (f := 33) rfl ?_); refine goesL_ (some 117) rfl rfl Try.func33 (by kernel_rfl) rfl #[.string (rdOf ByteArray.empty y213 (ji51))] rfl (by (try simp only [List.map_toArray, List.map_cons, List.map_nil]); first | done | (simp only [hji51]; rfl) | rfl | (simp only [List.length_drop, List.length_take]; rfl)) ?_; (with_reducible refine (trailer_Get.calls kj12 (rdOf ByteArray.empty y213 (ji51)) t217 t218 t219 t220 t221 _ A54.out).mono ?_); rintro e w85 ⟨rfl, hb⟩; refine ⟨_, rfl, ?_⟩; have n0_ := Aside0.mk (Kd.R_below (by (with_reducible repeat (first | apply Kd.R_alloc | apply Kd.R_drewN | apply Kd.R_drew)); exact HO215.out) hb); have n1_ := Aside0.mk (blk_below (g := gb207) (o := .cells #[.int .i64 ((rd_T53 y203 (ji8)).f0), .int .i64 ((rd_T53 y203 (ji8)).f1), .int .i64 ((rd_T53 y203 (ji8)).f2), .string ((rd_T53 y203 (ji8)).f3)] 53 (0, 0)) (by (with_reducible repeat (first | refine blk_drewN ?_ _ | refine blk_drew ?_ | refine blk_alloc ?_ _)); exact BK207.out) hb); have n2_ := Aside0.mk (below_step (by repeat (first | (with_reducible first | exact HB.out | apply below_alloc | apply pw_below_drewN | apply below_drew1 | refine below_set ?_ GE207.out) | exact HB.out)) hb); clear HO215; clear BK207; clear HB; have HO215 := n0_; have BK207 := n1_; have HB := n2_; clear n0_ n1_ n2_; (try clear hb); (try clear hb2); (try clear hk); (try clear hi)) | ((with_reducible refine gate_dst (N := 14) rfl ?_); (try (refine gate_guard (by rfl) ?_; dsimp only)); refine box_event ?hg (N := 14) ?hd (cs := #[.int .i64 0, .int .i64 0, .int .i64 0, .string (⟨#[]⟩ : ByteArray)]) (t := 53) ?hr ?_; (case hd => rfl); (case hg => rfl); (case hr => first | (go_simp; done) | (go_simp; rfl)); intro gb222 hg w86 hbox hb; have n0_ := Aside0.mk (Kd.R_below (by (with_reducible repeat (first | apply Kd.R_alloc | apply Kd.R_drewN | apply Kd.R_drew)); exact HO215.out) hb); have n1_ := Aside0.mk (blk_below (g := gb207) (o := .cells #[.int .i64 ((rd_T53 y203 (ji8)).f0), .int .i64 ((rd_T53 y203 (ji8)).f1), .int .i64 ((rd_T53 y203 (ji8)).f2), .string ((rd_T53 y203 (ji8)).f3)] 53 (0, 0)) (by (with_reducible repeat (first | refine blk_drewN ?_ _ | refine blk_drew ?_ | refine blk_alloc ?_ _)); exact BK207.out) hb); have n2_ := Aside0.mk (below_step (by repeat (first | (with_reducible first | exact HB.out | apply below_alloc | apply pw_below_drewN | apply below_drew1 | refine below_set ?_ GE207.out) | exact HB.out)) hb); have n3_ := Aside0.mk (hbox); have n4_ := Aside0.mk ((by rw [hg]; exact (below_size (by repeat (first | (with_reducible first | exact HB.out | apply below_alloc | apply pw_below_drewN | apply below_drew1 | refine below_set ?_ GE207.out) | exact HB.out))) : w.heap.size ≤ gb222)); have n5_ := Aside0.mk ((by rw [hg]; exact (below_size (by repeat (first | (with_reducible first | exact HB.out | apply below_alloc | apply pw_below_drewN | apply below_drew1 | refine below_set ?_ GE207.out) | exact HB.out))) : w.heap.size ≤ gb222)); have n6_ := Aside0.mk ((by rw [hg]; exact Nat.ne_of_lt (blk_lt (g := gb207) (o := .cells #[.int .i64 ((rd_T53 y203 (ji8)).f0), .int .i64 ((rd_T53 y203 (ji8)).f1), .int .i64 ((rd_T53 y203 (ji8)).f2), .string ((rd_T53 y203 (ji8)).f3)] 53 (0, 0)) (by (with_reducible repeat (first | refine blk_drewN ?_ _ | refine blk_drew ?_ | refine blk_alloc ?_ _)); exact BK207.out)) : gb207 ≠ gb222)); have n7_ := Aside0.mk ((by rw [hg]; exact Nat.ne_of_gt (blk_lt (g := gb207) (o := .cells #[.int .i64 ((rd_T53 y203 (ji8)).f0), .int .i64 ((rd_T53 y203 (ji8)).f1), .int .i64 ((rd_T53 y203 (ji8)).f2), .string ((rd_T53 y203 (ji8)).f3)] 53 (0, 0)) (by (with_reducible repeat (first | refine blk_drewN ?_ _ | refine blk_drew ?_ | refine blk_alloc ?_ _)); exact BK207.out)) : gb222 ≠ gb207)); clear HO215; clear BK207; clear HB; have HO215 := n0_; have BK207 := n1_; have HB := n2_; have BK222 := n3_; have GW222 := n4_; have GE222 := n5_; have NB207_222 := n6_; have NB222_207 := n7_; clear n0_ n1_ n2_ n3_ n4_ n5_ n6_ n7_; clear hb hbox hg; have hnb87 := NB222_207.out; have hnc87 := NB207_222.out; have hcz88_0 : w86.cell? ⟨gb222, 0, none⟩ = some (.int .i64 0) := (blk_cell BK222.out 0).trans rfl; have hcz88_1 : w86.cell? ⟨gb222, 1, none⟩ = some (.int .i64 0) := (blk_cell BK222.out 1).trans rfl; have hcz88_2 : w86.cell? ⟨gb222, 2, none⟩ = some (.int .i64 0) := (blk_cell BK222.out 2).trans rfl; have hcz88_3 : w86.cell? ⟨gb222, 3, none⟩ = some (.string (⟨#[]⟩ : ByteArray)) := (blk_cell BK222.out 3).trans rfl; have hfz88_0 := blk_frozen BK222.out 0; have hfz88_1 := blk_frozen BK222.out 1; have hfz88_2 := blk_frozen BK222.out 2; have hfz88_3 := blk_frozen BK222.out 3; have hcz89_0 : w86.cell? ⟨gb207, 0, none⟩ = some (.int .i64 ((rd_T53 y203 (ji8)).f0)) := (blk_cell BK207.out 0).trans rfl; have hcz89_1 : w86.cell? ⟨gb207, 1, none⟩ = some (.int .i64 ((rd_T53 y203 (ji8)).f1)) := (blk_cell BK207.out 1).trans rfl; have hcz89_2 : w86.cell? ⟨gb207, 2, none⟩ = some (.int .i64 ((rd_T53 y203 (ji8)).f2)) := (blk_cell BK207.out 2).trans rfl; have hcz89_3 : w86.cell? ⟨gb207, 3, none⟩ = some (.string ((rd_T53 y203 (ji8)).f3)) := (blk_cell BK207.out 3).trans rfl; have hfz89_0 := blk_frozen BK207.out 0; have hfz89_1 := blk_frozen BK207.out 1; have hfz89_2 := blk_frozen BK207.out 2; have hfz89_3 := blk_frozen BK207.out 3) | ((with_reducible refine gate_callee (f := 35) rfl ?_); refine goesL_ (some 121) rfl rfl Try.func35 (by kernel_rfl) rfl #[.agg #[.int .i64 ((rd_T53 y203 (ji8)).f0), .int .i64 ((rd_T53 y203 (ji8)).f1), .int .i64 ((rd_T53 y203 (ji8)).f2), .string ((rd_T53 y203 (ji8)).f3)]] rfl (by (try simp only [List.map_toArray, List.map_cons, List.map_nil]); first | done | (simp only [hji8]; rfl) | rfl | (simp only [List.length_drop, List.length_take]; rfl)) ?_; (with_reducible refine (trailer_May.calls ((rd_T53 y203 (ji8)).f0) ((rd_T53 y203 (ji8)).f1) ((rd_T53 y203 (ji8)).f2) ((rd_T53 y203 (ji8)).f3) false _ A55.out).mono ?_); rintro e w90 ⟨rfl, hb⟩; refine ⟨_, rfl, ?_⟩; have n0_ := Aside0.mk (Kd.R_below (by (with_reducible repeat (first | apply Kd.R_alloc | apply Kd.R_drewN | apply Kd.R_drew)); exact (Kd.R_mono (Kd.R_far (p := ⟨gb222, 3, none⟩) (Kd.R_far (p := ⟨gb222, 2, none⟩) (Kd.R_far (p := ⟨gb222, 1, none⟩) (Kd.R_far (p := ⟨gb222, 0, none⟩) (Kd.R_types HO215.out BK222.out (by decide)) (fun _ hk => hk.2) (.int .i64 t217)) (fun _ hk => hk.2) (.int .i64 t218)) (fun _ hk => hk.2) (.int .i64 t219)) (fun _ hk => hk.2) (.string t220)) (fun _ h_ => h_.1))) hb); have n1_ := Aside0.mk (blk_below (g := gb207) (o := .cells #[.int .i64 ((rd_T53 y203 (ji8)).f0), .int .i64 ((rd_T53 y203 (ji8)).f1), .int .i64 ((rd_T53 y203 (ji8)).f2), .string ((rd_T53 y203 (ji8)).f3)] 53 (0, 0)) (by (with_reducible repeat (first | refine blk_drewN ?_ _ | refine blk_drew ?_ | refine blk_alloc ?_ _)); refine blk_far ?_ NB207_222.out _; (with_reducible repeat (first | refine blk_drewN ?_ _ | refine blk_drew ?_ | refine blk_alloc ?_ _)); refine blk_far ?_ NB207_222.out _; (with_reducible repeat (first | refine blk_drewN ?_ _ | refine blk_drew ?_ | refine blk_alloc ?_ _)); refine blk_far ?_ NB207_222.out _; (with_reducible repeat (first | refine blk_drewN ?_ _ | refine blk_drew ?_ | refine blk_alloc ?_ _)); refine blk_far ?_ NB207_222.out _; (with_reducible repeat (first | refine blk_drewN ?_ _ | refine blk_drew ?_ | refine blk_alloc ?_ _)); exact BK207.out) hb); have n2_ := Aside0.mk (blk_below (g := gb222) (o := .cells #[.int .i64 t217, .int .i64 t218, .int .i64 t219, .string t220] 53 (0, 0)) (by (with_reducible repeat (first | refine blk_drewN ?_ _ | refine blk_drew ?_ | refine blk_alloc ?_ _)); refine blk_put (cs := #[.int .i64 t217, .int .i64 t218, .int .i64 t219, .string (⟨#[]⟩ : ByteArray)]) ?_ 3 _ rfl; (with_reducible repeat (first | refine blk_drewN ?_ _ | refine blk_drew ?_ | refine blk_alloc ?_ _)); refine blk_put (cs := #[.int .i64 t217, .int .i64 t218, .int .i64 0, .string (⟨#[]⟩ : ByteArray)]) ?_ 2 _ rfl; (with_reducible repeat (first | refine blk_drewN ?_ _ | refine blk_drew ?_ | refine blk_alloc ?_ _)); refine blk_put (cs := #[.int .i64 t217, .int .i64 0, .int .i64 0, .string (⟨#[]⟩ : ByteArray)]) ?_ 1 _ rfl; (with_reducible repeat (first | refine blk_drewN ?_ _ | refine blk_drew ?_ | refine blk_alloc ?_ _)); refine blk_put (cs := #[.int .i64 0, .int .i64 0, .int .i64 0, .string (⟨#[]⟩ : ByteArray)]) ?_ 0 _ rfl; (with_reducible repeat (first | refine blk_drewN ?_ _ | refine blk_drew ?_ | refine blk_alloc ?_ _)); exact BK222.out) hb); have n3_ := Aside0.mk (below_step (by repeat (first | (with_reducible first | exact HB.out | apply below_alloc | apply pw_below_drewN | apply below_drew1 | refine below_set ?_ GE207.out | refine below_set ?_ GE222.out) | exact HB.out)) hb); clear HO215; clear BK207; clear BK222; clear HB; have HO215 := n0_; have BK207 := n1_; have BK222 := n2_; have HB := n3_; clear n0_ n1_ n2_ n3_; (try clear hb); (try clear hb2); (try clear hk); (try clear hi)) | (go_at_call 18; (with_reducible refine (watchwordlaw0_Num.calls t209 t224 _ A68.out).mono ?_); rintro e w' ⟨rfl, ⟨nd, rfl⟩⟩))
                                                                            go_ret
                                                                            exact ⟨by first | rfl | (simp [errW_none, errW_some] <;> rfl) | (simp only [← hji8, ← hji51]; first | rfl | (simp [errW_none, errW_some] <;> rfl)) | (simp [*, errW_none, errW_some] <;> rfl), by repeat (first | (with_reducible first | exact HB.out | apply below_alloc | apply pw_below_drewN | apply below_drew1 | refine below_set ?_ GE207.out | refine below_set ?_ GE222.out) | exact HB.out)⟩
                                                                        · rw [if_neg c67] at H
                                                                          have c67b0 : (t208.toList == ([] : List UInt8)) = false := beq_eq_false_iff_ne.mpr c67
                                                                          have c67b1 : (t208.toList != ([] : List UInt8)) = true := bne_iff_ne.mpr c67
                                                                          obtain rfl := Option.some.inj H
                                                                          try go_wp2
                                                                          have n0_ := Aside0.mk (blk_drew BK207.out)
                                                                          have n1_ := Aside0.mk (below_drew1 HB.out)
                                                                          clear BK207
                                                                          clear HB
                                                                          have BK207 := n0_
                                                                          have HB := n1_
                                                                          clear n0_ n1_
                                                                          refine start_ (n := 30) (S := fun w' => True) (ds := []) #[false, false, false, false, false, false, false, false, false, false, false, false, false, false, false, false, false, false, false, false, false, false, false, false, false, false, false, false, false, false] (by kernel_rfl) rfl rfl trivial (fun hHeld => ?_); refine with_tabW watchwordlaw13_TrailerForms.tab11 watchwordlaw13_TrailerForms.bits11 (fun HT_ HW_ => ?_)
                                                                          generalize wc.drew = w91 at BK207 HB hHeld ⊢
                                                                          refine pure_ (i := 0) (N := some 80) (v := ?_) (a' := ?_) #[true, false, false, false, false, false, false, false, false, false, false, false, false, false, false, false, false, false, false, false, false, false, false, false, false, false, false, false, false, false] rfl rfl (any_of HT_.out (by kernel_rfl)) (fun _ _ _ h => h) (Or.inl ⟨by rfl, ?_⟩) ?_ ?_
                                                                          rotate_left
                                                                          · intro w'
                                                                            go_simp
                                                                            with_reducible rfl
                                                                          rotate_left
                                                                          · simp only [Act.put, List.setIfInBounds_toArray, List.set_cons_zero, List.set_cons_succ, i64_w, i32_w]
                                                                            rfl
                                                                          refine pure_ (i := 1) (N := some 81) (v := ?_) (a' := ?_) #[true, true, false, false, false, false, false, false, false, false, false, false, false, false, false, false, false, false, false, false, false, false, false, false, false, false, false, false, false, false] rfl rfl (any_of HT_.out (by kernel_rfl)) (fun _ _ _ h => h) (Or.inl ⟨by rfl, ?_⟩) ?_ ?_
                                                                          rotate_left
                                                                          · intro w'
                                                                            go_simp
                                                                            with_reducible rfl
                                                                          rotate_left
                                                                          · simp only [Act.put, List.setIfInBounds_toArray, List.set_cons_zero, List.set_cons_succ, i64_w, i32_w]
                                                                            rfl
                                                                          refine pure_ (i := 2) (N := some 82) (v := ?_) (a' := ?_) #[true, true, true, false, false, false, false, false, false, false, false, false, false, false, false, false, false, false, false, false, false, false, false, false, false, false, false, false, false, false] rfl rfl (any_of HT_.out (by kernel_rfl)) (fun _ _ _ h => h) (Or.inl ⟨by rfl, ?_⟩) ?_ ?_
                                                                          rotate_left
                                                                          · intro w'
                                                                            go_simp
                                                                            with_reducible rfl
                                                                          rotate_left
                                                                          · simp only [Act.put, List.setIfInBounds_toArray, List.set_cons_zero, List.set_cons_succ, i64_w, i32_w]
                                                                            rfl
                                                                          refine pure_ (i := 3) (N := some 83) (v := ?_) (a' := ?_) #[true, true, true, true, false, false, false, false, false, false, false, false, false, false, false, false, false, false, false, false, false, false, false, false, false, false, false, false, false, false] rfl rfl (any_of HT_.out (by kernel_rfl)) (fun _ _ _ h => h) (Or.inl ⟨by rfl, ?_⟩) ?_ ?_
                                                                          rotate_left
                                                                          · intro w'
                                                                            go_simp
                                                                            with_reducible rfl
                                                                          rotate_left
                                                                          · simp only [Act.put, List.setIfInBounds_toArray, List.set_cons_zero, List.set_cons_succ, i64_w, i32_w]
                                                                            rfl
                                                                          refine pure_ (i := 4) (N := some 84) (v := ?_) (a' := ?_) #[true, true, true, true, true, false, false, false, false, false, false, false, false, false, false, false, false, false, false, false, false, false, false, false, false, false, false, false, false, false] rfl rfl (any_of HT_.out (by kernel_rfl)) (fun _ _ _ h => h) (Or.inl ⟨by rfl, ?_⟩) ?_ ?_
                                                                          rotate_left
                                                                          · intro w'
                                                                            go_simp
                                                                            with_reducible rfl
                                                                          rotate_left
                                                                          · simp only [Act.put, List.setIfInBounds_toArray, List.set_cons_zero, List.set_cons_succ, i64_w, i32_w]
                                                                            rfl
                                                                          refine pure_ (i := 5) (N := some 85) (v := ?_) (a' := ?_) #[true, true, true, true, true, true, false, false, false, false, false, false, false, false, false, false, false, false, false, false, false, false, false, false, false, false, false, false, false, false] rfl rfl (any_of HT_.out (by kernel_rfl)) (fun _ _ _ h => h) (Or.inl ⟨by rfl, ?_⟩) ?_ ?_
                                                                          rotate_left
                                                                          · intro w'
                                                                            go_simp
                                                                            with_reducible rfl
                                                                          rotate_left
                                                                          · simp only [Act.put, List.setIfInBounds_toArray, List.set_cons_zero, List.set_cons_succ, i64_w, i32_w]
                                                                            rfl
                                                                          refine pure_ (i := 6) (N := some 86) (v := ?_) (a' := ?_) #[true, true, true, true, true, true, true, false, false, false, false, false, false, false, false, false, false, false, false, false, false, false, false, false, false, false, false, false, false, false] rfl rfl (any_of HT_.out (by kernel_rfl)) (fun _ _ _ h => h) (Or.inl ⟨by rfl, ?_⟩) ?_ ?_
                                                                          rotate_left
                                                                          · intro w'
                                                                            go_simp
                                                                            with_reducible rfl
                                                                          rotate_left
                                                                          · simp only [Act.put, List.setIfInBounds_toArray, List.set_cons_zero, List.set_cons_succ, i64_w, i32_w]
                                                                            rfl
                                                                          refine pure_ (i := 7) (N := some 87) (v := ?_) (a' := ?_) #[true, true, true, true, true, true, true, true, false, false, false, false, false, false, false, false, false, false, false, false, false, false, false, false, false, false, false, false, false, false] rfl rfl (any_of HT_.out (by kernel_rfl)) (fun _ _ _ h => h) (Or.inl ⟨by rfl, ?_⟩) ?_ ?_
                                                                          rotate_left
                                                                          · intro w'
                                                                            go_simp
                                                                            with_reducible rfl
                                                                          rotate_left
                                                                          · simp only [Act.put, List.setIfInBounds_toArray, List.set_cons_zero, List.set_cons_succ, i64_w, i32_w]
                                                                            rfl
                                                                          refine pure_ (i := 8) (N := some 88) (v := ?_) (a' := ?_) #[true, true, true, true, true, true, true, true, true, false, false, false, false, false, false, false, false, false, false, false, false, false, false, false, false, false, false, false, false, false] rfl rfl (any_of HT_.out (by kernel_rfl)) (fun _ _ _ h => h) (Or.inl ⟨by rfl, ?_⟩) ?_ ?_
                                                                          rotate_left
                                                                          · intro w'
                                                                            go_simp
                                                                            with_reducible rfl
                                                                          rotate_left
                                                                          · simp only [Act.put, List.setIfInBounds_toArray, List.set_cons_zero, List.set_cons_succ, i64_w, i32_w]
                                                                            rfl
                                                                          refine pure_ (i := 9) (N := some 89) (v := ?_) (a' := ?_) #[true, true, true, true, true, true, true, true, true, true, false, false, false, false, false, false, false, false, false, false, false, false, false, false, false, false, false, false, false, false] rfl rfl (any_of HT_.out (by kernel_rfl)) (fun _ _ _ h => h) (Or.inl ⟨by rfl, ?_⟩) ?_ ?_
                                                                          rotate_left
                                                                          · intro w'
                                                                            go_simp
                                                                            with_reducible rfl
                                                                          rotate_left
                                                                          · simp only [Act.put, List.setIfInBounds_toArray, List.set_cons_zero, List.set_cons_succ, i64_w, i32_w]
                                                                            rfl
                                                                          refine pure_ (i := 10) (N := some 90) (v := ?_) (a' := ?_) #[true, true, true, true, true, true, true, true, true, true, true, false, false, false, false, false, false, false, false, false, false, false, false, false, false, false, false, false, false, false] rfl rfl (any_of HT_.out (by kernel_rfl)) (fun _ _ _ h => h) (Or.inl ⟨by rfl, ?_⟩) ?_ ?_
                                                                          rotate_left
                                                                          · intro w'
                                                                            go_simp
                                                                            with_reducible rfl
                                                                          rotate_left
                                                                          · simp only [Act.put, List.setIfInBounds_toArray, List.set_cons_zero, List.set_cons_succ, i64_w, i32_w]
                                                                            rfl
                                                                          refine pure_ (i := 11) (N := some 91) (v := ?_) (a' := ?_) #[true, true, true, true, true, true, true, true, true, true, true, true, false, false, false, false, false, false, false, false, false, false, false, false, false, false, false, false, false, false] rfl rfl (any_of HT_.out (by kernel_rfl)) (fun _ _ _ h => h) (Or.inl ⟨by rfl, ?_⟩) ?_ ?_
                                                                          rotate_left
                                                                          · intro w'
                                                                            go_simp
                                                                            with_reducible rfl
                                                                          rotate_left
                                                                          · simp only [Act.put, List.setIfInBounds_toArray, List.set_cons_zero, List.set_cons_succ, i64_w, i32_w]
                                                                            rfl
                                                                          refine pure_ (i := 12) (N := some 92) (v := ?_) (a' := ?_) #[true, true, true, true, true, true, true, true, true, true, true, true, true, false, false, false, false, false, false, false, false, false, false, false, false, false, false, false, false, false] rfl rfl (any_of HT_.out (by kernel_rfl)) (fun _ _ _ h => h) (Or.inl ⟨by rfl, ?_⟩) ?_ ?_
                                                                          rotate_left
                                                                          · intro w'
                                                                            go_simp
                                                                            with_reducible rfl
                                                                          rotate_left
                                                                          · simp only [Act.put, List.setIfInBounds_toArray, List.set_cons_zero, List.set_cons_succ, i64_w, i32_w]
                                                                            rfl
                                                                          refine pure_ (i := 13) (N := some 93) (v := ?_) (a' := ?_) #[true, true, true, true, true, true, true, true, true, true, true, true, true, true, false, false, false, false, false, false, false, false, false, false, false, false, false, false, false, false] rfl rfl (any_of HT_.out (by kernel_rfl)) (fun _ _ _ h => h) (Or.inl ⟨by rfl, ?_⟩) ?_ ?_
                                                                          rotate_left
                                                                          · intro w'
                                                                            go_simp
                                                                            with_reducible rfl
                                                                          rotate_left
                                                                          · simp only [Act.put, List.setIfInBounds_toArray, List.set_cons_zero, List.set_cons_succ, i64_w, i32_w]
                                                                            rfl
                                                                          refine pure_ (i := 14) (N := some 94) (v := ?_) (a' := ?_) #[true, true, true, true, true, true, true, true, true, true, true, true, true, true, true, false, false, false, false, false, false, false, false, false, false, false, false, false, false, false] rfl rfl (any_of HT_.out (by kernel_rfl)) (fun _ _ _ h => h) (Or.inl ⟨by rfl, ?_⟩) ?_ ?_
                                                                          rotate_left
                                                                          · intro w'
                                                                            go_simp
                                                                            with_reducible rfl
                                                                          rotate_left
                                                                          · simp only [Act.put, List.setIfInBounds_toArray, List.set_cons_zero, List.set_cons_succ, i64_w, i32_w]
                                                                            rfl
                                                                          refine pure_ (i := 15) (N := some 95) (v := ?_) (a' := ?_) #[true, true, true, true, true, true, true, true, true, true, true, true, true, true, true, true, false, false, false, false, false, false, false, false, false, false, false, false, false, false] rfl rfl (any_of HT_.out (by kernel_rfl)) (fun _ _ _ h => h) (Or.inl ⟨by rfl, ?_⟩) ?_ ?_
                                                                          rotate_left
                                                                          · intro w'
                                                                            go_simp
                                                                            with_reducible rfl
                                                                          rotate_left
                                                                          · simp only [Act.put, List.setIfInBounds_toArray, List.set_cons_zero, List.set_cons_succ, i64_w, i32_w]
                                                                            rfl
                                                                          refine pure_ (i := 16) (N := some 96) (v := ?_) (a' := ?_) #[true, true, true, true, true, true, true, true, true, true, true, true, true, true, true, true, true, false, false, false, false, false, false, false, false, false, false, false, false, false] rfl rfl (any_of HT_.out (by kernel_rfl)) (fun _ _ _ h => h) (Or.inl ⟨by rfl, ?_⟩) ?_ ?_
                                                                          rotate_left
                                                                          · intro w'
                                                                            go_simp
                                                                            with_reducible rfl
                                                                          rotate_left
                                                                          · simp only [Act.put, List.setIfInBounds_toArray, List.set_cons_zero, List.set_cons_succ, i64_w, i32_w]
                                                                            rfl
                                                                          refine pure_ (i := 17) (N := some 97) (v := ?_) (a' := ?_) #[true, true, true, true, true, true, true, true, true, true, true, true, true, true, true, true, true, true, false, false, false, false, false, false, false, false, false, false, false, false] rfl rfl (any_of HT_.out (by kernel_rfl)) (fun _ _ _ h => h) (Or.inl ⟨by rfl, ?_⟩) ?_ ?_
                                                                          rotate_left
                                                                          · intro w'
                                                                            go_simp
                                                                            with_reducible rfl
                                                                          rotate_left
                                                                          · simp only [Act.put, List.setIfInBounds_toArray, List.set_cons_zero, List.set_cons_succ, i64_w, i32_w]
                                                                            rfl
                                                                          refine pure_ (i := 18) (N := some 98) (v := ?_) (a' := ?_) #[true, true, true, true, true, true, true, true, true, true, true, true, true, true, true, true, true, true, true, false, false, false, false, false, false, false, false, false, false, false] rfl rfl (any_of HT_.out (by kernel_rfl)) (fun _ _ _ h => h) (Or.inl ⟨by rfl, ?_⟩) ?_ ?_
                                                                          rotate_left
                                                                          · intro w'
                                                                            go_simp
                                                                            with_reducible rfl
                                                                          rotate_left
                                                                          · simp only [Act.put, List.setIfInBounds_toArray, List.set_cons_zero, List.set_cons_succ, i64_w, i32_w]
                                                                            rfl
                                                                          refine pure_ (i := 19) (N := some 99) (v := ?_) (a' := ?_) #[true, true, true, true, true, true, true, true, true, true, true, true, true, true, true, true, true, true, true, true, false, false, false, false, false, false, false, false, false, false] rfl rfl (any_of HT_.out (by kernel_rfl)) (fun _ _ _ h => h) (Or.inl ⟨by rfl, ?_⟩) ?_ ?_
                                                                          rotate_left
                                                                          · intro w'
                                                                            go_simp
                                                                            with_reducible rfl
                                                                          rotate_left
                                                                          · simp only [Act.put, List.setIfInBounds_toArray, List.set_cons_zero, List.set_cons_succ, i64_w, i32_w]
                                                                            rfl
                                                                          refine pure_ (i := 20) (N := some 100) (v := ?_) (a' := ?_) #[true, true, true, true, true, true, true, true, true, true, true, true, true, true, true, true, true, true, true, true, true, false, false, false, false, false, false, false, false, false] rfl rfl (any_of HT_.out (by kernel_rfl)) (fun _ _ _ h => h) (Or.inl ⟨by rfl, ?_⟩) ?_ ?_
                                                                          rotate_left
                                                                          · intro w'
                                                                            go_simp
                                                                            with_reducible rfl
                                                                          rotate_left
                                                                          · simp only [Act.put, List.setIfInBounds_toArray, List.set_cons_zero, List.set_cons_succ, i64_w, i32_w]
                                                                            rfl
                                                                          refine pure_ (i := 21) (N := some 101) (v := ?_) (a' := ?_) #[true, true, true, true, true, true, true, true, true, true, true, true, true, true, true, true, true, true, true, true, true, true, false, false, false, false, false, false, false, false] rfl rfl (any_of HT_.out (by kernel_rfl)) (fun _ _ _ h => h) (Or.inl ⟨by rfl, ?_⟩) ?_ ?_
                                                                          rotate_left
                                                                          · intro w'
                                                                            go_simp
                                                                            with_reducible rfl
                                                                          rotate_left
                                                                          · simp only [Act.put, List.setIfInBounds_toArray, List.set_cons_zero, List.set_cons_succ, i64_w, i32_w]
                                                                            rfl
                                                                          refine pure_ (i := 22) (N := some 102) (v := ?_) (a' := ?_) #[true, true, true, true, true, true, true, true, true, true, true, true, true, true, true, true, true, true, true, true, true, true, true, false, false, false, false, false, false, false] rfl rfl (any_of HT_.out (by kernel_rfl)) (fun _ _ _ h => h) (Or.inl ⟨by rfl, ?_⟩) ?_ ?_
                                                                          rotate_left
                                                                          · intro w'
                                                                            go_simp
                                                                            with_reducible rfl
                                                                          rotate_left
                                                                          · simp only [Act.put, List.setIfInBounds_toArray, List.set_cons_zero, List.set_cons_succ, i64_w, i32_w]
                                                                            rfl
                                                                          refine pure_ (i := 23) (N := some 103) (v := ?_) (a' := ?_) #[true, true, true, true, true, true, true, true, true, true, true, true, true, true, true, true, true, true, true, true, true, true, true, true, false, false, false, false, false, false] rfl rfl (any_of HT_.out (by kernel_rfl)) (fun _ _ _ h => h) (Or.inl ⟨by rfl, ?_⟩) ?_ ?_
                                                                          rotate_left
                                                                          · intro w'
                                                                            go_simp
                                                                            with_reducible rfl
                                                                          rotate_left
                                                                          · simp only [Act.put, List.setIfInBounds_toArray, List.set_cons_zero, List.set_cons_succ, i64_w, i32_w]
                                                                            rfl
                                                                          refine pure_ (i := 24) (N := some 104) (v := ?_) (a' := ?_) #[true, true, true, true, true, true, true, true, true, true, true, true, true, true, true, true, true, true, true, true, true, true, true, true, true, false, false, false, false, false] rfl rfl (any_of HT_.out (by kernel_rfl)) (fun _ _ _ h => h) (Or.inl ⟨by rfl, ?_⟩) ?_ ?_
                                                                          rotate_left
                                                                          · intro w'
                                                                            go_simp
                                                                            with_reducible rfl
                                                                          rotate_left
                                                                          · simp only [Act.put, List.setIfInBounds_toArray, List.set_cons_zero, List.set_cons_succ, i64_w, i32_w]
                                                                            rfl
                                                                          refine pure_ (i := 25) (N := some 105) (v := ?_) (a' := ?_) #[true, true, true, true, true, true, true, true, true, true, true, true, true, true, true, true, true, true, true, true, true, true, true, true, true, true, false, false, false, false] rfl rfl (any_of HT_.out (by kernel_rfl)) (fun _ _ _ h => h) (Or.inl ⟨by rfl, ?_⟩) ?_ ?_
                                                                          rotate_left
                                                                          · intro w'
                                                                            go_simp
                                                                            with_reducible rfl
                                                                          rotate_left
                                                                          · simp only [Act.put, List.setIfInBounds_toArray, List.set_cons_zero, List.set_cons_succ, i64_w, i32_w]
                                                                            rfl
                                                                          refine pure_ (i := 26) (N := some 106) (v := ?_) (a' := ?_) #[true, true, true, true, true, true, true, true, true, true, true, true, true, true, true, true, true, true, true, true, true, true, true, true, true, true, true, false, false, false] rfl rfl (any_of HT_.out (by kernel_rfl)) (fun _ _ _ h => h) (Or.inl ⟨by rfl, ?_⟩) ?_ ?_
                                                                          rotate_left
                                                                          · intro w'
                                                                            go_simp
                                                                            with_reducible rfl
                                                                          rotate_left
                                                                          · simp only [Act.put, List.setIfInBounds_toArray, List.set_cons_zero, List.set_cons_succ, i64_w, i32_w]
                                                                            rfl
                                                                          refine pure_ (i := 27) (N := some 107) (v := ?_) (a' := ?_) #[true, true, true, true, true, true, true, true, true, true, true, true, true, true, true, true, true, true, true, true, true, true, true, true, true, true, true, true, false, false] rfl rfl (any_of HT_.out (by kernel_rfl)) (fun _ _ _ h => h) (Or.inl ⟨by rfl, ?_⟩) ?_ ?_
                                                                          rotate_left
                                                                          · intro w'
                                                                            go_simp
                                                                            with_reducible rfl
                                                                          rotate_left
                                                                          · simp only [Act.put, List.setIfInBounds_toArray, List.set_cons_zero, List.set_cons_succ, i64_w, i32_w]
                                                                            rfl
                                                                          refine one_ (i := 28) (N := some 108) #[true, true, true, true, true, true, true, true, true, true, true, true, true, true, true, true, true, true, true, true, true, true, true, true, true, true, true, true, true, false] rfl rfl (one_of HT_.out (by kernel_rfl)) (by decide) (fun K hK => ?_)
                                                                          refine Kd.R_lit_step Kd.string _ 9 ?hg (N := 108) ?hd (xs := ([(⟨#[]⟩ : ByteArray), t210.extract 0 43, t210 ++ (⟨#[120]⟩ : ByteArray), ((t210.extract 0 1) ++ (⟨#[1]⟩ : ByteArray)) ++ (t210.extract 2 t210.size), ((t210.extract 0 3) ++ (⟨#[1]⟩ : ByteArray)) ++ (t210.extract 4 t210.size), ((t210.extract 0 7) ++ (⟨#[0]⟩ : ByteArray)) ++ (t210.extract 8 t210.size), ((t210.extract 0 11) ++ (⟨#[0]⟩ : ByteArray)) ++ (t210.extract 12 t210.size)] : List ByteArray)) (inner := [.string (⟨#[]⟩ : ByteArray), .string (t210.extract 0 43), .string (t210 ++ (⟨#[120]⟩ : ByteArray)), .string (((t210.extract 0 1) ++ (⟨#[1]⟩ : ByteArray)) ++ (t210.extract 2 t210.size)), .string (((t210.extract 0 3) ++ (⟨#[1]⟩ : ByteArray)) ++ (t210.extract 4 t210.size)), .string (((t210.extract 0 7) ++ (⟨#[0]⟩ : ByteArray)) ++ (t210.extract 8 t210.size)), .string (((t210.extract 0 11) ++ (⟨#[0]⟩ : ByteArray)) ++ (t210.extract 12 t210.size))]) (ok := fun _ => True) (okp := fun _ => True) ?hr ?hp (fun _ hk => hk) trivial (Below.refl _ _) (Nat.le_refl _) (by simp) ?_; (case hd => rfl); (case hg => rfl); (case hr => first | (go_simp; done) | (go_simp; rfl)); (case hp => exact (Reps.one (show Kd.M Kd.string _ _ _ (⟨#[]⟩ : ByteArray) [.string (⟨#[]⟩ : ByteArray)] from rfl) (Reps.one (show Kd.M Kd.string _ _ _ (t210.extract 0 43) [.string (t210.extract 0 43)] from rfl) (Reps.one (show Kd.M Kd.string _ _ _ (t210 ++ (⟨#[120]⟩ : ByteArray)) [.string (t210 ++ (⟨#[120]⟩ : ByteArray))] from rfl) (Reps.one (show Kd.M Kd.string _ _ _ (((t210.extract 0 1) ++ (⟨#[1]⟩ : ByteArray)) ++ (t210.extract 2 t210.size)) [.string (((t210.extract 0 1) ++ (⟨#[1]⟩ : ByteArray)) ++ (t210.extract 2 t210.size))] from rfl) (Reps.one (show Kd.M Kd.string _ _ _ (((t210.extract 0 3) ++ (⟨#[1]⟩ : ByteArray)) ++ (t210.extract 4 t210.size)) [.string (((t210.extract 0 3) ++ (⟨#[1]⟩ : ByteArray)) ++ (t210.extract 4 t210.size))] from rfl) (Reps.one (show Kd.M Kd.string _ _ _ (((t210.extract 0 7) ++ (⟨#[0]⟩ : ByteArray)) ++ (t210.extract 8 t210.size)) [.string (((t210.extract 0 7) ++ (⟨#[0]⟩ : ByteArray)) ++ (t210.extract 8 t210.size))] from rfl) (Reps.one (show Kd.M Kd.string _ _ _ (((t210.extract 0 11) ++ (⟨#[0]⟩ : ByteArray)) ++ (t210.extract 12 t210.size)) [.string (((t210.extract 0 11) ++ (⟨#[0]⟩ : ByteArray)) ++ (t210.extract 12 t210.size))] from rfl) (Reps.none _ _)))))))))
                                                                          intro v214 w92 ho93 hb hg_ hnew_
                                                                          clear hg_ hnew_
                                                                          (first | rw [← Ny213.out] at ho93 | (simp only [Int.reduceToNat] at ho93; rw [← Ny213.out] at ho93))
                                                                          have n0_ := Aside0.mk (Kd.R_lower ho93 (below_size (by repeat (first | (with_reducible first | exact HB.out | apply below_alloc | apply pw_below_drewN | apply below_drew1 | refine below_set ?_ GE207.out) | exact HB.out))))
                                                                          have n1_ := Aside0.mk (blk_below (g := gb207) (o := .cells #[.int .i64 ((rd_T53 y203 (ji8)).f0), .int .i64 ((rd_T53 y203 (ji8)).f1), .int .i64 ((rd_T53 y203 (ji8)).f2), .string ((rd_T53 y203 (ji8)).f3)] 53 (0, 0)) (by (with_reducible repeat (first | refine blk_drewN ?_ _ | refine blk_drew ?_ | refine blk_alloc ?_ _)); exact BK207.out) hb)
                                                                          have n2_ := Aside0.mk (below_step (by repeat (first | (with_reducible first | exact HB.out | apply below_alloc | apply pw_below_drewN | apply below_drew1 | refine below_set ?_ GE207.out) | exact HB.out)) hb)
                                                                          clear BK207
                                                                          clear HB
                                                                          have HO215 := n0_
                                                                          have BK207 := n1_
                                                                          have HB := n2_
                                                                          clear n0_ n1_ n2_
                                                                          clear hb ho93
                                                                          refine hK.out _ _ trivial (fun hHeld => ?_)
                                                                          clear hK K
                                                                          refine norm_ (a' := ?_) ?_ ?_
                                                                          rotate_left
                                                                          · show Act.put _ (some 108) _ = _
                                                                            simp only [Act.put, List.setIfInBounds_toArray, List.set_cons_zero, List.set_cons_succ, i64_w, i32_w]
                                                                            rfl
                                                                          refine pure_ (i := 29) (N := some 13) (v := ?_) (a' := ?_) #[true, true, true, true, true, true, true, true, true, true, true, true, true, true, true, true, true, true, true, true, true, true, true, true, true, true, true, true, true, true] rfl rfl (any_of HT_.out (by kernel_rfl)) (fun _ _ _ h => h) (Or.inl ⟨by rfl, ?_⟩) ?_ ?_
                                                                          rotate_left
                                                                          · intro w'
                                                                            go_simp
                                                                            with_reducible rfl
                                                                          rotate_left
                                                                          · simp only [Act.put, List.setIfInBounds_toArray, List.set_cons_zero, List.set_cons_succ, i64_w, i32_w]
                                                                            rfl
                                                                          refine done_ (done_of HT_.out (by kernel_rfl)) ?_
                                                                          obtain ⟨Ao94, co94, eo94⟩ := Kd.R_slice HO215.out
                                                                          subst eo94
                                                                          have p216 : 0 ≤ ((ji51) : Int) := of_decide_eq_true (by first | (with_reducible assumption) | assumption)
                                                                          have q216 : (ji51) < (y213.length : Int) := of_decide_eq_true (by first | (with_reducible assumption) | assumption)
                                                                          obtain ⟨ad216, e216, hx216_0⟩ := Kd.at_string (Kd.R_reads' HO215.out).2.2 (ji51) p216 q216
                                                                          cases e216
                                                                          replace p216 := eq_true p216
                                                                          replace q216 := eq_true q216
                                                                          try go_wp2_with (first | ((with_reducible refine gate_callee (f := 33) rfl ?_); refine goesL_ (some 117) rfl rfl Try.func33 (by kernel_rfl) rfl #[.string (rdOf ByteArray.empty y213 (ji51))] rfl (by (try simp only [List.map_toArray, List.map_cons, List.map_nil]); first | done | (simp only [hji51]; rfl) | rfl | (simp only [List.length_drop, List.length_take]; rfl)) ?_; (with_reducible refine (trailer_Get.calls kj12 (rdOf ByteArray.empty y213 (ji51)) t217 t218 t219 t220 t221 _ A54.out).mono ?_); rintro e w95 ⟨rfl, hb⟩; refine ⟨_, rfl, ?_⟩; have n0_ := Aside0.mk (Kd.R_below (by (with_reducible repeat (first | apply Kd.R_alloc | apply Kd.R_drewN | apply Kd.R_drew)); exact HO215.out) hb); have n1_ := Aside0.mk (blk_below (g := gb207) (o := .cells #[.int .i64 ((rd_T53 y203 (ji8)).f0), .int .i64 ((rd_T53 y203 (ji8)).f1), .int .i64 ((rd_T53 y203 (ji8)).f2), .string ((rd_T53 y203 (ji8)).f3)] 53 (0, 0)) (by (with_reducible repeat (first | refine blk_drewN ?_ _ | refine blk_drew ?_ | refine blk_alloc ?_ _)); exact BK207.out) hb); have n2_ := Aside0.mk (below_step (by repeat (first | (with_reducible first | exact HB.out | apply below_alloc | apply pw_below_drewN | apply below_drew1 | refine below_set ?_ GE207.out) | exact HB.out)) hb); clear HO215; clear BK207; clear HB; have HO215 := n0_; have BK207 := n1_; have HB := n2_; clear n0_ n1_ n2_; (try clear hb); (try clear hb2); (try clear hk); (try clear hi)) | ((with_reducible refine gate_dst (N := 14) rfl ?_); (try (refine gate_guard (by rfl) ?_; dsimp only)); refine box_event ?hg (N := 14) ?hd (cs := #[.int .i64 0, .int .i64 0, .int .i64 0, .string (⟨#[]⟩ : ByteArray)]) (t := 53) ?hr ?_; (case hd => rfl); (case hg => rfl); (case hr => first | (go_simp; done) | (go_simp; rfl)); intro gb222 hg w96 hbox hb; have n0_ := Aside0.mk (Kd.R_below (by (with_reducible repeat (first | apply Kd.R_alloc | apply Kd.R_drewN | apply Kd.R_drew)); exact HO215.out) hb); have n1_ := Aside0.mk (blk_below (g := gb207) (o := .cells #[.int .i64 ((rd_T53 y203 (ji8)).f0), .int .i64 ((rd_T53 y203 (ji8)).f1), .int .i64 ((rd_T53 y203 (ji8)).f2), .string ((rd_T53 y203 (ji8)).f3)] 53 (0, 0)) (by (with_reducible repeat (first | refine blk_drewN ?_ _ | refine blk_drew ?_ | refine blk_alloc ?_ _)); exact BK207.out) hb); have n2_ := Aside0.mk (below_step (by repeat (first | (with_reducible first | exact HB.out | apply below_alloc | apply pw_below_drewN | apply below_drew1 | refine below_set ?_ GE207.out) | exact HB.out)) hb); have n3_ := Aside0.mk (hbox); have n4_ := Aside0.mk ((by rw [hg]; exact (below_size (by repeat (first | (with_reducible first | exact HB.out | apply below_alloc | apply pw_below_drewN | apply below_drew1 | refine below_set ?_ GE207.out) | exact HB.out))) : w.heap.size ≤ gb222)); have n5_ := Aside0.mk ((by rw [hg]; exact (below_size (by repeat (first | (with_reducible first | exact HB.out | apply below_alloc | apply pw_below_drewN | apply below_drew1 | refine below_set ?_ GE207.out) | exact HB.out))) : w.heap.size ≤ gb222)); have n6_ := Aside0.mk ((by rw [hg]; exact Nat.ne_of_lt (blk_lt (g := gb207) (o := .cells #[.int .i64 ((rd_T53 y203 (ji8)).f0), .int .i64 ((rd_T53 y203 (ji8)).f1), .int .i64 ((rd_T53 y203 (ji8)).f2), .string ((rd_T53 y203 (ji8)).f3)] 53 (0, 0)) (by (with_reducible repeat (first | refine blk_drewN ?_ _ | refine blk_drew ?_ | refine blk_alloc ?_ _)); exact BK207.out)) : gb207 ≠ gb222)); have n7_ := Aside0.mk ((by rw [hg]; exact Nat.ne_of_gt (blk_lt (g := gb207) (o := .cells #[.int .i64 ((rd_T53 y203 (ji8)).f0), .int .i64 ((rd_T53 y203 (ji8)).f1), .int .i64 ((rd_T53 y203 (ji8)).f2), .string ((rd_T53 y203 (ji8)).f3)] 53 (0, 0)) (by (with_reducible repeat (first | refine blk_drewN ?_ _ | refine blk_drew ?_ | refine blk_alloc ?_ _)); exact BK207.out)) : gb222 ≠ gb207)); clear HO215; clear BK207; clear HB; have HO215 := n0_; have BK207 := n1_; have HB := n2_; have BK222 := n3_; have GW222 := n4_; have GE222 := n5_; have NB207_222 := n6_; have NB222_207 := n7_; clear n0_ n1_ n2_ n3_ n4_ n5_ n6_ n7_; clear hb hbox hg; have hnb97 := NB222_207.out; have hnc97 := NB207_222.out; have hcz98_0 : w96.cell? ⟨gb222, 0, none⟩ = some (.int .i64 0) := (blk_cell BK222.out 0).trans rfl; have hcz98_1 : w96.cell? ⟨gb222, 1, none⟩ = some (.int .i64 0) := (blk_cell BK222.out 1).trans rfl; have hcz98_2 : w96.cell? ⟨gb222, 2, none⟩ = some (.int .i64 0) := (blk_cell BK222.out 2).trans rfl; have hcz98_3 : w96.cell? ⟨gb222, 3, none⟩ = some (.string (⟨#[]⟩ : ByteArray)) := (blk_cell BK222.out 3).trans rfl; have hfz98_0 := blk_frozen BK222.out 0; have hfz98_1 := blk_frozen BK222.out 1; have hfz98_2 := blk_frozen BK222.out 2; have hfz98_3 := blk_frozen BK222.out 3; have hcz99_0 : w96.cell? ⟨gb207, 0, none⟩ = some (.int .i64 ((rd_T53 y203 (ji8)).f0)) := (blk_cell BK207.out 0).trans rfl; have hcz99_1 : w96.cell? ⟨gb207, 1, none⟩ = some (.int .i64 ((rd_T53 y203 (ji8)).f1)) := (blk_cell BK207.out 1).trans rfl; have hcz99_2 : w96.cell? ⟨gb207, 2, none⟩ = some (.int .i64 ((rd_T53 y203 (ji8)).f2)) := (blk_cell BK207.out 2).trans rfl; have hcz99_3 : w96.cell? ⟨gb207, 3, none⟩ = some (.string ((rd_T53 y203 (ji8)).f3)) := (blk_cell BK207.out 3).trans rfl; have hfz99_0 := blk_frozen BK207.out 0; have hfz99_1 := blk_frozen BK207.out 1; have hfz99_2 := blk_frozen BK207.out 2; have hfz99_3 := blk_frozen BK207.out 3) | ((with_reducible refine gate_callee (f := 35) rfl ?_); refine goesL_ (some 121) rfl rfl Try.func35 (by kernel_rfl) rfl #[.agg #[.int .i64 ((rd_T53 y203 (ji8)).f0), .int .i64 ((rd_T53 y203 (ji8)).f1), .int .i64 ((rd_T53 y203 (ji8)).f2), .string ((rd_T53 y203 (ji8)).f3)]] rfl (by (try simp only [List.map_toArray, List.map_cons, List.map_nil]); first | done | (simp only [hji8]; rfl) | rfl | (simp only [List.length_drop, List.length_take]; rfl)) ?_; (with_reducible refine (trailer_May.calls ((rd_T53 y203 (ji8)).f0) ((rd_T53 y203 (ji8)).f1) ((rd_T53 y203 (ji8)).f2) ((rd_T53 y203 (ji8)).f3) false _ A55.out).mono ?_); rintro e w100 ⟨rfl, hb⟩; refine ⟨_, rfl, ?_⟩; have n0_ := Aside0.mk (Kd.R_below (by (with_reducible repeat (first | apply Kd.R_alloc | apply Kd.R_drewN | apply Kd.R_drew)); exact (Kd.R_mono (Kd.R_far (p := ⟨gb222, 3, none⟩) (Kd.R_far (p := ⟨gb222, 2, none⟩) (Kd.R_far (p := ⟨gb222, 1, none⟩) (Kd.R_far (p := ⟨gb222, 0, none⟩) (Kd.R_types HO215.out BK222.out (by decide)) (fun _ hk => hk.2) (.int .i64 t217)) (fun _ hk => hk.2) (.int .i64 t218)) (fun _ hk => hk.2) (.int .i64 t219)) (fun _ hk => hk.2) (.string t220)) (fun _ h_ => h_.1))) hb); have n1_ := Aside0.mk (blk_below (g := gb207) (o := .cells #[.int .i64 ((rd_T53 y203 (ji8)).f0), .int .i64 ((rd_T53 y203 (ji8)).f1), .int .i64 ((rd_T53 y203 (ji8)).f2), .string ((rd_T53 y203 (ji8)).f3)] 53 (0, 0)) (by (with_reducible repeat (first | refine blk_drewN ?_ _ | refine blk_drew ?_ | refine blk_alloc ?_ _)); refine blk_far ?_ NB207_222.out _; (with_reducible repeat (first | refine blk_drewN ?_ _ | refine blk_drew ?_ | refine blk_alloc ?_ _)); refine blk_far ?_ NB207_222.out _; (with_reducible repeat (first | refine blk_drewN ?_ _ | refine blk_drew ?_ | refine blk_alloc ?_ _)); refine blk_far ?_ NB207_222.out _; (with_reducible repeat (first | refine blk_drewN ?_ _ | refine blk_drew ?_ | refine blk_alloc ?_ _)); refine blk_far ?_ NB207_222.out _; (with_reducible repeat (first | refine blk_drewN ?_ _ | refine blk_drew ?_ | refine blk_alloc ?_ _)); exact BK207.out) hb); have n2_ := Aside0.mk (blk_below (g := gb222) (o := .cells #[.int .i64 t217, .int .i64 t218, .int .i64 t219, .string t220] 53 (0, 0)) (by (with_reducible repeat (first | refine blk_drewN ?_ _ | refine blk_drew ?_ | refine blk_alloc ?_ _)); refine blk_put (cs := #[.int .i64 t217, .int .i64 t218, .int .i64 t219, .string (⟨#[]⟩ : ByteArray)]) ?_ 3 _ rfl; (with_reducible repeat (first | refine blk_drewN ?_ _ | refine blk_drew ?_ | refine blk_alloc ?_ _)); refine blk_put (cs := #[.int .i64 t217, .int .i64 t218, .int .i64 0, .string (⟨#[]⟩ : ByteArray)]) ?_ 2 _ rfl; (with_reducible repeat (first | refine blk_drewN ?_ _ | refine blk_drew ?_ | refine blk_alloc ?_ _)); refine blk_put (cs := #[.int .i64 t217, .int .i64 0, .int .i64 0, .string (⟨#[]⟩ : ByteArray)]) ?_ 1 _ rfl; (with_reducible repeat (first | refine blk_drewN ?_ _ | refine blk_drew ?_ | refine blk_alloc ?_ _)); refine blk_put (cs := #[.int .i64 0, .int .i64 0, .int .i64 0, .string (⟨#[]⟩ : ByteArray)]) ?_ 0 _ rfl; (with_reducible repeat (first | refine blk_drewN ?_ _ | refine blk_drew ?_ | refine blk_alloc ?_ _)); exact BK222.out) hb); have n3_ := Aside0.mk (below_step (by repeat (first | (with_reducible first | exact HB.out | apply below_alloc | apply pw_below_drewN | apply below_drew1 | refine below_set ?_ GE207.out | refine below_set ?_ GE222.out) | exact HB.out)) hb); clear HO215; clear BK207; clear BK222; clear HB; have HO215 := n0_; have BK207 := n1_; have BK222 := n2_; have HB := n3_; clear n0_ n1_ n2_ n3_; (try clear hb); (try clear hb2); (try clear hk); (try clear hi)))
                                                                          go_ret
                                                                          exact ⟨by first | rfl | (simp [errW_none, errW_some] <;> rfl) | (simp only [← hji8, ← hji51]; first | rfl | (simp [errW_none, errW_some] <;> rfl)) | (simp [*, errW_none, errW_some] <;> rfl), by repeat (first | (with_reducible first | exact HB.out | apply below_alloc | apply pw_below_drewN | apply below_drew1 | refine below_set ?_ GE207.out | refine below_set ?_ GE222.out) | exact HB.out)⟩
                                                                    · rw [if_neg c53] at H
                                                                      exact absurd H (by simp)
                                                                  · rw [if_neg c52] at H
                                                                    exact absurd H (by simp)
                                                                · rw [if_neg c50] at H
                                                                  exact absurd H (by simp)
                                                              · rw [if_neg c49] at H
                                                                exact absurd H (by simp)
                                                            · rw [if_neg c48] at H
                                                              exact absurd H (by simp)
                                                          · rw [if_neg c47] at H
                                                            exact absurd H (by simp)
                                                        · rw [if_neg c46] at H
                                                          exact absurd H (by simp)
                                                      · rw [if_neg c45] at H
                                                        exact absurd H (by simp)
                                                    · rw [if_neg c44] at H
                                                      exact absurd H (by simp)
                                                  · rw [if_neg c43] at H
                                                    exact absurd H (by simp)
                                                · rw [if_neg c42] at H
                                                  exact absurd H (by simp)
                                              · rw [if_neg c41] at H
                                                exact absurd H (by simp)
                                            · rw [if_neg c40] at H
                                              exact absurd H (by simp)
                                          · rw [if_neg c39] at H
                                            exact absurd H (by simp)
                                        · rw [if_neg c38] at H
                                          exact absurd H (by simp)
                                      · rw [if_neg c37] at H
                                        exact absurd H (by simp)
                                    · rw [if_neg c36] at H
                                      exact absurd H (by simp)
                                  · rw [if_neg c35] at H
                                    exact absurd H (by simp)
                                · rw [if_neg c34] at H
                                  exact absurd H (by simp)
                              · rw [if_neg c33] at H
                                exact absurd H (by simp)
                            · rw [if_neg c32] at H
                              exact absurd H (by simp)
                          · rw [if_neg c31] at H
                            exact absurd H (by simp)
                        · rw [if_neg c30] at H
                          exact absurd H (by simp)
                      · rw [if_neg c29] at H
                        exact absurd H (by simp)
                    · rw [if_neg c28] at H
                      exact absurd H (by simp)
            · rw [if_neg c10] at H
              exact absurd H (by simp)
          · rw [if_neg c9] at H
            exact absurd H (by simp)
        · rw [if_neg c7] at H
          exact absurd H (by simp)
      · rw [if_neg c6] at H
        exact absurd H (by simp)
    · rw [if_neg c5] at H
      exact absurd H (by simp)
  · replace c4 := Bool.eq_false_iff.mpr c4
    subst c4
    have H1 : (some false) = some r := by rw [if_neg (show ¬ (false = true) by decide)] at H; exact H
    clear H
    have H := H1
    clear H1
    obtain rfl := Option.some.inj H
    go_enter Try.func12, Try.ntmps12
    go_wp2_with (first | ((with_reducible refine gate_callee (f := 37) rfl ?_); refine goesL_ (some 16) rfl rfl Try.func37 (by kernel_rfl) rfl #[] rfl (by (try simp only [List.map_toArray, List.map_cons, List.map_nil]); first | done | rfl | (simp only [List.length_drop, List.length_take]; rfl)) ?_; (with_reducible refine (watchwordlaw13_awake.calls k  false _ A3.out).mono ?_); rintro e w101 ⟨rfl, hb⟩; refine ⟨_, rfl, ?_⟩; have n0_ := Aside0.mk (below_step (by repeat (first | (with_reducible first | exact HB.out | apply below_alloc | apply pw_below_drewN | apply below_drew1) | exact HB.out)) hb); clear HB; have HB := n0_; clear n0_; (try clear hb); (try clear hb2); (try clear hk); (try clear hi)))
    go_ret
    exact ⟨by first | rfl | (simp [errW_none, errW_some] <;> rfl) | (simp [*, errW_none, errW_some] <;> rfl), by repeat (first | (with_reducible first | exact HB.out | apply below_alloc | apply pw_below_drewN | apply below_drew1) | exact HB.out)⟩

/-- THE ONE PURE STATEMENT of watchwordlaw13_TrailerForms: yours. -/
def watchwordlaw13_TrailerForms.Pure : Prop := ∀ (a0 : Int) (a1 : Int), (Lit.int .i64 a0).wf = true → (Lit.int .i64 a1).wf = true → ∃ k, watchwordlaw13_TrailerForms.f k a0 a1 = some true
theorem watchwordlaw13_TrailerForms.walk (P : watchwordlaw13_TrailerForms.Pure) (a0 : Int) (a1 : Int) (w : World) (w0 : (Lit.int .i64 a0).wf = true) (w1 : (Lit.int .i64 a1).wf = true) :
    Calls Try.prog 12 #[.int .i64 a0, .int .i64 a1] w fun e w' => e = .returned (.bool true) ∧ Below w.heap.size w w' := by
  obtain ⟨k, h⟩ := P a0 a1 w0 w1
  refine (watchwordlaw13_TrailerForms.calls k a0 a1 true w h).mono ?_
  rintro e w' ⟨rfl, hd⟩
  exact ⟨rfl, hd⟩

end Go.Proofs.Ytkfnbnfdcfcfpaa.Q13
