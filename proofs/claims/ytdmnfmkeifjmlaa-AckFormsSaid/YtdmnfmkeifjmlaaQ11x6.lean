/- Written by a program of this session out of the print of the loaded functions: each Go function as a plain function, and that its call comes to it; for a law, the row out of its plain statement. -/
import Derived.Test.YtdmnfmkeifjmlaaQ11x0
import Derived.Test.YtdmnfmkeifjmlaaQ11x3
import Derived.Test.YtdmnfmkeifjmlaaQ11x4
import Derived.Test.YtdmnfmkeifjmlaaQ11x5
namespace Go.Proofs.Ytdmnfmkeifjmlaa.Q11
open Go.RowKit Go.Proofs.YtdmnfmkeifjmlaaW.PrintWords Go.Proofs.YtdmnfmkeifjmlaaW.PrintLast Go.Proofs.YtdmnfmkeifjmlaaW.PrintMore
attribute [local go_sem] max2_int min2_int max_two min_two max_three min_three max_four min_four   -- for this text's walks alone
set_option linter.unusedVariables false
set_option linter.unusedSimpArgs false

/-! ### watchwordlaw11_AckForms: function 4 -/
mutual
def watchwordlaw11_AckForms.j0 : Nat → Int → Int → Int → Int → Int → Int → Int → Int → Int → Option (Bool)
  | 0, _, _, _, _, _, _, _, _, _ => none
  | k + 1, x0, x160000, x160001, x160002, x160003, x161000, x161001, x161002, x161003 => (ack_Put.f k (([(⟨x161000, x161001, x161002, x161003⟩ : S40)] : List (S40)))).bind fun bt164 => ((ack_Put.f k (([(⟨x160000, x160001, x160002, x160003⟩ : S40)] : List (S40)))).bind fun bt169 => ((watchwordlaw0_Num.f bt169.2).bind fun t171 => (if t171 = 0 then (watchwordlaw11_AckForms.j1 k x0 bt164.1 bt164.2 bt169.1 ((bt169.1.size : Int) != 9) x160000 x160001 x160002 x160003 x161000 x161001 x161002 x161003) else (watchwordlaw11_AckForms.j1 k x0 bt164.1 bt164.2 bt169.1 true x160000 x160001 x160002 x160003 x161000 x161001 x161002 x161003))))
def watchwordlaw11_AckForms.j1 : Nat → Int → ByteArray → Int → ByteArray → Bool → Int → Int → Int → Int → Int → Int → Int → Int → Option (Bool)
  | 0, _, _, _, _, _, _, _, _, _, _, _, _, _ => none
  | k + 1, x0, x8, x9, x10, x87, x160000, x160001, x160002, x160003, x161000, x161001, x161002, x161003 => if x87 = true then (some false) else (if 0 ≤ 8 then (if 8 ≤ (x10.size : Int) then (if x10.size + 1 ≤ 9223372036854775807 then (if 1 ≤ (x10.size : Int) then (if 1 + (x10.extract 1 x10.size).size ≤ 9223372036854775807 then (if 2 ≤ (x10.size : Int) then (if 2 + (x10.extract 2 x10.size).size ≤ 9223372036854775807 then (if 3 ≤ (x10.size : Int) then (if 3 + (x10.extract 3 x10.size).size ≤ 9223372036854775807 then (if 0 ≤ 3 then (if (x10.extract 0 3).size + 1 ≤ 9223372036854775807 then (if 4 ≤ (x10.size : Int) then (if ((x10.extract 0 3) ++ (⟨#[128]⟩ : ByteArray)).size + (x10.extract 4 x10.size).size ≤ 9223372036854775807 then (if (x10.extract 0 3).size + 4 ≤ 9223372036854775807 then (if 7 ≤ (x10.size : Int) then (if ((x10.extract 0 3) ++ (⟨#[0, 0, 0, 0]⟩ : ByteArray)).size + (x10.extract 7 x10.size).size ≤ 9223372036854775807 then (if ((⟨#[2]⟩ : ByteArray) ++ (x10.extract 1 x10.size)).size + (x10.extract 1 x10.size).size ≤ 9223372036854775807 then ((some (([(⟨#[]⟩ : ByteArray), x10.extract 0 8, x10 ++ (⟨#[120]⟩ : ByteArray), (⟨#[0]⟩ : ByteArray) ++ (x10.extract 1 x10.size), (⟨#[2]⟩ : ByteArray) ++ (x10.extract 1 x10.size), (⟨#[1, 0]⟩ : ByteArray) ++ (x10.extract 2 x10.size), (⟨#[1, 5]⟩ : ByteArray) ++ (x10.extract 2 x10.size), (⟨#[1, 2, 61]⟩ : ByteArray) ++ (x10.extract 3 x10.size), ((x10.extract 0 3) ++ (⟨#[128]⟩ : ByteArray)) ++ (x10.extract 4 x10.size), ((x10.extract 0 3) ++ (⟨#[0, 0, 0, 0]⟩ : ByteArray)) ++ (x10.extract 7 x10.size), ((⟨#[2]⟩ : ByteArray) ++ (x10.extract 1 x10.size)) ++ (x10.extract 1 x10.size)] : List ByteArray) : List ByteArray)).bind fun y172 => (if 0 ≤ (wrap64 (Int.tmod (IntKind.u64.wrap (x0)) 11)) then (if (wrap64 (Int.tmod (IntKind.u64.wrap (x0)) 11)) < (y172.length : Int) then ((ack_Get.f k (rdOf ByteArray.empty y172 (wrap64 (Int.tmod (IntKind.u64.wrap (x0)) 11)))).bind fun bt176 => ((ack_Get.f k (⟨#[0]⟩ : ByteArray)).bind fun bt180 => ((ack_May.f k (([(⟨x161000, x161001, x161002, x161003⟩ : S40)] : List (S40)))).bind fun t187 => (if t187 = true then (some false) else ((ack_May.f k (([(⟨x160000, x160001, x160002, x160003⟩ : S40), (⟨x160000, x160001, x160002, x160003⟩ : S40)] : List (S40)))).bind fun t191 => (if t191 = true then (some false) else (if x8.toList = ([] : List UInt8) then ((watchwordlaw0_Num.f x9).bind fun t192 => (if t192 = 1100 then ((watchwordlaw0_Num.f bt176.2).bind fun t193 => (if t193 = 1100 then (if (bt180.1.length : Int) = 0 then ((watchwordlaw0_Num.f bt180.2).bind fun t194 => (some (t194 == 0))) else (some false)) else (some false))) else (some false))) else (some false)))))))) else (none)) else (none))) else (none)) else (none)) else (none)) else (none)) else (none)) else (none)) else (none)) else (none)) else (none)) else (none)) else (none)) else (none)) else (none)) else (none)) else (none)) else (none)) else (none))
end
def watchwordlaw11_AckForms.f (k : Nat) (a0 : Int) (a1 : Int) : Option (Bool) := (watchwordlaw11_awake.f k).bind fun t158 => (if t158 = true then (if (Int.tmod (IntKind.u64.wrap (a0)) 9) = 0 then (watchwordlaw11_AckForms.j0 k a0 2 5 3 7 (wrap64 (1 - (wrap64 (1 + (Go.bits .and .i64 a1 1023))))) 5 3 7) else (if (Int.tmod (IntKind.u64.wrap (a0)) 9) = 1 then (watchwordlaw11_AckForms.j0 k a0 2 5 3 7 (wrap64 (4 + (wrap64 (1 + (Go.bits .and .i64 a1 1023))))) 5 3 7) else (if (Int.tmod (IntKind.u64.wrap (a0)) 9) = 2 then (watchwordlaw11_AckForms.j0 k a0 2 5 3 7 2 (wrap64 (1 - (wrap64 (1 + (Go.bits .and .i64 a1 1023))))) 3 7) else (if (Int.tmod (IntKind.u64.wrap (a0)) 9) = 3 then (watchwordlaw11_AckForms.j0 k a0 2 5 3 7 2 (wrap64 (2147483647 + (wrap64 (1 + (Go.bits .and .i64 a1 1023))))) 3 7) else (if (Int.tmod (IntKind.u64.wrap (a0)) 9) = 4 then (watchwordlaw11_AckForms.j0 k a0 2 5 3 7 2 5 (wrap64 (-(wrap64 (1 + (Go.bits .and .i64 a1 1023))))) 7) else (if (Int.tmod (IntKind.u64.wrap (a0)) 9) = 5 then (watchwordlaw11_AckForms.j0 k a0 2 5 3 7 2 5 (wrap64 (60 + (wrap64 (1 + (Go.bits .and .i64 a1 1023))))) 7) else (if (Int.tmod (IntKind.u64.wrap (a0)) 9) = 6 then (watchwordlaw11_AckForms.j0 k a0 2 5 3 7 2 5 3 (wrap64 (-(wrap64 (1 + (Go.bits .and .i64 a1 1023)))))) else (if (Int.tmod (IntKind.u64.wrap (a0)) 9) = 7 then (watchwordlaw11_AckForms.j0 k a0 2 5 3 7 2 5 3 (wrap64 (65535 + (wrap64 (1 + (Go.bits .and .i64 a1 1023)))))) else (watchwordlaw11_AckForms.j0 k a0 2 5 3 7 2 0 3 7))))))))) else (some false))
theorem watchwordlaw11_AckForms.mono_l : ∀ k, (∀ y0 y1 y2 y3 y4 y5 y6 y7 y8, LeO (watchwordlaw11_AckForms.j0 k y0 y1 y2 y3 y4 y5 y6 y7 y8) (watchwordlaw11_AckForms.j0 (k + 1) y0 y1 y2 y3 y4 y5 y6 y7 y8)) ∧ (∀ y0 y1 y2 y3 y4 y5 y6 y7 y8 y9 y10 y11 y12, LeO (watchwordlaw11_AckForms.j1 k y0 y1 y2 y3 y4 y5 y6 y7 y8 y9 y10 y11 y12) (watchwordlaw11_AckForms.j1 (k + 1) y0 y1 y2 y3 y4 y5 y6 y7 y8 y9 y10 y11 y12))
  | 0 => ⟨fun _ _ _ _ _ _ _ _ _ r h => by simp [watchwordlaw11_AckForms.j0] at h, fun _ _ _ _ _ _ _ _ _ _ _ _ _ r h => by simp [watchwordlaw11_AckForms.j1] at h⟩
  | k + 1 => by
    obtain ⟨ih0, ih1⟩ := watchwordlaw11_AckForms.mono_l k
    refine ⟨?_, ?_⟩
    · intro y0 y1 y2 y3 y4 y5 y6 y7 y8
      unfold watchwordlaw11_AckForms.j0
      repeat' first
      | (with_reducible exact ih0 _ _ _ _ _ _ _ _ _)
      | (with_reducible exact ih1 _ _ _ _ _ _ _ _ _ _ _ _ _)
      | (with_reducible exact ack_Get.mono _ _)
      | (with_reducible exact ack_May.mono _ _)
      | (with_reducible exact ack_Put.mono _ _)
      | (with_reducible exact watchwordlaw11_awake.mono _)
      | (with_reducible exact LeO.refl _)
      | (with_reducible exact LeO.none _)
      | (with_reducible refine LeO.ite ?_ ?_)
      | (with_reducible refine LeO.bind ?_ (fun _ => ?_))
      | exact ih0 _ _ _ _ _ _ _ _ _
      | exact ih1 _ _ _ _ _ _ _ _ _ _ _ _ _
      | exact ack_Get.mono _ _
      | exact ack_May.mono _ _
      | exact ack_Put.mono _ _
      | exact watchwordlaw11_awake.mono _
      | exact LeO.none _
      | refine LeO.ite ?_ ?_
      | refine LeO.bind ?_ (fun _ => ?_)
    · intro y0 y1 y2 y3 y4 y5 y6 y7 y8 y9 y10 y11 y12
      unfold watchwordlaw11_AckForms.j1
      repeat' first
      | (with_reducible exact ih0 _ _ _ _ _ _ _ _ _)
      | (with_reducible exact ih1 _ _ _ _ _ _ _ _ _ _ _ _ _)
      | (with_reducible exact ack_Get.mono _ _)
      | (with_reducible exact ack_May.mono _ _)
      | (with_reducible exact ack_Put.mono _ _)
      | (with_reducible exact watchwordlaw11_awake.mono _)
      | (with_reducible exact LeO.refl _)
      | (with_reducible exact LeO.none _)
      | (with_reducible refine LeO.ite ?_ ?_)
      | (with_reducible refine LeO.bind ?_ (fun _ => ?_))
      | exact ih0 _ _ _ _ _ _ _ _ _
      | exact ih1 _ _ _ _ _ _ _ _ _ _ _ _ _
      | exact ack_Get.mono _ _
      | exact ack_May.mono _ _
      | exact ack_Put.mono _ _
      | exact watchwordlaw11_awake.mono _
      | exact LeO.none _
      | refine LeO.ite ?_ ?_
      | refine LeO.bind ?_ (fun _ => ?_)
theorem watchwordlaw11_AckForms.mono : ∀ a0 a1 k, LeO (watchwordlaw11_AckForms.f k a0 a1) (watchwordlaw11_AckForms.f (k + 1) a0 a1) := by
  intro a0 a1 k
  obtain ⟨ih0, ih1⟩ := watchwordlaw11_AckForms.mono_l k
  unfold watchwordlaw11_AckForms.f
  repeat' first
      | (with_reducible exact ih0 _ _ _ _ _ _ _ _ _)
      | (with_reducible exact ih1 _ _ _ _ _ _ _ _ _ _ _ _ _)
      | (with_reducible exact ack_Get.mono _ _)
      | (with_reducible exact ack_May.mono _ _)
      | (with_reducible exact ack_Put.mono _ _)
      | (with_reducible exact watchwordlaw11_awake.mono _)
      | (with_reducible exact LeO.refl _)
      | (with_reducible exact LeO.none _)
      | (with_reducible refine LeO.ite ?_ ?_)
      | (with_reducible refine LeO.bind ?_ (fun _ => ?_))
      | exact ih0 _ _ _ _ _ _ _ _ _
      | exact ih1 _ _ _ _ _ _ _ _ _ _ _ _ _
      | exact ack_Get.mono _ _
      | exact ack_May.mono _ _
      | exact ack_Put.mono _ _
      | exact watchwordlaw11_awake.mono _
      | exact LeO.none _
      | refine LeO.ite ?_ ?_
      | refine LeO.bind ?_ (fun _ => ?_)
def watchwordlaw11_AckForms.T28 : Bool × List (List Nat × List Nat) := (true, [([], []), ([0], [0]), ([], []), ([2], [2]), ([], []), ([4], [4]), ([5], [5]), ([], []), ([7], [7]), ([8], [8]), ([], []), ([10], [10]), ([11], [11]), ([], []), ([13], [13]), ([14], [14]), ([], []), ([16], [16]), ([17], [17]), ([], []), ([19], [19]), ([20], [20]), ([], []), ([22], [22]), ([21, 23], [21, 23]), ([], []), ([25], [25]), ([26], [26]), ([], []), ([28], [28]), ([27, 29], [27, 29]), ([], []), ([31], [31]), ([32], [32]), ([], []), ([34], [34]), ([33, 35], [33, 35]), ([1, 3, 6, 9, 12, 15, 18, 24, 30, 36], [1, 3, 6, 9, 12, 15, 18, 24, 30, 36]), ([37, 0, 1, 2, 3, 4, 5, 6, 7, 8, 9, 10, 11, 12, 13, 14, 15, 16, 17, 18, 19, 20, 21, 22, 23, 24, 25, 26, 27, 28, 29, 30, 31, 32, 33, 34, 35, 36, 37], [37])])
def watchwordlaw11_AckForms.B28 : List Nat := [0, 1, 0, 4, 0, 16, 48, 0, 128, 384, 0, 1024, 3072, 0, 8192, 24576, 0, 65536, 196608, 0, 524288, 1572864, 0, 4194304, 16252928, 0, 33554432, 100663296, 0, 268435456, 1040187392, 0, 2147483648, 6442450944, 0, 17179869184, 66571993088, 137438953471, 274877906943]
theorem watchwordlaw11_AckForms.tab28 : rtab .any (opsOf Try.f4 28) = watchwordlaw11_AckForms.T28 := by kernel_rfl
theorem watchwordlaw11_AckForms.bits28 : waitsOk watchwordlaw11_AckForms.T28.2 watchwordlaw11_AckForms.B28 = true := by kernel_rfl
set_option maxHeartbeats 8000000 in
set_option maxRecDepth 100000 in
theorem watchwordlaw11_AckForms.calls (k : Nat) (a0 : Int) (a1 : Int) (r : Bool) (w : World) (h : watchwordlaw11_AckForms.f k a0 a1 = some r) (hT : r = true) :
    Calls Try.prog 4 #[.int .i64 a0, .int .i64 a1] w fun e w' => e = .returned (.bool r) ∧ Below w.heap.size w w' := by
  have hu40 := Try.underlying40
  have HB := Aside0.mk (Below.refl w.heap.size w)
  have HT := Aside0.mk hT
  clear hT
  have H : ((watchwordlaw11_awake.f k).bind fun t158 => (if t158 = true then (if (Int.tmod (IntKind.u64.wrap (a0)) 9) = 0 then (watchwordlaw11_AckForms.j0 k a0 2 5 3 7 (wrap64 (1 - (wrap64 (1 + (Go.bits .and .i64 a1 1023))))) 5 3 7) else (if (Int.tmod (IntKind.u64.wrap (a0)) 9) = 1 then (watchwordlaw11_AckForms.j0 k a0 2 5 3 7 (wrap64 (4 + (wrap64 (1 + (Go.bits .and .i64 a1 1023))))) 5 3 7) else (if (Int.tmod (IntKind.u64.wrap (a0)) 9) = 2 then (watchwordlaw11_AckForms.j0 k a0 2 5 3 7 2 (wrap64 (1 - (wrap64 (1 + (Go.bits .and .i64 a1 1023))))) 3 7) else (if (Int.tmod (IntKind.u64.wrap (a0)) 9) = 3 then (watchwordlaw11_AckForms.j0 k a0 2 5 3 7 2 (wrap64 (2147483647 + (wrap64 (1 + (Go.bits .and .i64 a1 1023))))) 3 7) else (if (Int.tmod (IntKind.u64.wrap (a0)) 9) = 4 then (watchwordlaw11_AckForms.j0 k a0 2 5 3 7 2 5 (wrap64 (-(wrap64 (1 + (Go.bits .and .i64 a1 1023))))) 7) else (if (Int.tmod (IntKind.u64.wrap (a0)) 9) = 5 then (watchwordlaw11_AckForms.j0 k a0 2 5 3 7 2 5 (wrap64 (60 + (wrap64 (1 + (Go.bits .and .i64 a1 1023))))) 7) else (if (Int.tmod (IntKind.u64.wrap (a0)) 9) = 6 then (watchwordlaw11_AckForms.j0 k a0 2 5 3 7 2 5 3 (wrap64 (-(wrap64 (1 + (Go.bits .and .i64 a1 1023)))))) else (if (Int.tmod (IntKind.u64.wrap (a0)) 9) = 7 then (watchwordlaw11_AckForms.j0 k a0 2 5 3 7 2 5 3 (wrap64 (65535 + (wrap64 (1 + (Go.bits .and .i64 a1 1023)))))) else (watchwordlaw11_AckForms.j0 k a0 2 5 3 7 2 0 3 7))))))))) else (some false))) = some r := h
  clear h
  replace H := Option.bind_eq_some_iff.mp H
  obtain ⟨t158, A30, H⟩ := H
  replace H : (if t158 = true then (if (Int.tmod (IntKind.u64.wrap (a0)) 9) = 0 then (watchwordlaw11_AckForms.j0 k a0 2 5 3 7 (wrap64 (1 - (wrap64 (1 + (Go.bits .and .i64 a1 1023))))) 5 3 7) else (if (Int.tmod (IntKind.u64.wrap (a0)) 9) = 1 then (watchwordlaw11_AckForms.j0 k a0 2 5 3 7 (wrap64 (4 + (wrap64 (1 + (Go.bits .and .i64 a1 1023))))) 5 3 7) else (if (Int.tmod (IntKind.u64.wrap (a0)) 9) = 2 then (watchwordlaw11_AckForms.j0 k a0 2 5 3 7 2 (wrap64 (1 - (wrap64 (1 + (Go.bits .and .i64 a1 1023))))) 3 7) else (if (Int.tmod (IntKind.u64.wrap (a0)) 9) = 3 then (watchwordlaw11_AckForms.j0 k a0 2 5 3 7 2 (wrap64 (2147483647 + (wrap64 (1 + (Go.bits .and .i64 a1 1023))))) 3 7) else (if (Int.tmod (IntKind.u64.wrap (a0)) 9) = 4 then (watchwordlaw11_AckForms.j0 k a0 2 5 3 7 2 5 (wrap64 (-(wrap64 (1 + (Go.bits .and .i64 a1 1023))))) 7) else (if (Int.tmod (IntKind.u64.wrap (a0)) 9) = 5 then (watchwordlaw11_AckForms.j0 k a0 2 5 3 7 2 5 (wrap64 (60 + (wrap64 (1 + (Go.bits .and .i64 a1 1023))))) 7) else (if (Int.tmod (IntKind.u64.wrap (a0)) 9) = 6 then (watchwordlaw11_AckForms.j0 k a0 2 5 3 7 2 5 3 (wrap64 (-(wrap64 (1 + (Go.bits .and .i64 a1 1023)))))) else (if (Int.tmod (IntKind.u64.wrap (a0)) 9) = 7 then (watchwordlaw11_AckForms.j0 k a0 2 5 3 7 2 5 3 (wrap64 (65535 + (wrap64 (1 + (Go.bits .and .i64 a1 1023)))))) else (watchwordlaw11_AckForms.j0 k a0 2 5 3 7 2 0 3 7))))))))) else (some false)) = some r := H
  have A3 := Aside0.mk A30
  clear A30
  by_cases c4 : t158 = true
  · subst c4
    have H1 : (if (Int.tmod (IntKind.u64.wrap (a0)) 9) = 0 then (watchwordlaw11_AckForms.j0 k a0 2 5 3 7 (wrap64 (1 - (wrap64 (1 + (Go.bits .and .i64 a1 1023))))) 5 3 7) else (if (Int.tmod (IntKind.u64.wrap (a0)) 9) = 1 then (watchwordlaw11_AckForms.j0 k a0 2 5 3 7 (wrap64 (4 + (wrap64 (1 + (Go.bits .and .i64 a1 1023))))) 5 3 7) else (if (Int.tmod (IntKind.u64.wrap (a0)) 9) = 2 then (watchwordlaw11_AckForms.j0 k a0 2 5 3 7 2 (wrap64 (1 - (wrap64 (1 + (Go.bits .and .i64 a1 1023))))) 3 7) else (if (Int.tmod (IntKind.u64.wrap (a0)) 9) = 3 then (watchwordlaw11_AckForms.j0 k a0 2 5 3 7 2 (wrap64 (2147483647 + (wrap64 (1 + (Go.bits .and .i64 a1 1023))))) 3 7) else (if (Int.tmod (IntKind.u64.wrap (a0)) 9) = 4 then (watchwordlaw11_AckForms.j0 k a0 2 5 3 7 2 5 (wrap64 (-(wrap64 (1 + (Go.bits .and .i64 a1 1023))))) 7) else (if (Int.tmod (IntKind.u64.wrap (a0)) 9) = 5 then (watchwordlaw11_AckForms.j0 k a0 2 5 3 7 2 5 (wrap64 (60 + (wrap64 (1 + (Go.bits .and .i64 a1 1023))))) 7) else (if (Int.tmod (IntKind.u64.wrap (a0)) 9) = 6 then (watchwordlaw11_AckForms.j0 k a0 2 5 3 7 2 5 3 (wrap64 (-(wrap64 (1 + (Go.bits .and .i64 a1 1023)))))) else (if (Int.tmod (IntKind.u64.wrap (a0)) 9) = 7 then (watchwordlaw11_AckForms.j0 k a0 2 5 3 7 2 5 3 (wrap64 (65535 + (wrap64 (1 + (Go.bits .and .i64 a1 1023)))))) else (watchwordlaw11_AckForms.j0 k a0 2 5 3 7 2 0 3 7))))))))) = some r := by rw [if_pos rfl] at H; exact H
    clear H
    have H := H1
    clear H1
    have HC5 := Aside0.mk H
    clear H
    go_enter Try.func4, Try.ntmps4
    go_upto_block 0 with (first | ((with_reducible refine gate_callee (f := 23) rfl ?_); refine goesL_ (some 17) rfl rfl Try.func23 (by kernel_rfl) rfl #[] rfl (by (try simp only [List.map_toArray, List.map_cons, List.map_nil]); first | done | rfl | (simp only [List.length_drop, List.length_take]; rfl)) ?_; (with_reducible refine (watchwordlaw11_awake.calls k  true _ A3.out (by first | rfl | exact HT.out)).mono ?_); rintro e w6 ⟨rfl, hb⟩; refine ⟨_, rfl, ?_⟩; have n0_ := Aside0.mk (below_step (by repeat (first | (with_reducible first | exact HB.out | apply below_alloc | apply pw_below_drewN | apply below_drew1) | exact HB.out)) hb); clear HB; have HB := n0_; clear n0_; (try clear hb); (try clear hb2); (try clear hk); (try clear hi)) | ((with_reducible refine gate_dst (N := 6) rfl ?_); (try (refine gate_guard (by rfl) ?_; dsimp only)); refine box_event ?hg (N := 6) ?hd (cs := #[.int .i64 0, .int .i64 0, .int .i64 0, .int .i64 0]) (t := 40) ?hr ?_; (case hd => rfl); (case hg => rfl); (case hr => first | (go_simp; done) | (go_simp; rfl)); intro gb159 hg w7 hbox hb; have n0_ := Aside0.mk (below_step (by repeat (first | (with_reducible first | exact HB.out | apply below_alloc | apply pw_below_drewN | apply below_drew1) | exact HB.out)) hb); have n1_ := Aside0.mk (hbox); have n2_ := Aside0.mk ((by rw [hg]; exact (below_size (by repeat (first | (with_reducible first | exact HB.out | apply below_alloc | apply pw_below_drewN | apply below_drew1) | exact HB.out))) : w.heap.size ≤ gb159)); have n3_ := Aside0.mk ((by rw [hg]; exact (below_size (by repeat (first | (with_reducible first | exact HB.out | apply below_alloc | apply pw_below_drewN | apply below_drew1) | exact HB.out))) : w.heap.size ≤ gb159)); clear HB; have HB := n0_; have BK159 := n1_; have GW159 := n2_; have GE159 := n3_; clear n0_ n1_ n2_ n3_; clear hb hbox hg; have hcz8_0 : w7.cell? ⟨gb159, 0, none⟩ = some (.int .i64 0) := (blk_cell BK159.out 0).trans rfl; have hcz8_1 : w7.cell? ⟨gb159, 1, none⟩ = some (.int .i64 0) := (blk_cell BK159.out 1).trans rfl; have hcz8_2 : w7.cell? ⟨gb159, 2, none⟩ = some (.int .i64 0) := (blk_cell BK159.out 2).trans rfl; have hcz8_3 : w7.cell? ⟨gb159, 3, none⟩ = some (.int .i64 0) := (blk_cell BK159.out 3).trans rfl; have hfz8_0 := blk_frozen BK159.out 0; have hfz8_1 := blk_frozen BK159.out 1; have hfz8_2 := blk_frozen BK159.out 2; have hfz8_3 := blk_frozen BK159.out 3) | ((with_reducible refine gate_dst (N := 7) rfl ?_); (try (refine gate_guard (by rfl) ?_; dsimp only)); refine box_event ?hg (N := 7) ?hd (cs := #[.int .i64 0, .int .i64 0, .int .i64 0, .int .i64 0]) (t := 40) ?hr ?_; (case hd => rfl); (case hg => rfl); (case hr => first | (go_simp; done) | (go_simp; rfl)); intro gb160 hg w9 hbox hb; have n0_ := Aside0.mk (blk_below (g := gb159) (o := .cells #[.int .i64 2, .int .i64 5, .int .i64 3, .int .i64 7] 40 (0, 0)) (by (with_reducible repeat (first | refine blk_drewN ?_ _ | refine blk_drew ?_ | refine blk_alloc ?_ _)); refine blk_put (cs := #[.int .i64 2, .int .i64 5, .int .i64 3, .int .i64 0]) ?_ 3 _ rfl; (with_reducible repeat (first | refine blk_drewN ?_ _ | refine blk_drew ?_ | refine blk_alloc ?_ _)); refine blk_put (cs := #[.int .i64 2, .int .i64 5, .int .i64 0, .int .i64 0]) ?_ 2 _ rfl; (with_reducible repeat (first | refine blk_drewN ?_ _ | refine blk_drew ?_ | refine blk_alloc ?_ _)); refine blk_put (cs := #[.int .i64 2, .int .i64 0, .int .i64 0, .int .i64 0]) ?_ 1 _ rfl; (with_reducible repeat (first | refine blk_drewN ?_ _ | refine blk_drew ?_ | refine blk_alloc ?_ _)); refine blk_put (cs := #[.int .i64 0, .int .i64 0, .int .i64 0, .int .i64 0]) ?_ 0 _ rfl; (with_reducible repeat (first | refine blk_drewN ?_ _ | refine blk_drew ?_ | refine blk_alloc ?_ _)); exact BK159.out) hb); have n1_ := Aside0.mk (below_step (by repeat (first | (with_reducible first | exact HB.out | apply below_alloc | apply pw_below_drewN | apply below_drew1 | refine below_set ?_ GE159.out) | exact HB.out)) hb); have n2_ := Aside0.mk (hbox); have n3_ := Aside0.mk ((by rw [hg]; exact (below_size (by repeat (first | (with_reducible first | exact HB.out | apply below_alloc | apply pw_below_drewN | apply below_drew1 | refine below_set ?_ GE159.out) | exact HB.out))) : w.heap.size ≤ gb160)); have n4_ := Aside0.mk ((by rw [hg]; exact (below_size (by repeat (first | (with_reducible first | exact HB.out | apply below_alloc | apply pw_below_drewN | apply below_drew1 | refine below_set ?_ GE159.out) | exact HB.out))) : w.heap.size ≤ gb160)); have n5_ := Aside0.mk ((by rw [hg]; exact Nat.ne_of_lt (blk_lt (g := gb159) (o := .cells #[.int .i64 2, .int .i64 5, .int .i64 3, .int .i64 7] 40 (0, 0)) (by (with_reducible repeat (first | refine blk_drewN ?_ _ | refine blk_drew ?_ | refine blk_alloc ?_ _)); refine blk_put (cs := #[.int .i64 2, .int .i64 5, .int .i64 3, .int .i64 0]) ?_ 3 _ rfl; (with_reducible repeat (first | refine blk_drewN ?_ _ | refine blk_drew ?_ | refine blk_alloc ?_ _)); refine blk_put (cs := #[.int .i64 2, .int .i64 5, .int .i64 0, .int .i64 0]) ?_ 2 _ rfl; (with_reducible repeat (first | refine blk_drewN ?_ _ | refine blk_drew ?_ | refine blk_alloc ?_ _)); refine blk_put (cs := #[.int .i64 2, .int .i64 0, .int .i64 0, .int .i64 0]) ?_ 1 _ rfl; (with_reducible repeat (first | refine blk_drewN ?_ _ | refine blk_drew ?_ | refine blk_alloc ?_ _)); refine blk_put (cs := #[.int .i64 0, .int .i64 0, .int .i64 0, .int .i64 0]) ?_ 0 _ rfl; (with_reducible repeat (first | refine blk_drewN ?_ _ | refine blk_drew ?_ | refine blk_alloc ?_ _)); exact BK159.out)) : gb159 ≠ gb160)); have n6_ := Aside0.mk ((by rw [hg]; exact Nat.ne_of_gt (blk_lt (g := gb159) (o := .cells #[.int .i64 2, .int .i64 5, .int .i64 3, .int .i64 7] 40 (0, 0)) (by (with_reducible repeat (first | refine blk_drewN ?_ _ | refine blk_drew ?_ | refine blk_alloc ?_ _)); refine blk_put (cs := #[.int .i64 2, .int .i64 5, .int .i64 3, .int .i64 0]) ?_ 3 _ rfl; (with_reducible repeat (first | refine blk_drewN ?_ _ | refine blk_drew ?_ | refine blk_alloc ?_ _)); refine blk_put (cs := #[.int .i64 2, .int .i64 5, .int .i64 0, .int .i64 0]) ?_ 2 _ rfl; (with_reducible repeat (first | refine blk_drewN ?_ _ | refine blk_drew ?_ | refine blk_alloc ?_ _)); refine blk_put (cs := #[.int .i64 2, .int .i64 0, .int .i64 0, .int .i64 0]) ?_ 1 _ rfl; (with_reducible repeat (first | refine blk_drewN ?_ _ | refine blk_drew ?_ | refine blk_alloc ?_ _)); refine blk_put (cs := #[.int .i64 0, .int .i64 0, .int .i64 0, .int .i64 0]) ?_ 0 _ rfl; (with_reducible repeat (first | refine blk_drewN ?_ _ | refine blk_drew ?_ | refine blk_alloc ?_ _)); exact BK159.out)) : gb160 ≠ gb159)); clear BK159; clear HB; have BK159 := n0_; have HB := n1_; have BK160 := n2_; have GW160 := n3_; have GE160 := n4_; have NB159_160 := n5_; have NB160_159 := n6_; clear n0_ n1_ n2_ n3_ n4_ n5_ n6_; clear hb hbox hg; have hnb10 := NB160_159.out; have hnc10 := NB159_160.out; have hcz11_0 : w9.cell? ⟨gb160, 0, none⟩ = some (.int .i64 0) := (blk_cell BK160.out 0).trans rfl; have hcz11_1 : w9.cell? ⟨gb160, 1, none⟩ = some (.int .i64 0) := (blk_cell BK160.out 1).trans rfl; have hcz11_2 : w9.cell? ⟨gb160, 2, none⟩ = some (.int .i64 0) := (blk_cell BK160.out 2).trans rfl; have hcz11_3 : w9.cell? ⟨gb160, 3, none⟩ = some (.int .i64 0) := (blk_cell BK160.out 3).trans rfl; have hfz11_0 := blk_frozen BK160.out 0; have hfz11_1 := blk_frozen BK160.out 1; have hfz11_2 := blk_frozen BK160.out 2; have hfz11_3 := blk_frozen BK160.out 3))
    (try simp only [Act.put, List.setIfInBounds_toArray, List.set_cons_zero, List.set_cons_succ])
    go_cut [] (fun wc => ∃ (kq : Nat) (x161000_4 : Int) (x161001_4 : Int) (x161002_4 : Int) (x161003_4 : Int), Aside0 (watchwordlaw11_AckForms.j0 kq a0 2 5 3 7 x161000_4 x161001_4 x161002_4 x161003_4 = some r) ∧ Aside0 (kq ≤ k) ∧ Aside0 (wc.heap[gb159]? = some (.cells #[.int .i64 2, .int .i64 5, .int .i64 3, .int .i64 7] 40 (0, 0))) ∧ Aside0 (wc.heap[gb160]? = some (.cells #[.int .i64 x161000_4, .int .i64 x161001_4, .int .i64 x161002_4, .int .i64 x161003_4] 40 (0, 0))) ∧ Aside0 (Below w.heap.size w wc))
    case first =>
      have H := HC5.out
      clear HC5
      by_cases c12 : (Int.tmod (IntKind.u64.wrap (a0)) 9) = 0
      · rw [if_pos c12] at H
        have c12b0 : ((Int.tmod (IntKind.u64.wrap (a0)) 9) == 0) = true := beq_iff_eq.mpr c12
        have c12b1 : ((Int.tmod (IntKind.u64.wrap (a0)) 9) != 0) = false := bne_eq_false_iff_eq.mpr c12
        clear c12
        (first | rw [c12b0] | (simp only [i64_w, i32_w]; rw [c12b0]) | skip)
        have H' := Aside0.mk H
        clear H
        have hnb13 := NB160_159.out
        have hnc13 := NB159_160.out
        have hcz14_0 : w9.cell? ⟨gb160, 0, none⟩ = some (.int .i64 0) := (blk_cell BK160.out 0).trans rfl
        have hcz14_1 : w9.cell? ⟨gb160, 1, none⟩ = some (.int .i64 0) := (blk_cell BK160.out 1).trans rfl
        have hcz14_2 : w9.cell? ⟨gb160, 2, none⟩ = some (.int .i64 0) := (blk_cell BK160.out 2).trans rfl
        have hcz14_3 : w9.cell? ⟨gb160, 3, none⟩ = some (.int .i64 0) := (blk_cell BK160.out 3).trans rfl
        have hfz14_0 := blk_frozen BK160.out 0
        have hfz14_1 := blk_frozen BK160.out 1
        have hfz14_2 := blk_frozen BK160.out 2
        have hfz14_3 := blk_frozen BK160.out 3
        go_wp2
        go_meet
        case rel => exact ⟨_, (wrap64 (1 - (wrap64 (1 + (Go.bits .and .i64 a1 1023))))), (5), (3), (7), H', ⟨by first | omega | exact Nat.le_refl _⟩, ⟨by (with_reducible repeat (first | refine blk_drewN ?_ _ | refine blk_drew ?_ | refine blk_alloc ?_ _)); refine blk_far ?_ NB159_160.out _; (with_reducible repeat (first | refine blk_drewN ?_ _ | refine blk_drew ?_ | refine blk_alloc ?_ _)); refine blk_far ?_ NB159_160.out _; (with_reducible repeat (first | refine blk_drewN ?_ _ | refine blk_drew ?_ | refine blk_alloc ?_ _)); refine blk_far ?_ NB159_160.out _; (with_reducible repeat (first | refine blk_drewN ?_ _ | refine blk_drew ?_ | refine blk_alloc ?_ _)); refine blk_far ?_ NB159_160.out _; (with_reducible repeat (first | refine blk_drewN ?_ _ | refine blk_drew ?_ | refine blk_alloc ?_ _)); refine blk_far ?_ NB159_160.out _; (with_reducible repeat (first | refine blk_drewN ?_ _ | refine blk_drew ?_ | refine blk_alloc ?_ _)); exact BK159.out⟩, ⟨by (with_reducible repeat (first | refine blk_drewN ?_ _ | refine blk_drew ?_ | refine blk_alloc ?_ _)); refine blk_put (cs := #[.int .i64 2, .int .i64 5, .int .i64 3, .int .i64 7]) ?_ 0 _ rfl; (with_reducible repeat (first | refine blk_drewN ?_ _ | refine blk_drew ?_ | refine blk_alloc ?_ _)); refine blk_put (cs := #[.int .i64 2, .int .i64 5, .int .i64 3, .int .i64 0]) ?_ 3 _ rfl; (with_reducible repeat (first | refine blk_drewN ?_ _ | refine blk_drew ?_ | refine blk_alloc ?_ _)); refine blk_put (cs := #[.int .i64 2, .int .i64 5, .int .i64 0, .int .i64 0]) ?_ 2 _ rfl; (with_reducible repeat (first | refine blk_drewN ?_ _ | refine blk_drew ?_ | refine blk_alloc ?_ _)); refine blk_put (cs := #[.int .i64 2, .int .i64 0, .int .i64 0, .int .i64 0]) ?_ 1 _ rfl; (with_reducible repeat (first | refine blk_drewN ?_ _ | refine blk_drew ?_ | refine blk_alloc ?_ _)); refine blk_put (cs := #[.int .i64 0, .int .i64 0, .int .i64 0, .int .i64 0]) ?_ 0 _ rfl; (with_reducible repeat (first | refine blk_drewN ?_ _ | refine blk_drew ?_ | refine blk_alloc ?_ _)); exact BK160.out⟩, ⟨by repeat (first | (with_reducible first | exact HB.out | apply below_alloc | apply pw_below_drewN | apply below_drew1 | refine below_set ?_ GE159.out | refine below_set ?_ GE160.out) | exact HB.out)⟩⟩
      · rw [if_neg c12] at H
        have c12b0 : ((Int.tmod (IntKind.u64.wrap (a0)) 9) == 0) = false := beq_eq_false_iff_ne.mpr c12
        have c12b1 : ((Int.tmod (IntKind.u64.wrap (a0)) 9) != 0) = true := bne_iff_ne.mpr c12
        (first | rw [c12b0] | (simp only [i64_w, i32_w]; rw [c12b0]) | skip)
        by_cases c15 : (Int.tmod (IntKind.u64.wrap (a0)) 9) = 1
        · rw [if_pos c15] at H
          have c15b0 : ((Int.tmod (IntKind.u64.wrap (a0)) 9) == 1) = true := beq_iff_eq.mpr c15
          have c15b1 : ((Int.tmod (IntKind.u64.wrap (a0)) 9) != 1) = false := bne_eq_false_iff_eq.mpr c15
          clear c15
          have H' := Aside0.mk H
          clear H
          have hnb16 := NB160_159.out
          have hnc16 := NB159_160.out
          have hcz17_0 : w9.cell? ⟨gb160, 0, none⟩ = some (.int .i64 0) := (blk_cell BK160.out 0).trans rfl
          have hcz17_1 : w9.cell? ⟨gb160, 1, none⟩ = some (.int .i64 0) := (blk_cell BK160.out 1).trans rfl
          have hcz17_2 : w9.cell? ⟨gb160, 2, none⟩ = some (.int .i64 0) := (blk_cell BK160.out 2).trans rfl
          have hcz17_3 : w9.cell? ⟨gb160, 3, none⟩ = some (.int .i64 0) := (blk_cell BK160.out 3).trans rfl
          have hfz17_0 := blk_frozen BK160.out 0
          have hfz17_1 := blk_frozen BK160.out 1
          have hfz17_2 := blk_frozen BK160.out 2
          have hfz17_3 := blk_frozen BK160.out 3
          go_wp2
          go_meet
          case rel => exact ⟨_, (wrap64 (4 + (wrap64 (1 + (Go.bits .and .i64 a1 1023))))), (5), (3), (7), H', ⟨by first | omega | exact Nat.le_refl _⟩, ⟨by (with_reducible repeat (first | refine blk_drewN ?_ _ | refine blk_drew ?_ | refine blk_alloc ?_ _)); refine blk_far ?_ NB159_160.out _; (with_reducible repeat (first | refine blk_drewN ?_ _ | refine blk_drew ?_ | refine blk_alloc ?_ _)); refine blk_far ?_ NB159_160.out _; (with_reducible repeat (first | refine blk_drewN ?_ _ | refine blk_drew ?_ | refine blk_alloc ?_ _)); refine blk_far ?_ NB159_160.out _; (with_reducible repeat (first | refine blk_drewN ?_ _ | refine blk_drew ?_ | refine blk_alloc ?_ _)); refine blk_far ?_ NB159_160.out _; (with_reducible repeat (first | refine blk_drewN ?_ _ | refine blk_drew ?_ | refine blk_alloc ?_ _)); refine blk_far ?_ NB159_160.out _; (with_reducible repeat (first | refine blk_drewN ?_ _ | refine blk_drew ?_ | refine blk_alloc ?_ _)); exact BK159.out⟩, ⟨by (with_reducible repeat (first | refine blk_drewN ?_ _ | refine blk_drew ?_ | refine blk_alloc ?_ _)); refine blk_put (cs := #[.int .i64 2, .int .i64 5, .int .i64 3, .int .i64 7]) ?_ 0 _ rfl; (with_reducible repeat (first | refine blk_drewN ?_ _ | refine blk_drew ?_ | refine blk_alloc ?_ _)); refine blk_put (cs := #[.int .i64 2, .int .i64 5, .int .i64 3, .int .i64 0]) ?_ 3 _ rfl; (with_reducible repeat (first | refine blk_drewN ?_ _ | refine blk_drew ?_ | refine blk_alloc ?_ _)); refine blk_put (cs := #[.int .i64 2, .int .i64 5, .int .i64 0, .int .i64 0]) ?_ 2 _ rfl; (with_reducible repeat (first | refine blk_drewN ?_ _ | refine blk_drew ?_ | refine blk_alloc ?_ _)); refine blk_put (cs := #[.int .i64 2, .int .i64 0, .int .i64 0, .int .i64 0]) ?_ 1 _ rfl; (with_reducible repeat (first | refine blk_drewN ?_ _ | refine blk_drew ?_ | refine blk_alloc ?_ _)); refine blk_put (cs := #[.int .i64 0, .int .i64 0, .int .i64 0, .int .i64 0]) ?_ 0 _ rfl; (with_reducible repeat (first | refine blk_drewN ?_ _ | refine blk_drew ?_ | refine blk_alloc ?_ _)); exact BK160.out⟩, ⟨by repeat (first | (with_reducible first | exact HB.out | apply below_alloc | apply pw_below_drewN | apply below_drew1 | refine below_set ?_ GE159.out | refine below_set ?_ GE160.out) | exact HB.out)⟩⟩
        · rw [if_neg c15] at H
          have c15b0 : ((Int.tmod (IntKind.u64.wrap (a0)) 9) == 1) = false := beq_eq_false_iff_ne.mpr c15
          have c15b1 : ((Int.tmod (IntKind.u64.wrap (a0)) 9) != 1) = true := bne_iff_ne.mpr c15
          by_cases c18 : (Int.tmod (IntKind.u64.wrap (a0)) 9) = 2
          · rw [if_pos c18] at H
            have c18b0 : ((Int.tmod (IntKind.u64.wrap (a0)) 9) == 2) = true := beq_iff_eq.mpr c18
            have c18b1 : ((Int.tmod (IntKind.u64.wrap (a0)) 9) != 2) = false := bne_eq_false_iff_eq.mpr c18
            clear c18
            have H' := Aside0.mk H
            clear H
            have hnb19 := NB160_159.out
            have hnc19 := NB159_160.out
            have hcz20_0 : w9.cell? ⟨gb160, 0, none⟩ = some (.int .i64 0) := (blk_cell BK160.out 0).trans rfl
            have hcz20_1 : w9.cell? ⟨gb160, 1, none⟩ = some (.int .i64 0) := (blk_cell BK160.out 1).trans rfl
            have hcz20_2 : w9.cell? ⟨gb160, 2, none⟩ = some (.int .i64 0) := (blk_cell BK160.out 2).trans rfl
            have hcz20_3 : w9.cell? ⟨gb160, 3, none⟩ = some (.int .i64 0) := (blk_cell BK160.out 3).trans rfl
            have hfz20_0 := blk_frozen BK160.out 0
            have hfz20_1 := blk_frozen BK160.out 1
            have hfz20_2 := blk_frozen BK160.out 2
            have hfz20_3 := blk_frozen BK160.out 3
            go_wp2
            go_meet
            case rel => exact ⟨_, (2), (wrap64 (1 - (wrap64 (1 + (Go.bits .and .i64 a1 1023))))), (3), (7), H', ⟨by first | omega | exact Nat.le_refl _⟩, ⟨by (with_reducible repeat (first | refine blk_drewN ?_ _ | refine blk_drew ?_ | refine blk_alloc ?_ _)); refine blk_far ?_ NB159_160.out _; (with_reducible repeat (first | refine blk_drewN ?_ _ | refine blk_drew ?_ | refine blk_alloc ?_ _)); refine blk_far ?_ NB159_160.out _; (with_reducible repeat (first | refine blk_drewN ?_ _ | refine blk_drew ?_ | refine blk_alloc ?_ _)); refine blk_far ?_ NB159_160.out _; (with_reducible repeat (first | refine blk_drewN ?_ _ | refine blk_drew ?_ | refine blk_alloc ?_ _)); refine blk_far ?_ NB159_160.out _; (with_reducible repeat (first | refine blk_drewN ?_ _ | refine blk_drew ?_ | refine blk_alloc ?_ _)); refine blk_far ?_ NB159_160.out _; (with_reducible repeat (first | refine blk_drewN ?_ _ | refine blk_drew ?_ | refine blk_alloc ?_ _)); exact BK159.out⟩, ⟨by (with_reducible repeat (first | refine blk_drewN ?_ _ | refine blk_drew ?_ | refine blk_alloc ?_ _)); refine blk_put (cs := #[.int .i64 2, .int .i64 5, .int .i64 3, .int .i64 7]) ?_ 1 _ rfl; (with_reducible repeat (first | refine blk_drewN ?_ _ | refine blk_drew ?_ | refine blk_alloc ?_ _)); refine blk_put (cs := #[.int .i64 2, .int .i64 5, .int .i64 3, .int .i64 0]) ?_ 3 _ rfl; (with_reducible repeat (first | refine blk_drewN ?_ _ | refine blk_drew ?_ | refine blk_alloc ?_ _)); refine blk_put (cs := #[.int .i64 2, .int .i64 5, .int .i64 0, .int .i64 0]) ?_ 2 _ rfl; (with_reducible repeat (first | refine blk_drewN ?_ _ | refine blk_drew ?_ | refine blk_alloc ?_ _)); refine blk_put (cs := #[.int .i64 2, .int .i64 0, .int .i64 0, .int .i64 0]) ?_ 1 _ rfl; (with_reducible repeat (first | refine blk_drewN ?_ _ | refine blk_drew ?_ | refine blk_alloc ?_ _)); refine blk_put (cs := #[.int .i64 0, .int .i64 0, .int .i64 0, .int .i64 0]) ?_ 0 _ rfl; (with_reducible repeat (first | refine blk_drewN ?_ _ | refine blk_drew ?_ | refine blk_alloc ?_ _)); exact BK160.out⟩, ⟨by repeat (first | (with_reducible first | exact HB.out | apply below_alloc | apply pw_below_drewN | apply below_drew1 | refine below_set ?_ GE159.out | refine below_set ?_ GE160.out) | exact HB.out)⟩⟩
          · rw [if_neg c18] at H
            have c18b0 : ((Int.tmod (IntKind.u64.wrap (a0)) 9) == 2) = false := beq_eq_false_iff_ne.mpr c18
            have c18b1 : ((Int.tmod (IntKind.u64.wrap (a0)) 9) != 2) = true := bne_iff_ne.mpr c18
            by_cases c21 : (Int.tmod (IntKind.u64.wrap (a0)) 9) = 3
            · rw [if_pos c21] at H
              have c21b0 : ((Int.tmod (IntKind.u64.wrap (a0)) 9) == 3) = true := beq_iff_eq.mpr c21
              have c21b1 : ((Int.tmod (IntKind.u64.wrap (a0)) 9) != 3) = false := bne_eq_false_iff_eq.mpr c21
              clear c21
              have H' := Aside0.mk H
              clear H
              have hnb22 := NB160_159.out
              have hnc22 := NB159_160.out
              have hcz23_0 : w9.cell? ⟨gb160, 0, none⟩ = some (.int .i64 0) := (blk_cell BK160.out 0).trans rfl
              have hcz23_1 : w9.cell? ⟨gb160, 1, none⟩ = some (.int .i64 0) := (blk_cell BK160.out 1).trans rfl
              have hcz23_2 : w9.cell? ⟨gb160, 2, none⟩ = some (.int .i64 0) := (blk_cell BK160.out 2).trans rfl
              have hcz23_3 : w9.cell? ⟨gb160, 3, none⟩ = some (.int .i64 0) := (blk_cell BK160.out 3).trans rfl
              have hfz23_0 := blk_frozen BK160.out 0
              have hfz23_1 := blk_frozen BK160.out 1
              have hfz23_2 := blk_frozen BK160.out 2
              have hfz23_3 := blk_frozen BK160.out 3
              go_wp2
              go_meet
              case rel => exact ⟨_, (2), (wrap64 (2147483647 + (wrap64 (1 + (Go.bits .and .i64 a1 1023))))), (3), (7), H', ⟨by first | omega | exact Nat.le_refl _⟩, ⟨by (with_reducible repeat (first | refine blk_drewN ?_ _ | refine blk_drew ?_ | refine blk_alloc ?_ _)); refine blk_far ?_ NB159_160.out _; (with_reducible repeat (first | refine blk_drewN ?_ _ | refine blk_drew ?_ | refine blk_alloc ?_ _)); refine blk_far ?_ NB159_160.out _; (with_reducible repeat (first | refine blk_drewN ?_ _ | refine blk_drew ?_ | refine blk_alloc ?_ _)); refine blk_far ?_ NB159_160.out _; (with_reducible repeat (first | refine blk_drewN ?_ _ | refine blk_drew ?_ | refine blk_alloc ?_ _)); refine blk_far ?_ NB159_160.out _; (with_reducible repeat (first | refine blk_drewN ?_ _ | refine blk_drew ?_ | refine blk_alloc ?_ _)); refine blk_far ?_ NB159_160.out _; (with_reducible repeat (first | refine blk_drewN ?_ _ | refine blk_drew ?_ | refine blk_alloc ?_ _)); exact BK159.out⟩, ⟨by (with_reducible repeat (first | refine blk_drewN ?_ _ | refine blk_drew ?_ | refine blk_alloc ?_ _)); refine blk_put (cs := #[.int .i64 2, .int .i64 5, .int .i64 3, .int .i64 7]) ?_ 1 _ rfl; (with_reducible repeat (first | refine blk_drewN ?_ _ | refine blk_drew ?_ | refine blk_alloc ?_ _)); refine blk_put (cs := #[.int .i64 2, .int .i64 5, .int .i64 3, .int .i64 0]) ?_ 3 _ rfl; (with_reducible repeat (first | refine blk_drewN ?_ _ | refine blk_drew ?_ | refine blk_alloc ?_ _)); refine blk_put (cs := #[.int .i64 2, .int .i64 5, .int .i64 0, .int .i64 0]) ?_ 2 _ rfl; (with_reducible repeat (first | refine blk_drewN ?_ _ | refine blk_drew ?_ | refine blk_alloc ?_ _)); refine blk_put (cs := #[.int .i64 2, .int .i64 0, .int .i64 0, .int .i64 0]) ?_ 1 _ rfl; (with_reducible repeat (first | refine blk_drewN ?_ _ | refine blk_drew ?_ | refine blk_alloc ?_ _)); refine blk_put (cs := #[.int .i64 0, .int .i64 0, .int .i64 0, .int .i64 0]) ?_ 0 _ rfl; (with_reducible repeat (first | refine blk_drewN ?_ _ | refine blk_drew ?_ | refine blk_alloc ?_ _)); exact BK160.out⟩, ⟨by repeat (first | (with_reducible first | exact HB.out | apply below_alloc | apply pw_below_drewN | apply below_drew1 | refine below_set ?_ GE159.out | refine below_set ?_ GE160.out) | exact HB.out)⟩⟩
            · rw [if_neg c21] at H
              have c21b0 : ((Int.tmod (IntKind.u64.wrap (a0)) 9) == 3) = false := beq_eq_false_iff_ne.mpr c21
              have c21b1 : ((Int.tmod (IntKind.u64.wrap (a0)) 9) != 3) = true := bne_iff_ne.mpr c21
              by_cases c24 : (Int.tmod (IntKind.u64.wrap (a0)) 9) = 4
              · rw [if_pos c24] at H
                have c24b0 : ((Int.tmod (IntKind.u64.wrap (a0)) 9) == 4) = true := beq_iff_eq.mpr c24
                have c24b1 : ((Int.tmod (IntKind.u64.wrap (a0)) 9) != 4) = false := bne_eq_false_iff_eq.mpr c24
                clear c24
                have H' := Aside0.mk H
                clear H
                have hnb25 := NB160_159.out
                have hnc25 := NB159_160.out
                have hcz26_0 : w9.cell? ⟨gb160, 0, none⟩ = some (.int .i64 0) := (blk_cell BK160.out 0).trans rfl
                have hcz26_1 : w9.cell? ⟨gb160, 1, none⟩ = some (.int .i64 0) := (blk_cell BK160.out 1).trans rfl
                have hcz26_2 : w9.cell? ⟨gb160, 2, none⟩ = some (.int .i64 0) := (blk_cell BK160.out 2).trans rfl
                have hcz26_3 : w9.cell? ⟨gb160, 3, none⟩ = some (.int .i64 0) := (blk_cell BK160.out 3).trans rfl
                have hfz26_0 := blk_frozen BK160.out 0
                have hfz26_1 := blk_frozen BK160.out 1
                have hfz26_2 := blk_frozen BK160.out 2
                have hfz26_3 := blk_frozen BK160.out 3
                go_wp2
                go_meet
                case rel => exact ⟨_, (2), (5), (wrap64 (-(wrap64 (1 + (Go.bits .and .i64 a1 1023))))), (7), H', ⟨by first | omega | exact Nat.le_refl _⟩, ⟨by (with_reducible repeat (first | refine blk_drewN ?_ _ | refine blk_drew ?_ | refine blk_alloc ?_ _)); refine blk_far ?_ NB159_160.out _; (with_reducible repeat (first | refine blk_drewN ?_ _ | refine blk_drew ?_ | refine blk_alloc ?_ _)); refine blk_far ?_ NB159_160.out _; (with_reducible repeat (first | refine blk_drewN ?_ _ | refine blk_drew ?_ | refine blk_alloc ?_ _)); refine blk_far ?_ NB159_160.out _; (with_reducible repeat (first | refine blk_drewN ?_ _ | refine blk_drew ?_ | refine blk_alloc ?_ _)); refine blk_far ?_ NB159_160.out _; (with_reducible repeat (first | refine blk_drewN ?_ _ | refine blk_drew ?_ | refine blk_alloc ?_ _)); refine blk_far ?_ NB159_160.out _; (with_reducible repeat (first | refine blk_drewN ?_ _ | refine blk_drew ?_ | refine blk_alloc ?_ _)); exact BK159.out⟩, ⟨by (with_reducible repeat (first | refine blk_drewN ?_ _ | refine blk_drew ?_ | refine blk_alloc ?_ _)); refine blk_put (cs := #[.int .i64 2, .int .i64 5, .int .i64 3, .int .i64 7]) ?_ 2 _ rfl; (with_reducible repeat (first | refine blk_drewN ?_ _ | refine blk_drew ?_ | refine blk_alloc ?_ _)); refine blk_put (cs := #[.int .i64 2, .int .i64 5, .int .i64 3, .int .i64 0]) ?_ 3 _ rfl; (with_reducible repeat (first | refine blk_drewN ?_ _ | refine blk_drew ?_ | refine blk_alloc ?_ _)); refine blk_put (cs := #[.int .i64 2, .int .i64 5, .int .i64 0, .int .i64 0]) ?_ 2 _ rfl; (with_reducible repeat (first | refine blk_drewN ?_ _ | refine blk_drew ?_ | refine blk_alloc ?_ _)); refine blk_put (cs := #[.int .i64 2, .int .i64 0, .int .i64 0, .int .i64 0]) ?_ 1 _ rfl; (with_reducible repeat (first | refine blk_drewN ?_ _ | refine blk_drew ?_ | refine blk_alloc ?_ _)); refine blk_put (cs := #[.int .i64 0, .int .i64 0, .int .i64 0, .int .i64 0]) ?_ 0 _ rfl; (with_reducible repeat (first | refine blk_drewN ?_ _ | refine blk_drew ?_ | refine blk_alloc ?_ _)); exact BK160.out⟩, ⟨by repeat (first | (with_reducible first | exact HB.out | apply below_alloc | apply pw_below_drewN | apply below_drew1 | refine below_set ?_ GE159.out | refine below_set ?_ GE160.out) | exact HB.out)⟩⟩
              · rw [if_neg c24] at H
                have c24b0 : ((Int.tmod (IntKind.u64.wrap (a0)) 9) == 4) = false := beq_eq_false_iff_ne.mpr c24
                have c24b1 : ((Int.tmod (IntKind.u64.wrap (a0)) 9) != 4) = true := bne_iff_ne.mpr c24
                by_cases c27 : (Int.tmod (IntKind.u64.wrap (a0)) 9) = 5
                · rw [if_pos c27] at H
                  have c27b0 : ((Int.tmod (IntKind.u64.wrap (a0)) 9) == 5) = true := beq_iff_eq.mpr c27
                  have c27b1 : ((Int.tmod (IntKind.u64.wrap (a0)) 9) != 5) = false := bne_eq_false_iff_eq.mpr c27
                  clear c27
                  have H' := Aside0.mk H
                  clear H
                  have hnb28 := NB160_159.out
                  have hnc28 := NB159_160.out
                  have hcz29_0 : w9.cell? ⟨gb160, 0, none⟩ = some (.int .i64 0) := (blk_cell BK160.out 0).trans rfl
                  have hcz29_1 : w9.cell? ⟨gb160, 1, none⟩ = some (.int .i64 0) := (blk_cell BK160.out 1).trans rfl
                  have hcz29_2 : w9.cell? ⟨gb160, 2, none⟩ = some (.int .i64 0) := (blk_cell BK160.out 2).trans rfl
                  have hcz29_3 : w9.cell? ⟨gb160, 3, none⟩ = some (.int .i64 0) := (blk_cell BK160.out 3).trans rfl
                  have hfz29_0 := blk_frozen BK160.out 0
                  have hfz29_1 := blk_frozen BK160.out 1
                  have hfz29_2 := blk_frozen BK160.out 2
                  have hfz29_3 := blk_frozen BK160.out 3
                  go_wp2
                  go_meet
                  case rel => exact ⟨_, (2), (5), (wrap64 (60 + (wrap64 (1 + (Go.bits .and .i64 a1 1023))))), (7), H', ⟨by first | omega | exact Nat.le_refl _⟩, ⟨by (with_reducible repeat (first | refine blk_drewN ?_ _ | refine blk_drew ?_ | refine blk_alloc ?_ _)); refine blk_far ?_ NB159_160.out _; (with_reducible repeat (first | refine blk_drewN ?_ _ | refine blk_drew ?_ | refine blk_alloc ?_ _)); refine blk_far ?_ NB159_160.out _; (with_reducible repeat (first | refine blk_drewN ?_ _ | refine blk_drew ?_ | refine blk_alloc ?_ _)); refine blk_far ?_ NB159_160.out _; (with_reducible repeat (first | refine blk_drewN ?_ _ | refine blk_drew ?_ | refine blk_alloc ?_ _)); refine blk_far ?_ NB159_160.out _; (with_reducible repeat (first | refine blk_drewN ?_ _ | refine blk_drew ?_ | refine blk_alloc ?_ _)); refine blk_far ?_ NB159_160.out _; (with_reducible repeat (first | refine blk_drewN ?_ _ | refine blk_drew ?_ | refine blk_alloc ?_ _)); exact BK159.out⟩, ⟨by (with_reducible repeat (first | refine blk_drewN ?_ _ | refine blk_drew ?_ | refine blk_alloc ?_ _)); refine blk_put (cs := #[.int .i64 2, .int .i64 5, .int .i64 3, .int .i64 7]) ?_ 2 _ rfl; (with_reducible repeat (first | refine blk_drewN ?_ _ | refine blk_drew ?_ | refine blk_alloc ?_ _)); refine blk_put (cs := #[.int .i64 2, .int .i64 5, .int .i64 3, .int .i64 0]) ?_ 3 _ rfl; (with_reducible repeat (first | refine blk_drewN ?_ _ | refine blk_drew ?_ | refine blk_alloc ?_ _)); refine blk_put (cs := #[.int .i64 2, .int .i64 5, .int .i64 0, .int .i64 0]) ?_ 2 _ rfl; (with_reducible repeat (first | refine blk_drewN ?_ _ | refine blk_drew ?_ | refine blk_alloc ?_ _)); refine blk_put (cs := #[.int .i64 2, .int .i64 0, .int .i64 0, .int .i64 0]) ?_ 1 _ rfl; (with_reducible repeat (first | refine blk_drewN ?_ _ | refine blk_drew ?_ | refine blk_alloc ?_ _)); refine blk_put (cs := #[.int .i64 0, .int .i64 0, .int .i64 0, .int .i64 0]) ?_ 0 _ rfl; (with_reducible repeat (first | refine blk_drewN ?_ _ | refine blk_drew ?_ | refine blk_alloc ?_ _)); exact BK160.out⟩, ⟨by repeat (first | (with_reducible first | exact HB.out | apply below_alloc | apply pw_below_drewN | apply below_drew1 | refine below_set ?_ GE159.out | refine below_set ?_ GE160.out) | exact HB.out)⟩⟩
                · rw [if_neg c27] at H
                  have c27b0 : ((Int.tmod (IntKind.u64.wrap (a0)) 9) == 5) = false := beq_eq_false_iff_ne.mpr c27
                  have c27b1 : ((Int.tmod (IntKind.u64.wrap (a0)) 9) != 5) = true := bne_iff_ne.mpr c27
                  by_cases c30 : (Int.tmod (IntKind.u64.wrap (a0)) 9) = 6
                  · rw [if_pos c30] at H
                    have c30b0 : ((Int.tmod (IntKind.u64.wrap (a0)) 9) == 6) = true := beq_iff_eq.mpr c30
                    have c30b1 : ((Int.tmod (IntKind.u64.wrap (a0)) 9) != 6) = false := bne_eq_false_iff_eq.mpr c30
                    clear c30
                    have H' := Aside0.mk H
                    clear H
                    have hnb31 := NB160_159.out
                    have hnc31 := NB159_160.out
                    have hcz32_0 : w9.cell? ⟨gb160, 0, none⟩ = some (.int .i64 0) := (blk_cell BK160.out 0).trans rfl
                    have hcz32_1 : w9.cell? ⟨gb160, 1, none⟩ = some (.int .i64 0) := (blk_cell BK160.out 1).trans rfl
                    have hcz32_2 : w9.cell? ⟨gb160, 2, none⟩ = some (.int .i64 0) := (blk_cell BK160.out 2).trans rfl
                    have hcz32_3 : w9.cell? ⟨gb160, 3, none⟩ = some (.int .i64 0) := (blk_cell BK160.out 3).trans rfl
                    have hfz32_0 := blk_frozen BK160.out 0
                    have hfz32_1 := blk_frozen BK160.out 1
                    have hfz32_2 := blk_frozen BK160.out 2
                    have hfz32_3 := blk_frozen BK160.out 3
                    go_wp2
                    go_meet
                    case rel => exact ⟨_, (2), (5), (3), (wrap64 (-(wrap64 (1 + (Go.bits .and .i64 a1 1023))))), H', ⟨by first | omega | exact Nat.le_refl _⟩, ⟨by (with_reducible repeat (first | refine blk_drewN ?_ _ | refine blk_drew ?_ | refine blk_alloc ?_ _)); refine blk_far ?_ NB159_160.out _; (with_reducible repeat (first | refine blk_drewN ?_ _ | refine blk_drew ?_ | refine blk_alloc ?_ _)); refine blk_far ?_ NB159_160.out _; (with_reducible repeat (first | refine blk_drewN ?_ _ | refine blk_drew ?_ | refine blk_alloc ?_ _)); refine blk_far ?_ NB159_160.out _; (with_reducible repeat (first | refine blk_drewN ?_ _ | refine blk_drew ?_ | refine blk_alloc ?_ _)); refine blk_far ?_ NB159_160.out _; (with_reducible repeat (first | refine blk_drewN ?_ _ | refine blk_drew ?_ | refine blk_alloc ?_ _)); refine blk_far ?_ NB159_160.out _; (with_reducible repeat (first | refine blk_drewN ?_ _ | refine blk_drew ?_ | refine blk_alloc ?_ _)); exact BK159.out⟩, ⟨by (with_reducible repeat (first | refine blk_drewN ?_ _ | refine blk_drew ?_ | refine blk_alloc ?_ _)); refine blk_put (cs := #[.int .i64 2, .int .i64 5, .int .i64 3, .int .i64 7]) ?_ 3 _ rfl; (with_reducible repeat (first | refine blk_drewN ?_ _ | refine blk_drew ?_ | refine blk_alloc ?_ _)); refine blk_put (cs := #[.int .i64 2, .int .i64 5, .int .i64 3, .int .i64 0]) ?_ 3 _ rfl; (with_reducible repeat (first | refine blk_drewN ?_ _ | refine blk_drew ?_ | refine blk_alloc ?_ _)); refine blk_put (cs := #[.int .i64 2, .int .i64 5, .int .i64 0, .int .i64 0]) ?_ 2 _ rfl; (with_reducible repeat (first | refine blk_drewN ?_ _ | refine blk_drew ?_ | refine blk_alloc ?_ _)); refine blk_put (cs := #[.int .i64 2, .int .i64 0, .int .i64 0, .int .i64 0]) ?_ 1 _ rfl; (with_reducible repeat (first | refine blk_drewN ?_ _ | refine blk_drew ?_ | refine blk_alloc ?_ _)); refine blk_put (cs := #[.int .i64 0, .int .i64 0, .int .i64 0, .int .i64 0]) ?_ 0 _ rfl; (with_reducible repeat (first | refine blk_drewN ?_ _ | refine blk_drew ?_ | refine blk_alloc ?_ _)); exact BK160.out⟩, ⟨by repeat (first | (with_reducible first | exact HB.out | apply below_alloc | apply pw_below_drewN | apply below_drew1 | refine below_set ?_ GE159.out | refine below_set ?_ GE160.out) | exact HB.out)⟩⟩
                  · rw [if_neg c30] at H
                    have c30b0 : ((Int.tmod (IntKind.u64.wrap (a0)) 9) == 6) = false := beq_eq_false_iff_ne.mpr c30
                    have c30b1 : ((Int.tmod (IntKind.u64.wrap (a0)) 9) != 6) = true := bne_iff_ne.mpr c30
                    by_cases c33 : (Int.tmod (IntKind.u64.wrap (a0)) 9) = 7
                    · rw [if_pos c33] at H
                      have c33b0 : ((Int.tmod (IntKind.u64.wrap (a0)) 9) == 7) = true := beq_iff_eq.mpr c33
                      have c33b1 : ((Int.tmod (IntKind.u64.wrap (a0)) 9) != 7) = false := bne_eq_false_iff_eq.mpr c33
                      clear c33
                      have H' := Aside0.mk H
                      clear H
                      have hnb34 := NB160_159.out
                      have hnc34 := NB159_160.out
                      have hcz35_0 : w9.cell? ⟨gb160, 0, none⟩ = some (.int .i64 0) := (blk_cell BK160.out 0).trans rfl
                      have hcz35_1 : w9.cell? ⟨gb160, 1, none⟩ = some (.int .i64 0) := (blk_cell BK160.out 1).trans rfl
                      have hcz35_2 : w9.cell? ⟨gb160, 2, none⟩ = some (.int .i64 0) := (blk_cell BK160.out 2).trans rfl
                      have hcz35_3 : w9.cell? ⟨gb160, 3, none⟩ = some (.int .i64 0) := (blk_cell BK160.out 3).trans rfl
                      have hfz35_0 := blk_frozen BK160.out 0
                      have hfz35_1 := blk_frozen BK160.out 1
                      have hfz35_2 := blk_frozen BK160.out 2
                      have hfz35_3 := blk_frozen BK160.out 3
                      go_wp2
                      go_meet
                      case rel => exact ⟨_, (2), (5), (3), (wrap64 (65535 + (wrap64 (1 + (Go.bits .and .i64 a1 1023))))), H', ⟨by first | omega | exact Nat.le_refl _⟩, ⟨by (with_reducible repeat (first | refine blk_drewN ?_ _ | refine blk_drew ?_ | refine blk_alloc ?_ _)); refine blk_far ?_ NB159_160.out _; (with_reducible repeat (first | refine blk_drewN ?_ _ | refine blk_drew ?_ | refine blk_alloc ?_ _)); refine blk_far ?_ NB159_160.out _; (with_reducible repeat (first | refine blk_drewN ?_ _ | refine blk_drew ?_ | refine blk_alloc ?_ _)); refine blk_far ?_ NB159_160.out _; (with_reducible repeat (first | refine blk_drewN ?_ _ | refine blk_drew ?_ | refine blk_alloc ?_ _)); refine blk_far ?_ NB159_160.out _; (with_reducible repeat (first | refine blk_drewN ?_ _ | refine blk_drew ?_ | refine blk_alloc ?_ _)); refine blk_far ?_ NB159_160.out _; (with_reducible repeat (first | refine blk_drewN ?_ _ | refine blk_drew ?_ | refine blk_alloc ?_ _)); exact BK159.out⟩, ⟨by (with_reducible repeat (first | refine blk_drewN ?_ _ | refine blk_drew ?_ | refine blk_alloc ?_ _)); refine blk_put (cs := #[.int .i64 2, .int .i64 5, .int .i64 3, .int .i64 7]) ?_ 3 _ rfl; (with_reducible repeat (first | refine blk_drewN ?_ _ | refine blk_drew ?_ | refine blk_alloc ?_ _)); refine blk_put (cs := #[.int .i64 2, .int .i64 5, .int .i64 3, .int .i64 0]) ?_ 3 _ rfl; (with_reducible repeat (first | refine blk_drewN ?_ _ | refine blk_drew ?_ | refine blk_alloc ?_ _)); refine blk_put (cs := #[.int .i64 2, .int .i64 5, .int .i64 0, .int .i64 0]) ?_ 2 _ rfl; (with_reducible repeat (first | refine blk_drewN ?_ _ | refine blk_drew ?_ | refine blk_alloc ?_ _)); refine blk_put (cs := #[.int .i64 2, .int .i64 0, .int .i64 0, .int .i64 0]) ?_ 1 _ rfl; (with_reducible repeat (first | refine blk_drewN ?_ _ | refine blk_drew ?_ | refine blk_alloc ?_ _)); refine blk_put (cs := #[.int .i64 0, .int .i64 0, .int .i64 0, .int .i64 0]) ?_ 0 _ rfl; (with_reducible repeat (first | refine blk_drewN ?_ _ | refine blk_drew ?_ | refine blk_alloc ?_ _)); exact BK160.out⟩, ⟨by repeat (first | (with_reducible first | exact HB.out | apply below_alloc | apply pw_below_drewN | apply below_drew1 | refine below_set ?_ GE159.out | refine below_set ?_ GE160.out) | exact HB.out)⟩⟩
                    · rw [if_neg c33] at H
                      have c33b0 : ((Int.tmod (IntKind.u64.wrap (a0)) 9) == 7) = false := beq_eq_false_iff_ne.mpr c33
                      have c33b1 : ((Int.tmod (IntKind.u64.wrap (a0)) 9) != 7) = true := bne_iff_ne.mpr c33
                      have H' := Aside0.mk H
                      clear H
                      have hnb36 := NB160_159.out
                      have hnc36 := NB159_160.out
                      have hcz37_0 : w9.cell? ⟨gb160, 0, none⟩ = some (.int .i64 0) := (blk_cell BK160.out 0).trans rfl
                      have hcz37_1 : w9.cell? ⟨gb160, 1, none⟩ = some (.int .i64 0) := (blk_cell BK160.out 1).trans rfl
                      have hcz37_2 : w9.cell? ⟨gb160, 2, none⟩ = some (.int .i64 0) := (blk_cell BK160.out 2).trans rfl
                      have hcz37_3 : w9.cell? ⟨gb160, 3, none⟩ = some (.int .i64 0) := (blk_cell BK160.out 3).trans rfl
                      have hfz37_0 := blk_frozen BK160.out 0
                      have hfz37_1 := blk_frozen BK160.out 1
                      have hfz37_2 := blk_frozen BK160.out 2
                      have hfz37_3 := blk_frozen BK160.out 3
                      go_wp2
                      go_meet
                      case rel => exact ⟨_, (2), (0), (3), (7), H', ⟨by first | omega | exact Nat.le_refl _⟩, ⟨by (with_reducible repeat (first | refine blk_drewN ?_ _ | refine blk_drew ?_ | refine blk_alloc ?_ _)); refine blk_far ?_ NB159_160.out _; (with_reducible repeat (first | refine blk_drewN ?_ _ | refine blk_drew ?_ | refine blk_alloc ?_ _)); refine blk_far ?_ NB159_160.out _; (with_reducible repeat (first | refine blk_drewN ?_ _ | refine blk_drew ?_ | refine blk_alloc ?_ _)); refine blk_far ?_ NB159_160.out _; (with_reducible repeat (first | refine blk_drewN ?_ _ | refine blk_drew ?_ | refine blk_alloc ?_ _)); refine blk_far ?_ NB159_160.out _; (with_reducible repeat (first | refine blk_drewN ?_ _ | refine blk_drew ?_ | refine blk_alloc ?_ _)); refine blk_far ?_ NB159_160.out _; (with_reducible repeat (first | refine blk_drewN ?_ _ | refine blk_drew ?_ | refine blk_alloc ?_ _)); exact BK159.out⟩, ⟨by (with_reducible repeat (first | refine blk_drewN ?_ _ | refine blk_drew ?_ | refine blk_alloc ?_ _)); refine blk_put (cs := #[.int .i64 2, .int .i64 5, .int .i64 3, .int .i64 7]) ?_ 1 _ rfl; (with_reducible repeat (first | refine blk_drewN ?_ _ | refine blk_drew ?_ | refine blk_alloc ?_ _)); refine blk_put (cs := #[.int .i64 2, .int .i64 5, .int .i64 3, .int .i64 0]) ?_ 3 _ rfl; (with_reducible repeat (first | refine blk_drewN ?_ _ | refine blk_drew ?_ | refine blk_alloc ?_ _)); refine blk_put (cs := #[.int .i64 2, .int .i64 5, .int .i64 0, .int .i64 0]) ?_ 2 _ rfl; (with_reducible repeat (first | refine blk_drewN ?_ _ | refine blk_drew ?_ | refine blk_alloc ?_ _)); refine blk_put (cs := #[.int .i64 2, .int .i64 0, .int .i64 0, .int .i64 0]) ?_ 1 _ rfl; (with_reducible repeat (first | refine blk_drewN ?_ _ | refine blk_drew ?_ | refine blk_alloc ?_ _)); refine blk_put (cs := #[.int .i64 0, .int .i64 0, .int .i64 0, .int .i64 0]) ?_ 0 _ rfl; (with_reducible repeat (first | refine blk_drewN ?_ _ | refine blk_drew ?_ | refine blk_alloc ?_ _)); exact BK160.out⟩, ⟨by repeat (first | (with_reducible first | exact HB.out | apply below_alloc | apply pw_below_drewN | apply below_drew1 | refine below_set ?_ GE159.out | refine below_set ?_ GE160.out) | exact HB.out)⟩⟩
    case rest =>
      clear HC5
      try clear c1
      try clear c2
      try clear p2
      try clear c3
      try clear c4
      try clear p6
      try clear c10
      try clear c12
      try clear c12b0
      try clear c12b1
      try clear c13
      try clear c15
      try clear c15b0
      try clear c15b1
      try clear c16
      try clear c18
      try clear c18b0
      try clear c18b1
      try clear c19
      try clear c21
      try clear c21b0
      try clear c21b1
      try clear c22
      try clear c23
      try clear c24
      try clear c24b0
      try clear c24b1
      try clear c25
      try clear c27
      try clear c27b0
      try clear c27b1
      try clear c28
      try clear c30
      try clear c30b0
      try clear c30b1
      try clear c31
      try clear c33
      try clear c33b0
      try clear c33b1
      try clear c34
      try clear c36
      try clear hcz11_0
      try clear hcz11_1
      try clear hcz11_2
      try clear hcz11_3
      try clear hcz14_0
      try clear hcz14_1
      try clear hcz14_2
      try clear hcz14_3
      try clear hcz17_0
      try clear hcz17_1
      try clear hcz17_2
      try clear hcz17_3
      try clear hcz20_0
      try clear hcz20_1
      try clear hcz20_2
      try clear hcz20_3
      try clear hcz23_0
      try clear hcz23_1
      try clear hcz23_2
      try clear hcz23_3
      try clear hcz26_0
      try clear hcz26_1
      try clear hcz26_2
      try clear hcz26_3
      try clear hcz29_0
      try clear hcz29_1
      try clear hcz29_2
      try clear hcz29_3
      try clear hcz32_0
      try clear hcz32_1
      try clear hcz32_2
      try clear hcz32_3
      try clear hcz35_0
      try clear hcz35_1
      try clear hcz35_2
      try clear hcz35_3
      try clear hcz37_0
      try clear hcz37_1
      try clear hcz37_2
      try clear hcz37_3
      try clear hcz8_0
      try clear hcz8_1
      try clear hcz8_2
      try clear hcz8_3
      try clear hfz11_0
      try clear hfz11_1
      try clear hfz11_2
      try clear hfz11_3
      try clear hfz14_0
      try clear hfz14_1
      try clear hfz14_2
      try clear hfz14_3
      try clear hfz17_0
      try clear hfz17_1
      try clear hfz17_2
      try clear hfz17_3
      try clear hfz20_0
      try clear hfz20_1
      try clear hfz20_2
      try clear hfz20_3
      try clear hfz23_0
      try clear hfz23_1
      try clear hfz23_2
      try clear hfz23_3
      try clear hfz26_0
      try clear hfz26_1
      try clear hfz26_2
      try clear hfz26_3
      try clear hfz29_0
      try clear hfz29_1
      try clear hfz29_2
      try clear hfz29_3
      try clear hfz32_0
      try clear hfz32_1
      try clear hfz32_2
      try clear hfz32_3
      try clear hfz35_0
      try clear hfz35_1
      try clear hfz35_2
      try clear hfz35_3
      try clear hfz37_0
      try clear hfz37_1
      try clear hfz37_2
      try clear hfz37_3
      try clear hfz8_0
      try clear hfz8_1
      try clear hfz8_2
      try clear hfz8_3
      obtain ⟨kq, x161000_4, x161001_4, x161002_4, x161003_4, HA, HJ4, BK159, BK160, HB⟩ := hcut
      cases kq with
      | zero => exact absurd HA.out (by simp [watchwordlaw11_AckForms.j0])
      | succ kj4 =>
        have H := HA.out
        clear HA
        simp only [watchwordlaw11_AckForms.j0] at H
        obtain ⟨y161, hy161⟩ : ∃ y_ : List (S40), y_ = (([(⟨x161000_4, x161001_4, x161002_4, x161003_4⟩ : S40)] : List (S40))) := ⟨_, rfl⟩
        replace H : ((ack_Put.f kj4 y161).bind fun bt164 => ((ack_Put.f kj4 (([(⟨2, 5, 3, 7⟩ : S40)] : List (S40)))).bind fun bt169 => ((watchwordlaw0_Num.f bt169.2).bind fun t171 => (if t171 = 0 then (watchwordlaw11_AckForms.j1 kj4 a0 bt164.1 bt164.2 bt169.1 ((bt169.1.size : Int) != 9) 2 5 3 7 x161000_4 x161001_4 x161002_4 x161003_4) else (watchwordlaw11_AckForms.j1 kj4 a0 bt164.1 bt164.2 bt169.1 true 2 5 3 7 x161000_4 x161001_4 x161002_4 x161003_4))))) = some r := by first | (rw [hy161]; with_reducible exact H) | (have H2_ := (Option.bind_some _ _).symm.trans H; rw [hy161]; with_reducible exact H2_) | (have H2_ := (Option.bind_some _ _).symm.trans H; with_reducible exact H2_) | with_reducible exact H | (rw [hy161]; exact H) | exact H
        have Ny161 := Aside0.mk hy161
        clear hy161
        replace H := Option.bind_eq_some_iff.mp H
        obtain ⟨⟨t164, t165⟩, A380, H⟩ := H
        replace H : ((ack_Put.f kj4 (([(⟨2, 5, 3, 7⟩ : S40)] : List (S40)))).bind fun bt169 => ((watchwordlaw0_Num.f bt169.2).bind fun t171 => (if t171 = 0 then (watchwordlaw11_AckForms.j1 kj4 a0 t164 t165 bt169.1 ((bt169.1.size : Int) != 9) 2 5 3 7 x161000_4 x161001_4 x161002_4 x161003_4) else (watchwordlaw11_AckForms.j1 kj4 a0 t164 t165 bt169.1 true 2 5 3 7 x161000_4 x161001_4 x161002_4 x161003_4)))) = some r := H
        have A38 := Aside0.mk A380
        clear A380
        obtain ⟨y166, hy166⟩ : ∃ y_ : List (S40), y_ = (([(⟨2, 5, 3, 7⟩ : S40)] : List (S40))) := ⟨_, rfl⟩
        replace H : ((ack_Put.f kj4 y166).bind fun bt169 => ((watchwordlaw0_Num.f bt169.2).bind fun t171 => (if t171 = 0 then (watchwordlaw11_AckForms.j1 kj4 a0 t164 t165 bt169.1 ((bt169.1.size : Int) != 9) 2 5 3 7 x161000_4 x161001_4 x161002_4 x161003_4) else (watchwordlaw11_AckForms.j1 kj4 a0 t164 t165 bt169.1 true 2 5 3 7 x161000_4 x161001_4 x161002_4 x161003_4)))) = some r := by first | (rw [hy166]; with_reducible exact H) | (have H2_ := (Option.bind_some _ _).symm.trans H; rw [hy166]; with_reducible exact H2_) | (have H2_ := (Option.bind_some _ _).symm.trans H; with_reducible exact H2_) | with_reducible exact H | (rw [hy166]; exact H) | exact H
        have Ny166 := Aside0.mk hy166
        clear hy166
        replace H := Option.bind_eq_some_iff.mp H
        obtain ⟨⟨t169, t170⟩, A390, H⟩ := H
        replace H : ((watchwordlaw0_Num.f t170).bind fun t171 => (if t171 = 0 then (watchwordlaw11_AckForms.j1 kj4 a0 t164 t165 t169 ((t169.size : Int) != 9) 2 5 3 7 x161000_4 x161001_4 x161002_4 x161003_4) else (watchwordlaw11_AckForms.j1 kj4 a0 t164 t165 t169 true 2 5 3 7 x161000_4 x161001_4 x161002_4 x161003_4))) = some r := H
        have A39 := Aside0.mk A390
        clear A390
        have HC40 := Aside0.mk H
        clear H
        have hnb41 := NB160_159.out
        have hnc41 := NB159_160.out
        have hcz42_0 : wc.cell? ⟨gb160, 0, none⟩ = some (.int .i64 x161000_4) := (blk_cell BK160.out 0).trans rfl
        have hcz42_1 : wc.cell? ⟨gb160, 1, none⟩ = some (.int .i64 x161001_4) := (blk_cell BK160.out 1).trans rfl
        have hcz42_2 : wc.cell? ⟨gb160, 2, none⟩ = some (.int .i64 x161002_4) := (blk_cell BK160.out 2).trans rfl
        have hcz42_3 : wc.cell? ⟨gb160, 3, none⟩ = some (.int .i64 x161003_4) := (blk_cell BK160.out 3).trans rfl
        have hfz42_0 := blk_frozen BK160.out 0
        have hfz42_1 := blk_frozen BK160.out 1
        have hfz42_2 := blk_frozen BK160.out 2
        have hfz42_3 := blk_frozen BK160.out 3
        go_upto_region 26 with (first | ((with_reducible refine gate_dst (N := 70) rfl ?_); (try (refine gate_guard (by rfl) ?_; dsimp only)); refine Kd.R_lit k40 _ 40 ?hg (N := 70) ?hd (xs := ([(⟨x161000_4, x161001_4, x161002_4, x161003_4⟩ : S40)] : List (S40))) (inner := [.int .i64 x161000_4, .int .i64 x161001_4, .int .i64 x161002_4, .int .i64 x161003_4]) (ok := fun _ => True) (okp := fun _ => True) ?hr ?hp (fun _ hk => hk) trivial (Below.refl _ _) (Nat.le_refl _) (by simp) ?_; (case hd => rfl); (case hg => rfl); (case hr => first | (go_simp; done) | (go_simp; rfl)); (case hp => exact (Reps.c4 (show Kd.M k40 _ _ _ (⟨x161000_4, x161001_4, x161002_4, x161003_4⟩ : S40) [.int .i64 x161000_4, .int .i64 x161001_4, .int .i64 x161002_4, .int .i64 x161003_4] from (k40_mkM _ _ _ (⟨x161000_4, x161001_4, x161002_4, x161003_4⟩ : S40) )) (Reps.none _ _))); intro v162 w43 ho44 hb hg_ hnew_; clear hg_ hnew_; (first | rw [← Ny161.out] at ho44 | (simp only [Int.reduceToNat] at ho44; rw [← Ny161.out] at ho44)); have n0_ := Aside0.mk (Kd.R_lower (Kd.R_newB (Kd.R_newB ho44 (g := gb159) (o := .cells #[.int .i64 2, .int .i64 5, .int .i64 3, .int .i64 7] 40 (0, 0)) (by (with_reducible repeat (first | refine blk_drewN ?_ _ | refine blk_drew ?_ | refine blk_alloc ?_ _)); exact BK159.out)) (g := gb160) (o := .cells #[.int .i64 x161000_4, .int .i64 x161001_4, .int .i64 x161002_4, .int .i64 x161003_4] 40 (0, 0)) (by (with_reducible repeat (first | refine blk_drewN ?_ _ | refine blk_drew ?_ | refine blk_alloc ?_ _)); exact BK160.out)) (below_size (by repeat (first | (with_reducible first | exact HB.out | apply below_alloc | apply pw_below_drewN | apply below_drew1 | refine below_set ?_ GE159.out | refine below_set ?_ GE160.out) | exact HB.out)))); have n1_ := Aside0.mk (blk_below (g := gb159) (o := .cells #[.int .i64 2, .int .i64 5, .int .i64 3, .int .i64 7] 40 (0, 0)) (by (with_reducible repeat (first | refine blk_drewN ?_ _ | refine blk_drew ?_ | refine blk_alloc ?_ _)); exact BK159.out) hb); have n2_ := Aside0.mk (blk_below (g := gb160) (o := .cells #[.int .i64 x161000_4, .int .i64 x161001_4, .int .i64 x161002_4, .int .i64 x161003_4] 40 (0, 0)) (by (with_reducible repeat (first | refine blk_drewN ?_ _ | refine blk_drew ?_ | refine blk_alloc ?_ _)); exact BK160.out) hb); have n3_ := Aside0.mk (below_step (by repeat (first | (with_reducible first | exact HB.out | apply below_alloc | apply pw_below_drewN | apply below_drew1 | refine below_set ?_ GE159.out | refine below_set ?_ GE160.out) | exact HB.out)) hb); clear BK159; clear BK160; clear HB; have HO163 := n0_; have BK159 := n1_; have BK160 := n2_; have HB := n3_; clear n0_ n1_ n2_ n3_; clear hb ho44; obtain ⟨Ao45, co45, eo45⟩ := Kd.R_slice HO163.out; subst eo45) | ((with_reducible refine gate_callee (f := 13) rfl ?_); refine goesL_ (some 71) rfl rfl Try.func13 (by kernel_rfl) rfl #[.slice Ao45 y161.length co45] rfl (by (try simp only [List.map_toArray, List.map_cons, List.map_nil]); first | done | rfl | (simp only [List.length_drop, List.length_take]; rfl)) ?_; (with_reducible refine (ack_Put.calls kj4 _ _ y161 t164 t165 _ ?side1 ?side2 A38.out).mono ?_); (case side1 => repeat (first | exact (Kd.R_reads' HO163.out).2.2 | (with_reducible refine Kd.C_alloc ?_ _) | (with_reducible refine Kd.C_drewN ?_ _) | (with_reducible refine Kd.C_drew ?_))); (case side2 => exact (Kd.R_reads' HO163.out).2.1); rintro e w46 ⟨rfl, hb⟩; refine ⟨_, rfl, ?_⟩; have n0_ := Aside0.mk (Kd.R_below (by (with_reducible repeat (first | apply Kd.R_alloc | apply Kd.R_drewN | apply Kd.R_drew)); exact HO163.out) hb); have n1_ := Aside0.mk (blk_below (g := gb159) (o := .cells #[.int .i64 2, .int .i64 5, .int .i64 3, .int .i64 7] 40 (0, 0)) (by (with_reducible repeat (first | refine blk_drewN ?_ _ | refine blk_drew ?_ | refine blk_alloc ?_ _)); exact BK159.out) hb); have n2_ := Aside0.mk (blk_below (g := gb160) (o := .cells #[.int .i64 x161000_4, .int .i64 x161001_4, .int .i64 x161002_4, .int .i64 x161003_4] 40 (0, 0)) (by (with_reducible repeat (first | refine blk_drewN ?_ _ | refine blk_drew ?_ | refine blk_alloc ?_ _)); exact BK160.out) hb); have n3_ := Aside0.mk (below_step (by repeat (first | (with_reducible first | exact HB.out | apply below_alloc | apply pw_below_drewN | apply below_drew1 | refine below_set ?_ GE159.out | refine below_set ?_ GE160.out) | exact HB.out)) hb); clear HO163; clear BK159; clear BK160; clear HB; have HO163 := n0_; have BK159 := n1_; have BK160 := n2_; have HB := n3_; clear n0_ n1_ n2_ n3_; (try clear hb); (try clear hb2); (try clear hk); (try clear hi); have hcz47_0 : w46.cell? ⟨gb159, 0, none⟩ = some (.int .i64 2) := (blk_cell BK159.out 0).trans rfl; have hcz47_1 : w46.cell? ⟨gb159, 1, none⟩ = some (.int .i64 5) := (blk_cell BK159.out 1).trans rfl; have hcz47_2 : w46.cell? ⟨gb159, 2, none⟩ = some (.int .i64 3) := (blk_cell BK159.out 2).trans rfl; have hcz47_3 : w46.cell? ⟨gb159, 3, none⟩ = some (.int .i64 7) := (blk_cell BK159.out 3).trans rfl; have hfz47_0 := blk_frozen BK159.out 0; have hfz47_1 := blk_frozen BK159.out 1; have hfz47_2 := blk_frozen BK159.out 2; have hfz47_3 := blk_frozen BK159.out 3) | ((with_reducible refine gate_dst (N := 76) rfl ?_); (try (refine gate_guard (by rfl) ?_; dsimp only)); refine Kd.R_lit k40 _ 40 ?hg (N := 76) ?hd (xs := ([(⟨2, 5, 3, 7⟩ : S40)] : List (S40))) (inner := [.int .i64 2, .int .i64 5, .int .i64 3, .int .i64 7]) (ok := fun _ => True) (okp := fun _ => True) ?hr ?hp (fun _ hk => hk) trivial (Below.refl _ _) (Nat.le_refl _) (by simp) ?_; (case hd => rfl); (case hg => rfl); (case hr => first | (go_simp; done) | (go_simp; rfl)); (case hp => exact (Reps.c4 (show Kd.M k40 _ _ _ (⟨2, 5, 3, 7⟩ : S40) [.int .i64 2, .int .i64 5, .int .i64 3, .int .i64 7] from (k40_mkM _ _ _ (⟨2, 5, 3, 7⟩ : S40) )) (Reps.none _ _))); intro v167 w48 ho49 hb hg_ hnew_; clear hg_ hnew_; (first | rw [← Ny166.out] at ho49 | (simp only [Int.reduceToNat] at ho49; rw [← Ny166.out] at ho49)); have n0_ := Aside0.mk (Kd.R_elder' (by (with_reducible repeat (first | apply Kd.R_alloc | apply Kd.R_drewN | apply Kd.R_drew)); exact HO163.out) (Kd.R_base ho49) hb); have n1_ := Aside0.mk (Kd.R_lower (Kd.R_newB (Kd.R_newB (Kd.R_new' ho49 (Kd.R_lt (by (with_reducible repeat (first | apply Kd.R_alloc | apply Kd.R_drewN | apply Kd.R_drew)); exact HO163.out))) (g := gb159) (o := .cells #[.int .i64 2, .int .i64 5, .int .i64 3, .int .i64 7] 40 (0, 0)) (by (with_reducible repeat (first | refine blk_drewN ?_ _ | refine blk_drew ?_ | refine blk_alloc ?_ _)); exact BK159.out)) (g := gb160) (o := .cells #[.int .i64 x161000_4, .int .i64 x161001_4, .int .i64 x161002_4, .int .i64 x161003_4] 40 (0, 0)) (by (with_reducible repeat (first | refine blk_drewN ?_ _ | refine blk_drew ?_ | refine blk_alloc ?_ _)); exact BK160.out)) (below_size (by repeat (first | (with_reducible first | exact HB.out | apply below_alloc | apply pw_below_drewN | apply below_drew1 | refine below_set ?_ GE159.out | refine below_set ?_ GE160.out) | exact HB.out)))); have n2_ := Aside0.mk (blk_below (g := gb159) (o := .cells #[.int .i64 2, .int .i64 5, .int .i64 3, .int .i64 7] 40 (0, 0)) (by (with_reducible repeat (first | refine blk_drewN ?_ _ | refine blk_drew ?_ | refine blk_alloc ?_ _)); exact BK159.out) hb); have n3_ := Aside0.mk (blk_below (g := gb160) (o := .cells #[.int .i64 x161000_4, .int .i64 x161001_4, .int .i64 x161002_4, .int .i64 x161003_4] 40 (0, 0)) (by (with_reducible repeat (first | refine blk_drewN ?_ _ | refine blk_drew ?_ | refine blk_alloc ?_ _)); exact BK160.out) hb); have n4_ := Aside0.mk (below_step (by repeat (first | (with_reducible first | exact HB.out | apply below_alloc | apply pw_below_drewN | apply below_drew1 | refine below_set ?_ GE159.out | refine below_set ?_ GE160.out) | exact HB.out)) hb); clear HO163; clear BK159; clear BK160; clear HB; have HO163 := n0_; have HO168 := n1_; have BK159 := n2_; have BK160 := n3_; have HB := n4_; clear n0_ n1_ n2_ n3_ n4_; clear hb ho49; obtain ⟨Ao50, co50, eo50⟩ := Kd.R_slice HO168.out; subst eo50) | ((with_reducible refine gate_callee (f := 13) rfl ?_); refine goesL_ (some 77) rfl rfl Try.func13 (by kernel_rfl) rfl #[.slice Ao50 y166.length co50] rfl (by (try simp only [List.map_toArray, List.map_cons, List.map_nil]); first | done | rfl | (simp only [List.length_drop, List.length_take]; rfl)) ?_; (with_reducible refine (ack_Put.calls kj4 _ _ y166 t169 t170 _ ?side1 ?side2 A39.out).mono ?_); (case side1 => repeat (first | exact (Kd.R_reads' HO168.out).2.2 | (with_reducible refine Kd.C_alloc ?_ _) | (with_reducible refine Kd.C_drewN ?_ _) | (with_reducible refine Kd.C_drew ?_))); (case side2 => exact (Kd.R_reads' HO168.out).2.1); rintro e w51 ⟨rfl, hb⟩; refine ⟨_, rfl, ?_⟩; have n0_ := Aside0.mk (Kd.R_below (by (with_reducible repeat (first | apply Kd.R_alloc | apply Kd.R_drewN | apply Kd.R_drew)); exact HO163.out) hb); have n1_ := Aside0.mk (Kd.R_below (by (with_reducible repeat (first | apply Kd.R_alloc | apply Kd.R_drewN | apply Kd.R_drew)); exact HO168.out) hb); have n2_ := Aside0.mk (blk_below (g := gb159) (o := .cells #[.int .i64 2, .int .i64 5, .int .i64 3, .int .i64 7] 40 (0, 0)) (by (with_reducible repeat (first | refine blk_drewN ?_ _ | refine blk_drew ?_ | refine blk_alloc ?_ _)); exact BK159.out) hb); have n3_ := Aside0.mk (blk_below (g := gb160) (o := .cells #[.int .i64 x161000_4, .int .i64 x161001_4, .int .i64 x161002_4, .int .i64 x161003_4] 40 (0, 0)) (by (with_reducible repeat (first | refine blk_drewN ?_ _ | refine blk_drew ?_ | refine blk_alloc ?_ _)); exact BK160.out) hb); have n4_ := Aside0.mk (below_step (by repeat (first | (with_reducible first | exact HB.out | apply below_alloc | apply pw_below_drewN | apply below_drew1 | refine below_set ?_ GE159.out | refine below_set ?_ GE160.out) | exact HB.out)) hb); clear HO163; clear HO168; clear BK159; clear BK160; clear HB; have HO163 := n0_; have HO168 := n1_; have BK159 := n2_; have BK160 := n3_; have HB := n4_; clear n0_ n1_ n2_ n3_ n4_; (try clear hb); (try clear hb2); (try clear hk); (try clear hi)))
        (try simp only [Act.put, List.setIfInBounds_toArray, List.set_cons_zero, List.set_cons_succ])
        go_cut [87] (fun v87 wc => ∃ (kq : Nat) (x87_39 : Bool), v87 = .bool x87_39 ∧ Aside0 (watchwordlaw11_AckForms.j1 kq a0 t164 t165 t169 x87_39 2 5 3 7 x161000_4 x161001_4 x161002_4 x161003_4 = some r) ∧ Aside0 (kq ≤ kj4) ∧ Aside0 (wc.heap[gb159]? = some (.cells #[.int .i64 2, .int .i64 5, .int .i64 3, .int .i64 7] 40 (0, 0))) ∧ Aside0 (wc.heap[gb160]? = some (.cells #[.int .i64 x161000_4, .int .i64 x161001_4, .int .i64 x161002_4, .int .i64 x161003_4] 40 (0, 0))) ∧ Aside0 (Below w.heap.size w wc))
        case first =>
          have H := HC40.out
          clear HC40
          replace H := Option.bind_eq_some_iff.mp H
          obtain ⟨t171, A520, H⟩ := H
          replace H : (if t171 = 0 then (watchwordlaw11_AckForms.j1 kj4 a0 t164 t165 t169 ((t169.size : Int) != 9) 2 5 3 7 x161000_4 x161001_4 x161002_4 x161003_4) else (watchwordlaw11_AckForms.j1 kj4 a0 t164 t165 t169 true 2 5 3 7 x161000_4 x161001_4 x161002_4 x161003_4)) = some r := H
          have A52 := Aside0.mk A520
          clear A520
          by_cases c53 : t171 = 0
          · rw [if_pos c53] at H
            have c53b0 : (t171 == 0) = true := beq_iff_eq.mpr c53
            have c53b1 : (t171 != 0) = false := bne_eq_false_iff_eq.mpr c53
            clear c53
            (first | rw [c53b0] | (simp only [i64_w, i32_w]; rw [c53b0]) | skip)
            have H' := Aside0.mk H
            clear H
            go_wp2_with (first | ((with_reducible refine gate_callee (f := 17) rfl ?_); refine goesL_ (some 81) rfl rfl Try.func17 (by kernel_rfl) rfl #[.int .i64 t170] rfl (by (try simp only [List.map_toArray, List.map_cons, List.map_nil]); first | done | rfl | (simp only [List.length_drop, List.length_take]; rfl)) ?_; (with_reducible refine (watchwordlaw0_Num.calls t170 t171 _ A52.out).mono ?_); rintro e w' ⟨rfl, ⟨nd, rfl⟩⟩; refine ⟨_, rfl, ?_⟩))
            go_meet
            case rel => exact ⟨_, (((t169.size : Int) != 9)), (by first | rfl | (simp; done) | (simp [*]; done)), H', ⟨by have := HJ4.out; first | omega | exact Nat.le_refl _⟩, ⟨by (with_reducible repeat (first | refine blk_drewN ?_ _ | refine blk_drew ?_ | refine blk_alloc ?_ _)); exact BK159.out⟩, ⟨by (with_reducible repeat (first | refine blk_drewN ?_ _ | refine blk_drew ?_ | refine blk_alloc ?_ _)); exact BK160.out⟩, ⟨by repeat (first | (with_reducible first | exact HB.out | apply below_alloc | apply pw_below_drewN | apply below_drew1 | refine below_set ?_ GE159.out | refine below_set ?_ GE160.out) | exact HB.out)⟩⟩
          · rw [if_neg c53] at H
            have c53b0 : (t171 == 0) = false := beq_eq_false_iff_ne.mpr c53
            have c53b1 : (t171 != 0) = true := bne_iff_ne.mpr c53
            (first | rw [c53b0] | (simp only [i64_w, i32_w]; rw [c53b0]) | skip)
            exact absurd H (fun h_ => (by
              have hd_ : ∀ k_, watchwordlaw11_AckForms.j1 k_ a0 t164 t165 t169 true 2 5 3 7 x161000_4 x161001_4 x161002_4 x161003_4 = some r → False := by
                intro k_ h_
                cases k_ with
                | zero => exact absurd h_ (by simp [watchwordlaw11_AckForms.j1])
                | succ k_ =>
                  simp only [watchwordlaw11_AckForms.j1, if_true] at h_
                  exact absurd (Option.some.inj h_) (by rw [HT.out]; decide)
              exact hd_ _ h_))
        case rest =>
          clear HC40
          try clear c1
          try clear c2
          try clear p2
          try clear c3
          try clear c4
          try clear c5
          try clear p6
          try clear c10
          try clear c12
          try clear c12b0
          try clear c12b1
          try clear c13
          try clear c15
          try clear c15b0
          try clear c15b1
          try clear c16
          try clear c17
          try clear c18
          try clear c18b0
          try clear c18b1
          try clear c19
          try clear c21
          try clear c21b0
          try clear c21b1
          try clear c22
          try clear c23
          try clear c24
          try clear c24b0
          try clear c24b1
          try clear c25
          try clear c27
          try clear c27b0
          try clear c27b1
          try clear c28
          try clear c30
          try clear c30b0
          try clear c30b1
          try clear c31
          try clear c33
          try clear c33b0
          try clear c33b1
          try clear c34
          try clear c36
          try clear c41
          try clear c53
          try clear c53b0
          try clear c53b1
          try clear hcz11_0
          try clear hcz11_1
          try clear hcz11_2
          try clear hcz11_3
          try clear hcz14_0
          try clear hcz14_1
          try clear hcz14_2
          try clear hcz14_3
          try clear hcz17_0
          try clear hcz17_1
          try clear hcz17_2
          try clear hcz17_3
          try clear hcz20_0
          try clear hcz20_1
          try clear hcz20_2
          try clear hcz20_3
          try clear hcz23_0
          try clear hcz23_1
          try clear hcz23_2
          try clear hcz23_3
          try clear hcz26_0
          try clear hcz26_1
          try clear hcz26_2
          try clear hcz26_3
          try clear hcz29_0
          try clear hcz29_1
          try clear hcz29_2
          try clear hcz29_3
          try clear hcz32_0
          try clear hcz32_1
          try clear hcz32_2
          try clear hcz32_3
          try clear hcz35_0
          try clear hcz35_1
          try clear hcz35_2
          try clear hcz35_3
          try clear hcz37_0
          try clear hcz37_1
          try clear hcz37_2
          try clear hcz37_3
          try clear hcz42_0
          try clear hcz42_1
          try clear hcz42_2
          try clear hcz42_3
          try clear hcz47_0
          try clear hcz47_1
          try clear hcz47_2
          try clear hcz47_3
          try clear hcz8_0
          try clear hcz8_1
          try clear hcz8_2
          try clear hcz8_3
          try clear hfz11_0
          try clear hfz11_1
          try clear hfz11_2
          try clear hfz11_3
          try clear hfz14_0
          try clear hfz14_1
          try clear hfz14_2
          try clear hfz14_3
          try clear hfz17_0
          try clear hfz17_1
          try clear hfz17_2
          try clear hfz17_3
          try clear hfz20_0
          try clear hfz20_1
          try clear hfz20_2
          try clear hfz20_3
          try clear hfz23_0
          try clear hfz23_1
          try clear hfz23_2
          try clear hfz23_3
          try clear hfz26_0
          try clear hfz26_1
          try clear hfz26_2
          try clear hfz26_3
          try clear hfz29_0
          try clear hfz29_1
          try clear hfz29_2
          try clear hfz29_3
          try clear hfz32_0
          try clear hfz32_1
          try clear hfz32_2
          try clear hfz32_3
          try clear hfz35_0
          try clear hfz35_1
          try clear hfz35_2
          try clear hfz35_3
          try clear hfz37_0
          try clear hfz37_1
          try clear hfz37_2
          try clear hfz37_3
          try clear hfz42_0
          try clear hfz42_1
          try clear hfz42_2
          try clear hfz42_3
          try clear hfz47_0
          try clear hfz47_1
          try clear hfz47_2
          try clear hfz47_3
          try clear hfz8_0
          try clear hfz8_1
          try clear hfz8_2
          try clear hfz8_3
          try clear p2
          try clear p6
          obtain ⟨kq, x87_39, rfl, HA, HJ39, BK159, BK160, HB⟩ := hcut
          cases kq with
          | zero => exact absurd HA.out (by simp [watchwordlaw11_AckForms.j1])
          | succ kj39 =>
            have H := HA.out
            clear HA
            simp only [watchwordlaw11_AckForms.j1] at H
            by_cases c54 : x87_39 = true
            · subst c54
              have H1 : (some false) = some r := by rw [if_pos rfl] at H; exact H
              clear H
              have H := H1
              clear H1
              exact absurd (Option.some.inj H) (by rw [HT.out]; decide)
            · replace c54 := Bool.eq_false_iff.mpr c54
              subst c54
              have H1 : (if 0 ≤ 8 then (if 8 ≤ (t169.size : Int) then (if t169.size + 1 ≤ 9223372036854775807 then (if 1 ≤ (t169.size : Int) then (if 1 + (t169.extract 1 t169.size).size ≤ 9223372036854775807 then (if 2 ≤ (t169.size : Int) then (if 2 + (t169.extract 2 t169.size).size ≤ 9223372036854775807 then (if 3 ≤ (t169.size : Int) then (if 3 + (t169.extract 3 t169.size).size ≤ 9223372036854775807 then (if 0 ≤ 3 then (if (t169.extract 0 3).size + 1 ≤ 9223372036854775807 then (if 4 ≤ (t169.size : Int) then (if ((t169.extract 0 3) ++ (⟨#[128]⟩ : ByteArray)).size + (t169.extract 4 t169.size).size ≤ 9223372036854775807 then (if (t169.extract 0 3).size + 4 ≤ 9223372036854775807 then (if 7 ≤ (t169.size : Int) then (if ((t169.extract 0 3) ++ (⟨#[0, 0, 0, 0]⟩ : ByteArray)).size + (t169.extract 7 t169.size).size ≤ 9223372036854775807 then (if ((⟨#[2]⟩ : ByteArray) ++ (t169.extract 1 t169.size)).size + (t169.extract 1 t169.size).size ≤ 9223372036854775807 then ((some (([(⟨#[]⟩ : ByteArray), t169.extract 0 8, t169 ++ (⟨#[120]⟩ : ByteArray), (⟨#[0]⟩ : ByteArray) ++ (t169.extract 1 t169.size), (⟨#[2]⟩ : ByteArray) ++ (t169.extract 1 t169.size), (⟨#[1, 0]⟩ : ByteArray) ++ (t169.extract 2 t169.size), (⟨#[1, 5]⟩ : ByteArray) ++ (t169.extract 2 t169.size), (⟨#[1, 2, 61]⟩ : ByteArray) ++ (t169.extract 3 t169.size), ((t169.extract 0 3) ++ (⟨#[128]⟩ : ByteArray)) ++ (t169.extract 4 t169.size), ((t169.extract 0 3) ++ (⟨#[0, 0, 0, 0]⟩ : ByteArray)) ++ (t169.extract 7 t169.size), ((⟨#[2]⟩ : ByteArray) ++ (t169.extract 1 t169.size)) ++ (t169.extract 1 t169.size)] : List ByteArray) : List ByteArray)).bind fun y172 => (if 0 ≤ (wrap64 (Int.tmod (IntKind.u64.wrap (a0)) 11)) then (if (wrap64 (Int.tmod (IntKind.u64.wrap (a0)) 11)) < (y172.length : Int) then ((ack_Get.f kj39 (rdOf ByteArray.empty y172 (wrap64 (Int.tmod (IntKind.u64.wrap (a0)) 11)))).bind fun bt176 => ((ack_Get.f kj39 (⟨#[0]⟩ : ByteArray)).bind fun bt180 => ((ack_May.f kj39 (([(⟨x161000_4, x161001_4, x161002_4, x161003_4⟩ : S40)] : List (S40)))).bind fun t187 => (if t187 = true then (some false) else ((ack_May.f kj39 (([(⟨2, 5, 3, 7⟩ : S40), (⟨2, 5, 3, 7⟩ : S40)] : List (S40)))).bind fun t191 => (if t191 = true then (some false) else (if t164.toList = ([] : List UInt8) then ((watchwordlaw0_Num.f t165).bind fun t192 => (if t192 = 1100 then ((watchwordlaw0_Num.f bt176.2).bind fun t193 => (if t193 = 1100 then (if (bt180.1.length : Int) = 0 then ((watchwordlaw0_Num.f bt180.2).bind fun t194 => (some (t194 == 0))) else (some false)) else (some false))) else (some false))) else (some false)))))))) else (none)) else (none))) else (none)) else (none)) else (none)) else (none)) else (none)) else (none)) else (none)) else (none)) else (none)) else (none)) else (none)) else (none)) else (none)) else (none)) else (none)) else (none)) else (none)) = some r := by rw [if_neg (show ¬ (false = true) by decide)] at H; exact H
              clear H
              have H := H1
              clear H1
              by_cases c55 : 0 ≤ 8
              · rw [if_pos c55] at H
                have c55b0 := eq_true c55
                have c55b1 : decide (0 ≤ 8) = true := decide_eq_true c55
                clear c55
                by_cases c56 : 8 ≤ (t169.size : Int)
                · rw [if_pos c56] at H
                  have c56p : 8 ≤ t169.size := by omega
                  have c56b0 := eq_true c56
                  have c56b1 : decide (8 ≤ (t169.size : Int)) = true := decide_eq_true c56
                  clear c56
                  by_cases c57 : t169.size + 1 ≤ 9223372036854775807
                  · rw [if_pos c57] at H
                    have c57b0 := eq_true c57
                    have c57b1 : decide (t169.size + 1 ≤ 9223372036854775807) = true := decide_eq_true c57
                    try have c57b2 : (9223372036854775807 < t169.size + 1) = False := eq_false (Nat.not_lt.2 c57)
                    by_cases c58 : 1 ≤ (t169.size : Int)
                    · rw [if_pos c58] at H
                      have c58p : 1 ≤ t169.size := by omega
                      have c58b0 := eq_true c58
                      have c58b1 : decide (1 ≤ (t169.size : Int)) = true := decide_eq_true c58
                      clear c58
                      by_cases c59 : 1 + (t169.extract 1 t169.size).size ≤ 9223372036854775807
                      · rw [if_pos c59] at H
                        (try (have c59p := c59; simp only [ByteArray.size_extract] at c59p))
                        have c59b0 := eq_true c59
                        have c59b1 : decide (1 + (t169.extract 1 t169.size).size ≤ 9223372036854775807) = true := decide_eq_true c59
                        try have c59b2 : (9223372036854775807 < 1 + (t169.extract 1 t169.size).size) = False := eq_false (Nat.not_lt.2 c59)
                        try have c59e0 : (9223372036854775807 < t169.size) = False := eq_false (by have h_ := c59; simp only [ByteArray.size_append, ByteArray.size_extract] at h_; omega)
                        (try (have c59z : (9223372036854775807 < 1 + (t169.extract 1 t169.size).size) = False := eq_false (Nat.not_lt.2 c59); simp only [ByteArray.size_append, ByteArray.size_extract, Nat.sub_zero] at c59z))
                        have c60b0 := eq_true (of_decide_eq_true (by first | (with_reducible assumption) | assumption) : 1 ≤ (t169.size : Int))
                        by_cases c61 : 2 ≤ (t169.size : Int)
                        · rw [if_pos c61] at H
                          have c61p : 2 ≤ t169.size := by omega
                          have c61b0 := eq_true c61
                          have c61b1 : decide (2 ≤ (t169.size : Int)) = true := decide_eq_true c61
                          clear c61
                          by_cases c62 : 2 + (t169.extract 2 t169.size).size ≤ 9223372036854775807
                          · rw [if_pos c62] at H
                            (try (have c62p := c62; simp only [ByteArray.size_extract] at c62p))
                            have c62b0 := eq_true c62
                            have c62b1 : decide (2 + (t169.extract 2 t169.size).size ≤ 9223372036854775807) = true := decide_eq_true c62
                            try have c62b2 : (9223372036854775807 < 2 + (t169.extract 2 t169.size).size) = False := eq_false (Nat.not_lt.2 c62)
                            try have c62e0 : (9223372036854775807 < t169.size) = False := eq_false (by have h_ := c62; simp only [ByteArray.size_append, ByteArray.size_extract] at h_; omega)
                            (try (have c62z : (9223372036854775807 < 2 + (t169.extract 2 t169.size).size) = False := eq_false (Nat.not_lt.2 c62); simp only [ByteArray.size_append, ByteArray.size_extract, Nat.sub_zero] at c62z))
                            have c63b0 := eq_true (of_decide_eq_true (by first | (with_reducible assumption) | assumption) : 2 ≤ (t169.size : Int))
                            by_cases c64 : 3 ≤ (t169.size : Int)
                            · rw [if_pos c64] at H
                              have c64p : 3 ≤ t169.size := by omega
                              have c64b0 := eq_true c64
                              have c64b1 : decide (3 ≤ (t169.size : Int)) = true := decide_eq_true c64
                              clear c64
                              by_cases c65 : 3 + (t169.extract 3 t169.size).size ≤ 9223372036854775807
                              · rw [if_pos c65] at H
                                (try (have c65p := c65; simp only [ByteArray.size_extract] at c65p))
                                have c65b0 := eq_true c65
                                have c65b1 : decide (3 + (t169.extract 3 t169.size).size ≤ 9223372036854775807) = true := decide_eq_true c65
                                try have c65b2 : (9223372036854775807 < 3 + (t169.extract 3 t169.size).size) = False := eq_false (Nat.not_lt.2 c65)
                                try have c65e0 : (9223372036854775807 < t169.size) = False := eq_false (by have h_ := c65; simp only [ByteArray.size_append, ByteArray.size_extract] at h_; omega)
                                (try (have c65z : (9223372036854775807 < 3 + (t169.extract 3 t169.size).size) = False := eq_false (Nat.not_lt.2 c65); simp only [ByteArray.size_append, ByteArray.size_extract, Nat.sub_zero] at c65z))
                                by_cases c66 : 0 ≤ 3
                                · rw [if_pos c66] at H
                                  have c66b0 := eq_true c66
                                  have c66b1 : decide (0 ≤ 3) = true := decide_eq_true c66
                                  clear c66
                                  have c67b0 := eq_true (of_decide_eq_true (by first | (with_reducible assumption) | assumption) : 3 ≤ (t169.size : Int))
                                  by_cases c68 : (t169.extract 0 3).size + 1 ≤ 9223372036854775807
                                  · rw [if_pos c68] at H
                                    (try (have c68p := c68; simp only [ByteArray.size_extract] at c68p))
                                    have c68b0 := eq_true c68
                                    have c68b1 : decide ((t169.extract 0 3).size + 1 ≤ 9223372036854775807) = true := decide_eq_true c68
                                    try have c68b2 : (9223372036854775807 < (t169.extract 0 3).size + 1) = False := eq_false (Nat.not_lt.2 c68)
                                    try have c68e0 : (9223372036854775807 < t169.size) = False := eq_false (by have h_ := c68; simp only [ByteArray.size_append, ByteArray.size_extract] at h_; omega)
                                    (try (have c68z : (9223372036854775807 < (t169.extract 0 3).size + 1) = False := eq_false (Nat.not_lt.2 c68); simp only [ByteArray.size_append, ByteArray.size_extract, Nat.sub_zero] at c68z))
                                    by_cases c69 : 4 ≤ (t169.size : Int)
                                    · rw [if_pos c69] at H
                                      have c69p : 4 ≤ t169.size := by omega
                                      have c69b0 := eq_true c69
                                      have c69b1 : decide (4 ≤ (t169.size : Int)) = true := decide_eq_true c69
                                      clear c69
                                      by_cases c70 : ((t169.extract 0 3) ++ (⟨#[128]⟩ : ByteArray)).size + (t169.extract 4 t169.size).size ≤ 9223372036854775807
                                      · rw [if_pos c70] at H
                                        (try (have c70p := c70; simp only [ByteArray.size_extract] at c70p))
                                        have c70b0 := eq_true c70
                                        have c70b1 : decide (((t169.extract 0 3) ++ (⟨#[128]⟩ : ByteArray)).size + (t169.extract 4 t169.size).size ≤ 9223372036854775807) = true := decide_eq_true c70
                                        try have c70b2 : (9223372036854775807 < ((t169.extract 0 3) ++ (⟨#[128]⟩ : ByteArray)).size + (t169.extract 4 t169.size).size) = False := eq_false (Nat.not_lt.2 c70)
                                        try have c70e0 : (9223372036854775807 < t169.size) = False := eq_false (by have h_ := c70; simp only [ByteArray.size_append, ByteArray.size_extract] at h_; have l0_ : (⟨#[128]⟩ : ByteArray).size = 1 := rfl; omega)
                                        (try (have c70y := c70; have l0_ : (⟨#[128]⟩ : ByteArray).size = 1 := rfl; simp [*] at c70y; have c70w := Nat.not_lt.2 c70y; clear c70y l0_))
                                        (try (have c70z : (9223372036854775807 < ((t169.extract 0 3) ++ (⟨#[128]⟩ : ByteArray)).size + (t169.extract 4 t169.size).size) = False := eq_false (Nat.not_lt.2 c70); simp only [(rfl : (⟨#[128]⟩ : ByteArray).size = 1), ByteArray.size_append, ByteArray.size_extract, Nat.sub_zero] at c70z))
                                        try have c70b3 : (9223372036854775807 < (t169.extract 0 3).size + 1 + (t169.extract 4 t169.size).size) = False := eq_false (by have h_ := c70; simp only [ByteArray.size_append] at h_; have l0_ : (⟨#[128]⟩ : ByteArray).size = 1 := rfl; omega)
                                        try have c70b4 : (9223372036854775807 < (t169.extract 0 3).size + (⟨#[128]⟩ : ByteArray).size + (t169.extract 4 t169.size).size) = False := eq_false (by have h_ := c70; simp only [ByteArray.size_append] at h_; have l0_ : (⟨#[128]⟩ : ByteArray).size = 1 := rfl; omega)
                                        have c71b0 := eq_true (of_decide_eq_true (by first | (with_reducible assumption) | assumption) : 0 ≤ 3)
                                        have c72b0 := eq_true (of_decide_eq_true (by first | (with_reducible assumption) | assumption) : 3 ≤ (t169.size : Int))
                                        by_cases c73 : (t169.extract 0 3).size + 4 ≤ 9223372036854775807
                                        · rw [if_pos c73] at H
                                          (try (have c73p := c73; simp only [ByteArray.size_extract] at c73p))
                                          have c73b0 := eq_true c73
                                          have c73b1 : decide ((t169.extract 0 3).size + 4 ≤ 9223372036854775807) = true := decide_eq_true c73
                                          try have c73b2 : (9223372036854775807 < (t169.extract 0 3).size + 4) = False := eq_false (Nat.not_lt.2 c73)
                                          try have c73e0 : (9223372036854775807 < t169.size) = False := eq_false (by have h_ := c73; simp only [ByteArray.size_append, ByteArray.size_extract] at h_; omega)
                                          (try (have c73z : (9223372036854775807 < (t169.extract 0 3).size + 4) = False := eq_false (Nat.not_lt.2 c73); simp only [ByteArray.size_append, ByteArray.size_extract, Nat.sub_zero] at c73z))
                                          by_cases c74 : 7 ≤ (t169.size : Int)
                                          · rw [if_pos c74] at H
                                            have c74p : 7 ≤ t169.size := by omega
                                            have c74b0 := eq_true c74
                                            have c74b1 : decide (7 ≤ (t169.size : Int)) = true := decide_eq_true c74
                                            clear c74
                                            by_cases c75 : ((t169.extract 0 3) ++ (⟨#[0, 0, 0, 0]⟩ : ByteArray)).size + (t169.extract 7 t169.size).size ≤ 9223372036854775807
                                            · rw [if_pos c75] at H
                                              (try (have c75p := c75; simp only [ByteArray.size_extract] at c75p))
                                              have c75b0 := eq_true c75
                                              have c75b1 : decide (((t169.extract 0 3) ++ (⟨#[0, 0, 0, 0]⟩ : ByteArray)).size + (t169.extract 7 t169.size).size ≤ 9223372036854775807) = true := decide_eq_true c75
                                              try have c75b2 : (9223372036854775807 < ((t169.extract 0 3) ++ (⟨#[0, 0, 0, 0]⟩ : ByteArray)).size + (t169.extract 7 t169.size).size) = False := eq_false (Nat.not_lt.2 c75)
                                              try have c75e0 : (9223372036854775807 < t169.size) = False := eq_false (by have h_ := c75; simp only [ByteArray.size_append, ByteArray.size_extract] at h_; have l0_ : (⟨#[0, 0, 0, 0]⟩ : ByteArray).size = 4 := rfl; omega)
                                              (try (have c75y := c75; have l0_ : (⟨#[0, 0, 0, 0]⟩ : ByteArray).size = 4 := rfl; simp [*] at c75y; have c75w := Nat.not_lt.2 c75y; clear c75y l0_))
                                              (try (have c75z : (9223372036854775807 < ((t169.extract 0 3) ++ (⟨#[0, 0, 0, 0]⟩ : ByteArray)).size + (t169.extract 7 t169.size).size) = False := eq_false (Nat.not_lt.2 c75); simp only [(rfl : (⟨#[0, 0, 0, 0]⟩ : ByteArray).size = 4), ByteArray.size_append, ByteArray.size_extract, Nat.sub_zero] at c75z))
                                              try have c75b3 : (9223372036854775807 < (t169.extract 0 3).size + 4 + (t169.extract 7 t169.size).size) = False := eq_false (by have h_ := c75; simp only [ByteArray.size_append] at h_; have l0_ : (⟨#[0, 0, 0, 0]⟩ : ByteArray).size = 4 := rfl; omega)
                                              try have c75b4 : (9223372036854775807 < (t169.extract 0 3).size + (⟨#[0, 0, 0, 0]⟩ : ByteArray).size + (t169.extract 7 t169.size).size) = False := eq_false (by have h_ := c75; simp only [ByteArray.size_append] at h_; have l0_ : (⟨#[0, 0, 0, 0]⟩ : ByteArray).size = 4 := rfl; omega)
                                              have c76b0 := eq_true (of_decide_eq_true (by first | (with_reducible assumption) | assumption) : 1 ≤ (t169.size : Int))
                                              have c77b0 := eq_true (of_decide_eq_true (by first | (with_reducible assumption) | assumption) : 1 ≤ (t169.size : Int))
                                              by_cases c78 : ((⟨#[2]⟩ : ByteArray) ++ (t169.extract 1 t169.size)).size + (t169.extract 1 t169.size).size ≤ 9223372036854775807
                                              · rw [if_pos c78] at H
                                                (try (have c78p := c78; simp only [ByteArray.size_extract] at c78p))
                                                have c78b0 := eq_true c78
                                                have c78b1 : decide (((⟨#[2]⟩ : ByteArray) ++ (t169.extract 1 t169.size)).size + (t169.extract 1 t169.size).size ≤ 9223372036854775807) = true := decide_eq_true c78
                                                try have c78b2 : (9223372036854775807 < ((⟨#[2]⟩ : ByteArray) ++ (t169.extract 1 t169.size)).size + (t169.extract 1 t169.size).size) = False := eq_false (Nat.not_lt.2 c78)
                                                try have c78e0 : (9223372036854775807 < t169.size) = False := eq_false (by have h_ := c78; simp only [ByteArray.size_append, ByteArray.size_extract] at h_; have l0_ : (⟨#[2]⟩ : ByteArray).size = 1 := rfl; omega)
                                                (try (have c78y := c78; have l0_ : (⟨#[2]⟩ : ByteArray).size = 1 := rfl; simp [*] at c78y; have c78w := Nat.not_lt.2 c78y; clear c78y l0_))
                                                (try (have c78z : (9223372036854775807 < ((⟨#[2]⟩ : ByteArray) ++ (t169.extract 1 t169.size)).size + (t169.extract 1 t169.size).size) = False := eq_false (Nat.not_lt.2 c78); simp only [(rfl : (⟨#[2]⟩ : ByteArray).size = 1), ByteArray.size_append, ByteArray.size_extract, Nat.sub_zero] at c78z))
                                                try have c78b3 : (9223372036854775807 < 1 + (t169.extract 1 t169.size).size + (t169.extract 1 t169.size).size) = False := eq_false (by have h_ := c78; simp only [ByteArray.size_append] at h_; have l0_ : (⟨#[2]⟩ : ByteArray).size = 1 := rfl; omega)
                                                try have c78b4 : (9223372036854775807 < (⟨#[2]⟩ : ByteArray).size + (t169.extract 1 t169.size).size + (t169.extract 1 t169.size).size) = False := eq_false (by have h_ := c78; simp only [ByteArray.size_append] at h_; have l0_ : (⟨#[2]⟩ : ByteArray).size = 1 := rfl; omega)
                                                obtain ⟨y172, hy172⟩ : ∃ y_ : List ByteArray, y_ = (([(⟨#[]⟩ : ByteArray), t169.extract 0 8, t169 ++ (⟨#[120]⟩ : ByteArray), (⟨#[0]⟩ : ByteArray) ++ (t169.extract 1 t169.size), (⟨#[2]⟩ : ByteArray) ++ (t169.extract 1 t169.size), (⟨#[1, 0]⟩ : ByteArray) ++ (t169.extract 2 t169.size), (⟨#[1, 5]⟩ : ByteArray) ++ (t169.extract 2 t169.size), (⟨#[1, 2, 61]⟩ : ByteArray) ++ (t169.extract 3 t169.size), ((t169.extract 0 3) ++ (⟨#[128]⟩ : ByteArray)) ++ (t169.extract 4 t169.size), ((t169.extract 0 3) ++ (⟨#[0, 0, 0, 0]⟩ : ByteArray)) ++ (t169.extract 7 t169.size), ((⟨#[2]⟩ : ByteArray) ++ (t169.extract 1 t169.size)) ++ (t169.extract 1 t169.size)] : List ByteArray)) := ⟨_, rfl⟩
                                                replace H : (if 0 ≤ (wrap64 (Int.tmod (IntKind.u64.wrap (a0)) 11)) then (if (wrap64 (Int.tmod (IntKind.u64.wrap (a0)) 11)) < (y172.length : Int) then ((ack_Get.f kj39 (rdOf ByteArray.empty y172 (wrap64 (Int.tmod (IntKind.u64.wrap (a0)) 11)))).bind fun bt176 => ((ack_Get.f kj39 (⟨#[0]⟩ : ByteArray)).bind fun bt180 => ((ack_May.f kj39 (([(⟨x161000_4, x161001_4, x161002_4, x161003_4⟩ : S40)] : List (S40)))).bind fun t187 => (if t187 = true then (some false) else ((ack_May.f kj39 (([(⟨2, 5, 3, 7⟩ : S40), (⟨2, 5, 3, 7⟩ : S40)] : List (S40)))).bind fun t191 => (if t191 = true then (some false) else (if t164.toList = ([] : List UInt8) then ((watchwordlaw0_Num.f t165).bind fun t192 => (if t192 = 1100 then ((watchwordlaw0_Num.f bt176.2).bind fun t193 => (if t193 = 1100 then (if (bt180.1.length : Int) = 0 then ((watchwordlaw0_Num.f bt180.2).bind fun t194 => (some (t194 == 0))) else (some false)) else (some false))) else (some false))) else (some false)))))))) else (none)) else (none)) = some r := by first | (rw [hy172]; with_reducible exact H) | (have H2_ := (Option.bind_some _ _).symm.trans H; rw [hy172]; with_reducible exact H2_) | (have H2_ := (Option.bind_some _ _).symm.trans H; with_reducible exact H2_) | with_reducible exact H | (rw [hy172]; exact H) | exact H
                                                have Ny172 := Aside0.mk hy172
                                                clear hy172
                                                obtain ⟨ji79, hji79⟩ : ∃ j_ : Int, (wrap64 (Int.tmod (IntKind.u64.wrap (a0)) 11)) = j_ := ⟨_, rfl⟩
                                                replace H : (if 0 ≤ (ji79) then (if (ji79) < (y172.length : Int) then ((ack_Get.f kj39 (rdOf ByteArray.empty y172 (ji79))).bind fun bt176 => ((ack_Get.f kj39 (⟨#[0]⟩ : ByteArray)).bind fun bt180 => ((ack_May.f kj39 (([(⟨x161000_4, x161001_4, x161002_4, x161003_4⟩ : S40)] : List (S40)))).bind fun t187 => (if t187 = true then (some false) else ((ack_May.f kj39 (([(⟨2, 5, 3, 7⟩ : S40), (⟨2, 5, 3, 7⟩ : S40)] : List (S40)))).bind fun t191 => (if t191 = true then (some false) else (if t164.toList = ([] : List UInt8) then ((watchwordlaw0_Num.f t165).bind fun t192 => (if t192 = 1100 then ((watchwordlaw0_Num.f bt176.2).bind fun t193 => (if t193 = 1100 then (if (bt180.1.length : Int) = 0 then ((watchwordlaw0_Num.f bt180.2).bind fun t194 => (some (t194 == 0))) else (some false)) else (some false))) else (some false))) else (some false)))))))) else (none)) else (none)) = some r := by first | (rw [hji79] at H; exact H) | (simp only [hji79] at H ⊢; exact H)
                                                have hji79w : (IntKind.i64.wrap (Int.tmod (IntKind.u64.wrap (a0)) 11)) = ji79 := (i64_w _).trans hji79
                                                by_cases c80 : 0 ≤ (ji79)
                                                · rw [if_pos c80] at H
                                                  have c80b0 : decide (0 ≤ (ji79)) = true := decide_eq_true c80
                                                  clear c80
                                                  by_cases c81 : (ji79) < (y172.length : Int)
                                                  · rw [if_pos c81] at H
                                                    have c81b0 : decide ((ji79) < (y172.length : Int)) = true := decide_eq_true c81
                                                    clear c81
                                                    replace H := Option.bind_eq_some_iff.mp H
                                                    obtain ⟨⟨t176, t177⟩, A820, H⟩ := H
                                                    replace H : ((ack_Get.f kj39 (⟨#[0]⟩ : ByteArray)).bind fun bt180 => ((ack_May.f kj39 (([(⟨x161000_4, x161001_4, x161002_4, x161003_4⟩ : S40)] : List (S40)))).bind fun t187 => (if t187 = true then (some false) else ((ack_May.f kj39 (([(⟨2, 5, 3, 7⟩ : S40), (⟨2, 5, 3, 7⟩ : S40)] : List (S40)))).bind fun t191 => (if t191 = true then (some false) else (if t164.toList = ([] : List UInt8) then ((watchwordlaw0_Num.f t165).bind fun t192 => (if t192 = 1100 then ((watchwordlaw0_Num.f t177).bind fun t193 => (if t193 = 1100 then (if (bt180.1.length : Int) = 0 then ((watchwordlaw0_Num.f bt180.2).bind fun t194 => (some (t194 == 0))) else (some false)) else (some false))) else (some false))) else (some false))))))) = some r := H
                                                    have A82 := Aside0.mk A820
                                                    clear A820
                                                    replace H := Option.bind_eq_some_iff.mp H
                                                    obtain ⟨⟨t180, t181⟩, A830, H⟩ := H
                                                    replace H : ((ack_May.f kj39 (([(⟨x161000_4, x161001_4, x161002_4, x161003_4⟩ : S40)] : List (S40)))).bind fun t187 => (if t187 = true then (some false) else ((ack_May.f kj39 (([(⟨2, 5, 3, 7⟩ : S40), (⟨2, 5, 3, 7⟩ : S40)] : List (S40)))).bind fun t191 => (if t191 = true then (some false) else (if t164.toList = ([] : List UInt8) then ((watchwordlaw0_Num.f t165).bind fun t192 => (if t192 = 1100 then ((watchwordlaw0_Num.f t177).bind fun t193 => (if t193 = 1100 then (if (t180.length : Int) = 0 then ((watchwordlaw0_Num.f t181).bind fun t194 => (some (t194 == 0))) else (some false)) else (some false))) else (some false))) else (some false)))))) = some r := H
                                                    have A83 := Aside0.mk A830
                                                    clear A830
                                                    obtain ⟨y184, hy184⟩ : ∃ y_ : List (S40), y_ = (([(⟨x161000_4, x161001_4, x161002_4, x161003_4⟩ : S40)] : List (S40))) := ⟨_, rfl⟩
                                                    replace H : ((ack_May.f kj39 y184).bind fun t187 => (if t187 = true then (some false) else ((ack_May.f kj39 (([(⟨2, 5, 3, 7⟩ : S40), (⟨2, 5, 3, 7⟩ : S40)] : List (S40)))).bind fun t191 => (if t191 = true then (some false) else (if t164.toList = ([] : List UInt8) then ((watchwordlaw0_Num.f t165).bind fun t192 => (if t192 = 1100 then ((watchwordlaw0_Num.f t177).bind fun t193 => (if t193 = 1100 then (if (t180.length : Int) = 0 then ((watchwordlaw0_Num.f t181).bind fun t194 => (some (t194 == 0))) else (some false)) else (some false))) else (some false))) else (some false)))))) = some r := by first | (rw [hy184]; with_reducible exact H) | (have H2_ := (Option.bind_some _ _).symm.trans H; rw [hy184]; with_reducible exact H2_) | (have H2_ := (Option.bind_some _ _).symm.trans H; with_reducible exact H2_) | with_reducible exact H | (rw [hy184]; exact H) | exact H
                                                    have Ny184 := Aside0.mk hy184
                                                    clear hy184
                                                    replace H := Option.bind_eq_some_iff.mp H
                                                    obtain ⟨t187, A840, H⟩ := H
                                                    replace H : (if t187 = true then (some false) else ((ack_May.f kj39 (([(⟨2, 5, 3, 7⟩ : S40), (⟨2, 5, 3, 7⟩ : S40)] : List (S40)))).bind fun t191 => (if t191 = true then (some false) else (if t164.toList = ([] : List UInt8) then ((watchwordlaw0_Num.f t165).bind fun t192 => (if t192 = 1100 then ((watchwordlaw0_Num.f t177).bind fun t193 => (if t193 = 1100 then (if (t180.length : Int) = 0 then ((watchwordlaw0_Num.f t181).bind fun t194 => (some (t194 == 0))) else (some false)) else (some false))) else (some false))) else (some false))))) = some r := H
                                                    have A84 := Aside0.mk A840
                                                    clear A840
                                                    by_cases c85 : t187 = true
                                                    · subst c85
                                                      have H1 : (some false) = some r := by rw [if_pos rfl] at H; exact H
                                                      clear H
                                                      have H := H1
                                                      clear H1
                                                      exact absurd (Option.some.inj H) (by rw [HT.out]; decide)
                                                    · replace c85 := Bool.eq_false_iff.mpr c85
                                                      subst c85
                                                      have H1 : ((ack_May.f kj39 (([(⟨2, 5, 3, 7⟩ : S40), (⟨2, 5, 3, 7⟩ : S40)] : List (S40)))).bind fun t191 => (if t191 = true then (some false) else (if t164.toList = ([] : List UInt8) then ((watchwordlaw0_Num.f t165).bind fun t192 => (if t192 = 1100 then ((watchwordlaw0_Num.f t177).bind fun t193 => (if t193 = 1100 then (if (t180.length : Int) = 0 then ((watchwordlaw0_Num.f t181).bind fun t194 => (some (t194 == 0))) else (some false)) else (some false))) else (some false))) else (some false)))) = some r := by rw [if_neg (show ¬ (false = true) by decide)] at H; exact H
                                                      clear H
                                                      have H := H1
                                                      clear H1
                                                      obtain ⟨y188, hy188⟩ : ∃ y_ : List (S40), y_ = (([(⟨2, 5, 3, 7⟩ : S40), (⟨2, 5, 3, 7⟩ : S40)] : List (S40))) := ⟨_, rfl⟩
                                                      replace H : ((ack_May.f kj39 y188).bind fun t191 => (if t191 = true then (some false) else (if t164.toList = ([] : List UInt8) then ((watchwordlaw0_Num.f t165).bind fun t192 => (if t192 = 1100 then ((watchwordlaw0_Num.f t177).bind fun t193 => (if t193 = 1100 then (if (t180.length : Int) = 0 then ((watchwordlaw0_Num.f t181).bind fun t194 => (some (t194 == 0))) else (some false)) else (some false))) else (some false))) else (some false)))) = some r := by first | (rw [hy188]; with_reducible exact H) | (have H2_ := (Option.bind_some _ _).symm.trans H; rw [hy188]; with_reducible exact H2_) | (have H2_ := (Option.bind_some _ _).symm.trans H; with_reducible exact H2_) | with_reducible exact H | (rw [hy188]; exact H) | exact H
                                                      have Ny188 := Aside0.mk hy188
                                                      clear hy188
                                                      replace H := Option.bind_eq_some_iff.mp H
                                                      obtain ⟨t191, A860, H⟩ := H
                                                      replace H : (if t191 = true then (some false) else (if t164.toList = ([] : List UInt8) then ((watchwordlaw0_Num.f t165).bind fun t192 => (if t192 = 1100 then ((watchwordlaw0_Num.f t177).bind fun t193 => (if t193 = 1100 then (if (t180.length : Int) = 0 then ((watchwordlaw0_Num.f t181).bind fun t194 => (some (t194 == 0))) else (some false)) else (some false))) else (some false))) else (some false))) = some r := H
                                                      have A86 := Aside0.mk A860
                                                      clear A860
                                                      by_cases c87 : t191 = true
                                                      · subst c87
                                                        have H1 : (some false) = some r := by rw [if_pos rfl] at H; exact H
                                                        clear H
                                                        have H := H1
                                                        clear H1
                                                        exact absurd (Option.some.inj H) (by rw [HT.out]; decide)
                                                      · replace c87 := Bool.eq_false_iff.mpr c87
                                                        subst c87
                                                        have H1 : (if t164.toList = ([] : List UInt8) then ((watchwordlaw0_Num.f t165).bind fun t192 => (if t192 = 1100 then ((watchwordlaw0_Num.f t177).bind fun t193 => (if t193 = 1100 then (if (t180.length : Int) = 0 then ((watchwordlaw0_Num.f t181).bind fun t194 => (some (t194 == 0))) else (some false)) else (some false))) else (some false))) else (some false)) = some r := by rw [if_neg (show ¬ (false = true) by decide)] at H; exact H
                                                        clear H
                                                        have H := H1
                                                        clear H1
                                                        by_cases c88 : t164.toList = ([] : List UInt8)
                                                        · rw [if_pos c88] at H
                                                          have c88b0 : (t164.toList == ([] : List UInt8)) = true := beq_iff_eq.mpr c88
                                                          have c88b1 : (t164.toList != ([] : List UInt8)) = false := bne_eq_false_iff_eq.mpr c88
                                                          clear c88
                                                          replace H := Option.bind_eq_some_iff.mp H
                                                          obtain ⟨t192, A890, H⟩ := H
                                                          replace H : (if t192 = 1100 then ((watchwordlaw0_Num.f t177).bind fun t193 => (if t193 = 1100 then (if (t180.length : Int) = 0 then ((watchwordlaw0_Num.f t181).bind fun t194 => (some (t194 == 0))) else (some false)) else (some false))) else (some false)) = some r := H
                                                          have A89 := Aside0.mk A890
                                                          clear A890
                                                          by_cases c90 : t192 = 1100
                                                          · rw [if_pos c90] at H
                                                            have c90b0 : (t192 == 1100) = true := beq_iff_eq.mpr c90
                                                            have c90b1 : (t192 != 1100) = false := bne_eq_false_iff_eq.mpr c90
                                                            clear c90
                                                            replace H := Option.bind_eq_some_iff.mp H
                                                            obtain ⟨t193, A910, H⟩ := H
                                                            replace H : (if t193 = 1100 then (if (t180.length : Int) = 0 then ((watchwordlaw0_Num.f t181).bind fun t194 => (some (t194 == 0))) else (some false)) else (some false)) = some r := H
                                                            have A91 := Aside0.mk A910
                                                            clear A910
                                                            by_cases c92 : t193 = 1100
                                                            · rw [if_pos c92] at H
                                                              have c92b0 : (t193 == 1100) = true := beq_iff_eq.mpr c92
                                                              have c92b1 : (t193 != 1100) = false := bne_eq_false_iff_eq.mpr c92
                                                              clear c92
                                                              by_cases c93 : (t180.length : Int) = 0
                                                              · rw [if_pos c93] at H
                                                                have c93b0 : ((t180.length : Int) == 0) = true := beq_iff_eq.mpr c93
                                                                have c93b1 : ((t180.length : Int) != 0) = false := bne_eq_false_iff_eq.mpr c93
                                                                clear c93
                                                                replace H := Option.bind_eq_some_iff.mp H
                                                                obtain ⟨t194, A940, H⟩ := H
                                                                replace H : (some (t194 == 0)) = some r := H
                                                                have A94 := Aside0.mk A940
                                                                clear A940
                                                                obtain rfl := Option.some.inj H
                                                                try go_wp2
                                                                have n0_ := Aside0.mk (blk_drew BK159.out)
                                                                have n1_ := Aside0.mk (blk_drew BK160.out)
                                                                have n2_ := Aside0.mk (below_drew1 HB.out)
                                                                clear BK159
                                                                clear BK160
                                                                clear HB
                                                                have BK159 := n0_
                                                                have BK160 := n1_
                                                                have HB := n2_
                                                                clear n0_ n1_ n2_
                                                                refine start_ (n := 39) (S := fun w' => True) (ds := []) #[false, false, false, false, false, false, false, false, false, false, false, false, false, false, false, false, false, false, false, false, false, false, false, false, false, false, false, false, false, false, false, false, false, false, false, false, false, false, false] (by kernel_rfl) rfl rfl trivial (fun hHeld => ?_); refine with_tabW watchwordlaw11_AckForms.tab28 watchwordlaw11_AckForms.bits28 (fun HT_ HW_ => ?_)
                                                                generalize wc.drew = w95 at BK159 BK160 HB hHeld ⊢
                                                                refine pure_ (i := 0) (N := some 88) (v := ?_) (a' := ?_) #[true, false, false, false, false, false, false, false, false, false, false, false, false, false, false, false, false, false, false, false, false, false, false, false, false, false, false, false, false, false, false, false, false, false, false, false, false, false, false] rfl rfl (any_of HT_.out (by kernel_rfl)) (fun _ _ _ h => h) (Or.inl ⟨by rfl, ?_⟩) ?_ ?_
                                                                rotate_left
                                                                · intro w'
                                                                  go_simp
                                                                  with_reducible rfl
                                                                rotate_left
                                                                · simp only [Act.put, List.setIfInBounds_toArray, List.set_cons_zero, List.set_cons_succ, i64_w, i32_w]
                                                                  rfl
                                                                refine pure_ (i := 1) (N := some 89) (v := ?_) (a' := ?_) #[true, true, false, false, false, false, false, false, false, false, false, false, false, false, false, false, false, false, false, false, false, false, false, false, false, false, false, false, false, false, false, false, false, false, false, false, false, false, false] rfl rfl (any_of HT_.out (by kernel_rfl)) (fun _ _ _ h => h) (Or.inl ⟨by rfl, ?_⟩) ?_ ?_
                                                                rotate_left
                                                                · intro w'
                                                                  go_simp
                                                                  with_reducible rfl
                                                                rotate_left
                                                                · simp only [Act.put, List.setIfInBounds_toArray, List.set_cons_zero, List.set_cons_succ, i64_w, i32_w]
                                                                  rfl
                                                                refine pure_ (i := 2) (N := some 90) (v := ?_) (a' := ?_) #[true, true, true, false, false, false, false, false, false, false, false, false, false, false, false, false, false, false, false, false, false, false, false, false, false, false, false, false, false, false, false, false, false, false, false, false, false, false, false] rfl rfl (any_of HT_.out (by kernel_rfl)) (fun _ _ _ h => h) (Or.inl ⟨by rfl, ?_⟩) ?_ ?_
                                                                rotate_left
                                                                · intro w'
                                                                  go_simp
                                                                  with_reducible rfl
                                                                rotate_left
                                                                · simp only [Act.put, List.setIfInBounds_toArray, List.set_cons_zero, List.set_cons_succ, i64_w, i32_w]
                                                                  rfl
                                                                refine pure_ (i := 3) (N := some 91) (v := ?_) (a' := ?_) #[true, true, true, true, false, false, false, false, false, false, false, false, false, false, false, false, false, false, false, false, false, false, false, false, false, false, false, false, false, false, false, false, false, false, false, false, false, false, false] rfl rfl (any_of HT_.out (by kernel_rfl)) (fun _ _ _ h => h) (Or.inl ⟨by rfl, ?_⟩) ?_ ?_
                                                                rotate_left
                                                                · intro w'
                                                                  go_simp
                                                                  with_reducible rfl
                                                                rotate_left
                                                                · simp only [Act.put, List.setIfInBounds_toArray, List.set_cons_zero, List.set_cons_succ, i64_w, i32_w]
                                                                  rfl
                                                                refine pure_ (i := 4) (N := some 92) (v := ?_) (a' := ?_) #[true, true, true, true, true, false, false, false, false, false, false, false, false, false, false, false, false, false, false, false, false, false, false, false, false, false, false, false, false, false, false, false, false, false, false, false, false, false, false] rfl rfl (any_of HT_.out (by kernel_rfl)) (fun _ _ _ h => h) (Or.inl ⟨by rfl, ?_⟩) ?_ ?_
                                                                rotate_left
                                                                · intro w'
                                                                  go_simp
                                                                  with_reducible rfl
                                                                rotate_left
                                                                · simp only [Act.put, List.setIfInBounds_toArray, List.set_cons_zero, List.set_cons_succ, i64_w, i32_w]
                                                                  rfl
                                                                refine pure_ (i := 5) (N := some 93) (v := ?_) (a' := ?_) #[true, true, true, true, true, true, false, false, false, false, false, false, false, false, false, false, false, false, false, false, false, false, false, false, false, false, false, false, false, false, false, false, false, false, false, false, false, false, false] rfl rfl (any_of HT_.out (by kernel_rfl)) (fun _ _ _ h => h) (Or.inl ⟨by rfl, ?_⟩) ?_ ?_
                                                                rotate_left
                                                                · intro w'
                                                                  go_simp
                                                                  with_reducible rfl
                                                                rotate_left
                                                                · simp only [Act.put, List.setIfInBounds_toArray, List.set_cons_zero, List.set_cons_succ, i64_w, i32_w]
                                                                  rfl
                                                                refine pure_ (i := 6) (N := some 94) (v := ?_) (a' := ?_) #[true, true, true, true, true, true, true, false, false, false, false, false, false, false, false, false, false, false, false, false, false, false, false, false, false, false, false, false, false, false, false, false, false, false, false, false, false, false, false] rfl rfl (any_of HT_.out (by kernel_rfl)) (fun _ _ _ h => h) (Or.inl ⟨by rfl, ?_⟩) ?_ ?_
                                                                rotate_left
                                                                · intro w'
                                                                  go_simp
                                                                  with_reducible rfl
                                                                rotate_left
                                                                · simp only [Act.put, List.setIfInBounds_toArray, List.set_cons_zero, List.set_cons_succ, i64_w, i32_w]
                                                                  rfl
                                                                refine pure_ (i := 7) (N := some 95) (v := ?_) (a' := ?_) #[true, true, true, true, true, true, true, true, false, false, false, false, false, false, false, false, false, false, false, false, false, false, false, false, false, false, false, false, false, false, false, false, false, false, false, false, false, false, false] rfl rfl (any_of HT_.out (by kernel_rfl)) (fun _ _ _ h => h) (Or.inl ⟨by rfl, ?_⟩) ?_ ?_
                                                                rotate_left
                                                                · intro w'
                                                                  go_simp
                                                                  with_reducible rfl
                                                                rotate_left
                                                                · simp only [Act.put, List.setIfInBounds_toArray, List.set_cons_zero, List.set_cons_succ, i64_w, i32_w]
                                                                  rfl
                                                                refine pure_ (i := 8) (N := some 96) (v := ?_) (a' := ?_) #[true, true, true, true, true, true, true, true, true, false, false, false, false, false, false, false, false, false, false, false, false, false, false, false, false, false, false, false, false, false, false, false, false, false, false, false, false, false, false] rfl rfl (any_of HT_.out (by kernel_rfl)) (fun _ _ _ h => h) (Or.inl ⟨by rfl, ?_⟩) ?_ ?_
                                                                rotate_left
                                                                · intro w'
                                                                  go_simp
                                                                  with_reducible rfl
                                                                rotate_left
                                                                · simp only [Act.put, List.setIfInBounds_toArray, List.set_cons_zero, List.set_cons_succ, i64_w, i32_w]
                                                                  rfl
                                                                refine pure_ (i := 9) (N := some 97) (v := ?_) (a' := ?_) #[true, true, true, true, true, true, true, true, true, true, false, false, false, false, false, false, false, false, false, false, false, false, false, false, false, false, false, false, false, false, false, false, false, false, false, false, false, false, false] rfl rfl (any_of HT_.out (by kernel_rfl)) (fun _ _ _ h => h) (Or.inl ⟨by rfl, ?_⟩) ?_ ?_
                                                                rotate_left
                                                                · intro w'
                                                                  go_simp
                                                                  with_reducible rfl
                                                                rotate_left
                                                                · simp only [Act.put, List.setIfInBounds_toArray, List.set_cons_zero, List.set_cons_succ, i64_w, i32_w]
                                                                  rfl
                                                                refine pure_ (i := 10) (N := some 98) (v := ?_) (a' := ?_) #[true, true, true, true, true, true, true, true, true, true, true, false, false, false, false, false, false, false, false, false, false, false, false, false, false, false, false, false, false, false, false, false, false, false, false, false, false, false, false] rfl rfl (any_of HT_.out (by kernel_rfl)) (fun _ _ _ h => h) (Or.inl ⟨by rfl, ?_⟩) ?_ ?_
                                                                rotate_left
                                                                · intro w'
                                                                  go_simp
                                                                  with_reducible rfl
                                                                rotate_left
                                                                · simp only [Act.put, List.setIfInBounds_toArray, List.set_cons_zero, List.set_cons_succ, i64_w, i32_w]
                                                                  rfl
                                                                refine pure_ (i := 11) (N := some 99) (v := ?_) (a' := ?_) #[true, true, true, true, true, true, true, true, true, true, true, true, false, false, false, false, false, false, false, false, false, false, false, false, false, false, false, false, false, false, false, false, false, false, false, false, false, false, false] rfl rfl (any_of HT_.out (by kernel_rfl)) (fun _ _ _ h => h) (Or.inl ⟨by rfl, ?_⟩) ?_ ?_
                                                                rotate_left
                                                                · intro w'
                                                                  go_simp
                                                                  with_reducible rfl
                                                                rotate_left
                                                                · simp only [Act.put, List.setIfInBounds_toArray, List.set_cons_zero, List.set_cons_succ, i64_w, i32_w]
                                                                  rfl
                                                                refine pure_ (i := 12) (N := some 100) (v := ?_) (a' := ?_) #[true, true, true, true, true, true, true, true, true, true, true, true, true, false, false, false, false, false, false, false, false, false, false, false, false, false, false, false, false, false, false, false, false, false, false, false, false, false, false] rfl rfl (any_of HT_.out (by kernel_rfl)) (fun _ _ _ h => h) (Or.inl ⟨by rfl, ?_⟩) ?_ ?_
                                                                rotate_left
                                                                · intro w'
                                                                  go_simp
                                                                  with_reducible rfl
                                                                rotate_left
                                                                · simp only [Act.put, List.setIfInBounds_toArray, List.set_cons_zero, List.set_cons_succ, i64_w, i32_w]
                                                                  rfl
                                                                refine pure_ (i := 13) (N := some 101) (v := ?_) (a' := ?_) #[true, true, true, true, true, true, true, true, true, true, true, true, true, true, false, false, false, false, false, false, false, false, false, false, false, false, false, false, false, false, false, false, false, false, false, false, false, false, false] rfl rfl (any_of HT_.out (by kernel_rfl)) (fun _ _ _ h => h) (Or.inl ⟨by rfl, ?_⟩) ?_ ?_
                                                                rotate_left
                                                                · intro w'
                                                                  go_simp
                                                                  with_reducible rfl
                                                                rotate_left
                                                                · simp only [Act.put, List.setIfInBounds_toArray, List.set_cons_zero, List.set_cons_succ, i64_w, i32_w]
                                                                  rfl
                                                                refine pure_ (i := 14) (N := some 102) (v := ?_) (a' := ?_) #[true, true, true, true, true, true, true, true, true, true, true, true, true, true, true, false, false, false, false, false, false, false, false, false, false, false, false, false, false, false, false, false, false, false, false, false, false, false, false] rfl rfl (any_of HT_.out (by kernel_rfl)) (fun _ _ _ h => h) (Or.inl ⟨by rfl, ?_⟩) ?_ ?_
                                                                rotate_left
                                                                · intro w'
                                                                  go_simp
                                                                  with_reducible rfl
                                                                rotate_left
                                                                · simp only [Act.put, List.setIfInBounds_toArray, List.set_cons_zero, List.set_cons_succ, i64_w, i32_w]
                                                                  rfl
                                                                refine pure_ (i := 15) (N := some 103) (v := ?_) (a' := ?_) #[true, true, true, true, true, true, true, true, true, true, true, true, true, true, true, true, false, false, false, false, false, false, false, false, false, false, false, false, false, false, false, false, false, false, false, false, false, false, false] rfl rfl (any_of HT_.out (by kernel_rfl)) (fun _ _ _ h => h) (Or.inl ⟨by rfl, ?_⟩) ?_ ?_
                                                                rotate_left
                                                                · intro w'
                                                                  go_simp
                                                                  with_reducible rfl
                                                                rotate_left
                                                                · simp only [Act.put, List.setIfInBounds_toArray, List.set_cons_zero, List.set_cons_succ, i64_w, i32_w]
                                                                  rfl
                                                                refine pure_ (i := 16) (N := some 104) (v := ?_) (a' := ?_) #[true, true, true, true, true, true, true, true, true, true, true, true, true, true, true, true, true, false, false, false, false, false, false, false, false, false, false, false, false, false, false, false, false, false, false, false, false, false, false] rfl rfl (any_of HT_.out (by kernel_rfl)) (fun _ _ _ h => h) (Or.inl ⟨by rfl, ?_⟩) ?_ ?_
                                                                rotate_left
                                                                · intro w'
                                                                  go_simp
                                                                  with_reducible rfl
                                                                rotate_left
                                                                · simp only [Act.put, List.setIfInBounds_toArray, List.set_cons_zero, List.set_cons_succ, i64_w, i32_w]
                                                                  rfl
                                                                refine pure_ (i := 17) (N := some 105) (v := ?_) (a' := ?_) #[true, true, true, true, true, true, true, true, true, true, true, true, true, true, true, true, true, true, false, false, false, false, false, false, false, false, false, false, false, false, false, false, false, false, false, false, false, false, false] rfl rfl (any_of HT_.out (by kernel_rfl)) (fun _ _ _ h => h) (Or.inl ⟨by rfl, ?_⟩) ?_ ?_
                                                                rotate_left
                                                                · intro w'
                                                                  go_simp
                                                                  with_reducible rfl
                                                                rotate_left
                                                                · simp only [Act.put, List.setIfInBounds_toArray, List.set_cons_zero, List.set_cons_succ, i64_w, i32_w]
                                                                  rfl
                                                                refine pure_ (i := 18) (N := some 106) (v := ?_) (a' := ?_) #[true, true, true, true, true, true, true, true, true, true, true, true, true, true, true, true, true, true, true, false, false, false, false, false, false, false, false, false, false, false, false, false, false, false, false, false, false, false, false] rfl rfl (any_of HT_.out (by kernel_rfl)) (fun _ _ _ h => h) (Or.inl ⟨by rfl, ?_⟩) ?_ ?_
                                                                rotate_left
                                                                · intro w'
                                                                  go_simp
                                                                  with_reducible rfl
                                                                rotate_left
                                                                · simp only [Act.put, List.setIfInBounds_toArray, List.set_cons_zero, List.set_cons_succ, i64_w, i32_w]
                                                                  rfl
                                                                refine pure_ (i := 19) (N := some 107) (v := ?_) (a' := ?_) #[true, true, true, true, true, true, true, true, true, true, true, true, true, true, true, true, true, true, true, true, false, false, false, false, false, false, false, false, false, false, false, false, false, false, false, false, false, false, false] rfl rfl (any_of HT_.out (by kernel_rfl)) (fun _ _ _ h => h) (Or.inl ⟨by rfl, ?_⟩) ?_ ?_
                                                                rotate_left
                                                                · intro w'
                                                                  go_simp
                                                                  with_reducible rfl
                                                                rotate_left
                                                                · simp only [Act.put, List.setIfInBounds_toArray, List.set_cons_zero, List.set_cons_succ, i64_w, i32_w]
                                                                  rfl
                                                                refine pure_ (i := 20) (N := some 108) (v := ?_) (a' := ?_) #[true, true, true, true, true, true, true, true, true, true, true, true, true, true, true, true, true, true, true, true, true, false, false, false, false, false, false, false, false, false, false, false, false, false, false, false, false, false, false] rfl rfl (any_of HT_.out (by kernel_rfl)) (fun _ _ _ h => h) (Or.inl ⟨by rfl, ?_⟩) ?_ ?_
                                                                rotate_left
                                                                · intro w'
                                                                  go_simp
                                                                  with_reducible rfl
                                                                rotate_left
                                                                · simp only [Act.put, List.setIfInBounds_toArray, List.set_cons_zero, List.set_cons_succ, i64_w, i32_w]
                                                                  rfl
                                                                refine pure_ (i := 21) (N := some 109) (v := ?_) (a' := ?_) #[true, true, true, true, true, true, true, true, true, true, true, true, true, true, true, true, true, true, true, true, true, true, false, false, false, false, false, false, false, false, false, false, false, false, false, false, false, false, false] rfl rfl (any_of HT_.out (by kernel_rfl)) (fun _ _ _ h => h) (Or.inl ⟨by rfl, ?_⟩) ?_ ?_
                                                                rotate_left
                                                                · intro w'
                                                                  go_simp
                                                                  with_reducible rfl
                                                                rotate_left
                                                                · simp only [Act.put, List.setIfInBounds_toArray, List.set_cons_zero, List.set_cons_succ, i64_w, i32_w]
                                                                  rfl
                                                                refine pure_ (i := 22) (N := some 110) (v := ?_) (a' := ?_) #[true, true, true, true, true, true, true, true, true, true, true, true, true, true, true, true, true, true, true, true, true, true, true, false, false, false, false, false, false, false, false, false, false, false, false, false, false, false, false] rfl rfl (any_of HT_.out (by kernel_rfl)) (fun _ _ _ h => h) (Or.inl ⟨by rfl, ?_⟩) ?_ ?_
                                                                rotate_left
                                                                · intro w'
                                                                  go_simp
                                                                  with_reducible rfl
                                                                rotate_left
                                                                · simp only [Act.put, List.setIfInBounds_toArray, List.set_cons_zero, List.set_cons_succ, i64_w, i32_w]
                                                                  rfl
                                                                refine pure_ (i := 23) (N := some 111) (v := ?_) (a' := ?_) #[true, true, true, true, true, true, true, true, true, true, true, true, true, true, true, true, true, true, true, true, true, true, true, true, false, false, false, false, false, false, false, false, false, false, false, false, false, false, false] rfl rfl (any_of HT_.out (by kernel_rfl)) (fun _ _ _ h => h) (Or.inl ⟨by rfl, ?_⟩) ?_ ?_
                                                                rotate_left
                                                                · intro w'
                                                                  go_simp
                                                                  with_reducible rfl
                                                                rotate_left
                                                                · simp only [Act.put, List.setIfInBounds_toArray, List.set_cons_zero, List.set_cons_succ, i64_w, i32_w]
                                                                  rfl
                                                                refine pure_ (i := 24) (N := some 112) (v := ?_) (a' := ?_) #[true, true, true, true, true, true, true, true, true, true, true, true, true, true, true, true, true, true, true, true, true, true, true, true, true, false, false, false, false, false, false, false, false, false, false, false, false, false, false] rfl rfl (any_of HT_.out (by kernel_rfl)) (fun _ _ _ h => h) (Or.inl ⟨by rfl, ?_⟩) ?_ ?_
                                                                rotate_left
                                                                · intro w'
                                                                  go_simp
                                                                  with_reducible rfl
                                                                rotate_left
                                                                · simp only [Act.put, List.setIfInBounds_toArray, List.set_cons_zero, List.set_cons_succ, i64_w, i32_w]
                                                                  rfl
                                                                refine pure_ (i := 25) (N := some 113) (v := ?_) (a' := ?_) #[true, true, true, true, true, true, true, true, true, true, true, true, true, true, true, true, true, true, true, true, true, true, true, true, true, true, false, false, false, false, false, false, false, false, false, false, false, false, false] rfl rfl (any_of HT_.out (by kernel_rfl)) (fun _ _ _ h => h) (Or.inl ⟨by rfl, ?_⟩) ?_ ?_
                                                                rotate_left
                                                                · intro w'
                                                                  go_simp
                                                                  with_reducible rfl
                                                                rotate_left
                                                                · simp only [Act.put, List.setIfInBounds_toArray, List.set_cons_zero, List.set_cons_succ, i64_w, i32_w]
                                                                  rfl
                                                                refine pure_ (i := 26) (N := some 114) (v := ?_) (a' := ?_) #[true, true, true, true, true, true, true, true, true, true, true, true, true, true, true, true, true, true, true, true, true, true, true, true, true, true, true, false, false, false, false, false, false, false, false, false, false, false, false] rfl rfl (any_of HT_.out (by kernel_rfl)) (fun _ _ _ h => h) (Or.inl ⟨by rfl, ?_⟩) ?_ ?_
                                                                rotate_left
                                                                · intro w'
                                                                  go_simp
                                                                  with_reducible rfl
                                                                rotate_left
                                                                · simp only [Act.put, List.setIfInBounds_toArray, List.set_cons_zero, List.set_cons_succ, i64_w, i32_w]
                                                                  rfl
                                                                refine pure_ (i := 27) (N := some 115) (v := ?_) (a' := ?_) #[true, true, true, true, true, true, true, true, true, true, true, true, true, true, true, true, true, true, true, true, true, true, true, true, true, true, true, true, false, false, false, false, false, false, false, false, false, false, false] rfl rfl (any_of HT_.out (by kernel_rfl)) (fun _ _ _ h => h) (Or.inl ⟨by rfl, ?_⟩) ?_ ?_
                                                                rotate_left
                                                                · intro w'
                                                                  go_simp
                                                                  with_reducible rfl
                                                                rotate_left
                                                                · simp only [Act.put, List.setIfInBounds_toArray, List.set_cons_zero, List.set_cons_succ, i64_w, i32_w]
                                                                  rfl
                                                                refine pure_ (i := 28) (N := some 116) (v := ?_) (a' := ?_) #[true, true, true, true, true, true, true, true, true, true, true, true, true, true, true, true, true, true, true, true, true, true, true, true, true, true, true, true, true, false, false, false, false, false, false, false, false, false, false] rfl rfl (any_of HT_.out (by kernel_rfl)) (fun _ _ _ h => h) (Or.inl ⟨by rfl, ?_⟩) ?_ ?_
                                                                rotate_left
                                                                · intro w'
                                                                  go_simp
                                                                  with_reducible rfl
                                                                rotate_left
                                                                · simp only [Act.put, List.setIfInBounds_toArray, List.set_cons_zero, List.set_cons_succ, i64_w, i32_w]
                                                                  rfl
                                                                refine pure_ (i := 29) (N := some 117) (v := ?_) (a' := ?_) #[true, true, true, true, true, true, true, true, true, true, true, true, true, true, true, true, true, true, true, true, true, true, true, true, true, true, true, true, true, true, false, false, false, false, false, false, false, false, false] rfl rfl (any_of HT_.out (by kernel_rfl)) (fun _ _ _ h => h) (Or.inl ⟨by rfl, ?_⟩) ?_ ?_
                                                                rotate_left
                                                                · intro w'
                                                                  go_simp
                                                                  with_reducible rfl
                                                                rotate_left
                                                                · simp only [Act.put, List.setIfInBounds_toArray, List.set_cons_zero, List.set_cons_succ, i64_w, i32_w]
                                                                  rfl
                                                                refine pure_ (i := 30) (N := some 118) (v := ?_) (a' := ?_) #[true, true, true, true, true, true, true, true, true, true, true, true, true, true, true, true, true, true, true, true, true, true, true, true, true, true, true, true, true, true, true, false, false, false, false, false, false, false, false] rfl rfl (any_of HT_.out (by kernel_rfl)) (fun _ _ _ h => h) (Or.inl ⟨by rfl, ?_⟩) ?_ ?_
                                                                rotate_left
                                                                · intro w'
                                                                  go_simp
                                                                  with_reducible rfl
                                                                rotate_left
                                                                · simp only [Act.put, List.setIfInBounds_toArray, List.set_cons_zero, List.set_cons_succ, i64_w, i32_w]
                                                                  rfl
                                                                refine pure_ (i := 31) (N := some 119) (v := ?_) (a' := ?_) #[true, true, true, true, true, true, true, true, true, true, true, true, true, true, true, true, true, true, true, true, true, true, true, true, true, true, true, true, true, true, true, true, false, false, false, false, false, false, false] rfl rfl (any_of HT_.out (by kernel_rfl)) (fun _ _ _ h => h) (Or.inl ⟨by rfl, ?_⟩) ?_ ?_
                                                                rotate_left
                                                                · intro w'
                                                                  go_simp
                                                                  with_reducible rfl
                                                                rotate_left
                                                                · simp only [Act.put, List.setIfInBounds_toArray, List.set_cons_zero, List.set_cons_succ, i64_w, i32_w]
                                                                  rfl
                                                                refine pure_ (i := 32) (N := some 120) (v := ?_) (a' := ?_) #[true, true, true, true, true, true, true, true, true, true, true, true, true, true, true, true, true, true, true, true, true, true, true, true, true, true, true, true, true, true, true, true, true, false, false, false, false, false, false] rfl rfl (any_of HT_.out (by kernel_rfl)) (fun _ _ _ h => h) (Or.inl ⟨by rfl, ?_⟩) ?_ ?_
                                                                rotate_left
                                                                · intro w'
                                                                  go_simp
                                                                  with_reducible rfl
                                                                rotate_left
                                                                · simp only [Act.put, List.setIfInBounds_toArray, List.set_cons_zero, List.set_cons_succ, i64_w, i32_w]
                                                                  rfl
                                                                refine pure_ (i := 33) (N := some 121) (v := ?_) (a' := ?_) #[true, true, true, true, true, true, true, true, true, true, true, true, true, true, true, true, true, true, true, true, true, true, true, true, true, true, true, true, true, true, true, true, true, true, false, false, false, false, false] rfl rfl (any_of HT_.out (by kernel_rfl)) (fun _ _ _ h => h) (Or.inl ⟨by rfl, ?_⟩) ?_ ?_
                                                                rotate_left
                                                                · intro w'
                                                                  go_simp
                                                                  with_reducible rfl
                                                                rotate_left
                                                                · simp only [Act.put, List.setIfInBounds_toArray, List.set_cons_zero, List.set_cons_succ, i64_w, i32_w]
                                                                  rfl
                                                                refine pure_ (i := 34) (N := some 122) (v := ?_) (a' := ?_) #[true, true, true, true, true, true, true, true, true, true, true, true, true, true, true, true, true, true, true, true, true, true, true, true, true, true, true, true, true, true, true, true, true, true, true, false, false, false, false] rfl rfl (any_of HT_.out (by kernel_rfl)) (fun _ _ _ h => h) (Or.inl ⟨by rfl, ?_⟩) ?_ ?_
                                                                rotate_left
                                                                · intro w'
                                                                  go_simp
                                                                  with_reducible rfl
                                                                rotate_left
                                                                · simp only [Act.put, List.setIfInBounds_toArray, List.set_cons_zero, List.set_cons_succ, i64_w, i32_w]
                                                                  rfl
                                                                refine pure_ (i := 35) (N := some 123) (v := ?_) (a' := ?_) #[true, true, true, true, true, true, true, true, true, true, true, true, true, true, true, true, true, true, true, true, true, true, true, true, true, true, true, true, true, true, true, true, true, true, true, true, false, false, false] rfl rfl (any_of HT_.out (by kernel_rfl)) (fun _ _ _ h => h) (Or.inl ⟨by rfl, ?_⟩) ?_ ?_
                                                                rotate_left
                                                                · intro w'
                                                                  go_simp
                                                                  with_reducible rfl
                                                                rotate_left
                                                                · simp only [Act.put, List.setIfInBounds_toArray, List.set_cons_zero, List.set_cons_succ, i64_w, i32_w]
                                                                  rfl
                                                                refine pure_ (i := 36) (N := some 124) (v := ?_) (a' := ?_) #[true, true, true, true, true, true, true, true, true, true, true, true, true, true, true, true, true, true, true, true, true, true, true, true, true, true, true, true, true, true, true, true, true, true, true, true, true, false, false] rfl rfl (any_of HT_.out (by kernel_rfl)) (fun _ _ _ h => h) (Or.inl ⟨by rfl, ?_⟩) ?_ ?_
                                                                rotate_left
                                                                · intro w'
                                                                  go_simp
                                                                  with_reducible rfl
                                                                rotate_left
                                                                · simp only [Act.put, List.setIfInBounds_toArray, List.set_cons_zero, List.set_cons_succ, i64_w, i32_w]
                                                                  rfl
                                                                refine one_ (i := 37) (N := some 125) #[true, true, true, true, true, true, true, true, true, true, true, true, true, true, true, true, true, true, true, true, true, true, true, true, true, true, true, true, true, true, true, true, true, true, true, true, true, true, false] rfl rfl (one_of HT_.out (by kernel_rfl)) (by decide) (fun K hK => ?_)
                                                                refine Kd.R_lit_step Kd.string _ 9 ?hg (N := 125) ?hd (xs := ([(⟨#[]⟩ : ByteArray), t169.extract 0 8, t169 ++ (⟨#[120]⟩ : ByteArray), (⟨#[0]⟩ : ByteArray) ++ (t169.extract 1 t169.size), (⟨#[2]⟩ : ByteArray) ++ (t169.extract 1 t169.size), (⟨#[1, 0]⟩ : ByteArray) ++ (t169.extract 2 t169.size), (⟨#[1, 5]⟩ : ByteArray) ++ (t169.extract 2 t169.size), (⟨#[1, 2, 61]⟩ : ByteArray) ++ (t169.extract 3 t169.size), ((t169.extract 0 3) ++ (⟨#[128]⟩ : ByteArray)) ++ (t169.extract 4 t169.size), ((t169.extract 0 3) ++ (⟨#[0, 0, 0, 0]⟩ : ByteArray)) ++ (t169.extract 7 t169.size), ((⟨#[2]⟩ : ByteArray) ++ (t169.extract 1 t169.size)) ++ (t169.extract 1 t169.size)] : List ByteArray)) (inner := [.string (⟨#[]⟩ : ByteArray), .string (t169.extract 0 8), .string (t169 ++ (⟨#[120]⟩ : ByteArray)), .string ((⟨#[0]⟩ : ByteArray) ++ (t169.extract 1 t169.size)), .string ((⟨#[2]⟩ : ByteArray) ++ (t169.extract 1 t169.size)), .string ((⟨#[1, 0]⟩ : ByteArray) ++ (t169.extract 2 t169.size)), .string ((⟨#[1, 5]⟩ : ByteArray) ++ (t169.extract 2 t169.size)), .string ((⟨#[1, 2, 61]⟩ : ByteArray) ++ (t169.extract 3 t169.size)), .string (((t169.extract 0 3) ++ (⟨#[128]⟩ : ByteArray)) ++ (t169.extract 4 t169.size)), .string (((t169.extract 0 3) ++ (⟨#[0, 0, 0, 0]⟩ : ByteArray)) ++ (t169.extract 7 t169.size)), .string (((⟨#[2]⟩ : ByteArray) ++ (t169.extract 1 t169.size)) ++ (t169.extract 1 t169.size))]) (ok := fun _ => True) (okp := fun _ => True) ?hr ?hp (fun _ hk => hk) trivial (Below.refl _ _) (Nat.le_refl _) (by simp) ?_; (case hd => rfl); (case hg => rfl); (case hr => first | (go_simp; done) | (go_simp; rfl)); (case hp => exact (Reps.one (show Kd.M Kd.string _ _ _ (⟨#[]⟩ : ByteArray) [.string (⟨#[]⟩ : ByteArray)] from rfl) (Reps.one (show Kd.M Kd.string _ _ _ (t169.extract 0 8) [.string (t169.extract 0 8)] from rfl) (Reps.one (show Kd.M Kd.string _ _ _ (t169 ++ (⟨#[120]⟩ : ByteArray)) [.string (t169 ++ (⟨#[120]⟩ : ByteArray))] from rfl) (Reps.one (show Kd.M Kd.string _ _ _ ((⟨#[0]⟩ : ByteArray) ++ (t169.extract 1 t169.size)) [.string ((⟨#[0]⟩ : ByteArray) ++ (t169.extract 1 t169.size))] from rfl) (Reps.one (show Kd.M Kd.string _ _ _ ((⟨#[2]⟩ : ByteArray) ++ (t169.extract 1 t169.size)) [.string ((⟨#[2]⟩ : ByteArray) ++ (t169.extract 1 t169.size))] from rfl) (Reps.one (show Kd.M Kd.string _ _ _ ((⟨#[1, 0]⟩ : ByteArray) ++ (t169.extract 2 t169.size)) [.string ((⟨#[1, 0]⟩ : ByteArray) ++ (t169.extract 2 t169.size))] from rfl) (Reps.one (show Kd.M Kd.string _ _ _ ((⟨#[1, 5]⟩ : ByteArray) ++ (t169.extract 2 t169.size)) [.string ((⟨#[1, 5]⟩ : ByteArray) ++ (t169.extract 2 t169.size))] from rfl) (Reps.one (show Kd.M Kd.string _ _ _ ((⟨#[1, 2, 61]⟩ : ByteArray) ++ (t169.extract 3 t169.size)) [.string ((⟨#[1, 2, 61]⟩ : ByteArray) ++ (t169.extract 3 t169.size))] from rfl) (Reps.one (show Kd.M Kd.string _ _ _ (((t169.extract 0 3) ++ (⟨#[128]⟩ : ByteArray)) ++ (t169.extract 4 t169.size)) [.string (((t169.extract 0 3) ++ (⟨#[128]⟩ : ByteArray)) ++ (t169.extract 4 t169.size))] from rfl) (Reps.one (show Kd.M Kd.string _ _ _ (((t169.extract 0 3) ++ (⟨#[0, 0, 0, 0]⟩ : ByteArray)) ++ (t169.extract 7 t169.size)) [.string (((t169.extract 0 3) ++ (⟨#[0, 0, 0, 0]⟩ : ByteArray)) ++ (t169.extract 7 t169.size))] from rfl) (Reps.one (show Kd.M Kd.string _ _ _ (((⟨#[2]⟩ : ByteArray) ++ (t169.extract 1 t169.size)) ++ (t169.extract 1 t169.size)) [.string (((⟨#[2]⟩ : ByteArray) ++ (t169.extract 1 t169.size)) ++ (t169.extract 1 t169.size))] from rfl) (Reps.none _ _)))))))))))))
                                                                intro v173 w96 ho97 hb hg_ hnew_
                                                                clear hg_ hnew_
                                                                (first | rw [← Ny172.out] at ho97 | (simp only [Int.reduceToNat] at ho97; rw [← Ny172.out] at ho97))
                                                                have n0_ := Aside0.mk (Kd.R_lower ho97 (below_size (by repeat (first | (with_reducible first | exact HB.out | apply below_alloc | apply pw_below_drewN | apply below_drew1 | refine below_set ?_ GE159.out | refine below_set ?_ GE160.out) | exact HB.out))))
                                                                have n1_ := Aside0.mk (blk_below (g := gb159) (o := .cells #[.int .i64 2, .int .i64 5, .int .i64 3, .int .i64 7] 40 (0, 0)) (by (with_reducible repeat (first | refine blk_drewN ?_ _ | refine blk_drew ?_ | refine blk_alloc ?_ _)); exact BK159.out) hb)
                                                                have n2_ := Aside0.mk (blk_below (g := gb160) (o := .cells #[.int .i64 x161000_4, .int .i64 x161001_4, .int .i64 x161002_4, .int .i64 x161003_4] 40 (0, 0)) (by (with_reducible repeat (first | refine blk_drewN ?_ _ | refine blk_drew ?_ | refine blk_alloc ?_ _)); exact BK160.out) hb)
                                                                have n3_ := Aside0.mk (below_step (by repeat (first | (with_reducible first | exact HB.out | apply below_alloc | apply pw_below_drewN | apply below_drew1 | refine below_set ?_ GE159.out | refine below_set ?_ GE160.out) | exact HB.out)) hb)
                                                                clear BK159
                                                                clear BK160
                                                                clear HB
                                                                have HO174 := n0_
                                                                have BK159 := n1_
                                                                have BK160 := n2_
                                                                have HB := n3_
                                                                clear n0_ n1_ n2_ n3_
                                                                clear hb ho97
                                                                refine hK.out _ _ trivial (fun hHeld => ?_)
                                                                clear hK K
                                                                refine norm_ (a' := ?_) ?_ ?_
                                                                rotate_left
                                                                · show Act.put _ (some 125) _ = _
                                                                  simp only [Act.put, List.setIfInBounds_toArray, List.set_cons_zero, List.set_cons_succ, i64_w, i32_w]
                                                                  rfl
                                                                refine pure_ (i := 38) (N := some 12) (v := ?_) (a' := ?_) #[true, true, true, true, true, true, true, true, true, true, true, true, true, true, true, true, true, true, true, true, true, true, true, true, true, true, true, true, true, true, true, true, true, true, true, true, true, true, true] rfl rfl (any_of HT_.out (by kernel_rfl)) (fun _ _ _ h => h) (Or.inl ⟨by rfl, ?_⟩) ?_ ?_
                                                                rotate_left
                                                                · intro w'
                                                                  go_simp
                                                                  with_reducible rfl
                                                                rotate_left
                                                                · simp only [Act.put, List.setIfInBounds_toArray, List.set_cons_zero, List.set_cons_succ, i64_w, i32_w]
                                                                  rfl
                                                                refine done_ (done_of HT_.out (by kernel_rfl)) ?_
                                                                obtain ⟨Ao98, co98, eo98⟩ := Kd.R_slice HO174.out
                                                                subst eo98
                                                                have p175 : 0 ≤ ((ji79) : Int) := of_decide_eq_true (by first | (with_reducible assumption) | assumption)
                                                                have q175 : (ji79) < (y172.length : Int) := of_decide_eq_true (by first | (with_reducible assumption) | assumption)
                                                                obtain ⟨ad175, e175, hx175_0⟩ := Kd.at_string (Kd.R_reads' HO174.out).2.2 (ji79) p175 q175
                                                                cases e175
                                                                replace p175 := eq_true p175
                                                                replace q175 := eq_true q175
                                                                try go_wp2_with (first | ((with_reducible refine gate_callee (f := 15) rfl ?_); refine goesL_ (some 134) rfl rfl Try.func15 (by kernel_rfl) rfl #[.string (rdOf ByteArray.empty y172 (ji79))] rfl (by (try simp only [List.map_toArray, List.map_cons, List.map_nil]); first | done | (simp only [hji79]; rfl) | rfl | (simp only [List.length_drop, List.length_take]; rfl)) ?_; (with_reducible refine (ack_Get.calls kj39 (rdOf ByteArray.empty y172 (ji79)) t176 t177 _ A82.out).mono ?_); rintro e w99 ⟨v178, rfl, ho0, hb⟩; refine ⟨_, rfl, ?_⟩; have n0_ := Aside0.mk (Kd.R_below (by (with_reducible repeat (first | apply Kd.R_alloc | apply Kd.R_drewN | apply Kd.R_drew)); exact HO174.out) hb); have n1_ := Aside0.mk (Kd.R_lower (Kd.R_newB (Kd.R_newB ho0 (g := gb159) (o := .cells #[.int .i64 2, .int .i64 5, .int .i64 3, .int .i64 7] 40 (0, 0)) (by (with_reducible repeat (first | refine blk_drewN ?_ _ | refine blk_drew ?_ | refine blk_alloc ?_ _)); exact BK159.out)) (g := gb160) (o := .cells #[.int .i64 x161000_4, .int .i64 x161001_4, .int .i64 x161002_4, .int .i64 x161003_4] 40 (0, 0)) (by (with_reducible repeat (first | refine blk_drewN ?_ _ | refine blk_drew ?_ | refine blk_alloc ?_ _)); exact BK160.out)) (below_size (by repeat (first | (with_reducible first | exact HB.out | apply below_alloc | apply pw_below_drewN | apply below_drew1 | refine below_set ?_ GE159.out | refine below_set ?_ GE160.out) | exact HB.out)))); have n2_ := Aside0.mk (blk_below (g := gb159) (o := .cells #[.int .i64 2, .int .i64 5, .int .i64 3, .int .i64 7] 40 (0, 0)) (by (with_reducible repeat (first | refine blk_drewN ?_ _ | refine blk_drew ?_ | refine blk_alloc ?_ _)); exact BK159.out) hb); have n3_ := Aside0.mk (blk_below (g := gb160) (o := .cells #[.int .i64 x161000_4, .int .i64 x161001_4, .int .i64 x161002_4, .int .i64 x161003_4] 40 (0, 0)) (by (with_reducible repeat (first | refine blk_drewN ?_ _ | refine blk_drew ?_ | refine blk_alloc ?_ _)); exact BK160.out) hb); have n4_ := Aside0.mk (below_step (by repeat (first | (with_reducible first | exact HB.out | apply below_alloc | apply pw_below_drewN | apply below_drew1 | refine below_set ?_ GE159.out | refine below_set ?_ GE160.out) | exact HB.out)) hb); clear HO174; clear BK159; clear BK160; clear HB; have HO174 := n0_; have HO179 := n1_; have BK159 := n2_; have BK160 := n3_; have HB := n4_; clear n0_ n1_ n2_ n3_ n4_; (try clear hb); (try clear hb2); (try clear hk); (try clear hi); (try clear ho0)) | ((with_reducible refine gate_callee (f := 15) rfl ?_); refine goesL_ (some 138) rfl rfl Try.func15 (by kernel_rfl) rfl #[.string (⟨#[0]⟩ : ByteArray)] rfl (by (try simp only [List.map_toArray, List.map_cons, List.map_nil]); first | done | rfl | (simp only [List.length_drop, List.length_take]; rfl)) ?_; (with_reducible refine (ack_Get.calls kj39 (⟨#[0]⟩ : ByteArray) t180 t181 _ A83.out).mono ?_); rintro e w100 ⟨v182, rfl, ho0, hb⟩; refine ⟨_, rfl, ?_⟩; have n0_ := Aside0.mk (Kd.R_below (by (with_reducible repeat (first | apply Kd.R_alloc | apply Kd.R_drewN | apply Kd.R_drew)); exact HO174.out) hb); have n1_ := Aside0.mk (Kd.R_elder' (by (with_reducible repeat (first | apply Kd.R_alloc | apply Kd.R_drewN | apply Kd.R_drew)); exact HO179.out) (Kd.R_base ho0) hb); have n2_ := Aside0.mk (Kd.R_lower (Kd.R_newB (Kd.R_newB (Kd.R_new' ho0 (Kd.R_lt (by (with_reducible repeat (first | apply Kd.R_alloc | apply Kd.R_drewN | apply Kd.R_drew)); exact HO179.out))) (g := gb159) (o := .cells #[.int .i64 2, .int .i64 5, .int .i64 3, .int .i64 7] 40 (0, 0)) (by (with_reducible repeat (first | refine blk_drewN ?_ _ | refine blk_drew ?_ | refine blk_alloc ?_ _)); exact BK159.out)) (g := gb160) (o := .cells #[.int .i64 x161000_4, .int .i64 x161001_4, .int .i64 x161002_4, .int .i64 x161003_4] 40 (0, 0)) (by (with_reducible repeat (first | refine blk_drewN ?_ _ | refine blk_drew ?_ | refine blk_alloc ?_ _)); exact BK160.out)) (below_size (by repeat (first | (with_reducible first | exact HB.out | apply below_alloc | apply pw_below_drewN | apply below_drew1 | refine below_set ?_ GE159.out | refine below_set ?_ GE160.out) | exact HB.out)))); have n3_ := Aside0.mk (blk_below (g := gb159) (o := .cells #[.int .i64 2, .int .i64 5, .int .i64 3, .int .i64 7] 40 (0, 0)) (by (with_reducible repeat (first | refine blk_drewN ?_ _ | refine blk_drew ?_ | refine blk_alloc ?_ _)); exact BK159.out) hb); have n4_ := Aside0.mk (blk_below (g := gb160) (o := .cells #[.int .i64 x161000_4, .int .i64 x161001_4, .int .i64 x161002_4, .int .i64 x161003_4] 40 (0, 0)) (by (with_reducible repeat (first | refine blk_drewN ?_ _ | refine blk_drew ?_ | refine blk_alloc ?_ _)); exact BK160.out) hb); have n5_ := Aside0.mk (below_step (by repeat (first | (with_reducible first | exact HB.out | apply below_alloc | apply pw_below_drewN | apply below_drew1 | refine below_set ?_ GE159.out | refine below_set ?_ GE160.out) | exact HB.out)) hb); clear HO174; clear HO179; clear BK159; clear BK160; clear HB; have HO174 := n0_; have HO179 := n1_; have HO183 := n2_; have BK159 := n3_; have BK160 := n4_; have HB := n5_; clear n0_ n1_ n2_ n3_ n4_ n5_; (try clear hb); (try clear hb2); (try clear hk); (try clear hi); (try clear ho0); have hnb101 := NB160_159.out; have hnc101 := NB159_160.out; have hcz102_0 : w100.cell? ⟨gb160, 0, none⟩ = some (.int .i64 x161000_4) := (blk_cell BK160.out 0).trans rfl; have hcz102_1 : w100.cell? ⟨gb160, 1, none⟩ = some (.int .i64 x161001_4) := (blk_cell BK160.out 1).trans rfl; have hcz102_2 : w100.cell? ⟨gb160, 2, none⟩ = some (.int .i64 x161002_4) := (blk_cell BK160.out 2).trans rfl; have hcz102_3 : w100.cell? ⟨gb160, 3, none⟩ = some (.int .i64 x161003_4) := (blk_cell BK160.out 3).trans rfl; have hfz102_0 := blk_frozen BK160.out 0; have hfz102_1 := blk_frozen BK160.out 1; have hfz102_2 := blk_frozen BK160.out 2; have hfz102_3 := blk_frozen BK160.out 3) | ((with_reducible refine gate_dst (N := 142) rfl ?_); (try (refine gate_guard (by rfl) ?_; dsimp only)); refine Kd.R_lit k40 _ 40 ?hg (N := 142) ?hd (xs := ([(⟨x161000_4, x161001_4, x161002_4, x161003_4⟩ : S40)] : List (S40))) (inner := [.int .i64 x161000_4, .int .i64 x161001_4, .int .i64 x161002_4, .int .i64 x161003_4]) (ok := fun _ => True) (okp := fun _ => True) ?hr ?hp (fun _ hk => hk) trivial (Below.refl _ _) (Nat.le_refl _) (by simp) ?_; (case hd => rfl); (case hg => rfl); (case hr => first | (go_simp; done) | (go_simp; rfl)); (case hp => exact (Reps.c4 (show Kd.M k40 _ _ _ (⟨x161000_4, x161001_4, x161002_4, x161003_4⟩ : S40) [.int .i64 x161000_4, .int .i64 x161001_4, .int .i64 x161002_4, .int .i64 x161003_4] from (k40_mkM _ _ _ (⟨x161000_4, x161001_4, x161002_4, x161003_4⟩ : S40) )) (Reps.none _ _))); intro v185 w103 ho104 hb hg_ hnew_; clear hg_ hnew_; (first | rw [← Ny184.out] at ho104 | (simp only [Int.reduceToNat] at ho104; rw [← Ny184.out] at ho104)); have n0_ := Aside0.mk (Kd.R_below (by (with_reducible repeat (first | apply Kd.R_alloc | apply Kd.R_drewN | apply Kd.R_drew)); exact HO174.out) hb); have n1_ := Aside0.mk (Kd.R_elder' (by (with_reducible repeat (first | apply Kd.R_alloc | apply Kd.R_drewN | apply Kd.R_drew)); exact HO179.out) (Kd.R_base ho104) hb); have n2_ := Aside0.mk (Kd.R_elder' (by (with_reducible repeat (first | apply Kd.R_alloc | apply Kd.R_drewN | apply Kd.R_drew)); exact HO183.out) (Kd.R_base ho104) hb); have n3_ := Aside0.mk (Kd.R_lower (Kd.R_newB (Kd.R_newB (Kd.R_new' (Kd.R_new' ho104 (Kd.R_lt (by (with_reducible repeat (first | apply Kd.R_alloc | apply Kd.R_drewN | apply Kd.R_drew)); exact HO179.out))) (Kd.R_lt (by (with_reducible repeat (first | apply Kd.R_alloc | apply Kd.R_drewN | apply Kd.R_drew)); exact HO183.out))) (g := gb159) (o := .cells #[.int .i64 2, .int .i64 5, .int .i64 3, .int .i64 7] 40 (0, 0)) (by (with_reducible repeat (first | refine blk_drewN ?_ _ | refine blk_drew ?_ | refine blk_alloc ?_ _)); exact BK159.out)) (g := gb160) (o := .cells #[.int .i64 x161000_4, .int .i64 x161001_4, .int .i64 x161002_4, .int .i64 x161003_4] 40 (0, 0)) (by (with_reducible repeat (first | refine blk_drewN ?_ _ | refine blk_drew ?_ | refine blk_alloc ?_ _)); exact BK160.out)) (below_size (by repeat (first | (with_reducible first | exact HB.out | apply below_alloc | apply pw_below_drewN | apply below_drew1 | refine below_set ?_ GE159.out | refine below_set ?_ GE160.out) | exact HB.out)))); have n4_ := Aside0.mk (blk_below (g := gb159) (o := .cells #[.int .i64 2, .int .i64 5, .int .i64 3, .int .i64 7] 40 (0, 0)) (by (with_reducible repeat (first | refine blk_drewN ?_ _ | refine blk_drew ?_ | refine blk_alloc ?_ _)); exact BK159.out) hb); have n5_ := Aside0.mk (blk_below (g := gb160) (o := .cells #[.int .i64 x161000_4, .int .i64 x161001_4, .int .i64 x161002_4, .int .i64 x161003_4] 40 (0, 0)) (by (with_reducible repeat (first | refine blk_drewN ?_ _ | refine blk_drew ?_ | refine blk_alloc ?_ _)); exact BK160.out) hb); have n6_ := Aside0.mk (below_step (by repeat (first | (with_reducible first | exact HB.out | apply below_alloc | apply pw_below_drewN | apply below_drew1 | refine below_set ?_ GE159.out | refine below_set ?_ GE160.out) | exact HB.out)) hb); clear HO174; clear HO179; clear HO183; clear BK159; clear BK160; clear HB; have HO174 := n0_; have HO179 := n1_; have HO183 := n2_; have HO186 := n3_; have BK159 := n4_; have BK160 := n5_; have HB := n6_; clear n0_ n1_ n2_ n3_ n4_ n5_ n6_; clear hb ho104; obtain ⟨Ao105, co105, eo105⟩ := Kd.R_slice HO186.out; subst eo105) | ((with_reducible refine gate_callee (f := 19) rfl ?_); refine goesL_ (some 143) rfl rfl Try.func19 (by kernel_rfl) rfl #[.slice Ao105 y184.length co105] rfl (by (try simp only [List.map_toArray, List.map_cons, List.map_nil]); first | done | rfl | (simp only [List.length_drop, List.length_take]; rfl)) ?_; (with_reducible refine (ack_May.calls kj39 _ _ y184 false _ ?side1 ?side2 A84.out).mono ?_); (case side1 => repeat (first | exact (Kd.R_reads' HO186.out).2.2 | (with_reducible refine Kd.C_alloc ?_ _) | (with_reducible refine Kd.C_drewN ?_ _) | (with_reducible refine Kd.C_drew ?_))); (case side2 => exact (Kd.R_reads' HO186.out).2.1); rintro e w106 ⟨rfl, hb⟩; refine ⟨_, rfl, ?_⟩; have n0_ := Aside0.mk (Kd.R_below (by (with_reducible repeat (first | apply Kd.R_alloc | apply Kd.R_drewN | apply Kd.R_drew)); exact HO174.out) hb); have n1_ := Aside0.mk (Kd.R_below (by (with_reducible repeat (first | apply Kd.R_alloc | apply Kd.R_drewN | apply Kd.R_drew)); exact HO179.out) hb); have n2_ := Aside0.mk (Kd.R_below (by (with_reducible repeat (first | apply Kd.R_alloc | apply Kd.R_drewN | apply Kd.R_drew)); exact HO183.out) hb); have n3_ := Aside0.mk (Kd.R_below (by (with_reducible repeat (first | apply Kd.R_alloc | apply Kd.R_drewN | apply Kd.R_drew)); exact HO186.out) hb); have n4_ := Aside0.mk (blk_below (g := gb159) (o := .cells #[.int .i64 2, .int .i64 5, .int .i64 3, .int .i64 7] 40 (0, 0)) (by (with_reducible repeat (first | refine blk_drewN ?_ _ | refine blk_drew ?_ | refine blk_alloc ?_ _)); exact BK159.out) hb); have n5_ := Aside0.mk (blk_below (g := gb160) (o := .cells #[.int .i64 x161000_4, .int .i64 x161001_4, .int .i64 x161002_4, .int .i64 x161003_4] 40 (0, 0)) (by (with_reducible repeat (first | refine blk_drewN ?_ _ | refine blk_drew ?_ | refine blk_alloc ?_ _)); exact BK160.out) hb); have n6_ := Aside0.mk (below_step (by repeat (first | (with_reducible first | exact HB.out | apply below_alloc | apply pw_below_drewN | apply below_drew1 | refine below_set ?_ GE159.out | refine below_set ?_ GE160.out) | exact HB.out)) hb); clear HO174; clear HO179; clear HO183; clear HO186; clear BK159; clear BK160; clear HB; have HO174 := n0_; have HO179 := n1_; have HO183 := n2_; have HO186 := n3_; have BK159 := n4_; have BK160 := n5_; have HB := n6_; clear n0_ n1_ n2_ n3_ n4_ n5_ n6_; (try clear hb); (try clear hb2); (try clear hk); (try clear hi); have hcz107_0 : w106.cell? ⟨gb159, 0, none⟩ = some (.int .i64 2) := (blk_cell BK159.out 0).trans rfl; have hcz107_1 : w106.cell? ⟨gb159, 1, none⟩ = some (.int .i64 5) := (blk_cell BK159.out 1).trans rfl; have hcz107_2 : w106.cell? ⟨gb159, 2, none⟩ = some (.int .i64 3) := (blk_cell BK159.out 2).trans rfl; have hcz107_3 : w106.cell? ⟨gb159, 3, none⟩ = some (.int .i64 7) := (blk_cell BK159.out 3).trans rfl; have hfz107_0 := blk_frozen BK159.out 0; have hfz107_1 := blk_frozen BK159.out 1; have hfz107_2 := blk_frozen BK159.out 2; have hfz107_3 := blk_frozen BK159.out 3) | ((with_reducible refine gate_dst (N := 148) rfl ?_); (try (refine gate_guard (by rfl) ?_; dsimp only)); refine Kd.R_lit k40 _ 40 ?hg (N := 148) ?hd (xs := ([(⟨2, 5, 3, 7⟩ : S40), (⟨2, 5, 3, 7⟩ : S40)] : List (S40))) (inner := [.int .i64 2, .int .i64 5, .int .i64 3, .int .i64 7, .int .i64 2, .int .i64 5, .int .i64 3, .int .i64 7]) (ok := fun _ => True) (okp := fun _ => True) ?hr ?hp (fun _ hk => hk) trivial (Below.refl _ _) (Nat.le_refl _) (by simp) ?_; (case hd => rfl); (case hg => rfl); (case hr => first | (go_simp; done) | (go_simp; rfl)); (case hp => exact (Reps.c4 (show Kd.M k40 _ _ _ (⟨2, 5, 3, 7⟩ : S40) [.int .i64 2, .int .i64 5, .int .i64 3, .int .i64 7] from (k40_mkM _ _ _ (⟨2, 5, 3, 7⟩ : S40) )) (Reps.c4 (show Kd.M k40 _ _ _ (⟨2, 5, 3, 7⟩ : S40) [.int .i64 2, .int .i64 5, .int .i64 3, .int .i64 7] from (k40_mkM _ _ _ (⟨2, 5, 3, 7⟩ : S40) )) (Reps.none _ _)))); intro v189 w108 ho109 hb hg_ hnew_; clear hg_ hnew_; (first | rw [← Ny188.out] at ho109 | (simp only [Int.reduceToNat] at ho109; rw [← Ny188.out] at ho109)); have n0_ := Aside0.mk (Kd.R_below (by (with_reducible repeat (first | apply Kd.R_alloc | apply Kd.R_drewN | apply Kd.R_drew)); exact HO174.out) hb); have n1_ := Aside0.mk (Kd.R_elder' (by (with_reducible repeat (first | apply Kd.R_alloc | apply Kd.R_drewN | apply Kd.R_drew)); exact HO179.out) (Kd.R_base ho109) hb); have n2_ := Aside0.mk (Kd.R_elder' (by (with_reducible repeat (first | apply Kd.R_alloc | apply Kd.R_drewN | apply Kd.R_drew)); exact HO183.out) (Kd.R_base ho109) hb); have n3_ := Aside0.mk (Kd.R_elder' (by (with_reducible repeat (first | apply Kd.R_alloc | apply Kd.R_drewN | apply Kd.R_drew)); exact HO186.out) (Kd.R_base ho109) hb); have n4_ := Aside0.mk (Kd.R_lower (Kd.R_newB (Kd.R_newB (Kd.R_new' (Kd.R_new' (Kd.R_new' ho109 (Kd.R_lt (by (with_reducible repeat (first | apply Kd.R_alloc | apply Kd.R_drewN | apply Kd.R_drew)); exact HO179.out))) (Kd.R_lt (by (with_reducible repeat (first | apply Kd.R_alloc | apply Kd.R_drewN | apply Kd.R_drew)); exact HO183.out))) (Kd.R_lt (by (with_reducible repeat (first | apply Kd.R_alloc | apply Kd.R_drewN | apply Kd.R_drew)); exact HO186.out))) (g := gb159) (o := .cells #[.int .i64 2, .int .i64 5, .int .i64 3, .int .i64 7] 40 (0, 0)) (by (with_reducible repeat (first | refine blk_drewN ?_ _ | refine blk_drew ?_ | refine blk_alloc ?_ _)); exact BK159.out)) (g := gb160) (o := .cells #[.int .i64 x161000_4, .int .i64 x161001_4, .int .i64 x161002_4, .int .i64 x161003_4] 40 (0, 0)) (by (with_reducible repeat (first | refine blk_drewN ?_ _ | refine blk_drew ?_ | refine blk_alloc ?_ _)); exact BK160.out)) (below_size (by repeat (first | (with_reducible first | exact HB.out | apply below_alloc | apply pw_below_drewN | apply below_drew1 | refine below_set ?_ GE159.out | refine below_set ?_ GE160.out) | exact HB.out)))); have n5_ := Aside0.mk (blk_below (g := gb159) (o := .cells #[.int .i64 2, .int .i64 5, .int .i64 3, .int .i64 7] 40 (0, 0)) (by (with_reducible repeat (first | refine blk_drewN ?_ _ | refine blk_drew ?_ | refine blk_alloc ?_ _)); exact BK159.out) hb); have n6_ := Aside0.mk (blk_below (g := gb160) (o := .cells #[.int .i64 x161000_4, .int .i64 x161001_4, .int .i64 x161002_4, .int .i64 x161003_4] 40 (0, 0)) (by (with_reducible repeat (first | refine blk_drewN ?_ _ | refine blk_drew ?_ | refine blk_alloc ?_ _)); exact BK160.out) hb); have n7_ := Aside0.mk (below_step (by repeat (first | (with_reducible first | exact HB.out | apply below_alloc | apply pw_below_drewN | apply below_drew1 | refine below_set ?_ GE159.out | refine below_set ?_ GE160.out) | exact HB.out)) hb); clear HO174; clear HO179; clear HO183; clear HO186; clear BK159; clear BK160; clear HB; have HO174 := n0_; have HO179 := n1_; have HO183 := n2_; have HO186 := n3_; have HO190 := n4_; have BK159 := n5_; have BK160 := n6_; have HB := n7_; clear n0_ n1_ n2_ n3_ n4_ n5_ n6_ n7_; clear hb ho109; obtain ⟨Ao110, co110, eo110⟩ := Kd.R_slice HO190.out; subst eo110) | (go_at_call 19; (with_reducible refine (ack_May.calls kj39 _ _ y188 false _ ?side1 ?side2 A86.out).mono ?_); (case side1 => repeat (first | exact (Kd.R_reads' HO190.out).2.2 | (with_reducible refine Kd.C_alloc ?_ _) | (with_reducible refine Kd.C_drewN ?_ _) | (with_reducible refine Kd.C_drew ?_))); (case side2 => exact (Kd.R_reads' HO190.out).2.1); rintro e w111 ⟨rfl, hb⟩; have n0_ := Aside0.mk (Kd.R_below (by (with_reducible repeat (first | apply Kd.R_alloc | apply Kd.R_drewN | apply Kd.R_drew)); exact HO174.out) hb); have n1_ := Aside0.mk (Kd.R_below (by (with_reducible repeat (first | apply Kd.R_alloc | apply Kd.R_drewN | apply Kd.R_drew)); exact HO179.out) hb); have n2_ := Aside0.mk (Kd.R_below (by (with_reducible repeat (first | apply Kd.R_alloc | apply Kd.R_drewN | apply Kd.R_drew)); exact HO183.out) hb); have n3_ := Aside0.mk (Kd.R_below (by (with_reducible repeat (first | apply Kd.R_alloc | apply Kd.R_drewN | apply Kd.R_drew)); exact HO186.out) hb); have n4_ := Aside0.mk (Kd.R_below (by (with_reducible repeat (first | apply Kd.R_alloc | apply Kd.R_drewN | apply Kd.R_drew)); exact HO190.out) hb); have n5_ := Aside0.mk (blk_below (g := gb159) (o := .cells #[.int .i64 2, .int .i64 5, .int .i64 3, .int .i64 7] 40 (0, 0)) (by (with_reducible repeat (first | refine blk_drewN ?_ _ | refine blk_drew ?_ | refine blk_alloc ?_ _)); exact BK159.out) hb); have n6_ := Aside0.mk (blk_below (g := gb160) (o := .cells #[.int .i64 x161000_4, .int .i64 x161001_4, .int .i64 x161002_4, .int .i64 x161003_4] 40 (0, 0)) (by (with_reducible repeat (first | refine blk_drewN ?_ _ | refine blk_drew ?_ | refine blk_alloc ?_ _)); exact BK160.out) hb); have n7_ := Aside0.mk (below_step (by repeat (first | (with_reducible first | exact HB.out | apply below_alloc | apply pw_below_drewN | apply below_drew1 | refine below_set ?_ GE159.out | refine below_set ?_ GE160.out) | exact HB.out)) hb); clear HO174; clear HO179; clear HO183; clear HO186; clear HO190; clear BK159; clear BK160; clear HB; have HO174 := n0_; have HO179 := n1_; have HO183 := n2_; have HO186 := n3_; have HO190 := n4_; have BK159 := n5_; have BK160 := n6_; have HB := n7_; clear n0_ n1_ n2_ n3_ n4_ n5_ n6_ n7_; (try clear hb); (try clear hb2); (try clear hk); (try clear hi)) | (go_at_call 17; (with_reducible refine (watchwordlaw0_Num.calls t165 t192 _ A89.out).mono ?_); rintro e w' ⟨rfl, ⟨nd, rfl⟩⟩) | (go_at_call 17; (with_reducible refine (watchwordlaw0_Num.calls t177 t193 _ A91.out).mono ?_); rintro e w' ⟨rfl, ⟨nd, rfl⟩⟩; obtain ⟨Ao112, co112, eo112⟩ := Kd.R_slice HO183.out; subst eo112) | (go_at_call 17; (with_reducible refine (watchwordlaw0_Num.calls t181 t194 _ A94.out).mono ?_); rintro e w' ⟨rfl, ⟨nd, rfl⟩⟩))
                                                                go_ret
                                                                exact ⟨by first | rfl | (simp [errW_none, errW_some] <;> rfl) | (simp only [← hji79]; first | rfl | (simp [errW_none, errW_some] <;> rfl)) | (simp [*, errW_none, errW_some] <;> rfl), by repeat (first | (with_reducible first | exact HB.out | apply below_alloc | apply pw_below_drewN | apply below_drew1 | refine below_set ?_ GE159.out | refine below_set ?_ GE160.out) | exact HB.out)⟩
                                                              · rw [if_neg c93] at H
                                                                have c93b0 : ((t180.length : Int) == 0) = false := beq_eq_false_iff_ne.mpr c93
                                                                have c93b1 : ((t180.length : Int) != 0) = true := bne_iff_ne.mpr c93
                                                                have c93b2 : ¬ (t180 = []) := fun h_ => c93 (by rw [h_]; rfl)
                                                                exact absurd (Option.some.inj H) (by rw [HT.out]; decide)
                                                            · rw [if_neg c92] at H
                                                              have c92b0 : (t193 == 1100) = false := beq_eq_false_iff_ne.mpr c92
                                                              have c92b1 : (t193 != 1100) = true := bne_iff_ne.mpr c92
                                                              exact absurd (Option.some.inj H) (by rw [HT.out]; decide)
                                                          · rw [if_neg c90] at H
                                                            have c90b0 : (t192 == 1100) = false := beq_eq_false_iff_ne.mpr c90
                                                            have c90b1 : (t192 != 1100) = true := bne_iff_ne.mpr c90
                                                            exact absurd (Option.some.inj H) (by rw [HT.out]; decide)
                                                        · rw [if_neg c88] at H
                                                          have c88b0 : (t164.toList == ([] : List UInt8)) = false := beq_eq_false_iff_ne.mpr c88
                                                          have c88b1 : (t164.toList != ([] : List UInt8)) = true := bne_iff_ne.mpr c88
                                                          exact absurd (Option.some.inj H) (by rw [HT.out]; decide)
                                                  · rw [if_neg c81] at H
                                                    exact absurd H (by simp)
                                                · rw [if_neg c80] at H
                                                  exact absurd H (by simp)
                                              · rw [if_neg c78] at H
                                                exact absurd H (by simp)
                                            · rw [if_neg c75] at H
                                              exact absurd H (by simp)
                                          · rw [if_neg c74] at H
                                            exact absurd H (by simp)
                                        · rw [if_neg c73] at H
                                          exact absurd H (by simp)
                                      · rw [if_neg c70] at H
                                        exact absurd H (by simp)
                                    · rw [if_neg c69] at H
                                      exact absurd H (by simp)
                                  · rw [if_neg c68] at H
                                    exact absurd H (by simp)
                                · rw [if_neg c66] at H
                                  exact absurd H (by simp)
                              · rw [if_neg c65] at H
                                exact absurd H (by simp)
                            · rw [if_neg c64] at H
                              exact absurd H (by simp)
                          · rw [if_neg c62] at H
                            exact absurd H (by simp)
                        · rw [if_neg c61] at H
                          exact absurd H (by simp)
                      · rw [if_neg c59] at H
                        exact absurd H (by simp)
                    · rw [if_neg c58] at H
                      exact absurd H (by simp)
                  · rw [if_neg c57] at H
                    exact absurd H (by simp)
                · rw [if_neg c56] at H
                  exact absurd H (by simp)
              · rw [if_neg c55] at H
                exact absurd H (by simp)
  · replace c4 := Bool.eq_false_iff.mpr c4
    subst c4
    have H1 : (some false) = some r := by rw [if_neg (show ¬ (false = true) by decide)] at H; exact H
    clear H
    have H := H1
    clear H1
    exact absurd (Option.some.inj H) (by rw [HT.out]; decide)

/-- THE ONE PURE STATEMENT of watchwordlaw11_AckForms: yours. -/
def watchwordlaw11_AckForms.Pure : Prop := ∀ (a0 : Int) (a1 : Int), (Lit.int .i64 a0).wf = true → (Lit.int .i64 a1).wf = true → ∃ k, watchwordlaw11_AckForms.f k a0 a1 = some true
theorem watchwordlaw11_AckForms.walk (P : watchwordlaw11_AckForms.Pure) (a0 : Int) (a1 : Int) (w : World) (w0 : (Lit.int .i64 a0).wf = true) (w1 : (Lit.int .i64 a1).wf = true) :
    Calls Try.prog 4 #[.int .i64 a0, .int .i64 a1] w fun e w' => e = .returned (.bool true) ∧ Below w.heap.size w w' := by
  obtain ⟨k, h⟩ := P a0 a1 w0 w1
  refine (watchwordlaw11_AckForms.calls k a0 a1 true w h rfl).mono ?_
  rintro e w' ⟨rfl, hd⟩
  exact ⟨rfl, hd⟩

end Go.Proofs.Ytdmnfmkeifjmlaa.Q11
