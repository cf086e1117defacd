/- Written by a program of this session (out of what the print wrote for this seat): the functions' walks, packed. -/
import Derived.Test.YtmcajcomoegkdaaZ7x3
namespace Go.Proofs.Ytmcajcomoegkdaa.Q7
open Go.RowKit Go.Proofs.YtmcajcomoegkdaaW.PrintWords Go.Proofs.YtmcajcomoegkdaaW.PrintLast Go.Proofs.YtmcajcomoegkdaaW.PrintMore
attribute [local go_sem] max2_int min2_int max_two min_two max_three min_three max_four min_four   -- for this text's walks alone
set_option linter.unusedVariables false
set_option linter.unusedSimpArgs false

attribute [local go_sem high] eqA36
/-! ### watchwordlaw7_awake: function 24 -/
def watchwordlaw7_awake.f (k : Nat)  : Option (Bool) := (some (([(⟨1, 10⟩ : S49)] : List (S49)) : List (S49))).bind fun y159 => ((lsa_Put.f k 2 258 7 y159).bind fun bt163 => (if 2 + bt163.1.size ≤ 9223372036854775807 then (if ((⟨#[122, 122]⟩ : ByteArray) ++ bt163.1).size + 1 ≤ 9223372036854775807 then ((lsa_Get.f k (((⟨#[122, 122]⟩ : ByteArray) ++ bt163.1) ++ (⟨#[122]⟩ : ByteArray)) 2).bind fun bt165 => ((lsa_Head.f k 2 258 7 y159).bind fun bt174 => ((lsa_Put.f k 0 0 0 ([] : List (S49))).bind fun bt180 => ((lsa_Get.f k (⟨#[]⟩ : ByteArray) 0).bind fun bt182 => (if (bt163.1.size : Int) = 12 then (if 0 ≤ 10 then (if 10 ≤ (bt163.1.size : Int) then (if (bt163.1.extract 0 10).toList = ([7, 2, 0, 0, 1, 2, 1, 1, 0, 10] : List UInt8) then ((watchwordlaw0_Num.f bt163.2).bind fun t191 => (if t191 = 0 then ((watchwordlaw0_SameLsa.f k 2 258 7 y159 bt165.1 bt165.2.1 bt165.2.2.1 bt165.2.2.2.1).bind fun t192 => (if t192 = true then (if bt165.2.2.2.2.1 = 14 then ((watchwordlaw0_Num.f bt165.2.2.2.2.2).bind fun t193 => (if t193 = 0 then (if 10 < (bt163.1.size : Int) then (if 11 < (bt163.1.size : Int) then (if (bt174.1 == 2 && (bt174.2.1 == 258 && (bt174.2.2.1 == 7 && (bt174.2.2.2.1 == (Go.bits .or .i64 (wrap64 ((wrap64 (bt bt163.1 10)) * 256)) (wrap64 (bt bt163.1 11))))))) = true then ((watchwordlaw0_Num.f bt174.2.2.2.2).bind fun t194 => (if t194 = 0 then ((watchwordlaw0_Num.f bt180.2).bind fun t195 => (if t195 = 700 then ((watchwordlaw0_Num.f bt182.2.2.2.2.2).bind fun t196 => (if t196 = 700 then ((lsa_May.f k 2 258 7 y159).bind fun t197 => (some t197)) else (some false))) else (some false))) else (some false))) else (some false)) else (none)) else (none)) else (some false))) else (some false)) else (some false))) else (some false))) else (some false)) else (none)) else (none)) else (some false)))))) else (none)) else (none)))
theorem watchwordlaw7_awake.mono : ∀ k, LeO (watchwordlaw7_awake.f k ) (watchwordlaw7_awake.f (k + 1) ) := by
 intro  k
 unfold watchwordlaw7_awake.f
 repeat' first
   | (with_reducible exact lsa_Get.mono _ _ _)
   | (with_reducible exact lsa_Head.mono _ _ _ _ _)
   | (with_reducible exact lsa_May.mono _ _ _ _ _)
   | (with_reducible exact lsa_Put.mono _ _ _ _ _)
   | (with_reducible exact watchwordlaw0_SameLsa.mono _ _ _ _ _ _ _ _ _)
   | (with_reducible exact LeO.refl _)
   | (with_reducible exact LeO.none _)
   | (with_reducible refine LeO.ite ?_ ?_)
   | (with_reducible refine LeO.bind ?_ (fun _ => ?_))
   | exact lsa_Get.mono _ _ _
   | exact lsa_Head.mono _ _ _ _ _
   | exact lsa_May.mono _ _ _ _ _
   | exact lsa_Put.mono _ _ _ _ _
   | exact watchwordlaw0_SameLsa.mono _ _ _ _ _ _ _ _ _
   | exact LeO.none _
   | refine LeO.ite ?_ ?_
   | refine LeO.bind ?_ (fun _ => ?_)
def watchwordlaw7_awake.T9 : Bool × List (List Nat × List Nat) := (true, [([], []), ([0], [0]), ([1], [1]), ([2], [2]), ([3], [3]), ([4, 3, 3], [3, 4]), ([5, 3], [3, 5]), ([3, 6], [3, 6]), ([7, 5], [7]), ([8], [8]), ([8], [8]), ([9, 10, 8, 8], [8, 9, 10]), ([8, 11], [8, 11]), ([12, 11], [12]), ([13], [13]), ([14, 13], [13, 14]), ([13, 15], [13, 15]), ([16, 13], [16]), ([17], [17]), ([18, 17, 17], [17, 18]), ([19, 17], [17, 19]), ([17, 20], [17, 20]), ([21, 19], [21]), ([22], [22]), ([22], [22]), ([24, 22], [22, 24]), ([25, 22], [22, 25]), ([26, 22], [22, 26]), ([22], [22]), ([28, 22], [22, 28]), ([29, 22], [22, 29]), ([27, 30, 22], [22, 27, 30]), ([31, 22], [22, 31]), ([23, 32, 22], [22, 23, 32]), ([22, 33], [22, 33]), ([34, 22], [34]), ([35], [35]), ([36, 35, 35], [35, 36]), ([37, 35], [35, 37]), ([35, 38], [35, 38]), ([39, 37], [39]), ([40], [40]), ([41, 40, 40], [40, 41]), ([42, 40], [40, 42]), ([40, 43], [40, 43]), ([44, 42], [44]), ([45], [45]), ([46, 45, 45], [45, 46]), ([47, 45], [45, 47]), ([45, 48], [45, 48]), ([49, 47], [49]), ([50], [50]), ([51, 50, 50], [50, 51]), ([50, 52], [50, 52]), ([53, 52, 0, 1, 2, 3, 4, 5, 6, 7, 8, 9, 10, 11, 12, 13, 14, 15, 16, 17, 18, 19, 20, 21, 22, 23, 24, 25, 26, 27, 28, 29, 30, 31, 32, 33, 34, 35, 36, 37, 38, 39, 40, 41, 42, 43, 44, 45, 46, 47, 48, 49, 50, 51, 52, 53], [53])])
def watchwordlaw7_awake.B9 : List Nat := [0, 1, 3, 7, 15, 31, 63, 127, 255, 511, 511, 2047, 4095, 8191, 16383, 32767, 65535, 131071, 262143, 524287, 1048575, 2097151, 4194303, 8388607, 8388607, 25165823, 58720255, 125829119, 8388607, 276824063, 813694975, 2139095039, 4286578687, 8589934591, 17179869183, 34359738367, 68719476735, 137438953471, 274877906943, 549755813887, 1099511627775, 2199023255551, 4398046511103, 8796093022207, 17592186044415, 35184372088831, 70368744177663, 140737488355327, 281474976710655, 562949953421311, 1125899906842623, 2251799813685247, 4503599627370495, 9007199254740991, 18014398509481983]
theorem watchwordlaw7_awake.tab9 : rtab .any (opsOf Try.f24 9) = watchwordlaw7_awake.T9 := by kernel_rfl
theorem watchwordlaw7_awake.bits9 : waitsOk watchwordlaw7_awake.T9.2 watchwordlaw7_awake.B9 = true := by kernel_rfl
set_option maxHeartbeats 8000000 in
set_option maxRecDepth 100000 in
theorem watchwordlaw7_awake.calls (k : Nat)  (r : Bool) (w : World) (h : watchwordlaw7_awake.f k  = some r) (hT : r = true) :
  Calls Try.prog 24 #[] w fun e w' => e = .returned (.bool r) ∧ Below w.heap.size w w' := by
 have hu49 := Try.underlying49
 have hu24 := Try.underlying24
 have hu36 := Try.underlying36
 have HB := Aside0.mk (Below.refl w.heap.size w)
 have HT := Aside0.mk hT
 clear hT
 have H : ((some (([(⟨1, 10⟩ : S49)] : List (S49)) : List (S49))).bind fun y159 => ((lsa_Put.f k 2 258 7 y159).bind fun bt163 => (if 2 + bt163.1.size ≤ 9223372036854775807 then (if ((⟨#[122, 122]⟩ : ByteArray) ++ bt163.1).size + 1 ≤ 9223372036854775807 then ((lsa_Get.f k (((⟨#[122, 122]⟩ : ByteArray) ++ bt163.1) ++ (⟨#[122]⟩ : ByteArray)) 2).bind fun bt165 => ((lsa_Head.f k 2 258 7 y159).bind fun bt174 => ((lsa_Put.f k 0 0 0 ([] : List (S49))).bind fun bt180 => ((lsa_Get.f k (⟨#[]⟩ : ByteArray) 0).bind fun bt182 => (if (bt163.1.size : Int) = 12 then (if 0 ≤ 10 then (if 10 ≤ (bt163.1.size : Int) then (if (bt163.1.extract 0 10).toList = ([7, 2, 0, 0, 1, 2, 1, 1, 0, 10] : List UInt8) then ((watchwordlaw0_Num.f bt163.2).bind fun t191 => (if t191 = 0 then ((watchwordlaw0_SameLsa.f k 2 258 7 y159 bt165.1 bt165.2.1 bt165.2.2.1 bt165.2.2.2.1).bind fun t192 => (if t192 = true then (if bt165.2.2.2.2.1 = 14 then ((watchwordlaw0_Num.f bt165.2.2.2.2.2).bind fun t193 => (if t193 = 0 then (if 10 < (bt163.1.size : Int) then (if 11 < (bt163.1.size : Int) then (if (bt174.1 == 2 && (bt174.2.1 == 258 && (bt174.2.2.1 == 7 && (bt174.2.2.2.1 == (Go.bits .or .i64 (wrap64 ((wrap64 (bt bt163.1 10)) * 256)) (wrap64 (bt bt163.1 11))))))) = true then ((watchwordlaw0_Num.f bt174.2.2.2.2).bind fun t194 => (if t194 = 0 then ((watchwordlaw0_Num.f bt180.2).bind fun t195 => (if t195 = 700 then ((watchwordlaw0_Num.f bt182.2.2.2.2.2).bind fun t196 => (if t196 = 700 then ((lsa_May.f k 2 258 7 y159).bind fun t197 => (some t197)) else (some false))) else (some false))) else (some false))) else (some false)) else (none)) else (none)) else (some false))) else (some false)) else (some false))) else (some false))) else (some false)) else (none)) else (none)) else (some false)))))) else (none)) else (none)))) = some r := h
 clear h
 obtain ⟨y159, hy159⟩ : ∃ y_ : List (S49), y_ = (([(⟨1, 10⟩ : S49)] : List (S49))) := ⟨_, rfl⟩
 replace H : ((lsa_Put.f k 2 258 7 y159).bind fun bt163 => (if 2 + bt163.1.size ≤ 9223372036854775807 then (if ((⟨#[122, 122]⟩ : ByteArray) ++ bt163.1).size + 1 ≤ 9223372036854775807 then ((lsa_Get.f k (((⟨#[122, 122]⟩ : ByteArray) ++ bt163.1) ++ (⟨#[122]⟩ : ByteArray)) 2).bind fun bt165 => ((lsa_Head.f k 2 258 7 y159).bind fun bt174 => ((lsa_Put.f k 0 0 0 ([] : List (S49))).bind fun bt180 => ((lsa_Get.f k (⟨#[]⟩ : ByteArray) 0).bind fun bt182 => (if (bt163.1.size : Int) = 12 then (if 0 ≤ 10 then (if 10 ≤ (bt163.1.size : Int) then (if (bt163.1.extract 0 10).toList = ([7, 2, 0, 0, 1, 2, 1, 1, 0, 10] : List UInt8) then ((watchwordlaw0_Num.f bt163.2).bind fun t191 => (if t191 = 0 then ((watchwordlaw0_SameLsa.f k 2 258 7 y159 bt165.1 bt165.2.1 bt165.2.2.1 bt165.2.2.2.1).bind fun t192 => (if t192 = true then (if bt165.2.2.2.2.1 = 14 then ((watchwordlaw0_Num.f bt165.2.2.2.2.2).bind fun t193 => (if t193 = 0 then (if 10 < (bt163.1.size : Int) then (if 11 < (bt163.1.size : Int) then (if (bt174.1 == 2 && (bt174.2.1 == 258 && (bt174.2.2.1 == 7 && (bt174.2.2.2.1 == (Go.bits .or .i64 (wrap64 ((wrap64 (bt bt163.1 10)) * 256)) (wrap64 (bt bt163.1 11))))))) = true then ((watchwordlaw0_Num.f bt174.2.2.2.2).bind fun t194 => (if t194 = 0 then ((watchwordlaw0_Num.f bt180.2).bind fun t195 => (if t195 = 700 then ((watchwordlaw0_Num.f bt182.2.2.2.2.2).bind fun t196 => (if t196 = 700 then ((lsa_May.f k 2 258 7 y159).bind fun t197 => (some t197)) else (some false))) else (some false))) else (some false))) else (some false)) else (none)) else (none)) else (some false))) else (some false)) else (some false))) else (some false))) else (some false)) else (none)) else (none)) else (some false)))))) else (none)) else (none))) = some r := by first | (rw [hy159]; with_reducible exact H) | (have H2_ := (Option.bind_some _ _).symm.trans H; rw [hy159]; with_reducible exact H2_) | (have H2_ := (Option.bind_some _ _).symm.trans H; with_reducible exact H2_) | with_reducible exact H | (rw [hy159]; exact H) | exact H
 have Ny159 := Aside0.mk hy159
 clear hy159
 replace H := Option.bind_eq_some_iff.mp H
 obtain ⟨⟨t163, t164⟩, A10, H⟩ := H
 replace H : (if 2 + t163.size ≤ 9223372036854775807 then (if ((⟨#[122, 122]⟩ : ByteArray) ++ t163).size + 1 ≤ 9223372036854775807 then ((lsa_Get.f k (((⟨#[122, 122]⟩ : ByteArray) ++ t163) ++ (⟨#[122]⟩ : ByteArray)) 2).bind fun bt165 => ((lsa_Head.f k 2 258 7 y159).bind fun bt174 => ((lsa_Put.f k 0 0 0 ([] : List (S49))).bind fun bt180 => ((lsa_Get.f k (⟨#[]⟩ : ByteArray) 0).bind fun bt182 => (if (t163.size : Int) = 12 then (if 0 ≤ 10 then (if 10 ≤ (t163.size : Int) then (if (t163.extract 0 10).toList = ([7, 2, 0, 0, 1, 2, 1, 1, 0, 10] : List UInt8) then ((watchwordlaw0_Num.f t164).bind fun t191 => (if t191 = 0 then ((watchwordlaw0_SameLsa.f k 2 258 7 y159 bt165.1 bt165.2.1 bt165.2.2.1 bt165.2.2.2.1).bind fun t192 => (if t192 = true then (if bt165.2.2.2.2.1 = 14 then ((watchwordlaw0_Num.f bt165.2.2.2.2.2).bind fun t193 => (if t193 = 0 then (if 10 < (t163.size : Int) then (if 11 < (t163.size : Int) then (if (bt174.1 == 2 && (bt174.2.1 == 258 && (bt174.2.2.1 == 7 && (bt174.2.2.2.1 == (Go.bits .or .i64 (wrap64 ((wrap64 (bt t163 10)) * 256)) (wrap64 (bt t163 11))))))) = true then ((watchwordlaw0_Num.f bt174.2.2.2.2).bind fun t194 => (if t194 = 0 then ((watchwordlaw0_Num.f bt180.2).bind fun t195 => (if t195 = 700 then ((watchwordlaw0_Num.f bt182.2.2.2.2.2).bind fun t196 => (if t196 = 700 then ((lsa_May.f k 2 258 7 y159).bind fun t197 => (some t197)) else (some false))) else (some false))) else (some false))) else (some false)) else (none)) else (none)) else (some false))) else (some false)) else (some false))) else (some false))) else (some false)) else (none)) else (none)) else (some false)))))) else (none)) else (none)) = some r := H
 have A1 := Aside0.mk A10
 clear A10
 by_cases c2 : 2 + t163.size ≤ 9223372036854775807
 ·rw [if_pos c2] at H
  have c2b0 := eq_true c2
  have c2b1 : decide (2 + t163.size ≤ 9223372036854775807) = true := decide_eq_true c2
  try have c2b2 : (9223372036854775807 < 2 + t163.size) = False := eq_false (Nat.not_lt.2 c2)
  by_cases c3 : ((⟨#[122, 122]⟩ : ByteArray) ++ t163).size + 1 ≤ 9223372036854775807
  ·rw [if_pos c3] at H
   have c3b0 := eq_true c3
   have c3b1 : decide (((⟨#[122, 122]⟩ : ByteArray) ++ t163).size + 1 ≤ 9223372036854775807) = true := decide_eq_true c3
   try have c3b2 : (9223372036854775807 < ((⟨#[122, 122]⟩ : ByteArray) ++ t163).size + 1) = False := eq_false (Nat.not_lt.2 c3)
   try have c3b3 : (9223372036854775807 < 2 + t163.size + 1) = False := eq_false (by have h_ := c3; simp only [ByteArray.size_append] at h_; have l0_ : (⟨#[122, 122]⟩ : ByteArray).size = 2 := rfl; omega)
   try have c3b4 : (9223372036854775807 < (⟨#[122, 122]⟩ : ByteArray).size + t163.size + 1) = False := eq_false (by have h_ := c3; simp only [ByteArray.size_append] at h_; have l0_ : (⟨#[122, 122]⟩ : ByteArray).size = 2 := rfl; omega)
   replace H := Option.bind_eq_some_iff.mp H
   obtain ⟨⟨t165, t166, t167, t168, t171, t172⟩, A40, H⟩ := H
   replace H : ((lsa_Head.f k 2 258 7 y159).bind fun bt174 => ((lsa_Put.f k 0 0 0 ([] : List (S49))).bind fun bt180 => ((lsa_Get.f k (⟨#[]⟩ : ByteArray) 0).bind fun bt182 => (if (t163.size : Int) = 12 then (if 0 ≤ 10 then (if 10 ≤ (t163.size : Int) then (if (t163.extract 0 10).toList = ([7, 2, 0, 0, 1, 2, 1, 1, 0, 10] : List UInt8) then ((watchwordlaw0_Num.f t164).bind fun t191 => (if t191 = 0 then ((watchwordlaw0_SameLsa.f k 2 258 7 y159 t165 t166 t167 t168).bind fun t192 => (if t192 = true then (if t171 = 14 then ((watchwordlaw0_Num.f t172).bind fun t193 => (if t193 = 0 then (if 10 < (t163.size : Int) then (if 11 < (t163.size : Int) then (if (bt174.1 == 2 && (bt174.2.1 == 258 && (bt174.2.2.1 == 7 && (bt174.2.2.2.1 == (Go.bits .or .i64 (wrap64 ((wrap64 (bt t163 10)) * 256)) (wrap64 (bt t163 11))))))) = true then ((watchwordlaw0_Num.f bt174.2.2.2.2).bind fun t194 => (if t194 = 0 then ((watchwordlaw0_Num.f bt180.2).bind fun t195 => (if t195 = 700 then ((watchwordlaw0_Num.f bt182.2.2.2.2.2).bind fun t196 => (if t196 = 700 then ((lsa_May.f k 2 258 7 y159).bind fun t197 => (some t197)) else (some false))) else (some false))) else (some false))) else (some false)) else (none)) else (none)) else (some false))) else (some false)) else (some false))) else (some false))) else (some false)) else (none)) else (none)) else (some false))))) = some r := H
   have A4 := Aside0.mk A40
   clear A40
   replace H := Option.bind_eq_some_iff.mp H
   obtain ⟨⟨t174, t175, t176, t177, t178⟩, A50, H⟩ := H
   replace H : ((lsa_Put.f k 0 0 0 ([] : List (S49))).bind fun bt180 => ((lsa_Get.f k (⟨#[]⟩ : ByteArray) 0).bind fun bt182 => (if (t163.size : Int) = 12 then (if 0 ≤ 10 then (if 10 ≤ (t163.size : Int) then (if (t163.extract 0 10).toList = ([7, 2, 0, 0, 1, 2, 1, 1, 0, 10] : List UInt8) then ((watchwordlaw0_Num.f t164).bind fun t191 => (if t191 = 0 then ((watchwordlaw0_SameLsa.f k 2 258 7 y159 t165 t166 t167 t168).bind fun t192 => (if t192 = true then (if t171 = 14 then ((watchwordlaw0_Num.f t172).bind fun t193 => (if t193 = 0 then (if 10 < (t163.size : Int) then (if 11 < (t163.size : Int) then (if (t174 == 2 && (t175 == 258 && (t176 == 7 && (t177 == (Go.bits .or .i64 (wrap64 ((wrap64 (bt t163 10)) * 256)) (wrap64 (bt t163 11))))))) = true then ((watchwordlaw0_Num.f t178).bind fun t194 => (if t194 = 0 then ((watchwordlaw0_Num.f bt180.2).bind fun t195 => (if t195 = 700 then ((watchwordlaw0_Num.f bt182.2.2.2.2.2).bind fun t196 => (if t196 = 700 then ((lsa_May.f k 2 258 7 y159).bind fun t197 => (some t197)) else (some false))) else (some false))) else (some false))) else (some false)) else (none)) else (none)) else (some false))) else (some false)) else (some false))) else (some false))) else (some false)) else (none)) else (none)) else (some false)))) = some r := H
   have A5 := Aside0.mk A50
   clear A50
   replace H := Option.bind_eq_some_iff.mp H
   obtain ⟨⟨t180, t181⟩, A60, H⟩ := H
   replace H : ((lsa_Get.f k (⟨#[]⟩ : ByteArray) 0).bind fun bt182 => (if (t163.size : Int) = 12 then (if 0 ≤ 10 then (if 10 ≤ (t163.size : Int) then (if (t163.extract 0 10).toList = ([7, 2, 0, 0, 1, 2, 1, 1, 0, 10] : List UInt8) then ((watchwordlaw0_Num.f t164).bind fun t191 => (if t191 = 0 then ((watchwordlaw0_SameLsa.f k 2 258 7 y159 t165 t166 t167 t168).bind fun t192 => (if t192 = true then (if t171 = 14 then ((watchwordlaw0_Num.f t172).bind fun t193 => (if t193 = 0 then (if 10 < (t163.size : Int) then (if 11 < (t163.size : Int) then (if (t174 == 2 && (t175 == 258 && (t176 == 7 && (t177 == (Go.bits .or .i64 (wrap64 ((wrap64 (bt t163 10)) * 256)) (wrap64 (bt t163 11))))))) = true then ((watchwordlaw0_Num.f t178).bind fun t194 => (if t194 = 0 then ((watchwordlaw0_Num.f t181).bind fun t195 => (if t195 = 700 then ((watchwordlaw0_Num.f bt182.2.2.2.2.2).bind fun t196 => (if t196 = 700 then ((lsa_May.f k 2 258 7 y159).bind fun t197 => (some t197)) else (some false))) else (some false))) else (some false))) else (some false)) else (none)) else (none)) else (some false))) else (some false)) else (some false))) else (some false))) else (some false)) else (none)) else (none)) else (some false))) = some r := H
   have A6 := Aside0.mk A60
   clear A60
   replace H := Option.bind_eq_some_iff.mp H
   obtain ⟨⟨t182, t183, t184, t185, t188, t189⟩, A70, H⟩ := H
   replace H : (if (t163.size : Int) = 12 then (if 0 ≤ 10 then (if 10 ≤ (t163.size : Int) then (if (t163.extract 0 10).toList = ([7, 2, 0, 0, 1, 2, 1, 1, 0, 10] : List UInt8) then ((watchwordlaw0_Num.f t164).bind fun t191 => (if t191 = 0 then ((watchwordlaw0_SameLsa.f k 2 258 7 y159 t165 t166 t167 t168).bind fun t192 => (if t192 = true then (if t171 = 14 then ((watchwordlaw0_Num.f t172).bind fun t193 => (if t193 = 0 then (if 10 < (t163.size : Int) then (if 11 < (t163.size : Int) then (if (t174 == 2 && (t175 == 258 && (t176 == 7 && (t177 == (Go.bits .or .i64 (wrap64 ((wrap64 (bt t163 10)) * 256)) (wrap64 (bt t163 11))))))) = true then ((watchwordlaw0_Num.f t178).bind fun t194 => (if t194 = 0 then ((watchwordlaw0_Num.f t181).bind fun t195 => (if t195 = 700 then ((watchwordlaw0_Num.f t189).bind fun t196 => (if t196 = 700 then ((lsa_May.f k 2 258 7 y159).bind fun t197 => (some t197)) else (some false))) else (some false))) else (some false))) else (some false)) else (none)) else (none)) else (some false))) else (some false)) else (some false))) else (some false))) else (some false)) else (none)) else (none)) else (some false)) = some r := H
   have A7 := Aside0.mk A70
   clear A70
   by_cases c8 : (t163.size : Int) = 12
   ·rw [if_pos c8] at H
    have c8b0 : ((t163.size : Int) == 12) = true := beq_iff_eq.mpr c8
    have c8b1 : ((t163.size : Int) != 12) = false := bne_eq_false_iff_eq.mpr c8
    clear c8
    by_cases c9 : 0 ≤ 10
    ·rw [if_pos c9] at H
     have c9b0 := eq_true c9
     have c9b1 : decide (0 ≤ 10) = true := decide_eq_true c9
     clear c9
     by_cases c10 : 10 ≤ (t163.size : Int)
     ·rw [if_pos c10] at H
      have c10p : 10 ≤ t163.size := by omega
      have c10b0 := eq_true c10
      have c10b1 : decide (10 ≤ (t163.size : Int)) = true := decide_eq_true c10
      clear c10
      by_cases c11 : (t163.extract 0 10).toList = ([7, 2, 0, 0, 1, 2, 1, 1, 0, 10] : List UInt8)
      ·rw [if_pos c11] at H
       have c11b0 : ((t163.extract 0 10).toList == ([7, 2, 0, 0, 1, 2, 1, 1, 0, 10] : List UInt8)) = true := beq_iff_eq.mpr c11
       have c11b1 : ((t163.extract 0 10).toList != ([7, 2, 0, 0, 1, 2, 1, 1, 0, 10] : List UInt8)) = false := bne_eq_false_iff_eq.mpr c11
       clear c11
       replace H := Option.bind_eq_some_iff.mp H
       obtain ⟨t191, A120, H⟩ := H
       replace H : (if t191 = 0 then ((watchwordlaw0_SameLsa.f k 2 258 7 y159 t165 t166 t167 t168).bind fun t192 => (if t192 = true then (if t171 = 14 then ((watchwordlaw0_Num.f t172).bind fun t193 => (if t193 = 0 then (if 10 < (t163.size : Int) then (if 11 < (t163.size : Int) then (if (t174 == 2 && (t175 == 258 && (t176 == 7 && (t177 == (Go.bits .or .i64 (wrap64 ((wrap64 (bt t163 10)) * 256)) (wrap64 (bt t163 11))))))) = true then ((watchwordlaw0_Num.f t178).bind fun t194 => (if t194 = 0 then ((watchwordlaw0_Num.f t181).bind fun t195 => (if t195 = 700 then ((watchwordlaw0_Num.f t189).bind fun t196 => (if t196 = 700 then ((lsa_May.f k 2 258 7 y159).bind fun t197 => (some t197)) else (some false))) else (some false))) else (some false))) else (some false)) else (none)) else (none)) else (some false))) else (some false)) else (some false))) else (some false)) = some r := H
       have A12 := Aside0.mk A120
       clear A120
       by_cases c13 : t191 = 0
       ·rw [if_pos c13] at H
        have c13b0 : (t191 == 0) = true := beq_iff_eq.mpr c13
        have c13b1 : (t191 != 0) = false := bne_eq_false_iff_eq.mpr c13
        clear c13
        replace H := Option.bind_eq_some_iff.mp H
        obtain ⟨t192, A140, H⟩ := H
        replace H : (if t192 = true then (if t171 = 14 then ((watchwordlaw0_Num.f t172).bind fun t193 => (if t193 = 0 then (if 10 < (t163.size : Int) then (if 11 < (t163.size : Int) then (if (t174 == 2 && (t175 == 258 && (t176 == 7 && (t177 == (Go.bits .or .i64 (wrap64 ((wrap64 (bt t163 10)) * 256)) (wrap64 (bt t163 11))))))) = true then ((watchwordlaw0_Num.f t178).bind fun t194 => (if t194 = 0 then ((watchwordlaw0_Num.f t181).bind fun t195 => (if t195 = 700 then ((watchwordlaw0_Num.f t189).bind fun t196 => (if t196 = 700 then ((lsa_May.f k 2 258 7 y159).bind fun t197 => (some t197)) else (some false))) else (some false))) else (some false))) else (some false)) else (none)) else (none)) else (some false))) else (some false)) else (some false)) = some r := H
        have A14 := Aside0.mk A140
        clear A140
        by_cases c15 : t192 = true
        ·subst c15
         have H1 : (if t171 = 14 then ((watchwordlaw0_Num.f t172).bind fun t193 => (if t193 = 0 then (if 10 < (t163.size : Int) then (if 11 < (t163.size : Int) then (if (t174 == 2 && (t175 == 258 && (t176 == 7 && (t177 == (Go.bits .or .i64 (wrap64 ((wrap64 (bt t163 10)) * 256)) (wrap64 (bt t163 11))))))) = true then ((watchwordlaw0_Num.f t178).bind fun t194 => (if t194 = 0 then ((watchwordlaw0_Num.f t181).bind fun t195 => (if t195 = 700 then ((watchwordlaw0_Num.f t189).bind fun t196 => (if t196 = 700 then ((lsa_May.f k 2 258 7 y159).bind fun t197 => (some t197)) else (some false))) else (some false))) else (some false))) else (some false)) else (none)) else (none)) else (some false))) else (some false)) = some r := by rw [if_pos rfl] at H; exact H
         clear H
         have H := H1
         clear H1
         by_cases c16 : t171 = 14
         ·rw [if_pos c16] at H
          have c16b0 : (t171 == 14) = true := beq_iff_eq.mpr c16
          have c16b1 : (t171 != 14) = false := bne_eq_false_iff_eq.mpr c16
          clear c16
          replace H := Option.bind_eq_some_iff.mp H
          obtain ⟨t193, A170, H⟩ := H
          replace H : (if t193 = 0 then (if 10 < (t163.size : Int) then (if 11 < (t163.size : Int) then (if (t174 == 2 && (t175 == 258 && (t176 == 7 && (t177 == (Go.bits .or .i64 (wrap64 ((wrap64 (bt t163 10)) * 256)) (wrap64 (bt t163 11))))))) = true then ((watchwordlaw0_Num.f t178).bind fun t194 => (if t194 = 0 then ((watchwordlaw0_Num.f t181).bind fun t195 => (if t195 = 700 then ((watchwordlaw0_Num.f t189).bind fun t196 => (if t196 = 700 then ((lsa_May.f k 2 258 7 y159).bind fun t197 => (some t197)) else (some false))) else (some false))) else (some false))) else (some false)) else (none)) else (none)) else (some false)) = some r := H
          have A17 := Aside0.mk A170
          clear A170
          by_cases c18 : t193 = 0
          ·rw [if_pos c18] at H
           have c18b0 : (t193 == 0) = true := beq_iff_eq.mpr c18
           have c18b1 : (t193 != 0) = false := bne_eq_false_iff_eq.mpr c18
           clear c18
           by_cases c19 : 10 < (t163.size : Int)
           ·rw [if_pos c19] at H
            have c19b0 : decide (10 < (t163.size : Int)) = true := decide_eq_true c19
            have c19b1 : decide (10 < t163.size) = true := decide_eq_true (by omega)
            clear c19
            by_cases c21 : 11 < (t163.size : Int)
            ·rw [if_pos c21] at H
             have c21b0 : decide (11 < (t163.size : Int)) = true := decide_eq_true c21
             have c21b1 : decide (11 < t163.size) = true := decide_eq_true (by omega)
             clear c21
             by_cases c23 : (t174 == 2 && (t175 == 258 && (t176 == 7 && (t177 == (Go.bits .or .i64 (wrap64 ((wrap64 (bt t163 10)) * 256)) (wrap64 (bt t163 11))))))) = true
             ·rw [if_pos c23] at H
              have c23b0 : (t174 == 2 && (t175 == 258 && (t176 == 7 && (t177 == (Go.bits .or .i64 (wrap64 ((wrap64 (bt t163 10)) * 256)) (wrap64 (bt t163 11))))))) = true := c23
              (try (have c23b1 : decide (t174 = 2 && (t175 == 258 && (t176 == 7 && (t177 == (Go.bits .or .i64 (wrap64 ((wrap64 (bt t163 10)) * 256)) (wrap64 (bt t163 11))))))) = true := by simpa using c23))
              (try (have c23b2 : (t174 == 2 && (t175 == 258 && (t176 == 7 && (t177 == (Go.bits .or .i64 (wrap64 ((wrap64 (bt t163 10)) * 256)) (wrap64 (bt t163 11))))))) = true := by simpa using c23))
              clear c23
              replace H := Option.bind_eq_some_iff.mp H
              obtain ⟨t194, A240, H⟩ := H
              replace H : (if t194 = 0 then ((watchwordlaw0_Num.f t181).bind fun t195 => (if t195 = 700 then ((watchwordlaw0_Num.f t189).bind fun t196 => (if t196 = 700 then ((lsa_May.f k 2 258 7 y159).bind fun t197 => (some t197)) else (some false))) else (some false))) else (some false)) = some r := H
              have A24 := Aside0.mk A240
              clear A240
              by_cases c25 : t194 = 0
              ·rw [if_pos c25] at H
               have c25b0 : (t194 == 0) = true := beq_iff_eq.mpr c25
               have c25b1 : (t194 != 0) = false := bne_eq_false_iff_eq.mpr c25
               clear c25
               replace H := Option.bind_eq_some_iff.mp H
               obtain ⟨t195, A260, H⟩ := H
               replace H : (if t195 = 700 then ((watchwordlaw0_Num.f t189).bind fun t196 => (if t196 = 700 then ((lsa_May.f k 2 258 7 y159).bind fun t197 => (some t197)) else (some false))) else (some false)) = some r := H
               have A26 := Aside0.mk A260
               clear A260
               by_cases c27 : t195 = 700
               ·rw [if_pos c27] at H
                have c27b0 : (t195 == 700) = true := beq_iff_eq.mpr c27
                have c27b1 : (t195 != 700) = false := bne_eq_false_iff_eq.mpr c27
                clear c27
                replace H := Option.bind_eq_some_iff.mp H
                obtain ⟨t196, A280, H⟩ := H
                replace H : (if t196 = 700 then ((lsa_May.f k 2 258 7 y159).bind fun t197 => (some t197)) else (some false)) = some r := H
                have A28 := Aside0.mk A280
                clear A280
                by_cases c29 : t196 = 700
                ·rw [if_pos c29] at H
                 have c29b0 : (t196 == 700) = true := beq_iff_eq.mpr c29
                 have c29b1 : (t196 != 700) = false := bne_eq_false_iff_eq.mpr c29
                 clear c29
                 replace H := Option.bind_eq_some_iff.mp H
                 obtain ⟨t197, A300, H⟩ := H
                 replace H : (some t197) = some r := H
                 have A30 := Aside0.mk A300
                 clear A300
                 obtain rfl := Option.some.inj H
                 go_enter Try.func24, Try.ntmps24
                 try go_wp2_with (first | ((with_reducible refine gate_dst (N := 15) rfl ?_); refine Kd.R_lit k49 _ 49 ?hg (N := 15) ?hd (xs := ([(⟨1, 10⟩ : S49)] : List (S49))) (inner := [.int .i64 1, .int .i64 10]) (ok := fun _ => True) (okp := fun _ => True) ?hr ?hp (fun _ hk => hk) trivial (Below.refl _ _) (Nat.le_refl _) (by simp) ?_; (case hd => rfl); (case hg => rfl); (case hr => first | (go_simp; done) | (go_simp; rfl)); (case hp => exact (Reps.c2 (show Kd.M k49 _ _ _ (⟨1, 10⟩ : S49) [.int .i64 1, .int .i64 10] from (k49_mkM _ _ _ (⟨1, 10⟩ : S49) )) (Reps.none _ _))); intro v160 w31 ho32 hb hg_ hnew_; clear hg_ hnew_; (first | rw [← Ny159.out] at ho32 | (simp only [Int.reduceToNat] at ho32; rw [← Ny159.out] at ho32)); have n0_ := Aside0.mk (Kd.R_lower ho32 (below_size (by repeat (first | (with_reducible first | exact HB.out | apply below_alloc | apply pw_below_drewN | apply below_drew1) | exact HB.out)))); have n1_ := Aside0.mk (below_step (by repeat (first | (with_reducible first | exact HB.out | apply below_alloc | apply pw_below_drewN | apply below_drew1) | exact HB.out)) hb); clear HB; have HO161 := n0_; have HB := n1_; clear n0_ n1_; clear hb ho32; obtain ⟨Ao33, co33, eo33⟩ := Kd.R_slice HO161.out; subst eo33) | ((with_reducible refine gate_dst (N := 1) rfl ?_); refine box_event ?hg (N := 1) ?hd (cs := #[.int .i64 0, .int .i64 0, .int .i64 0, .slice none 0 0]) (t := 24) ?hr ?_; (case hd => rfl); (case hg => rfl); (case hr => first | (go_simp; done) | (go_simp; rfl)); intro gb162 hg w34 hbox hb; have n0_ := Aside0.mk (Kd.R_below (by (with_reducible repeat (first | apply Kd.R_alloc | apply Kd.R_drewN | apply Kd.R_drew)); exact HO161.out) hb); have n1_ := Aside0.mk (below_step (by repeat (first | (with_reducible first | exact HB.out | apply below_alloc | apply pw_below_drewN | apply below_drew1) | exact HB.out)) hb); have n2_ := Aside0.mk (hbox); have n3_ := Aside0.mk ((by rw [hg]; exact (below_size (by repeat (first | (with_reducible first | exact HB.out | apply below_alloc | apply pw_below_drewN | apply below_drew1) | exact HB.out))) : w.heap.size ≤ gb162)); have n4_ := Aside0.mk ((by rw [hg]; exact (below_size (by repeat (first | (with_reducible first | exact HB.out | apply below_alloc | apply pw_below_drewN | apply below_drew1) | exact HB.out))) : w.heap.size ≤ gb162)); clear HO161; clear HB; have HO161 := n0_; have HB := n1_; have BK162 := n2_; have GW162 := n3_; have GE162 := n4_; clear n0_ n1_ n2_ n3_ n4_; clear hb hbox hg; have hcz35_0 : w34.cell? ⟨gb162, 0, none⟩ = some (.int .i64 0) := (blk_cell BK162.out 0).trans rfl; have hcz35_1 : w34.cell? ⟨gb162, 1, none⟩ = some (.int .i64 0) := (blk_cell BK162.out 1).trans rfl; have hcz35_2 : w34.cell? ⟨gb162, 2, none⟩ = some (.int .i64 0) := (blk_cell BK162.out 2).trans rfl; have hcz35_3 : w34.cell? ⟨gb162, 3, none⟩ = some (.slice none 0 0) := (blk_cell BK162.out 3).trans rfl; have hfz35_0 := blk_frozen BK162.out 0; have hfz35_1 := blk_frozen BK162.out 1; have hfz35_2 := blk_frozen BK162.out 2; have hfz35_3 := blk_frozen BK162.out 3) | ((with_reducible refine gate_callee (f := 13) rfl ?_); refine goesL_ (some 19) rfl rfl Try.func13 (by kernel_rfl) rfl #[.agg #[.int .i64 2, .int .i64 258, .int .i64 7, .slice Ao33 y159.length co33]] rfl (by (try simp only [List.map_toArray, List.map_cons, List.map_nil]); first | done | rfl | (simp only [List.length_drop, List.length_take]; rfl)) ?_; (with_reducible refine (lsa_Put.calls k 2 258 7 _ _ y159 t163 t164 _ ?side1 ?side2 A1.out).mono ?_); (case side1 => refine (Kd.R_reads' (e := 49) (base := w.heap.size) (ok := fun k_ => True) (n := y159.length) (c := co33) ?_).2.2; exact (by (with_reducible repeat (first | apply Kd.R_alloc | apply Kd.R_drewN | apply Kd.R_drew)); exact (Kd.R_mono (Kd.R_far (p := ⟨gb162, 3, none⟩) (Kd.R_far (p := ⟨gb162, 2, none⟩) (Kd.R_far (p := ⟨gb162, 1, none⟩) (Kd.R_far (p := ⟨gb162, 0, none⟩) (Kd.R_types HO161.out BK162.out (by decide)) (fun _ hk => hk.2) (.int .i64 2)) (fun _ hk => hk.2) (.int .i64 258)) (fun _ hk => hk.2) (.int .i64 7)) (fun _ hk => hk.2) (.slice Ao33 y159.length co33)) (fun _ h_ => h_.1)))); (case side2 => exact (Kd.R_reads' HO161.out).2.1); rintro e w36 ⟨rfl, hb⟩; refine ⟨_, rfl, ?_⟩; have n0_ := Aside0.mk (Kd.R_below (by (with_reducible repeat (first | apply Kd.R_alloc | apply Kd.R_drewN | apply Kd.R_drew)); exact (Kd.R_mono (Kd.R_far (p := ⟨gb162, 3, none⟩) (Kd.R_far (p := ⟨gb162, 2, none⟩) (Kd.R_far (p := ⟨gb162, 1, none⟩) (Kd.R_far (p := ⟨gb162, 0, none⟩) (Kd.R_types HO161.out BK162.out (by decide)) (fun _ hk => hk.2) (.int .i64 2)) (fun _ hk => hk.2) (.int .i64 258)) (fun _ hk => hk.2) (.int .i64 7)) (fun _ hk => hk.2) (.slice Ao33 y159.length co33)) (fun _ h_ => h_.1))) hb); have n1_ := Aside0.mk (blk_below (g := gb162) (o := .cells #[.int .i64 2, .int .i64 258, .int .i64 7, .slice Ao33 y159.length co33] 24 (0, 0)) (by (with_reducible repeat (first | refine blk_drewN ?_ _ | refine blk_drew ?_ | refine blk_alloc ?_ _)); refine blk_put (cs := #[.int .i64 2, .int .i64 258, .int .i64 7, .slice none 0 0]) ?_ 3 _ rfl; (with_reducible repeat (first | refine blk_drewN ?_ _ | refine blk_drew ?_ | refine blk_alloc ?_ _)); refine blk_put (cs := #[.int .i64 2, .int .i64 258, .int .i64 0, .slice none 0 0]) ?_ 2 _ rfl; (with_reducible repeat (first | refine blk_drewN ?_ _ | refine blk_drew ?_ | refine blk_alloc ?_ _)); refine blk_put (cs := #[.int .i64 2, .int .i64 0, .int .i64 0, .slice none 0 0]) ?_ 1 _ rfl; (with_reducible repeat (first | refine blk_drewN ?_ _ | refine blk_drew ?_ | refine blk_alloc ?_ _)); refine blk_put (cs := #[.int .i64 0, .int .i64 0, .int .i64 0, .slice none 0 0]) ?_ 0 _ rfl; (with_reducible repeat (first | refine blk_drewN ?_ _ | refine blk_drew ?_ | refine blk_alloc ?_ _)); exact BK162.out) hb); have n2_ := Aside0.mk (below_step (by repeat (first | (with_reducible first | exact HB.out | apply below_alloc | apply pw_below_drewN | apply below_drew1 | refine below_set ?_ GE162.out) | exact HB.out)) hb); clear HO161; clear BK162; clear HB; have HO161 := n0_; have BK162 := n1_; have HB := n2_; clear n0_ n1_ n2_; (try clear hb); (try clear hb2); (try clear hk); (try clear hi)) | ((with_reducible refine gate_callee (f := 15) rfl ?_); refine goesL_ (some 26) rfl rfl Try.func15 (by kernel_rfl) rfl #[.string (((⟨#[122, 122]⟩ : ByteArray) ++ t163) ++ (⟨#[122]⟩ : ByteArray)), .int .i64 2] rfl (by (try simp only [List.map_toArray, List.map_cons, List.map_nil]); first | done | rfl | (simp only [List.length_drop, List.length_take]; rfl)) ?_; (with_reducible refine (lsa_Get.calls k (((⟨#[122, 122]⟩ : ByteArray) ++ t163) ++ (⟨#[122]⟩ : ByteArray)) 2 t165 t166 t167 t168 t171 t172 _ A4.out).mono ?_); rintro e w37 ⟨v169, rfl, ho0, hb⟩; refine ⟨_, rfl, ?_⟩; have n0_ := Aside0.mk (Kd.R_elder' (by (with_reducible repeat (first | apply Kd.R_alloc | apply Kd.R_drewN | apply Kd.R_drew)); exact HO161.out) (Kd.R_base ho0) hb); have n1_ := Aside0.mk (Kd.R_lower (Kd.R_new' ho0 (Kd.R_lt (by (with_reducible repeat (first | apply Kd.R_alloc | apply Kd.R_drewN | apply Kd.R_drew)); exact HO161.out))) (below_size (by repeat (first | (with_reducible first | exact HB.out | apply below_alloc | apply pw_below_drewN | apply below_drew1 | refine below_set ?_ GE162.out) | exact HB.out)))); have n2_ := Aside0.mk (blk_below (g := gb162) (o := .cells #[.int .i64 2, .int .i64 258, .int .i64 7, .slice Ao33 y159.length co33] 24 (0, 0)) (by (with_reducible repeat (first | refine blk_drewN ?_ _ | refine blk_drew ?_ | refine blk_alloc ?_ _)); exact BK162.out) hb); have n3_ := Aside0.mk (below_step (by repeat (first | (with_reducible first | exact HB.out | apply below_alloc | apply pw_below_drewN | apply below_drew1 | refine below_set ?_ GE162.out) | exact HB.out)) hb); clear HO161; clear BK162; clear HB; have HO161 := n0_; have HO170 := n1_; have BK162 := n2_; have HB := n3_; clear n0_ n1_ n2_ n3_; (try clear hb); (try clear hb2); (try clear hk); (try clear hi); (try clear ho0)) | ((with_reducible refine gate_dst (N := 4) rfl ?_); refine box_event ?hg (N := 4) ?hd (cs := #[.int .i64 0, .int .i64 0, .int .i64 0, .slice none 0 0]) (t := 24) ?hr ?_; (case hd => rfl); (case hg => rfl); (case hr => first | (go_simp; done) | (go_simp; rfl)); intro gb173 hg w38 hbox hb; have n0_ := Aside0.mk (Kd.R_below (by (with_reducible repeat (first | apply Kd.R_alloc | apply Kd.R_drewN | apply Kd.R_drew)); exact HO161.out) hb); have n1_ := Aside0.mk (Kd.R_below (by (with_reducible repeat (first | apply Kd.R_alloc | apply Kd.R_drewN | apply Kd.R_drew)); exact HO170.out) hb); have n2_ := Aside0.mk (blk_below (g := gb162) (o := .cells #[.int .i64 2, .int .i64 258, .int .i64 7, .slice Ao33 y159.length co33] 24 (0, 0)) (by (with_reducible repeat (first | refine blk_drewN ?_ _ | refine blk_drew ?_ | refine blk_alloc ?_ _)); exact BK162.out) hb); have n3_ := Aside0.mk (below_step (by repeat (first | (with_reducible first | exact HB.out | apply below_alloc | apply pw_below_drewN | apply below_drew1 | refine below_set ?_ GE162.out) | exact HB.out)) hb); have n4_ := Aside0.mk (hbox); have n5_ := Aside0.mk ((by rw [hg]; exact (below_size (by repeat (first | (with_reducible first | exact HB.out | apply below_alloc | apply pw_below_drewN | apply below_drew1 | refine below_set ?_ GE162.out) | exact HB.out))) : w.heap.size ≤ gb173)); have n6_ := Aside0.mk ((by rw [hg]; exact (below_size (by repeat (first | (with_reducible first | exact HB.out | apply below_alloc | apply pw_below_drewN | apply below_drew1 | refine below_set ?_ GE162.out) | exact HB.out))) : w.heap.size ≤ gb173)); have n7_ := Aside0.mk ((by rw [hg]; exact Nat.ne_of_lt (blk_lt (g := gb162) (o := .cells #[.int .i64 2, .int .i64 258, .int .i64 7, .slice Ao33 y159.length co33] 24 (0, 0)) (by (with_reducible repeat (first | refine blk_drewN ?_ _ | refine blk_drew ?_ | refine blk_alloc ?_ _)); exact BK162.out)) : gb162 ≠ gb173)); have n8_ := Aside0.mk ((by rw [hg]; exact Nat.ne_of_gt (blk_lt (g := gb162) (o := .cells #[.int .i64 2, .int .i64 258, .int .i64 7, .slice Ao33 y159.length co33] 24 (0, 0)) (by (with_reducible repeat (first | refine blk_drewN ?_ _ | refine blk_drew ?_ | refine blk_alloc ?_ _)); exact BK162.out)) : gb173 ≠ gb162)); clear HO161; clear HO170; clear BK162; clear HB; have HO161 := n0_; have HO170 := n1_; have BK162 := n2_; have HB := n3_; have BK173 := n4_; have GW173 := n5_; have GE173 := n6_; have NB162_173 := n7_; have NB173_162 := n8_; clear n0_ n1_ n2_ n3_ n4_ n5_ n6_ n7_ n8_; clear hb hbox hg; have hnb39 := NB173_162.out; have hnc39 := NB162_173.out; have hcz40_0 : w38.cell? ⟨gb173, 0, none⟩ = some (.int .i64 0) := (blk_cell BK173.out 0).trans rfl; have hcz40_1 : w38.cell? ⟨gb173, 1, none⟩ = some (.int .i64 0) := (blk_cell BK173.out 1).trans rfl; have hcz40_2 : w38.cell? ⟨gb173, 2, none⟩ = some (.int .i64 0) := (blk_cell BK173.out 2).trans rfl; have hcz40_3 : w38.cell? ⟨gb173, 3, none⟩ = some (.slice none 0 0) := (blk_cell BK173.out 3).trans rfl; have hfz40_0 := blk_frozen BK173.out 0; have hfz40_1 := blk_frozen BK173.out 1; have hfz40_2 := blk_frozen BK173.out 2; have hfz40_3 := blk_frozen BK173.out 3; obtain ⟨Ao41, co41, eo41⟩ := Kd.R_slice HO170.out; subst eo41; have hcz42_0 : w38.cell? ⟨gb162, 0, none⟩ = some (.int .i64 2) := (blk_cell BK162.out 0).trans rfl; have hcz42_1 : w38.cell? ⟨gb162, 1, none⟩ = some (.int .i64 258) := (blk_cell BK162.out 1).trans rfl; have hcz42_2 : w38.cell? ⟨gb162, 2, none⟩ = some (.int .i64 7) := (blk_cell BK162.out 2).trans rfl; have hcz42_3 : w38.cell? ⟨gb162, 3, none⟩ = some (.slice Ao33 y159.length co33) := (blk_cell BK162.out 3).trans rfl; have hfz42_0 := blk_frozen BK162.out 0; have hfz42_1 := blk_frozen BK162.out 1; have hfz42_2 := blk_frozen BK162.out 2; have hfz42_3 := blk_frozen BK162.out 3) | ((with_reducible refine gate_callee (f := 17) rfl ?_); refine goesL_ (some 32) rfl rfl Try.func17 (by kernel_rfl) rfl #[.agg #[.int .i64 2, .int .i64 258, .int .i64 7, .slice Ao33 y159.length co33]] rfl (by (try simp only [List.map_toArray, List.map_cons, List.map_nil]); first | done | rfl | (simp only [List.length_drop, List.length_take]; rfl)) ?_; (with_reducible refine (lsa_Head.calls k 2 258 7 _ _ y159 t174 t175 t176 t177 t178 _ ?side1 ?side2 A5.out).mono ?_); (case side1 => refine (Kd.R_reads' (e := 49) (base := w.heap.size) (ok := fun k_ => (True ∧ some k_ ≠ (.slice Ao41 t168.length co41 : Value).ownBlock)) (n := y159.length) (c := co33) ?_).2.2; exact (by (with_reducible repeat (first | apply Kd.R_alloc | apply Kd.R_drewN | apply Kd.R_drew)); exact (Kd.R_mono (Kd.R_far (p := ⟨gb173, 3, none⟩) (Kd.R_far (p := ⟨gb173, 2, none⟩) (Kd.R_far (p := ⟨gb173, 1, none⟩) (Kd.R_far (p := ⟨gb173, 0, none⟩) (Kd.R_types HO161.out BK173.out (by decide)) (fun _ hk => hk.2) (.int .i64 t165)) (fun _ hk => hk.2) (.int .i64 t166)) (fun _ hk => hk.2) (.int .i64 t167)) (fun _ hk => hk.2) (.slice Ao41 t168.length co41)) (fun _ h_ => h_.1)))); (case side2 => exact (Kd.R_reads' HO161.out).2.1); rintro e w43 ⟨rfl, hb⟩; refine ⟨_, rfl, ?_⟩; have n0_ := Aside0.mk (Kd.R_below (by (with_reducible repeat (first | apply Kd.R_alloc | apply Kd.R_drewN | apply Kd.R_drew)); exact (Kd.R_mono (Kd.R_far (p := ⟨gb173, 3, none⟩) (Kd.R_far (p := ⟨gb173, 2, none⟩) (Kd.R_far (p := ⟨gb173, 1, none⟩) (Kd.R_far (p := ⟨gb173, 0, none⟩) (Kd.R_types HO161.out BK173.out (by decide)) (fun _ hk => hk.2) (.int .i64 t165)) (fun _ hk => hk.2) (.int .i64 t166)) (fun _ hk => hk.2) (.int .i64 t167)) (fun _ hk => hk.2) (.slice Ao41 t168.length co41)) (fun _ h_ => h_.1))) hb); have n1_ := Aside0.mk (Kd.R_below (by (with_reducible repeat (first | apply Kd.R_alloc | apply Kd.R_drewN | apply Kd.R_drew)); exact (Kd.R_mono (Kd.R_far (p := ⟨gb173, 3, none⟩) (Kd.R_far (p := ⟨gb173, 2, none⟩) (Kd.R_far (p := ⟨gb173, 1, none⟩) (Kd.R_far (p := ⟨gb173, 0, none⟩) (Kd.R_types HO170.out BK173.out (by decide)) (fun _ hk => hk.2) (.int .i64 t165)) (fun _ hk => hk.2) (.int .i64 t166)) (fun _ hk => hk.2) (.int .i64 t167)) (fun _ hk => hk.2) (.slice Ao41 t168.length co41)) (fun _ h_ => h_.1))) hb); have n2_ := Aside0.mk (blk_below (g := gb162) (o := .cells #[.int .i64 2, .int .i64 258, .int .i64 7, .slice Ao33 y159.length co33] 24 (0, 0)) (by (with_reducible repeat (first | refine blk_drewN ?_ _ | refine blk_drew ?_ | refine blk_alloc ?_ _)); refine blk_far ?_ NB162_173.out _; (with_reducible repeat (first | refine blk_drewN ?_ _ | refine blk_drew ?_ | refine blk_alloc ?_ _)); refine blk_far ?_ NB162_173.out _; (with_reducible repeat (first | refine blk_drewN ?_ _ | refine blk_drew ?_ | refine blk_alloc ?_ _)); refine blk_far ?_ NB162_173.out _; (with_reducible repeat (first | refine blk_drewN ?_ _ | refine blk_drew ?_ | refine blk_alloc ?_ _)); refine blk_far ?_ NB162_173.out _; (with_reducible repeat (first | refine blk_drewN ?_ _ | refine blk_drew ?_ | refine blk_alloc ?_ _)); exact BK162.out) hb); have n3_ := Aside0.mk (blk_below (g := gb173) (o := .cells #[.int .i64 t165, .int .i64 t166, .int .i64 t167, .slice Ao41 t168.length co41] 24 (0, 0)) (by (with_reducible repeat (first | refine blk_drewN ?_ _ | refine blk_drew ?_ | refine blk_alloc ?_ _)); refine blk_put (cs := #[.int .i64 t165, .int .i64 t166, .int .i64 t167, .slice none 0 0]) ?_ 3 _ rfl; (with_reducible repeat (first | refine blk_drewN ?_ _ | refine blk_drew ?_ | refine blk_alloc ?_ _)); refine blk_put (cs := #[.int .i64 t165, .int .i64 t166, .int .i64 0, .slice none 0 0]) ?_ 2 _ rfl; (with_reducible repeat (first | refine blk_drewN ?_ _ | refine blk_drew ?_ | refine blk_alloc ?_ _)); refine blk_put (cs := #[.int .i64 t165, .int .i64 0, .int .i64 0, .slice none 0 0]) ?_ 1 _ rfl; (with_reducible repeat (first | refine blk_drewN ?_ _ | refine blk_drew ?_ | refine blk_alloc ?_ _)); refine blk_put (cs := #[.int .i64 0, .int .i64 0, .int .i64 0, .slice none 0 0]) ?_ 0 _ rfl; (with_reducible repeat (first | refine blk_drewN ?_ _ | refine blk_drew ?_ | refine blk_alloc ?_ _)); exact BK173.out) hb); have n4_ := Aside0.mk (below_step (by repeat (first | (with_reducible first | exact HB.out | apply below_alloc | apply pw_below_drewN | apply below_drew1 | refine below_set ?_ GE162.out | refine below_set ?_ GE173.out) | exact HB.out)) hb); clear HO161; clear HO170; clear BK162; clear BK173; clear HB; have HO161 := n0_; have HO170 := n1_; have BK162 := n2_; have BK173 := n3_; have HB := n4_; clear n0_ n1_ n2_ n3_ n4_; (try clear hb); (try clear hb2); (try clear hk); (try clear hi)) | ((with_reducible refine gate_dst (N := 7) rfl ?_); refine box_event ?hg (N := 7) ?hd (cs := #[.int .i64 0, .int .i64 0, .int .i64 0, .int .i64 0]) (t := 36) ?hr ?_; (case hd => rfl); (case hg => rfl); (case hr => first | (go_simp; done) | (go_simp; rfl)); intro gb179 hg w44 hbox hb; have n0_ := Aside0.mk (Kd.R_below (by (with_reducible repeat (first | apply Kd.R_alloc | apply Kd.R_drewN | apply Kd.R_drew)); exact HO161.out) hb); have n1_ := Aside0.mk (Kd.R_below (by (with_reducible repeat (first | apply Kd.R_alloc | apply Kd.R_drewN | apply Kd.R_drew)); exact HO170.out) hb); have n2_ := Aside0.mk (blk_below (g := gb162) (o := .cells #[.int .i64 2, .int .i64 258, .int .i64 7, .slice Ao33 y159.length co33] 24 (0, 0)) (by (with_reducible repeat (first | refine blk_drewN ?_ _ | refine blk_drew ?_ | refine blk_alloc ?_ _)); exact BK162.out) hb); have n3_ := Aside0.mk (blk_below (g := gb173) (o := .cells #[.int .i64 t165, .int .i64 t166, .int .i64 t167, .slice Ao41 t168.length co41] 24 (0, 0)) (by (with_reducible repeat (first | refine blk_drewN ?_ _ | refine blk_drew ?_ | refine blk_alloc ?_ _)); exact BK173.out) hb); have n4_ := Aside0.mk (below_step (by repeat (first | (with_reducible first | exact HB.out | apply below_alloc | apply pw_below_drewN | apply below_drew1 | refine below_set ?_ GE162.out | refine below_set ?_ GE173.out) | exact HB.out)) hb); have n5_ := Aside0.mk (hbox); have n6_ := Aside0.mk ((by rw [hg]; exact (below_size (by repeat (first | (with_reducible first | exact HB.out | apply below_alloc | apply pw_below_drewN | apply below_drew1 | refine below_set ?_ GE162.out | refine below_set ?_ GE173.out) | exact HB.out))) : w.heap.size ≤ gb179)); have n7_ := Aside0.mk ((by rw [hg]; exact (below_size (by repeat (first | (with_reducible first | exact HB.out | apply below_alloc | apply pw_below_drewN | apply below_drew1 | refine below_set ?_ GE162.out | refine below_set ?_ GE173.out) | exact HB.out))) : w.heap.size ≤ gb179)); have n8_ := Aside0.mk ((by rw [hg]; exact Nat.ne_of_lt (blk_lt (g := gb162) (o := .cells #[.int .i64 2, .int .i64 258, .int .i64 7, .slice Ao33 y159.length co33] 24 (0, 0)) (by (with_reducible repeat (first | refine blk_drewN ?_ _ | refine blk_drew ?_ | refine blk_alloc ?_ _)); exact BK162.out)) : gb162 ≠ gb179)); have n9_ := Aside0.mk ((by rw [hg]; exact Nat.ne_of_gt (blk_lt (g := gb162) (o := .cells #[.int .i64 2, .int .i64 258, .int .i64 7, .slice Ao33 y159.length co33] 24 (0, 0)) (by (with_reducible repeat (first | refine blk_drewN ?_ _ | refine blk_drew ?_ | refine blk_alloc ?_ _)); exact BK162.out)) : gb179 ≠ gb162)); have n10_ := Aside0.mk ((by rw [hg]; exact Nat.ne_of_lt (blk_lt (g := gb173) (o := .cells #[.int .i64 t165, .int .i64 t166, .int .i64 t167, .slice Ao41 t168.length co41] 24 (0, 0)) (by (with_reducible repeat (first | refine blk_drewN ?_ _ | refine blk_drew ?_ | refine blk_alloc ?_ _)); exact BK173.out)) : gb173 ≠ gb179)); have n11_ := Aside0.mk ((by rw [hg]; exact Nat.ne_of_gt (blk_lt (g := gb173) (o := .cells #[.int .i64 t165, .int .i64 t166, .int .i64 t167, .slice Ao41 t168.length co41] 24 (0, 0)) (by (with_reducible repeat (first | refine blk_drewN ?_ _ | refine blk_drew ?_ | refine blk_alloc ?_ _)); exact BK173.out)) : gb179 ≠ gb173)); clear HO161; clear HO170; clear BK162; clear BK173; clear HB; have HO161 := n0_; have HO170 := n1_; have BK162 := n2_; have BK173 := n3_; have HB := n4_; have BK179 := n5_; have GW179 := n6_; have GE179 := n7_; have NB162_179 := n8_; have NB179_162 := n9_; have NB173_179 := n10_; have NB179_173 := n11_; clear n0_ n1_ n2_ n3_ n4_ n5_ n6_ n7_ n8_ n9_ n10_ n11_; clear hb hbox hg; have hnb45 := NB179_162.out; have hnc45 := NB162_179.out; have hnb46 := NB179_173.out; have hnc46 := NB173_179.out; have hcz47_0 : w44.cell? ⟨gb179, 0, none⟩ = some (.int .i64 0) := (blk_cell BK179.out 0).trans rfl; have hcz47_1 : w44.cell? ⟨gb179, 1, none⟩ = some (.int .i64 0) := (blk_cell BK179.out 1).trans rfl; have hcz47_2 : w44.cell? ⟨gb179, 2, none⟩ = some (.int .i64 0) := (blk_cell BK179.out 2).trans rfl; have hcz47_3 : w44.cell? ⟨gb179, 3, none⟩ = some (.int .i64 0) := (blk_cell BK179.out 3).trans rfl; have hfz47_0 := blk_frozen BK179.out 0; have hfz47_1 := blk_frozen BK179.out 1; have hfz47_2 := blk_frozen BK179.out 2; have hfz47_3 := blk_frozen BK179.out 3) | ((with_reducible refine gate_callee (f := 13) rfl ?_); refine goesL_ (some 37) rfl rfl Try.func13 (by kernel_rfl) rfl #[.agg #[.int .i64 0, .int .i64 0, .int .i64 0, .slice none 0 0]] rfl (by (try simp only [List.map_toArray, List.map_cons, List.map_nil]); first | done | rfl | (simp only [List.length_drop, List.length_take]; rfl)) ?_; (refine (lsa_Put.calls k 0 0 0 _ _ ([] : List (S49)) t180 t181 _ ?side1 ?side2 A6.out).mono ?_); (case side1 => exact Kd.C_nil _ _); (case side2 => exact Nat.le_refl _); rintro e w48 ⟨rfl, hb⟩; refine ⟨_, rfl, ?_⟩; have n0_ := Aside0.mk (Kd.R_below (by (with_reducible repeat (first | apply Kd.R_alloc | apply Kd.R_drewN | apply Kd.R_drew)); exact (Kd.R_mono (Kd.R_far (p := ⟨gb179, 3, none⟩) (Kd.R_far (p := ⟨gb179, 2, none⟩) (Kd.R_far (p := ⟨gb179, 1, none⟩) (Kd.R_far (p := ⟨gb179, 0, none⟩) (Kd.R_types HO161.out BK179.out (by decide)) (fun _ hk => hk.2) (.int .i64 t174)) (fun _ hk => hk.2) (.int .i64 t175)) (fun _ hk => hk.2) (.int .i64 t176)) (fun _ hk => hk.2) (.int .i64 t177)) (fun _ h_ => h_.1))) hb); have n1_ := Aside0.mk (Kd.R_below (by (with_reducible repeat (first | apply Kd.R_alloc | apply Kd.R_drewN | apply Kd.R_drew)); exact (Kd.R_mono (Kd.R_far (p := ⟨gb179, 3, none⟩) (Kd.R_far (p := ⟨gb179, 2, none⟩) (Kd.R_far (p := ⟨gb179, 1, none⟩) (Kd.R_far (p := ⟨gb179, 0, none⟩) (Kd.R_types HO170.out BK179.out (by decide)) (fun _ hk => hk.2) (.int .i64 t174)) (fun _ hk => hk.2) (.int .i64 t175)) (fun _ hk => hk.2) (.int .i64 t176)) (fun _ hk => hk.2) (.int .i64 t177)) (fun _ h_ => h_.1))) hb); have n2_ := Aside0.mk (blk_below (g := gb162) (o := .cells #[.int .i64 2, .int .i64 258, .int .i64 7, .slice Ao33 y159.length co33] 24 (0, 0)) (by (with_reducible repeat (first | refine blk_drewN ?_ _ | refine blk_drew ?_ | refine blk_alloc ?_ _)); refine blk_far ?_ NB162_179.out _; (with_reducible repeat (first | refine blk_drewN ?_ _ | refine blk_drew ?_ | refine blk_alloc ?_ _)); refine blk_far ?_ NB162_179.out _; (with_reducible repeat (first | refine blk_drewN ?_ _ | refine blk_drew ?_ | refine blk_alloc ?_ _)); refine blk_far ?_ NB162_179.out _; (with_reducible repeat (first | refine blk_drewN ?_ _ | refine blk_drew ?_ | refine blk_alloc ?_ _)); refine blk_far ?_ NB162_179.out _; (with_reducible repeat (first | refine blk_drewN ?_ _ | refine blk_drew ?_ | refine blk_alloc ?_ _)); exact BK162.out) hb); have n3_ := Aside0.mk (blk_below (g := gb173) (o := .cells #[.int .i64 t165, .int .i64 t166, .int .i64 t167, .slice Ao41 t168.length co41] 24 (0, 0)) (by (with_reducible repeat (first | refine blk_drewN ?_ _ | refine blk_drew ?_ | refine blk_alloc ?_ _)); refine blk_far ?_ NB173_179.out _; (with_reducible repeat (first | refine blk_drewN ?_ _ | refine blk_drew ?_ | refine blk_alloc ?_ _)); refine blk_far ?_ NB173_179.out _; (with_reducible repeat (first | refine blk_drewN ?_ _ | refine blk_drew ?_ | refine blk_alloc ?_ _)); refine blk_far ?_ NB173_179.out _; (with_reducible repeat (first | refine blk_drewN ?_ _ | refine blk_drew ?_ | refine blk_alloc ?_ _)); refine blk_far ?_ NB173_179.out _; (with_reducible repeat (first | refine blk_drewN ?_ _ | refine blk_drew ?_ | refine blk_alloc ?_ _)); exact BK173.out) hb); have n4_ := Aside0.mk (blk_below (g := gb179) (o := .cells #[.int .i64 t174, .int .i64 t175, .int .i64 t176, .int .i64 t177] 36 (0, 0)) (by (with_reducible repeat (first | refine blk_drewN ?_ _ | refine blk_drew ?_ | refine blk_alloc ?_ _)); refine blk_put (cs := #[.int .i64 t174, .int .i64 t175, .int .i64 t176, .int .i64 0]) ?_ 3 _ rfl; (with_reducible repeat (first | refine blk_drewN ?_ _ | refine blk_drew ?_ | refine blk_alloc ?_ _)); refine blk_put (cs := #[.int .i64 t174, .int .i64 t175, .int .i64 0, .int .i64 0]) ?_ 2 _ rfl; (with_reducible repeat (first | refine blk_drewN ?_ _ | refine blk_drew ?_ | refine blk_alloc ?_ _)); refine blk_put (cs := #[.int .i64 t174, .int .i64 0, .int .i64 0, .int .i64 0]) ?_ 1 _ rfl; (with_reducible repeat (first | refine blk_drewN ?_ _ | refine blk_drew ?_ | refine blk_alloc ?_ _)); refine blk_put (cs := #[.int .i64 0, .int .i64 0, .int .i64 0, .int .i64 0]) ?_ 0 _ rfl; (with_reducible repeat (first | refine blk_drewN ?_ _ | refine blk_drew ?_ | refine blk_alloc ?_ _)); exact BK179.out) hb); have n5_ := Aside0.mk (below_step (by repeat (first | (with_reducible first | exact HB.out | apply below_alloc | apply pw_below_drewN | apply below_drew1 | refine below_set ?_ GE162.out | refine below_set ?_ GE173.out | refine below_set ?_ GE179.out) | exact HB.out)) hb); clear HO161; clear HO170; clear BK162; clear BK173; clear BK179; clear HB; have HO161 := n0_; have HO170 := n1_; have BK162 := n2_; have BK173 := n3_; have BK179 := n4_; have HB := n5_; clear n0_ n1_ n2_ n3_ n4_ n5_; (try clear hb); (try clear hb2); (try clear hk); (try clear hi)) | ((with_reducible refine gate_callee (f := 15) rfl ?_); refine goesL_ (some 41) rfl rfl Try.func15 (by kernel_rfl) rfl #[.string (⟨#[]⟩ : ByteArray), .int .i64 0] rfl (by (try simp only [List.map_toArray, List.map_cons, List.map_nil]); first | done | rfl | (simp only [List.length_drop, List.length_take]; rfl)) ?_; (with_reducible refine (lsa_Get.calls k (⟨#[]⟩ : ByteArray) 0 t182 t183 t184 t185 t188 t189 _ A7.out).mono ?_); rintro e w49 ⟨v186, rfl, ho0, hb⟩; refine ⟨_, rfl, ?_⟩; have n0_ := Aside0.mk (Kd.R_elder' (by (with_reducible repeat (first | apply Kd.R_alloc | apply Kd.R_drewN | apply Kd.R_drew)); exact HO161.out) (Kd.R_base ho0) hb); have n1_ := Aside0.mk (Kd.R_elder' (by (with_reducible repeat (first | apply Kd.R_alloc | apply Kd.R_drewN | apply Kd.R_drew)); exact HO170.out) (Kd.R_base ho0) hb); have n2_ := Aside0.mk (Kd.R_lower (Kd.R_new' (Kd.R_new' ho0 (Kd.R_lt (by (with_reducible repeat (first | apply Kd.R_alloc | apply Kd.R_drewN | apply Kd.R_drew)); exact HO161.out))) (Kd.R_lt (by (with_reducible repeat (first | apply Kd.R_alloc | apply Kd.R_drewN | apply Kd.R_drew)); exact HO170.out))) (below_size (by repeat (first | (with_reducible first | exact HB.out | apply below_alloc | apply pw_below_drewN | apply below_drew1 | refine below_set ?_ GE162.out | refine below_set ?_ GE173.out | refine below_set ?_ GE179.out) | exact HB.out)))); have n3_ := Aside0.mk (blk_below (g := gb162) (o := .cells #[.int .i64 2, .int .i64 258, .int .i64 7, .slice Ao33 y159.length co33] 24 (0, 0)) (by (with_reducible repeat (first | refine blk_drewN ?_ _ | refine blk_drew ?_ | refine blk_alloc ?_ _)); exact BK162.out) hb); have n4_ := Aside0.mk (blk_below (g := gb173) (o := .cells #[.int .i64 t165, .int .i64 t166, .int .i64 t167, .slice Ao41 t168.length co41] 24 (0, 0)) (by (with_reducible repeat (first | refine blk_drewN ?_ _ | refine blk_drew ?_ | refine blk_alloc ?_ _)); exact BK173.out) hb); have n5_ := Aside0.mk (blk_below (g := gb179) (o := .cells #[.int .i64 t174, .int .i64 t175, .int .i64 t176, .int .i64 t177] 36 (0, 0)) (by (with_reducible repeat (first | refine blk_drewN ?_ _ | refine blk_drew ?_ | refine blk_alloc ?_ _)); exact BK179.out) hb); have n6_ := Aside0.mk (below_step (by repeat (first | (with_reducible first | exact HB.out | apply below_alloc | apply pw_below_drewN | apply below_drew1 | refine below_set ?_ GE162.out | refine below_set ?_ GE173.out | refine below_set ?_ GE179.out) | exact HB.out)) hb); clear HO161; clear HO170; clear BK162; clear BK173; clear BK179; clear HB; have HO161 := n0_; have HO170 := n1_; have HO187 := n2_; have BK162 := n3_; have BK173 := n4_; have BK179 := n5_; have HB := n6_; clear n0_ n1_ n2_ n3_ n4_ n5_ n6_; (try clear hb); (try clear hb2); (try clear hk); (try clear hi); (try clear ho0)) | ((with_reducible refine gate_dst (N := 11) rfl ?_); refine box_event ?hg (N := 11) ?hd (cs := #[.int .i64 0, .int .i64 0, .int .i64 0, .slice none 0 0]) (t := 24) ?hr ?_; (case hd => rfl); (case hg => rfl); (case hr => first | (go_simp; done) | (go_simp; rfl)); intro gb190 hg w50 hbox hb; have n0_ := Aside0.mk (Kd.R_below (by (with_reducible repeat (first | apply Kd.R_alloc | apply Kd.R_drewN | apply Kd.R_drew)); exact HO161.out) hb); have n1_ := Aside0.mk (Kd.R_below (by (with_reducible repeat (first | apply Kd.R_alloc | apply Kd.R_drewN | apply Kd.R_drew)); exact HO170.out) hb); have n2_ := Aside0.mk (Kd.R_below (by (with_reducible repeat (first | apply Kd.R_alloc | apply Kd.R_drewN | apply Kd.R_drew)); exact HO187.out) hb); have n3_ := Aside0.mk (blk_below (g := gb162) (o := .cells #[.int .i64 2, .int .i64 258, .int .i64 7, .slice Ao33 y159.length co33] 24 (0, 0)) (by (with_reducible repeat (first | refine blk_drewN ?_ _ | refine blk_drew ?_ | refine blk_alloc ?_ _)); exact BK162.out) hb); have n4_ := Aside0.mk (blk_below (g := gb173) (o := .cells #[.int .i64 t165, .int .i64 t166, .int .i64 t167, .slice Ao41 t168.length co41] 24 (0, 0)) (by (with_reducible repeat (first | refine blk_drewN ?_ _ | refine blk_drew ?_ | refine blk_alloc ?_ _)); exact BK173.out) hb); have n5_ := Aside0.mk (blk_below (g := gb179) (o := .cells #[.int .i64 t174, .int .i64 t175, .int .i64 t176, .int .i64 t177] 36 (0, 0)) (by (with_reducible repeat (first | refine blk_drewN ?_ _ | refine blk_drew ?_ | refine blk_alloc ?_ _)); exact BK179.out) hb); have n6_ := Aside0.mk (below_step (by repeat (first | (with_reducible first | exact HB.out | apply below_alloc | apply pw_below_drewN | apply below_drew1 | refine below_set ?_ GE162.out | refine below_set ?_ GE173.out | refine below_set ?_ GE179.out) | exact HB.out)) hb); have n7_ := Aside0.mk (hbox); have n8_ := Aside0.mk ((by rw [hg]; exact (below_size (by repeat (first | (with_reducible first | exact HB.out | apply below_alloc | apply pw_below_drewN | apply below_drew1 | refine below_set ?_ GE162.out | refine below_set ?_ GE173.out | refine below_set ?_ GE179.out) | exact HB.out))) : w.heap.size ≤ gb190)); have n9_ := Aside0.mk ((by rw [hg]; exact (below_size (by repeat (first | (with_reducible first | exact HB.out | apply below_alloc | apply pw_below_drewN | apply below_drew1 | refine below_set ?_ GE162.out | refine below_set ?_ GE173.out | refine below_set ?_ GE179.out) | exact HB.out))) : w.heap.size ≤ gb190)); have n10_ := Aside0.mk ((by rw [hg]; exact Nat.ne_of_lt (blk_lt (g := gb162) (o := .cells #[.int .i64 2, .int .i64 258, .int .i64 7, .slice Ao33 y159.length co33] 24 (0, 0)) (by (with_reducible repeat (first | refine blk_drewN ?_ _ | refine blk_drew ?_ | refine blk_alloc ?_ _)); exact BK162.out)) : gb162 ≠ gb190)); have n11_ := Aside0.mk ((by rw [hg]; exact Nat.ne_of_gt (blk_lt (g := gb162) (o := .cells #[.int .i64 2, .int .i64 258, .int .i64 7, .slice Ao33 y159.length co33] 24 (0, 0)) (by (with_reducible repeat (first | refine blk_drewN ?_ _ | refine blk_drew ?_ | refine blk_alloc ?_ _)); exact BK162.out)) : gb190 ≠ gb162)); have n12_ := Aside0.mk ((by rw [hg]; exact Nat.ne_of_lt (blk_lt (g := gb173) (o := .cells #[.int .i64 t165, .int .i64 t166, .int .i64 t167, .slice Ao41 t168.length co41] 24 (0, 0)) (by (with_reducible repeat (first | refine blk_drewN ?_ _ | refine blk_drew ?_ | refine blk_alloc ?_ _)); exact BK173.out)) : gb173 ≠ gb190)); have n13_ := Aside0.mk ((by rw [hg]; exact Nat.ne_of_gt (blk_lt (g := gb173) (o := .cells #[.int .i64 t165, .int .i64 t166, .int .i64 t167, .slice Ao41 t168.length co41] 24 (0, 0)) (by (with_reducible repeat (first | refine blk_drewN ?_ _ | refine blk_drew ?_ | refine blk_alloc ?_ _)); exact BK173.out)) : gb190 ≠ gb173)); have n14_ := Aside0.mk ((by rw [hg]; exact Nat.ne_of_lt (blk_lt (g := gb179) (o := .cells #[.int .i64 t174, .int .i64 t175, .int .i64 t176, .int .i64 t177] 36 (0, 0)) (by (with_reducible repeat (first | refine blk_drewN ?_ _ | refine blk_drew ?_ | refine blk_alloc ?_ _)); exact BK179.out)) : gb179 ≠ gb190)); have n15_ := Aside0.mk ((by rw [hg]; exact Nat.ne_of_gt (blk_lt (g := gb179) (o := .cells #[.int .i64 t174, .int .i64 t175, .int .i64 t176, .int .i64 t177] 36 (0, 0)) (by (with_reducible repeat (first | refine blk_drewN ?_ _ | refine blk_drew ?_ | refine blk_alloc ?_ _)); exact BK179.out)) : gb190 ≠ gb179)); clear HO161; clear HO170; clear HO187; clear BK162; clear BK173; clear BK179; clear HB; have HO161 := n0_; have HO170 := n1_; have HO187 := n2_; have BK162 := n3_; have BK173 := n4_; have BK179 := n5_; have HB := n6_; have BK190 := n7_; have GW190 := n8_; have GE190 := n9_; have NB162_190 := n10_; have NB190_162 := n11_; have NB173_190 := n12_; have NB190_173 := n13_; have NB179_190 := n14_; have NB190_179 := n15_; clear n0_ n1_ n2_ n3_ n4_ n5_ n6_ n7_ n8_ n9_ n10_ n11_ n12_ n13_ n14_ n15_; clear hb hbox hg; have hnb51 := NB190_162.out; have hnc51 := NB162_190.out; have hnb52 := NB190_173.out; have hnc52 := NB173_190.out; have hnb53 := NB190_179.out; have hnc53 := NB179_190.out; have hcz54_0 : w50.cell? ⟨gb190, 0, none⟩ = some (.int .i64 0) := (blk_cell BK190.out 0).trans rfl; have hcz54_1 : w50.cell? ⟨gb190, 1, none⟩ = some (.int .i64 0) := (blk_cell BK190.out 1).trans rfl; have hcz54_2 : w50.cell? ⟨gb190, 2, none⟩ = some (.int .i64 0) := (blk_cell BK190.out 2).trans rfl; have hcz54_3 : w50.cell? ⟨gb190, 3, none⟩ = some (.slice none 0 0) := (blk_cell BK190.out 3).trans rfl; have hfz54_0 := blk_frozen BK190.out 0; have hfz54_1 := blk_frozen BK190.out 1; have hfz54_2 := blk_frozen BK190.out 2; have hfz54_3 := blk_frozen BK190.out 3; obtain ⟨Ao55, co55, eo55⟩ := Kd.R_slice HO187.out; subst eo55))
                 have n0_ : Aside0 (Kd.R k49 49 ((((w50.setCell ⟨gb190, 0, none⟩ (.int .i64 t182)).setCell ⟨gb190, 1, none⟩ (.int .i64 t183)).setCell ⟨gb190, 2, none⟩ (.int .i64 t184)).setCell ⟨gb190, 3, none⟩ (.slice Ao55 t185.length co55)) w.heap.size (fun k_ => some k_ ≠ (.slice Ao41 t168.length co41 : Value).ownBlock ∧ some k_ ≠ (.slice Ao55 t185.length co55 : Value).ownBlock) (.slice Ao33 y159.length co33) y159) := ⟨by (with_reducible repeat (first | apply Kd.R_alloc | apply Kd.R_drewN | apply Kd.R_drew)); exact Kd.R_mono (Kd.R_far (p := ⟨gb190, 3, none⟩) (Kd.R_far (p := ⟨gb190, 2, none⟩) (Kd.R_far (p := ⟨gb190, 1, none⟩) (Kd.R_far (p := ⟨gb190, 0, none⟩) (Kd.R_types HO161.out BK190.out (by decide)) (fun _ hk => hk.2) (.int .i64 t182)) (fun _ hk => hk.2) (.int .i64 t183)) (fun _ hk => hk.2) (.int .i64 t184)) (fun _ hk => hk.2) (.slice Ao55 t185.length co55)) (fun _ hk => ⟨hk.1.1.2, hk.1.2⟩)⟩
                 have n1_ : Aside0 (Kd.R k49 49 ((((w50.setCell ⟨gb190, 0, none⟩ (.int .i64 t182)).setCell ⟨gb190, 1, none⟩ (.int .i64 t183)).setCell ⟨gb190, 2, none⟩ (.int .i64 t184)).setCell ⟨gb190, 3, none⟩ (.slice Ao55 t185.length co55)) w.heap.size (fun k_ => some k_ ≠ (.slice Ao33 y159.length co33 : Value).ownBlock ∧ some k_ ≠ (.slice Ao55 t185.length co55 : Value).ownBlock) (.slice Ao41 t168.length co41) t168) := ⟨by (with_reducible repeat (first | apply Kd.R_alloc | apply Kd.R_drewN | apply Kd.R_drew)); exact Kd.R_mono (Kd.R_far (p := ⟨gb190, 3, none⟩) (Kd.R_far (p := ⟨gb190, 2, none⟩) (Kd.R_far (p := ⟨gb190, 1, none⟩) (Kd.R_far (p := ⟨gb190, 0, none⟩) (Kd.R_types HO170.out BK190.out (by decide)) (fun _ hk => hk.2) (.int .i64 t182)) (fun _ hk => hk.2) (.int .i64 t183)) (fun _ hk => hk.2) (.int .i64 t184)) (fun _ hk => hk.2) (.slice Ao55 t185.length co55)) (fun _ hk => ⟨hk.1.1.2, hk.1.2⟩)⟩
                 have n2_ : Aside0 (Kd.R k49 49 ((((w50.setCell ⟨gb190, 0, none⟩ (.int .i64 t182)).setCell ⟨gb190, 1, none⟩ (.int .i64 t183)).setCell ⟨gb190, 2, none⟩ (.int .i64 t184)).setCell ⟨gb190, 3, none⟩ (.slice Ao55 t185.length co55)) w.heap.size (fun k_ => some k_ ≠ (.slice Ao33 y159.length co33 : Value).ownBlock ∧ some k_ ≠ (.slice Ao41 t168.length co41 : Value).ownBlock) (.slice Ao55 t185.length co55) t185) := ⟨by (with_reducible repeat (first | apply Kd.R_alloc | apply Kd.R_drewN | apply Kd.R_drew)); exact Kd.R_mono (Kd.R_far (p := ⟨gb190, 3, none⟩) (Kd.R_far (p := ⟨gb190, 2, none⟩) (Kd.R_far (p := ⟨gb190, 1, none⟩) (Kd.R_far (p := ⟨gb190, 0, none⟩) (Kd.R_types HO187.out BK190.out (by decide)) (fun _ hk => hk.2) (.int .i64 t182)) (fun _ hk => hk.2) (.int .i64 t183)) (fun _ hk => hk.2) (.int .i64 t184)) (fun _ hk => hk.2) (.slice Ao55 t185.length co55)) (fun _ hk => ⟨hk.1.1.2, hk.1.2⟩)⟩
                 have n3_ : Aside0 (((((w50.setCell ⟨gb190, 0, none⟩ (.int .i64 t182)).setCell ⟨gb190, 1, none⟩ (.int .i64 t183)).setCell ⟨gb190, 2, none⟩ (.int .i64 t184)).setCell ⟨gb190, 3, none⟩ (.slice Ao55 t185.length co55)).heap[gb162]? = some (.cells #[.int .i64 2, .int .i64 258, .int .i64 7, .slice Ao33 y159.length co33] 24 (0, 0))) := ⟨by (with_reducible repeat (first | refine blk_drewN ?_ _ | refine blk_drew ?_ | refine blk_alloc ?_ _)); refine blk_far ?_ NB162_190.out _; (with_reducible repeat (first | refine blk_drewN ?_ _ | refine blk_drew ?_ | refine blk_alloc ?_ _)); refine blk_far ?_ NB162_190.out _; (with_reducible repeat (first | refine blk_drewN ?_ _ | refine blk_drew ?_ | refine blk_alloc ?_ _)); refine blk_far ?_ NB162_190.out _; (with_reducible repeat (first | refine blk_drewN ?_ _ | refine blk_drew ?_ | refine blk_alloc ?_ _)); refine blk_far ?_ NB162_190.out _; (with_reducible repeat (first | refine blk_drewN ?_ _ | refine blk_drew ?_ | refine blk_alloc ?_ _)); exact BK162.out⟩
                 have n4_ : Aside0 (((((w50.setCell ⟨gb190, 0, none⟩ (.int .i64 t182)).setCell ⟨gb190, 1, none⟩ (.int .i64 t183)).setCell ⟨gb190, 2, none⟩ (.int .i64 t184)).setCell ⟨gb190, 3, none⟩ (.slice Ao55 t185.length co55)).heap[gb173]? = some (.cells #[.int .i64 t165, .int .i64 t166, .int .i64 t167, .slice Ao41 t168.length co41] 24 (0, 0))) := ⟨by (with_reducible repeat (first | refine blk_drewN ?_ _ | refine blk_drew ?_ | refine blk_alloc ?_ _)); refine blk_far ?_ NB173_190.out _; (with_reducible repeat (first | refine blk_drewN ?_ _ | refine blk_drew ?_ | refine blk_alloc ?_ _)); refine blk_far ?_ NB173_190.out _; (with_reducible repeat (first | refine blk_drewN ?_ _ | refine blk_drew ?_ | refine blk_alloc ?_ _)); refine blk_far ?_ NB173_190.out _; (with_reducible repeat (first | refine blk_drewN ?_ _ | refine blk_drew ?_ | refine blk_alloc ?_ _)); refine blk_far ?_ NB173_190.out _; (with_reducible repeat (first | refine blk_drewN ?_ _ | refine blk_drew ?_ | refine blk_alloc ?_ _)); exact BK173.out⟩
                 have n5_ : Aside0 (((((w50.setCell ⟨gb190, 0, none⟩ (.int .i64 t182)).setCell ⟨gb190, 1, none⟩ (.int .i64 t183)).setCell ⟨gb190, 2, none⟩ (.int .i64 t184)).setCell ⟨gb190, 3, none⟩ (.slice Ao55 t185.length co55)).heap[gb179]? = some (.cells #[.int .i64 t174, .int .i64 t175, .int .i64 t176, .int .i64 t177] 36 (0, 0))) := ⟨by (with_reducible repeat (first | refine blk_drewN ?_ _ | refine blk_drew ?_ | refine blk_alloc ?_ _)); refine blk_far ?_ NB179_190.out _; (with_reducible repeat (first | refine blk_drewN ?_ _ | refine blk_drew ?_ | refine blk_alloc ?_ _)); refine blk_far ?_ NB179_190.out _; (with_reducible repeat (first | refine blk_drewN ?_ _ | refine blk_drew ?_ | refine blk_alloc ?_ _)); refine blk_far ?_ NB179_190.out _; (with_reducible repeat (first | refine blk_drewN ?_ _ | refine blk_drew ?_ | refine blk_alloc ?_ _)); refine blk_far ?_ NB179_190.out _; (with_reducible repeat (first | refine blk_drewN ?_ _ | refine blk_drew ?_ | refine blk_alloc ?_ _)); exact BK179.out⟩
                 have n6_ : Aside0 (((((w50.setCell ⟨gb190, 0, none⟩ (.int .i64 t182)).setCell ⟨gb190, 1, none⟩ (.int .i64 t183)).setCell ⟨gb190, 2, none⟩ (.int .i64 t184)).setCell ⟨gb190, 3, none⟩ (.slice Ao55 t185.length co55)).heap[gb190]? = some (.cells #[.int .i64 t182, .int .i64 t183, .int .i64 t184, .slice Ao55 t185.length co55] 24 (0, 0))) := ⟨by (with_reducible repeat (first | refine blk_drewN ?_ _ | refine blk_drew ?_ | refine blk_alloc ?_ _)); refine blk_put (cs := #[.int .i64 t182, .int .i64 t183, .int .i64 t184, .slice none 0 0]) ?_ 3 _ rfl; (with_reducible repeat (first | refine blk_drewN ?_ _ | refine blk_drew ?_ | refine blk_alloc ?_ _)); refine blk_put (cs := #[.int .i64 t182, .int .i64 t183, .int .i64 0, .slice none 0 0]) ?_ 2 _ rfl; (with_reducible repeat (first | refine blk_drewN ?_ _ | refine blk_drew ?_ | refine blk_alloc ?_ _)); refine blk_put (cs := #[.int .i64 t182, .int .i64 0, .int .i64 0, .slice none 0 0]) ?_ 1 _ rfl; (with_reducible repeat (first | refine blk_drewN ?_ _ | refine blk_drew ?_ | refine blk_alloc ?_ _)); refine blk_put (cs := #[.int .i64 0, .int .i64 0, .int .i64 0, .slice none 0 0]) ?_ 0 _ rfl; (with_reducible repeat (first | refine blk_drewN ?_ _ | refine blk_drew ?_ | refine blk_alloc ?_ _)); exact BK190.out⟩
                 have n7_ : Aside0 (Below w.heap.size w ((((w50.setCell ⟨gb190, 0, none⟩ (.int .i64 t182)).setCell ⟨gb190, 1, none⟩ (.int .i64 t183)).setCell ⟨gb190, 2, none⟩ (.int .i64 t184)).setCell ⟨gb190, 3, none⟩ (.slice Ao55 t185.length co55))) := ⟨by repeat (first | (with_reducible first | exact HB.out | apply below_alloc | apply pw_below_drewN | apply below_drew1 | refine below_set ?_ GE162.out | refine below_set ?_ GE173.out | refine below_set ?_ GE179.out | refine below_set ?_ GE190.out) | exact HB.out)⟩
                 (try clear HO161)
                 (try clear HO170)
                 (try clear HO187)
                 (try clear BK162)
                 (try clear BK173)
                 (try clear BK179)
                 (try clear BK190)
                 (try clear HB)
                 generalize ((((w50.setCell ⟨gb190, 0, none⟩ (.int .i64 t182)).setCell ⟨gb190, 1, none⟩ (.int .i64 t183)).setCell ⟨gb190, 2, none⟩ (.int .i64 t184)).setCell ⟨gb190, 3, none⟩ (.slice Ao55 t185.length co55)) = w56 at n0_ n1_ n2_ n3_ n4_ n5_ n6_ n7_ ⊢
                 have HO161 := n0_
                 have HO170 := n1_
                 have HO187 := n2_
                 have BK162 := n3_
                 have BK173 := n4_
                 have BK179 := n5_
                 have BK190 := n6_
                 have HB := n7_
                 clear n0_ n1_ n2_ n3_ n4_ n5_ n6_ n7_
                 have n0_ := Aside0.mk (Kd.R_drew HO161.out)
                 have n1_ := Aside0.mk (Kd.R_drew HO170.out)
                 have n2_ := Aside0.mk (Kd.R_drew HO187.out)
                 have n3_ := Aside0.mk (blk_drew BK162.out)
                 have n4_ := Aside0.mk (blk_drew BK173.out)
                 have n5_ := Aside0.mk (blk_drew BK179.out)
                 have n6_ := Aside0.mk (blk_drew BK190.out)
                 have n7_ := Aside0.mk (below_drew1 HB.out)
                 clear HO161
                 clear HO170
                 clear HO187
                 clear BK162
                 clear BK173
                 clear BK179
                 clear BK190
                 clear HB
                 have HO161 := n0_
                 have HO170 := n1_
                 have HO187 := n2_
                 have BK162 := n3_
                 have BK173 := n4_
                 have BK179 := n5_
                 have BK190 := n6_
                 have HB := n7_
                 clear n0_ n1_ n2_ n3_ n4_ n5_ n6_ n7_
                 refine start_ (n := 55) (S := fun w' => w'.cell? ⟨gb162, 0, none⟩ = some (.int .i64 2) ∧ w'.cell? ⟨gb162, 1, none⟩ = some (.int .i64 258) ∧ w'.cell? ⟨gb162, 2, none⟩ = some (.int .i64 7) ∧ w'.cell? ⟨gb162, 3, none⟩ = some (.slice Ao33 y159.length co33) ∧ w'.cell? ⟨gb173, 0, none⟩ = some (.int .i64 t165) ∧ w'.cell? ⟨gb173, 1, none⟩ = some (.int .i64 t166) ∧ w'.cell? ⟨gb173, 2, none⟩ = some (.int .i64 t167) ∧ w'.cell? ⟨gb173, 3, none⟩ = some (.slice Ao41 t168.length co41) ∧ w'.cell? ⟨gb179, 0, none⟩ = some (.int .i64 t174) ∧ w'.cell? ⟨gb179, 1, none⟩ = some (.int .i64 t175) ∧ w'.cell? ⟨gb179, 2, none⟩ = some (.int .i64 t176) ∧ w'.cell? ⟨gb179, 3, none⟩ = some (.int .i64 t177)) (ds := []) mk_55_0 (by kernel_rfl) rfl rfl ⟨(blk_cell BK162.out 0).trans rfl, (blk_cell BK162.out 1).trans rfl, (blk_cell BK162.out 2).trans rfl, (blk_cell BK162.out 3).trans rfl, (blk_cell BK173.out 0).trans rfl, (blk_cell BK173.out 1).trans rfl, (blk_cell BK173.out 2).trans rfl, (blk_cell BK173.out 3).trans rfl, (blk_cell BK179.out 0).trans rfl, (blk_cell BK179.out 1).trans rfl, (blk_cell BK179.out 2).trans rfl, (blk_cell BK179.out 3).trans rfl⟩ (fun hHeld => ?_); refine with_tabW watchwordlaw7_awake.tab9 watchwordlaw7_awake.bits9 (fun HT_ HW_ => ?_)
                 generalize w56.drew = w57 at HO161 HO170 HO187 BK162 BK173 BK179 BK190 HB hHeld ⊢
                 refine pure_ (i := 0) (N := some 48) (v := ?_) (a' := ?_) mk_55_1 rfl rfl (any_of HT_.out (by kernel_rfl)) (fun _ _ _ h => h) (Or.inl ⟨by rfl, ?_⟩) ?_ ?_
                 rotate_left
                 ·intro w'
                  go_simp
                  with_reducible rfl
                 rotate_left
                 ·simp only [Act.put, List.setIfInBounds_toArray, List.set_cons_zero, List.set_cons_succ, i64_w, i32_w]
                  rfl
                 refine pure_ (i := 1) (N := some 49) (v := ?_) (a' := ?_) mk_55_2 rfl rfl (any_of HT_.out (by kernel_rfl)) (fun _ _ _ h => h) (Or.inl ⟨by rfl, ?_⟩) ?_ ?_
                 rotate_left
                 ·intro w'
                  go_simp
                  with_reducible rfl
                 rotate_left
                 ·simp only [Act.put, List.setIfInBounds_toArray, List.set_cons_zero, List.set_cons_succ, i64_w, i32_w]
                  rfl
                 refine pure_ (i := 2) (N := some 50) (v := ?_) (a' := ?_) mk_55_3 rfl rfl (any_of HT_.out (by kernel_rfl)) (fun _ _ _ h => h) (Or.inl ⟨by rfl, ?_⟩) ?_ ?_
                 rotate_left
                 ·intro w'
                  go_simp
                  with_reducible rfl
                 rotate_left
                 ·simp only [Act.put, List.setIfInBounds_toArray, List.set_cons_zero, List.set_cons_succ, i64_w, i32_w]
                  rfl
                 refine pure_ (i := 3) (N := some 51) (v := ?_) (a' := ?_) mk_55_4 rfl rfl (any_of HT_.out (by kernel_rfl)) (fun _ _ _ h => h) (Or.inl ⟨by rfl, ?_⟩) ?_ ?_
                 rotate_left
                 ·intro w'
                  go_simp
                  with_reducible rfl
                 rotate_left
                 ·simp only [Act.put, List.setIfInBounds_toArray, List.set_cons_zero, List.set_cons_succ, i64_w, i32_w]
                  rfl
                 refine pure_ (i := 4) (N := some 52) (v := ?_) (a' := ?_) mk_55_5 rfl rfl (any_of HT_.out (by kernel_rfl)) (fun _ _ _ h => h) (Or.inl ⟨by rfl, ?_⟩) ?_ ?_
                 rotate_left
                 ·intro w'
                  go_simp
                  with_reducible rfl
                 rotate_left
                 ·simp only [Act.put, List.setIfInBounds_toArray, List.set_cons_zero, List.set_cons_succ, i64_w, i32_w]
                  rfl
                 refine one_ (i := 5) (N := some 53) mk_55_6 rfl rfl (one_of HT_.out (by kernel_rfl)) (by decide) (fun K hK => ?_)
                 refine goes_ Try.func19 (by kernel_rfl) rfl #[.int .i64 t164] (by rfl) rfl rfl (by (try simp only [List.map_toArray, List.map_cons, List.map_nil]); first | done | rfl | (simp only [List.length_drop, List.length_take]; rfl)) ?_
                 with_reducible refine (watchwordlaw0_Num.calls t164 t191 _ A12.out).mono ?_
                 rintro e w' ⟨rfl, ⟨nd, rfl⟩⟩
                 refine ⟨_, rfl, ?_⟩
                 refine hK.out _ _ ⟨(blk_cell BK162.out 0).trans rfl, (blk_cell BK162.out 1).trans rfl, (blk_cell BK162.out 2).trans rfl, (blk_cell BK162.out 3).trans rfl, (blk_cell BK173.out 0).trans rfl, (blk_cell BK173.out 1).trans rfl, (blk_cell BK173.out 2).trans rfl, (blk_cell BK173.out 3).trans rfl, (blk_cell BK179.out 0).trans rfl, (blk_cell BK179.out 1).trans rfl, (blk_cell BK179.out 2).trans rfl, (blk_cell BK179.out 3).trans rfl⟩ (fun hHeld => ?_)
                 clear hK K
                 refine norm_ (a' := ?_) ?_ ?_
                 rotate_left
                 ·show Act.put _ (some 53) _ = _
                  simp only [Act.put, List.setIfInBounds_toArray, List.set_cons_zero, List.set_cons_succ, i64_w, i32_w]
                  rfl
                 refine pure_ (i := 6) (N := some 54) (v := ?_) (a' := ?_) mk_55_7 rfl rfl (any_of HT_.out (by kernel_rfl)) (fun _ _ _ h => h) (Or.inl ⟨by rfl, ?_⟩) ?_ ?_
                 rotate_left
                 ·intro w'
                  go_simp
                  with_reducible rfl
                 rotate_left
                 ·simp only [Act.put, List.setIfInBounds_toArray, List.set_cons_zero, List.set_cons_succ, i64_w, i32_w]
                  rfl
                 refine pure_ (i := 7) (N := some 55) (v := ?_) (a' := ?_) mk_55_8 rfl rfl (any_of HT_.out (by kernel_rfl)) (fun _ _ _ h => h) (Or.inl ⟨by rfl, ?_⟩) ?_ ?_
                 rotate_left
                 ·intro w'
                  go_simp
                  with_reducible rfl
                 rotate_left
                 ·simp only [Act.put, List.setIfInBounds_toArray, List.set_cons_zero, List.set_cons_succ, i64_w, i32_w]
                  rfl
                 refine pure_ (i := 8) (N := some 56) (v := ?_) (a' := ?_) mk_55_9 rfl rfl (any_of HT_.out (by kernel_rfl)) (fun _ _ _ h => h) (Or.inl ⟨by rfl, ?_⟩) ?_ ?_
                 rotate_left
                 ·intro w'
                  go_simp
                  with_reducible rfl
                 rotate_left
                 ·simp only [Act.put, List.setIfInBounds_toArray, List.set_cons_zero, List.set_cons_succ, i64_w, i32_w]
                  rfl
                 refine take_ (i := 9) (N := some 57) (v := ?_) (a' := ?_) mk_55_10 rfl rfl (take_ofW HT_.out HW_.out (by kernel_rfl)) (fun _ _ _ h => h) (Or.inl ⟨by rfl, ?_⟩) hHeld ?_ ?_
                 rotate_left
                 ·rintro w' ⟨s0, s1, s2, s3, s4, s5, s6, s7, s8, s9, s10, s11⟩
                  go_simp
                  with_reducible rfl
                 rotate_left
                 ·simp only [Act.put, List.setIfInBounds_toArray, List.set_cons_zero, List.set_cons_succ, i64_w, i32_w]
                  rfl
                 refine take_ (i := 10) (N := some 58) (v := ?_) (a' := ?_) mk_55_11 rfl rfl (take_ofW HT_.out HW_.out (by kernel_rfl)) (fun _ _ _ h => h) (Or.inl ⟨by rfl, ?_⟩) hHeld ?_ ?_
                 rotate_left
                 ·rintro w' ⟨s0, s1, s2, s3, s4, s5, s6, s7, s8, s9, s10, s11⟩
                  go_simp
                  with_reducible rfl
                 rotate_left
                 ·simp only [Act.put, List.setIfInBounds_toArray, List.set_cons_zero, List.set_cons_succ, i64_w, i32_w]
                  rfl
                 refine one_ (i := 11) (N := some 59) mk_55_12 rfl rfl (one_of HT_.out (by kernel_rfl)) (by decide) (fun K hK => ?_)
                 refine goes_ Try.func20 (by kernel_rfl) rfl #[.agg #[.int .i64 2, .int .i64 258, .int .i64 7, .slice Ao33 y159.length co33], .agg #[.int .i64 t165, .int .i64 t166, .int .i64 t167, .slice Ao41 t168.length co41]] (by rfl) rfl rfl (by (try simp only [List.map_toArray, List.map_cons, List.map_nil]); first | done | rfl | (simp only [List.length_drop, List.length_take]; rfl)) ?_
                 with_reducible refine (watchwordlaw0_SameLsa.calls k 2 258 7 _ _ y159 t165 t166 t167 _ _ t168 true _ ?side1 ?side2 ?side3 ?side4 A14.out).mono ?_
                 (case side1 => repeat (first | exact (Kd.R_reads' HO161.out).2.2 | (with_reducible refine Kd.C_alloc ?_ _) | (with_reducible refine Kd.C_drewN ?_ _) | (with_reducible refine Kd.C_drew ?_)))
                 (case side2 => exact (Kd.R_reads' HO161.out).2.1)
                 (case side3 => repeat (first | exact (Kd.R_reads' HO170.out).2.2 | (with_reducible refine Kd.C_alloc ?_ _) | (with_reducible refine Kd.C_drewN ?_ _) | (with_reducible refine Kd.C_drew ?_)))
                 (case side4 => exact (Kd.R_reads' HO170.out).2.1)
                 rintro e w58 ⟨rfl, hb⟩
                 refine ⟨_, rfl, ?_⟩
                 have n0_ := Aside0.mk (Kd.R_below (by (with_reducible repeat (first | apply Kd.R_alloc | apply Kd.R_drewN | apply Kd.R_drew)); exact HO161.out) hb)
                 have n1_ := Aside0.mk (Kd.R_below (by (with_reducible repeat (first | apply Kd.R_alloc | apply Kd.R_drewN | apply Kd.R_drew)); exact HO170.out) hb)
                 have n2_ := Aside0.mk (Kd.R_below (by (with_reducible repeat (first | apply Kd.R_alloc | apply Kd.R_drewN | apply Kd.R_drew)); exact HO187.out) hb)
                 have n3_ := Aside0.mk (blk_below (g := gb162) (o := .cells #[.int .i64 2, .int .i64 258, .int .i64 7, .slice Ao33 y159.length co33] 24 (0, 0)) (by (with_reducible repeat (first | refine blk_drewN ?_ _ | refine blk_drew ?_ | refine blk_alloc ?_ _)); exact BK162.out) hb)
                 have n4_ := Aside0.mk (blk_below (g := gb173) (o := .cells #[.int .i64 t165, .int .i64 t166, .int .i64 t167, .slice Ao41 t168.length co41] 24 (0, 0)) (by (with_reducible repeat (first | refine blk_drewN ?_ _ | refine blk_drew ?_ | refine blk_alloc ?_ _)); exact BK173.out) hb)
                 have n5_ := Aside0.mk (blk_below (g := gb179) (o := .cells #[.int .i64 t174, .int .i64 t175, .int .i64 t176, .int .i64 t177] 36 (0, 0)) (by (with_reducible repeat (first | refine blk_drewN ?_ _ | refine blk_drew ?_ | refine blk_alloc ?_ _)); exact BK179.out) hb)
                 have n6_ := Aside0.mk (blk_below (g := gb190) (o := .cells #[.int .i64 t182, .int .i64 t183, .int .i64 t184, .slice Ao55 t185.length co55] 24 (0, 0)) (by (with_reducible repeat (first | refine blk_drewN ?_ _ | refine blk_drew ?_ | refine blk_alloc ?_ _)); exact BK190.out) hb)
                 have n7_ := Aside0.mk (below_step (by repeat (first | (with_reducible first | exact HB.out | apply below_alloc | apply pw_below_drewN | apply below_drew1 | refine below_set ?_ GE162.out | refine below_set ?_ GE173.out | refine below_set ?_ GE179.out | refine below_set ?_ GE190.out) | exact HB.out)) hb)
                 clear HO161
                 clear HO170
                 clear HO187
                 clear BK162
                 clear BK173
                 clear BK179
                 clear BK190
                 clear HB
                 have HO161 := n0_
                 have HO170 := n1_
                 have HO187 := n2_
                 have BK162 := n3_
                 have BK173 := n4_
                 have BK179 := n5_
                 have BK190 := n6_
                 have HB := n7_
                 clear n0_ n1_ n2_ n3_ n4_ n5_ n6_ n7_
                 (try clear hb)
                 (try clear hb2)
                 (try clear hk)
                 (try clear hi)
                 refine hK.out _ _ ⟨(blk_cell BK162.out 0).trans rfl, (blk_cell BK162.out 1).trans rfl, (blk_cell BK162.out 2).trans rfl, (blk_cell BK162.out 3).trans rfl, (blk_cell BK173.out 0).trans rfl, (blk_cell BK173.out 1).trans rfl, (blk_cell BK173.out 2).trans rfl, (blk_cell BK173.out 3).trans rfl, (blk_cell BK179.out 0).trans rfl, (blk_cell BK179.out 1).trans rfl, (blk_cell BK179.out 2).trans rfl, (blk_cell BK179.out 3).trans rfl⟩ (fun hHeld => ?_)
                 clear hK K
                 refine norm_ (a' := ?_) ?_ ?_
                 rotate_left
                 ·show Act.put _ (some 59) _ = _
                  simp only [Act.put, List.setIfInBounds_toArray, List.set_cons_zero, List.set_cons_succ, i64_w, i32_w]
                  rfl
                 refine pure_ (i := 12) (N := some 60) (v := ?_) (a' := ?_) mk_55_13 rfl rfl (any_of HT_.out (by kernel_rfl)) (fun _ _ _ h => h) (Or.inl ⟨by rfl, ?_⟩) ?_ ?_
                 rotate_left
                 ·intro w'
                  go_simp
                  with_reducible rfl
                 rotate_left
                 ·simp only [Act.put, List.setIfInBounds_toArray, List.set_cons_zero, List.set_cons_succ, i64_w, i32_w]
                  rfl
                 refine pure_ (i := 13) (N := some 61) (v := ?_) (a' := ?_) mk_55_14 rfl rfl (any_of HT_.out (by kernel_rfl)) (fun _ _ _ h => h) (Or.inl ⟨by rfl, ?_⟩) ?_ ?_
                 rotate_left
                 ·intro w'
                  go_simp
                  with_reducible rfl
                 rotate_left
                 ·simp only [Act.put, List.setIfInBounds_toArray, List.set_cons_zero, List.set_cons_succ, i64_w, i32_w]
                  rfl
                 refine pure_ (i := 14) (N := some 62) (v := ?_) (a' := ?_) mk_55_15 rfl rfl (any_of HT_.out (by kernel_rfl)) (fun _ _ _ h => h) (Or.inl ⟨by rfl, ?_⟩) ?_ ?_
                 rotate_left
                 ·intro w'
                  go_simp
                  with_reducible rfl
                 rotate_left
                 ·simp only [Act.put, List.setIfInBounds_toArray, List.set_cons_zero, List.set_cons_succ, i64_w, i32_w]
                  rfl
                 refine pure_ (i := 15) (N := some 63) (v := ?_) (a' := ?_) mk_55_16 rfl rfl (any_of HT_.out (by kernel_rfl)) (fun _ _ _ h => h) (Or.inl ⟨by rfl, ?_⟩) ?_ ?_
                 rotate_left
                 ·intro w'
                  go_simp
                  with_reducible rfl
                 rotate_left
                 ·simp only [Act.put, List.setIfInBounds_toArray, List.set_cons_zero, List.set_cons_succ, i64_w, i32_w]
                  rfl
                 refine pure_ (i := 16) (N := some 64) (v := ?_) (a' := ?_) mk_55_17 rfl rfl (any_of HT_.out (by kernel_rfl)) (fun _ _ _ h => h) (Or.inl ⟨by rfl, ?_⟩) ?_ ?_
                 rotate_left
                 ·intro w'
                  go_simp
                  with_reducible rfl
                 rotate_left
                 ·simp only [Act.put, List.setIfInBounds_toArray, List.set_cons_zero, List.set_cons_succ, i64_w, i32_w]
                  rfl
                 refine pure_ (i := 17) (N := some 65) (v := ?_) (a' := ?_) mk_55_18 rfl rfl (any_of HT_.out (by kernel_rfl)) (fun _ _ _ h => h) (Or.inl ⟨by rfl, ?_⟩) ?_ ?_
                 rotate_left
                 ·intro w'
                  go_simp
                  with_reducible rfl
                 rotate_left
                 ·simp only [Act.put, List.setIfInBounds_toArray, List.set_cons_zero, List.set_cons_succ, i64_w, i32_w]
                  rfl
                 refine pure_ (i := 18) (N := some 66) (v := ?_) (a' := ?_) mk_55_19 rfl rfl (any_of HT_.out (by kernel_rfl)) (fun _ _ _ h => h) (Or.inl ⟨by rfl, ?_⟩) ?_ ?_
                 rotate_left
                 ·intro w'
                  go_simp
                  with_reducible rfl
                 rotate_left
                 ·simp only [Act.put, List.setIfInBounds_toArray, List.set_cons_zero, List.set_cons_succ, i64_w, i32_w]
                  rfl
                 refine one_ (i := 19) (N := some 67) mk_55_20 rfl rfl (one_of HT_.out (by kernel_rfl)) (by decide) (fun K hK => ?_)
                 refine goes_ Try.func19 (by kernel_rfl) rfl #[.int .i64 t172] (by rfl) rfl rfl (by (try simp only [List.map_toArray, List.map_cons, List.map_nil]); first | done | rfl | (simp only [List.length_drop, List.length_take]; rfl)) ?_
                 with_reducible refine (watchwordlaw0_Num.calls t172 t193 _ A17.out).mono ?_
                 rintro e w' ⟨rfl, ⟨nd, rfl⟩⟩
                 refine ⟨_, rfl, ?_⟩
                 have p20 : 0 ≤ (10 : Int) := (by omega)
                 have q20 : 10 < t163.size := (by have : (10 : Int) < (t163.size : Int) := of_decide_eq_true (by first | (with_reducible assumption) | assumption); omega)
                 have hx20 : ∀ h : 10 < t163.size, ((t163[10]'h).toNat : Int) = bt t163 10 := bt_at t163 10
                 clear p20
                 have qi20 : (10 < (t163.size : Int)) = True := eq_true (of_decide_eq_true (by first | (with_reducible assumption) | assumption))
                 replace q20 := eq_true q20
                 have p22 : 0 ≤ (11 : Int) := (by omega)
                 have q22 : 11 < t163.size := (by have : (11 : Int) < (t163.size : Int) := of_decide_eq_true (by first | (with_reducible assumption) | assumption); omega)
                 have hx22 : ∀ h : 11 < t163.size, ((t163[11]'h).toNat : Int) = bt t163 11 := bt_at t163 11
                 clear p22
                 have qi22 : (11 < (t163.size : Int)) = True := eq_true (of_decide_eq_true (by first | (with_reducible assumption) | assumption))
                 replace q22 := eq_true q22
                 refine hK.out _ _ ⟨(blk_cell BK162.out 0).trans rfl, (blk_cell BK162.out 1).trans rfl, (blk_cell BK162.out 2).trans rfl, (blk_cell BK162.out 3).trans rfl, (blk_cell BK173.out 0).trans rfl, (blk_cell BK173.out 1).trans rfl, (blk_cell BK173.out 2).trans rfl, (blk_cell BK173.out 3).trans rfl, (blk_cell BK179.out 0).trans rfl, (blk_cell BK179.out 1).trans rfl, (blk_cell BK179.out 2).trans rfl, (blk_cell BK179.out 3).trans rfl⟩ (fun hHeld => ?_)
                 clear hK K
                 refine norm_ (a' := ?_) ?_ ?_
                 rotate_left
                 ·show Act.put _ (some 67) _ = _
                  simp only [Act.put, List.setIfInBounds_toArray, List.set_cons_zero, List.set_cons_succ, i64_w, i32_w]
                  rfl
                 refine pure_ (i := 20) (N := some 68) (v := ?_) (a' := ?_) mk_55_21 rfl rfl (any_of HT_.out (by kernel_rfl)) (fun _ _ _ h => h) (Or.inl ⟨by rfl, ?_⟩) ?_ ?_
                 rotate_left
                 ·intro w'
                  go_simp
                  with_reducible rfl
                 rotate_left
                 ·simp only [Act.put, List.setIfInBounds_toArray, List.set_cons_zero, List.set_cons_succ, i64_w, i32_w]
                  rfl
                 refine pure_ (i := 21) (N := some 69) (v := ?_) (a' := ?_) mk_55_22 rfl rfl (any_of HT_.out (by kernel_rfl)) (fun _ _ _ h => h) (Or.inl ⟨by rfl, ?_⟩) ?_ ?_
                 rotate_left
                 ·intro w'
                  go_simp
                  with_reducible rfl
                 rotate_left
                 ·simp only [Act.put, List.setIfInBounds_toArray, List.set_cons_zero, List.set_cons_succ, i64_w, i32_w]
                  rfl
                 refine pure_ (i := 22) (N := some 70) (v := ?_) (a' := ?_) mk_55_23 rfl rfl (any_of HT_.out (by kernel_rfl)) (fun _ _ _ h => h) (Or.inl ⟨by rfl, ?_⟩) ?_ ?_
                 rotate_left
                 ·intro w'
                  go_simp
                  with_reducible rfl
                 rotate_left
                 ·simp only [Act.put, List.setIfInBounds_toArray, List.set_cons_zero, List.set_cons_succ, i64_w, i32_w]
                  rfl
                 refine pure_ (i := 24) (N := some 72) (v := ?_) (a' := ?_) #[true, true, true, true, true, true, true, true, true, true, true, true, true, true, true, true, true, true, true, true, true, true, true, false, true, false, false, false, false, false, false, false, false, false, false, false, false, false, false, false, false, false, false, false, false, false, false, false, false, false, false, false, false, false, false] rfl rfl (any_of HT_.out (by kernel_rfl)) (fun _ _ _ h => h) (Or.inl ⟨by rfl, ?_⟩) ?_ ?_
                 rotate_left
                 ·intro w'
                  go_simp
                  with_reducible rfl
                 rotate_left
                 ·simp only [Act.put, List.setIfInBounds_toArray, List.set_cons_zero, List.set_cons_succ, i64_w, i32_w]
                  rfl
                 refine pure_ (i := 28) (N := some 76) (v := ?_) (a' := ?_) #[true, true, true, true, true, true, true, true, true, true, true, true, true, true, true, true, true, true, true, true, true, true, true, false, true, false, false, false, true, false, false, false, false, false, false, false, false, false, false, false, false, false, false, false, false, false, false, false, false, false, false, false, false, false, false] rfl rfl (any_of HT_.out (by kernel_rfl)) (fun _ _ _ h => h) (Or.inl ⟨by rfl, ?_⟩) ?_ ?_
                 rotate_left
                 ·intro w'
                  go_simp
                  with_reducible rfl
                 rotate_left
                 ·simp only [Act.put, List.setIfInBounds_toArray, List.set_cons_zero, List.set_cons_succ, i64_w, i32_w]
                  rfl
                 refine take_ (i := 23) (N := some 71) (v := ?_) (a' := ?_) #[true, true, true, true, true, true, true, true, true, true, true, true, true, true, true, true, true, true, true, true, true, true, true, true, true, false, false, false, true, false, false, false, false, false, false, false, false, false, false, false, false, false, false, false, false, false, false, false, false, false, false, false, false, false, false] rfl rfl (take_ofW HT_.out HW_.out (by kernel_rfl)) (fun _ _ _ h => h) (Or.inl ⟨by rfl, ?_⟩) hHeld ?_ ?_
                 rotate_left
                 ·rintro w' ⟨s0, s1, s2, s3, s4, s5, s6, s7, s8, s9, s10, s11⟩
                  go_simp
                  with_reducible rfl
                 rotate_left
                 ·simp only [Act.put, List.setIfInBounds_toArray, List.set_cons_zero, List.set_cons_succ, i64_w, i32_w]
                  rfl
                 refine take_ (i := 25) (N := some 73) (v := ?_) (a' := ?_) #[true, true, true, true, true, true, true, true, true, true, true, true, true, true, true, true, true, true, true, true, true, true, true, true, true, true, false, false, true, false, false, false, false, false, false, false, false, false, false, false, false, false, false, false, false, false, false, false, false, false, false, false, false, false, false] rfl rfl (take_ofW HT_.out HW_.out (by kernel_rfl)) (fun _ _ _ h => h) (Or.inl ⟨by rfl, ?_⟩) hHeld ?_ ?_
                 rotate_left
                 ·rintro w' ⟨s0, s1, s2, s3, s4, s5, s6, s7, s8, s9, s10, s11⟩
                  go_simp
                  with_reducible rfl
                 rotate_left
                 ·simp only [Act.put, List.setIfInBounds_toArray, List.set_cons_zero, List.set_cons_succ, i64_w, i32_w]
                  rfl
                 refine pure_ (i := 26) (N := some 74) (v := ?_) (a' := ?_) #[true, true, true, true, true, true, true, true, true, true, true, true, true, true, true, true, true, true, true, true, true, true, true, true, true, true, true, false, true, false, false, false, false, false, false, false, false, false, false, false, false, false, false, false, false, false, false, false, false, false, false, false, false, false, false] rfl rfl (any_of HT_.out (by kernel_rfl)) (fun _ _ _ h => h) (Or.inl ⟨by rfl, ?_⟩) ?_ ?_
                 rotate_left
                 ·intro w'
                  go_simp
                  with_reducible rfl
                 rotate_left
                 ·simp only [Act.put, List.setIfInBounds_toArray, List.set_cons_zero, List.set_cons_succ, i64_w, i32_w]
                  rfl
                 refine pure_ (i := 27) (N := some 75) (v := ?_) (a' := ?_) mk_55_29 rfl rfl (any_of HT_.out (by kernel_rfl)) (fun _ _ _ h => h) (Or.inl ⟨by rfl, ?_⟩) ?_ ?_
                 rotate_left
                 ·intro w'
                  go_simp
                  with_reducible rfl
                 rotate_left
                 ·simp only [Act.put, List.setIfInBounds_toArray, List.set_cons_zero, List.set_cons_succ, i64_w, i32_w]
                  rfl
                 refine take_ (i := 29) (N := some 77) (v := ?_) (a' := ?_) mk_55_30 rfl rfl (take_ofW HT_.out HW_.out (by kernel_rfl)) (fun _ _ _ h => h) (Or.inl ⟨by rfl, ?_⟩) hHeld ?_ ?_
                 rotate_left
                 ·rintro w' ⟨s0, s1, s2, s3, s4, s5, s6, s7, s8, s9, s10, s11⟩
                  go_simp
                  with_reducible rfl
                 rotate_left
                 ·simp only [Act.put, List.setIfInBounds_toArray, List.set_cons_zero, List.set_cons_succ, i64_w, i32_w]
                  rfl
                 refine pure_ (i := 30) (N := some 78) (v := ?_) (a' := ?_) mk_55_31 rfl rfl (any_of HT_.out (by kernel_rfl)) (fun _ _ _ h => h) (Or.inl ⟨by rfl, ?_⟩) ?_ ?_
                 rotate_left
                 ·intro w'
                  go_simp
                  with_reducible rfl
                 rotate_left
                 ·simp only [Act.put, List.setIfInBounds_toArray, List.set_cons_zero, List.set_cons_succ, i64_w, i32_w]
                  rfl
                 refine pure_ (i := 31) (N := some 79) (v := ?_) (a' := ?_) mk_55_32 rfl rfl (any_of HT_.out (by kernel_rfl)) (fun _ _ _ h => h) (Or.inl ⟨by rfl, ?_⟩) ?_ ?_
                 rotate_left
                 ·intro w'
                  go_simp
                  with_reducible rfl
                 rotate_left
                 ·simp only [Act.put, List.setIfInBounds_toArray, List.set_cons_zero, List.set_cons_succ, i64_w, i32_w]
                  rfl
                 refine pure_ (i := 32) (N := some 80) (v := ?_) (a' := ?_) mk_55_33 rfl rfl (any_of HT_.out (by kernel_rfl)) (fun _ _ _ h => h) (Or.inl ⟨by rfl, ?_⟩) ?_ ?_
                 rotate_left
                 ·intro w'
                  go_simp
                  with_reducible rfl
                 rotate_left
                 ·simp only [Act.put, List.setIfInBounds_toArray, List.set_cons_zero, List.set_cons_succ, i64_w, i32_w]
                  rfl
                 refine pure_ (i := 33) (N := some 81) (v := ?_) (a' := ?_) mk_55_34 rfl rfl (any_of HT_.out (by kernel_rfl)) (fun _ _ _ h => h) (Or.inl ⟨by rfl, ?_⟩) ?_ ?_
                 rotate_left
                 ·intro w'
                  go_simp
                  with_reducible rfl
                 rotate_left
                 ·simp only [Act.put, List.setIfInBounds_toArray, List.set_cons_zero, List.set_cons_succ, i64_w, i32_w]
                  rfl
                 refine pure_ (i := 34) (N := some 82) (v := ?_) (a' := ?_) mk_55_35 rfl rfl (any_of HT_.out (by kernel_rfl)) (fun _ _ _ h => h) (Or.inl ⟨by rfl, ?_⟩) ?_ ?_
                 rotate_left
                 ·intro w'
                  go_simp
                  with_reducible rfl
                 rotate_left
                 ·simp only [Act.put, List.setIfInBounds_toArray, List.set_cons_zero, List.set_cons_succ, i64_w, i32_w]
                  rfl
                 refine pure_ (i := 35) (N := some 83) (v := ?_) (a' := ?_) mk_55_36 rfl rfl (any_of HT_.out (by kernel_rfl)) (fun _ _ _ h => h) (Or.inl ⟨by rfl, ?_⟩) ?_ ?_
                 rotate_left
                 ·intro w'
                  go_simp
                  with_reducible rfl
                 rotate_left
                 ·simp only [Act.put, List.setIfInBounds_toArray, List.set_cons_zero, List.set_cons_succ, i64_w, i32_w]
                  rfl
                 refine pure_ (i := 36) (N := some 84) (v := ?_) (a' := ?_) mk_55_37 rfl rfl (any_of HT_.out (by kernel_rfl)) (fun _ _ _ h => h) (Or.inl ⟨by rfl, ?_⟩) ?_ ?_
                 rotate_left
                 ·intro w'
                  go_simp
                  with_reducible rfl
                 rotate_left
                 ·simp only [Act.put, List.setIfInBounds_toArray, List.set_cons_zero, List.set_cons_succ, i64_w, i32_w]
                  rfl
                 refine one_ (i := 37) (N := some 85) mk_55_38 rfl rfl (one_of HT_.out (by kernel_rfl)) (by decide) (fun K hK => ?_)
                 refine goes_ Try.func19 (by kernel_rfl) rfl #[.int .i64 t178] (by rfl) rfl rfl (by (try simp only [List.map_toArray, List.map_cons, List.map_nil]); first | done | rfl | (simp only [List.length_drop, List.length_take]; rfl)) ?_
                 with_reducible refine (watchwordlaw0_Num.calls t178 t194 _ A24.out).mono ?_
                 rintro e w' ⟨rfl, ⟨nd, rfl⟩⟩
                 refine ⟨_, rfl, ?_⟩
                 refine hK.out _ _ ⟨(blk_cell BK162.out 0).trans rfl, (blk_cell BK162.out 1).trans rfl, (blk_cell BK162.out 2).trans rfl, (blk_cell BK162.out 3).trans rfl, (blk_cell BK173.out 0).trans rfl, (blk_cell BK173.out 1).trans rfl, (blk_cell BK173.out 2).trans rfl, (blk_cell BK173.out 3).trans rfl, (blk_cell BK179.out 0).trans rfl, (blk_cell BK179.out 1).trans rfl, (blk_cell BK179.out 2).trans rfl, (blk_cell BK179.out 3).trans rfl⟩ (fun hHeld => ?_)
                 clear hK K
                 refine norm_ (a' := ?_) ?_ ?_
                 rotate_left
                 ·show Act.put _ (some 85) _ = _
                  simp only [Act.put, List.setIfInBounds_toArray, List.set_cons_zero, List.set_cons_succ, i64_w, i32_w]
                  rfl
                 refine pure_ (i := 38) (N := some 86) (v := ?_) (a' := ?_) mk_55_39 rfl rfl (any_of HT_.out (by kernel_rfl)) (fun _ _ _ h => h) (Or.inl ⟨by rfl, ?_⟩) ?_ ?_
                 rotate_left
                 ·intro w'
                  go_simp
                  with_reducible rfl
                 rotate_left
                 ·simp only [Act.put, List.setIfInBounds_toArray, List.set_cons_zero, List.set_cons_succ, i64_w, i32_w]
                  rfl
                 refine pure_ (i := 39) (N := some 87) (v := ?_) (a' := ?_) mk_55_40 rfl rfl (any_of HT_.out (by kernel_rfl)) (fun _ _ _ h => h) (Or.inl ⟨by rfl, ?_⟩) ?_ ?_
                 rotate_left
                 ·intro w'
                  go_simp
                  with_reducible rfl
                 rotate_left
                 ·simp only [Act.put, List.setIfInBounds_toArray, List.set_cons_zero, List.set_cons_succ, i64_w, i32_w]
                  rfl
                 refine pure_ (i := 40) (N := some 88) (v := ?_) (a' := ?_) mk_55_41 rfl rfl (any_of HT_.out (by kernel_rfl)) (fun _ _ _ h => h) (Or.inl ⟨by rfl, ?_⟩) ?_ ?_
                 rotate_left
                 ·intro w'
                  go_simp
                  with_reducible rfl
                 rotate_left
                 ·simp only [Act.put, List.setIfInBounds_toArray, List.set_cons_zero, List.set_cons_succ, i64_w, i32_w]
                  rfl
                 refine pure_ (i := 41) (N := some 89) (v := ?_) (a' := ?_) mk_55_42 rfl rfl (any_of HT_.out (by kernel_rfl)) (fun _ _ _ h => h) (Or.inl ⟨by rfl, ?_⟩) ?_ ?_
                 rotate_left
                 ·intro w'
                  go_simp
                  with_reducible rfl
                 rotate_left
                 ·simp only [Act.put, List.setIfInBounds_toArray, List.set_cons_zero, List.set_cons_succ, i64_w, i32_w]
                  rfl
                 refine one_ (i := 42) (N := some 90) mk_55_43 rfl rfl (one_of HT_.out (by kernel_rfl)) (by decide) (fun K hK => ?_)
                 refine goes_ Try.func19 (by kernel_rfl) rfl #[.int .i64 t181] (by rfl) rfl rfl (by (try simp only [List.map_toArray, List.map_cons, List.map_nil]); first | done | rfl | (simp only [List.length_drop, List.length_take]; rfl)) ?_
                 with_reducible refine (watchwordlaw0_Num.calls t181 t195 _ A26.out).mono ?_
                 rintro e w' ⟨rfl, ⟨nd, rfl⟩⟩
                 refine ⟨_, rfl, ?_⟩
                 refine hK.out _ _ ⟨(blk_cell BK162.out 0).trans rfl, (blk_cell BK162.out 1).trans rfl, (blk_cell BK162.out 2).trans rfl, (blk_cell BK162.out 3).trans rfl, (blk_cell BK173.out 0).trans rfl, (blk_cell BK173.out 1).trans rfl, (blk_cell BK173.out 2).trans rfl, (blk_cell BK173.out 3).trans rfl, (blk_cell BK179.out 0).trans rfl, (blk_cell BK179.out 1).trans rfl, (blk_cell BK179.out 2).trans rfl, (blk_cell BK179.out 3).trans rfl⟩ (fun hHeld => ?_)
                 clear hK K
                 refine norm_ (a' := ?_) ?_ ?_
                 rotate_left
                 ·show Act.put _ (some 90) _ = _
                  simp only [Act.put, List.setIfInBounds_toArray, List.set_cons_zero, List.set_cons_succ, i64_w, i32_w]
                  rfl
                 refine pure_ (i := 43) (N := some 91) (v := ?_) (a' := ?_) mk_55_44 rfl rfl (any_of HT_.out (by kernel_rfl)) (fun _ _ _ h => h) (Or.inl ⟨by rfl, ?_⟩) ?_ ?_
                 rotate_left
                 ·intro w'
                  go_simp
                  with_reducible rfl
                 rotate_left
                 ·simp only [Act.put, List.setIfInBounds_toArray, List.set_cons_zero, List.set_cons_succ, i64_w, i32_w]
                  rfl
                 refine pure_ (i := 44) (N := some 92) (v := ?_) (a' := ?_) mk_55_45 rfl rfl (any_of HT_.out (by kernel_rfl)) (fun _ _ _ h => h) (Or.inl ⟨by rfl, ?_⟩) ?_ ?_
                 rotate_left
                 ·intro w'
                  go_simp
                  with_reducible rfl
                 rotate_left
                 ·simp only [Act.put, List.setIfInBounds_toArray, List.set_cons_zero, List.set_cons_succ, i64_w, i32_w]
                  rfl
                 refine pure_ (i := 45) (N := some 93) (v := ?_) (a' := ?_) mk_55_46 rfl rfl (any_of HT_.out (by kernel_rfl)) (fun _ _ _ h => h) (Or.inl ⟨by rfl, ?_⟩) ?_ ?_
                 rotate_left
                 ·intro w'
                  go_simp
                  with_reducible rfl
                 rotate_left
                 ·simp only [Act.put, List.setIfInBounds_toArray, List.set_cons_zero, List.set_cons_succ, i64_w, i32_w]
                  rfl
                 refine pure_ (i := 46) (N := some 94) (v := ?_) (a' := ?_) mk_55_47 rfl rfl (any_of HT_.out (by kernel_rfl)) (fun _ _ _ h => h) (Or.inl ⟨by rfl, ?_⟩) ?_ ?_
                 rotate_left
                 ·intro w'
                  go_simp
                  with_reducible rfl
                 rotate_left
                 ·simp only [Act.put, List.setIfInBounds_toArray, List.set_cons_zero, List.set_cons_succ, i64_w, i32_w]
                  rfl
                 refine one_ (i := 47) (N := some 95) mk_55_48 rfl rfl (one_of HT_.out (by kernel_rfl)) (by decide) (fun K hK => ?_)
                 refine goes_ Try.func19 (by kernel_rfl) rfl #[.int .i64 t189] (by rfl) rfl rfl (by (try simp only [List.map_toArray, List.map_cons, List.map_nil]); first | done | rfl | (simp only [List.length_drop, List.length_take]; rfl)) ?_
                 with_reducible refine (watchwordlaw0_Num.calls t189 t196 _ A28.out).mono ?_
                 rintro e w' ⟨rfl, ⟨nd, rfl⟩⟩
                 refine ⟨_, rfl, ?_⟩
                 refine hK.out _ _ ⟨(blk_cell BK162.out 0).trans rfl, (blk_cell BK162.out 1).trans rfl, (blk_cell BK162.out 2).trans rfl, (blk_cell BK162.out 3).trans rfl, (blk_cell BK173.out 0).trans rfl, (blk_cell BK173.out 1).trans rfl, (blk_cell BK173.out 2).trans rfl, (blk_cell BK173.out 3).trans rfl, (blk_cell BK179.out 0).trans rfl, (blk_cell BK179.out 1).trans rfl, (blk_cell BK179.out 2).trans rfl, (blk_cell BK179.out 3).trans rfl⟩ (fun hHeld => ?_)
                 clear hK K
                 refine norm_ (a' := ?_) ?_ ?_
                 rotate_left
                 ·show Act.put _ (some 95) _ = _
                  simp only [Act.put, List.setIfInBounds_toArray, List.set_cons_zero, List.set_cons_succ, i64_w, i32_w]
                  rfl
                 refine pure_ (i := 48) (N := some 96) (v := ?_) (a' := ?_) mk_55_49 rfl rfl (any_of HT_.out (by kernel_rfl)) (fun _ _ _ h => h) (Or.inl ⟨by rfl, ?_⟩) ?_ ?_
                 rotate_left
                 ·intro w'
                  go_simp
                  with_reducible rfl
                 rotate_left
                 ·simp only [Act.put, List.setIfInBounds_toArray, List.set_cons_zero, List.set_cons_succ, i64_w, i32_w]
                  rfl
                 refine pure_ (i := 49) (N := some 97) (v := ?_) (a' := ?_) mk_55_50 rfl rfl (any_of HT_.out (by kernel_rfl)) (fun _ _ _ h => h) (Or.inl ⟨by rfl, ?_⟩) ?_ ?_
                 rotate_left
                 ·intro w'
                  go_simp
                  with_reducible rfl
                 rotate_left
                 ·simp only [Act.put, List.setIfInBounds_toArray, List.set_cons_zero, List.set_cons_succ, i64_w, i32_w]
                  rfl
                 refine pure_ (i := 50) (N := some 98) (v := ?_) (a' := ?_) mk_55_51 rfl rfl (any_of HT_.out (by kernel_rfl)) (fun _ _ _ h => h) (Or.inl ⟨by rfl, ?_⟩) ?_ ?_
                 rotate_left
                 ·intro w'
                  go_simp
                  with_reducible rfl
                 rotate_left
                 ·simp only [Act.put, List.setIfInBounds_toArray, List.set_cons_zero, List.set_cons_succ, i64_w, i32_w]
                  rfl
                 refine take_ (i := 51) (N := some 99) (v := ?_) (a' := ?_) mk_55_52 rfl rfl (take_ofW HT_.out HW_.out (by kernel_rfl)) (fun _ _ _ h => h) (Or.inl ⟨by rfl, ?_⟩) hHeld ?_ ?_
                 rotate_left
                 ·rintro w' ⟨s0, s1, s2, s3, s4, s5, s6, s7, s8, s9, s10, s11⟩
                  go_simp
                  with_reducible rfl
                 rotate_left
                 ·simp only [Act.put, List.setIfInBounds_toArray, List.set_cons_zero, List.set_cons_succ, i64_w, i32_w]
                  rfl
                 refine one_ (i := 52) (N := some 100) mk_55_53 rfl rfl (one_of HT_.out (by kernel_rfl)) (by decide) (fun K hK => ?_)
                 refine goes_ Try.func21 (by kernel_rfl) rfl #[.agg #[.int .i64 2, .int .i64 258, .int .i64 7, .slice Ao33 y159.length co33]] (by rfl) rfl rfl (by (try simp only [List.map_toArray, List.map_cons, List.map_nil]); first | done | rfl | (simp only [List.length_drop, List.length_take]; rfl)) ?_
                 with_reducible refine (lsa_May.calls k 2 258 7 _ _ y159 t197 _ ?side1 ?side2 A30.out).mono ?_
                 (case side1 => repeat (first | exact (Kd.R_reads' HO161.out).2.2 | (with_reducible refine Kd.C_alloc ?_ _) | (with_reducible refine Kd.C_drewN ?_ _) | (with_reducible refine Kd.C_drew ?_)))
                 (case side2 => exact (Kd.R_reads' HO161.out).2.1)
                 rintro e w59 ⟨rfl, hb⟩
                 refine ⟨_, rfl, ?_⟩
                 have n0_ := Aside0.mk (Kd.R_below (by (with_reducible repeat (first | apply Kd.R_alloc | apply Kd.R_drewN | apply Kd.R_drew)); exact HO161.out) hb)
                 have n1_ := Aside0.mk (Kd.R_below (by (with_reducible repeat (first | apply Kd.R_alloc | apply Kd.R_drewN | apply Kd.R_drew)); exact HO170.out) hb)
                 have n2_ := Aside0.mk (Kd.R_below (by (with_reducible repeat (first | apply Kd.R_alloc | apply Kd.R_drewN | apply Kd.R_drew)); exact HO187.out) hb)
                 have n3_ := Aside0.mk (blk_below (g := gb162) (o := .cells #[.int .i64 2, .int .i64 258, .int .i64 7, .slice Ao33 y159.length co33] 24 (0, 0)) (by (with_reducible repeat (first | refine blk_drewN ?_ _ | refine blk_drew ?_ | refine blk_alloc ?_ _)); exact BK162.out) hb)
                 have n4_ := Aside0.mk (blk_below (g := gb173) (o := .cells #[.int .i64 t165, .int .i64 t166, .int .i64 t167, .slice Ao41 t168.length co41] 24 (0, 0)) (by (with_reducible repeat (first | refine blk_drewN ?_ _ | refine blk_drew ?_ | refine blk_alloc ?_ _)); exact BK173.out) hb)
                 have n5_ := Aside0.mk (blk_below (g := gb179) (o := .cells #[.int .i64 t174, .int .i64 t175, .int .i64 t176, .int .i64 t177] 36 (0, 0)) (by (with_reducible repeat (first | refine blk_drewN ?_ _ | refine blk_drew ?_ | refine blk_alloc ?_ _)); exact BK179.out) hb)
                 have n6_ := Aside0.mk (blk_below (g := gb190) (o := .cells #[.int .i64 t182, .int .i64 t183, .int .i64 t184, .slice Ao55 t185.length co55] 24 (0, 0)) (by (with_reducible repeat (first | refine blk_drewN ?_ _ | refine blk_drew ?_ | refine blk_alloc ?_ _)); exact BK190.out) hb)
                 have n7_ := Aside0.mk (below_step (by repeat (first | (with_reducible first | exact HB.out | apply below_alloc | apply pw_below_drewN | apply below_drew1 | refine below_set ?_ GE162.out | refine below_set ?_ GE173.out | refine below_set ?_ GE179.out | refine below_set ?_ GE190.out) | exact HB.out)) hb)
                 clear HO161
                 clear HO170
                 clear HO187
                 clear BK162
                 clear BK173
                 clear BK179
                 clear BK190
                 clear HB
                 have HO161 := n0_
                 have HO170 := n1_
                 have HO187 := n2_
                 have BK162 := n3_
                 have BK173 := n4_
                 have BK179 := n5_
                 have BK190 := n6_
                 have HB := n7_
                 clear n0_ n1_ n2_ n3_ n4_ n5_ n6_ n7_
                 (try clear hb)
                 (try clear hb2)
                 (try clear hk)
                 (try clear hi)
                 refine hK.out _ _ ⟨(blk_cell BK162.out 0).trans rfl, (blk_cell BK162.out 1).trans rfl, (blk_cell BK162.out 2).trans rfl, (blk_cell BK162.out 3).trans rfl, (blk_cell BK173.out 0).trans rfl, (blk_cell BK173.out 1).trans rfl, (blk_cell BK173.out 2).trans rfl, (blk_cell BK173.out 3).trans rfl, (blk_cell BK179.out 0).trans rfl, (blk_cell BK179.out 1).trans rfl, (blk_cell BK179.out 2).trans rfl, (blk_cell BK179.out 3).trans rfl⟩ (fun hHeld => ?_)
                 clear hK K
                 refine norm_ (a' := ?_) ?_ ?_
                 rotate_left
                 ·show Act.put _ (some 100) _ = _
                  simp only [Act.put, List.setIfInBounds_toArray, List.set_cons_zero, List.set_cons_succ, i64_w, i32_w]
                  rfl
                 refine pure_ (i := 53) (N := some 101) (v := ?_) (a' := ?_) mk_55_54 rfl rfl (any_of HT_.out (by kernel_rfl)) (fun _ _ _ h => h) (Or.inl ⟨by rfl, ?_⟩) ?_ ?_
                 rotate_left
                 ·intro w'
                  go_simp
                  with_reducible rfl
                 rotate_left
                 ·simp only [Act.put, List.setIfInBounds_toArray, List.set_cons_zero, List.set_cons_succ, i64_w, i32_w]
                  rfl
                 refine pure_ (i := 54) (N := some 0) (v := ?_) (a' := ?_) mk_55_55 rfl rfl (any_of HT_.out (by kernel_rfl)) (fun _ _ _ h => h) (Or.inl ⟨by rfl, ?_⟩) ?_ ?_
                 rotate_left
                 ·intro w'
                  go_simp
                  with_reducible rfl
                 rotate_left
                 ·simp only [Act.put, List.setIfInBounds_toArray, List.set_cons_zero, List.set_cons_succ, i64_w, i32_w]
                  rfl
                 refine done_ (done_of HT_.out (by kernel_rfl)) ?_
                 try go_wp2
                 go_ret
                 exact ⟨by first | rfl | (simp [errW_none, errW_some] <;> rfl) | (simp [*, errW_none, errW_some] <;> rfl), by repeat (first | (with_reducible first | exact HB.out | apply below_alloc | apply pw_below_drewN | apply below_drew1 | refine below_set ?_ GE162.out | refine below_set ?_ GE173.out | refine below_set ?_ GE179.out | refine below_set ?_ GE190.out) | exact HB.out)⟩
                ·rw [if_neg c29] at H
                 have c29b0 : (t196 == 700) = false := beq_eq_false_iff_ne.mpr c29
                 have c29b1 : (t196 != 700) = true := bne_iff_ne.mpr c29
                 exact absurd (Option.some.inj H) (by rw [HT.out]; decide)
               ·rw [if_neg c27] at H
                have c27b0 : (t195 == 700) = false := beq_eq_false_iff_ne.mpr c27
                have c27b1 : (t195 != 700) = true := bne_iff_ne.mpr c27
                exact absurd (Option.some.inj H) (by rw [HT.out]; decide)
              ·rw [if_neg c25] at H
               have c25b0 : (t194 == 0) = false := beq_eq_false_iff_ne.mpr c25
               have c25b1 : (t194 != 0) = true := bne_iff_ne.mpr c25
               exact absurd (Option.some.inj H) (by rw [HT.out]; decide)
             ·rw [if_neg c23] at H
              have c23b0 : (t174 == 2 && (t175 == 258 && (t176 == 7 && (t177 == (Go.bits .or .i64 (wrap64 ((wrap64 (bt t163 10)) * 256)) (wrap64 (bt t163 11))))))) = false := by simpa using c23
              (try (have c23b1 : decide (t174 = 2 && (t175 == 258 && (t176 == 7 && (t177 == (Go.bits .or .i64 (wrap64 ((wrap64 (bt t163 10)) * 256)) (wrap64 (bt t163 11))))))) = false := by simpa using c23))
              (try (have c23b2 : (t174 == 2 && (t175 == 258 && (t176 == 7 && (t177 == (Go.bits .or .i64 (wrap64 ((wrap64 (bt t163 10)) * 256)) (wrap64 (bt t163 11))))))) = false := by simpa using c23))
              (try (have c23b3 : ¬ (t174 = 2 && (t175 == 258 && (t176 == 7 && (t177 == (Go.bits .or .i64 (wrap64 ((wrap64 (bt t163 10)) * 256)) (wrap64 (bt t163 11))))))) := by simpa using c23))
              clear c23
              exact absurd (Option.some.inj H) (by rw [HT.out]; decide)
            ·rw [if_neg c21] at H
             exact absurd H (by simp)
           ·rw [if_neg c19] at H
            exact absurd H (by simp)
          ·rw [if_neg c18] at H
           have c18b0 : (t193 == 0) = false := beq_eq_false_iff_ne.mpr c18
           have c18b1 : (t193 != 0) = true := bne_iff_ne.mpr c18
           exact absurd (Option.some.inj H) (by rw [HT.out]; decide)
         ·rw [if_neg c16] at H
          have c16b0 : (t171 == 14) = false := beq_eq_false_iff_ne.mpr c16
          have c16b1 : (t171 != 14) = true := bne_iff_ne.mpr c16
          exact absurd (Option.some.inj H) (by rw [HT.out]; decide)
        ·replace c15 := Bool.eq_false_iff.mpr c15
         subst c15
         have H1 : (some false) = some r := by rw [if_neg (show ¬ (false = true) by decide)] at H; exact H
         clear H
         have H := H1
         clear H1
         exact absurd (Option.some.inj H) (by rw [HT.out]; decide)
       ·rw [if_neg c13] at H
        have c13b0 : (t191 == 0) = false := beq_eq_false_iff_ne.mpr c13
        have c13b1 : (t191 != 0) = true := bne_iff_ne.mpr c13
        exact absurd (Option.some.inj H) (by rw [HT.out]; decide)
      ·rw [if_neg c11] at H
       have c11b0 : ((t163.extract 0 10).toList == ([7, 2, 0, 0, 1, 2, 1, 1, 0, 10] : List UInt8)) = false := beq_eq_false_iff_ne.mpr c11
       have c11b1 : ((t163.extract 0 10).toList != ([7, 2, 0, 0, 1, 2, 1, 1, 0, 10] : List UInt8)) = true := bne_iff_ne.mpr c11
       exact absurd (Option.some.inj H) (by rw [HT.out]; decide)
     ·rw [if_neg c10] at H
      exact absurd H (by simp)
    ·rw [if_neg c9] at H
     exact absurd H (by simp)
   ·rw [if_neg c8] at H
    have c8b0 : ((t163.size : Int) == 12) = false := beq_eq_false_iff_ne.mpr c8
    have c8b1 : ((t163.size : Int) != 12) = true := bne_iff_ne.mpr c8
    exact absurd (Option.some.inj H) (by rw [HT.out]; decide)
  ·rw [if_neg c3] at H
   exact absurd H (by simp)
 ·rw [if_neg c2] at H
  exact absurd H (by simp)

end Go.Proofs.Ytmcajcomoegkdaa.Q7
namespace Go.Proofs.Ytmcajcomoegkdaa.L7
open Go.RowKit Go.Proofs.YtmcajcomoegkdaaW.PrintWords Go.Proofs.YtmcajcomoegkdaaW.PrintLast Go.Proofs.YtmcajcomoegkdaaW.PrintMore Go.Proofs.Ytmcajcomoegkdaa.Base Go.Proofs.Ytmcajcomoegkdaa.Q7
set_option linter.unusedVariables false
set_option linter.unusedSimpArgs false
/-! ### lsa: One, Two, Four, Number -/
theorem lsa_One_f (x : Int) : lsa_One.f x = some (strOfNums (e1 x)) := rfl
theorem lsa_Two_f (x : Int) : lsa_Two.f x = some (strOfNums (e2 x)) := rfl
theorem lsa_Four_f (x : Int) : lsa_Four.f x = some (strOfNums (e4 x)) := by
  simp only [lsa_Four.f, lsa_Two_f, Option.bind_some, strOf_append, strOf_size, e2_len]
  rw [if_pos (by decide)]
  have h1 : x / 65536 / 256 = x / 16777216 := by omega
  simp only [e2, e4, List.cons_append, List.nil_append, h1]
theorem lsa_Number_step {acc : Int} {s : ByteArray} {i k d : Nat} (hd : i + (d + 1) = s.size) (hi : i ≤ 6) (h0 : 0 ≤ acc) (h1 : acc < lim i) :
    lsa_Number.l0 (k + 1) s acc (s.size : Int) (i : Int) = lsa_Number.l0 k s (acc * 256 + (B s).getD i 0) (s.size : Int) ((i + 1 : Nat) : Int) := by
  have hb : bt s (i : Int) = (B s).getD i 0 := by rw [bt_B, Int.toNat_natCast]
  have hr := byt_getD (B_byt s) i
  have hp : lim i ≤ 281474976710656 := lim_le6 hi
  have h2 : wrap64 (acc * 256) = acc * 256 := wrap_id (by omega) (by omega)
  have h3 : wrap64 ((B s).getD i 0) = (B s).getD i 0 := wrap_id (by omega) (by omega)
  have h4 : wrap64 ((i : Int) + 1) = ((i + 1 : Nat) : Int) := by rw [wrap_id (by omega) (by omega)]; omega
  have h5 : Go.bits .or .i64 (acc * 256) ((B s).getD i 0) = acc * 256 + (B s).getD i 0 := or_byte (by omega) (by omega) (by omega) hr.1 hr.2
  simp only [lsa_Number.l0]
  rw [if_pos (by omega), if_pos (by omega), if_pos (by omega), hb, h2, h3, h4, h5]
theorem lsa_Number_l {s : ByteArray} (hs : s.size ≤ 7) : ∀ (d k i : Nat) (acc : Int), i + d = s.size → d < k → 0 ≤ acc → acc < lim i →
    lsa_Number.l0 k s acc (s.size : Int) (i : Int) = some (((B s).drop i).foldl (fun a b => a * 256 + b) acc) := by
  intro d
  induction d with
  | zero =>
    intro k i acc hi hk h0 h1
    obtain ⟨k, rfl⟩ : ∃ m, k = m + 1 := ⟨k - 1, by omega⟩
    simp only [lsa_Number.l0]
    rw [if_neg (by omega), List.drop_of_length_le (by rw [B_len]; omega)]
    rfl
  | succ d ih =>
    intro k i acc hi hk h0 h1
    obtain ⟨k, rfl⟩ : ∃ m, k = m + 1 := ⟨k - 1, by omega⟩
    have hlt : i < (B s).length := by rw [B_len]; omega
    have hd : (B s).drop i = (B s).getD i 0 :: (B s).drop (i + 1) := by
      rw [List.drop_eq_getElem_cons hlt, List.getD_eq_getElem?_getD, List.getElem?_eq_getElem hlt, Option.getD_some]
    have hr := byt_getD (B_byt s) i
    have hl := lim_succ i
    rw [lsa_Number_step hi (by omega) h0 h1, ih k (i + 1) _ (by omega) (by omega) (by omega) (by omega), hd, List.foldl_cons]
theorem lsa_Number_f {s : ByteArray} (hs : s.size ≤ 7) {k : Nat} (hk : 8 ≤ k) : lsa_Number.f k s = some (num (B s)) :=
  lsa_Number_l hs s.size k 0 0 (by omega) (by omega) (by omega) (by decide)
/-! ### lsa: Links, May, body, Put, Get, Head (S49: the struct Link) -/
instance : DecidableEq S49 := fun a b => decidable_of_iff (a.f0 = b.f0 ∧ a.f1 = b.f1) (by cases a; cases b; simp)
def LinkOk (rt : Int) (x : S49) : Prop := 1 ≤ x.f0 ∧ x.f0 ≤ 4 ∧ x.f0 ≠ rt ∧ 1 ≤ x.f1 ∧ x.f1 ≤ 65535
instance (rt : Int) (x : S49) : Decidable (LinkOk rt x) := by unfold LinkOk; infer_instance
def links (rt : Int) : Int → List S49 → Bool
  | _, [] => true
  | p, x :: l => if LinkOk rt x ∧ p < x.f0 then links rt x.f0 l else false
theorem links_short {rt : Int} : ∀ (l : List S49) (p : Int), 0 ≤ p → links rt p l = true → l.length = 0 ∨ (l.length : Int) ≤ 4 - p
  | [], _, _, _ => .inl rfl
  | x :: l, p, h0, h => by
    unfold links at h
    by_cases hc : LinkOk rt x ∧ p < x.f0
    · rw [if_pos hc] at h
      have h4 := hc.1.2.1
      rcases links_short l x.f0 (by omega) h with h1 | h1
      · right; simp only [List.length_cons, h1]; omega
      · right; simp only [List.length_cons]; omega
    · rw [if_neg hc] at h; cases h
theorem links_len {rt : Int} {l : List S49} (h : links rt 0 l = true) : l.length ≤ 4 := by
  rcases links_short l 0 (by omega) h with h1 | h1 <;> omega
theorem links_range {rt : Int} : ∀ (l : List S49) (p : Int), links rt p l = true → ∀ x ∈ l, LinkOk rt x
  | [], _, _, _, hx => by cases hx
  | y :: l, p, h, x, hx => by
    unfold links at h
    by_cases hc : LinkOk rt y ∧ p < y.f0
    · rw [if_pos hc] at h
      rcases List.mem_cons.mp hx with rfl | hx
      · exact hc.1
      · exact links_range l y.f0 h x hx
    · rw [if_neg hc] at h; cases h
theorem rdL_at {l : List S49} {i : Nat} (h : i < l.length) : rd_T49 l (i : Int) = l[i] := by
  unfold rd_T49; rw [Int.toNat_natCast, List.getD_eq_getElem?_getD, List.getElem?_eq_getElem h]; rfl
def prevL (l : List S49) (i : Nat) : Int := if i = 0 then 0 else (rd_T49 l ((i : Int) - 1)).f0
theorem prevL_succ (l : List S49) (i : Nat) : prevL l (i + 1) = (rd_T49 l (i : Int)).f0 := by
  unfold prevL; rw [if_neg (by omega)]
  have : ((i + 1 : Nat) : Int) - 1 = (i : Int) := by omega
  rw [this]
theorem dropL_at {l : List S49} {i : Nat} (h : i < l.length) : l.drop i = rd_T49 l (i : Int) :: l.drop (i + 1) := by
  rw [List.drop_eq_getElem_cons h, rdL_at h]
theorem lsa_Router_f (x : Int) : lsa_Router.f x = some (decide (1 ≤ x ∧ x ≤ 4)) := by
  unfold lsa_Router.f
  by_cases h : x ≥ 1
  · rw [if_pos h]; simp [show (1 : Int) ≤ x from h]
  · rw [if_neg h]; simp [show ¬ (1 : Int) ≤ x from h]
theorem lsa_Links_l {l : List S49} {rt : Int} (hn : l.length ≤ 9223372036854775807) : ∀ (d k i : Nat), i + d = l.length → d < k →
    lsa_Links.l0 k l rt l (l.length : Int) (i : Int) = some (links rt (prevL l i) (l.drop i)) := by
  intro d
  induction d with
  | zero =>
    intro k i hi hk
    obtain ⟨k, rfl⟩ : ∃ m, k = m + 1 := ⟨k - 1, by omega⟩
    simp only [lsa_Links.l0]
    rw [if_neg (by omega), List.drop_of_length_le (by omega)]
    rfl
  | succ d ih =>
    intro k i hi hk
    obtain ⟨k, rfl⟩ : ∃ m, k = m + 1 := ⟨k - 1, by omega⟩
    have hlt : i < l.length := by omega
    have h4 : wrap64 ((i : Int) + 1) = ((i + 1 : Nat) : Int) := by rw [wrap_id (by omega) (by omega)]; omega
    have h5 : wrap64 ((i : Int) - 1) = (i : Int) - 1 := wrap_id (by omega) (by omega)
    have hr := ih k (i + 1) (by omega) (by omega)
    simp only [lsa_Links.l0, lsa_Router_f, Option.bind_some, decide_eq_true_eq]
    rw [if_pos (by omega), if_pos (by omega), if_pos (by omega), h4, h5, hr, prevL_succ, dropL_at hlt]
    generalize hx : rd_T49 l (i : Int) = x
    by_cases c1 : 1 ≤ x.f0 ∧ x.f0 ≤ 4
    · rw [if_pos c1]
      by_cases c2 : x.f0 = rt
      · rw [if_pos c2]; unfold links; rw [if_neg (fun hh => hh.1.2.2.1 c2)]
      rw [if_neg c2]
      by_cases c3 : x.f1 < 1
      · rw [if_pos c3]; unfold links; rw [if_neg (fun hh => by have := hh.1.2.2.2.1; omega)]
      rw [if_neg c3]
      by_cases c4 : x.f1 > 65535
      · rw [if_pos c4]; unfold links; rw [if_neg (fun hh => by have := hh.1.2.2.2.2; omega)]
      rw [if_neg c4]
      have hok : LinkOk rt x := ⟨c1.1, c1.2, c2, by omega, by omega⟩
      by_cases h0 : (i : Int) > 0
      · rw [if_pos h0, if_pos (by omega), if_pos (by omega)]
        have hp : prevL l i = (rd_T49 l ((i : Int) - 1)).f0 := by unfold prevL; rw [if_neg (by omega)]
        by_cases hg : (rd_T49 l ((i : Int) - 1)).f0 ≥ x.f0
        · rw [if_pos hg]; unfold links; rw [if_neg (by rw [hp]; omega)]
        · rw [if_neg hg]; conv => rhs; unfold links
          rw [if_pos ⟨hok, by rw [hp]; omega⟩]
      · rw [if_neg h0]
        have hp : prevL l i = 0 := by unfold prevL; rw [if_pos (by omega)]
        conv => rhs; unfold links
        rw [if_pos ⟨hok, by rw [hp]; omega⟩]
    · rw [if_neg c1]; unfold links; rw [if_neg (fun hh => c1 ⟨hh.1.1, hh.1.2.1⟩)]
theorem lsa_Links_f {l : List S49} {rt : Int} (hn : l.length ≤ 9223372036854775807) {k : Nat} (hk : l.length < k) : lsa_Links.f k l rt = some (links rt 0 l) :=
  lsa_Links_l hn l.length k 0 (by omega) hk
def LsaOk (r s g : Int) (l : List S49) : Prop := 1 ≤ r ∧ r ≤ 4 ∧ 1 ≤ s ∧ s ≤ 2147483647 ∧ 0 ≤ g ∧ g ≤ 60 ∧ links r 0 l = true
instance (r s g : Int) (l : List S49) : Decidable (LsaOk r s g l) := by unfold LsaOk; infer_instance
theorem lsa_May_f {r s g : Int} {l : List S49} (hn : l.length ≤ 9223372036854775807) {k : Nat} (hk : l.length < k) : lsa_May.f k r s g l = some (decide (LsaOk r s g l)) := by
  simp only [lsa_May.f, lsa_Links_f hn hk, lsa_Router_f, Option.bind_some]
  unfold lsa_Serial.f lsa_Age.f
  by_cases h1 : 1 ≤ r ∧ r ≤ 4
  · unfold LsaOk
    by_cases h3 : s ≥ 1
    · by_cases h4 : s ≤ 2147483647
      · by_cases h5 : g ≥ 0
        · by_cases h6 : g ≤ 60
          · simp [h1.1, h1.2, h3, h4, h5, h6]
          · simp [h1.1, h1.2, h3, h4, h5, h6]
        · simp [h1.1, h1.2, h3, h4, h5]
      · simp [h1.1, h1.2, h3, h4]
    · simp [h1.1, h1.2, h3]
  · rw [decide_eq_false h1, if_neg (by decide), decide_eq_false (fun hh : LsaOk r s g l => h1 ⟨hh.1, hh.2.1⟩)]
def lbytes (x : S49) : List Int := e1 x.f0 ++ e2 x.f1
theorem lbytes_byt (x : S49) : Byt (lbytes x) := byt_append (e1_byt _) (e2_byt _)
theorem lbytes_len (x : S49) : (lbytes x).length = 3 := rfl
theorem lflat_byt (l : List S49) : Byt (l.flatMap lbytes) := by
  intro y hy
  obtain ⟨x, _, hx⟩ := List.mem_flatMap.mp hy
  exact lbytes_byt x y hx
theorem lflat_len (l : List S49) : (l.flatMap lbytes).length = 3 * l.length := by
  induction l with
  | nil => rfl
  | cons x l ih => rw [List.flatMap_cons, List.length_append, ih, lbytes_len, List.length_cons]; omega
def bodyB (r s : Int) (l : List S49) : List Int := ((e1 r ++ e4 s) ++ e1 (l.length : Int)) ++ l.flatMap lbytes
theorem bodyB_byt (r s : Int) (l : List S49) : Byt (bodyB r s l) := byt_append (byt_append (byt_append (e1_byt _) (e4_byt _)) (e1_byt _)) (lflat_byt l)
theorem bodyB_len (r s : Int) (l : List S49) : (bodyB r s l).length = 6 + 3 * l.length := by
  unfold bodyB; simp only [List.length_append, lflat_len, e1_len, e4_len]
theorem lsa_body_l {l : List S49} (hn : l.length ≤ 255) : ∀ (d k i : Nat) (acc : List Int), i + d = l.length → d < k → acc.length ≤ 10 + 3 * i →
    lsa_body.l0 k (strOfNums acc) l (l.length : Int) (i : Int) = some (strOfNums (acc ++ (l.drop i).flatMap lbytes)) := by
  intro d
  induction d with
  | zero =>
    intro k i acc hi hk ha
    obtain ⟨k, rfl⟩ : ∃ m, k = m + 1 := ⟨k - 1, by omega⟩
    simp only [lsa_body.l0]
    rw [if_neg (by omega), List.drop_of_length_le (by omega)]
    simp
  | succ d ih =>
    intro k i acc hi hk ha
    obtain ⟨k, rfl⟩ : ∃ m, k = m + 1 := ⟨k - 1, by omega⟩
    have hlt : i < l.length := by omega
    have h4 : wrap64 ((i : Int) + 1) = ((i + 1 : Nat) : Int) := by rw [wrap_id (by omega) (by omega)]; omega
    simp only [lsa_body.l0, lsa_One_f, lsa_Two_f, Option.bind_some, strOf_append, strOf_size, List.length_append, e1_len, e2_len]
    rw [if_pos (by omega), if_pos (by omega), if_pos (by omega), if_pos (by decide), if_pos (by omega), h4,
      ih k (i + 1) _ (by omega) (by omega) (by simp only [List.length_append, e1_len, e2_len]; omega), dropL_at hlt, List.flatMap_cons]
    simp only [lbytes, List.append_assoc]
theorem lsa_body_f {r s g : Int} {l : List S49} (hn : l.length ≤ 255) {k : Nat} (hk : l.length < k) : lsa_body.f k r s g l = some (strOfNums (bodyB r s l)) := by
  simp only [lsa_body.f, lsa_One_f, lsa_Four_f, Option.bind_some, strOf_append, strOf_size, List.length_append, e1_len, e4_len]
  rw [if_pos (by decide), if_pos (by decide)]
  exact lsa_body_l hn l.length k 0 _ (by omega) hk (by simp only [List.length_append, e1_len, e4_len]; omega)
def fl : Int → Int → List Int → Int
  | a, b, [] => 256 * b + a
  | a, b, x :: l => fl ((a + x) % 255) ((b + (a + x) % 255) % 255) l
theorem fl_range : ∀ (l : List Int) (a b : Int), 0 ≤ a ∧ a < 255 → 0 ≤ b ∧ b < 255 → 0 ≤ fl a b l ∧ fl a b l ≤ 65278
  | [], a, b, ha, hb => by unfold fl; omega
  | x :: l, a, b, ha, hb => by unfold fl; exact fl_range l _ _ (by omega) (by omega)
def flSum (l : List Int) : Int := fl 0 0 l
theorem flSum_range (l : List Int) : 0 ≤ flSum l ∧ flSum l ≤ 65278 := fl_range l 0 0 (by omega) (by omega)
theorem fletch_Sum_l {s : ByteArray} (hs : s.size ≤ 140737488351232) : ∀ (d k i : Nat) (a b : Int), i + d = s.size → d < k → 0 ≤ a ∧ a < 255 → 0 ≤ b ∧ b < 255 →
    fletch_Sum.l0 k s a b (s.size : Int) (i : Int) = some (fl a b ((B s).drop i)) := by
  intro d
  induction d with
  | zero =>
    intro k i a b hi hk ha hb
    obtain ⟨k, rfl⟩ : ∃ m, k = m + 1 := ⟨k - 1, by omega⟩
    simp only [fletch_Sum.l0]
    rw [if_neg (by omega), List.drop_of_length_le (by rw [B_len]; omega), wrap_id (x := 256 * b) (by omega) (by omega), wrap_id (by omega) (by omega)]
    rfl
  | succ d ih =>
    intro k i a b hi hk ha hb
    obtain ⟨k, rfl⟩ : ∃ m, k = m + 1 := ⟨k - 1, by omega⟩
    have hlt : i < (B s).length := by rw [B_len]; omega
    have hd : (B s).drop i = (B s).getD i 0 :: (B s).drop (i + 1) := by
      rw [List.drop_eq_getElem_cons hlt, List.getD_eq_getElem?_getD, List.getElem?_eq_getElem hlt, Option.getD_some]
    have hbt : bt s (i : Int) = (B s).getD i 0 := by rw [bt_B, Int.toNat_natCast]
    have hr := byt_getD (B_byt s) i
    have h4 : wrap64 ((i : Int) + 1) = ((i + 1 : Nat) : Int) := by rw [wrap_id (by omega) (by omega)]; omega
    simp only [fletch_Sum.l0]
    rw [if_pos (by omega), if_pos (by omega), if_pos (by omega), hbt, h4, hd]
    generalize (B s).getD i 0 = x at hr ⊢
    rw [wrap_id (x := x) (by omega) (by omega), wrap_id (x := a + x) (by omega) (by omega), Int.tmod_eq_emod_of_nonneg (a := a + x) (by omega),
      wrap_id (x := b + (a + x) % 255) (by omega) (by omega), Int.tmod_eq_emod_of_nonneg (a := b + (a + x) % 255) (by omega),
      ih k (i + 1) _ _ (by omega) (by omega) (by omega) (by omega)]
    rfl
theorem fletch_Sum_f {s : ByteArray} (hs : s.size ≤ 140737488351232) {k : Nat} (hk : s.size < k) : fletch_Sum.f k s = some (flSum (B s)) :=
  fletch_Sum_l hs s.size k 0 0 0 (by omega) hk (by omega) (by omega)
def putB (r s g : Int) (l : List S49) : List Int := (e1 g ++ bodyB r s l) ++ e2 (flSum (bodyB r s l))
theorem putB_byt (r s g : Int) (l : List S49) : Byt (putB r s g l) := byt_append (byt_append (e1_byt _) (bodyB_byt r s l)) (e2_byt _)
theorem putB_len (r s g : Int) (l : List S49) : (putB r s g l).length = 9 + 3 * l.length := by
  unfold putB; simp only [List.length_append, bodyB_len, e1_len, e2_len]; omega
theorem lsa_Put_f {r s g : Int} {l : List S49} (hn : l.length ≤ 9223372036854775807) {k : Nat} (hk : l.length < k) (h20 : 20 ≤ k) :
    lsa_Put.f k r s g l = some (if LsaOk r s g l then (strOfNums (putB r s g l), 0) else (⟨#[]⟩, 700)) := by
  simp only [lsa_Put.f, lsa_May_f hn hk, Option.bind_some, decide_eq_true_eq]
  by_cases h : LsaOk r s g l
  · have h4 := links_len h.2.2.2.2.2.2
    have hb := bodyB_len r s l
    rw [if_pos h, if_pos h, lsa_body_f (by omega) hk]
    simp only [Option.bind_some, lsa_One_f, lsa_Two_f]
    rw [fletch_Sum_f (by rw [strOf_size]; omega) (by rw [strOf_size]; omega), B_strOf (bodyB_byt r s l)]
    simp only [Option.bind_some, strOf_append, strOf_size, List.length_append, e1_len, e2_len, hb]
    rw [if_pos (by omega), if_pos (by omega)]
    rfl
  · rw [if_neg h, if_neg h]
def parseL : Nat → List Int → List S49
  | 0, _ => []
  | n + 1, b => ⟨b.getD 0 0, num ((b.drop 1).take 2)⟩ :: parseL n (b.drop 3)
theorem parseL_len : ∀ (n : Nat) (b : List Int), (parseL n b).length = n
  | 0, _ => rfl
  | n + 1, b => by unfold parseL; rw [List.length_cons, parseL_len n]
def endL (b : List Int) (sz : Nat) (r s g : Int) (l : List S49) : Option (Int × Int × Int × List S49 × Nat) :=
  if LsaOk r s g l ∧ putB r s g l = b.take sz then some (r, s, g, l, sz) else none
def getLsa (b : List Int) : Option (Int × Int × Int × List S49 × Nat) :=
  if b.length < 7 then none else
  if b.length < 9 + 3 * (b.getD 6 0).toNat then none else
  endL b (9 + 3 * (b.getD 6 0).toNat) (b.getD 1 0) (num ((b.drop 2).take 4)) (b.getD 0 0) (parseL (b.getD 6 0).toNat (b.drop 7))
def tellL (at_ : Int) : Option (Int × Int × Int × List S49 × Nat) → Int × Int × Int × List S49 × Int × Int
  | some (r, s, g, l, sz) => (r, s, g, l, at_ + (sz : Int), 0)
  | none => (0, 0, 0, [], 0, 700)
theorem lgetD_drop (b : List Int) (i j : Nat) : (b.drop i).getD j 0 = b.getD (i + j) 0 := by
  rw [List.getD_eq_getElem?_getD, List.getD_eq_getElem?_getD, List.getElem?_drop]
theorem B_tail (x : ByteArray) (p : Nat) : B (x.extract p x.size) = (B x).drop p := by
  rw [B_extract, List.take_of_length_le]
  rw [List.length_drop, B_len]; exact Nat.le_refl _
theorem size_tail (x : ByteArray) (p : Nat) : (x.extract p x.size).size = x.size - p := by
  rw [ByteArray.size_extract, Nat.min_self]
theorem lsa_Number_at (x : ByteArray) (p a b : Nat) (hab : b - a ≤ 7) {k : Nat} (hk : 8 ≤ k) : lsa_Number.f k ((x.extract p x.size).extract a b) = some (num ((((B x).drop p).drop a).take (b - a))) := by
  have e : B ((x.extract p x.size).extract a b) = (((B x).drop p).drop a).take (b - a) := by rw [B_extract, B_tail]
  have hs : ((x.extract p x.size).extract a b).size ≤ 7 := by rw [← B_len, e, List.length_take]; exact Nat.le_trans (Nat.min_le_left _ _) hab
  rw [lsa_Number_f hs hk, e]
theorem bt_tail (x : ByteArray) (p j : Nat) : bt (x.extract p x.size) (j : Int) = ((B x).drop p).getD j 0 := by
  rw [bt_B, B_tail, Int.toNat_natCast]
theorem wrap_bt (x : ByteArray) (p j : Nat) : wrap64 (bt (x.extract p x.size) (j : Int)) = ((B x).drop p).getD j 0 := by
  have h := byt_getD (byt_drop p (B_byt x)) j
  rw [bt_tail]; exact wrap_id (by omega) (by omega)
theorem wrap_bt0 (x : ByteArray) (p : Nat) : wrap64 (bt (x.extract p x.size) 0) = ((B x).drop p).getD 0 0 := wrap_bt x p 0
theorem tail_bounds {z p : Nat} (h : p + 3 ≤ z) : (p : Int) ≤ (z : Int) ∧ 0 < ((z - p : Nat) : Int) ∧ 3 ≤ ((z - p : Nat) : Int) := by omega
theorem link_in {sz n i z : Nat} (hsz : sz = 9 + 3 * n) (hx : sz ≤ z) (hi : i < n) : 7 + 3 * i + 3 ≤ z := by omega
theorem wrap_3 {i : Nat} (h : i ≤ 255) : wrap64 (3 * (i : Int)) = 3 * (i : Int) := wrap_id (by omega) (by omega)
theorem wrap_7 {i : Nat} (h : i ≤ 255) : wrap64 (7 + 3 * (i : Int)) = ((7 + 3 * i : Nat) : Int) := by rw [wrap_id (by omega) (by omega)]; omega
theorem wrap_1 {i : Nat} (h : i ≤ 255) : wrap64 ((i : Int) + 1) = ((i + 1 : Nat) : Int) := by rw [wrap_id (by omega) (by omega)]; omega
set_option maxHeartbeats 2000000 in
theorem lsa_Get_l {x : ByteArray} (hs : x.size ≤ 281474976710656) {at_ : Int} (ha0 : 0 ≤ at_) (ha1 : at_ ≤ 281474976710656) {r s g : Int} {n sz : Nat} (hn : n ≤ 255) (hsz : sz = 9 + 3 * n) (hx : sz ≤ x.size) : ∀ (d k i : Nat) (acc : List S49), acc.length = i → i + d = n → d + 300 ≤ k →
    lsa_Get.l0 k at_ x (sz : Int) (n : Int) (i : Int) r s g acc = some (tellL at_ (endL (B x) sz r s g (acc ++ parseL d ((B x).drop (7 + 3 * i))))) := by
  intro d
  induction d with
  | zero =>
    intro k i acc ha hi hk
    obtain ⟨k, rfl⟩ : ∃ m, k = m + 1 := ⟨k - 1, by omega⟩
    simp only [lsa_Get.l0]
    rw [if_neg (by omega), lsa_Put_f (by omega) (by omega) (by omega), Option.bind_some]
    have he : acc ++ parseL 0 ((B x).drop (7 + 3 * i)) = acc := by unfold parseL; simp
    rw [he]
    unfold endL
    by_cases h : LsaOk r s g acc
    · rw [if_pos h, if_pos rfl, if_pos (by omega), if_pos (by omega), Int.toNat_natCast]
      have hB : B (x.extract 0 sz) = (B x).take sz := by rw [B_extract, List.drop_zero, Nat.sub_zero]
      by_cases h2 : putB r s g acc = (B x).take sz
      · rw [if_pos (by rw [toList_iff, B_strOf (putB_byt _ _ _ _), hB]; exact h2), if_pos ⟨h, h2⟩, wrap_id (by omega) (by omega)]
        rfl
      · rw [if_neg (by rw [toList_iff, B_strOf (putB_byt _ _ _ _), hB]; exact h2), if_neg (fun hh => h2 hh.2)]
        rfl
    · rw [if_neg h, if_neg (by decide), if_neg (fun hh => h hh.1)]
      rfl
  | succ d ih =>
    intro k i acc ha hi hk
    obtain ⟨k, rfl⟩ : ∃ m, k = m + 1 := ⟨k - 1, by omega⟩
    have hlt : i < n := by omega
    have hp : parseL (d + 1) ((B x).drop (7 + 3 * i)) = (⟨((B x).drop (7 + 3 * i)).getD 0 0, num ((((B x).drop (7 + 3 * i)).drop 1).take 2)⟩ : S49) :: parseL d ((B x).drop (7 + 3 * (i + 1))) := by
      have h0 : ((B x).drop (7 + 3 * i)).drop 3 = (B x).drop (7 + 3 * (i + 1)) := by rw [List.drop_drop]; congr 1
      conv => lhs; unfold parseL
      rw [h0]
    obtain ⟨c1, c2, c3⟩ := tail_bounds (z := x.size) (p := 7 + 3 * i) (link_in hsz hx hlt)
    have hr := ih k (i + 1) (acc ++ [(⟨((B x).drop (7 + 3 * i)).getD 0 0, num ((((B x).drop (7 + 3 * i)).drop 1).take 2)⟩ : S49)]) (by simp only [List.length_append, List.length_singleton]; omega) (by omega) (by omega)
    have hk8 : 8 ≤ k := by omega
    have ha2 : acc.length < 8796093022208 := by omega
    have w3 := wrap_3 (show i ≤ 255 by omega)
    have w7 := wrap_7 (show i ≤ 255 by omega)
    have w1 := wrap_1 (show i ≤ 255 by omega)
    clear ih ha hi hk hsz hs ha0 ha1
    simp only [lsa_Get.l0, w3, w7, w1, Int.toNat_natCast, size_tail]
    rw [if_pos (Int.ofNat_lt.mpr hlt), if_pos (Int.natCast_nonneg _), if_pos c1, if_pos c2, if_pos (by decide), if_pos c3, lsa_Number_at x (7 + 3 * i) 1 3 (by decide) hk8, Option.bind_some, wrap_bt0 x (7 + 3 * i), if_pos ha2, hr, hp, List.append_assoc]
    rfl
set_option maxHeartbeats 2000000 in
theorem lsa_Get_f {a : ByteArray} (hs : a.size ≤ 281474976710656) {at_ : Int} (hw : -9223372036854775808 ≤ at_ ∧ at_ ≤ 9223372036854775807) {k : Nat} (hk : 600 ≤ k) :
    lsa_Get.f k a at_ = some (tellL at_ (if 0 ≤ at_ then getLsa ((B a).drop at_.toNat) else none)) := by
  obtain ⟨k, rfl⟩ : ∃ m, k = m + 1 := ⟨k - 1, by omega⟩
  have hl := B_len a
  unfold lsa_Get.f
  by_cases c0 : at_ < 0
  · rw [if_pos c0, if_neg (by omega)]
    simp only [lsa_Get.j0, if_true]; rfl
  rw [if_neg c0, if_pos (show 0 ≤ at_ by omega)]
  obtain ⟨p, rfl⟩ : ∃ p : Nat, at_ = (p : Int) := ⟨at_.toNat, by omega⟩
  rw [Int.toNat_natCast]
  have hld : ((B a).drop p).length = a.size - p := by rw [List.length_drop, hl]
  by_cases c1 : (p : Int) > (a.size : Int)
  · rw [if_pos c1]
    simp only [lsa_Get.j0, if_true]
    unfold getLsa
    rw [if_pos (by omega)]; rfl
  rw [if_neg c1, wrap_id (x := (a.size : Int) - (p : Int)) (by omega) (by omega)]
  by_cases c2 : (a.size : Int) - (p : Int) < 7
  · rw [decide_eq_true c2]
    simp only [lsa_Get.j0, if_true]
    unfold getLsa
    rw [if_pos (by omega)]; rfl
  rw [decide_eq_false c2]
  have hby : Byt ((B a).drop p) := byt_drop p (B_byt a)
  have hr6 := byt_getD hby 6
  simp only [lsa_Get.j0, Int.toNat_natCast, Bool.false_eq_true, if_false, size_tail]
  rw [if_pos (by omega), if_pos (by omega), if_pos (by omega), if_pos (by omega), if_pos (by decide), if_pos (by omega), lsa_Number_at a p 2 6 (by omega) (show 8 ≤ k by omega), Option.bind_some, if_pos (by omega), wrap_bt0 a p, show wrap64 (bt (a.extract p a.size) 1) = _ from wrap_bt a p 1, show wrap64 (bt (a.extract p a.size) 6) = _ from wrap_bt a p 6]
  unfold getLsa
  rw [hld]
  generalize hn : ((B a).drop p).getD 6 0 = n at hr6 ⊢
  obtain ⟨n, rfl⟩ : ∃ m : Nat, n = (m : Int) := ⟨n.toNat, by omega⟩
  clear hn
  rw [wrap_id (x := 3 * (n : Int)) (by omega) (by omega), wrap_id (x := 7 + 3 * (n : Int)) (by omega) (by omega), wrap_id (x := 7 + 3 * (n : Int) + 2) (by omega) (by omega), Int.toNat_natCast]
  by_cases c3 : 7 + 3 * (n : Int) + 2 > ((a.size - p : Nat) : Int)
  · rw [if_pos c3, if_neg (by omega), if_pos (by omega)]; rfl
  rw [if_neg c3, if_neg (by omega), if_neg (by omega)]
  have hz : 7 + 3 * (n : Int) + 2 = ((9 + 3 * n : Nat) : Int) := by omega
  have := lsa_Get_l (x := a.extract p a.size) (by rw [size_tail]; omega) (show 0 ≤ (p : Int) by omega) (by omega) (r := ((B a).drop p).getD 1 0) (s := num ((((B a).drop p).drop 2).take 4)) (g := ((B a).drop p).getD 0 0) (n := n) (sz := 9 + 3 * n) (by omega) rfl (by rw [size_tail]; omega) n k 0 [] rfl (by omega) (by omega)
  rw [hz]
  refine Eq.trans this ?_
  rw [B_tail]
  rfl
theorem parse_links : ∀ (l : List S49) (r : List Int), (∀ x ∈ l, 1 ≤ x.f0 ∧ x.f0 ≤ 4 ∧ 1 ≤ x.f1 ∧ x.f1 ≤ 65535) → parseL l.length (l.flatMap lbytes ++ r) = l
  | [], r, _ => rfl
  | x :: l, r, h => by
    have hx := h x (by simp)
    rw [List.flatMap_cons, List.length_cons, List.append_assoc]
    unfold parseL
    have a0 : (lbytes x ++ (l.flatMap lbytes ++ r)).getD 0 0 = x.f0 := by simp [lbytes, e1]; omega
    have a1 : ((lbytes x ++ (l.flatMap lbytes ++ r)).drop 1).take 2 = e2 x.f1 := by simp [lbytes, e1, e2]
    rw [a0, a1, num_e2 (by omega) (by omega), ← lbytes_len x, List.drop_left, parse_links l r (fun y hy => h y (by simp [hy]))]
theorem get_put {r s g : Int} {l : List S49} (h : LsaOk r s g l) (rest : List Int) : getLsa (putB r s g l ++ rest) = some (r, s, g, l, 9 + 3 * l.length) := by
  obtain ⟨h1, h2, h3, h4, h5, h6, h7⟩ := h
  have hl := links_len h7
  have hlen := putB_len r s g l
  have hbn : (bodyB r s l).length = 6 + 3 * l.length := bodyB_len r s l
  have hform : putB r s g l ++ rest = (g % 256) :: (r % 256) :: (s / 16777216 % 256) :: (s / 65536 % 256) :: (s / 256 % 256) :: (s % 256) :: ((l.length : Int) % 256) :: (l.flatMap lbytes ++ (e2 (flSum (bodyB r s l)) ++ rest)) := by
    unfold putB
    conv => lhs; rw [show bodyB r s l = ((e1 r ++ e4 s) ++ e1 (l.length : Int)) ++ l.flatMap lbytes from rfl]
    simp [e1, e4, bodyB]
  have g0 : (putB r s g l ++ rest).getD 0 0 = g := by rw [hform]; show g % 256 = g; omega
  have g1 : (putB r s g l ++ rest).getD 1 0 = r := by rw [hform]; show r % 256 = r; omega
  have g6 : (putB r s g l ++ rest).getD 6 0 = (l.length : Int) := by rw [hform]; show (l.length : Int) % 256 = _; omega
  have g2 : ((putB r s g l ++ rest).drop 2).take 4 = e4 s := by rw [hform]; rfl
  have g7 : (putB r s g l ++ rest).drop 7 = l.flatMap lbytes ++ (e2 (flSum (bodyB r s l)) ++ rest) := by rw [hform]; rfl
  unfold getLsa
  rw [if_neg (by rw [List.length_append]; omega), g6, Int.toNat_natCast, if_neg (by rw [List.length_append]; omega), g0, g1, g2, g7, num_e4 (by omega) (by omega),
    parse_links l _ (fun x hx => by have := links_range l 0 h7 x hx; exact ⟨this.1, this.2.1, this.2.2.2.1, this.2.2.2.2⟩)]
  unfold endL
  rw [if_pos ⟨⟨h1, h2, h3, h4, h5, h6, h7⟩, by rw [← hlen, List.take_left]⟩]
theorem get_some {b : List Int} {r s g : Int} {l : List S49} {sz : Nat} (h : getLsa b = some (r, s, g, l, sz)) : LsaOk r s g l ∧ putB r s g l = b.take sz ∧ sz ≤ b.length ∧ sz = 9 + 3 * l.length := by
  unfold getLsa at h
  by_cases c0 : b.length < 7
  · rw [if_pos c0] at h; cases h
  rw [if_neg c0] at h
  by_cases c1 : b.length < 9 + 3 * (b.getD 6 0).toNat
  · rw [if_pos c1] at h; cases h
  rw [if_neg c1] at h
  unfold endL at h
  split at h
  · rename_i hc
    simp only [Option.some.injEq, Prod.mk.injEq] at h
    obtain ⟨rfl, rfl, rfl, rfl, rfl⟩ := h
    exact ⟨hc.1, hc.2, by omega, by rw [parseL_len]⟩
  · cases h
theorem SameL_l {l m : List S49} (hn : l.length ≤ 9223372036854775807) (he : l.length = m.length) : ∀ (d k i : Nat), i + d = l.length → d < k →
    watchwordlaw0_SameLinks.l0 k l m (i : Int) = some (decide (l.drop i = m.drop i)) := by
  intro d
  induction d with
  | zero =>
    intro k i hi hk
    obtain ⟨k, rfl⟩ : ∃ m, k = m + 1 := ⟨k - 1, by omega⟩
    simp only [watchwordlaw0_SameLinks.l0]
    rw [if_neg (by omega), List.drop_of_length_le (by omega), List.drop_of_length_le (by omega)]
    simp
  | succ d ih =>
    intro k i hi hk
    obtain ⟨k, rfl⟩ : ∃ m, k = m + 1 := ⟨k - 1, by omega⟩
    have h4 : wrap64 ((i : Int) + 1) = ((i + 1 : Nat) : Int) := by rw [wrap_id (by omega) (by omega)]; omega
    simp only [watchwordlaw0_SameLinks.l0]
    rw [if_pos (by omega), if_pos (by omega), if_pos (by omega), h4, ih k (i + 1) (by omega) (by omega), dropL_at (l := l) (i := i) (by omega), dropL_at (l := m) (i := i) (by omega)]
    generalize rd_T49 l (i : Int) = x
    generalize rd_T49 m (i : Int) = y
    have hx : (!(x.f0 == y.f0) || (!(x.f1 == y.f1))) = !decide (x = y) := by
      cases x; cases y
      rw [Bool.eq_iff_iff]
      simp
    rw [hx]
    by_cases hc : x = y
    · rw [hc]; simp
    · simp [hc]
theorem SameL_f {l m : List S49} (hn : l.length ≤ 9223372036854775807) {k : Nat} (hk : l.length < k) : watchwordlaw0_SameLinks.f k l m = some (decide (l = m)) := by
  unfold watchwordlaw0_SameLinks.f
  by_cases h : l.length = m.length
  · rw [if_pos (by omega)]
    have := SameL_l hn h l.length k 0 (by omega) hk
    rw [List.drop_zero, List.drop_zero] at this
    exact this
  · rw [if_neg (by omega), decide_eq_false (fun e => h (by rw [e]))]
theorem SameLsa_f {r s g r' s' g' : Int} {l m : List S49} (hn : l.length ≤ 9223372036854775807) {k : Nat} (hk : l.length < k) :
    watchwordlaw0_SameLsa.f k r s g l r' s' g' m = some (decide (r = r' ∧ s = s' ∧ g = g' ∧ l = m)) := by
  unfold watchwordlaw0_SameLsa.f
  rw [SameL_f hn hk]
  by_cases h1 : r = r'
  · by_cases h2 : s = s'
    · by_cases h3 : g = g'
      · rw [if_pos h1, if_pos h2, if_pos h3]; simp [h1, h2, h3]
      · rw [if_pos h1, if_pos h2, if_neg h3]; simp [h3]
    · rw [if_pos h1, if_neg h2]; simp [h2]
  · rw [if_neg h1]; simp [h1]
/-! ### lsa.Head -/
theorem lsa_Head_f {r s g : Int} {l : List S49} (hn : l.length ≤ 9223372036854775807) {k : Nat} (hk : l.length < k) (h20 : 20 ≤ k) :
    lsa_Head.f k r s g l = some (if LsaOk r s g l then (r, s, g, flSum (bodyB r s l), 0) else (0, 0, 0, 0, 700)) := by
  simp only [lsa_Head.f, lsa_May_f hn hk, Option.bind_some, decide_eq_true_eq]
  by_cases h : LsaOk r s g l
  · have h4 := links_len h.2.2.2.2.2.2
    have hb := bodyB_len r s l
    rw [if_pos h, if_pos h, lsa_body_f (by omega) hk]
    simp only [Option.bind_some]
    rw [fletch_Sum_f (by rw [strOf_size]; omega) (by rw [strOf_size]; omega), B_strOf (bodyB_byt r s l)]
    rfl
  · rw [if_neg h, if_neg h]
/-- The layer is awake. -/
theorem awake_ok {k : Nat} (hk : 700 ≤ k) : watchwordlaw7_awake.f k = some true :=
  at_rounds (g := fun k => watchwordlaw7_awake.f k) watchwordlaw7_awake.mono hk (by decide +kernel)

end Go.Proofs.Ytmcajcomoegkdaa.L7
namespace Go.Proofs.Ytmcajcomoegkdaa.R7
open Go.RowKit Go.Proofs.YtmcajcomoegkdaaW.PrintWords Go.Proofs.YtmcajcomoegkdaaW.PrintLast Go.Proofs.YtmcajcomoegkdaaW.PrintMore Go.Proofs.Ytmcajcomoegkdaa.Base Go.Proofs.Ytmcajcomoegkdaa.Q7 Go.Proofs.Ytmcajcomoegkdaa.L7
set_option linter.unusedVariables false
set_option linter.unusedSimpArgs false
/-! ### the reference: Num, Of -/
theorem ref_Num1 {k : Nat} (hk : 3 ≤ k) (x : Int) : watchwordref1_Num.f k x 1 = some (strOfNums (e1 x)) := by
  obtain ⟨k, rfl⟩ : ∃ m, k = m + 3 := ⟨k - 3, by omega⟩
  simp [watchwordref1_Num.f, watchwordref1_Num.l0, wrap64, shr, IntKind.bits, e1]
theorem ref_Num2 {k : Nat} (hk : 5 ≤ k) (x : Int) : watchwordref1_Num.f k x 2 = some (strOfNums (e2 x)) := by
  obtain ⟨k, rfl⟩ : ∃ m, k = m + 5 := ⟨k - 5, by omega⟩
  simp [watchwordref1_Num.f, watchwordref1_Num.l0, wrap64, shr, IntKind.bits, e2]
theorem ref_Num4 {k : Nat} (hk : 7 ≤ k) (x : Int) : watchwordref1_Num.f k x 4 = some (strOfNums (e4 x)) := by
  obtain ⟨k, rfl⟩ : ∃ m, k = m + 7 := ⟨k - 7, by omega⟩
  simp [watchwordref1_Num.f, watchwordref1_Num.l0, wrap64, shr, IntKind.bits, e4]
theorem ref_Of_step {acc : Int} {s : ByteArray} {i k d : Nat} (hd : i + (d + 1) = s.size) (hi : i ≤ 6) (h0 : 0 ≤ acc) (h1 : acc < lim i) :
    watchwordref1_Of.l0 (k + 1) s acc (i : Int) = watchwordref1_Of.l0 k s (acc * 256 + (B s).getD i 0) ((i + 1 : Nat) : Int) := by
  have hb : bt s (i : Int) = (B s).getD i 0 := by rw [bt_B, Int.toNat_natCast]
  have hr := byt_getD (B_byt s) i
  have hp : lim i ≤ 281474976710656 := lim_le6 hi
  have h2 : wrap64 (acc * 256) = acc * 256 := wrap_id (by omega) (by omega)
  have h3 : wrap64 ((B s).getD i 0) = (B s).getD i 0 := wrap_id (by omega) (by omega)
  have h4 : wrap64 ((i : Int) + 1) = ((i + 1 : Nat) : Int) := by rw [wrap_id (by omega) (by omega)]; omega
  have h5 : Go.bits .or .i64 (acc * 256) ((B s).getD i 0) = acc * 256 + (B s).getD i 0 := or_byte (by omega) (by omega) (by omega) hr.1 hr.2
  simp only [watchwordref1_Of.l0]
  rw [if_pos (by omega), if_pos (by omega), hb, h2, h3, h4, h5]
theorem ref_Of_l {s : ByteArray} (hs : s.size ≤ 7) : ∀ (d k i : Nat) (acc : Int), i + d = s.size → d < k → 0 ≤ acc → acc < lim i →
    watchwordref1_Of.l0 k s acc (i : Int) = some (((B s).drop i).foldl (fun a b => a * 256 + b) acc) := by
  intro d
  induction d with
  | zero =>
    intro k i acc hi hk h0 h1
    obtain ⟨k, rfl⟩ : ∃ m, k = m + 1 := ⟨k - 1, by omega⟩
    simp only [watchwordref1_Of.l0]
    rw [if_neg (by omega), List.drop_of_length_le (by rw [B_len]; omega)]
    rfl
  | succ d ih =>
    intro k i acc hi hk h0 h1
    obtain ⟨k, rfl⟩ : ∃ m, k = m + 1 := ⟨k - 1, by omega⟩
    have hlt : i < (B s).length := by rw [B_len]; omega
    have hd : (B s).drop i = (B s).getD i 0 :: (B s).drop (i + 1) := by
      rw [List.drop_eq_getElem_cons hlt, List.getD_eq_getElem?_getD, List.getElem?_eq_getElem hlt, Option.getD_some]
    have hr := byt_getD (B_byt s) i
    have hl := lim_succ i
    rw [ref_Of_step hi (by omega) h0 h1, ih k (i + 1) _ (by omega) (by omega) (by omega) (by omega), hd, List.foldl_cons]
theorem ref_Of_f {s : ByteArray} (hs : s.size ≤ 7) {k : Nat} (hk : 8 ≤ k) : watchwordref1_Of.f k s = some (num (B s)) :=
  ref_Of_l hs s.size k 0 0 (by omega) (by omega) (by omega) (by decide)
/-! ### the document's own: LinksMay, LsaMay, bytes, Fletch, PutLsa, GetLsa, HeadOf -/
theorem ref_upTo (x a b : Int) : watchwordref1_upTo.f x a b = some (decide (a ≤ x ∧ x ≤ b)) := by
  unfold watchwordref1_upTo.f
  by_cases h : x ≥ a
  · rw [if_pos h]; simp [show a ≤ x from h]
  · rw [if_neg h]; simp [show ¬ a ≤ x from h]
theorem ref_router (x : Int) : watchwordref1_routerMay.f x = some (decide (1 ≤ x ∧ x ≤ 4)) := by
  unfold watchwordref1_routerMay.f; rw [ref_upTo]; rfl
theorem ref_Links_l {l : List S49} {rt : Int} (hn : l.length ≤ 9223372036854775807) : ∀ (d k i : Nat), i + d = l.length → d < k →
    watchwordref1_LinksMay.l0 k rt l (i : Int) = some (links rt (prevL l i) (l.drop i) && decide (l.length ≤ 4)) := by
  intro d
  induction d with
  | zero =>
    intro k i hi hk
    obtain ⟨k, rfl⟩ : ∃ m, k = m + 1 := ⟨k - 1, by omega⟩
    simp only [watchwordref1_LinksMay.l0]
    rw [if_neg (by omega), List.drop_of_length_le (by omega)]
    unfold links
    rw [Bool.true_and]
    congr 1
    rw [Bool.eq_iff_iff, decide_eq_true_eq, decide_eq_true_eq]
    omega
  | succ d ih =>
    intro k i hi hk
    obtain ⟨k, rfl⟩ : ∃ m, k = m + 1 := ⟨k - 1, by omega⟩
    have hlt : i < l.length := by omega
    have h4 : wrap64 ((i : Int) + 1) = ((i + 1 : Nat) : Int) := by rw [wrap_id (by omega) (by omega)]; omega
    have h5 : wrap64 ((i : Int) - 1) = (i : Int) - 1 := wrap_id (by omega) (by omega)
    have hr := ih k (i + 1) (by omega) (by omega)
    simp only [watchwordref1_LinksMay.l0, ref_router, ref_upTo, Option.bind_some, decide_eq_true_eq]
    rw [if_pos (by omega), if_pos (by omega), h4, h5, hr, prevL_succ, dropL_at hlt]
    generalize rd_T49 l (i : Int) = x
    by_cases c1 : 1 ≤ x.f0 ∧ x.f0 ≤ 4
    · rw [if_pos c1]
      by_cases c2 : x.f0 = rt
      · rw [if_pos c2]; unfold links; rw [if_neg (fun hh => hh.1.2.2.1 c2)]; rfl
      rw [if_neg c2]
      by_cases c3 : 1 ≤ x.f1 ∧ x.f1 ≤ 65535
      · rw [if_pos c3]
        have hok : LinkOk rt x := ⟨c1.1, c1.2, c2, c3.1, c3.2⟩
        by_cases h0 : (i : Int) > 0
        · rw [if_pos h0, if_pos (by omega), if_pos (by omega)]
          have hp : prevL l i = (rd_T49 l ((i : Int) - 1)).f0 := by unfold prevL; rw [if_neg (by omega)]
          by_cases hg : x.f0 ≤ (rd_T49 l ((i : Int) - 1)).f0
          · rw [if_pos hg]; unfold links; rw [if_neg (by rw [hp]; omega)]; rfl
          · rw [if_neg hg]; conv => rhs; unfold links
            rw [if_pos ⟨hok, by rw [hp]; omega⟩]
        · rw [if_neg h0]
          have hp : prevL l i = 0 := by unfold prevL; rw [if_pos (by omega)]
          conv => rhs; unfold links
          rw [if_pos ⟨hok, by rw [hp]; omega⟩]
      · rw [if_neg c3]; unfold links; rw [if_neg (fun hh => c3 ⟨hh.1.2.2.2.1, hh.1.2.2.2.2⟩)]; rfl
    · rw [if_neg c1]; unfold links; rw [if_neg (fun hh => c1 ⟨hh.1.1, hh.1.2.1⟩)]; rfl
theorem ref_Links_f {l : List S49} {rt : Int} (hn : l.length ≤ 9223372036854775807) {k : Nat} (hk : l.length < k) : watchwordref1_LinksMay.f k rt l = some (links rt 0 l) := by
  have h := ref_Links_l (rt := rt) hn l.length k 0 (by omega) hk
  unfold watchwordref1_LinksMay.f
  rw [show (0 : Int) = ((0 : Nat) : Int) from rfl, h]
  show some (links rt 0 l && decide (l.length ≤ 4)) = some (links rt 0 l)
  by_cases g : links rt 0 l = true
  · rw [g, decide_eq_true (links_len g)]; rfl
  · rw [Bool.eq_false_iff.mpr g]; rfl
theorem ref_May_f {r s g : Int} {l : List S49} (hn : l.length ≤ 9223372036854775807) {k : Nat} (hk : l.length < k) : watchwordref1_LsaMay.f k r s g l = some (decide (LsaOk r s g l)) := by
  simp only [watchwordref1_LsaMay.f, ref_Links_f hn hk, ref_router, ref_upTo, Option.bind_some, decide_eq_true_eq]
  by_cases h1 : 1 ≤ r ∧ r ≤ 4
  · rw [if_pos h1]
    by_cases h2 : 1 ≤ s ∧ s ≤ 2147483647
    · rw [if_pos h2]
      by_cases h3 : 0 ≤ g ∧ g ≤ 60
      · rw [if_pos h3]; unfold LsaOk; simp [h1.1, h1.2, h2.1, h2.2, h3.1, h3.2]
      · rw [if_neg h3, decide_eq_false (fun hh : LsaOk r s g l => h3 ⟨hh.2.2.2.2.1, hh.2.2.2.2.2.1⟩)]
    · rw [if_neg h2, decide_eq_false (fun hh : LsaOk r s g l => h2 ⟨hh.2.2.1, hh.2.2.2.1⟩)]
  · rw [if_neg h1, decide_eq_false (fun hh : LsaOk r s g l => h1 ⟨hh.1, hh.2.1⟩)]
theorem ref_bytes_l {r s g : Int} {l : List S49} (hn : l.length ≤ 255) : ∀ (d k i : Nat) (acc : List Int), i + d = l.length → d + 10 < k → acc.length ≤ 10 + 3 * i →
    watchwordref1_bytes.l0 k (strOfNums acc) (i : Int) r s g l = some (strOfNums (acc ++ (l.drop i).flatMap lbytes)) := by
  intro d
  induction d with
  | zero =>
    intro k i acc hi hk ha
    obtain ⟨k, rfl⟩ : ∃ m, k = m + 1 := ⟨k - 1, by omega⟩
    simp only [watchwordref1_bytes.l0]
    rw [if_neg (by omega), List.drop_of_length_le (by omega)]
    simp
  | succ d ih =>
    intro k i acc hi hk ha
    obtain ⟨k, rfl⟩ : ∃ m, k = m + 1 := ⟨k - 1, by omega⟩
    have hlt : i < l.length := by omega
    have h4 : wrap64 ((i : Int) + 1) = ((i + 1 : Nat) : Int) := by rw [wrap_id (by omega) (by omega)]; omega
    simp only [watchwordref1_bytes.l0]
    rw [ref_Num1 (by omega), ref_Num2 (by omega)]
    simp only [Option.bind_some, strOf_append, strOf_size, List.length_append, e1_len, e2_len]
    rw [if_pos (by omega), if_pos (by omega), if_pos (by omega), if_pos (by omega), h4,
      ih k (i + 1) _ (by omega) (by omega) (by simp only [List.length_append, e1_len, e2_len]; omega), dropL_at hlt, List.flatMap_cons]
    simp only [lbytes, List.append_assoc]
theorem ref_bytes_f {r s g : Int} {l : List S49} (hn : l.length ≤ 255) {k : Nat} (hk : l.length + 10 < k) : watchwordref1_bytes.f k r s g l = some (strOfNums (bodyB r s l)) := by
  unfold watchwordref1_bytes.f
  rw [ref_Num1 (by omega), ref_Num4 (by omega), ref_Num1 (by omega)]
  simp only [Option.bind_some, strOf_append, strOf_size, List.length_append, e1_len, e4_len]
  rw [if_pos (by decide), if_pos (by decide)]
  exact ref_bytes_l hn l.length k 0 _ (by omega) hk (by simp only [List.length_append, e1_len, e4_len]; omega)
theorem ref_Fletch_l {s : ByteArray} (hs : s.size ≤ 140737488351232) : ∀ (d k i : Nat) (a b : Int), i + d = s.size → d < k → 0 ≤ a ∧ a < 255 → 0 ≤ b ∧ b < 255 →
    watchwordref1_Fletch.l0 k s a b (i : Int) = some (fl a b ((B s).drop i)) := by
  intro d
  induction d with
  | zero =>
    intro k i a b hi hk ha hb
    obtain ⟨k, rfl⟩ : ∃ m, k = m + 1 := ⟨k - 1, by omega⟩
    simp only [watchwordref1_Fletch.l0]
    rw [if_neg (by omega), List.drop_of_length_le (by rw [B_len]; omega), wrap_id (x := 256 * b) (by omega) (by omega), wrap_id (by omega) (by omega)]
    rfl
  | succ d ih =>
    intro k i a b hi hk ha hb
    obtain ⟨k, rfl⟩ : ∃ m, k = m + 1 := ⟨k - 1, by omega⟩
    have hlt : i < (B s).length := by rw [B_len]; omega
    have hd : (B s).drop i = (B s).getD i 0 :: (B s).drop (i + 1) := by
      rw [List.drop_eq_getElem_cons hlt, List.getD_eq_getElem?_getD, List.getElem?_eq_getElem hlt, Option.getD_some]
    have hbt : bt s (i : Int) = (B s).getD i 0 := by rw [bt_B, Int.toNat_natCast]
    have hr := byt_getD (B_byt s) i
    have h4 : wrap64 ((i : Int) + 1) = ((i + 1 : Nat) : Int) := by rw [wrap_id (by omega) (by omega)]; omega
    simp only [watchwordref1_Fletch.l0]
    rw [if_pos (by omega), if_pos (by omega), hbt, h4, hd]
    generalize (B s).getD i 0 = x at hr ⊢
    rw [wrap_id (x := x) (by omega) (by omega), wrap_id (x := a + x) (by omega) (by omega), Int.tmod_eq_emod_of_nonneg (a := a + x) (by omega),
      wrap_id (x := b + (a + x) % 255) (by omega) (by omega), Int.tmod_eq_emod_of_nonneg (a := b + (a + x) % 255) (by omega),
      ih k (i + 1) _ _ (by omega) (by omega) (by omega) (by omega)]
    rfl
theorem ref_Fletch_f {s : ByteArray} (hs : s.size ≤ 140737488351232) {k : Nat} (hk : s.size < k) : watchwordref1_Fletch.f k s = some (flSum (B s)) :=
  ref_Fletch_l hs s.size k 0 0 0 (by omega) hk (by omega) (by omega)
theorem ref_Head_f {r s g : Int} {l : List S49} (hn : l.length ≤ 9223372036854775807) {k : Nat} (hk : l.length + 10 < k) (h20 : 30 ≤ k) :
    watchwordref1_HeadOf.f k r s g l = some (if LsaOk r s g l then (r, s, g, flSum (bodyB r s l), 0) else (0, 0, 0, 0, 700)) := by
  simp only [watchwordref1_HeadOf.f, ref_May_f hn (show l.length < k by omega), Option.bind_some, decide_eq_true_eq]
  by_cases h : LsaOk r s g l
  · have h4 := links_len h.2.2.2.2.2.2
    have hb := bodyB_len r s l
    rw [if_pos h, if_pos h, ref_bytes_f (by omega) hk]
    simp only [Option.bind_some]
    rw [ref_Fletch_f (by rw [strOf_size]; omega) (by rw [strOf_size]; omega), B_strOf (bodyB_byt r s l)]
    rfl
  · rw [if_neg h, if_neg h]
theorem ref_Put_f {r s g : Int} {l : List S49} (hn : l.length ≤ 9223372036854775807) {k : Nat} (hk : l.length + 10 < k) (h20 : 30 ≤ k) :
    watchwordref1_PutLsa.f k r s g l = some (if LsaOk r s g l then (strOfNums (putB r s g l), 0) else (⟨#[]⟩, 700)) := by
  simp only [watchwordref1_PutLsa.f, ref_May_f hn (show l.length < k by omega), Option.bind_some, decide_eq_true_eq]
  by_cases h : LsaOk r s g l
  · have h4 := links_len h.2.2.2.2.2.2
    have hb := bodyB_len r s l
    rw [if_pos h, if_pos h, ref_bytes_f (by omega) hk, ref_Num1 (by omega)]
    simp only [Option.bind_some]
    rw [ref_Fletch_f (by rw [strOf_size]; omega) (by rw [strOf_size]; omega), B_strOf (bodyB_byt r s l)]
    simp only [Option.bind_some]
    rw [ref_Num2 (by omega)]
    simp only [Option.bind_some, strOf_append, strOf_size, List.length_append, e1_len, e2_len, hb]
    rw [if_pos (by omega), if_pos (by omega)]
    rfl
  · rw [if_neg h, if_neg h]
theorem wrap_nn {a b : Nat} {ci : Int} (hc : ci = (b : Int)) (h : a + b ≤ 9223372036854775807) : wrap64 ((a : Int) + ci) = ((a + b : Nat) : Int) := by
  rw [hc, wrap_id (by omega) (by omega)]; omega
theorem wrap_3n {i : Nat} (h : i ≤ 255) : wrap64 (3 * (i : Int)) = ((3 * i : Nat) : Int) := by rw [wrap_id (by omega) (by omega)]; omega
theorem nlt {a b : Nat} (h : a < b) : (a : Int) < (b : Int) := by omega
theorem nle {a b : Nat} (h : a ≤ b) : (a : Int) ≤ (b : Int) := by omega
theorem wrap_btN (x : ByteArray) (p j : Nat) : wrap64 (bt x ((p + j : Nat) : Int)) = ((B x).drop p).getD j 0 := by
  have h := byt_getD (B_byt x) (p + j)
  rw [bt_B, Int.toNat_natCast, lgetD_drop, wrap_id (by omega) (by omega)]
theorem Of_at (x : ByteArray) (a b : Nat) (hab : b - a ≤ 7) {k : Nat} (hk : 8 ≤ k) : watchwordref1_Of.f k (x.extract a b) = some (num (((B x).drop a).take (b - a))) := by
  rw [ref_Of_f (by simp only [ByteArray.size_extract]; omega) hk, B_extract]
set_option maxHeartbeats 2000000 in
theorem ref_Get_l {x : ByteArray} (hs : x.size ≤ 281474976710656) {p : Nat} {r s g : Int} {n sz : Nat} (hn : n ≤ 4) (hsz : sz = 9 + 3 * n) (hx : p + sz ≤ x.size) : ∀ (d k i : Nat) (acc : List S49), acc.length = i → i + d = n → d + 300 ≤ k →
    watchwordref1_GetLsa.l0 k x (p : Int) (n : Int) ((p + sz : Nat) : Int) (i : Int) r s g acc = some (tellL (p : Int) (endL ((B x).drop p) sz r s g (acc ++ parseL d (((B x).drop p).drop (7 + 3 * i))))) := by
  intro d
  induction d with
  | zero =>
    intro k i acc ha hi hk
    obtain ⟨k, rfl⟩ : ∃ m, k = m + 1 := ⟨k - 1, by omega⟩
    simp only [watchwordref1_GetLsa.l0]
    rw [if_neg (by omega), ref_Put_f (by omega) (by omega) (by omega), Option.bind_some]
    have he : acc ++ parseL 0 (((B x).drop p).drop (7 + 3 * i)) = acc := by unfold parseL; simp
    rw [he]
    unfold endL
    by_cases h : LsaOk r s g acc
    · rw [if_pos h, if_pos rfl, if_pos (Int.natCast_nonneg p), if_pos (nle (Nat.le_add_right p sz)), if_pos (nle hx), Int.toNat_natCast, Int.toNat_natCast]
      have hB : B (x.extract p (p + sz)) = ((B x).drop p).take sz := by rw [B_extract, Nat.add_sub_cancel_left]
      by_cases h2 : putB r s g acc = ((B x).drop p).take sz
      · rw [if_pos (by rw [toList_iff, B_strOf (putB_byt _ _ _ _), hB]; exact h2), if_pos ⟨h, h2⟩]
        rfl
      · rw [if_neg (by rw [toList_iff, B_strOf (putB_byt _ _ _ _), hB]; exact h2), if_neg (fun hh => h2 hh.2)]
        rfl
    · rw [if_neg h, if_neg (by decide), if_neg (fun hh => h hh.1)]
      rfl
  | succ d ih =>
    intro k i acc ha hi hk
    obtain ⟨k, rfl⟩ : ∃ m, k = m + 1 := ⟨k - 1, by omega⟩
    have hlt : i < n := by omega
    have hb : p + (7 + 3 * i) + 3 ≤ x.size := by omega
    have q1 : p + (7 + 3 * i) < x.size := by omega
    have q2 : p + (7 + 3 * i) + 1 ≤ p + (7 + 3 * i) + 3 := by omega
    have q3 : p + (7 + 3 * i) + 3 - (p + (7 + 3 * i) + 1) = 2 := by omega
    have q4 : p + (7 + 3 * i + 3) = p + (7 + 3 * (i + 1)) := by omega
    have q5 : p + 7 + 3 * i = p + (7 + 3 * i) := by omega
    have q6 : p + (7 + 3 * i) + 3 - (p + (7 + 3 * i) + 1) ≤ 7 := by omega
    have b7 : p + 7 ≤ 9223372036854775807 := by omega
    have b3 : i ≤ 255 := by omega
    have bq : p + 7 + 3 * i ≤ 9223372036854775807 := by omega
    have bq1 : p + (7 + 3 * i) + 1 ≤ 9223372036854775807 := by omega
    have bq3 : p + (7 + 3 * i) + 3 ≤ 9223372036854775807 := by omega
    have b1 : i + 1 ≤ 9223372036854775807 := by omega
    have ha2 : acc.length < 8796093022208 := by omega
    have ha3 : acc.length + 1 = i + 1 := by omega
    have hi1 : i + 1 + d = n := by omega
    have hk1 : d + 300 ≤ k := by omega
    have hk8 : 8 ≤ k := by omega
    clear hs hn hsz hx ha hi hk
    have hp : parseL (d + 1) (((B x).drop p).drop (7 + 3 * i)) = ⟨((B x).drop p).getD (7 + 3 * i) 0, num ((((B x).drop (p + (7 + 3 * i) + 1))).take 2)⟩ :: parseL d (((B x).drop p).drop (7 + 3 * (i + 1))) := by
      conv => lhs; unfold parseL
      simp only [lgetD_drop, Nat.add_zero, List.drop_drop]
      rfl
    have hr := ih k (i + 1) (acc ++ [(⟨((B x).drop p).getD (7 + 3 * i) 0, num ((((B x).drop (p + (7 + 3 * i) + 1))).take 2)⟩ : S49)]) (by rw [List.length_append]; exact ha3) hi1 hk1
    have w7 : wrap64 ((p : Int) + 7) = ((p + 7 : Nat) : Int) := wrap_nn rfl b7
    have w3 : wrap64 (3 * (i : Int)) = ((3 * i : Nat) : Int) := wrap_3n b3
    have wq : wrap64 (((p + 7 : Nat) : Int) + ((3 * i : Nat) : Int)) = ((p + (7 + 3 * i) : Nat) : Int) := by rw [wrap_nn rfl bq, q5]
    have wq1 : wrap64 (((p + (7 + 3 * i) : Nat) : Int) + 1) = ((p + (7 + 3 * i) + 1 : Nat) : Int) := wrap_nn rfl bq1
    have wq3 : wrap64 (((p + (7 + 3 * i) : Nat) : Int) + 3) = ((p + (7 + 3 * i) + 3 : Nat) : Int) := wrap_nn rfl bq3
    have w1 : wrap64 ((i : Int) + 1) = ((i + 1 : Nat) : Int) := wrap_nn rfl b1
    clear ih
    simp only [watchwordref1_GetLsa.l0, w7, w3, wq, wq1, wq3, w1, Int.toNat_natCast]
    rw [if_pos (nlt hlt), if_pos (Int.natCast_nonneg _), if_pos (nlt q1), if_pos (Int.natCast_nonneg _), if_pos (nle q2), if_pos (nle hb), Of_at x _ _ q6 hk8, Option.bind_some, if_pos ha2, wrap_btN, q3, hr, hp, List.append_assoc]
    rfl
set_option maxHeartbeats 2000000 in
theorem ref_Get_f {a : ByteArray} (hs : a.size ≤ 281474976710656) {at_ : Int} (hw : -9223372036854775808 ≤ at_ ∧ at_ ≤ 9223372036854775807) {k : Nat} (hk : 600 ≤ k) :
    watchwordref1_GetLsa.f k a at_ = some (tellL at_ (if 0 ≤ at_ then getLsa ((B a).drop at_.toNat) else none)) := by
  obtain ⟨k, rfl⟩ : ∃ m, k = m + 2 := ⟨k - 2, by omega⟩
  have hl := B_len a
  unfold watchwordref1_GetLsa.f
  by_cases c0 : at_ < 0
  · rw [if_pos c0, if_neg (by omega)]
    simp only [watchwordref1_GetLsa.j0, if_true]; rfl
  rw [if_neg c0, if_pos (show 0 ≤ at_ by omega)]
  obtain ⟨p, rfl⟩ : ∃ p : Nat, at_ = (p : Int) := ⟨at_.toNat, by omega⟩
  rw [Int.toNat_natCast]
  have hld : ((B a).drop p).length = a.size - p := by rw [List.length_drop, hl]
  rw [wrap_id (x := (a.size : Int) - 7) (by omega) (by omega)]
  by_cases c1 : (p : Int) > (a.size : Int) - 7
  · rw [decide_eq_true c1]
    simp only [watchwordref1_GetLsa.j0, if_true]
    unfold getLsa
    rw [if_pos (by omega)]; rfl
  rw [decide_eq_false c1]
  have hsz : p + 7 ≤ a.size := by omega
  have hby : Byt ((B a).drop p) := byt_drop p (B_byt a)
  have hr6 := byt_getD hby 6
  have b0 : p < a.size := by omega
  have b1 : p + 1 < a.size := by omega
  have b6 : p + 6 < a.size := by omega
  have b26 : p + 2 ≤ p + 6 := by omega
  have b6' : p + 6 ≤ a.size := by omega
  have m1 : p + 1 ≤ 9223372036854775807 := by omega
  have m2 : p + 2 ≤ 9223372036854775807 := by omega
  have m6 : p + 6 ≤ 9223372036854775807 := by omega
  have m9 : p + 9 ≤ 9223372036854775807 := by omega
  have d4 : p + 6 - (p + 2) = 4 := by omega
  have d7 : p + 6 - (p + 2) ≤ 7 := by omega
  have k8 : 8 ≤ k + 1 := by omega
  have l7 : ¬ a.size - p < 7 := by omega
  have hV : ∀ (n : Nat), ((B a).drop p).getD 6 0 = (n : Int) → watchwordref1_GetLsa.j0 (k + 2) a (p : Int) false = some (tellL (p : Int) (getLsa ((B a).drop p))) := by
    intro n hn
    have hn255 : n ≤ 255 := by rw [hn] at hr6; omega
    have m3 : p + 9 + 3 * n ≤ 9223372036854775807 := by omega
    have e3 : p + 9 + 3 * n = p + (9 + 3 * n) := by omega
    have hn9 : (n : Int).toNat = n := Int.toNat_natCast n
    have c33 : p + (9 + 3 * n) ≤ a.size ∨ ¬ p + (9 + 3 * n) ≤ a.size := Nat.le_total _ _ |>.elim .inl (fun h => by by_cases h2 : p + (9 + 3 * n) ≤ a.size; exact .inl h2; exact .inr h2)
    have s1 : ∀ h : p + (9 + 3 * n) ≤ a.size, ¬ a.size - p < 9 + 3 * n := fun h => by omega
    have s2 : ∀ h : ¬ p + (9 + 3 * n) ≤ a.size, a.size - p < 9 + 3 * n := fun h => by omega
    have s3 : ∀ h : ¬ p + (9 + 3 * n) ≤ a.size, ((p + (9 + 3 * n) : Nat) : Int) > (a.size : Int) := fun h => by omega
    have s4 : ∀ h : p + (9 + 3 * n) ≤ a.size, ¬ ((p + (9 + 3 * n) : Nat) : Int) > (a.size : Int) := fun h => by omega
    have n300 : n + 300 ≤ k := by omega
    have v0 : wrap64 (bt a (p : Int)) = ((B a).drop p).getD 0 0 := wrap_btN a p 0
    have v1 : wrap64 (bt a ((p + 1 : Nat) : Int)) = ((B a).drop p).getD 1 0 := wrap_btN a p 1
    have v6 : wrap64 (bt a ((p + 6 : Nat) : Int)) = ((B a).drop p).getD 6 0 := wrap_btN a p 6
    have w1 : wrap64 ((p : Int) + 1) = ((p + 1 : Nat) : Int) := wrap_nn rfl m1
    have w2 : wrap64 ((p : Int) + 2) = ((p + 2 : Nat) : Int) := wrap_nn rfl m2
    have w6 : wrap64 ((p : Int) + 6) = ((p + 6 : Nat) : Int) := wrap_nn rfl m6
    have w9 : wrap64 ((p : Int) + 9) = ((p + 9 : Nat) : Int) := wrap_nn rfl m9
    have w3 : wrap64 (3 * (n : Int)) = ((3 * n : Nat) : Int) := wrap_3n hn255
    have wz : wrap64 (((p + 9 : Nat) : Int) + ((3 * n : Nat) : Int)) = ((p + (9 + 3 * n) : Nat) : Int) := by rw [wrap_nn rfl m3, e3]
    simp only [watchwordref1_GetLsa.j0, Bool.false_eq_true, if_false, w1, w2, w6, w9, v0, v1, v6, hn, w3, wz, Int.toNat_natCast]
    rw [if_pos (Int.natCast_nonneg _), if_pos (nlt b0), if_pos (Int.natCast_nonneg _), if_pos (nlt b1), if_pos (Int.natCast_nonneg _), if_pos (nle b26), if_pos (nle b6'), Of_at a _ _ d7 k8, Option.bind_some, if_pos (Int.natCast_nonneg _), if_pos (nlt b6), d4]
    unfold getLsa
    rw [hld, if_neg l7, hn, hn9]
    rcases c33 with c3 | c3
    · rw [if_neg (s4 c3), if_neg (s1 c3)]
      by_cases c4 : (n : Int) > 4
      · rw [decide_eq_true c4]
        simp only [watchwordref1_GetLsa.j1, if_true]
        unfold endL
        rw [if_neg (fun hh => by have h7 := links_len hh.1.2.2.2.2.2.2; rw [parseL_len] at h7; clear hh v0 v1 v6 w1 w2 w6 w9 w3 wz hn; omega)]
        rfl
      · rw [decide_eq_false c4]
        simp only [watchwordref1_GetLsa.j1, Bool.false_eq_true, if_false]
        have hz := ref_Get_l hs (p := p) (r := ((B a).drop p).getD 1 0) (s := num (((B a).drop (p + 2)).take 4)) (g := ((B a).drop p).getD 0 0) (n := n) (sz := 9 + 3 * n) (by clear v0 v1 v6 w1 w2 w6 w9 w3 wz hn; omega) rfl c3 n k 0 [] rfl (Nat.zero_add n) n300
        refine Eq.trans hz ?_
        rw [show (B a).drop (p + 2) = ((B a).drop p).drop 2 from List.drop_drop.symm]
        rfl
    · rw [if_pos (s3 c3), if_pos (s2 c3)]
      simp only [watchwordref1_GetLsa.j1, if_true]; rfl
  exact hV _ (Int.toNat_of_nonneg hr6.1).symm

end Go.Proofs.Ytmcajcomoegkdaa.R7
namespace Go.Proofs.Ytmcajcomoegkdaa.Q7
open Go.RowKit Go.Proofs.YtmcajcomoegkdaaW.PrintWords Go.Proofs.YtmcajcomoegkdaaW.PrintLast Go.Proofs.YtmcajcomoegkdaaW.PrintMore
attribute [local go_sem] max2_int min2_int max_two min_two max_three min_three max_four min_four   -- for this text's walks alone
set_option linter.unusedVariables false
set_option linter.unusedSimpArgs false

/-! ### watchwordlaw0_SpoilLinks: function 23 -/
def watchwordlaw0_SpoilLinks.l0 : Nat → List (S49) → Int → Option ((List (S49)))
 | 0, _, _ => none
 | k + 1, x0, x2 => if x2 < (x0.length : Int) then (if 0 ≤ x2 then (watchwordlaw0_SpoilLinks.l0 k (x0.set (x2 : Int).toNat (⟨Go.bits .xor .i64 ((rd_T49 x0 x2).f0) 90, (rd_T49 x0 x2).f1⟩ : S49)) (wrap64 (x2 + 1))) else (none)) else (some x0)
def watchwordlaw0_SpoilLinks.f (k : Nat) (l0 : List (S49)) : Option ((List (S49))) := watchwordlaw0_SpoilLinks.l0 k l0 0
theorem watchwordlaw0_SpoilLinks.mono_l : ∀ k, (∀ y0 y1, LeO (watchwordlaw0_SpoilLinks.l0 k y0 y1) (watchwordlaw0_SpoilLinks.l0 (k + 1) y0 y1))
 | 0 => fun _ _ r h => by simp [watchwordlaw0_SpoilLinks.l0] at h
 | k + 1 => by
  have ih0 := watchwordlaw0_SpoilLinks.mono_l k
  ·intro y0 y1
   unfold watchwordlaw0_SpoilLinks.l0
   repeat' first
   | (with_reducible exact ih0 _ _)
   | (with_reducible exact LeO.refl _)
   | (with_reducible exact LeO.none _)
   | (with_reducible refine LeO.ite ?_ ?_)
   | (with_reducible refine LeO.bind ?_ (fun _ => ?_))
   | exact ih0 _ _
   | exact LeO.none _
   | refine LeO.ite ?_ ?_
   | refine LeO.bind ?_ (fun _ => ?_)
theorem watchwordlaw0_SpoilLinks.mono : ∀ a0 k, LeO (watchwordlaw0_SpoilLinks.f k a0) (watchwordlaw0_SpoilLinks.f (k + 1) a0) := by
 intro a0 k
 have ih0 := watchwordlaw0_SpoilLinks.mono_l k
 unfold watchwordlaw0_SpoilLinks.f
 repeat' first
   | (with_reducible exact ih0 _ _)
   | (with_reducible exact LeO.refl _)
   | (with_reducible exact LeO.none _)
   | (with_reducible refine LeO.ite ?_ ?_)
   | (with_reducible refine LeO.bind ?_ (fun _ => ?_))
   | exact ih0 _ _
   | exact LeO.none _
   | refine LeO.ite ?_ ?_
   | refine LeO.bind ?_ (fun _ => ?_)
set_option maxHeartbeats 8000000 in
set_option maxRecDepth 100000 in
theorem watchwordlaw0_SpoilLinks.calls (k : Nat) (P0_ : Nat → Prop) (u9000_ : Value) (l0 : List (S49)) (r : List (S49)) (w0 w : World) (hB : Below w0.heap.size w0 w) (ho0 : Kd.R k49 49 w w0.heap.size P0_ u9000_ l0) (h : watchwordlaw0_SpoilLinks.f k l0 = some r) :
  Calls Try.prog 23 #[u9000_] w fun e w' => e = .returned (.tuple #[]) ∧ Kd.R k49 49 w' w0.heap.size (fun k_ => (P0_ k_ ∨ w.heap.size ≤ k_)) u9000_ r ∧ Below w0.heap.size w0 w' ∧ Kept w w' (fun k_ => P0_ k_) := by
 have HO0 := Aside0.mk (show Kd.R k49 49 w w0.heap.size (fun k_ => (P0_ k_ ∨ w.heap.size ≤ k_)) u9000_ l0 from Kd.R_mono ho0 (fun k_ hk => (.inl hk)))
 have HK := Aside0.mk (Kept.refl w (fun k_ => P0_ k_))
 have HW0 := Aside0.mk hB.size
 have HB := Aside0.mk hB
 clear hB
 have H : (watchwordlaw0_SpoilLinks.l0 k l0 0) = some r := h
 clear h
 have H' := Aside0.mk H
 clear H
 go_enter Try.func23, Try.ntmps23
 go_wp2
 go_loopg [2] k (fun kq v2 w' => ∃ (x0_1 : List (S49)) (x2_1 : Int), v2 = .int .i64 x2_1 ∧ Aside0 (watchwordlaw0_SpoilLinks.l0 kq x0_1 x2_1 = some r) ∧ Aside0 (kq ≤ k) ∧ Aside0 (Kd.R k49 49 w' w0.heap.size (fun k_ => (P0_ k_ ∨ w.heap.size ≤ k_)) u9000_ x0_1) ∧ Aside0 (Kept w w' (fun k_ => P0_ k_)) ∧ Aside0 (Below w0.heap.size w0 w'))
 case atStart => exact ⟨(l0), (0), (by first | rfl | (simp; done) | (simp [*]; done)), H', ⟨Nat.le_refl _⟩, ⟨by (with_reducible repeat (first | apply Kd.R_alloc | apply Kd.R_drewN | apply Kd.R_drew)); exact HO0.out⟩, ⟨by repeat (first | (with_reducible first | exact HK.out | apply Kept.alloc | apply Kept.drewN | apply Kept.drew) | exact HK.out)⟩, ⟨by repeat (first | (with_reducible first | exact HB.out | apply below_alloc | apply pw_below_drewN | apply below_drew1) | exact HB.out)⟩⟩
 case round =>
  clear H'
  obtain ⟨x0_1, x2_1, rfl, HA, HK1, HO_0, HK, HB⟩ := hrel
  cases gk with
  | zero => exact absurd HA.out (by simp [watchwordlaw0_SpoilLinks.l0])
  | succ k1 =>
   have H := HA.out
   clear HA
   simp only [watchwordlaw0_SpoilLinks.l0] at H
   by_cases c2 : x2_1 < (x0_1.length : Int)
   ·rw [if_pos c2] at H
    have c2b0 : decide (x2_1 < (x0_1.length : Int)) = true := decide_eq_true c2
    clear c2
    by_cases c3 : 0 ≤ x2_1
    ·rw [if_pos c3] at H
     have c3b0 : decide (0 ≤ x2_1) = true := decide_eq_true c3
     clear c3
     obtain ⟨y296, hy296⟩ : ∃ y_ : List (S49), y_ = (x0_1.set (x2_1 : Int).toNat (⟨Go.bits .xor .i64 ((rd_T49 x0_1 x2_1).f0) 90, (rd_T49 x0_1 x2_1).f1⟩ : S49)) := ⟨_, rfl⟩
     replace H : (watchwordlaw0_SpoilLinks.l0 k1 y296 (wrap64 (x2_1 + 1))) = some r := by first | (rw [hy296]; with_reducible exact H) | (have H2_ := (Option.bind_some _ _).symm.trans H; rw [hy296]; with_reducible exact H2_) | (have H2_ := (Option.bind_some _ _).symm.trans H; with_reducible exact H2_) | with_reducible exact H | (rw [hy296]; exact H) | exact H
     have Ny296 := Aside0.mk hy296
     clear hy296
     have H' := Aside0.mk H
     clear H
     obtain ⟨Ao5, co5, eo5⟩ := Kd.R_slice HO_0.out
     subst eo5
     have p295 : 0 ≤ (x2_1 : Int) := of_decide_eq_true (by first | (with_reducible assumption) | assumption)
     have q295 : x2_1 < (x0_1.length : Int) := of_decide_eq_true (by first | (with_reducible assumption) | assumption)
     obtain ⟨ad295, e295, hx295_0, hx295_1⟩ := at_T49 (Kd.R_reads' HO_0.out).2.2 x2_1 p295 q295
     cases e295
     replace p295 := eq_true p295
     replace q295 := eq_true q295
     have p4 : 0 ≤ (x2_1 : Int) := of_decide_eq_true (by first | (with_reducible assumption) | assumption)
     have q4 : (x2_1 : Int) < ((x0_1.length : Int) : Int) := of_decide_eq_true (by first | (with_reducible assumption) | assumption)
     obtain ⟨go4, co4, eo4, gb4, gl4, cl4, HG4⟩ := Kd.R_form HO_0.out (by omega)
     (first | cases eo4 | (injection eo4 with ea_ en_ ec_; (first | subst ea_ | (injection ea_ with ea_; subst ea_)); subst ec_; clear en_))
     have GB4 := Aside0.mk gb4
     have GG4 := Aside0.mk HG4
     clear gb4 gl4 HG4
     have HMgo4 := Aside0.mk (show (P0_ go4 ∨ w.heap.size ≤ go4) from (HO_0.out.1 _ rfl))
     (first | simp only [add_plain] at hx295_0 | skip)
     (first | simp only [add_plain] at hx295_1 | skip)
     obtain ⟨ce4, hcl4, hM4, hcc4, hfr4⟩ := Kd.R_elem HO_0.out z49 (x2_1 : Int) p4 q4
     obtain rfl := k49_openM hM4
     have hx4_0 : wr.cell? ⟨go4, (x2_1 : Int).toNat * 2, none⟩ = some (.int .i64 ((rd_T49 x0_1 x2_1).f0)) := hcc4 0 _ rfl
     have hx4_1 : wr.cell? ⟨go4, (x2_1 : Int).toNat * 2 + 1, none⟩ = some (.int .i64 ((rd_T49 x0_1 x2_1).f1)) := hcc4 1 _ rfl
     have hf4_0 : wr.frozen? ⟨go4, (x2_1 : Int).toNat * 2, none⟩ = false := hfr4 0
     have hf4_1 : wr.frozen? ⟨go4, (x2_1 : Int).toNat * 2 + 1, none⟩ = false := hfr4 1
     clear hcl4 hcc4 hfr4 hM4
     replace p4 := eq_true p4
     replace q4 := eq_true q4
     have HX6 := Aside0.mk (show Kd.R k49 49 wr w0.heap.size (fun k_ => (P0_ k_ ∨ w.heap.size ≤ k_)) (.slice (some ⟨go4, 0, none⟩) x0_1.length co5) x0_1 from (by (with_reducible repeat (first | apply Kd.R_alloc | apply Kd.R_drewN | apply Kd.R_drew)); exact HO_0.out))
     obtain ⟨ce6, hcl6, hM6, hcc6, hfr6⟩ := Kd.R_elem HX6.out z49 (x2_1 : Int) (of_decide_eq_true (by first | (with_reducible assumption) | assumption)) (by have h_ : (x2_1 : Int) < ((x0_1.length : Int) : Int) := of_decide_eq_true (by first | (with_reducible assumption) | assumption); first | exact h_ | (have e_ := (Kd.R_reads' HO_0.out).1; omega) | simpa using h_)
     obtain rfl := k49_openM hM6
     have HP6 := Kd.R_seg HX6.out (x2_1 : Int) (of_decide_eq_true (by first | (with_reducible assumption) | assumption)) (by have h_ : (x2_1 : Int) < ((x0_1.length : Int) : Int) := of_decide_eq_true (by first | (with_reducible assumption) | assumption); first | exact h_ | (have e_ := (Kd.R_reads' HO_0.out).1; omega) | simpa using h_) (seg := [.int .i64 (Go.bits .xor .i64 ((rd_T49 x0_1 x2_1).f0) 90)]) (j := 0) hcl6 hcc6 (show 1 ≤ 2 from by decide) (x' := (⟨Go.bits .xor .i64 ((rd_T49 x0_1 x2_1).f0) 90, (rd_T49 x0_1 x2_1).f1⟩ : S49)) (k49_mkM _ _ _ (⟨Go.bits .xor .i64 ((rd_T49 x0_1 x2_1).f0) 90, (rd_T49 x0_1 x2_1).f1⟩ : S49) ) (fun _ hk => hk)
     have hx6_0 := hcc6 0 _ rfl
     (try simp only [show (k49).sz = 2 from rfl, Nat.mul_one, Nat.add_zero] at hx6_0)
     have hf6_0 := hfr6 0
     (try simp only [show (k49).sz = 2 from rfl, Nat.mul_one, Nat.add_zero] at hf6_0)
     clear hcl6 hcc6 hfr6 hM6
     go_wp2_with (first | ((with_reducible refine gate_store (t := 3) (p := 18) rfl ?_); refine store_event (t := 3) (p := 18) (v := ?vo_w7) (w1 := (wr.setCell ⟨go4, (x2_1 : Int).toNat * 2, none⟩ (.int .i64 (Go.bits .xor .i64 ((rd_T49 x0_1 x2_1).f0) 90)))) ?hg ?ho ?hn ?hr ?_; (case ho => rfl); (case hg => rfl); (case hn => rfl); (case hr => first | (go_simp; done) | (go_simp; rfl)); intro w7 hw; have hg : wr.grownBy w7 (some go4) := (by rw [hw]; exact HP6.2); have hp_ : Kd.R k49 49 w7 w0.heap.size (fun k_ => (P0_ k_ ∨ w.heap.size ≤ k_)) (.slice (some ⟨go4, 0, none⟩) x0_1.length co5) y296 := (by rw [hw, Ny296.out]; exact HP6.1); clear HP6; have n0_ := Aside0.mk (hp_); have n1_ := Aside0.mk ((by rw [hw]; exact below_set (HB.out) GB4.out : Below w0.heap.size w0 w7)); have n2_ := Aside0.mk (Kept.of_grown (S := (fun k_ => P0_ k_)) hg (by repeat (first | (with_reducible first | exact HK.out | apply Kept.alloc | apply Kept.drewN | apply Kept.drew) | exact HK.out)) (fun k_ e_ => (HO_0.out.1 k_ e_))); clear HO_0; clear HB; clear HK; have HO_0 := n0_; have HB := n1_; have HK := n2_; clear n0_ n1_ n2_; clear hg hw hp_))
     go_roundg k1
     case measure => have := HK1.out; omega
     case rel => exact ⟨(y296), (wrap64 (x2_1 + 1)), (by first | rfl | (simp; done) | (simp [*]; done)), H', ⟨by have := HK1.out; omega⟩, ⟨by (with_reducible repeat (first | apply Kd.R_alloc | apply Kd.R_drewN | apply Kd.R_drew)); exact HO_0.out⟩, ⟨by repeat (first | (with_reducible first | exact HK.out | apply Kept.alloc | apply Kept.drewN | apply Kept.drew) | exact HK.out)⟩, ⟨by repeat (first | (with_reducible first | exact HB.out | apply below_alloc | apply pw_below_drewN | apply below_drew1) | exact HB.out)⟩⟩
    ·rw [if_neg c3] at H
     exact absurd H (by simp)
   ·rw [if_neg c2] at H
    have c2b0 : decide (x2_1 < (x0_1.length : Int)) = false := decide_eq_false c2
    clear c2
    obtain rfl := Option.some.inj H
    obtain ⟨Ao8, co8, eo8⟩ := Kd.R_slice HO_0.out
    subst eo8
    go_wp2
    first | go_end0 | ((try simp only [Exit.inBlock, Exit.then]); refine bodyPost_ret (results_none rfl _ _ _) rfl ?_)
    exact ⟨by first | rfl | (simp [errW_none, errW_some] <;> rfl) | (simp [*, errW_none, errW_some] <;> rfl), by (with_reducible repeat (first | apply Kd.R_alloc | apply Kd.R_drewN | apply Kd.R_drew)); exact HO_0.out, by repeat (first | (with_reducible first | exact HB.out | apply below_alloc | apply pw_below_drewN | apply below_drew1) | exact HB.out), by repeat (first | (with_reducible first | exact HK.out | apply Kept.alloc | apply Kept.drewN | apply Kept.drew) | exact HK.out)⟩

end Go.Proofs.Ytmcajcomoegkdaa.Q7
namespace Go.Proofs.Ytmcajcomoegkdaa.Q7
open Go.RowKit Go.Proofs.YtmcajcomoegkdaaW.PrintWords Go.Proofs.YtmcajcomoegkdaaW.PrintLast Go.Proofs.YtmcajcomoegkdaaW.PrintMore
attribute [local go_sem] max2_int min2_int max_two min_two max_three min_three max_four min_four   -- for this text's walks alone
set_option linter.unusedVariables false
set_option linter.unusedSimpArgs false

/-! ### watchwordlaw0_CopyLsa: function 12 -/
def watchwordlaw0_CopyLsa.f (a0_0 : Int) (a0_1 : Int) (a0_2 : Int) (l0_3 : List (S49)) : Option (Int × Int × Int × (List (S49))) := (some (([] : List (S49)) : List (S49))).bind fun y103 => (if y103.length + l0_3.length < 8796093022208 then (some (a0_0, a0_1, a0_2, (y103 ++ l0_3))) else (none))
set_option maxHeartbeats 8000000 in
set_option maxRecDepth 100000 in
theorem watchwordlaw0_CopyLsa.calls (a0_0 : Int) (a0_1 : Int) (a0_2 : Int) (A0_3 : Option Addr) (c0_3 : Nat) (l0_3 : List (S49)) (r1 : Int) (r2 : Int) (r3 : Int) (r4 : List (S49)) (w : World) (hr0_3 : Kd.C k49 w A0_3 l0_3.length l0_3) (hc0_3 : l0_3.length ≤ c0_3) (h : watchwordlaw0_CopyLsa.f a0_0 a0_1 a0_2 l0_3 = some (r1, r2, r3, r4)) :
  Calls Try.prog 12 #[.agg #[.int .i64 a0_0, .int .i64 a0_1, .int .i64 a0_2, .slice A0_3 l0_3.length c0_3]] w fun e w' => ∃ v3_ : Value, e = .returned (.agg #[.int .i64 r1, .int .i64 r2, .int .i64 r3, v3_]) ∧ Kd.R k49 49 w' w.heap.size (fun _ => True) v3_ r4 ∧ Below w.heap.size w w' := by
 have hu24 := Try.underlying24
 have HR0_3 := Aside0.mk hr0_3
 have HC0_3 := Aside0.mk hc0_3
 clear hr0_3 hc0_3
 have HB := Aside0.mk (Below.refl w.heap.size w)
 have H : ((some (([] : List (S49)) : List (S49))).bind fun y103 => (if y103.length + l0_3.length < 8796093022208 then (some (a0_0, a0_1, a0_2, (y103 ++ l0_3))) else (none))) = some (r1, r2, r3, r4) := h
 clear h
 obtain ⟨y103, hy103⟩ : ∃ y_ : List (S49), y_ = (([] : List (S49))) := ⟨_, rfl⟩
 replace H : (if y103.length + l0_3.length < 8796093022208 then (some (a0_0, a0_1, a0_2, (y103 ++ l0_3))) else (none)) = some (r1, r2, r3, r4) := by first | (rw [hy103]; with_reducible exact H) | (have H2_ := (Option.bind_some _ _).symm.trans H; rw [hy103]; with_reducible exact H2_) | (have H2_ := (Option.bind_some _ _).symm.trans H; with_reducible exact H2_) | with_reducible exact H | (rw [hy103]; exact H) | exact H
 have Ny103 := Aside0.mk hy103
 clear hy103
 by_cases c2 : y103.length + l0_3.length < 8796093022208
 ·rw [if_pos c2] at H
  have LMc2 := Aside0.mk c2
  clear c2
  obtain ⟨y106, hy106⟩ : ∃ y_ : List (S49), y_ = (y103 ++ l0_3) := ⟨_, rfl⟩
  replace H : (some (a0_0, a0_1, a0_2, y106)) = some (r1, r2, r3, r4) := by first | (rw [hy106]; with_reducible exact H) | (have H2_ := (Option.bind_some _ _).symm.trans H; rw [hy106]; with_reducible exact H2_) | (have H2_ := (Option.bind_some _ _).symm.trans H; with_reducible exact H2_) | with_reducible exact H | (rw [hy106]; exact H) | exact H
  have Ny106 := Aside0.mk hy106
  clear hy106
  simp only [Option.some.injEq, Prod.mk.injEq] at H
  obtain ⟨rfl, rfl, rfl, rfl⟩ := H
  go_enter Try.func12, Try.ntmps12
  go_wp2_with (first | ((with_reducible refine gate_dst (N := 1) rfl ?_); refine box_event ?hg (N := 1) ?hd (cs := #[.int .i64 a0_0, .int .i64 a0_1, .int .i64 a0_2, .slice A0_3 l0_3.length c0_3]) (t := 24) ?hr ?_; (case hd => rfl); (case hg => rfl); (case hr => first | (go_simp; done) | (go_simp; rfl)); intro gb101 hg w3 hbox hb; have n0_ := Aside0.mk (below_step (by repeat (first | (with_reducible first | exact HB.out | apply below_alloc | apply pw_below_drewN | apply below_drew1) | exact HB.out)) hb); have n1_ := Aside0.mk (hbox); have n2_ := Aside0.mk ((by rw [hg]; exact (below_size (by repeat (first | (with_reducible first | exact HB.out | apply below_alloc | apply pw_below_drewN | apply below_drew1) | exact HB.out))) : w.heap.size ≤ gb101)); have n3_ := Aside0.mk ((by rw [hg]; exact (below_size (by repeat (first | (with_reducible first | exact HB.out | apply below_alloc | apply pw_below_drewN | apply below_drew1) | exact HB.out))) : w.heap.size ≤ gb101)); clear HB; have HB := n0_; have BK101 := n1_; have GW101 := n2_; have GE101 := n3_; clear n0_ n1_ n2_ n3_; clear hb hbox hg) | ((with_reducible refine gate_dst (N := 2) rfl ?_); refine box_event ?hg (N := 2) ?hd (cs := #[.int .i64 0, .int .i64 0, .int .i64 0, .slice none 0 0]) (t := 24) ?hr ?_; (case hd => rfl); (case hg => rfl); (case hr => first | (go_simp; done) | (go_simp; rfl)); intro gb102 hg w4 hbox hb; have n0_ := Aside0.mk (blk_below (g := gb101) (o := .cells #[.int .i64 a0_0, .int .i64 a0_1, .int .i64 a0_2, .slice A0_3 l0_3.length c0_3] 24 (0, 0)) (by (with_reducible repeat (first | refine blk_drewN ?_ _ | refine blk_drew ?_ | refine blk_alloc ?_ _)); exact BK101.out) hb); have n1_ := Aside0.mk (below_step (by repeat (first | (with_reducible first | exact HB.out | apply below_alloc | apply pw_below_drewN | apply below_drew1 | refine below_set ?_ GE101.out) | exact HB.out)) hb); have n2_ := Aside0.mk (hbox); have n3_ := Aside0.mk ((by rw [hg]; exact (below_size (by repeat (first | (with_reducible first | exact HB.out | apply below_alloc | apply pw_below_drewN | apply below_drew1 | refine below_set ?_ GE101.out) | exact HB.out))) : w.heap.size ≤ gb102)); have n4_ := Aside0.mk ((by rw [hg]; exact (below_size (by repeat (first | (with_reducible first | exact HB.out | apply below_alloc | apply pw_below_drewN | apply below_drew1 | refine below_set ?_ GE101.out) | exact HB.out))) : w.heap.size ≤ gb102)); have n5_ := Aside0.mk ((by rw [hg]; exact Nat.ne_of_lt (blk_lt (g := gb101) (o := .cells #[.int .i64 a0_0, .int .i64 a0_1, .int .i64 a0_2, .slice A0_3 l0_3.length c0_3] 24 (0, 0)) (by (with_reducible repeat (first | refine blk_drewN ?_ _ | refine blk_drew ?_ | refine blk_alloc ?_ _)); exact BK101.out)) : gb101 ≠ gb102)); have n6_ := Aside0.mk ((by rw [hg]; exact Nat.ne_of_gt (blk_lt (g := gb101) (o := .cells #[.int .i64 a0_0, .int .i64 a0_1, .int .i64 a0_2, .slice A0_3 l0_3.length c0_3] 24 (0, 0)) (by (with_reducible repeat (first | refine blk_drewN ?_ _ | refine blk_drew ?_ | refine blk_alloc ?_ _)); exact BK101.out)) : gb102 ≠ gb101)); clear BK101; clear HB; have BK101 := n0_; have HB := n1_; have BK102 := n2_; have GW102 := n3_; have GE102 := n4_; have NB101_102 := n5_; have NB102_101 := n6_; clear n0_ n1_ n2_ n3_ n4_ n5_ n6_; clear hb hbox hg) | ((with_reducible refine gate_dst (N := 3) rfl ?_); refine Kd.R_lit k49 _ 49 ?hg (N := 3) ?hd (xs := ([] : List (S49))) (inner := []) (ok := fun _ => True) (okp := fun _ => True) ?hr ?hp (fun _ hk => hk) trivial (Below.refl _ _) (Nat.le_refl _) (by simp) ?_; (case hd => rfl); (case hg => rfl); (case hr => first | (go_simp; done) | (go_simp; rfl)); (case hp => exact (Reps.none _ _)); intro v104 w5 ho6 hb hg_ hnew_; clear hg_ hnew_; (first | rw [← Ny103.out] at ho6 | (simp only [Int.reduceToNat] at ho6; rw [← Ny103.out] at ho6)); have n0_ := Aside0.mk (Kd.R_lower ho6 (below_size (by repeat (first | (with_reducible first | exact HB.out | apply below_alloc | apply pw_below_drewN | apply below_drew1 | refine below_set ?_ GE101.out | refine below_set ?_ GE102.out) | exact HB.out)))); have n1_ := Aside0.mk (blk_below (g := gb101) (o := .cells #[.int .i64 a0_0, .int .i64 a0_1, .int .i64 a0_2, .slice A0_3 l0_3.length c0_3] 24 (0, 0)) (by (with_reducible repeat (first | refine blk_drewN ?_ _ | refine blk_drew ?_ | refine blk_alloc ?_ _)); exact BK101.out) hb); have n2_ := Aside0.mk (blk_below (g := gb102) (o := .cells #[.int .i64 0, .int .i64 0, .int .i64 0, .slice none 0 0] 24 (0, 0)) (by (with_reducible repeat (first | refine blk_drewN ?_ _ | refine blk_drew ?_ | refine blk_alloc ?_ _)); exact BK102.out) hb); have n3_ := Aside0.mk (below_step (by repeat (first | (with_reducible first | exact HB.out | apply below_alloc | apply pw_below_drewN | apply below_drew1 | refine below_set ?_ GE101.out | refine below_set ?_ GE102.out) | exact HB.out)) hb); clear BK101; clear BK102; clear HB; have HO105 := n0_; have BK101 := n1_; have BK102 := n2_; have HB := n3_; clear n0_ n1_ n2_ n3_; clear hb ho6; have hnb7 := NB101_102.out; have hnc7 := NB102_101.out; have hcz8_0 : w5.cell? ⟨gb101, 0, none⟩ = some (.int .i64 a0_0) := (blk_cell BK101.out 0).trans rfl; have hcz8_1 : w5.cell? ⟨gb101, 1, none⟩ = some (.int .i64 a0_1) := (blk_cell BK101.out 1).trans rfl; have hcz8_2 : w5.cell? ⟨gb101, 2, none⟩ = some (.int .i64 a0_2) := (blk_cell BK101.out 2).trans rfl; have hcz8_3 : w5.cell? ⟨gb101, 3, none⟩ = some (.slice A0_3 l0_3.length c0_3) := (blk_cell BK101.out 3).trans rfl; have hfz8_0 := blk_frozen BK101.out 0; have hfz8_1 := blk_frozen BK101.out 1; have hfz8_2 := blk_frozen BK101.out 2; have hfz8_3 := blk_frozen BK101.out 3) | ((with_reducible refine gate_builtin (b := .append) (xs := #[.tmp 3, .tmp 5]) rfl ?_); at_builtin; refine Kd.R_append_rows k49 (w0 := w) w.heap.size rfl (.tmp 3) (.tmp 5) 22 49 (.agg #[(.int .i64 0), (.int .i64 0)]) 16 rfl Try.underlying22 info49 rfl (by decide) (by omega) v104 y103 l0_3 _ _ _ (fun _ => True) (fun _ => False) rfl rfl ?aO ?aR (fun _ _ h => h) (fun _ h => h.elim) ?aF ?aB ?aS ?aL ?_; (case aR => repeat (first | exact (Kd.C_below HR0_3.out HB.out) | (with_reducible refine Kd.C_alloc ?_ _) | (with_reducible refine Kd.C_drewN ?_ _) | (with_reducible refine Kd.C_drew ?_))); (case aB => exact (by repeat (first | (with_reducible first | exact HB.out | apply below_alloc | apply pw_below_drewN | apply below_drew1 | refine below_set ?_ GE101.out | refine below_set ?_ GE102.out) | exact HB.out))); (case aF => exact (fun _ _ => trivial)); (case aO => exact (by (with_reducible repeat (first | apply Kd.R_alloc | apply Kd.R_drewN | apply Kd.R_drew)); exact HO105.out)); (case aS => exact (below_size (by repeat (first | (with_reducible first | exact HB.out | apply below_alloc | apply pw_below_drewN | apply below_drew1 | refine below_set ?_ GE101.out | refine below_set ?_ GE102.out) | exact HB.out)))); (case aL => have := LMc2.out; omega); intro v107 w9 ho hb hg hat; rw [← Ny106.out] at ho; have n0_ := Aside0.mk (blk_grown (g := gb101) (o := .cells #[.int .i64 a0_0, .int .i64 a0_1, .int .i64 a0_2, .slice A0_3 l0_3.length c0_3] 24 (0, 0)) (by (with_reducible repeat (first | refine blk_drewN ?_ _ | refine blk_drew ?_ | refine blk_alloc ?_ _)); exact BK101.out) hg (Kd.R_ne HO105.out BK101.out (by decide))); have n1_ := Aside0.mk (blk_grown (g := gb102) (o := .cells #[.int .i64 0, .int .i64 0, .int .i64 0, .slice none 0 0] 24 (0, 0)) (by (with_reducible repeat (first | refine blk_drewN ?_ _ | refine blk_drew ?_ | refine blk_alloc ?_ _)); exact BK102.out) hg (Kd.R_ne HO105.out BK102.out (by decide))); have n2_ := Aside0.mk (hb); have n3_ := Aside0.mk (ho); clear BK101; clear BK102; clear HB; clear HO105; have BK101 := n0_; have BK102 := n1_; have HB := n2_; have HO108 := n3_; clear n0_ n1_ n2_ n3_; clear ho hb hg hat; obtain ⟨Ao10, co10, eo10⟩ := Kd.R_slice HO108.out; subst eo10; have hcz11_0 : w9.cell? ⟨gb101, 0, none⟩ = some (.int .i64 a0_0) := (blk_cell BK101.out 0).trans rfl; have hcz11_1 : w9.cell? ⟨gb101, 1, none⟩ = some (.int .i64 a0_1) := (blk_cell BK101.out 1).trans rfl; have hcz11_2 : w9.cell? ⟨gb101, 2, none⟩ = some (.int .i64 a0_2) := (blk_cell BK101.out 2).trans rfl; have hcz11_3 : w9.cell? ⟨gb101, 3, none⟩ = some (.slice A0_3 l0_3.length c0_3) := (blk_cell BK101.out 3).trans rfl; have hfz11_0 := blk_frozen BK101.out 0; have hfz11_1 := blk_frozen BK101.out 1; have hfz11_2 := blk_frozen BK101.out 2; have hfz11_3 := blk_frozen BK101.out 3; have hcz12_0 : w9.cell? ⟨gb102, 0, none⟩ = some (.int .i64 0) := (blk_cell BK102.out 0).trans rfl; have hcz12_1 : w9.cell? ⟨gb102, 1, none⟩ = some (.int .i64 0) := (blk_cell BK102.out 1).trans rfl; have hcz12_2 : w9.cell? ⟨gb102, 2, none⟩ = some (.int .i64 0) := (blk_cell BK102.out 2).trans rfl; have hcz12_3 : w9.cell? ⟨gb102, 3, none⟩ = some (.slice none 0 0) := (blk_cell BK102.out 3).trans rfl; have hfz12_0 := blk_frozen BK102.out 0; have hfz12_1 := blk_frozen BK102.out 1; have hfz12_2 := blk_frozen BK102.out 2; have hfz12_3 := blk_frozen BK102.out 3))
  refine bodyPost_ret (results_cell_row rfl _ _ gb102 24 #[.int .i64 a0_0, .int .i64 a0_1, .int .i64 a0_2, .slice Ao10 y106.length co10] (0, 0) _ rfl (by (with_reducible repeat (first | refine blk_drewN ?_ _ | refine blk_drew ?_ | refine blk_alloc ?_ _)); refine blk_put (cs := #[.int .i64 a0_0, .int .i64 a0_1, .int .i64 a0_2, .slice none 0 0]) ?_ 3 _ rfl; (with_reducible repeat (first | refine blk_drewN ?_ _ | refine blk_drew ?_ | refine blk_alloc ?_ _)); refine blk_put (cs := #[.int .i64 a0_0, .int .i64 a0_1, .int .i64 0, .slice none 0 0]) ?_ 2 _ rfl; (with_reducible repeat (first | refine blk_drewN ?_ _ | refine blk_drew ?_ | refine blk_alloc ?_ _)); refine blk_put (cs := #[.int .i64 a0_0, .int .i64 0, .int .i64 0, .slice none 0 0]) ?_ 1 _ rfl; (with_reducible repeat (first | refine blk_drewN ?_ _ | refine blk_drew ?_ | refine blk_alloc ?_ _)); refine blk_put (cs := #[.int .i64 0, .int .i64 0, .int .i64 0, .slice none 0 0]) ?_ 0 _ rfl; (with_reducible repeat (first | refine blk_drewN ?_ _ | refine blk_drew ?_ | refine blk_alloc ?_ _)); refine blk_far ?_ NB102_101.out _; (with_reducible repeat (first | refine blk_drewN ?_ _ | refine blk_drew ?_ | refine blk_alloc ?_ _)); exact BK102.out) Try.underlying24 rfl (by kernel_rfl)) rfl ?_
  exact ⟨_, by first | rfl | (simp [errW_none, errW_some] <;> rfl) | (simp [*, errW_none, errW_some] <;> rfl), by (with_reducible repeat (first | apply Kd.R_alloc | apply Kd.R_drewN | apply Kd.R_drew)); exact Kd.R_mono (Kd.R_far (p := ⟨gb102, 3, none⟩) (Kd.R_far (p := ⟨gb102, 2, none⟩) (Kd.R_far (p := ⟨gb102, 1, none⟩) (Kd.R_far (p := ⟨gb102, 0, none⟩) (Kd.R_far (p := ⟨gb101, 3, none⟩) (Kd.R_types (Kd.R_types HO108.out BK101.out (by decide)) BK102.out (by decide)) (fun _ hk => hk.1.2) (.slice Ao10 y106.length co10)) (fun _ hk => hk.2) (.int .i64 a0_0)) (fun _ hk => hk.2) (.int .i64 a0_1)) (fun _ hk => hk.2) (.int .i64 a0_2)) (fun _ hk => hk.2) (.slice Ao10 y106.length co10)) (fun _ hk => trivial), by repeat (first | (with_reducible first | exact HB.out | apply below_alloc | apply pw_below_drewN | apply below_drew1 | refine below_set ?_ GE101.out | refine below_set ?_ GE102.out) | exact HB.out)⟩
 ·rw [if_neg c2] at H
  exact absurd H (by simp)

end Go.Proofs.Ytmcajcomoegkdaa.Q7
