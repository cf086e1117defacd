/- Written by a program of this session out of the print of the loaded functions: each Go function as a plain function, and that its call comes to it; for a law, the row out of its plain statement. -/
import Derived.Test.YtmcajcomoegkdaaQ7x0
import Derived.Test.YtmcajcomoegkdaaQ7x1
import Derived.Test.YtmcajcomoegkdaaQ7x113
import Derived.Test.YtmcajcomoegkdaaQ7x115
import Derived.Test.YtmcajcomoegkdaaQ7x117
import Derived.Test.YtmcajcomoegkdaaQ7x119
import Derived.Test.YtmcajcomoegkdaaQ7x120
import Derived.Test.YtmcajcomoegkdaaQ7x121
namespace Go.Proofs.Ytmcajcomoegkdaa.Q7
open Go.RowKit Go.Proofs.YtmcajcomoegkdaaW.PrintWords Go.Proofs.YtmcajcomoegkdaaW.PrintLast Go.Proofs.YtmcajcomoegkdaaW.PrintMore
attribute [local go_sem] max2_int min2_int max_two min_two max_three min_three max_four min_four   -- for this text's walks alone
set_option linter.unusedVariables false
set_option linter.unusedSimpArgs false

attribute [local go_sem high] eqA36
/-! ### watchwordlaw7_awake: function 24 -/
def watchwordlaw7_awake.f (k : Nat)  : Option (Bool) := (some (([(⟨1, 10⟩ : S49)] : List (S49)) : List (S49))).bind fun y205 => ((lsa_Put.f k 2 258 7 y205).bind fun bt209 => (if 2 + bt209.1.size ≤ 9223372036854775807 then (if ((⟨#[122, 122]⟩ : ByteArray) ++ bt209.1).size + 1 ≤ 9223372036854775807 then ((lsa_Get.f k (((⟨#[122, 122]⟩ : ByteArray) ++ bt209.1) ++ (⟨#[122]⟩ : ByteArray)) 2).bind fun bt211 => ((lsa_Head.f k 2 258 7 y205).bind fun bt220 => ((lsa_Put.f k 0 0 0 ([] : List (S49))).bind fun bt226 => ((lsa_Get.f k (⟨#[]⟩ : ByteArray) 0).bind fun bt228 => (if (bt209.1.size : Int) = 12 then (if 0 ≤ 10 then (if 10 ≤ (bt209.1.size : Int) then (if (bt209.1.extract 0 10).toList = ([7, 2, 0, 0, 1, 2, 1, 1, 0, 10] : List UInt8) then ((watchwordlaw0_Num.f bt209.2).bind fun t237 => (if t237 = 0 then ((watchwordlaw0_SameLsa.f k 2 258 7 y205 bt211.1 bt211.2.1 bt211.2.2.1 bt211.2.2.2.1).bind fun t238 => (if t238 = true then (if bt211.2.2.2.2.1 = 14 then ((watchwordlaw0_Num.f bt211.2.2.2.2.2).bind fun t239 => (if t239 = 0 then (if 10 < (bt209.1.size : Int) then (if 11 < (bt209.1.size : Int) then (if (bt220.1 == 2 && (bt220.2.1 == 258 && (bt220.2.2.1 == 7 && (bt220.2.2.2.1 == (Go.bits .or .i64 (wrap64 ((wrap64 (bt bt209.1 10)) * 256)) (wrap64 (bt bt209.1 11))))))) = true then ((watchwordlaw0_Num.f bt220.2.2.2.2).bind fun t240 => (if t240 = 0 then ((watchwordlaw0_Num.f bt226.2).bind fun t241 => (if t241 = 700 then ((watchwordlaw0_Num.f bt228.2.2.2.2.2).bind fun t242 => (if t242 = 700 then ((lsa_May.f k 2 258 7 y205).bind fun t243 => (some t243)) else (some false))) else (some false))) else (some false))) else (some false)) else (none)) else (none)) else (some false))) else (some false)) else (some false))) else (some false))) else (some false)) else (none)) else (none)) else (some false)))))) else (none)) else (none)))
theorem watchwordlaw7_awake.mono : ∀ k, LeO (watchwordlaw7_awake.f k ) (watchwordlaw7_awake.f (k + 1) ) := by
 intro  k
 unfold watchwordlaw7_awake.f
 repeat' first
   | (with_reducible exact lsa_Get.mono _ _ _)
   | (with_reducible exact lsa_Head.mono _ _ _ _ _)
   | (with_reducible exact lsa_May.mono _ _ _ _ _)
   | (with_reducible exact lsa_Put.mono _ _ _ _ _)
   | (with_reducible exact watchwordlaw0_SameLsa.mono _ _ _ _ _ _ _ _ _)
   | (with_reducible exact LeO.refl _)
   | (with_reducible exact LeO.none _)
   | (with_reducible refine LeO.ite ?_ ?_)
   | (with_reducible refine LeO.bind ?_ (fun _ => ?_))
   | exact lsa_Get.mono _ _ _
   | exact lsa_Head.mono _ _ _ _ _
   | exact lsa_May.mono _ _ _ _ _
   | exact lsa_Put.mono _ _ _ _ _
   | exact watchwordlaw0_SameLsa.mono _ _ _ _ _ _ _ _ _
   | exact LeO.none _
   | refine LeO.ite ?_ ?_
   | refine LeO.bind ?_ (fun _ => ?_)
def watchwordlaw7_awake.T9 : Bool × List (List Nat × List Nat) := (true, [([], []), ([0], [0]), ([1], [1]), ([2], [2]), ([3], [3]), ([4, 3, 3], [3, 4]), ([5, 3], [3, 5]), ([3, 6], [3, 6]), ([7, 5], [7]), ([8], [8]), ([8], [8]), ([9, 10, 8, 8], [8, 9, 10]), ([8, 11], [8, 11]), ([12, 11], [12]), ([13], [13]), ([14, 13], [13, 14]), ([13, 15], [13, 15]), ([16, 13], [16]), ([17], [17]), ([18, 17, 17], [17, 18]), ([19, 17], [17, 19]), ([17, 20], [17, 20]), ([21, 19], [21]), ([22], [22]), ([22], [22]), ([24, 22], [22, 24]), ([25, 22], [22, 25]), ([26, 22], [22, 26]), ([22], [22]), ([28, 22], [22, 28]), ([29, 22], [22, 29]), ([27, 30, 22], [22, 27, 30]), ([31, 22], [22, 31]), ([23, 32, 22], [22, 23, 32]), ([22, 33], [22, 33]), ([34, 22], [34]), ([35], [35]), ([36, 35, 35], [35, 36]), ([37, 35], [35, 37]), ([35, 38], [35, 38]), ([39, 37], [39]), ([40], [40]), ([41, 40, 40], [40, 41]), ([42, 40], [40, 42]), ([40, 43], [40, 43]), ([44, 42], [44]), ([45], [45]), ([46, 45, 45], [45, 46]), ([47, 45], [45, 47]), ([45, 48], [45, 48]), ([49, 47], [49]), ([50], [50]), ([51, 50, 50], [50, 51]), ([50, 52], [50, 52]), ([53, 52, 0, 1, 2, 3, 4, 5, 6, 7, 8, 9, 10, 11, 12, 13, 14, 15, 16, 17, 18, 19, 20, 21, 22, 23, 24, 25, 26, 27, 28, 29, 30, 31, 32, 33, 34, 35, 36, 37, 38, 39, 40, 41, 42, 43, 44, 45, 46, 47, 48, 49, 50, 51, 52, 53], [53])])
def watchwordlaw7_awake.B9 : List Nat := [0, 1, 3, 7, 15, 31, 63, 127, 255, 511, 511, 2047, 4095, 8191, 16383, 32767, 65535, 131071, 262143, 524287, 1048575, 2097151, 4194303, 8388607, 8388607, 25165823, 58720255, 125829119, 8388607, 276824063, 813694975, 2139095039, 4286578687, 8589934591, 17179869183, 34359738367, 68719476735, 137438953471, 274877906943, 549755813887, 1099511627775, 2199023255551, 4398046511103, 8796093022207, 17592186044415, 35184372088831, 70368744177663, 140737488355327, 281474976710655, 562949953421311, 1125899906842623, 2251799813685247, 4503599627370495, 9007199254740991, 18014398509481983]
theorem watchwordlaw7_awake.tab9 : rtab .any (opsOf Try.f24 9) = watchwordlaw7_awake.T9 := by kernel_rfl
theorem watchwordlaw7_awake.bits9 : waitsOk watchwordlaw7_awake.T9.2 watchwordlaw7_awake.B9 = true := by kernel_rfl
set_option maxHeartbeats 8000000 in
set_option maxRecDepth 100000 in
theorem watchwordlaw7_awake.calls (k : Nat)  (r : Bool) (w : World) (h : watchwordlaw7_awake.f k  = some r) (hT : r = true) :
  Calls Try.prog 24 #[] w fun e w' => e = .returned (.bool r) ∧ Below w.heap.size w w' := by
 have hu49 := Try.underlying49
 have hu24 := Try.underlying24
 have hu36 := Try.underlying36
 have HB := Aside0.mk (Below.refl w.heap.size w)
 have HT := Aside0.mk hT
 clear hT
 have H : ((some (([(⟨1, 10⟩ : S49)] : List (S49)) : List (S49))).bind fun y205 => ((lsa_Put.f k 2 258 7 y205).bind fun bt209 => (if 2 + bt209.1.size ≤ 9223372036854775807 then (if ((⟨#[122, 122]⟩ : ByteArray) ++ bt209.1).size + 1 ≤ 9223372036854775807 then ((lsa_Get.f k (((⟨#[122, 122]⟩ : ByteArray) ++ bt209.1) ++ (⟨#[122]⟩ : ByteArray)) 2).bind fun bt211 => ((lsa_Head.f k 2 258 7 y205).bind fun bt220 => ((lsa_Put.f k 0 0 0 ([] : List (S49))).bind fun bt226 => ((lsa_Get.f k (⟨#[]⟩ : ByteArray) 0).bind fun bt228 => (if (bt209.1.size : Int) = 12 then (if 0 ≤ 10 then (if 10 ≤ (bt209.1.size : Int) then (if (bt209.1.extract 0 10).toList = ([7, 2, 0, 0, 1, 2, 1, 1, 0, 10] : List UInt8) then ((watchwordlaw0_Num.f bt209.2).bind fun t237 => (if t237 = 0 then ((watchwordlaw0_SameLsa.f k 2 258 7 y205 bt211.1 bt211.2.1 bt211.2.2.1 bt211.2.2.2.1).bind fun t238 => (if t238 = true then (if bt211.2.2.2.2.1 = 14 then ((watchwordlaw0_Num.f bt211.2.2.2.2.2).bind fun t239 => (if t239 = 0 then (if 10 < (bt209.1.size : Int) then (if 11 < (bt209.1.size : Int) then (if (bt220.1 == 2 && (bt220.2.1 == 258 && (bt220.2.2.1 == 7 && (bt220.2.2.2.1 == (Go.bits .or .i64 (wrap64 ((wrap64 (bt bt209.1 10)) * 256)) (wrap64 (bt bt209.1 11))))))) = true then ((watchwordlaw0_Num.f bt220.2.2.2.2).bind fun t240 => (if t240 = 0 then ((watchwordlaw0_Num.f bt226.2).bind fun t241 => (if t241 = 700 then ((watchwordlaw0_Num.f bt228.2.2.2.2.2).bind fun t242 => (if t242 = 700 then ((lsa_May.f k 2 258 7 y205).bind fun t243 => (some t243)) else (some false))) else (some false))) else (some false))) else (some false)) else (none)) else (none)) else (some false))) else (some false)) else (some false))) else (some false))) else (some false)) else (none)) else (none)) else (some false)))))) else (none)) else (none)))) = some r := h
 clear h
 obtain ⟨y205, hy205⟩ : ∃ y_ : List (S49), y_ = (([(⟨1, 10⟩ : S49)] : List (S49))) := ⟨_, rfl⟩
 replace H : ((lsa_Put.f k 2 258 7 y205).bind fun bt209 => (if 2 + bt209.1.size ≤ 9223372036854775807 then (if ((⟨#[122, 122]⟩ : ByteArray) ++ bt209.1).size + 1 ≤ 9223372036854775807 then ((lsa_Get.f k (((⟨#[122, 122]⟩ : ByteArray) ++ bt209.1) ++ (⟨#[122]⟩ : ByteArray)) 2).bind fun bt211 => ((lsa_Head.f k 2 258 7 y205).bind fun bt220 => ((lsa_Put.f k 0 0 0 ([] : List (S49))).bind fun bt226 => ((lsa_Get.f k (⟨#[]⟩ : ByteArray) 0).bind fun bt228 => (if (bt209.1.size : Int) = 12 then (if 0 ≤ 10 then (if 10 ≤ (bt209.1.size : Int) then (if (bt209.1.extract 0 10).toList = ([7, 2, 0, 0, 1, 2, 1, 1, 0, 10] : List UInt8) then ((watchwordlaw0_Num.f bt209.2).bind fun t237 => (if t237 = 0 then ((watchwordlaw0_SameLsa.f k 2 258 7 y205 bt211.1 bt211.2.1 bt211.2.2.1 bt211.2.2.2.1).bind fun t238 => (if t238 = true then (if bt211.2.2.2.2.1 = 14 then ((watchwordlaw0_Num.f bt211.2.2.2.2.2).bind fun t239 => (if t239 = 0 then (if 10 < (bt209.1.size : Int) then (if 11 < (bt209.1.size : Int) then (if (bt220.1 == 2 && (bt220.2.1 == 258 && (bt220.2.2.1 == 7 && (bt220.2.2.2.1 == (Go.bits .or .i64 (wrap64 ((wrap64 (bt bt209.1 10)) * 256)) (wrap64 (bt bt209.1 11))))))) = true then ((watchwordlaw0_Num.f bt220.2.2.2.2).bind fun t240 => (if t240 = 0 then ((watchwordlaw0_Num.f bt226.2).bind fun t241 => (if t241 = 700 then ((watchwordlaw0_Num.f bt228.2.2.2.2.2).bind fun t242 => (if t242 = 700 then ((lsa_May.f k 2 258 7 y205).bind fun t243 => (some t243)) else (some false))) else (some false))) else (some false))) else (some false)) else (none)) else (none)) else (some false))) else (some false)) else (some false))) else (some false))) else (some false)) else (none)) else (none)) else (some false)))))) else (none)) else (none))) = some r := by first | (rw [hy205]; with_reducible exact H) | (have H2_ := (Option.bind_some _ _).symm.trans H; rw [hy205]; with_reducible exact H2_) | (have H2_ := (Option.bind_some _ _).symm.trans H; with_reducible exact H2_) | with_reducible exact H | (rw [hy205]; exact H) | exact H
 have Ny205 := Aside0.mk hy205
 clear hy205
 replace H := Option.bind_eq_some_iff.mp H
 obtain ⟨⟨t209, t210⟩, A10, H⟩ := H
 replace H : (if 2 + t209.size ≤ 9223372036854775807 then (if ((⟨#[122, 122]⟩ : ByteArray) ++ t209).size + 1 ≤ 9223372036854775807 then ((lsa_Get.f k (((⟨#[122, 122]⟩ : ByteArray) ++ t209) ++ (⟨#[122]⟩ : ByteArray)) 2).bind fun bt211 => ((lsa_Head.f k 2 258 7 y205).bind fun bt220 => ((lsa_Put.f k 0 0 0 ([] : List (S49))).bind fun bt226 => ((lsa_Get.f k (⟨#[]⟩ : ByteArray) 0).bind fun bt228 => (if (t209.size : Int) = 12 then (if 0 ≤ 10 then (if 10 ≤ (t209.size : Int) then (if (t209.extract 0 10).toList = ([7, 2, 0, 0, 1, 2, 1, 1, 0, 10] : List UInt8) then ((watchwordlaw0_Num.f t210).bind fun t237 => (if t237 = 0 then ((watchwordlaw0_SameLsa.f k 2 258 7 y205 bt211.1 bt211.2.1 bt211.2.2.1 bt211.2.2.2.1).bind fun t238 => (if t238 = true then (if bt211.2.2.2.2.1 = 14 then ((watchwordlaw0_Num.f bt211.2.2.2.2.2).bind fun t239 => (if t239 = 0 then (if 10 < (t209.size : Int) then (if 11 < (t209.size : Int) then (if (bt220.1 == 2 && (bt220.2.1 == 258 && (bt220.2.2.1 == 7 && (bt220.2.2.2.1 == (Go.bits .or .i64 (wrap64 ((wrap64 (bt t209 10)) * 256)) (wrap64 (bt t209 11))))))) = true then ((watchwordlaw0_Num.f bt220.2.2.2.2).bind fun t240 => (if t240 = 0 then ((watchwordlaw0_Num.f bt226.2).bind fun t241 => (if t241 = 700 then ((watchwordlaw0_Num.f bt228.2.2.2.2.2).bind fun t242 => (if t242 = 700 then ((lsa_May.f k 2 258 7 y205).bind fun t243 => (some t243)) else (some false))) else (some false))) else (some false))) else (some false)) else (none)) else (none)) else (some false))) else (some false)) else (some false))) else (some false))) else (some false)) else (none)) else (none)) else (some false)))))) else (none)) else (none)) = some r := H
 have A1 := Aside0.mk A10
 clear A10
 by_cases c2 : 2 + t209.size ≤ 9223372036854775807
 ·rw [if_pos c2] at H
  have c2b0 := eq_true c2
  have c2b1 : decide (2 + t209.size ≤ 9223372036854775807) = true := decide_eq_true c2
  try have c2b2 : (9223372036854775807 < 2 + t209.size) = False := eq_false (Nat.not_lt.2 c2)
  by_cases c3 : ((⟨#[122, 122]⟩ : ByteArray) ++ t209).size + 1 ≤ 9223372036854775807
  ·rw [if_pos c3] at H
   have c3b0 := eq_true c3
   have c3b1 : decide (((⟨#[122, 122]⟩ : ByteArray) ++ t209).size + 1 ≤ 9223372036854775807) = true := decide_eq_true c3
   try have c3b2 : (9223372036854775807 < ((⟨#[122, 122]⟩ : ByteArray) ++ t209).size + 1) = False := eq_false (Nat.not_lt.2 c3)
   try have c3b3 : (9223372036854775807 < 2 + t209.size + 1) = False := eq_false (by have h_ := c3; simp only [ByteArray.size_append] at h_; have l0_ : (⟨#[122, 122]⟩ : ByteArray).size = 2 := rfl; omega)
   try have c3b4 : (9223372036854775807 < (⟨#[122, 122]⟩ : ByteArray).size + t209.size + 1) = False := eq_false (by have h_ := c3; simp only [ByteArray.size_append] at h_; have l0_ : (⟨#[122, 122]⟩ : ByteArray).size = 2 := rfl; omega)
   replace H := Option.bind_eq_some_iff.mp H
   obtain ⟨⟨t211, t212, t213, t214, t217, t218⟩, A40, H⟩ := H
   replace H : ((lsa_Head.f k 2 258 7 y205).bind fun bt220 => ((lsa_Put.f k 0 0 0 ([] : List (S49))).bind fun bt226 => ((lsa_Get.f k (⟨#[]⟩ : ByteArray) 0).bind fun bt228 => (if (t209.size : Int) = 12 then (if 0 ≤ 10 then (if 10 ≤ (t209.size : Int) then (if (t209.extract 0 10).toList = ([7, 2, 0, 0, 1, 2, 1, 1, 0, 10] : List UInt8) then ((watchwordlaw0_Num.f t210).bind fun t237 => (if t237 = 0 then ((watchwordlaw0_SameLsa.f k 2 258 7 y205 t211 t212 t213 t214).bind fun t238 => (if t238 = true then (if t217 = 14 then ((watchwordlaw0_Num.f t218).bind fun t239 => (if t239 = 0 then (if 10 < (t209.size : Int) then (if 11 < (t209.size : Int) then (if (bt220.1 == 2 && (bt220.2.1 == 258 && (bt220.2.2.1 == 7 && (bt220.2.2.2.1 == (Go.bits .or .i64 (wrap64 ((wrap64 (bt t209 10)) * 256)) (wrap64 (bt t209 11))))))) = true then ((watchwordlaw0_Num.f bt220.2.2.2.2).bind fun t240 => (if t240 = 0 then ((watchwordlaw0_Num.f bt226.2).bind fun t241 => (if t241 = 700 then ((watchwordlaw0_Num.f bt228.2.2.2.2.2).bind fun t242 => (if t242 = 700 then ((lsa_May.f k 2 258 7 y205).bind fun t243 => (some t243)) else (some false))) else (some false))) else (some false))) else (some false)) else (none)) else (none)) else (some false))) else (some false)) else (some false))) else (some false))) else (some false)) else (none)) else (none)) else (some false))))) = some r := H
   have A4 := Aside0.mk A40
   clear A40
   replace H := Option.bind_eq_some_iff.mp H
   obtain ⟨⟨t220, t221, t222, t223, t224⟩, A50, H⟩ := H
   replace H : ((lsa_Put.f k 0 0 0 ([] : List (S49))).bind fun bt226 => ((lsa_Get.f k (⟨#[]⟩ : ByteArray) 0).bind fun bt228 => (if (t209.size : Int) = 12 then (if 0 ≤ 10 then (if 10 ≤ (t209.size : Int) then (if (t209.extract 0 10).toList = ([7, 2, 0, 0, 1, 2, 1, 1, 0, 10] : List UInt8) then ((watchwordlaw0_Num.f t210).bind fun t237 => (if t237 = 0 then ((watchwordlaw0_SameLsa.f k 2 258 7 y205 t211 t212 t213 t214).bind fun t238 => (if t238 = true then (if t217 = 14 then ((watchwordlaw0_Num.f t218).bind fun t239 => (if t239 = 0 then (if 10 < (t209.size : Int) then (if 11 < (t209.size : Int) then (if (t220 == 2 && (t221 == 258 && (t222 == 7 && (t223 == (Go.bits .or .i64 (wrap64 ((wrap64 (bt t209 10)) * 256)) (wrap64 (bt t209 11))))))) = true then ((watchwordlaw0_Num.f t224).bind fun t240 => (if t240 = 0 then ((watchwordlaw0_Num.f bt226.2).bind fun t241 => (if t241 = 700 then ((watchwordlaw0_Num.f bt228.2.2.2.2.2).bind fun t242 => (if t242 = 700 then ((lsa_May.f k 2 258 7 y205).bind fun t243 => (some t243)) else (some false))) else (some false))) else (some false))) else (some false)) else (none)) else (none)) else (some false))) else (some false)) else (some false))) else (some false))) else (some false)) else (none)) else (none)) else (some false)))) = some r := H
   have A5 := Aside0.mk A50
   clear A50
   replace H := Option.bind_eq_some_iff.mp H
   obtain ⟨⟨t226, t227⟩, A60, H⟩ := H
   replace H : ((lsa_Get.f k (⟨#[]⟩ : ByteArray) 0).bind fun bt228 => (if (t209.size : Int) = 12 then (if 0 ≤ 10 then (if 10 ≤ (t209.size : Int) then (if (t209.extract 0 10).toList = ([7, 2, 0, 0, 1, 2, 1, 1, 0, 10] : List UInt8) then ((watchwordlaw0_Num.f t210).bind fun t237 => (if t237 = 0 then ((watchwordlaw0_SameLsa.f k 2 258 7 y205 t211 t212 t213 t214).bind fun t238 => (if t238 = true then (if t217 = 14 then ((watchwordlaw0_Num.f t218).bind fun t239 => (if t239 = 0 then (if 10 < (t209.size : Int) then (if 11 < (t209.size : Int) then (if (t220 == 2 && (t221 == 258 && (t222 == 7 && (t223 == (Go.bits .or .i64 (wrap64 ((wrap64 (bt t209 10)) * 256)) (wrap64 (bt t209 11))))))) = true then ((watchwordlaw0_Num.f t224).bind fun t240 => (if t240 = 0 then ((watchwordlaw0_Num.f t227).bind fun t241 => (if t241 = 700 then ((watchwordlaw0_Num.f bt228.2.2.2.2.2).bind fun t242 => (if t242 = 700 then ((lsa_May.f k 2 258 7 y205).bind fun t243 => (some t243)) else (some false))) else (some false))) else (some false))) else (some false)) else (none)) else (none)) else (some false))) else (some false)) else (some false))) else (some false))) else (some false)) else (none)) else (none)) else (some false))) = some r := H
   have A6 := Aside0.mk A60
   clear A60
   replace H := Option.bind_eq_some_iff.mp H
   obtain ⟨⟨t228, t229, t230, t231, t234, t235⟩, A70, H⟩ := H
   replace H : (if (t209.size : Int) = 12 then (if 0 ≤ 10 then (if 10 ≤ (t209.size : Int) then (if (t209.extract 0 10).toList = ([7, 2, 0, 0, 1, 2, 1, 1, 0, 10] : List UInt8) then ((watchwordlaw0_Num.f t210).bind fun t237 => (if t237 = 0 then ((watchwordlaw0_SameLsa.f k 2 258 7 y205 t211 t212 t213 t214).bind fun t238 => (if t238 = true then (if t217 = 14 then ((watchwordlaw0_Num.f t218).bind fun t239 => (if t239 = 0 then (if 10 < (t209.size : Int) then (if 11 < (t209.size : Int) then (if (t220 == 2 && (t221 == 258 && (t222 == 7 && (t223 == (Go.bits .or .i64 (wrap64 ((wrap64 (bt t209 10)) * 256)) (wrap64 (bt t209 11))))))) = true then ((watchwordlaw0_Num.f t224).bind fun t240 => (if t240 = 0 then ((watchwordlaw0_Num.f t227).bind fun t241 => (if t241 = 700 then ((watchwordlaw0_Num.f t235).bind fun t242 => (if t242 = 700 then ((lsa_May.f k 2 258 7 y205).bind fun t243 => (some t243)) else (some false))) else (some false))) else (some false))) else (some false)) else (none)) else (none)) else (some false))) else (some false)) else (some false))) else (some false))) else (some false)) else (none)) else (none)) else (some false)) = some r := H
   have A7 := Aside0.mk A70
   clear A70
   by_cases c8 : (t209.size : Int) = 12
   ·rw [if_pos c8] at H
    have c8b0 : ((t209.size : Int) == 12) = true := beq_iff_eq.mpr c8
    have c8b1 : ((t209.size : Int) != 12) = false := bne_eq_false_iff_eq.mpr c8
    clear c8
    by_cases c9 : 0 ≤ 10
    ·rw [if_pos c9] at H
     have c9b0 := eq_true c9
     have c9b1 : decide (0 ≤ 10) = true := decide_eq_true c9
     clear c9
     by_cases c10 : 10 ≤ (t209.size : Int)
     ·rw [if_pos c10] at H
      have c10p : 10 ≤ t209.size := by omega
      have c10b0 := eq_true c10
      have c10b1 : decide (10 ≤ (t209.size : Int)) = true := decide_eq_true c10
      clear c10
      by_cases c11 : (t209.extract 0 10).toList = ([7, 2, 0, 0, 1, 2, 1, 1, 0, 10] : List UInt8)
      ·rw [if_pos c11] at H
       have c11b0 : ((t209.extract 0 10).toList == ([7, 2, 0, 0, 1, 2, 1, 1, 0, 10] : List UInt8)) = true := beq_iff_eq.mpr c11
       have c11b1 : ((t209.extract 0 10).toList != ([7, 2, 0, 0, 1, 2, 1, 1, 0, 10] : List UInt8)) = false := bne_eq_false_iff_eq.mpr c11
       clear c11
       replace H := Option.bind_eq_some_iff.mp H
       obtain ⟨t237, A120, H⟩ := H
       replace H : (if t237 = 0 then ((watchwordlaw0_SameLsa.f k 2 258 7 y205 t211 t212 t213 t214).bind fun t238 => (if t238 = true then (if t217 = 14 then ((watchwordlaw0_Num.f t218).bind fun t239 => (if t239 = 0 then (if 10 < (t209.size : Int) then (if 11 < (t209.size : Int) then (if (t220 == 2 && (t221 == 258 && (t222 == 7 && (t223 == (Go.bits .or .i64 (wrap64 ((wrap64 (bt t209 10)) * 256)) (wrap64 (bt t209 11))))))) = true then ((watchwordlaw0_Num.f t224).bind fun t240 => (if t240 = 0 then ((watchwordlaw0_Num.f t227).bind fun t241 => (if t241 = 700 then ((watchwordlaw0_Num.f t235).bind fun t242 => (if t242 = 700 then ((lsa_May.f k 2 258 7 y205).bind fun t243 => (some t243)) else (some false))) else (some false))) else (some false))) else (some false)) else (none)) else (none)) else (some false))) else (some false)) else (some false))) else (some false)) = some r := H
       have A12 := Aside0.mk A120
       clear A120
       by_cases c13 : t237 = 0
       ·rw [if_pos c13] at H
        have c13b0 : (t237 == 0) = true := beq_iff_eq.mpr c13
        have c13b1 : (t237 != 0) = false := bne_eq_false_iff_eq.mpr c13
        clear c13
        replace H := Option.bind_eq_some_iff.mp H
        obtain ⟨t238, A140, H⟩ := H
        replace H : (if t238 = true then (if t217 = 14 then ((watchwordlaw0_Num.f t218).bind fun t239 => (if t239 = 0 then (if 10 < (t209.size : Int) then (if 11 < (t209.size : Int) then (if (t220 == 2 && (t221 == 258 && (t222 == 7 && (t223 == (Go.bits .or .i64 (wrap64 ((wrap64 (bt t209 10)) * 256)) (wrap64 (bt t209 11))))))) = true then ((watchwordlaw0_Num.f t224).bind fun t240 => (if t240 = 0 then ((watchwordlaw0_Num.f t227).bind fun t241 => (if t241 = 700 then ((watchwordlaw0_Num.f t235).bind fun t242 => (if t242 = 700 then ((lsa_May.f k 2 258 7 y205).bind fun t243 => (some t243)) else (some false))) else (some false))) else (some false))) else (some false)) else (none)) else (none)) else (some false))) else (some false)) else (some false)) = some r := H
        have A14 := Aside0.mk A140
        clear A140
        by_cases c15 : t238 = true
        ·subst c15
         have H1 : (if t217 = 14 then ((watchwordlaw0_Num.f t218).bind fun t239 => (if t239 = 0 then (if 10 < (t209.size : Int) then (if 11 < (t209.size : Int) then (if (t220 == 2 && (t221 == 258 && (t222 == 7 && (t223 == (Go.bits .or .i64 (wrap64 ((wrap64 (bt t209 10)) * 256)) (wrap64 (bt t209 11))))))) = true then ((watchwordlaw0_Num.f t224).bind fun t240 => (if t240 = 0 then ((watchwordlaw0_Num.f t227).bind fun t241 => (if t241 = 700 then ((watchwordlaw0_Num.f t235).bind fun t242 => (if t242 = 700 then ((lsa_May.f k 2 258 7 y205).bind fun t243 => (some t243)) else (some false))) else (some false))) else (some false))) else (some false)) else (none)) else (none)) else (some false))) else (some false)) = some r := by rw [if_pos rfl] at H; exact H
         clear H
         have H := H1
         clear H1
         by_cases c16 : t217 = 14
         ·rw [if_pos c16] at H
          have c16b0 : (t217 == 14) = true := beq_iff_eq.mpr c16
          have c16b1 : (t217 != 14) = false := bne_eq_false_iff_eq.mpr c16
          clear c16
          replace H := Option.bind_eq_some_iff.mp H
          obtain ⟨t239, A170, H⟩ := H
          replace H : (if t239 = 0 then (if 10 < (t209.size : Int) then (if 11 < (t209.size : Int) then (if (t220 == 2 && (t221 == 258 && (t222 == 7 && (t223 == (Go.bits .or .i64 (wrap64 ((wrap64 (bt t209 10)) * 256)) (wrap64 (bt t209 11))))))) = true then ((watchwordlaw0_Num.f t224).bind fun t240 => (if t240 = 0 then ((watchwordlaw0_Num.f t227).bind fun t241 => (if t241 = 700 then ((watchwordlaw0_Num.f t235).bind fun t242 => (if t242 = 700 then ((lsa_May.f k 2 258 7 y205).bind fun t243 => (some t243)) else (some false))) else (some false))) else (some false))) else (some false)) else (none)) else (none)) else (some false)) = some r := H
          have A17 := Aside0.mk A170
          clear A170
          by_cases c18 : t239 = 0
          ·rw [if_pos c18] at H
           have c18b0 : (t239 == 0) = true := beq_iff_eq.mpr c18
           have c18b1 : (t239 != 0) = false := bne_eq_false_iff_eq.mpr c18
           clear c18
           by_cases c19 : 10 < (t209.size : Int)
           ·rw [if_pos c19] at H
            have c19b0 : decide (10 < (t209.size : Int)) = true := decide_eq_true c19
            have c19b1 : decide (10 < t209.size) = true := decide_eq_true (by omega)
            clear c19
            by_cases c21 : 11 < (t209.size : Int)
            ·rw [if_pos c21] at H
             have c21b0 : decide (11 < (t209.size : Int)) = true := decide_eq_true c21
             have c21b1 : decide (11 < t209.size) = true := decide_eq_true (by omega)
             clear c21
             by_cases c23 : (t220 == 2 && (t221 == 258 && (t222 == 7 && (t223 == (Go.bits .or .i64 (wrap64 ((wrap64 (bt t209 10)) * 256)) (wrap64 (bt t209 11))))))) = true
             ·rw [if_pos c23] at H
              have c23b0 : (t220 == 2 && (t221 == 258 && (t222 == 7 && (t223 == (Go.bits .or .i64 (wrap64 ((wrap64 (bt t209 10)) * 256)) (wrap64 (bt t209 11))))))) = true := c23
              (try (have c23b1 : decide (t220 = 2 && (t221 == 258 && (t222 == 7 && (t223 == (Go.bits .or .i64 (wrap64 ((wrap64 (bt t209 10)) * 256)) (wrap64 (bt t209 11))))))) = true := by simpa using c23))
              (try (have c23b2 : (t220 == 2 && (t221 == 258 && (t222 == 7 && (t223 == (Go.bits .or .i64 (wrap64 ((wrap64 (bt t209 10)) * 256)) (wrap64 (bt t209 11))))))) = true := by simpa using c23))
              clear c23
              replace H := Option.bind_eq_some_iff.mp H
              obtain ⟨t240, A240, H⟩ := H
              replace H : (if t240 = 0 then ((watchwordlaw0_Num.f t227).bind fun t241 => (if t241 = 700 then ((watchwordlaw0_Num.f t235).bind fun t242 => (if t242 = 700 then ((lsa_May.f k 2 258 7 y205).bind fun t243 => (some t243)) else (some false))) else (some false))) else (some false)) = some r := H
              have A24 := Aside0.mk A240
              clear A240
              by_cases c25 : t240 = 0
              ·rw [if_pos c25] at H
               have c25b0 : (t240 == 0) = true := beq_iff_eq.mpr c25
               have c25b1 : (t240 != 0) = false := bne_eq_false_iff_eq.mpr c25
               clear c25
               replace H := Option.bind_eq_some_iff.mp H
               obtain ⟨t241, A260, H⟩ := H
               replace H : (if t241 = 700 then ((watchwordlaw0_Num.f t235).bind fun t242 => (if t242 = 700 then ((lsa_May.f k 2 258 7 y205).bind fun t243 => (some t243)) else (some false))) else (some false)) = some r := H
               have A26 := Aside0.mk A260
               clear A260
               by_cases c27 : t241 = 700
               ·rw [if_pos c27] at H
                have c27b0 : (t241 == 700) = true := beq_iff_eq.mpr c27
                have c27b1 : (t241 != 700) = false := bne_eq_false_iff_eq.mpr c27
                clear c27
                replace H := Option.bind_eq_some_iff.mp H
                obtain ⟨t242, A280, H⟩ := H
                replace H : (if t242 = 700 then ((lsa_May.f k 2 258 7 y205).bind fun t243 => (some t243)) else (some false)) = some r := H
                have A28 := Aside0.mk A280
                clear A280
                by_cases c29 : t242 = 700
                ·rw [if_pos c29] at H
                 have c29b0 : (t242 == 700) = true := beq_iff_eq.mpr c29
                 have c29b1 : (t242 != 700) = false := bne_eq_false_iff_eq.mpr c29
                 clear c29
                 replace H := Option.bind_eq_some_iff.mp H
                 obtain ⟨t243, A300, H⟩ := H
                 replace H : (some t243) = some r := H
                 have A30 := Aside0.mk A300
                 clear A300
                 obtain rfl := Option.some.inj H
                 go_enter Try.func24, Try.ntmps24
                 try go_wp2_with (first | ((with_reducible refine gate_dst (N := 15) rfl ?_); refine Kd.R_lit k49 _ 49 ?hg (N := 15) ?hd (xs := ([(⟨1, 10⟩ : S49)] : List (S49))) (inner := [.int .i64 1, .int .i64 10]) (ok := fun _ => True) (okp := fun _ => True) ?hr ?hp (fun _ hk => hk) trivial (Below.refl _ _) (Nat.le_refl _) (by simp) ?_; (case hd => rfl); (case hg => rfl); (case hr => first | (go_simp; done) | (go_simp; rfl)); (case hp => exact (Reps.c2 (show Kd.M k49 _ _ _ (⟨1, 10⟩ : S49) [.int .i64 1, .int .i64 10] from (k49_mkM _ _ _ (⟨1, 10⟩ : S49) )) (Reps.none _ _))); intro v206 w31 ho32 hb hg_ hnew_; clear hg_ hnew_; (first | rw [← Ny205.out] at ho32 | (simp only [Int.reduceToNat] at ho32; rw [← Ny205.out] at ho32)); have n0_ := Aside0.mk (Kd.R_lower ho32 (below_size (by repeat (first | (with_reducible first | exact HB.out | apply below_alloc | apply pw_below_drewN | apply below_drew1) | exact HB.out)))); have n1_ := Aside0.mk (below_step (by repeat (first | (with_reducible first | exact HB.out | apply below_alloc | apply pw_below_drewN | apply below_drew1) | exact HB.out)) hb); clear HB; have HO207 := n0_; have HB := n1_; clear n0_ n1_; clear hb ho32; obtain ⟨Ao33, co33, eo33⟩ := Kd.R_slice HO207.out; subst eo33) | ((with_reducible refine gate_dst (N := 1) rfl ?_); refine box_event ?hg (N := 1) ?hd (cs := #[.int .i64 0, .int .i64 0, .int .i64 0, .slice none 0 0]) (t := 24) ?hr ?_; (case hd => rfl); (case hg => rfl); (case hr => first | (go_simp; done) | (go_simp; rfl)); intro gb208 hg w34 hbox hb; have n0_ := Aside0.mk (Kd.R_below (by (with_reducible repeat (first | apply Kd.R_alloc | apply Kd.R_drewN | apply Kd.R_drew)); exact HO207.out) hb); have n1_ := Aside0.mk (below_step (by repeat (first | (with_reducible first | exact HB.out | apply below_alloc | apply pw_below_drewN | apply below_drew1) | exact HB.out)) hb); have n2_ := Aside0.mk (hbox); have n3_ := Aside0.mk ((by rw [hg]; exact (below_size (by repeat (first | (with_reducible first | exact HB.out | apply below_alloc | apply pw_below_drewN | apply below_drew1) | exact HB.out))) : w.heap.size ≤ gb208)); have n4_ := Aside0.mk ((by rw [hg]; exact (below_size (by repeat (first | (with_reducible first | exact HB.out | apply below_alloc | apply pw_below_drewN | apply below_drew1) | exact HB.out))) : w.heap.size ≤ gb208)); clear HO207; clear HB; have HO207 := n0_; have HB := n1_; have BK208 := n2_; have GW208 := n3_; have GE208 := n4_; clear n0_ n1_ n2_ n3_ n4_; clear hb hbox hg; have hcz35_0 : w34.cell? ⟨gb208, 0, none⟩ = some (.int .i64 0) := (blk_cell BK208.out 0).trans rfl; have hcz35_1 : w34.cell? ⟨gb208, 1, none⟩ = some (.int .i64 0) := (blk_cell BK208.out 1).trans rfl; have hcz35_2 : w34.cell? ⟨gb208, 2, none⟩ = some (.int .i64 0) := (blk_cell BK208.out 2).trans rfl; have hcz35_3 : w34.cell? ⟨gb208, 3, none⟩ = some (.slice none 0 0) := (blk_cell BK208.out 3).trans rfl; have hfz35_0 := blk_frozen BK208.out 0; have hfz35_1 := blk_frozen BK208.out 1; have hfz35_2 := blk_frozen BK208.out 2; have hfz35_3 := blk_frozen BK208.out 3) | ((with_reducible refine gate_callee (f := 13) rfl ?_); refine goesL_ (some 19) rfl rfl Try.func13 (by kernel_rfl) rfl #[.agg #[.int .i64 2, .int .i64 258, .int .i64 7, .slice Ao33 y205.length co33]] rfl (by (try simp only [List.map_toArray, List.map_cons, List.map_nil]); first | done | rfl | (simp only [List.length_drop, List.length_take]; rfl)) ?_; (with_reducible refine (lsa_Put.calls k 2 258 7 _ _ y205 t209 t210 _ ?side1 ?side2 A1.out).mono ?_); (case side1 => refine (Kd.R_reads' (e := 49) (base := w.heap.size) (ok := fun k_ => True) (n := y205.length) (c := co33) ?_).2.2; exact (by (with_reducible repeat (first | apply Kd.R_alloc | apply Kd.R_drewN | apply Kd.R_drew)); exact (Kd.R_mono (Kd.R_far (p := ⟨gb208, 3, none⟩) (Kd.R_far (p := ⟨gb208, 2, none⟩) (Kd.R_far (p := ⟨gb208, 1, none⟩) (Kd.R_far (p := ⟨gb208, 0, none⟩) (Kd.R_types HO207.out BK208.out (by decide)) (fun _ hk => hk.2) (.int .i64 2)) (fun _ hk => hk.2) (.int .i64 258)) (fun _ hk => hk.2) (.int .i64 7)) (fun _ hk => hk.2) (.slice Ao33 y205.length co33)) (fun _ h_ => h_.1)))); (case side2 => exact (Kd.R_reads' HO207.out).2.1); rintro e w36 ⟨rfl, hb⟩; refine ⟨_, rfl, ?_⟩; have n0_ := Aside0.mk (Kd.R_below (by (with_reducible repeat (first | apply Kd.R_alloc | apply Kd.R_drewN | apply Kd.R_drew)); exact (Kd.R_mono (Kd.R_far (p := ⟨gb208, 3, none⟩) (Kd.R_far (p := ⟨gb208, 2, none⟩) (Kd.R_far (p := ⟨gb208, 1, none⟩) (Kd.R_far (p := ⟨gb208, 0, none⟩) (Kd.R_types HO207.out BK208.out (by decide)) (fun _ hk => hk.2) (.int .i64 2)) (fun _ hk => hk.2) (.int .i64 258)) (fun _ hk => hk.2) (.int .i64 7)) (fun _ hk => hk.2) (.slice Ao33 y205.length co33)) (fun _ h_ => h_.1))) hb); have n1_ := Aside0.mk (blk_below (g := gb208) (o := .cells #[.int .i64 2, .int .i64 258, .int .i64 7, .slice Ao33 y205.length co33] 24 (0, 0)) (by (with_reducible repeat (first | refine blk_drewN ?_ _ | refine blk_drew ?_ | refine blk_alloc ?_ _)); refine blk_put (cs := #[.int .i64 2, .int .i64 258, .int .i64 7, .slice none 0 0]) ?_ 3 _ rfl; (with_reducible repeat (first | refine blk_drewN ?_ _ | refine blk_drew ?_ | refine blk_alloc ?_ _)); refine blk_put (cs := #[.int .i64 2, .int .i64 258, .int .i64 0, .slice none 0 0]) ?_ 2 _ rfl; (with_reducible repeat (first | refine blk_drewN ?_ _ | refine blk_drew ?_ | refine blk_alloc ?_ _)); refine blk_put (cs := #[.int .i64 2, .int .i64 0, .int .i64 0, .slice none 0 0]) ?_ 1 _ rfl; (with_reducible repeat (first | refine blk_drewN ?_ _ | refine blk_drew ?_ | refine blk_alloc ?_ _)); refine blk_put (cs := #[.int .i64 0, .int .i64 0, .int .i64 0, .slice none 0 0]) ?_ 0 _ rfl; (with_reducible repeat (first | refine blk_drewN ?_ _ | refine blk_drew ?_ | refine blk_alloc ?_ _)); exact BK208.out) hb); have n2_ := Aside0.mk (below_step (by repeat (first | (with_reducible first | exact HB.out | apply below_alloc | apply pw_below_drewN | apply below_drew1 | refine below_set ?_ GE208.out) | exact HB.out)) hb); clear HO207; clear BK208; clear HB; have HO207 := n0_; have BK208 := n1_; have HB := n2_; clear n0_ n1_ n2_; (try clear hb); (try clear hb2); (try clear hk); (try clear hi)) | ((with_reducible refine gate_callee (f := 15) rfl ?_); refine goesL_ (some 26) rfl rfl Try.func15 (by kernel_rfl) rfl #[.string (((⟨#[122, 122]⟩ : ByteArray) ++ t209) ++ (⟨#[122]⟩ : ByteArray)), .int .i64 2] rfl (by (try simp only [List.map_toArray, List.map_cons, List.map_nil]); first | done | rfl | (simp only [List.length_drop, List.length_take]; rfl)) ?_; (with_reducible refine (lsa_Get.calls k (((⟨#[122, 122]⟩ : ByteArray) ++ t209) ++ (⟨#[122]⟩ : ByteArray)) 2 t211 t212 t213 t214 t217 t218 _ A4.out).mono ?_); rintro e w37 ⟨v215, rfl, ho0, hb⟩; refine ⟨_, rfl, ?_⟩; have n0_ := Aside0.mk (Kd.R_elder' (by (with_reducible repeat (first | apply Kd.R_alloc | apply Kd.R_drewN | apply Kd.R_drew)); exact HO207.out) (Kd.R_base ho0) hb); have n1_ := Aside0.mk (Kd.R_lower (Kd.R_new' ho0 (Kd.R_lt (by (with_reducible repeat (first | apply Kd.R_alloc | apply Kd.R_drewN | apply Kd.R_drew)); exact HO207.out))) (below_size (by repeat (first | (with_reducible first | exact HB.out | apply below_alloc | apply pw_below_drewN | apply below_drew1 | refine below_set ?_ GE208.out) | exact HB.out)))); have n2_ := Aside0.mk (blk_below (g := gb208) (o := .cells #[.int .i64 2, .int .i64 258, .int .i64 7, .slice Ao33 y205.length co33] 24 (0, 0)) (by (with_reducible repeat (first | refine blk_drewN ?_ _ | refine blk_drew ?_ | refine blk_alloc ?_ _)); exact BK208.out) hb); have n3_ := Aside0.mk (below_step (by repeat (first | (with_reducible first | exact HB.out | apply below_alloc | apply pw_below_drewN | apply below_drew1 | refine below_set ?_ GE208.out) | exact HB.out)) hb); clear HO207; clear BK208; clear HB; have HO207 := n0_; have HO216 := n1_; have BK208 := n2_; have HB := n3_; clear n0_ n1_ n2_ n3_; (try clear hb); (try clear hb2); (try clear hk); (try clear hi); (try clear ho0)) | ((with_reducible refine gate_dst (N := 4) rfl ?_); refine box_event ?hg (N := 4) ?hd (cs := #[.int .i64 0, .int .i64 0, .int .i64 0, .slice none 0 0]) (t := 24) ?hr ?_; (case hd => rfl); (case hg => rfl); (case hr => first | (go_simp; done) | (go_simp; rfl)); intro gb219 hg w38 hbox hb; have n0_ := Aside0.mk (Kd.R_below (by (with_reducible repeat (first | apply Kd.R_alloc | apply Kd.R_drewN | apply Kd.R_drew)); exact HO207.out) hb); have n1_ := Aside0.mk (Kd.R_below (by (with_reducible repeat (first | apply Kd.R_alloc | apply Kd.R_drewN | apply Kd.R_drew)); exact HO216.out) hb); have n2_ := Aside0.mk (blk_below (g := gb208) (o := .cells #[.int .i64 2, .int .i64 258, .int .i64 7, .slice Ao33 y205.length co33] 24 (0, 0)) (by (with_reducible repeat (first | refine blk_drewN ?_ _ | refine blk_drew ?_ | refine blk_alloc ?_ _)); exact BK208.out) hb); have n3_ := Aside0.mk (below_step (by repeat (first | (with_reducible first | exact HB.out | apply below_alloc | apply pw_below_drewN | apply below_drew1 | refine below_set ?_ GE208.out) | exact HB.out)) hb); have n4_ := Aside0.mk (hbox); have n5_ := Aside0.mk ((by rw [hg]; exact (below_size (by repeat (first | (with_reducible first | exact HB.out | apply below_alloc | apply pw_below_drewN | apply below_drew1 | refine below_set ?_ GE208.out) | exact HB.out))) : w.heap.size ≤ gb219)); have n6_ := Aside0.mk ((by rw [hg]; exact (below_size (by repeat (first | (with_reducible first | exact HB.out | apply below_alloc | apply pw_below_drewN | apply below_drew1 | refine below_set ?_ GE208.out) | exact HB.out))) : w.heap.size ≤ gb219)); have n7_ := Aside0.mk ((by rw [hg]; exact Nat.ne_of_lt (blk_lt (g := gb208) (o := .cells #[.int .i64 2, .int .i64 258, .int .i64 7, .slice Ao33 y205.length co33] 24 (0, 0)) (by (with_reducible repeat (first | refine blk_drewN ?_ _ | refine blk_drew ?_ | refine blk_alloc ?_ _)); exact BK208.out)) : gb208 ≠ gb219)); have n8_ := Aside0.mk ((by rw [hg]; exact Nat.ne_of_gt (blk_lt (g := gb208) (o := .cells #[.int .i64 2, .int .i64 258, .int .i64 7, .slice Ao33 y205.length co33] 24 (0, 0)) (by (with_reducible repeat (first | refine blk_drewN ?_ _ | refine blk_drew ?_ | refine blk_alloc ?_ _)); exact BK208.out)) : gb219 ≠ gb208)); clear HO207; clear HO216; clear BK208; clear HB; have HO207 := n0_; have HO216 := n1_; have BK208 := n2_; have HB := n3_; have BK219 := n4_; have GW219 := n5_; have GE219 := n6_; have NB208_219 := n7_; have NB219_208 := n8_; clear n0_ n1_ n2_ n3_ n4_ n5_ n6_ n7_ n8_; clear hb hbox hg; have hnb39 := NB219_208.out; have hnc39 := NB208_219.out; have hcz40_0 : w38.cell? ⟨gb219, 0, none⟩ = some (.int .i64 0) := (blk_cell BK219.out 0).trans rfl; have hcz40_1 : w38.cell? ⟨gb219, 1, none⟩ = some (.int .i64 0) := (blk_cell BK219.out 1).trans rfl; have hcz40_2 : w38.cell? ⟨gb219, 2, none⟩ = some (.int .i64 0) := (blk_cell BK219.out 2).trans rfl; have hcz40_3 : w38.cell? ⟨gb219, 3, none⟩ = some (.slice none 0 0) := (blk_cell BK219.out 3).trans rfl; have hfz40_0 := blk_frozen BK219.out 0; have hfz40_1 := blk_frozen BK219.out 1; have hfz40_2 := blk_frozen BK219.out 2; have hfz40_3 := blk_frozen BK219.out 3; obtain ⟨Ao41, co41, eo41⟩ := Kd.R_slice HO216.out; subst eo41; have hcz42_0 : w38.cell? ⟨gb208, 0, none⟩ = some (.int .i64 2) := (blk_cell BK208.out 0).trans rfl; have hcz42_1 : w38.cell? ⟨gb208, 1, none⟩ = some (.int .i64 258) := (blk_cell BK208.out 1).trans rfl; have hcz42_2 : w38.cell? ⟨gb208, 2, none⟩ = some (.int .i64 7) := (blk_cell BK208.out 2).trans rfl; have hcz42_3 : w38.cell? ⟨gb208, 3, none⟩ = some (.slice Ao33 y205.length co33) := (blk_cell BK208.out 3).trans rfl; have hfz42_0 := blk_frozen BK208.out 0; have hfz42_1 := blk_frozen BK208.out 1; have hfz42_2 := blk_frozen BK208.out 2; have hfz42_3 := blk_frozen BK208.out 3) | ((with_reducible refine gate_callee (f := 17) rfl ?_); refine goesL_ (some 32) rfl rfl Try.func17 (by kernel_rfl) rfl #[.agg #[.int .i64 2, .int .i64 258, .int .i64 7, .slice Ao33 y205.length co33]] rfl (by (try simp only [List.map_toArray, List.map_cons, List.map_nil]); first | done | rfl | (simp only [List.length_drop, List.length_take]; rfl)) ?_; (with_reducible refine (lsa_Head.calls k 2 258 7 _ _ y205 t220 t221 t222 t223 t224 _ ?side1 ?side2 A5.out).mono ?_); (case side1 => refine (Kd.R_reads' (e := 49) (base := w.heap.size) (ok := fun k_ => (True ∧ some k_ ≠ (.slice Ao41 t214.length co41 : Value).ownBlock)) (n := y205.length) (c := co33) ?_).2.2; exact (by (with_reducible repeat (first | apply Kd.R_alloc | apply Kd.R_drewN | apply Kd.R_drew)); exact (Kd.R_mono (Kd.R_far (p := ⟨gb219, 3, none⟩) (Kd.R_far (p := ⟨gb219, 2, none⟩) (Kd.R_far (p := ⟨gb219, 1, none⟩) (Kd.R_far (p := ⟨gb219, 0, none⟩) (Kd.R_types HO207.out BK219.out (by decide)) (fun _ hk => hk.2) (.int .i64 t211)) (fun _ hk => hk.2) (.int .i64 t212)) (fun _ hk => hk.2) (.int .i64 t213)) (fun _ hk => hk.2) (.slice Ao41 t214.length co41)) (fun _ h_ => h_.1)))); (case side2 => exact (Kd.R_reads' HO207.out).2.1); rintro e w43 ⟨rfl, hb⟩; refine ⟨_, rfl, ?_⟩; have n0_ := Aside0.mk (Kd.R_below (by (with_reducible repeat (first | apply Kd.R_alloc | apply Kd.R_drewN | apply Kd.R_drew)); exact (Kd.R_mono (Kd.R_far (p := ⟨gb219, 3, none⟩) (Kd.R_far (p := ⟨gb219, 2, none⟩) (Kd.R_far (p := ⟨gb219, 1, none⟩) (Kd.R_far (p := ⟨gb219, 0, none⟩) (Kd.R_types HO207.out BK219.out (by decide)) (fun _ hk => hk.2) (.int .i64 t211)) (fun _ hk => hk.2) (.int .i64 t212)) (fun _ hk => hk.2) (.int .i64 t213)) (fun _ hk => hk.2) (.slice Ao41 t214.length co41)) (fun _ h_ => h_.1))) hb); have n1_ := Aside0.mk (Kd.R_below (by (with_reducible repeat (first | apply Kd.R_alloc | apply Kd.R_drewN | apply Kd.R_drew)); exact (Kd.R_mono (Kd.R_far (p := ⟨gb219, 3, none⟩) (Kd.R_far (p := ⟨gb219, 2, none⟩) (Kd.R_far (p := ⟨gb219, 1, none⟩) (Kd.R_far (p := ⟨gb219, 0, none⟩) (Kd.R_types HO216.out BK219.out (by decide)) (fun _ hk => hk.2) (.int .i64 t211)) (fun _ hk => hk.2) (.int .i64 t212)) (fun _ hk => hk.2) (.int .i64 t213)) (fun _ hk => hk.2) (.slice Ao41 t214.length co41)) (fun _ h_ => h_.1))) hb); have n2_ := Aside0.mk (blk_below (g := gb208) (o := .cells #[.int .i64 2, .int .i64 258, .int .i64 7, .slice Ao33 y205.length co33] 24 (0, 0)) (by (with_reducible repeat (first | refine blk_drewN ?_ _ | refine blk_drew ?_ | refine blk_alloc ?_ _)); refine blk_far ?_ NB208_219.out _; (with_reducible repeat (first | refine blk_drewN ?_ _ | refine blk_drew ?_ | refine blk_alloc ?_ _)); refine blk_far ?_ NB208_219.out _; (with_reducible repeat (first | refine blk_drewN ?_ _ | refine blk_drew ?_ | refine blk_alloc ?_ _)); refine blk_far ?_ NB208_219.out _; (with_reducible repeat (first | refine blk_drewN ?_ _ | refine blk_drew ?_ | refine blk_alloc ?_ _)); refine blk_far ?_ NB208_219.out _; (with_reducible repeat (first | refine blk_drewN ?_ _ | refine blk_drew ?_ | refine blk_alloc ?_ _)); exact BK208.out) hb); have n3_ := Aside0.mk (blk_below (g := gb219) (o := .cells #[.int .i64 t211, .int .i64 t212, .int .i64 t213, .slice Ao41 t214.length co41] 24 (0, 0)) (by (with_reducible repeat (first | refine blk_drewN ?_ _ | refine blk_drew ?_ | refine blk_alloc ?_ _)); refine blk_put (cs := #[.int .i64 t211, .int .i64 t212, .int .i64 t213, .slice none 0 0]) ?_ 3 _ rfl; (with_reducible repeat (first | refine blk_drewN ?_ _ | refine blk_drew ?_ | refine blk_alloc ?_ _)); refine blk_put (cs := #[.int .i64 t211, .int .i64 t212, .int .i64 0, .slice none 0 0]) ?_ 2 _ rfl; (with_reducible repeat (first | refine blk_drewN ?_ _ | refine blk_drew ?_ | refine blk_alloc ?_ _)); refine blk_put (cs := #[.int .i64 t211, .int .i64 0, .int .i64 0, .slice none 0 0]) ?_ 1 _ rfl; (with_reducible repeat (first | refine blk_drewN ?_ _ | refine blk_drew ?_ | refine blk_alloc ?_ _)); refine blk_put (cs := #[.int .i64 0, .int .i64 0, .int .i64 0, .slice none 0 0]) ?_ 0 _ rfl; (with_reducible repeat (first | refine blk_drewN ?_ _ | refine blk_drew ?_ | refine blk_alloc ?_ _)); exact BK219.out) hb); have n4_ := Aside0.mk (below_step (by repeat (first | (with_reducible first | exact HB.out | apply below_alloc | apply pw_below_drewN | apply below_drew1 | refine below_set ?_ GE208.out | refine below_set ?_ GE219.out) | exact HB.out)) hb); clear HO207; clear HO216; clear BK208; clear BK219; clear HB; have HO207 := n0_; have HO216 := n1_; have BK208 := n2_; have BK219 := n3_; have HB := n4_; clear n0_ n1_ n2_ n3_ n4_; (try clear hb); (try clear hb2); (try clear hk); (try clear hi)) | ((with_reducible refine gate_dst (N := 7) rfl ?_); refine box_event ?hg (N := 7) ?hd (cs := #[.int .i64 0, .int .i64 0, .int .i64 0, .int .i64 0]) (t := 36) ?hr ?_; (case hd => rfl); (case hg => rfl); (case hr => first | (go_simp; done) | (go_simp; rfl)); intro gb225 hg w44 hbox hb; have n0_ := Aside0.mk (Kd.R_below (by (with_reducible repeat (first | apply Kd.R_alloc | apply Kd.R_drewN | apply Kd.R_drew)); exact HO207.out) hb); have n1_ := Aside0.mk (Kd.R_below (by (with_reducible repeat (first | apply Kd.R_alloc | apply Kd.R_drewN | apply Kd.R_drew)); exact HO216.out) hb); have n2_ := Aside0.mk (blk_below (g := gb208) (o := .cells #[.int .i64 2, .int .i64 258, .int .i64 7, .slice Ao33 y205.length co33] 24 (0, 0)) (by (with_reducible repeat (first | refine blk_drewN ?_ _ | refine blk_drew ?_ | refine blk_alloc ?_ _)); exact BK208.out) hb); have n3_ := Aside0.mk (blk_below (g := gb219) (o := .cells #[.int .i64 t211, .int .i64 t212, .int .i64 t213, .slice Ao41 t214.length co41] 24 (0, 0)) (by (with_reducible repeat (first | refine blk_drewN ?_ _ | refine blk_drew ?_ | refine blk_alloc ?_ _)); exact BK219.out) hb); have n4_ := Aside0.mk (below_step (by repeat (first | (with_reducible first | exact HB.out | apply below_alloc | apply pw_below_drewN | apply below_drew1 | refine below_set ?_ GE208.out | refine below_set ?_ GE219.out) | exact HB.out)) hb); have n5_ := Aside0.mk (hbox); have n6_ := Aside0.mk ((by rw [hg]; exact (below_size (by repeat (first | (with_reducible first | exact HB.out | apply below_alloc | apply pw_below_drewN | apply below_drew1 | refine below_set ?_ GE208.out | refine below_set ?_ GE219.out) | exact HB.out))) : w.heap.size ≤ gb225)); have n7_ := Aside0.mk ((by rw [hg]; exact (below_size (by repeat (first | (with_reducible first | exact HB.out | apply below_alloc | apply pw_below_drewN | apply below_drew1 | refine below_set ?_ GE208.out | refine below_set ?_ GE219.out) | exact HB.out))) : w.heap.size ≤ gb225)); have n8_ := Aside0.mk ((by rw [hg]; exact Nat.ne_of_lt (blk_lt (g := gb208) (o := .cells #[.int .i64 2, .int .i64 258, .int .i64 7, .slice Ao33 y205.length co33] 24 (0, 0)) (by (with_reducible repeat (first | refine blk_drewN ?_ _ | refine blk_drew ?_ | refine blk_alloc ?_ _)); exact BK208.out)) : gb208 ≠ gb225)); have n9_ := Aside0.mk ((by rw [hg]; exact Nat.ne_of_gt (blk_lt (g := gb208) (o := .cells #[.int .i64 2, .int .i64 258, .int .i64 7, .slice Ao33 y205.length co33] 24 (0, 0)) (by (with_reducible repeat (first | refine blk_drewN ?_ _ | refine blk_drew ?_ | refine blk_alloc ?_ _)); exact BK208.out)) : gb225 ≠ gb208)); have n10_ := Aside0.mk ((by rw [hg]; exact Nat.ne_of_lt (blk_lt (g := gb219) (o := .cells #[.int .i64 t211, .int .i64 t212, .int .i64 t213, .slice Ao41 t214.length co41] 24 (0, 0)) (by (with_reducible repeat (first | refine blk_drewN ?_ _ | refine blk_drew ?_ | refine blk_alloc ?_ _)); exact BK219.out)) : gb219 ≠ gb225)); have n11_ := Aside0.mk ((by rw [hg]; exact Nat.ne_of_gt (blk_lt (g := gb219) (o := .cells #[.int .i64 t211, .int .i64 t212, .int .i64 t213, .slice Ao41 t214.length co41] 24 (0, 0)) (by (with_reducible repeat (first | refine blk_drewN ?_ _ | refine blk_drew ?_ | refine blk_alloc ?_ _)); exact BK219.out)) : gb225 ≠ gb219)); clear HO207; clear HO216; clear BK208; clear BK219; clear HB; have HO207 := n0_; have HO216 := n1_; have BK208 := n2_; have BK219 := n3_; have HB := n4_; have BK225 := n5_; have GW225 := n6_; have GE225 := n7_; have NB208_225 := n8_; have NB225_208 := n9_; have NB219_225 := n10_; have NB225_219 := n11_; clear n0_ n1_ n2_ n3_ n4_ n5_ n6_ n7_ n8_ n9_ n10_ n11_; clear hb hbox hg; have hnb45 := NB225_208.out; have hnc45 := NB208_225.out; have hnb46 := NB225_219.out; have hnc46 := NB219_225.out; have hcz47_0 : w44.cell? ⟨gb225, 0, none⟩ = some (.int .i64 0) := (blk_cell BK225.out 0).trans rfl; have hcz47_1 : w44.cell? ⟨gb225, 1, none⟩ = some (.int .i64 0) := (blk_cell BK225.out 1).trans rfl; have hcz47_2 : w44.cell? ⟨gb225, 2, none⟩ = some (.int .i64 0) := (blk_cell BK225.out 2).trans rfl; have hcz47_3 : w44.cell? ⟨gb225, 3, none⟩ = some (.int .i64 0) := (blk_cell BK225.out 3).trans rfl; have hfz47_0 := blk_frozen BK225.out 0; have hfz47_1 := blk_frozen BK225.out 1; have hfz47_2 := blk_frozen BK225.out 2; have hfz47_3 := blk_frozen BK225.out 3) | ((with_reducible refine gate_callee (f := 13) rfl ?_); refine goesL_ (some 37) rfl rfl Try.func13 (by kernel_rfl) rfl #[.agg #[.int .i64 0, .int .i64 0, .int .i64 0, .slice none 0 0]] rfl (by (try simp only [List.map_toArray, List.map_cons, List.map_nil]); first | done | rfl | (simp only [List.length_drop, List.length_take]; rfl)) ?_; (refine (lsa_Put.calls k 0 0 0 _ _ ([] : List (S49)) t226 t227 _ ?side1 ?side2 A6.out).mono ?_); (case side1 => exact Kd.C_nil _ _); (case side2 => exact Nat.le_refl _); rintro e w48 ⟨rfl, hb⟩; refine ⟨_, rfl, ?_⟩; have n0_ := Aside0.mk (Kd.R_below (by (with_reducible repeat (first | apply Kd.R_alloc | apply Kd.R_drewN | apply Kd.R_drew)); exact (Kd.R_mono (Kd.R_far (p := ⟨gb225, 3, none⟩) (Kd.R_far (p := ⟨gb225, 2, none⟩) (Kd.R_far (p := ⟨gb225, 1, none⟩) (Kd.R_far (p := ⟨gb225, 0, none⟩) (Kd.R_types HO207.out BK225.out (by decide)) (fun _ hk => hk.2) (.int .i64 t220)) (fun _ hk => hk.2) (.int .i64 t221)) (fun _ hk => hk.2) (.int .i64 t222)) (fun _ hk => hk.2) (.int .i64 t223)) (fun _ h_ => h_.1))) hb); have n1_ := Aside0.mk (Kd.R_below (by (with_reducible repeat (first | apply Kd.R_alloc | apply Kd.R_drewN | apply Kd.R_drew)); exact (Kd.R_mono (Kd.R_far (p := ⟨gb225, 3, none⟩) (Kd.R_far (p := ⟨gb225, 2, none⟩) (Kd.R_far (p := ⟨gb225, 1, none⟩) (Kd.R_far (p := ⟨gb225, 0, none⟩) (Kd.R_types HO216.out BK225.out (by decide)) (fun _ hk => hk.2) (.int .i64 t220)) (fun _ hk => hk.2) (.int .i64 t221)) (fun _ hk => hk.2) (.int .i64 t222)) (fun _ hk => hk.2) (.int .i64 t223)) (fun _ h_ => h_.1))) hb); have n2_ := Aside0.mk (blk_below (g := gb208) (o := .cells #[.int .i64 2, .int .i64 258, .int .i64 7, .slice Ao33 y205.length co33] 24 (0, 0)) (by (with_reducible repeat (first | refine blk_drewN ?_ _ | refine blk_drew ?_ | refine blk_alloc ?_ _)); refine blk_far ?_ NB208_225.out _; (with_reducible repeat (first | refine blk_drewN ?_ _ | refine blk_drew ?_ | refine blk_alloc ?_ _)); refine blk_far ?_ NB208_225.out _; (with_reducible repeat (first | refine blk_drewN ?_ _ | refine blk_drew ?_ | refine blk_alloc ?_ _)); refine blk_far ?_ NB208_225.out _; (with_reducible repeat (first | refine blk_drewN ?_ _ | refine blk_drew ?_ | refine blk_alloc ?_ _)); refine blk_far ?_ NB208_225.out _; (with_reducible repeat (first | refine blk_drewN ?_ _ | refine blk_drew ?_ | refine blk_alloc ?_ _)); exact BK208.out) hb); have n3_ := Aside0.mk (blk_below (g := gb219) (o := .cells #[.int .i64 t211, .int .i64 t212, .int .i64 t213, .slice Ao41 t214.length co41] 24 (0, 0)) (by (with_reducible repeat (first | refine blk_drewN ?_ _ | refine blk_drew ?_ | refine blk_alloc ?_ _)); refine blk_far ?_ NB219_225.out _; (with_reducible repeat (first | refine blk_drewN ?_ _ | refine blk_drew ?_ | refine blk_alloc ?_ _)); refine blk_far ?_ NB219_225.out _; (with_reducible repeat (first | refine blk_drewN ?_ _ | refine blk_drew ?_ | refine blk_alloc ?_ _)); refine blk_far ?_ NB219_225.out _; (with_reducible repeat (first | refine blk_drewN ?_ _ | refine blk_drew ?_ | refine blk_alloc ?_ _)); refine blk_far ?_ NB219_225.out _; (with_reducible repeat (first | refine blk_drewN ?_ _ | refine blk_drew ?_ | refine blk_alloc ?_ _)); exact BK219.out) hb); have n4_ := Aside0.mk (blk_below (g := gb225) (o := .cells #[.int .i64 t220, .int .i64 t221, .int .i64 t222, .int .i64 t223] 36 (0, 0)) (by (with_reducible repeat (first | refine blk_drewN ?_ _ | refine blk_drew ?_ | refine blk_alloc ?_ _)); refine blk_put (cs := #[.int .i64 t220, .int .i64 t221, .int .i64 t222, .int .i64 0]) ?_ 3 _ rfl; (with_reducible repeat (first | refine blk_drewN ?_ _ | refine blk_drew ?_ | refine blk_alloc ?_ _)); refine blk_put (cs := #[.int .i64 t220, .int .i64 t221, .int .i64 0, .int .i64 0]) ?_ 2 _ rfl; (with_reducible repeat (first | refine blk_drewN ?_ _ | refine blk_drew ?_ | refine blk_alloc ?_ _)); refine blk_put (cs := #[.int .i64 t220, .int .i64 0, .int .i64 0, .int .i64 0]) ?_ 1 _ rfl; (with_reducible repeat (first | refine blk_drewN ?_ _ | refine blk_drew ?_ | refine blk_alloc ?_ _)); refine blk_put (cs := #[.int .i64 0, .int .i64 0, .int .i64 0, .int .i64 0]) ?_ 0 _ rfl; (with_reducible repeat (first | refine blk_drewN ?_ _ | refine blk_drew ?_ | refine blk_alloc ?_ _)); exact BK225.out) hb); have n5_ := Aside0.mk (below_step (by repeat (first | (with_reducible first | exact HB.out | apply below_alloc | apply pw_below_drewN | apply below_drew1 | refine below_set ?_ GE208.out | refine below_set ?_ GE219.out | refine below_set ?_ GE225.out) | exact HB.out)) hb); clear HO207; clear HO216; clear BK208; clear BK219; clear BK225; clear HB; have HO207 := n0_; have HO216 := n1_; have BK208 := n2_; have BK219 := n3_; have BK225 := n4_; have HB := n5_; clear n0_ n1_ n2_ n3_ n4_ n5_; (try clear hb); (try clear hb2); (try clear hk); (try clear hi)) | ((with_reducible refine gate_callee (f := 15) rfl ?_); refine goesL_ (some 41) rfl rfl Try.func15 (by kernel_rfl) rfl #[.string (⟨#[]⟩ : ByteArray), .int .i64 0] rfl (by (try simp only [List.map_toArray, List.map_cons, List.map_nil]); first | done | rfl | (simp only [List.length_drop, List.length_take]; rfl)) ?_; (with_reducible refine (lsa_Get.calls k (⟨#[]⟩ : ByteArray) 0 t228 t229 t230 t231 t234 t235 _ A7.out).mono ?_); rintro e w49 ⟨v232, rfl, ho0, hb⟩; refine ⟨_, rfl, ?_⟩; have n0_ := Aside0.mk (Kd.R_elder' (by (with_reducible repeat (first | apply Kd.R_alloc | apply Kd.R_drewN | apply Kd.R_drew)); exact HO207.out) (Kd.R_base ho0) hb); have n1_ := Aside0.mk (Kd.R_elder' (by (with_reducible repeat (first | apply Kd.R_alloc | apply Kd.R_drewN | apply Kd.R_drew)); exact HO216.out) (Kd.R_base ho0) hb); have n2_ := Aside0.mk (Kd.R_lower (Kd.R_new' (Kd.R_new' ho0 (Kd.R_lt (by (with_reducible repeat (first | apply Kd.R_alloc | apply Kd.R_drewN | apply Kd.R_drew)); exact HO207.out))) (Kd.R_lt (by (with_reducible repeat (first | apply Kd.R_alloc | apply Kd.R_drewN | apply Kd.R_drew)); exact HO216.out))) (below_size (by repeat (first | (with_reducible first | exact HB.out | apply below_alloc | apply pw_below_drewN | apply below_drew1 | refine below_set ?_ GE208.out | refine below_set ?_ GE219.out | refine below_set ?_ GE225.out) | exact HB.out)))); have n3_ := Aside0.mk (blk_below (g := gb208) (o := .cells #[.int .i64 2, .int .i64 258, .int .i64 7, .slice Ao33 y205.length co33] 24 (0, 0)) (by (with_reducible repeat (first | refine blk_drewN ?_ _ | refine blk_drew ?_ | refine blk_alloc ?_ _)); exact BK208.out) hb); have n4_ := Aside0.mk (blk_below (g := gb219) (o := .cells #[.int .i64 t211, .int .i64 t212, .int .i64 t213, .slice Ao41 t214.length co41] 24 (0, 0)) (by (with_reducible repeat (first | refine blk_drewN ?_ _ | refine blk_drew ?_ | refine blk_alloc ?_ _)); exact BK219.out) hb); have n5_ := Aside0.mk (blk_below (g := gb225) (o := .cells #[.int .i64 t220, .int .i64 t221, .int .i64 t222, .int .i64 t223] 36 (0, 0)) (by (with_reducible repeat (first | refine blk_drewN ?_ _ | refine blk_drew ?_ | refine blk_alloc ?_ _)); exact BK225.out) hb); have n6_ := Aside0.mk (below_step (by repeat (first | (with_reducible first | exact HB.out | apply below_alloc | apply pw_below_drewN | apply below_drew1 | refine below_set ?_ GE208.out | refine below_set ?_ GE219.out | refine below_set ?_ GE225.out) | exact HB.out)) hb); clear HO207; clear HO216; clear BK208; clear BK219; clear BK225; clear HB; have HO207 := n0_; have HO216 := n1_; have HO233 := n2_; have BK208 := n3_; have BK219 := n4_; have BK225 := n5_; have HB := n6_; clear n0_ n1_ n2_ n3_ n4_ n5_ n6_; (try clear hb); (try clear hb2); (try clear hk); (try clear hi); (try clear ho0)) | ((with_reducible refine gate_dst (N := 11) rfl ?_); refine box_event ?hg (N := 11) ?hd (cs := #[.int .i64 0, .int .i64 0, .int .i64 0, .slice none 0 0]) (t := 24) ?hr ?_; (case hd => rfl); (case hg => rfl); (case hr => first | (go_simp; done) | (go_simp; rfl)); intro gb236 hg w50 hbox hb; have n0_ := Aside0.mk (Kd.R_below (by (with_reducible repeat (first | apply Kd.R_alloc | apply Kd.R_drewN | apply Kd.R_drew)); exact HO207.out) hb); have n1_ := Aside0.mk (Kd.R_below (by (with_reducible repeat (first | apply Kd.R_alloc | apply Kd.R_drewN | apply Kd.R_drew)); exact HO216.out) hb); have n2_ := Aside0.mk (Kd.R_below (by (with_reducible repeat (first | apply Kd.R_alloc | apply Kd.R_drewN | apply Kd.R_drew)); exact HO233.out) hb); have n3_ := Aside0.mk (blk_below (g := gb208) (o := .cells #[.int .i64 2, .int .i64 258, .int .i64 7, .slice Ao33 y205.length co33] 24 (0, 0)) (by (with_reducible repeat (first | refine blk_drewN ?_ _ | refine blk_drew ?_ | refine blk_alloc ?_ _)); exact BK208.out) hb); have n4_ := Aside0.mk (blk_below (g := gb219) (o := .cells #[.int .i64 t211, .int .i64 t212, .int .i64 t213, .slice Ao41 t214.length co41] 24 (0, 0)) (by (with_reducible repeat (first | refine blk_drewN ?_ _ | refine blk_drew ?_ | refine blk_alloc ?_ _)); exact BK219.out) hb); have n5_ := Aside0.mk (blk_below (g := gb225) (o := .cells #[.int .i64 t220, .int .i64 t221, .int .i64 t222, .int .i64 t223] 36 (0, 0)) (by (with_reducible repeat (first | refine blk_drewN ?_ _ | refine blk_drew ?_ | refine blk_alloc ?_ _)); exact BK225.out) hb); have n6_ := Aside0.mk (below_step (by repeat (first | (with_reducible first | exact HB.out | apply below_alloc | apply pw_below_drewN | apply below_drew1 | refine below_set ?_ GE208.out | refine below_set ?_ GE219.out | refine below_set ?_ GE225.out) | exact HB.out)) hb); have n7_ := Aside0.mk (hbox); have n8_ := Aside0.mk ((by rw [hg]; exact (below_size (by repeat (first | (with_reducible first | exact HB.out | apply below_alloc | apply pw_below_drewN | apply below_drew1 | refine below_set ?_ GE208.out | refine below_set ?_ GE219.out | refine below_set ?_ GE225.out) | exact HB.out))) : w.heap.size ≤ gb236)); have n9_ := Aside0.mk ((by rw [hg]; exact (below_size (by repeat (first | (with_reducible first | exact HB.out | apply below_alloc | apply pw_below_drewN | apply below_drew1 | refine below_set ?_ GE208.out | refine below_set ?_ GE219.out | refine below_set ?_ GE225.out) | exact HB.out))) : w.heap.size ≤ gb236)); have n10_ := Aside0.mk ((by rw [hg]; exact Nat.ne_of_lt (blk_lt (g := gb208) (o := .cells #[.int .i64 2, .int .i64 258, .int .i64 7, .slice Ao33 y205.length co33] 24 (0, 0)) (by (with_reducible repeat (first | refine blk_drewN ?_ _ | refine blk_drew ?_ | refine blk_alloc ?_ _)); exact BK208.out)) : gb208 ≠ gb236)); have n11_ := Aside0.mk ((by rw [hg]; exact Nat.ne_of_gt (blk_lt (g := gb208) (o := .cells #[.int .i64 2, .int .i64 258, .int .i64 7, .slice Ao33 y205.length co33] 24 (0, 0)) (by (with_reducible repeat (first | refine blk_drewN ?_ _ | refine blk_drew ?_ | refine blk_alloc ?_ _)); exact BK208.out)) : gb236 ≠ gb208)); have n12_ := Aside0.mk ((by rw [hg]; exact Nat.ne_of_lt (blk_lt (g := gb219) (o := .cells #[.int .i64 t211, .int .i64 t212, .int .i64 t213, .slice Ao41 t214.length co41] 24 (0, 0)) (by (with_reducible repeat (first | refine blk_drewN ?_ _ | refine blk_drew ?_ | refine blk_alloc ?_ _)); exact BK219.out)) : gb219 ≠ gb236)); have n13_ := Aside0.mk ((by rw [hg]; exact Nat.ne_of_gt (blk_lt (g := gb219) (o := .cells #[.int .i64 t211, .int .i64 t212, .int .i64 t213, .slice Ao41 t214.length co41] 24 (0, 0)) (by (with_reducible repeat (first | refine blk_drewN ?_ _ | refine blk_drew ?_ | refine blk_alloc ?_ _)); exact BK219.out)) : gb236 ≠ gb219)); have n14_ := Aside0.mk ((by rw [hg]; exact Nat.ne_of_lt (blk_lt (g := gb225) (o := .cells #[.int .i64 t220, .int .i64 t221, .int .i64 t222, .int .i64 t223] 36 (0, 0)) (by (with_reducible repeat (first | refine blk_drewN ?_ _ | refine blk_drew ?_ | refine blk_alloc ?_ _)); exact BK225.out)) : gb225 ≠ gb236)); have n15_ := Aside0.mk ((by rw [hg]; exact Nat.ne_of_gt (blk_lt (g := gb225) (o := .cells #[.int .i64 t220, .int .i64 t221, .int .i64 t222, .int .i64 t223] 36 (0, 0)) (by (with_reducible repeat (first | refine blk_drewN ?_ _ | refine blk_drew ?_ | refine blk_alloc ?_ _)); exact BK225.out)) : gb236 ≠ gb225)); clear HO207; clear HO216; clear HO233; clear BK208; clear BK219; clear BK225; clear HB; have HO207 := n0_; have HO216 := n1_; have HO233 := n2_; have BK208 := n3_; have BK219 := n4_; have BK225 := n5_; have HB := n6_; have BK236 := n7_; have GW236 := n8_; have GE236 := n9_; have NB208_236 := n10_; have NB236_208 := n11_; have NB219_236 := n12_; have NB236_219 := n13_; have NB225_236 := n14_; have NB236_225 := n15_; clear n0_ n1_ n2_ n3_ n4_ n5_ n6_ n7_ n8_ n9_ n10_ n11_ n12_ n13_ n14_ n15_; clear hb hbox hg; have hnb51 := NB236_208.out; have hnc51 := NB208_236.out; have hnb52 := NB236_219.out; have hnc52 := NB219_236.out; have hnb53 := NB236_225.out; have hnc53 := NB225_236.out; have hcz54_0 : w50.cell? ⟨gb236, 0, none⟩ = some (.int .i64 0) := (blk_cell BK236.out 0).trans rfl; have hcz54_1 : w50.cell? ⟨gb236, 1, none⟩ = some (.int .i64 0) := (blk_cell BK236.out 1).trans rfl; have hcz54_2 : w50.cell? ⟨gb236, 2, none⟩ = some (.int .i64 0) := (blk_cell BK236.out 2).trans rfl; have hcz54_3 : w50.cell? ⟨gb236, 3, none⟩ = some (.slice none 0 0) := (blk_cell BK236.out 3).trans rfl; have hfz54_0 := blk_frozen BK236.out 0; have hfz54_1 := blk_frozen BK236.out 1; have hfz54_2 := blk_frozen BK236.out 2; have hfz54_3 := blk_frozen BK236.out 3; obtain ⟨Ao55, co55, eo55⟩ := Kd.R_slice HO233.out; subst eo55))
                 have n0_ : Aside0 (Kd.R k49 49 ((((w50.setCell ⟨gb236, 0, none⟩ (.int .i64 t228)).setCell ⟨gb236, 1, none⟩ (.int .i64 t229)).setCell ⟨gb236, 2, none⟩ (.int .i64 t230)).setCell ⟨gb236, 3, none⟩ (.slice Ao55 t231.length co55)) w.heap.size (fun k_ => some k_ ≠ (.slice Ao41 t214.length co41 : Value).ownBlock ∧ some k_ ≠ (.slice Ao55 t231.length co55 : Value).ownBlock) (.slice Ao33 y205.length co33) y205) := ⟨by (with_reducible repeat (first | apply Kd.R_alloc | apply Kd.R_drewN | apply Kd.R_drew)); exact Kd.R_mono (Kd.R_far (p := ⟨gb236, 3, none⟩) (Kd.R_far (p := ⟨gb236, 2, none⟩) (Kd.R_far (p := ⟨gb236, 1, none⟩) (Kd.R_far (p := ⟨gb236, 0, none⟩) (Kd.R_types HO207.out BK236.out (by decide)) (fun _ hk => hk.2) (.int .i64 t228)) (fun _ hk => hk.2) (.int .i64 t229)) (fun _ hk => hk.2) (.int .i64 t230)) (fun _ hk => hk.2) (.slice Ao55 t231.length co55)) (fun _ hk => ⟨hk.1.1.2, hk.1.2⟩)⟩
                 have n1_ : Aside0 (Kd.R k49 49 ((((w50.setCell ⟨gb236, 0, none⟩ (.int .i64 t228)).setCell ⟨gb236, 1, none⟩ (.int .i64 t229)).setCell ⟨gb236, 2, none⟩ (.int .i64 t230)).setCell ⟨gb236, 3, none⟩ (.slice Ao55 t231.length co55)) w.heap.size (fun k_ => some k_ ≠ (.slice Ao33 y205.length co33 : Value).ownBlock ∧ some k_ ≠ (.slice Ao55 t231.length co55 : Value).ownBlock) (.slice Ao41 t214.length co41) t214) := ⟨by (with_reducible repeat (first | apply Kd.R_alloc | apply Kd.R_drewN | apply Kd.R_drew)); exact Kd.R_mono (Kd.R_far (p := ⟨gb236, 3, none⟩) (Kd.R_far (p := ⟨gb236, 2, none⟩) (Kd.R_far (p := ⟨gb236, 1, none⟩) (Kd.R_far (p := ⟨gb236, 0, none⟩) (Kd.R_types HO216.out BK236.out (by decide)) (fun _ hk => hk.2) (.int .i64 t228)) (fun _ hk => hk.2) (.int .i64 t229)) (fun _ hk => hk.2) (.int .i64 t230)) (fun _ hk => hk.2) (.slice Ao55 t231.length co55)) (fun _ hk => ⟨hk.1.1.2, hk.1.2⟩)⟩
                 have n2_ : Aside0 (Kd.R k49 49 ((((w50.setCell ⟨gb236, 0, none⟩ (.int .i64 t228)).setCell ⟨gb236, 1, none⟩ (.int .i64 t229)).setCell ⟨gb236, 2, none⟩ (.int .i64 t230)).setCell ⟨gb236, 3, none⟩ (.slice Ao55 t231.length co55)) w.heap.size (fun k_ => some k_ ≠ (.slice Ao33 y205.length co33 : Value).ownBlock ∧ some k_ ≠ (.slice Ao41 t214.length co41 : Value).ownBlock) (.slice Ao55 t231.length co55) t231) := ⟨by (with_reducible repeat (first | apply Kd.R_alloc | apply Kd.R_drewN | apply Kd.R_drew)); exact Kd.R_mono (Kd.R_far (p := ⟨gb236, 3, none⟩) (Kd.R_far (p := ⟨gb236, 2, none⟩) (Kd.R_far (p := ⟨gb236, 1, none⟩) (Kd.R_far (p := ⟨gb236, 0, none⟩) (Kd.R_types HO233.out BK236.out (by decide)) (fun _ hk => hk.2) (.int .i64 t228)) (fun _ hk => hk.2) (.int .i64 t229)) (fun _ hk => hk.2) (.int .i64 t230)) (fun _ hk => hk.2) (.slice Ao55 t231.length co55)) (fun _ hk => ⟨hk.1.1.2, hk.1.2⟩)⟩
                 have n3_ : Aside0 (((((w50.setCell ⟨gb236, 0, none⟩ (.int .i64 t228)).setCell ⟨gb236, 1, none⟩ (.int .i64 t229)).setCell ⟨gb236, 2, none⟩ (.int .i64 t230)).setCell ⟨gb236, 3, none⟩ (.slice Ao55 t231.length co55)).heap[gb208]? = some (.cells #[.int .i64 2, .int .i64 258, .int .i64 7, .slice Ao33 y205.length co33] 24 (0, 0))) := ⟨by (with_reducible repeat (first | refine blk_drewN ?_ _ | refine blk_drew ?_ | refine blk_alloc ?_ _)); refine blk_far ?_ NB208_236.out _; (with_reducible repeat (first | refine blk_drewN ?_ _ | refine blk_drew ?_ | refine blk_alloc ?_ _)); refine blk_far ?_ NB208_236.out _; (with_reducible repeat (first | refine blk_drewN ?_ _ | refine blk_drew ?_ | refine blk_alloc ?_ _)); refine blk_far ?_ NB208_236.out _; (with_reducible repeat (first | refine blk_drewN ?_ _ | refine blk_drew ?_ | refine blk_alloc ?_ _)); refine blk_far ?_ NB208_236.out _; (with_reducible repeat (first | refine blk_drewN ?_ _ | refine blk_drew ?_ | refine blk_alloc ?_ _)); exact BK208.out⟩
                 have n4_ : Aside0 (((((w50.setCell ⟨gb236, 0, none⟩ (.int .i64 t228)).setCell ⟨gb236, 1, none⟩ (.int .i64 t229)).setCell ⟨gb236, 2, none⟩ (.int .i64 t230)).setCell ⟨gb236, 3, none⟩ (.slice Ao55 t231.length co55)).heap[gb219]? = some (.cells #[.int .i64 t211, .int .i64 t212, .int .i64 t213, .slice Ao41 t214.length co41] 24 (0, 0))) := ⟨by (with_reducible repeat (first | refine blk_drewN ?_ _ | refine blk_drew ?_ | refine blk_alloc ?_ _)); refine blk_far ?_ NB219_236.out _; (with_reducible repeat (first | refine blk_drewN ?_ _ | refine blk_drew ?_ | refine blk_alloc ?_ _)); refine blk_far ?_ NB219_236.out _; (with_reducible repeat (first | refine blk_drewN ?_ _ | refine blk_drew ?_ | refine blk_alloc ?_ _)); refine blk_far ?_ NB219_236.out _; (with_reducible repeat (first | refine blk_drewN ?_ _ | refine blk_drew ?_ | refine blk_alloc ?_ _)); refine blk_far ?_ NB219_236.out _; (with_reducible repeat (first | refine blk_drewN ?_ _ | refine blk_drew ?_ | refine blk_alloc ?_ _)); exact BK219.out⟩
                 have n5_ : Aside0 (((((w50.setCell ⟨gb236, 0, none⟩ (.int .i64 t228)).setCell ⟨gb236, 1, none⟩ (.int .i64 t229)).setCell ⟨gb236, 2, none⟩ (.int .i64 t230)).setCell ⟨gb236, 3, none⟩ (.slice Ao55 t231.length co55)).heap[gb225]? = some (.cells #[.int .i64 t220, .int .i64 t221, .int .i64 t222, .int .i64 t223] 36 (0, 0))) := ⟨by (with_reducible repeat (first | refine blk_drewN ?_ _ | refine blk_drew ?_ | refine blk_alloc ?_ _)); refine blk_far ?_ NB225_236.out _; (with_reducible repeat (first | refine blk_drewN ?_ _ | refine blk_drew ?_ | refine blk_alloc ?_ _)); refine blk_far ?_ NB225_236.out _; (with_reducible repeat (first | refine blk_drewN ?_ _ | refine blk_drew ?_ | refine blk_alloc ?_ _)); refine blk_far ?_ NB225_236.out _; (with_reducible repeat (first | refine blk_drewN ?_ _ | refine blk_drew ?_ | refine blk_alloc ?_ _)); refine blk_far ?_ NB225_236.out _; (with_reducible repeat (first | refine blk_drewN ?_ _ | refine blk_drew ?_ | refine blk_alloc ?_ _)); exact BK225.out⟩
                 have n6_ : Aside0 (((((w50.setCell ⟨gb236, 0, none⟩ (.int .i64 t228)).setCell ⟨gb236, 1, none⟩ (.int .i64 t229)).setCell ⟨gb236, 2, none⟩ (.int .i64 t230)).setCell ⟨gb236, 3, none⟩ (.slice Ao55 t231.length co55)).heap[gb236]? = some (.cells #[.int .i64 t228, .int .i64 t229, .int .i64 t230, .slice Ao55 t231.length co55] 24 (0, 0))) := ⟨by (with_reducible repeat (first | refine blk_drewN ?_ _ | refine blk_drew ?_ | refine blk_alloc ?_ _)); refine blk_put (cs := #[.int .i64 t228, .int .i64 t229, .int .i64 t230, .slice none 0 0]) ?_ 3 _ rfl; (with_reducible repeat (first | refine blk_drewN ?_ _ | refine blk_drew ?_ | refine blk_alloc ?_ _)); refine blk_put (cs := #[.int .i64 t228, .int .i64 t229, .int .i64 0, .slice none 0 0]) ?_ 2 _ rfl; (with_reducible repeat (first | refine blk_drewN ?_ _ | refine blk_drew ?_ | refine blk_alloc ?_ _)); refine blk_put (cs := #[.int .i64 t228, .int .i64 0, .int .i64 0, .slice none 0 0]) ?_ 1 _ rfl; (with_reducible repeat (first | refine blk_drewN ?_ _ | refine blk_drew ?_ | refine blk_alloc ?_ _)); refine blk_put (cs := #[.int .i64 0, .int .i64 0, .int .i64 0, .slice none 0 0]) ?_ 0 _ rfl; (with_reducible repeat (first | refine blk_drewN ?_ _ | refine blk_drew ?_ | refine blk_alloc ?_ _)); exact BK236.out⟩
                 have n7_ : Aside0 (Below w.heap.size w ((((w50.setCell ⟨gb236, 0, none⟩ (.int .i64 t228)).setCell ⟨gb236, 1, none⟩ (.int .i64 t229)).setCell ⟨gb236, 2, none⟩ (.int .i64 t230)).setCell ⟨gb236, 3, none⟩ (.slice Ao55 t231.length co55))) := ⟨by repeat (first | (with_reducible first | exact HB.out | apply below_alloc | apply pw_below_drewN | apply below_drew1 | refine below_set ?_ GE208.out | refine below_set ?_ GE219.out | refine below_set ?_ GE225.out | refine below_set ?_ GE236.out) | exact HB.out)⟩
                 (try clear HO207)
                 (try clear HO216)
                 (try clear HO233)
                 (try clear BK208)
                 (try clear BK219)
                 (try clear BK225)
                 (try clear BK236)
                 (try clear HB)
                 generalize ((((w50.setCell ⟨gb236, 0, none⟩ (.int .i64 t228)).setCell ⟨gb236, 1, none⟩ (.int .i64 t229)).setCell ⟨gb236, 2, none⟩ (.int .i64 t230)).setCell ⟨gb236, 3, none⟩ (.slice Ao55 t231.length co55)) = w56 at n0_ n1_ n2_ n3_ n4_ n5_ n6_ n7_ ⊢
                 have HO207 := n0_
                 have HO216 := n1_
                 have HO233 := n2_
                 have BK208 := n3_
                 have BK219 := n4_
                 have BK225 := n5_
                 have BK236 := n6_
                 have HB := n7_
                 clear n0_ n1_ n2_ n3_ n4_ n5_ n6_ n7_
                 have n0_ := Aside0.mk (Kd.R_drew HO207.out)
                 have n1_ := Aside0.mk (Kd.R_drew HO216.out)
                 have n2_ := Aside0.mk (Kd.R_drew HO233.out)
                 have n3_ := Aside0.mk (blk_drew BK208.out)
                 have n4_ := Aside0.mk (blk_drew BK219.out)
                 have n5_ := Aside0.mk (blk_drew BK225.out)
                 have n6_ := Aside0.mk (blk_drew BK236.out)
                 have n7_ := Aside0.mk (below_drew1 HB.out)
                 clear HO207
                 clear HO216
                 clear HO233
                 clear BK208
                 clear BK219
                 clear BK225
                 clear BK236
                 clear HB
                 have HO207 := n0_
                 have HO216 := n1_
                 have HO233 := n2_
                 have BK208 := n3_
                 have BK219 := n4_
                 have BK225 := n5_
                 have BK236 := n6_
                 have HB := n7_
                 clear n0_ n1_ n2_ n3_ n4_ n5_ n6_ n7_
                 refine start_ (n := 55) (S := fun w' => w'.cell? ⟨gb208, 0, none⟩ = some (.int .i64 2) ∧ w'.cell? ⟨gb208, 1, none⟩ = some (.int .i64 258) ∧ w'.cell? ⟨gb208, 2, none⟩ = some (.int .i64 7) ∧ w'.cell? ⟨gb208, 3, none⟩ = some (.slice Ao33 y205.length co33) ∧ w'.cell? ⟨gb219, 0, none⟩ = some (.int .i64 t211) ∧ w'.cell? ⟨gb219, 1, none⟩ = some (.int .i64 t212) ∧ w'.cell? ⟨gb219, 2, none⟩ = some (.int .i64 t213) ∧ w'.cell? ⟨gb219, 3, none⟩ = some (.slice Ao41 t214.length co41) ∧ w'.cell? ⟨gb225, 0, none⟩ = some (.int .i64 t220) ∧ w'.cell? ⟨gb225, 1, none⟩ = some (.int .i64 t221) ∧ w'.cell? ⟨gb225, 2, none⟩ = some (.int .i64 t222) ∧ w'.cell? ⟨gb225, 3, none⟩ = some (.int .i64 t223)) (ds := []) #[false, false, false, false, false, false, false, false, false, false, false, false, false, false, false, false, false, false, false, false, false, false, false, false, false, false, false, false, false, false, false, false, false, false, false, false, false, false, false, false, false, false, false, false, false, false, false, false, false, false, false, false, false, false, false] (by kernel_rfl) rfl rfl ⟨(blk_cell BK208.out 0).trans rfl, (blk_cell BK208.out 1).trans rfl, (blk_cell BK208.out 2).trans rfl, (blk_cell BK208.out 3).trans rfl, (blk_cell BK219.out 0).trans rfl, (blk_cell BK219.out 1).trans rfl, (blk_cell BK219.out 2).trans rfl, (blk_cell BK219.out 3).trans rfl, (blk_cell BK225.out 0).trans rfl, (blk_cell BK225.out 1).trans rfl, (blk_cell BK225.out 2).trans rfl, (blk_cell BK225.out 3).trans rfl⟩ (fun hHeld => ?_); refine with_tabW watchwordlaw7_awake.tab9 watchwordlaw7_awake.bits9 (fun HT_ HW_ => ?_)
                 generalize w56.drew = w57 at HO207 HO216 HO233 BK208 BK219 BK225 BK236 HB hHeld ⊢
                 refine pure_ (i := 0) (N := some 48) (v := ?_) (a' := ?_) #[true, false, false, false, false, false, false, false, false, false, false, false, false, false, false, false, false, false, false, false, false, false, false, false, false, false, false, false, false, false, false, false, false, false, false, false, false, false, false, false, false, false, false, false, false, false, false, false, false, false, false, false, false, false, false] rfl rfl (any_of HT_.out (by kernel_rfl)) (fun _ _ _ h => h) (Or.inl ⟨by rfl, ?_⟩) ?_ ?_
                 rotate_left
                 ·intro w'
                  go_simp
                  with_reducible rfl
                 rotate_left
                 ·simp only [Act.put, List.setIfInBounds_toArray, List.set_cons_zero, List.set_cons_succ, i64_w, i32_w]
                  rfl
                 refine pure_ (i := 1) (N := some 49) (v := ?_) (a' := ?_) #[true, true, false, false, false, false, false, false, false, false, false, false, false, false, false, false, false, false, false, false, false, false, false, false, false, false, false, false, false, false, false, false, false, false, false, false, false, false, false, false, false, false, false, false, false, false, false, false, false, false, false, false, false, false, false] rfl rfl (any_of HT_.out (by kernel_rfl)) (fun _ _ _ h => h) (Or.inl ⟨by rfl, ?_⟩) ?_ ?_
                 rotate_left
                 ·intro w'
                  go_simp
                  with_reducible rfl
                 rotate_left
                 ·simp only [Act.put, List.setIfInBounds_toArray, List.set_cons_zero, List.set_cons_succ, i64_w, i32_w]
                  rfl
                 refine pure_ (i := 2) (N := some 50) (v := ?_) (a' := ?_) #[true, true, true, false, false, false, false, false, false, false, false, false, false, false, false, false, false, false, false, false, false, false, false, false, false, false, false, false, false, false, false, false, false, false, false, false, false, false, false, false, false, false, false, false, false, false, false, false, false, false, false, false, false, false, false] rfl rfl (any_of HT_.out (by kernel_rfl)) (fun _ _ _ h => h) (Or.inl ⟨by rfl, ?_⟩) ?_ ?_
                 rotate_left
                 ·intro w'
                  go_simp
                  with_reducible rfl
                 rotate_left
                 ·simp only [Act.put, List.setIfInBounds_toArray, List.set_cons_zero, List.set_cons_succ, i64_w, i32_w]
                  rfl
                 refine pure_ (i := 3) (N := some 51) (v := ?_) (a' := ?_) #[true, true, true, true, false, false, false, false, false, false, false, false, false, false, false, false, false, false, false, false, false, false, false, false, false, false, false, false, false, false, false, false, false, false, false, false, false, false, false, false, false, false, false, false, false, false, false, false, false, false, false, false, false, false, false] rfl rfl (any_of HT_.out (by kernel_rfl)) (fun _ _ _ h => h) (Or.inl ⟨by rfl, ?_⟩) ?_ ?_
                 rotate_left
                 ·intro w'
                  go_simp
                  with_reducible rfl
                 rotate_left
                 ·simp only [Act.put, List.setIfInBounds_toArray, List.set_cons_zero, List.set_cons_succ, i64_w, i32_w]
                  rfl
                 refine pure_ (i := 4) (N := some 52) (v := ?_) (a' := ?_) #[true, true, true, true, true, false, false, false, false, false, false, false, false, false, false, false, false, false, false, false, false, false, false, false, false, false, false, false, false, false, false, false, false, false, false, false, false, false, false, false, false, false, false, false, false, false, false, false, false, false, false, false, false, false, false] rfl rfl (any_of HT_.out (by kernel_rfl)) (fun _ _ _ h => h) (Or.inl ⟨by rfl, ?_⟩) ?_ ?_
                 rotate_left
                 ·intro w'
                  go_simp
                  with_reducible rfl
                 rotate_left
                 ·simp only [Act.put, List.setIfInBounds_toArray, List.set_cons_zero, List.set_cons_succ, i64_w, i32_w]
                  rfl
                 refine one_ (i := 5) (N := some 53) #[true, true, true, true, true, true, false, false, false, false, false, false, false, false, false, false, false, false, false, false, false, false, false, false, false, false, false, false, false, false, false, false, false, false, false, false, false, false, false, false, false, false, false, false, false, false, false, false, false, false, false, false, false, false, false] rfl rfl (one_of HT_.out (by kernel_rfl)) (by decide) (fun K hK => ?_)
                 refine goes_ Try.func19 (by kernel_rfl) rfl #[.int .i64 t210] (by rfl) rfl rfl (by (try simp only [List.map_toArray, List.map_cons, List.map_nil]); first | done | rfl | (simp only [List.length_drop, List.length_take]; rfl)) ?_
                 with_reducible refine (watchwordlaw0_Num.calls t210 t237 _ A12.out).mono ?_
                 rintro e w' ⟨rfl, ⟨nd, rfl⟩⟩
                 refine ⟨_, rfl, ?_⟩
                 refine hK.out _ _ ⟨(blk_cell BK208.out 0).trans rfl, (blk_cell BK208.out 1).trans rfl, (blk_cell BK208.out 2).trans rfl, (blk_cell BK208.out 3).trans rfl, (blk_cell BK219.out 0).trans rfl, (blk_cell BK219.out 1).trans rfl, (blk_cell BK219.out 2).trans rfl, (blk_cell BK219.out 3).trans rfl, (blk_cell BK225.out 0).trans rfl, (blk_cell BK225.out 1).trans rfl, (blk_cell BK225.out 2).trans rfl, (blk_cell BK225.out 3).trans rfl⟩ (fun hHeld => ?_)
                 clear hK K
                 refine norm_ (a' := ?_) ?_ ?_
                 rotate_left
                 ·show Act.put _ (some 53) _ = _
                  simp only [Act.put, List.setIfInBounds_toArray, List.set_cons_zero, List.set_cons_succ, i64_w, i32_w]
                  rfl
                 refine pure_ (i := 6) (N := some 54) (v := ?_) (a' := ?_) #[true, true, true, true, true, true, true, false, false, false, false, false, false, false, false, false, false, false, false, false, false, false, false, false, false, false, false, false, false, false, false, false, false, false, false, false, false, false, false, false, false, false, false, false, false, false, false, false, false, false, false, false, false, false, false] rfl rfl (any_of HT_.out (by kernel_rfl)) (fun _ _ _ h => h) (Or.inl ⟨by rfl, ?_⟩) ?_ ?_
                 rotate_left
                 ·intro w'
                  go_simp
                  with_reducible rfl
                 rotate_left
                 ·simp only [Act.put, List.setIfInBounds_toArray, List.set_cons_zero, List.set_cons_succ, i64_w, i32_w]
                  rfl
                 refine pure_ (i := 7) (N := some 55) (v := ?_) (a' := ?_) #[true, true, true, true, true, true, true, true, false, false, false, false, false, false, false, false, false, false, false, false, false, false, false, false, false, false, false, false, false, false, false, false, false, false, false, false, false, false, false, false, false, false, false, false, false, false, false, false, false, false, false, false, false, false, false] rfl rfl (any_of HT_.out (by kernel_rfl)) (fun _ _ _ h => h) (Or.inl ⟨by rfl, ?_⟩) ?_ ?_
                 rotate_left
                 ·intro w'
                  go_simp
                  with_reducible rfl
                 rotate_left
                 ·simp only [Act.put, List.setIfInBounds_toArray, List.set_cons_zero, List.set_cons_succ, i64_w, i32_w]
                  rfl
                 refine pure_ (i := 8) (N := some 56) (v := ?_) (a' := ?_) #[true, true, true, true, true, true, true, true, true, false, false, false, false, false, false, false, false, false, false, false, false, false, false, false, false, false, false, false, false, false, false, false, false, false, false, false, false, false, false, false, false, false, false, false, false, false, false, false, false, false, false, false, false, false, false] rfl rfl (any_of HT_.out (by kernel_rfl)) (fun _ _ _ h => h) (Or.inl ⟨by rfl, ?_⟩) ?_ ?_
                 rotate_left
                 ·intro w'
                  go_simp
                  with_reducible rfl
                 rotate_left
                 ·simp only [Act.put, List.setIfInBounds_toArray, List.set_cons_zero, List.set_cons_succ, i64_w, i32_w]
                  rfl
                 refine take_ (i := 9) (N := some 57) (v := ?_) (a' := ?_) #[true, true, true, true, true, true, true, true, true, true, false, false, false, false, false, false, false, false, false, false, false, false, false, false, false, false, false, false, false, false, false, false, false, false, false, false, false, false, false, false, false, false, false, false, false, false, false, false, false, false, false, false, false, false, false] rfl rfl (take_ofW HT_.out HW_.out (by kernel_rfl)) (fun _ _ _ h => h) (Or.inl ⟨by rfl, ?_⟩) hHeld ?_ ?_
                 rotate_left
                 ·rintro w' ⟨s0, s1, s2, s3, s4, s5, s6, s7, s8, s9, s10, s11⟩
                  go_simp
                  with_reducible rfl
                 rotate_left
                 ·simp only [Act.put, List.setIfInBounds_toArray, List.set_cons_zero, List.set_cons_succ, i64_w, i32_w]
                  rfl
                 refine take_ (i := 10) (N := some 58) (v := ?_) (a' := ?_) #[true, true, true, true, true, true, true, true, true, true, true, false, false, false, false, false, false, false, false, false, false, false, false, false, false, false, false, false, false, false, false, false, false, false, false, false, false, false, false, false, false, false, false, false, false, false, false, false, false, false, false, false, false, false, false] rfl rfl (take_ofW HT_.out HW_.out (by kernel_rfl)) (fun _ _ _ h => h) (Or.inl ⟨by rfl, ?_⟩) hHeld ?_ ?_
                 rotate_left
                 ·rintro w' ⟨s0, s1, s2, s3, s4, s5, s6, s7, s8, s9, s10, s11⟩
                  go_simp
                  with_reducible rfl
                 rotate_left
                 ·simp only [Act.put, List.setIfInBounds_toArray, List.set_cons_zero, List.set_cons_succ, i64_w, i32_w]
                  rfl
                 refine one_ (i := 11) (N := some 59) #[true, true, true, true, true, true, true, true, true, true, true, true, false, false, false, false, false, false, false, false, false, false, false, false, false, false, false, false, false, false, false, false, false, false, false, false, false, false, false, false, false, false, false, false, false, false, false, false, false, false, false, false, false, false, false] rfl rfl (one_of HT_.out (by kernel_rfl)) (by decide) (fun K hK => ?_)
                 refine goes_ Try.func20 (by kernel_rfl) rfl #[.agg #[.int .i64 2, .int .i64 258, .int .i64 7, .slice Ao33 y205.length co33], .agg #[.int .i64 t211, .int .i64 t212, .int .i64 t213, .slice Ao41 t214.length co41]] (by rfl) rfl rfl (by (try simp only [List.map_toArray, List.map_cons, List.map_nil]); first | done | rfl | (simp only [List.length_drop, List.length_take]; rfl)) ?_
                 with_reducible refine (watchwordlaw0_SameLsa.calls k 2 258 7 _ _ y205 t211 t212 t213 _ _ t214 true _ ?side1 ?side2 ?side3 ?side4 A14.out).mono ?_
                 (case side1 => repeat (first | exact (Kd.R_reads' HO207.out).2.2 | (with_reducible refine Kd.C_alloc ?_ _) | (with_reducible refine Kd.C_drewN ?_ _) | (with_reducible refine Kd.C_drew ?_)))
                 (case side2 => exact (Kd.R_reads' HO207.out).2.1)
                 (case side3 => repeat (first | exact (Kd.R_reads' HO216.out).2.2 | (with_reducible refine Kd.C_alloc ?_ _) | (with_reducible refine Kd.C_drewN ?_ _) | (with_reducible refine Kd.C_drew ?_)))
                 (case side4 => exact (Kd.R_reads' HO216.out).2.1)
                 rintro e w58 ⟨rfl, hb⟩
                 refine ⟨_, rfl, ?_⟩
                 have n0_ := Aside0.mk (Kd.R_below (by (with_reducible repeat (first | apply Kd.R_alloc | apply Kd.R_drewN | apply Kd.R_drew)); exact HO207.out) hb)
                 have n1_ := Aside0.mk (Kd.R_below (by (with_reducible repeat (first | apply Kd.R_alloc | apply Kd.R_drewN | apply Kd.R_drew)); exact HO216.out) hb)
                 have n2_ := Aside0.mk (Kd.R_below (by (with_reducible repeat (first | apply Kd.R_alloc | apply Kd.R_drewN | apply Kd.R_drew)); exact HO233.out) hb)
                 have n3_ := Aside0.mk (blk_below (g := gb208) (o := .cells #[.int .i64 2, .int .i64 258, .int .i64 7, .slice Ao33 y205.length co33] 24 (0, 0)) (by (with_reducible repeat (first | refine blk_drewN ?_ _ | refine blk_drew ?_ | refine blk_alloc ?_ _)); exact BK208.out) hb)
                 have n4_ := Aside0.mk (blk_below (g := gb219) (o := .cells #[.int .i64 t211, .int .i64 t212, .int .i64 t213, .slice Ao41 t214.length co41] 24 (0, 0)) (by (with_reducible repeat (first | refine blk_drewN ?_ _ | refine blk_drew ?_ | refine blk_alloc ?_ _)); exact BK219.out) hb)
                 have n5_ := Aside0.mk (blk_below (g := gb225) (o := .cells #[.int .i64 t220, .int .i64 t221, .int .i64 t222, .int .i64 t223] 36 (0, 0)) (by (with_reducible repeat (first | refine blk_drewN ?_ _ | refine blk_drew ?_ | refine blk_alloc ?_ _)); exact BK225.out) hb)
                 have n6_ := Aside0.mk (blk_below (g := gb236) (o := .cells #[.int .i64 t228, .int .i64 t229, .int .i64 t230, .slice Ao55 t231.length co55] 24 (0, 0)) (by (with_reducible repeat (first | refine blk_drewN ?_ _ | refine blk_drew ?_ | refine blk_alloc ?_ _)); exact BK236.out) hb)
                 have n7_ := Aside0.mk (below_step (by repeat (first | (with_reducible first | exact HB.out | apply below_alloc | apply pw_below_drewN | apply below_drew1 | refine below_set ?_ GE208.out | refine below_set ?_ GE219.out | refine below_set ?_ GE225.out | refine below_set ?_ GE236.out) | exact HB.out)) hb)
                 clear HO207
                 clear HO216
                 clear HO233
                 clear BK208
                 clear BK219
                 clear BK225
                 clear BK236
                 clear HB
                 have HO207 := n0_
                 have HO216 := n1_
                 have HO233 := n2_
                 have BK208 := n3_
                 have BK219 := n4_
                 have BK225 := n5_
                 have BK236 := n6_
                 have HB := n7_
                 clear n0_ n1_ n2_ n3_ n4_ n5_ n6_ n7_
                 (try clear hb)
                 (try clear hb2)
                 (try clear hk)
                 (try clear hi)
                 refine hK.out _ _ ⟨(blk_cell BK208.out 0).trans rfl, (blk_cell BK208.out 1).trans rfl, (blk_cell BK208.out 2).trans rfl, (blk_cell BK208.out 3).trans rfl, (blk_cell BK219.out 0).trans rfl, (blk_cell BK219.out 1).trans rfl, (blk_cell BK219.out 2).trans rfl, (blk_cell BK219.out 3).trans rfl, (blk_cell BK225.out 0).trans rfl, (blk_cell BK225.out 1).trans rfl, (blk_cell BK225.out 2).trans rfl, (blk_cell BK225.out 3).trans rfl⟩ (fun hHeld => ?_)
                 clear hK K
                 refine norm_ (a' := ?_) ?_ ?_
                 rotate_left
                 ·show Act.put _ (some 59) _ = _
                  simp only [Act.put, List.setIfInBounds_toArray, List.set_cons_zero, List.set_cons_succ, i64_w, i32_w]
                  rfl
                 refine pure_ (i := 12) (N := some 60) (v := ?_) (a' := ?_) #[true, true, true, true, true, true, true, true, true, true, true, true, true, false, false, false, false, false, false, false, false, false, false, false, false, false, false, false, false, false, false, false, false, false, false, false, false, false, false, false, false, false, false, false, false, false, false, false, false, false, false, false, false, false, false] rfl rfl (any_of HT_.out (by kernel_rfl)) (fun _ _ _ h => h) (Or.inl ⟨by rfl, ?_⟩) ?_ ?_
                 rotate_left
                 ·intro w'
                  go_simp
                  with_reducible rfl
                 rotate_left
                 ·simp only [Act.put, List.setIfInBounds_toArray, List.set_cons_zero, List.set_cons_succ, i64_w, i32_w]
                  rfl
                 refine pure_ (i := 13) (N := some 61) (v := ?_) (a' := ?_) #[true, true, true, true, true, true, true, true, true, true, true, true, true, true, false, false, false, false, false, false, false, false, false, false, false, false, false, false, false, false, false, false, false, false, false, false, false, false, false, false, false, false, false, false, false, false, false, false, false, false, false, false, false, false, false] rfl rfl (any_of HT_.out (by kernel_rfl)) (fun _ _ _ h => h) (Or.inl ⟨by rfl, ?_⟩) ?_ ?_
                 rotate_left
                 ·intro w'
                  go_simp
                  with_reducible rfl
                 rotate_left
                 ·simp only [Act.put, List.setIfInBounds_toArray, List.set_cons_zero, List.set_cons_succ, i64_w, i32_w]
                  rfl
                 refine pure_ (i := 14) (N := some 62) (v := ?_) (a' := ?_) #[true, true, true, true, true, true, true, true, true, true, true, true, true, true, true, false, false, false, false, false, false, false, false, false, false, false, false, false, false, false, false, false, false, false, false, false, false, false, false, false, false, false, false, false, false, false, false, false, false, false, false, false, false, false, false] rfl rfl (any_of HT_.out (by kernel_rfl)) (fun _ _ _ h => h) (Or.inl ⟨by rfl, ?_⟩) ?_ ?_
                 rotate_left
                 ·intro w'
                  go_simp
                  with_reducible rfl
                 rotate_left
                 ·simp only [Act.put, List.setIfInBounds_toArray, List.set_cons_zero, List.set_cons_succ, i64_w, i32_w]
                  rfl
                 refine pure_ (i := 15) (N := some 63) (v := ?_) (a' := ?_) #[true, true, true, true, true, true, true, true, true, true, true, true, true, true, true, true, false, false, false, false, false, false, false, false, false, false, false, false, false, false, false, false, false, false, false, false, false, false, false, false, false, false, false, false, false, false, false, false, false, false, false, false, false, false, false] rfl rfl (any_of HT_.out (by kernel_rfl)) (fun _ _ _ h => h) (Or.inl ⟨by rfl, ?_⟩) ?_ ?_
                 rotate_left
                 ·intro w'
                  go_simp
                  with_reducible rfl
                 rotate_left
                 ·simp only [Act.put, List.setIfInBounds_toArray, List.set_cons_zero, List.set_cons_succ, i64_w, i32_w]
                  rfl
                 refine pure_ (i := 16) (N := some 64) (v := ?_) (a' := ?_) #[true, true, true, true, true, true, true, true, true, true, true, true, true, true, true, true, true, false, false, false, false, false, false, false, false, false, false, false, false, false, false, false, false, false, false, false, false, false, false, false, false, false, false, false, false, false, false, false, false, false, false, false, false, false, false] rfl rfl (any_of HT_.out (by kernel_rfl)) (fun _ _ _ h => h) (Or.inl ⟨by rfl, ?_⟩) ?_ ?_
                 rotate_left
                 ·intro w'
                  go_simp
                  with_reducible rfl
                 rotate_left
                 ·simp only [Act.put, List.setIfInBounds_toArray, List.set_cons_zero, List.set_cons_succ, i64_w, i32_w]
                  rfl
                 refine pure_ (i := 17) (N := some 65) (v := ?_) (a' := ?_) #[true, true, true, true, true, true, true, true, true, true, true, true, true, true, true, true, true, true, false, false, false, false, false, false, false, false, false, false, false, false, false, false, false, false, false, false, false, false, false, false, false, false, false, false, false, false, false, false, false, false, false, false, false, false, false] rfl rfl (any_of HT_.out (by kernel_rfl)) (fun _ _ _ h => h) (Or.inl ⟨by rfl, ?_⟩) ?_ ?_
                 rotate_left
                 ·intro w'
                  go_simp
                  with_reducible rfl
                 rotate_left
                 ·simp only [Act.put, List.setIfInBounds_toArray, List.set_cons_zero, List.set_cons_succ, i64_w, i32_w]
                  rfl
                 refine pure_ (i := 18) (N := some 66) (v := ?_) (a' := ?_) #[true, true, true, true, true, true, true, true, true, true, true, true, true, true, true, true, true, true, true, false, false, false, false, false, false, false, false, false, false, false, false, false, false, false, false, false, false, false, false, false, false, false, false, false, false, false, false, false, false, false, false, false, false, false, false] rfl rfl (any_of HT_.out (by kernel_rfl)) (fun _ _ _ h => h) (Or.inl ⟨by rfl, ?_⟩) ?_ ?_
                 rotate_left
                 ·intro w'
                  go_simp
                  with_reducible rfl
                 rotate_left
                 ·simp only [Act.put, List.setIfInBounds_toArray, List.set_cons_zero, List.set_cons_succ, i64_w, i32_w]
                  rfl
                 refine one_ (i := 19) (N := some 67) #[true, true, true, true, true, true, true, true, true, true, true, true, true, true, true, true, true, true, true, true, false, false, false, false, false, false, false, false, false, false, false, false, false, false, false, false, false, false, false, false, false, false, false, false, false, false, false, false, false, false, false, false, false, false, false] rfl rfl (one_of HT_.out (by kernel_rfl)) (by decide) (fun K hK => ?_)
                 refine goes_ Try.func19 (by kernel_rfl) rfl #[.int .i64 t218] (by rfl) rfl rfl (by (try simp only [List.map_toArray, List.map_cons, List.map_nil]); first | done | rfl | (simp only [List.length_drop, List.length_take]; rfl)) ?_
                 with_reducible refine (watchwordlaw0_Num.calls t218 t239 _ A17.out).mono ?_
                 rintro e w' ⟨rfl, ⟨nd, rfl⟩⟩
                 refine ⟨_, rfl, ?_⟩
                 have p20 : 0 ≤ (10 : Int) := (by omega)
                 have q20 : 10 < t209.size := (by have : (10 : Int) < (t209.size : Int) := of_decide_eq_true (by first | (with_reducible assumption) | assumption); omega)
                 have hx20 : ∀ h : 10 < t209.size, ((t209[10]'h).toNat : Int) = bt t209 10 := bt_at t209 10
                 clear p20
                 have qi20 : (10 < (t209.size : Int)) = True := eq_true (of_decide_eq_true (by first | (with_reducible assumption) | assumption))
                 replace q20 := eq_true q20
                 have p22 : 0 ≤ (11 : Int) := (by omega)
                 have q22 : 11 < t209.size := (by have : (11 : Int) < (t209.size : Int) := of_decide_eq_true (by first | (with_reducible assumption) | assumption); omega)
                 have hx22 : ∀ h : 11 < t209.size, ((t209[11]'h).toNat : Int) = bt t209 11 := bt_at t209 11
                 clear p22
                 have qi22 : (11 < (t209.size : Int)) = True := eq_true (of_decide_eq_true (by first | (with_reducible assumption) | assumption))
                 replace q22 := eq_true q22
                 refine hK.out _ _ ⟨(blk_cell BK208.out 0).trans rfl, (blk_cell BK208.out 1).trans rfl, (blk_cell BK208.out 2).trans rfl, (blk_cell BK208.out 3).trans rfl, (blk_cell BK219.out 0).trans rfl, (blk_cell BK219.out 1).trans rfl, (blk_cell BK219.out 2).trans rfl, (blk_cell BK219.out 3).trans rfl, (blk_cell BK225.out 0).trans rfl, (blk_cell BK225.out 1).trans rfl, (blk_cell BK225.out 2).trans rfl, (blk_cell BK225.out 3).trans rfl⟩ (fun hHeld => ?_)
                 clear hK K
                 refine norm_ (a' := ?_) ?_ ?_
                 rotate_left
                 ·show Act.put _ (some 67) _ = _
                  simp only [Act.put, List.setIfInBounds_toArray, List.set_cons_zero, List.set_cons_succ, i64_w, i32_w]
                  rfl
                 refine pure_ (i := 20) (N := some 68) (v := ?_) (a' := ?_) #[true, true, true, true, true, true, true, true, true, true, true, true, true, true, true, true, true, true, true, true, true, false, false, false, false, false, false, false, false, false, false, false, false, false, false, false, false, false, false, false, false, false, false, false, false, false, false, false, false, false, false, false, false, false, false] rfl rfl (any_of HT_.out (by kernel_rfl)) (fun _ _ _ h => h) (Or.inl ⟨by rfl, ?_⟩) ?_ ?_
                 rotate_left
                 ·intro w'
                  go_simp
                  with_reducible rfl
                 rotate_left
                 ·simp only [Act.put, List.setIfInBounds_toArray, List.set_cons_zero, List.set_cons_succ, i64_w, i32_w]
                  rfl
                 refine pure_ (i := 21) (N := some 69) (v := ?_) (a' := ?_) #[true, true, true, true, true, true, true, true, true, true, true, true, true, true, true, true, true, true, true, true, true, true, false, false, false, false, false, false, false, false, false, false, false, false, false, false, false, false, false, false, false, false, false, false, false, false, false, false, false, false, false, false, false, false, false] rfl rfl (any_of HT_.out (by kernel_rfl)) (fun _ _ _ h => h) (Or.inl ⟨by rfl, ?_⟩) ?_ ?_
                 rotate_left
                 ·intro w'
                  go_simp
                  with_reducible rfl
                 rotate_left
                 ·simp only [Act.put, List.setIfInBounds_toArray, List.set_cons_zero, List.set_cons_succ, i64_w, i32_w]
                  rfl
                 refine pure_ (i := 22) (N := some 70) (v := ?_) (a' := ?_) #[true, true, true, true, true, true, true, true, true, true, true, true, true, true, true, true, true, true, true, true, true, true, true, false, false, false, false, false, false, false, false, false, false, false, false, false, false, false, false, false, false, false, false, false, false, false, false, false, false, false, false, false, false, false, false] rfl rfl (any_of HT_.out (by kernel_rfl)) (fun _ _ _ h => h) (Or.inl ⟨by rfl, ?_⟩) ?_ ?_
                 rotate_left
                 ·intro w'
                  go_simp
                  with_reducible rfl
                 rotate_left
                 ·simp only [Act.put, List.setIfInBounds_toArray, List.set_cons_zero, List.set_cons_succ, i64_w, i32_w]
                  rfl
                 refine pure_ (i := 24) (N := some 72) (v := ?_) (a' := ?_) #[true, true, true, true, true, true, true, true, true, true, true, true, true, true, true, true, true, true, true, true, true, true, true, false, true, false, false, false, false, false, false, false, false, false, false, false, false, false, false, false, false, false, false, false, false, false, false, false, false, false, false, false, false, false, false] rfl rfl (any_of HT_.out (by kernel_rfl)) (fun _ _ _ h => h) (Or.inl ⟨by rfl, ?_⟩) ?_ ?_
                 rotate_left
                 ·intro w'
                  go_simp
                  with_reducible rfl
                 rotate_left
                 ·simp only [Act.put, List.setIfInBounds_toArray, List.set_cons_zero, List.set_cons_succ, i64_w, i32_w]
                  rfl
                 refine pure_ (i := 28) (N := some 76) (v := ?_) (a' := ?_) #[true, true, true, true, true, true, true, true, true, true, true, true, true, true, true, true, true, true, true, true, true, true, true, false, true, false, false, false, true, false, false, false, false, false, false, false, false, false, false, false, false, false, false, false, false, false, false, false, false, false, false, false, false, false, false] rfl rfl (any_of HT_.out (by kernel_rfl)) (fun _ _ _ h => h) (Or.inl ⟨by rfl, ?_⟩) ?_ ?_
                 rotate_left
                 ·intro w'
                  go_simp
                  with_reducible rfl
                 rotate_left
                 ·simp only [Act.put, List.setIfInBounds_toArray, List.set_cons_zero, List.set_cons_succ, i64_w, i32_w]
                  rfl
                 refine take_ (i := 23) (N := some 71) (v := ?_) (a' := ?_) #[true, true, true, true, true, true, true, true, true, true, true, true, true, true, true, true, true, true, true, true, true, true, true, true, true, false, false, false, true, false, false, false, false, false, false, false, false, false, false, false, false, false, false, false, false, false, false, false, false, false, false, false, false, false, false] rfl rfl (take_ofW HT_.out HW_.out (by kernel_rfl)) (fun _ _ _ h => h) (Or.inl ⟨by rfl, ?_⟩) hHeld ?_ ?_
                 rotate_left
                 ·rintro w' ⟨s0, s1, s2, s3, s4, s5, s6, s7, s8, s9, s10, s11⟩
                  go_simp
                  with_reducible rfl
                 rotate_left
                 ·simp only [Act.put, List.setIfInBounds_toArray, List.set_cons_zero, List.set_cons_succ, i64_w, i32_w]
                  rfl
                 refine take_ (i := 25) (N := some 73) (v := ?_) (a' := ?_) #[true, true, true, true, true, true, true, true, true, true, true, true, true, true, true, true, true, true, true, true, true, true, true, true, true, true, false, false, true, false, false, false, false, false, false, false, false, false, false, false, false, false, false, false, false, false, false, false, false, false, false, false, false, false, false] rfl rfl (take_ofW HT_.out HW_.out (by kernel_rfl)) (fun _ _ _ h => h) (Or.inl ⟨by rfl, ?_⟩) hHeld ?_ ?_
                 rotate_left
                 ·rintro w' ⟨s0, s1, s2, s3, s4, s5, s6, s7, s8, s9, s10, s11⟩
                  go_simp
                  with_reducible rfl
                 rotate_left
                 ·simp only [Act.put, List.setIfInBounds_toArray, List.set_cons_zero, List.set_cons_succ, i64_w, i32_w]
                  rfl
                 refine pure_ (i := 26) (N := some 74) (v := ?_) (a' := ?_) #[true, true, true, true, true, true, true, true, true, true, true, true, true, true, true, true, true, true, true, true, true, true, true, true, true, true, true, false, true, false, false, false, false, false, false, false, false, false, false, false, false, false, false, false, false, false, false, false, false, false, false, false, false, false, false] rfl rfl (any_of HT_.out (by kernel_rfl)) (fun _ _ _ h => h) (Or.inl ⟨by rfl, ?_⟩) ?_ ?_
                 rotate_left
                 ·intro w'
                  go_simp
                  with_reducible rfl
                 rotate_left
                 ·simp only [Act.put, List.setIfInBounds_toArray, List.set_cons_zero, List.set_cons_succ, i64_w, i32_w]
                  rfl
                 refine pure_ (i := 27) (N := some 75) (v := ?_) (a' := ?_) #[true, true, true, true, true, true, true, true, true, true, true, true, true, true, true, true, true, true, true, true, true, true, true, true, true, true, true, true, true, false, false, false, false, false, false, false, false, false, false, false, false, false, false, false, false, false, false, false, false, false, false, false, false, false, false] rfl rfl (any_of HT_.out (by kernel_rfl)) (fun _ _ _ h => h) (Or.inl ⟨by rfl, ?_⟩) ?_ ?_
                 rotate_left
                 ·intro w'
                  go_simp
                  with_reducible rfl
                 rotate_left
                 ·simp only [Act.put, List.setIfInBounds_toArray, List.set_cons_zero, List.set_cons_succ, i64_w, i32_w]
                  rfl
                 refine take_ (i := 29) (N := some 77) (v := ?_) (a' := ?_) #[true, true, true, true, true, true, true, true, true, true, true, true, true, true, true, true, true, true, true, true, true, true, true, true, true, true, true, true, true, true, false, false, false, false, false, false, false, false, false, false, false, false, false, false, false, false, false, false, false, false, false, false, false, false, false] rfl rfl (take_ofW HT_.out HW_.out (by kernel_rfl)) (fun _ _ _ h => h) (Or.inl ⟨by rfl, ?_⟩) hHeld ?_ ?_
                 rotate_left
                 ·rintro w' ⟨s0, s1, s2, s3, s4, s5, s6, s7, s8, s9, s10, s11⟩
                  go_simp
                  with_reducible rfl
                 rotate_left
                 ·simp only [Act.put, List.setIfInBounds_toArray, List.set_cons_zero, List.set_cons_succ, i64_w, i32_w]
                  rfl
                 refine pure_ (i := 30) (N := some 78) (v := ?_) (a' := ?_) #[true, true, true, true, true, true, true, true, true, true, true, true, true, true, true, true, true, true, true, true, true, true, true, true, true, true, true, true, true, true, true, false, false, false, false, false, false, false, false, false, false, false, false, false, false, false, false, false, false, false, false, false, false, false, false] rfl rfl (any_of HT_.out (by kernel_rfl)) (fun _ _ _ h => h) (Or.inl ⟨by rfl, ?_⟩) ?_ ?_
                 rotate_left
                 ·intro w'
                  go_simp
                  with_reducible rfl
                 rotate_left
                 ·simp only [Act.put, List.setIfInBounds_toArray, List.set_cons_zero, List.set_cons_succ, i64_w, i32_w]
                  rfl
                 refine pure_ (i := 31) (N := some 79) (v := ?_) (a' := ?_) #[true, true, true, true, true, true, true, true, true, true, true, true, true, true, true, true, true, true, true, true, true, true, true, true, true, true, true, true, true, true, true, true, false, false, false, false, false, false, false, false, false, false, false, false, false, false, false, false, false, false, false, false, false, false, false] rfl rfl (any_of HT_.out (by kernel_rfl)) (fun _ _ _ h => h) (Or.inl ⟨by rfl, ?_⟩) ?_ ?_
                 rotate_left
                 ·intro w'
                  go_simp
                  with_reducible rfl
                 rotate_left
                 ·simp only [Act.put, List.setIfInBounds_toArray, List.set_cons_zero, List.set_cons_succ, i64_w, i32_w]
                  rfl
                 refine pure_ (i := 32) (N := some 80) (v := ?_) (a' := ?_) #[true, true, true, true, true, true, true, true, true, true, true, true, true, true, true, true, true, true, true, true, true, true, true, true, true, true, true, true, true, true, true, true, true, false, false, false, false, false, false, false, false, false, false, false, false, false, false, false, false, false, false, false, false, false, false] rfl rfl (any_of HT_.out (by kernel_rfl)) (fun _ _ _ h => h) (Or.inl ⟨by rfl, ?_⟩) ?_ ?_
                 rotate_left
                 ·intro w'
                  go_simp
                  with_reducible rfl
                 rotate_left
                 ·simp only [Act.put, List.setIfInBounds_toArray, List.set_cons_zero, List.set_cons_succ, i64_w, i32_w]
                  rfl
                 refine pure_ (i := 33) (N := some 81) (v := ?_) (a' := ?_) #[true, true, true, true, true, true, true, true, true, true, true, true, true, true, true, true, true, true, true, true, true, true, true, true, true, true, true, true, true, true, true, true, true, true, false, false, false, false, false, false, false, false, false, false, false, false, false, false, false, false, false, false, false, false, false] rfl rfl (any_of HT_.out (by kernel_rfl)) (fun _ _ _ h => h) (Or.inl ⟨by rfl, ?_⟩) ?_ ?_
                 rotate_left
                 ·intro w'
                  go_simp
                  with_reducible rfl
                 rotate_left
                 ·simp only [Act.put, List.setIfInBounds_toArray, List.set_cons_zero, List.set_cons_succ, i64_w, i32_w]
                  rfl
                 refine pure_ (i := 34) (N := some 82) (v := ?_) (a' := ?_) #[true, true, true, true, true, true, true, true, true, true, true, true, true, true, true, true, true, true, true, true, true, true, true, true, true, true, true, true, true, true, true, true, true, true, true, false, false, false, false, false, false, false, false, false, false, false, false, false, false, false, false, false, false, false, false] rfl rfl (any_of HT_.out (by kernel_rfl)) (fun _ _ _ h => h) (Or.inl ⟨by rfl, ?_⟩) ?_ ?_
                 rotate_left
                 ·intro w'
                  go_simp
                  with_reducible rfl
                 rotate_left
                 ·simp only [Act.put, List.setIfInBounds_toArray, List.set_cons_zero, List.set_cons_succ, i64_w, i32_w]
                  rfl
                 refine pure_ (i := 35) (N := some 83) (v := ?_) (a' := ?_) #[true, true, true, true, true, true, true, true, true, true, true, true, true, true, true, true, true, true, true, true, true, true, true, true, true, true, true, true, true, true, true, true, true, true, true, true, false, false, false, false, false, false, false, false, false, false, false, false, false, false, false, false, false, false, false] rfl rfl (any_of HT_.out (by kernel_rfl)) (fun _ _ _ h => h) (Or.inl ⟨by rfl, ?_⟩) ?_ ?_
                 rotate_left
                 ·intro w'
                  go_simp
                  with_reducible rfl
                 rotate_left
                 ·simp only [Act.put, List.setIfInBounds_toArray, List.set_cons_zero, List.set_cons_succ, i64_w, i32_w]
                  rfl
                 refine pure_ (i := 36) (N := some 84) (v := ?_) (a' := ?_) #[true, true, true, true, true, true, true, true, true, true, true, true, true, true, true, true, true, true, true, true, true, true, true, true, true, true, true, true, true, true, true, true, true, true, true, true, true, false, false, false, false, false, false, false, false, false, false, false, false, false, false, false, false, false, false] rfl rfl (any_of HT_.out (by kernel_rfl)) (fun _ _ _ h => h) (Or.inl ⟨by rfl, ?_⟩) ?_ ?_
                 rotate_left
                 ·intro w'
                  go_simp
                  with_reducible rfl
                 rotate_left
                 ·simp only [Act.put, List.setIfInBounds_toArray, List.set_cons_zero, List.set_cons_succ, i64_w, i32_w]
                  rfl
                 refine one_ (i := 37) (N := some 85) #[true, true, true, true, true, true, true, true, true, true, true, true, true, true, true, true, true, true, true, true, true, true, true, true, true, true, true, true, true, true, true, true, true, true, true, true, true, true, false, false, false, false, false, false, false, false, false, false, false, false, false, false, false, false, false] rfl rfl (one_of HT_.out (by kernel_rfl)) (by decide) (fun K hK => ?_)
                 refine goes_ Try.func19 (by kernel_rfl) rfl #[.int .i64 t224] (by rfl) rfl rfl (by (try simp only [List.map_toArray, List.map_cons, List.map_nil]); first | done | rfl | (simp only [List.length_drop, List.length_take]; rfl)) ?_
                 with_reducible refine (watchwordlaw0_Num.calls t224 t240 _ A24.out).mono ?_
                 rintro e w' ⟨rfl, ⟨nd, rfl⟩⟩
                 refine ⟨_, rfl, ?_⟩
                 refine hK.out _ _ ⟨(blk_cell BK208.out 0).trans rfl, (blk_cell BK208.out 1).trans rfl, (blk_cell BK208.out 2).trans rfl, (blk_cell BK208.out 3).trans rfl, (blk_cell BK219.out 0).trans rfl, (blk_cell BK219.out 1).trans rfl, (blk_cell BK219.out 2).trans rfl, (blk_cell BK219.out 3).trans rfl, (blk_cell BK225.out 0).trans rfl, (blk_cell BK225.out 1).trans rfl, (blk_cell BK225.out 2).trans rfl, (blk_cell BK225.out 3).trans rfl⟩ (fun hHeld => ?_)
                 clear hK K
                 refine norm_ (a' := ?_) ?_ ?_
                 rotate_left
                 ·show Act.put _ (some 85) _ = _
                  simp only [Act.put, List.setIfInBounds_toArray, List.set_cons_zero, List.set_cons_succ, i64_w, i32_w]
                  rfl
                 refine pure_ (i := 38) (N := some 86) (v := ?_) (a' := ?_) #[true, true, true, true, true, true, true, true, true, true, true, true, true, true, true, true, true, true, true, true, true, true, true, true, true, true, true, true, true, true, true, true, true, true, true, true, true, true, true, false, false, false, false, false, false, false, false, false, false, false, false, false, false, false, false] rfl rfl (any_of HT_.out (by kernel_rfl)) (fun _ _ _ h => h) (Or.inl ⟨by rfl, ?_⟩) ?_ ?_
                 rotate_left
                 ·intro w'
                  go_simp
                  with_reducible rfl
                 rotate_left
                 ·simp only [Act.put, List.setIfInBounds_toArray, List.set_cons_zero, List.set_cons_succ, i64_w, i32_w]
                  rfl
                 refine pure_ (i := 39) (N := some 87) (v := ?_) (a' := ?_) #[true, true, true, true, true, true, true, true, true, true, true, true, true, true, true, true, true, true, true, true, true, true, true, true, true, true, true, true, true, true, true, true, true, true, true, true, true, true, true, true, false, false, false, false, false, false, false, false, false, false, false, false, false, false, false] rfl rfl (any_of HT_.out (by kernel_rfl)) (fun _ _ _ h => h) (Or.inl ⟨by rfl, ?_⟩) ?_ ?_
                 rotate_left
                 ·intro w'
                  go_simp
                  with_reducible rfl
                 rotate_left
                 ·simp only [Act.put, List.setIfInBounds_toArray, List.set_cons_zero, List.set_cons_succ, i64_w, i32_w]
                  rfl
                 refine pure_ (i := 40) (N := some 88) (v := ?_) (a' := ?_) #[true, true, true, true, true, true, true, true, true, true, true, true, true, true, true, true, true, true, true, true, true, true, true, true, true, true, true, true, true, true, true, true, true, true, true, true, true, true, true, true, true, false, false, false, false, false, false, false, false, false, false, false, false, false, false] rfl rfl (any_of HT_.out (by kernel_rfl)) (fun _ _ _ h => h) (Or.inl ⟨by rfl, ?_⟩) ?_ ?_
                 rotate_left
                 ·intro w'
                  go_simp
                  with_reducible rfl
                 rotate_left
                 ·simp only [Act.put, List.setIfInBounds_toArray, List.set_cons_zero, List.set_cons_succ, i64_w, i32_w]
                  rfl
                 refine pure_ (i := 41) (N := some 89) (v := ?_) (a' := ?_) #[true, true, true, true, true, true, true, true, true, true, true, true, true, true, true, true, true, true, true, true, true, true, true, true, true, true, true, true, true, true, true, true, true, true, true, true, true, true, true, true, true, true, false, false, false, false, false, false, false, false, false, false, false, false, false] rfl rfl (any_of HT_.out (by kernel_rfl)) (fun _ _ _ h => h) (Or.inl ⟨by rfl, ?_⟩) ?_ ?_
                 rotate_left
                 ·intro w'
                  go_simp
                  with_reducible rfl
                 rotate_left
                 ·simp only [Act.put, List.setIfInBounds_toArray, List.set_cons_zero, List.set_cons_succ, i64_w, i32_w]
                  rfl
                 refine one_ (i := 42) (N := some 90) #[true, true, true, true, true, true, true, true, true, true, true, true, true, true, true, true, true, true, true, true, true, true, true, true, true, true, true, true, true, true, true, true, true, true, true, true, true, true, true, true, true, true, true, false, false, false, false, false, false, false, false, false, false, false, false] rfl rfl (one_of HT_.out (by kernel_rfl)) (by decide) (fun K hK => ?_)
                 refine goes_ Try.func19 (by kernel_rfl) rfl #[.int .i64 t227] (by rfl) rfl rfl (by (try simp only [List.map_toArray, List.map_cons, List.map_nil]); first | done | rfl | (simp only [List.length_drop, List.length_take]; rfl)) ?_
                 with_reducible refine (watchwordlaw0_Num.calls t227 t241 _ A26.out).mono ?_
                 rintro e w' ⟨rfl, ⟨nd, rfl⟩⟩
                 refine ⟨_, rfl, ?_⟩
                 refine hK.out _ _ ⟨(blk_cell BK208.out 0).trans rfl, (blk_cell BK208.out 1).trans rfl, (blk_cell BK208.out 2).trans rfl, (blk_cell BK208.out 3).trans rfl, (blk_cell BK219.out 0).trans rfl, (blk_cell BK219.out 1).trans rfl, (blk_cell BK219.out 2).trans rfl, (blk_cell BK219.out 3).trans rfl, (blk_cell BK225.out 0).trans rfl, (blk_cell BK225.out 1).trans rfl, (blk_cell BK225.out 2).trans rfl, (blk_cell BK225.out 3).trans rfl⟩ (fun hHeld => ?_)
                 clear hK K
                 refine norm_ (a' := ?_) ?_ ?_
                 rotate_left
                 ·show Act.put _ (some 90) _ = _
                  simp only [Act.put, List.setIfInBounds_toArray, List.set_cons_zero, List.set_cons_succ, i64_w, i32_w]
                  rfl
                 refine pure_ (i := 43) (N := some 91) (v := ?_) (a' := ?_) #[true, true, true, true, true, true, true, true, true, true, true, true, true, true, true, true, true, true, true, true, true, true, true, true, true, true, true, true, true, true, true, true, true, true, true, true, true, true, true, true, true, true, true, true, false, false, false, false, false, false, false, false, false, false, false] rfl rfl (any_of HT_.out (by kernel_rfl)) (fun _ _ _ h => h) (Or.inl ⟨by rfl, ?_⟩) ?_ ?_
                 rotate_left
                 ·intro w'
                  go_simp
                  with_reducible rfl
                 rotate_left
                 ·simp only [Act.put, List.setIfInBounds_toArray, List.set_cons_zero, List.set_cons_succ, i64_w, i32_w]
                  rfl
                 refine pure_ (i := 44) (N := some 92) (v := ?_) (a' := ?_) #[true, true, true, true, true, true, true, true, true, true, true, true, true, true, true, true, true, true, true, true, true, true, true, true, true, true, true, true, true, true, true, true, true, true, true, true, true, true, true, true, true, true, true, true, true, false, false, false, false, false, false, false, false, false, false] rfl rfl (any_of HT_.out (by kernel_rfl)) (fun _ _ _ h => h) (Or.inl ⟨by rfl, ?_⟩) ?_ ?_
                 rotate_left
                 ·intro w'
                  go_simp
                  with_reducible rfl
                 rotate_left
                 ·simp only [Act.put, List.setIfInBounds_toArray, List.set_cons_zero, List.set_cons_succ, i64_w, i32_w]
                  rfl
                 refine pure_ (i := 45) (N := some 93) (v := ?_) (a' := ?_) #[true, true, true, true, true, true, true, true, true, true, true, true, true, true, true, true, true, true, true, true, true, true, true, true, true, true, true, true, true, true, true, true, true, true, true, true, true, true, true, true, true, true, true, true, true, true, false, false, false, false, false, false, false, false, false] rfl rfl (any_of HT_.out (by kernel_rfl)) (fun _ _ _ h => h) (Or.inl ⟨by rfl, ?_⟩) ?_ ?_
                 rotate_left
                 ·intro w'
                  go_simp
                  with_reducible rfl
                 rotate_left
                 ·simp only [Act.put, List.setIfInBounds_toArray, List.set_cons_zero, List.set_cons_succ, i64_w, i32_w]
                  rfl
                 refine pure_ (i := 46) (N := some 94) (v := ?_) (a' := ?_) #[true, true, true, true, true, true, true, true, true, true, true, true, true, true, true, true, true, true, true, true, true, true, true, true, true, true, true, true, true, true, true, true, true, true, true, true, true, true, true, true, true, true, true, true, true, true, true, false, false, false, false, false, false, false, false] rfl rfl (any_of HT_.out (by kernel_rfl)) (fun _ _ _ h => h) (Or.inl ⟨by rfl, ?_⟩) ?_ ?_
                 rotate_left
                 ·intro w'
                  go_simp
                  with_reducible rfl
                 rotate_left
                 ·simp only [Act.put, List.setIfInBounds_toArray, List.set_cons_zero, List.set_cons_succ, i64_w, i32_w]
                  rfl
                 refine one_ (i := 47) (N := some 95) #[true, true, true, true, true, true, true, true, true, true, true, true, true, true, true, true, true, true, true, true, true, true, true, true, true, true, true, true, true, true, true, true, true, true, true, true, true, true, true, true, true, true, true, true, true, true, true, true, false, false, false, false, false, false, false] rfl rfl (one_of HT_.out (by kernel_rfl)) (by decide) (fun K hK => ?_)
                 refine goes_ Try.func19 (by kernel_rfl) rfl #[.int .i64 t235] (by rfl) rfl rfl (by (try simp only [List.map_toArray, List.map_cons, List.map_nil]); first | done | rfl | (simp only [List.length_drop, List.length_take]; rfl)) ?_
                 with_reducible refine (watchwordlaw0_Num.calls t235 t242 _ A28.out).mono ?_
                 rintro e w' ⟨rfl, ⟨nd, rfl⟩⟩
                 refine ⟨_, rfl, ?_⟩
                 refine hK.out _ _ ⟨(blk_cell BK208.out 0).trans rfl, (blk_cell BK208.out 1).trans rfl, (blk_cell BK208.out 2).trans rfl, (blk_cell BK208.out 3).trans rfl, (blk_cell BK219.out 0).trans rfl, (blk_cell BK219.out 1).trans rfl, (blk_cell BK219.out 2).trans rfl, (blk_cell BK219.out 3).trans rfl, (blk_cell BK225.out 0).trans rfl, (blk_cell BK225.out 1).trans rfl, (blk_cell BK225.out 2).trans rfl, (blk_cell BK225.out 3).trans rfl⟩ (fun hHeld => ?_)
                 clear hK K
                 refine norm_ (a' := ?_) ?_ ?_
                 rotate_left
                 ·show Act.put _ (some 95) _ = _
                  simp only [Act.put, List.setIfInBounds_toArray, List.set_cons_zero, List.set_cons_succ, i64_w, i32_w]
                  rfl
                 refine pure_ (i := 48) (N := some 96) (v := ?_) (a' := ?_) #[true, true, true, true, true, true, true, true, true, true, true, true, true, true, true, true, true, true, true, true, true, true, true, true, true, true, true, true, true, true, true, true, true, true, true, true, true, true, true, true, true, true, true, true, true, true, true, true, true, false, false, false, false, false, false] rfl rfl (any_of HT_.out (by kernel_rfl)) (fun _ _ _ h => h) (Or.inl ⟨by rfl, ?_⟩) ?_ ?_
                 rotate_left
                 ·intro w'
                  go_simp
                  with_reducible rfl
                 rotate_left
                 ·simp only [Act.put, List.setIfInBounds_toArray, List.set_cons_zero, List.set_cons_succ, i64_w, i32_w]
                  rfl
                 refine pure_ (i := 49) (N := some 97) (v := ?_) (a' := ?_) #[true, true, true, true, true, true, true, true, true, true, true, true, true, true, true, true, true, true, true, true, true, true, true, true, true, true, true, true, true, true, true, true, true, true, true, true, true, true, true, true, true, true, true, true, true, true, true, true, true, true, false, false, false, false, false] rfl rfl (any_of HT_.out (by kernel_rfl)) (fun _ _ _ h => h) (Or.inl ⟨by rfl, ?_⟩) ?_ ?_
                 rotate_left
                 ·intro w'
                  go_simp
                  with_reducible rfl
                 rotate_left
                 ·simp only [Act.put, List.setIfInBounds_toArray, List.set_cons_zero, List.set_cons_succ, i64_w, i32_w]
                  rfl
                 refine pure_ (i := 50) (N := some 98) (v := ?_) (a' := ?_) #[true, true, true, true, true, true, true, true, true, true, true, true, true, true, true, true, true, true, true, true, true, true, true, true, true, true, true, true, true, true, true, true, true, true, true, true, true, true, true, true, true, true, true, true, true, true, true, true, true, true, true, false, false, false, false] rfl rfl (any_of HT_.out (by kernel_rfl)) (fun _ _ _ h => h) (Or.inl ⟨by rfl, ?_⟩) ?_ ?_
                 rotate_left
                 ·intro w'
                  go_simp
                  with_reducible rfl
                 rotate_left
                 ·simp only [Act.put, List.setIfInBounds_toArray, List.set_cons_zero, List.set_cons_succ, i64_w, i32_w]
                  rfl
                 refine take_ (i := 51) (N := some 99) (v := ?_) (a' := ?_) #[true, true, true, true, true, true, true, true, true, true, true, true, true, true, true, true, true, true, true, true, true, true, true, true, true, true, true, true, true, true, true, true, true, true, true, true, true, true, true, true, true, true, true, true, true, true, true, true, true, true, true, true, false, false, false] rfl rfl (take_ofW HT_.out HW_.out (by kernel_rfl)) (fun _ _ _ h => h) (Or.inl ⟨by rfl, ?_⟩) hHeld ?_ ?_
                 rotate_left
                 ·rintro w' ⟨s0, s1, s2, s3, s4, s5, s6, s7, s8, s9, s10, s11⟩
                  go_simp
                  with_reducible rfl
                 rotate_left
                 ·simp only [Act.put, List.setIfInBounds_toArray, List.set_cons_zero, List.set_cons_succ, i64_w, i32_w]
                  rfl
                 refine one_ (i := 52) (N := some 100) #[true, true, true, true, true, true, true, true, true, true, true, true, true, true, true, true, true, true, true, true, true, true, true, true, true, true, true, true, true, true, true, true, true, true, true, true, true, true, true, true, true, true, true, true, true, true, true, true, true, true, true, true, true, false, false] rfl rfl (one_of HT_.out (by kernel_rfl)) (by decide) (fun K hK => ?_)
                 refine goes_ Try.func21 (by kernel_rfl) rfl #[.agg #[.int .i64 2, .int .i64 258, .int .i64 7, .slice Ao33 y205.length co33]] (by rfl) rfl rfl (by (try simp only [List.map_toArray, List.map_cons, List.map_nil]); first | done | rfl | (simp only [List.length_drop, List.length_take]; rfl)) ?_
                 with_reducible refine (lsa_May.calls k 2 258 7 _ _ y205 t243 _ ?side1 ?side2 A30.out).mono ?_
                 (case side1 => repeat (first | exact (Kd.R_reads' HO207.out).2.2 | (with_reducible refine Kd.C_alloc ?_ _) | (with_reducible refine Kd.C_drewN ?_ _) | (with_reducible refine Kd.C_drew ?_)))
                 (case side2 => exact (Kd.R_reads' HO207.out).2.1)
                 rintro e w59 ⟨rfl, hb⟩
                 refine ⟨_, rfl, ?_⟩
                 have n0_ := Aside0.mk (Kd.R_below (by (with_reducible repeat (first | apply Kd.R_alloc | apply Kd.R_drewN | apply Kd.R_drew)); exact HO207.out) hb)
                 have n1_ := Aside0.mk (Kd.R_below (by (with_reducible repeat (first | apply Kd.R_alloc | apply Kd.R_drewN | apply Kd.R_drew)); exact HO216.out) hb)
                 have n2_ := Aside0.mk (Kd.R_below (by (with_reducible repeat (first | apply Kd.R_alloc | apply Kd.R_drewN | apply Kd.R_drew)); exact HO233.out) hb)
                 have n3_ := Aside0.mk (blk_below (g := gb208) (o := .cells #[.int .i64 2, .int .i64 258, .int .i64 7, .slice Ao33 y205.length co33] 24 (0, 0)) (by (with_reducible repeat (first | refine blk_drewN ?_ _ | refine blk_drew ?_ | refine blk_alloc ?_ _)); exact BK208.out) hb)
                 have n4_ := Aside0.mk (blk_below (g := gb219) (o := .cells #[.int .i64 t211, .int .i64 t212, .int .i64 t213, .slice Ao41 t214.length co41] 24 (0, 0)) (by (with_reducible repeat (first | refine blk_drewN ?_ _ | refine blk_drew ?_ | refine blk_alloc ?_ _)); exact BK219.out) hb)
                 have n5_ := Aside0.mk (blk_below (g := gb225) (o := .cells #[.int .i64 t220, .int .i64 t221, .int .i64 t222, .int .i64 t223] 36 (0, 0)) (by (with_reducible repeat (first | refine blk_drewN ?_ _ | refine blk_drew ?_ | refine blk_alloc ?_ _)); exact BK225.out) hb)
                 have n6_ := Aside0.mk (blk_below (g := gb236) (o := .cells #[.int .i64 t228, .int .i64 t229, .int .i64 t230, .slice Ao55 t231.length co55] 24 (0, 0)) (by (with_reducible repeat (first | refine blk_drewN ?_ _ | refine blk_drew ?_ | refine blk_alloc ?_ _)); exact BK236.out) hb)
                 have n7_ := Aside0.mk (below_step (by repeat (first | (with_reducible first | exact HB.out | apply below_alloc | apply pw_below_drewN | apply below_drew1 | refine below_set ?_ GE208.out | refine below_set ?_ GE219.out | refine below_set ?_ GE225.out | refine below_set ?_ GE236.out) | exact HB.out)) hb)
                 clear HO207
                 clear HO216
                 clear HO233
                 clear BK208
                 clear BK219
                 clear BK225
                 clear BK236
                 clear HB
                 have HO207 := n0_
                 have HO216 := n1_
                 have HO233 := n2_
                 have BK208 := n3_
                 have BK219 := n4_
                 have BK225 := n5_
                 have BK236 := n6_
                 have HB := n7_
                 clear n0_ n1_ n2_ n3_ n4_ n5_ n6_ n7_
                 (try clear hb)
                 (try clear hb2)
                 (try clear hk)
                 (try clear hi)
                 refine hK.out _ _ ⟨(blk_cell BK208.out 0).trans rfl, (blk_cell BK208.out 1).trans rfl, (blk_cell BK208.out 2).trans rfl, (blk_cell BK208.out 3).trans rfl, (blk_cell BK219.out 0).trans rfl, (blk_cell BK219.out 1).trans rfl, (blk_cell BK219.out 2).trans rfl, (blk_cell BK219.out 3).trans rfl, (blk_cell BK225.out 0).trans rfl, (blk_cell BK225.out 1).trans rfl, (blk_cell BK225.out 2).trans rfl, (blk_cell BK225.out 3).trans rfl⟩ (fun hHeld => ?_)
                 clear hK K
                 refine norm_ (a' := ?_) ?_ ?_
                 rotate_left
                 ·show Act.put _ (some 100) _ = _
                  simp only [Act.put, List.setIfInBounds_toArray, List.set_cons_zero, List.set_cons_succ, i64_w, i32_w]
                  rfl
                 refine pure_ (i := 53) (N := some 101) (v := ?_) (a' := ?_) #[true, true, true, true, true, true, true, true, true, true, true, true, true, true, true, true, true, true, true, true, true, true, true, true, true, true, true, true, true, true, true, true, true, true, true, true, true, true, true, true, true, true, true, true, true, true, true, true, true, true, true, true, true, true, false] rfl rfl (any_of HT_.out (by kernel_rfl)) (fun _ _ _ h => h) (Or.inl ⟨by rfl, ?_⟩) ?_ ?_
                 rotate_left
                 ·intro w'
                  go_simp
                  with_reducible rfl
                 rotate_left
                 ·simp only [Act.put, List.setIfInBounds_toArray, List.set_cons_zero, List.set_cons_succ, i64_w, i32_w]
                  rfl
                 refine pure_ (i := 54) (N := some 0) (v := ?_) (a' := ?_) #[true, true, true, true, true, true, true, true, true, true, true, true, true, true, true, true, true, true, true, true, true, true, true, true, true, true, true, true, true, true, true, true, true, true, true, true, true, true, true, true, true, true, true, true, true, true, true, true, true, true, true, true, true, true, true] rfl rfl (any_of HT_.out (by kernel_rfl)) (fun _ _ _ h => h) (Or.inl ⟨by rfl, ?_⟩) ?_ ?_
                 rotate_left
                 ·intro w'
                  go_simp
                  with_reducible rfl
                 rotate_left
                 ·simp only [Act.put, List.setIfInBounds_toArray, List.set_cons_zero, List.set_cons_succ, i64_w, i32_w]
                  rfl
                 refine done_ (done_of HT_.out (by kernel_rfl)) ?_
                 try go_wp2
                 go_ret
                 exact ⟨by first | rfl | (simp [errW_none, errW_some] <;> rfl) | (simp [*, errW_none, errW_some] <;> rfl), by repeat (first | (with_reducible first | exact HB.out | apply below_alloc | apply pw_below_drewN | apply below_drew1 | refine below_set ?_ GE208.out | refine below_set ?_ GE219.out | refine below_set ?_ GE225.out | refine below_set ?_ GE236.out) | exact HB.out)⟩
                ·rw [if_neg c29] at H
                 have c29b0 : (t242 == 700) = false := beq_eq_false_iff_ne.mpr c29
                 have c29b1 : (t242 != 700) = true := bne_iff_ne.mpr c29
                 exact absurd (Option.some.inj H) (by rw [HT.out]; decide)
               ·rw [if_neg c27] at H
                have c27b0 : (t241 == 700) = false := beq_eq_false_iff_ne.mpr c27
                have c27b1 : (t241 != 700) = true := bne_iff_ne.mpr c27
                exact absurd (Option.some.inj H) (by rw [HT.out]; decide)
              ·rw [if_neg c25] at H
               have c25b0 : (t240 == 0) = false := beq_eq_false_iff_ne.mpr c25
               have c25b1 : (t240 != 0) = true := bne_iff_ne.mpr c25
               exact absurd (Option.some.inj H) (by rw [HT.out]; decide)
             ·rw [if_neg c23] at H
              have c23b0 : (t220 == 2 && (t221 == 258 && (t222 == 7 && (t223 == (Go.bits .or .i64 (wrap64 ((wrap64 (bt t209 10)) * 256)) (wrap64 (bt t209 11))))))) = false := by simpa using c23
              (try (have c23b1 : decide (t220 = 2 && (t221 == 258 && (t222 == 7 && (t223 == (Go.bits .or .i64 (wrap64 ((wrap64 (bt t209 10)) * 256)) (wrap64 (bt t209 11))))))) = false := by simpa using c23))
              (try (have c23b2 : (t220 == 2 && (t221 == 258 && (t222 == 7 && (t223 == (Go.bits .or .i64 (wrap64 ((wrap64 (bt t209 10)) * 256)) (wrap64 (bt t209 11))))))) = false := by simpa using c23))
              (try (have c23b3 : ¬ (t220 = 2 && (t221 == 258 && (t222 == 7 && (t223 == (Go.bits .or .i64 (wrap64 ((wrap64 (bt t209 10)) * 256)) (wrap64 (bt t209 11))))))) := by simpa using c23))
              clear c23
              exact absurd (Option.some.inj H) (by rw [HT.out]; decide)
            ·rw [if_neg c21] at H
             exact absurd H (by simp)
           ·rw [if_neg c19] at H
            exact absurd H (by simp)
          ·rw [if_neg c18] at H
           have c18b0 : (t239 == 0) = false := beq_eq_false_iff_ne.mpr c18
           have c18b1 : (t239 != 0) = true := bne_iff_ne.mpr c18
           exact absurd (Option.some.inj H) (by rw [HT.out]; decide)
         ·rw [if_neg c16] at H
          have c16b0 : (t217 == 14) = false := beq_eq_false_iff_ne.mpr c16
          have c16b1 : (t217 != 14) = true := bne_iff_ne.mpr c16
          exact absurd (Option.some.inj H) (by rw [HT.out]; decide)
        ·replace c15 := Bool.eq_false_iff.mpr c15
         subst c15
         have H1 : (some false) = some r := by rw [if_neg (show ¬ (false = true) by decide)] at H; exact H
         clear H
         have H := H1
         clear H1
         exact absurd (Option.some.inj H) (by rw [HT.out]; decide)
       ·rw [if_neg c13] at H
        have c13b0 : (t237 == 0) = false := beq_eq_false_iff_ne.mpr c13
        have c13b1 : (t237 != 0) = true := bne_iff_ne.mpr c13
        exact absurd (Option.some.inj H) (by rw [HT.out]; decide)
      ·rw [if_neg c11] at H
       have c11b0 : ((t209.extract 0 10).toList == ([7, 2, 0, 0, 1, 2, 1, 1, 0, 10] : List UInt8)) = false := beq_eq_false_iff_ne.mpr c11
       have c11b1 : ((t209.extract 0 10).toList != ([7, 2, 0, 0, 1, 2, 1, 1, 0, 10] : List UInt8)) = true := bne_iff_ne.mpr c11
       exact absurd (Option.some.inj H) (by rw [HT.out]; decide)
     ·rw [if_neg c10] at H
      exact absurd H (by simp)
    ·rw [if_neg c9] at H
     exact absurd H (by simp)
   ·rw [if_neg c8] at H
    have c8b0 : ((t209.size : Int) == 12) = false := beq_eq_false_iff_ne.mpr c8
    have c8b1 : ((t209.size : Int) != 12) = true := bne_iff_ne.mpr c8
    exact absurd (Option.some.inj H) (by rw [HT.out]; decide)
  ·rw [if_neg c3] at H
   exact absurd H (by simp)
 ·rw [if_neg c2] at H
  exact absurd H (by simp)

end Go.Proofs.Ytmcajcomoegkdaa.Q7
