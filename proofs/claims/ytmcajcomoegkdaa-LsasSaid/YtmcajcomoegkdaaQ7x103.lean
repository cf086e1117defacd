/- Written by a program of this session out of the print of the loaded functions: each Go function as a plain function, and that its call comes to it; for a law, the row out of its plain statement. -/
import Derived.Test.YtmcajcomoegkdaaZ7x0
import Derived.Test.YtmcajcomoegkdaaZ7x1
import Derived.Test.YtmcajcomoegkdaaZ7x4
import Derived.Test.YtmcajcomoegkdaaZ7x2
import Derived.Test.YtmcajcomoegkdaaZ7x3
namespace Go.Proofs.Ytmcajcomoegkdaa.Q7
open Go.RowKit Go.Proofs.YtmcajcomoegkdaaW.PrintWords Go.Proofs.YtmcajcomoegkdaaW.PrintLast Go.Proofs.YtmcajcomoegkdaaW.PrintMore
attribute [local go_sem] max2_int min2_int max_two min_two max_three min_three max_four min_four   -- for this text's walks alone
set_option linter.unusedVariables false
set_option linter.unusedSimpArgs false

attribute [local go_sem high] eqA36
/-! ### watchwordlaw7_Lsas: function 3 -/
def watchwordlaw7_Lsas.j0 : Nat → Bool → Int → Int → Int → List (S49) → Int → Int → Int → List (S49) → Int → Int → Int → List (S49) → Option (Bool)
 | 0, _, _, _, _, _, _, _, _, _, _, _, _, _ => none
 | k + 1, x101, x298000, x298001, x298002, x298003, x305000, x305001, x305002, x305003, x318000, x318001, x318002, x318003 => if x101 = true then (some false) else ((watchwordlaw0_SpoilLinks.f k x318003).bind fun t345 => ((watchwordlaw0_SameLsa.f k x305000 x305001 x305002 x305003 x298000 x298001 x298002 x298003).bind fun t346 => (if t346 = true then ((watchwordlaw7_awake.f k).bind fun t347 => (some t347)) else (some false))))
def watchwordlaw7_Lsas.f (k : Nat) (a0_0 : Int) (a0_1 : Int) (a0_2 : Int) (l0_3 : List (S49)) (a1 : ByteArray) (a2 : Int) : Option (Bool) := (watchwordlaw0_CopyLsa.f a0_0 a0_1 a0_2 l0_3).bind fun bt298 => ((lsa_Put.f k bt298.1 bt298.2.1 bt298.2.2.1 bt298.2.2.2).bind fun bt305 => ((watchwordref1_PutLsa.f k a0_0 a0_1 a0_2 l0_3).bind fun bt307 => ((lsa_Get.f k a1 a2).bind fun bt309 => ((watchwordref1_GetLsa.f k a1 a2).bind fun bt318 => ((lsa_Head.f k bt298.1 bt298.2.1 bt298.2.2.1 bt298.2.2.2).bind fun bt327 => ((watchwordref1_HeadOf.f k a0_0 a0_1 a0_2 l0_3).bind fun bt333 => (if bt305.1.toList = bt307.1.toList then ((watchwordlaw0_Num.f bt305.2).bind fun t339 => (if t339 = bt307.2 then ((watchwordlaw0_SameLsa.f k bt309.1 bt309.2.1 bt309.2.2.1 bt309.2.2.2.1 bt318.1 bt318.2.1 bt318.2.2.1 bt318.2.2.2.1).bind fun t340 => (if t340 = true then (if bt309.2.2.2.2.1 = bt318.2.2.2.2.1 then ((watchwordlaw0_Num.f bt309.2.2.2.2.2).bind fun t341 => (if t341 = bt318.2.2.2.2.2 then (if (!(bt327.1 == bt333.1) || (!(bt327.2.1 == bt333.2.1) || (!(bt327.2.2.1 == bt333.2.2.1) || (!(bt327.2.2.2.1 == bt333.2.2.2.1))))) = true then (watchwordlaw7_Lsas.j0 k true a0_0 a0_1 a0_2 l0_3 bt298.1 bt298.2.1 bt298.2.2.1 bt298.2.2.2 bt309.1 bt309.2.1 bt309.2.2.1 bt309.2.2.2.1) else ((watchwordlaw0_Num.f bt327.2.2.2.2).bind fun t342 => (if t342 = bt333.2.2.2.2 then ((lsa_May.f k bt298.1 bt298.2.1 bt298.2.2.1 bt298.2.2.2).bind fun t343 => ((watchwordref1_LsaMay.f k a0_0 a0_1 a0_2 l0_3).bind fun t344 => (watchwordlaw7_Lsas.j0 k (t343 != t344) a0_0 a0_1 a0_2 l0_3 bt298.1 bt298.2.1 bt298.2.2.1 bt298.2.2.2 bt309.1 bt309.2.1 bt309.2.2.1 bt309.2.2.2.1))) else (watchwordlaw7_Lsas.j0 k true a0_0 a0_1 a0_2 l0_3 bt298.1 bt298.2.1 bt298.2.2.1 bt298.2.2.2 bt309.1 bt309.2.1 bt309.2.2.1 bt309.2.2.2.1)))) else (watchwordlaw7_Lsas.j0 k true a0_0 a0_1 a0_2 l0_3 bt298.1 bt298.2.1 bt298.2.2.1 bt298.2.2.2 bt309.1 bt309.2.1 bt309.2.2.1 bt309.2.2.2.1))) else (watchwordlaw7_Lsas.j0 k true a0_0 a0_1 a0_2 l0_3 bt298.1 bt298.2.1 bt298.2.2.1 bt298.2.2.2 bt309.1 bt309.2.1 bt309.2.2.1 bt309.2.2.2.1)) else (watchwordlaw7_Lsas.j0 k true a0_0 a0_1 a0_2 l0_3 bt298.1 bt298.2.1 bt298.2.2.1 bt298.2.2.2 bt309.1 bt309.2.1 bt309.2.2.1 bt309.2.2.2.1))) else (watchwordlaw7_Lsas.j0 k true a0_0 a0_1 a0_2 l0_3 bt298.1 bt298.2.1 bt298.2.2.1 bt298.2.2.2 bt309.1 bt309.2.1 bt309.2.2.1 bt309.2.2.2.1))) else (watchwordlaw7_Lsas.j0 k true a0_0 a0_1 a0_2 l0_3 bt298.1 bt298.2.1 bt298.2.2.1 bt298.2.2.2 bt309.1 bt309.2.1 bt309.2.2.1 bt309.2.2.2.1))))))))
theorem watchwordlaw7_Lsas.mono_l : ∀ k, (∀ y0 y1 y2 y3 y4 y5 y6 y7 y8 y9 y10 y11 y12, LeO (watchwordlaw7_Lsas.j0 k y0 y1 y2 y3 y4 y5 y6 y7 y8 y9 y10 y11 y12) (watchwordlaw7_Lsas.j0 (k + 1) y0 y1 y2 y3 y4 y5 y6 y7 y8 y9 y10 y11 y12))
 | 0 => fun _ _ _ _ _ _ _ _ _ _ _ _ _ r h => by simp [watchwordlaw7_Lsas.j0] at h
 | k + 1 => by
  have ih0 := watchwordlaw7_Lsas.mono_l k
  ·intro y0 y1 y2 y3 y4 y5 y6 y7 y8 y9 y10 y11 y12
   unfold watchwordlaw7_Lsas.j0
   repeat' first
   | (with_reducible exact ih0 _ _ _ _ _ _ _ _ _ _ _ _ _)
   | (with_reducible exact lsa_Get.mono _ _ _)
   | (with_reducible exact lsa_Head.mono _ _ _ _ _)
   | (with_reducible exact lsa_May.mono _ _ _ _ _)
   | (with_reducible exact lsa_Put.mono _ _ _ _ _)
   | (with_reducible exact watchwordlaw0_SameLsa.mono _ _ _ _ _ _ _ _ _)
   | (with_reducible exact watchwordlaw0_SpoilLinks.mono _ _)
   | (with_reducible exact watchwordlaw7_awake.mono _)
   | (with_reducible exact watchwordref1_GetLsa.mono _ _ _)
   | (with_reducible exact watchwordref1_HeadOf.mono _ _ _ _ _)
   | (with_reducible exact watchwordref1_LsaMay.mono _ _ _ _ _)
   | (with_reducible exact watchwordref1_PutLsa.mono _ _ _ _ _)
   | (with_reducible exact LeO.refl _)
   | (with_reducible exact LeO.none _)
   | (with_reducible refine LeO.ite ?_ ?_)
   | (with_reducible refine LeO.bind ?_ (fun _ => ?_))
   | exact ih0 _ _ _ _ _ _ _ _ _ _ _ _ _
   | exact lsa_Get.mono _ _ _
   | exact lsa_Head.mono _ _ _ _ _
   | exact lsa_May.mono _ _ _ _ _
   | exact lsa_Put.mono _ _ _ _ _
   | exact watchwordlaw0_SameLsa.mono _ _ _ _ _ _ _ _ _
   | exact watchwordlaw0_SpoilLinks.mono _ _
   | exact watchwordlaw7_awake.mono _
   | exact watchwordref1_GetLsa.mono _ _ _
   | exact watchwordref1_HeadOf.mono _ _ _ _ _
   | exact watchwordref1_LsaMay.mono _ _ _ _ _
   | exact watchwordref1_PutLsa.mono _ _ _ _ _
   | exact LeO.none _
   | refine LeO.ite ?_ ?_
   | refine LeO.bind ?_ (fun _ => ?_)
theorem watchwordlaw7_Lsas.mono : ∀ a0 a1 a2 a3 a4 a5 k, LeO (watchwordlaw7_Lsas.f k a0 a1 a2 a3 a4 a5) (watchwordlaw7_Lsas.f (k + 1) a0 a1 a2 a3 a4 a5) := by
 intro a0 a1 a2 a3 a4 a5 k
 have ih0 := watchwordlaw7_Lsas.mono_l k
 unfold watchwordlaw7_Lsas.f
 repeat' first
   | (with_reducible exact ih0 _ _ _ _ _ _ _ _ _ _ _ _ _)
   | (with_reducible exact lsa_Get.mono _ _ _)
   | (with_reducible exact lsa_Head.mono _ _ _ _ _)
   | (with_reducible exact lsa_May.mono _ _ _ _ _)
   | (with_reducible exact lsa_Put.mono _ _ _ _ _)
   | (with_reducible exact watchwordlaw0_SameLsa.mono _ _ _ _ _ _ _ _ _)
   | (with_reducible exact watchwordlaw0_SpoilLinks.mono _ _)
   | (with_reducible exact watchwordlaw7_awake.mono _)
   | (with_reducible exact watchwordref1_GetLsa.mono _ _ _)
   | (with_reducible exact watchwordref1_HeadOf.mono _ _ _ _ _)
   | (with_reducible exact watchwordref1_LsaMay.mono _ _ _ _ _)
   | (with_reducible exact watchwordref1_PutLsa.mono _ _ _ _ _)
   | (with_reducible exact LeO.refl _)
   | (with_reducible exact LeO.none _)
   | (with_reducible refine LeO.ite ?_ ?_)
   | (with_reducible refine LeO.bind ?_ (fun _ => ?_))
   | exact ih0 _ _ _ _ _ _ _ _ _ _ _ _ _
   | exact lsa_Get.mono _ _ _
   | exact lsa_Head.mono _ _ _ _ _
   | exact lsa_May.mono _ _ _ _ _
   | exact lsa_Put.mono _ _ _ _ _
   | exact watchwordlaw0_SameLsa.mono _ _ _ _ _ _ _ _ _
   | exact watchwordlaw0_SpoilLinks.mono _ _
   | exact watchwordlaw7_awake.mono _
   | exact watchwordref1_GetLsa.mono _ _ _
   | exact watchwordref1_HeadOf.mono _ _ _ _ _
   | exact watchwordref1_LsaMay.mono _ _ _ _ _
   | exact watchwordref1_PutLsa.mono _ _ _ _ _
   | exact LeO.none _
   | refine LeO.ite ?_ ?_
   | refine LeO.bind ?_ (fun _ => ?_)
def watchwordlaw7_Lsas.T8 : Bool × List (List Nat × List Nat) := (true, [([], []), ([], []), ([0, 1], [0, 1]), ([2], [2]), ([3], [3]), ([4, 3, 3], [3, 4]), ([3], [3]), ([5, 6, 3], [3, 5, 6]), ([3, 7], [3, 7]), ([8, 5], [8]), ([9], [9]), ([9], [9]), ([10, 11, 9, 9], [9, 10, 11]), ([12, 9], [9, 12]), ([9, 13], [9, 13]), ([14, 12], [14]), ([15], [15]), ([15], [15]), ([16, 17, 15], [15, 16, 17]), ([15, 18], [15, 18]), ([19, 15], [19]), ([20], [20]), ([21, 20, 20], [20, 21]), ([20], [20]), ([22, 23, 20], [20, 22, 23]), ([20, 24], [20, 24]), ([25, 22], [25]), ([26], [26]), ([26], [26]), ([27, 28, 26], [26, 27, 28]), ([26, 29], [26, 29]), ([30, 26], [30]), ([31], [31]), ([32, 31, 31], [31, 32]), ([31], [31]), ([33, 34, 31], [31, 33, 34]), ([31, 35], [31, 35]), ([36, 33], [36]), ([37], [37]), ([38, 37, 37], [37, 38]), ([37], [37]), ([40, 39, 37], [37, 40]), ([39, 41, 37], [37, 39, 41]), ([37, 42], [37, 42])])
def watchwordlaw7_Lsas.B8 : List Nat := [0, 0, 3, 7, 15, 31, 15, 127, 255, 511, 1023, 1023, 4095, 8191, 16383, 32767, 65535, 65535, 262143, 524287, 1048575, 2097151, 4194303, 2097151, 16777215, 33554431, 67108863, 134217727, 134217727, 536870911, 1073741823, 2147483647, 4294967295, 8589934591, 4294967295, 34359738367, 68719476735, 137438953471, 274877906943, 549755813887, 274877906943, 2199023255551, 4398046511103, 8796093022207]
theorem watchwordlaw7_Lsas.tab8 : rtab .any (opsOf Try.f3 8) = watchwordlaw7_Lsas.T8 := by kernel_rfl
theorem watchwordlaw7_Lsas.bits8 : waitsOk watchwordlaw7_Lsas.T8.2 watchwordlaw7_Lsas.B8 = true := by kernel_rfl
set_option maxHeartbeats 8000000 in
set_option maxRecDepth 100000 in
theorem watchwordlaw7_Lsas.calls (k : Nat) (a0_0 : Int) (a0_1 : Int) (a0_2 : Int) (A0_3 : Option Addr) (c0_3 : Nat) (l0_3 : List (S49)) (a1 : ByteArray) (a2 : Int) (r : Bool) (w : World) (hr0_3 : Kd.C k49 w A0_3 l0_3.length l0_3) (hc0_3 : l0_3.length ≤ c0_3) (h : watchwordlaw7_Lsas.f k a0_0 a0_1 a0_2 l0_3 a1 a2 = some r) (hT : r = true) :
  Calls Try.prog 3 #[.agg #[.int .i64 a0_0, .int .i64 a0_1, .int .i64 a0_2, .slice A0_3 l0_3.length c0_3], .string a1, .int .i64 a2] w fun e w' => e = .returned (.bool r) ∧ Below w.heap.size w w' := by
 have hu24 := Try.underlying24
 have hu36 := Try.underlying36
 have HR0_3 := Aside0.mk hr0_3
 have HC0_3 := Aside0.mk hc0_3
 clear hr0_3 hc0_3
 have HB := Aside0.mk (Below.refl w.heap.size w)
 have HT := Aside0.mk hT
 clear hT
 have H : ((watchwordlaw0_CopyLsa.f a0_0 a0_1 a0_2 l0_3).bind fun bt298 => ((lsa_Put.f k bt298.1 bt298.2.1 bt298.2.2.1 bt298.2.2.2).bind fun bt305 => ((watchwordref1_PutLsa.f k a0_0 a0_1 a0_2 l0_3).bind fun bt307 => ((lsa_Get.f k a1 a2).bind fun bt309 => ((watchwordref1_GetLsa.f k a1 a2).bind fun bt318 => ((lsa_Head.f k bt298.1 bt298.2.1 bt298.2.2.1 bt298.2.2.2).bind fun bt327 => ((watchwordref1_HeadOf.f k a0_0 a0_1 a0_2 l0_3).bind fun bt333 => (if bt305.1.toList = bt307.1.toList then ((watchwordlaw0_Num.f bt305.2).bind fun t339 => (if t339 = bt307.2 then ((watchwordlaw0_SameLsa.f k bt309.1 bt309.2.1 bt309.2.2.1 bt309.2.2.2.1 bt318.1 bt318.2.1 bt318.2.2.1 bt318.2.2.2.1).bind fun t340 => (if t340 = true then (if bt309.2.2.2.2.1 = bt318.2.2.2.2.1 then ((watchwordlaw0_Num.f bt309.2.2.2.2.2).bind fun t341 => (if t341 = bt318.2.2.2.2.2 then (if (!(bt327.1 == bt333.1) || (!(bt327.2.1 == bt333.2.1) || (!(bt327.2.2.1 == bt333.2.2.1) || (!(bt327.2.2.2.1 == bt333.2.2.2.1))))) = true then (watchwordlaw7_Lsas.j0 k true a0_0 a0_1 a0_2 l0_3 bt298.1 bt298.2.1 bt298.2.2.1 bt298.2.2.2 bt309.1 bt309.2.1 bt309.2.2.1 bt309.2.2.2.1) else ((watchwordlaw0_Num.f bt327.2.2.2.2).bind fun t342 => (if t342 = bt333.2.2.2.2 then ((lsa_May.f k bt298.1 bt298.2.1 bt298.2.2.1 bt298.2.2.2).bind fun t343 => ((watchwordref1_LsaMay.f k a0_0 a0_1 a0_2 l0_3).bind fun t344 => (watchwordlaw7_Lsas.j0 k (t343 != t344) a0_0 a0_1 a0_2 l0_3 bt298.1 bt298.2.1 bt298.2.2.1 bt298.2.2.2 bt309.1 bt309.2.1 bt309.2.2.1 bt309.2.2.2.1))) else (watchwordlaw7_Lsas.j0 k true a0_0 a0_1 a0_2 l0_3 bt298.1 bt298.2.1 bt298.2.2.1 bt298.2.2.2 bt309.1 bt309.2.1 bt309.2.2.1 bt309.2.2.2.1)))) else (watchwordlaw7_Lsas.j0 k true a0_0 a0_1 a0_2 l0_3 bt298.1 bt298.2.1 bt298.2.2.1 bt298.2.2.2 bt309.1 bt309.2.1 bt309.2.2.1 bt309.2.2.2.1))) else (watchwordlaw7_Lsas.j0 k true a0_0 a0_1 a0_2 l0_3 bt298.1 bt298.2.1 bt298.2.2.1 bt298.2.2.2 bt309.1 bt309.2.1 bt309.2.2.1 bt309.2.2.2.1)) else (watchwordlaw7_Lsas.j0 k true a0_0 a0_1 a0_2 l0_3 bt298.1 bt298.2.1 bt298.2.2.1 bt298.2.2.2 bt309.1 bt309.2.1 bt309.2.2.1 bt309.2.2.2.1))) else (watchwordlaw7_Lsas.j0 k true a0_0 a0_1 a0_2 l0_3 bt298.1 bt298.2.1 bt298.2.2.1 bt298.2.2.2 bt309.1 bt309.2.1 bt309.2.2.1 bt309.2.2.2.1))) else (watchwordlaw7_Lsas.j0 k true a0_0 a0_1 a0_2 l0_3 bt298.1 bt298.2.1 bt298.2.2.1 bt298.2.2.2 bt309.1 bt309.2.1 bt309.2.2.1 bt309.2.2.2.1))))))))) = some r := h
 clear h
 replace H := Option.bind_eq_some_iff.mp H
 obtain ⟨⟨t298, t299, t300, t301⟩, A40, H⟩ := H
 replace H : ((lsa_Put.f k t298 t299 t300 t301).bind fun bt305 => ((watchwordref1_PutLsa.f k a0_0 a0_1 a0_2 l0_3).bind fun bt307 => ((lsa_Get.f k a1 a2).bind fun bt309 => ((watchwordref1_GetLsa.f k a1 a2).bind fun bt318 => ((lsa_Head.f k t298 t299 t300 t301).bind fun bt327 => ((watchwordref1_HeadOf.f k a0_0 a0_1 a0_2 l0_3).bind fun bt333 => (if bt305.1.toList = bt307.1.toList then ((watchwordlaw0_Num.f bt305.2).bind fun t339 => (if t339 = bt307.2 then ((watchwordlaw0_SameLsa.f k bt309.1 bt309.2.1 bt309.2.2.1 bt309.2.2.2.1 bt318.1 bt318.2.1 bt318.2.2.1 bt318.2.2.2.1).bind fun t340 => (if t340 = true then (if bt309.2.2.2.2.1 = bt318.2.2.2.2.1 then ((watchwordlaw0_Num.f bt309.2.2.2.2.2).bind fun t341 => (if t341 = bt318.2.2.2.2.2 then (if (!(bt327.1 == bt333.1) || (!(bt327.2.1 == bt333.2.1) || (!(bt327.2.2.1 == bt333.2.2.1) || (!(bt327.2.2.2.1 == bt333.2.2.2.1))))) = true then (watchwordlaw7_Lsas.j0 k true a0_0 a0_1 a0_2 l0_3 t298 t299 t300 t301 bt309.1 bt309.2.1 bt309.2.2.1 bt309.2.2.2.1) else ((watchwordlaw0_Num.f bt327.2.2.2.2).bind fun t342 => (if t342 = bt333.2.2.2.2 then ((lsa_May.f k t298 t299 t300 t301).bind fun t343 => ((watchwordref1_LsaMay.f k a0_0 a0_1 a0_2 l0_3).bind fun t344 => (watchwordlaw7_Lsas.j0 k (t343 != t344) a0_0 a0_1 a0_2 l0_3 t298 t299 t300 t301 bt309.1 bt309.2.1 bt309.2.2.1 bt309.2.2.2.1))) else (watchwordlaw7_Lsas.j0 k true a0_0 a0_1 a0_2 l0_3 t298 t299 t300 t301 bt309.1 bt309.2.1 bt309.2.2.1 bt309.2.2.2.1)))) else (watchwordlaw7_Lsas.j0 k true a0_0 a0_1 a0_2 l0_3 t298 t299 t300 t301 bt309.1 bt309.2.1 bt309.2.2.1 bt309.2.2.2.1))) else (watchwordlaw7_Lsas.j0 k true a0_0 a0_1 a0_2 l0_3 t298 t299 t300 t301 bt309.1 bt309.2.1 bt309.2.2.1 bt309.2.2.2.1)) else (watchwordlaw7_Lsas.j0 k true a0_0 a0_1 a0_2 l0_3 t298 t299 t300 t301 bt309.1 bt309.2.1 bt309.2.2.1 bt309.2.2.2.1))) else (watchwordlaw7_Lsas.j0 k true a0_0 a0_1 a0_2 l0_3 t298 t299 t300 t301 bt309.1 bt309.2.1 bt309.2.2.1 bt309.2.2.2.1))) else (watchwordlaw7_Lsas.j0 k true a0_0 a0_1 a0_2 l0_3 t298 t299 t300 t301 bt309.1 bt309.2.1 bt309.2.2.1 bt309.2.2.2.1)))))))) = some r := H
 have A4 := Aside0.mk A40
 clear A40
 replace H := Option.bind_eq_some_iff.mp H
 obtain ⟨⟨t305, t306⟩, A50, H⟩ := H
 replace H : ((watchwordref1_PutLsa.f k a0_0 a0_1 a0_2 l0_3).bind fun bt307 => ((lsa_Get.f k a1 a2).bind fun bt309 => ((watchwordref1_GetLsa.f k a1 a2).bind fun bt318 => ((lsa_Head.f k t298 t299 t300 t301).bind fun bt327 => ((watchwordref1_HeadOf.f k a0_0 a0_1 a0_2 l0_3).bind fun bt333 => (if t305.toList = bt307.1.toList then ((watchwordlaw0_Num.f t306).bind fun t339 => (if t339 = bt307.2 then ((watchwordlaw0_SameLsa.f k bt309.1 bt309.2.1 bt309.2.2.1 bt309.2.2.2.1 bt318.1 bt318.2.1 bt318.2.2.1 bt318.2.2.2.1).bind fun t340 => (if t340 = true then (if bt309.2.2.2.2.1 = bt318.2.2.2.2.1 then ((watchwordlaw0_Num.f bt309.2.2.2.2.2).bind fun t341 => (if t341 = bt318.2.2.2.2.2 then (if (!(bt327.1 == bt333.1) || (!(bt327.2.1 == bt333.2.1) || (!(bt327.2.2.1 == bt333.2.2.1) || (!(bt327.2.2.2.1 == bt333.2.2.2.1))))) = true then (watchwordlaw7_Lsas.j0 k true a0_0 a0_1 a0_2 l0_3 t298 t299 t300 t301 bt309.1 bt309.2.1 bt309.2.2.1 bt309.2.2.2.1) else ((watchwordlaw0_Num.f bt327.2.2.2.2).bind fun t342 => (if t342 = bt333.2.2.2.2 then ((lsa_May.f k t298 t299 t300 t301).bind fun t343 => ((watchwordref1_LsaMay.f k a0_0 a0_1 a0_2 l0_3).bind fun t344 => (watchwordlaw7_Lsas.j0 k (t343 != t344) a0_0 a0_1 a0_2 l0_3 t298 t299 t300 t301 bt309.1 bt309.2.1 bt309.2.2.1 bt309.2.2.2.1))) else (watchwordlaw7_Lsas.j0 k true a0_0 a0_1 a0_2 l0_3 t298 t299 t300 t301 bt309.1 bt309.2.1 bt309.2.2.1 bt309.2.2.2.1)))) else (watchwordlaw7_Lsas.j0 k true a0_0 a0_1 a0_2 l0_3 t298 t299 t300 t301 bt309.1 bt309.2.1 bt309.2.2.1 bt309.2.2.2.1))) else (watchwordlaw7_Lsas.j0 k true a0_0 a0_1 a0_2 l0_3 t298 t299 t300 t301 bt309.1 bt309.2.1 bt309.2.2.1 bt309.2.2.2.1)) else (watchwordlaw7_Lsas.j0 k true a0_0 a0_1 a0_2 l0_3 t298 t299 t300 t301 bt309.1 bt309.2.1 bt309.2.2.1 bt309.2.2.2.1))) else (watchwordlaw7_Lsas.j0 k true a0_0 a0_1 a0_2 l0_3 t298 t299 t300 t301 bt309.1 bt309.2.1 bt309.2.2.1 bt309.2.2.2.1))) else (watchwordlaw7_Lsas.j0 k true a0_0 a0_1 a0_2 l0_3 t298 t299 t300 t301 bt309.1 bt309.2.1 bt309.2.2.1 bt309.2.2.2.1))))))) = some r := H
 have A5 := Aside0.mk A50
 clear A50
 replace H := Option.bind_eq_some_iff.mp H
 obtain ⟨⟨t307, t308⟩, A60, H⟩ := H
 replace H : ((lsa_Get.f k a1 a2).bind fun bt309 => ((watchwordref1_GetLsa.f k a1 a2).bind fun bt318 => ((lsa_Head.f k t298 t299 t300 t301).bind fun bt327 => ((watchwordref1_HeadOf.f k a0_0 a0_1 a0_2 l0_3).bind fun bt333 => (if t305.toList = t307.toList then ((watchwordlaw0_Num.f t306).bind fun t339 => (if t339 = t308 then ((watchwordlaw0_SameLsa.f k bt309.1 bt309.2.1 bt309.2.2.1 bt309.2.2.2.1 bt318.1 bt318.2.1 bt318.2.2.1 bt318.2.2.2.1).bind fun t340 => (if t340 = true then (if bt309.2.2.2.2.1 = bt318.2.2.2.2.1 then ((watchwordlaw0_Num.f bt309.2.2.2.2.2).bind fun t341 => (if t341 = bt318.2.2.2.2.2 then (if (!(bt327.1 == bt333.1) || (!(bt327.2.1 == bt333.2.1) || (!(bt327.2.2.1 == bt333.2.2.1) || (!(bt327.2.2.2.1 == bt333.2.2.2.1))))) = true then (watchwordlaw7_Lsas.j0 k true a0_0 a0_1 a0_2 l0_3 t298 t299 t300 t301 bt309.1 bt309.2.1 bt309.2.2.1 bt309.2.2.2.1) else ((watchwordlaw0_Num.f bt327.2.2.2.2).bind fun t342 => (if t342 = bt333.2.2.2.2 then ((lsa_May.f k t298 t299 t300 t301).bind fun t343 => ((watchwordref1_LsaMay.f k a0_0 a0_1 a0_2 l0_3).bind fun t344 => (watchwordlaw7_Lsas.j0 k (t343 != t344) a0_0 a0_1 a0_2 l0_3 t298 t299 t300 t301 bt309.1 bt309.2.1 bt309.2.2.1 bt309.2.2.2.1))) else (watchwordlaw7_Lsas.j0 k true a0_0 a0_1 a0_2 l0_3 t298 t299 t300 t301 bt309.1 bt309.2.1 bt309.2.2.1 bt309.2.2.2.1)))) else (watchwordlaw7_Lsas.j0 k true a0_0 a0_1 a0_2 l0_3 t298 t299 t300 t301 bt309.1 bt309.2.1 bt309.2.2.1 bt309.2.2.2.1))) else (watchwordlaw7_Lsas.j0 k true a0_0 a0_1 a0_2 l0_3 t298 t299 t300 t301 bt309.1 bt309.2.1 bt309.2.2.1 bt309.2.2.2.1)) else (watchwordlaw7_Lsas.j0 k true a0_0 a0_1 a0_2 l0_3 t298 t299 t300 t301 bt309.1 bt309.2.1 bt309.2.2.1 bt309.2.2.2.1))) else (watchwordlaw7_Lsas.j0 k true a0_0 a0_1 a0_2 l0_3 t298 t299 t300 t301 bt309.1 bt309.2.1 bt309.2.2.1 bt309.2.2.2.1))) else (watchwordlaw7_Lsas.j0 k true a0_0 a0_1 a0_2 l0_3 t298 t299 t300 t301 bt309.1 bt309.2.1 bt309.2.2.1 bt309.2.2.2.1)))))) = some r := H
 have A6 := Aside0.mk A60
 clear A60
 replace H := Option.bind_eq_some_iff.mp H
 obtain ⟨⟨t309, t310, t311, t312, t315, t316⟩, A70, H⟩ := H
 replace H : ((watchwordref1_GetLsa.f k a1 a2).bind fun bt318 => ((lsa_Head.f k t298 t299 t300 t301).bind fun bt327 => ((watchwordref1_HeadOf.f k a0_0 a0_1 a0_2 l0_3).bind fun bt333 => (if t305.toList = t307.toList then ((watchwordlaw0_Num.f t306).bind fun t339 => (if t339 = t308 then ((watchwordlaw0_SameLsa.f k t309 t310 t311 t312 bt318.1 bt318.2.1 bt318.2.2.1 bt318.2.2.2.1).bind fun t340 => (if t340 = true then (if t315 = bt318.2.2.2.2.1 then ((watchwordlaw0_Num.f t316).bind fun t341 => (if t341 = bt318.2.2.2.2.2 then (if (!(bt327.1 == bt333.1) || (!(bt327.2.1 == bt333.2.1) || (!(bt327.2.2.1 == bt333.2.2.1) || (!(bt327.2.2.2.1 == bt333.2.2.2.1))))) = true then (watchwordlaw7_Lsas.j0 k true a0_0 a0_1 a0_2 l0_3 t298 t299 t300 t301 t309 t310 t311 t312) else ((watchwordlaw0_Num.f bt327.2.2.2.2).bind fun t342 => (if t342 = bt333.2.2.2.2 then ((lsa_May.f k t298 t299 t300 t301).bind fun t343 => ((watchwordref1_LsaMay.f k a0_0 a0_1 a0_2 l0_3).bind fun t344 => (watchwordlaw7_Lsas.j0 k (t343 != t344) a0_0 a0_1 a0_2 l0_3 t298 t299 t300 t301 t309 t310 t311 t312))) else (watchwordlaw7_Lsas.j0 k true a0_0 a0_1 a0_2 l0_3 t298 t299 t300 t301 t309 t310 t311 t312)))) else (watchwordlaw7_Lsas.j0 k true a0_0 a0_1 a0_2 l0_3 t298 t299 t300 t301 t309 t310 t311 t312))) else (watchwordlaw7_Lsas.j0 k true a0_0 a0_1 a0_2 l0_3 t298 t299 t300 t301 t309 t310 t311 t312)) else (watchwordlaw7_Lsas.j0 k true a0_0 a0_1 a0_2 l0_3 t298 t299 t300 t301 t309 t310 t311 t312))) else (watchwordlaw7_Lsas.j0 k true a0_0 a0_1 a0_2 l0_3 t298 t299 t300 t301 t309 t310 t311 t312))) else (watchwordlaw7_Lsas.j0 k true a0_0 a0_1 a0_2 l0_3 t298 t299 t300 t301 t309 t310 t311 t312))))) = some r := H
 have A7 := Aside0.mk A70
 clear A70
 replace H := Option.bind_eq_some_iff.mp H
 obtain ⟨⟨t318, t319, t320, t321, t324, t325⟩, A80, H⟩ := H
 replace H : ((lsa_Head.f k t298 t299 t300 t301).bind fun bt327 => ((watchwordref1_HeadOf.f k a0_0 a0_1 a0_2 l0_3).bind fun bt333 => (if t305.toList = t307.toList then ((watchwordlaw0_Num.f t306).bind fun t339 => (if t339 = t308 then ((watchwordlaw0_SameLsa.f k t309 t310 t311 t312 t318 t319 t320 t321).bind fun t340 => (if t340 = true then (if t315 = t324 then ((watchwordlaw0_Num.f t316).bind fun t341 => (if t341 = t325 then (if (!(bt327.1 == bt333.1) || (!(bt327.2.1 == bt333.2.1) || (!(bt327.2.2.1 == bt333.2.2.1) || (!(bt327.2.2.2.1 == bt333.2.2.2.1))))) = true then (watchwordlaw7_Lsas.j0 k true a0_0 a0_1 a0_2 l0_3 t298 t299 t300 t301 t309 t310 t311 t312) else ((watchwordlaw0_Num.f bt327.2.2.2.2).bind fun t342 => (if t342 = bt333.2.2.2.2 then ((lsa_May.f k t298 t299 t300 t301).bind fun t343 => ((watchwordref1_LsaMay.f k a0_0 a0_1 a0_2 l0_3).bind fun t344 => (watchwordlaw7_Lsas.j0 k (t343 != t344) a0_0 a0_1 a0_2 l0_3 t298 t299 t300 t301 t309 t310 t311 t312))) else (watchwordlaw7_Lsas.j0 k true a0_0 a0_1 a0_2 l0_3 t298 t299 t300 t301 t309 t310 t311 t312)))) else (watchwordlaw7_Lsas.j0 k true a0_0 a0_1 a0_2 l0_3 t298 t299 t300 t301 t309 t310 t311 t312))) else (watchwordlaw7_Lsas.j0 k true a0_0 a0_1 a0_2 l0_3 t298 t299 t300 t301 t309 t310 t311 t312)) else (watchwordlaw7_Lsas.j0 k true a0_0 a0_1 a0_2 l0_3 t298 t299 t300 t301 t309 t310 t311 t312))) else (watchwordlaw7_Lsas.j0 k true a0_0 a0_1 a0_2 l0_3 t298 t299 t300 t301 t309 t310 t311 t312))) else (watchwordlaw7_Lsas.j0 k true a0_0 a0_1 a0_2 l0_3 t298 t299 t300 t301 t309 t310 t311 t312)))) = some r := H
 have A8 := Aside0.mk A80
 clear A80
 replace H := Option.bind_eq_some_iff.mp H
 obtain ⟨⟨t327, t328, t329, t330, t331⟩, A90, H⟩ := H
 replace H : ((watchwordref1_HeadOf.f k a0_0 a0_1 a0_2 l0_3).bind fun bt333 => (if t305.toList = t307.toList then ((watchwordlaw0_Num.f t306).bind fun t339 => (if t339 = t308 then ((watchwordlaw0_SameLsa.f k t309 t310 t311 t312 t318 t319 t320 t321).bind fun t340 => (if t340 = true then (if t315 = t324 then ((watchwordlaw0_Num.f t316).bind fun t341 => (if t341 = t325 then (if (!(t327 == bt333.1) || (!(t328 == bt333.2.1) || (!(t329 == bt333.2.2.1) || (!(t330 == bt333.2.2.2.1))))) = true then (watchwordlaw7_Lsas.j0 k true a0_0 a0_1 a0_2 l0_3 t298 t299 t300 t301 t309 t310 t311 t312) else ((watchwordlaw0_Num.f t331).bind fun t342 => (if t342 = bt333.2.2.2.2 then ((lsa_May.f k t298 t299 t300 t301).bind fun t343 => ((watchwordref1_LsaMay.f k a0_0 a0_1 a0_2 l0_3).bind fun t344 => (watchwordlaw7_Lsas.j0 k (t343 != t344) a0_0 a0_1 a0_2 l0_3 t298 t299 t300 t301 t309 t310 t311 t312))) else (watchwordlaw7_Lsas.j0 k true a0_0 a0_1 a0_2 l0_3 t298 t299 t300 t301 t309 t310 t311 t312)))) else (watchwordlaw7_Lsas.j0 k true a0_0 a0_1 a0_2 l0_3 t298 t299 t300 t301 t309 t310 t311 t312))) else (watchwordlaw7_Lsas.j0 k true a0_0 a0_1 a0_2 l0_3 t298 t299 t300 t301 t309 t310 t311 t312)) else (watchwordlaw7_Lsas.j0 k true a0_0 a0_1 a0_2 l0_3 t298 t299 t300 t301 t309 t310 t311 t312))) else (watchwordlaw7_Lsas.j0 k true a0_0 a0_1 a0_2 l0_3 t298 t299 t300 t301 t309 t310 t311 t312))) else (watchwordlaw7_Lsas.j0 k true a0_0 a0_1 a0_2 l0_3 t298 t299 t300 t301 t309 t310 t311 t312))) = some r := H
 have A9 := Aside0.mk A90
 clear A90
 replace H := Option.bind_eq_some_iff.mp H
 obtain ⟨⟨t333, t334, t335, t336, t337⟩, A100, H⟩ := H
 replace H : (if t305.toList = t307.toList then ((watchwordlaw0_Num.f t306).bind fun t339 => (if t339 = t308 then ((watchwordlaw0_SameLsa.f k t309 t310 t311 t312 t318 t319 t320 t321).bind fun t340 => (if t340 = true then (if t315 = t324 then ((watchwordlaw0_Num.f t316).bind fun t341 => (if t341 = t325 then (if (!(t327 == t333) || (!(t328 == t334) || (!(t329 == t335) || (!(t330 == t336))))) = true then (watchwordlaw7_Lsas.j0 k true a0_0 a0_1 a0_2 l0_3 t298 t299 t300 t301 t309 t310 t311 t312) else ((watchwordlaw0_Num.f t331).bind fun t342 => (if t342 = t337 then ((lsa_May.f k t298 t299 t300 t301).bind fun t343 => ((watchwordref1_LsaMay.f k a0_0 a0_1 a0_2 l0_3).bind fun t344 => (watchwordlaw7_Lsas.j0 k (t343 != t344) a0_0 a0_1 a0_2 l0_3 t298 t299 t300 t301 t309 t310 t311 t312))) else (watchwordlaw7_Lsas.j0 k true a0_0 a0_1 a0_2 l0_3 t298 t299 t300 t301 t309 t310 t311 t312)))) else (watchwordlaw7_Lsas.j0 k true a0_0 a0_1 a0_2 l0_3 t298 t299 t300 t301 t309 t310 t311 t312))) else (watchwordlaw7_Lsas.j0 k true a0_0 a0_1 a0_2 l0_3 t298 t299 t300 t301 t309 t310 t311 t312)) else (watchwordlaw7_Lsas.j0 k true a0_0 a0_1 a0_2 l0_3 t298 t299 t300 t301 t309 t310 t311 t312))) else (watchwordlaw7_Lsas.j0 k true a0_0 a0_1 a0_2 l0_3 t298 t299 t300 t301 t309 t310 t311 t312))) else (watchwordlaw7_Lsas.j0 k true a0_0 a0_1 a0_2 l0_3 t298 t299 t300 t301 t309 t310 t311 t312)) = some r := H
 have A10 := Aside0.mk A100
 clear A100
 have HC11 := Aside0.mk H
 clear H
 go_enter Try.func3, Try.ntmps3
 go_upto_region 8 with (first | ((with_reducible refine gate_dst (N := 3) rfl ?_); refine box_event ?hg (N := 3) ?hd (cs := #[.int .i64 a0_0, .int .i64 a0_1, .int .i64 a0_2, .slice A0_3 l0_3.length c0_3]) (t := 24) ?hr ?_; (case hd => rfl); (case hg => rfl); (case hr => first | (go_simp; done) | (go_simp; rfl)); intro gb297 hg w12 hbox hb; have n0_ := Aside0.mk (below_step (by repeat (first | (with_reducible first | exact HB.out | apply below_alloc | apply pw_below_drewN | apply below_drew1) | exact HB.out)) hb); have n1_ := Aside0.mk (hbox); have n2_ := Aside0.mk ((by rw [hg]; exact (below_size (by repeat (first | (with_reducible first | exact HB.out | apply below_alloc | apply pw_below_drewN | apply below_drew1) | exact HB.out))) : w.heap.size ≤ gb297)); have n3_ := Aside0.mk ((by rw [hg]; exact (below_size (by repeat (first | (with_reducible first | exact HB.out | apply below_alloc | apply pw_below_drewN | apply below_drew1) | exact HB.out))) : w.heap.size ≤ gb297)); clear HB; have HB := n0_; have BK297 := n1_; have GW297 := n2_; have GE297 := n3_; clear n0_ n1_ n2_ n3_; clear hb hbox hg; have hcz13_0 : w12.cell? ⟨gb297, 0, none⟩ = some (.int .i64 a0_0) := (blk_cell BK297.out 0).trans rfl; have hcz13_1 : w12.cell? ⟨gb297, 1, none⟩ = some (.int .i64 a0_1) := (blk_cell BK297.out 1).trans rfl; have hcz13_2 : w12.cell? ⟨gb297, 2, none⟩ = some (.int .i64 a0_2) := (blk_cell BK297.out 2).trans rfl; have hcz13_3 : w12.cell? ⟨gb297, 3, none⟩ = some (.slice A0_3 l0_3.length c0_3) := (blk_cell BK297.out 3).trans rfl; have hfz13_0 := blk_frozen BK297.out 0; have hfz13_1 := blk_frozen BK297.out 1; have hfz13_2 := blk_frozen BK297.out 2; have hfz13_3 := blk_frozen BK297.out 3) | ((with_reducible refine gate_callee (f := 12) rfl ?_); refine goesL_ (some 23) rfl rfl Try.func12 (by kernel_rfl) rfl #[.agg #[.int .i64 a0_0, .int .i64 a0_1, .int .i64 a0_2, .slice A0_3 l0_3.length c0_3]] rfl (by (try simp only [List.map_toArray, List.map_cons, List.map_nil]); first | done | rfl | (simp only [List.length_drop, List.length_take]; rfl)) ?_; (with_reducible refine (watchwordlaw0_CopyLsa.calls a0_0 a0_1 a0_2 _ _ l0_3 t298 t299 t300 t301 _ ?side1 ?side2 A4.out).mono ?_); (case side1 => repeat (first | exact (Kd.C_below HR0_3.out HB.out) | (with_reducible refine Kd.C_alloc ?_ _) | (with_reducible refine Kd.C_drewN ?_ _) | (with_reducible refine Kd.C_drew ?_))); (case side2 => exact HC0_3.out); rintro e w14 ⟨v302, rfl, ho0, hb⟩; refine ⟨_, rfl, ?_⟩; have n0_ := Aside0.mk (Kd.R_lower ho0 (below_size (by repeat (first | (with_reducible first | exact HB.out | apply below_alloc | apply pw_below_drewN | apply below_drew1 | refine below_set ?_ GE297.out) | exact HB.out)))); have n1_ := Aside0.mk (blk_below (g := gb297) (o := .cells #[.int .i64 a0_0, .int .i64 a0_1, .int .i64 a0_2, .slice A0_3 l0_3.length c0_3] 24 (0, 0)) (by (with_reducible repeat (first | refine blk_drewN ?_ _ | refine blk_drew ?_ | refine blk_alloc ?_ _)); exact BK297.out) hb); have n2_ := Aside0.mk (below_step (by repeat (first | (with_reducible first | exact HB.out | apply below_alloc | apply pw_below_drewN | apply below_drew1 | refine below_set ?_ GE297.out) | exact HB.out)) hb); clear BK297; clear HB; have HO303 := n0_; have BK297 := n1_; have HB := n2_; clear n0_ n1_ n2_; (try clear hb); (try clear hb2); (try clear hk); (try clear hi); (try clear ho0)) | ((with_reducible refine gate_dst (N := 7) rfl ?_); refine box_event ?hg (N := 7) ?hd (cs := #[.int .i64 0, .int .i64 0, .int .i64 0, .slice none 0 0]) (t := 24) ?hr ?_; (case hd => rfl); (case hg => rfl); (case hr => first | (go_simp; done) | (go_simp; rfl)); intro gb304 hg w15 hbox hb; have n0_ := Aside0.mk (Kd.R_below (by (with_reducible repeat (first | apply Kd.R_alloc | apply Kd.R_drewN | apply Kd.R_drew)); exact HO303.out) hb); have n1_ := Aside0.mk (blk_below (g := gb297) (o := .cells #[.int .i64 a0_0, .int .i64 a0_1, .int .i64 a0_2, .slice A0_3 l0_3.length c0_3] 24 (0, 0)) (by (with_reducible repeat (first | refine blk_drewN ?_ _ | refine blk_drew ?_ | refine blk_alloc ?_ _)); exact BK297.out) hb); have n2_ := Aside0.mk (below_step (by repeat (first | (with_reducible first | exact HB.out | apply below_alloc | apply pw_below_drewN | apply below_drew1 | refine below_set ?_ GE297.out) | exact HB.out)) hb); have n3_ := Aside0.mk (hbox); have n4_ := Aside0.mk ((by rw [hg]; exact (below_size (by repeat (first | (with_reducible first | exact HB.out | apply below_alloc | apply pw_below_drewN | apply below_drew1 | refine below_set ?_ GE297.out) | exact HB.out))) : w.heap.size ≤ gb304)); have n5_ := Aside0.mk ((by rw [hg]; exact (below_size (by repeat (first | (with_reducible first | exact HB.out | apply below_alloc | apply pw_below_drewN | apply below_drew1 | refine below_set ?_ GE297.out) | exact HB.out))) : w.heap.size ≤ gb304)); have n6_ := Aside0.mk ((by rw [hg]; exact Nat.ne_of_lt (blk_lt (g := gb297) (o := .cells #[.int .i64 a0_0, .int .i64 a0_1, .int .i64 a0_2, .slice A0_3 l0_3.length c0_3] 24 (0, 0)) (by (with_reducible repeat (first | refine blk_drewN ?_ _ | refine blk_drew ?_ | refine blk_alloc ?_ _)); exact BK297.out)) : gb297 ≠ gb304)); have n7_ := Aside0.mk ((by rw [hg]; exact Nat.ne_of_gt (blk_lt (g := gb297) (o := .cells #[.int .i64 a0_0, .int .i64 a0_1, .int .i64 a0_2, .slice A0_3 l0_3.length c0_3] 24 (0, 0)) (by (with_reducible repeat (first | refine blk_drewN ?_ _ | refine blk_drew ?_ | refine blk_alloc ?_ _)); exact BK297.out)) : gb304 ≠ gb297)); clear HO303; clear BK297; clear HB; have HO303 := n0_; have BK297 := n1_; have HB := n2_; have BK304 := n3_; have GW304 := n4_; have GE304 := n5_; have NB297_304 := n6_; have NB304_297 := n7_; clear n0_ n1_ n2_ n3_ n4_ n5_ n6_ n7_; clear hb hbox hg; have hnb16 := NB304_297.out; have hnc16 := NB297_304.out; have hcz17_0 : w15.cell? ⟨gb304, 0, none⟩ = some (.int .i64 0) := (blk_cell BK304.out 0).trans rfl; have hcz17_1 : w15.cell? ⟨gb304, 1, none⟩ = some (.int .i64 0) := (blk_cell BK304.out 1).trans rfl; have hcz17_2 : w15.cell? ⟨gb304, 2, none⟩ = some (.int .i64 0) := (blk_cell BK304.out 2).trans rfl; have hcz17_3 : w15.cell? ⟨gb304, 3, none⟩ = some (.slice none 0 0) := (blk_cell BK304.out 3).trans rfl; have hfz17_0 := blk_frozen BK304.out 0; have hfz17_1 := blk_frozen BK304.out 1; have hfz17_2 := blk_frozen BK304.out 2; have hfz17_3 := blk_frozen BK304.out 3; obtain ⟨Ao18, co18, eo18⟩ := Kd.R_slice HO303.out; subst eo18) | ((with_reducible refine gate_callee (f := 13) rfl ?_); refine goesL_ (some 26) rfl rfl Try.func13 (by kernel_rfl) rfl #[.agg #[.int .i64 t298, .int .i64 t299, .int .i64 t300, .slice Ao18 t301.length co18]] rfl (by (try simp only [List.map_toArray, List.map_cons, List.map_nil]); first | done | rfl | (simp only [List.length_drop, List.length_take]; rfl)) ?_; (with_reducible refine (lsa_Put.calls k t298 t299 t300 _ _ t301 t305 t306 _ ?side1 ?side2 A5.out).mono ?_); (case side1 => refine (Kd.R_reads' (e := 49) (base := w.heap.size) (ok := fun k_ => True) (n := t301.length) (c := co18) ?_).2.2; exact (by (with_reducible repeat (first | apply Kd.R_alloc | apply Kd.R_drewN | apply Kd.R_drew)); exact (Kd.R_mono (Kd.R_far (p := ⟨gb304, 3, none⟩) (Kd.R_far (p := ⟨gb304, 2, none⟩) (Kd.R_far (p := ⟨gb304, 1, none⟩) (Kd.R_far (p := ⟨gb304, 0, none⟩) (Kd.R_types HO303.out BK304.out (by decide)) (fun _ hk => hk.2) (.int .i64 t298)) (fun _ hk => hk.2) (.int .i64 t299)) (fun _ hk => hk.2) (.int .i64 t300)) (fun _ hk => hk.2) (.slice Ao18 t301.length co18)) (fun _ h_ => h_.1)))); (case side2 => exact (Kd.R_reads' HO303.out).2.1); rintro e w19 ⟨rfl, hb⟩; refine ⟨_, rfl, ?_⟩; have n0_ := Aside0.mk (Kd.R_below (by (with_reducible repeat (first | apply Kd.R_alloc | apply Kd.R_drewN | apply Kd.R_drew)); exact (Kd.R_mono (Kd.R_far (p := ⟨gb304, 3, none⟩) (Kd.R_far (p := ⟨gb304, 2, none⟩) (Kd.R_far (p := ⟨gb304, 1, none⟩) (Kd.R_far (p := ⟨gb304, 0, none⟩) (Kd.R_types HO303.out BK304.out (by decide)) (fun _ hk => hk.2) (.int .i64 t298)) (fun _ hk => hk.2) (.int .i64 t299)) (fun _ hk => hk.2) (.int .i64 t300)) (fun _ hk => hk.2) (.slice Ao18 t301.length co18)) (fun _ h_ => h_.1))) hb); have n1_ := Aside0.mk (blk_below (g := gb297) (o := .cells #[.int .i64 a0_0, .int .i64 a0_1, .int .i64 a0_2, .slice A0_3 l0_3.length c0_3] 24 (0, 0)) (by (with_reducible repeat (first | refine blk_drewN ?_ _ | refine blk_drew ?_ | refine blk_alloc ?_ _)); refine blk_far ?_ NB297_304.out _; (with_reducible repeat (first | refine blk_drewN ?_ _ | refine blk_drew ?_ | refine blk_alloc ?_ _)); refine blk_far ?_ NB297_304.out _; (with_reducible repeat (first | refine blk_drewN ?_ _ | refine blk_drew ?_ | refine blk_alloc ?_ _)); refine blk_far ?_ NB297_304.out _; (with_reducible repeat (first | refine blk_drewN ?_ _ | refine blk_drew ?_ | refine blk_alloc ?_ _)); refine blk_far ?_ NB297_304.out _; (with_reducible repeat (first | refine blk_drewN ?_ _ | refine blk_drew ?_ | refine blk_alloc ?_ _)); exact BK297.out) hb); have n2_ := Aside0.mk (blk_below (g := gb304) (o := .cells #[.int .i64 t298, .int .i64 t299, .int .i64 t300, .slice Ao18 t301.length co18] 24 (0, 0)) (by (with_reducible repeat (first | refine blk_drewN ?_ _ | refine blk_drew ?_ | refine blk_alloc ?_ _)); refine blk_put (cs := #[.int .i64 t298, .int .i64 t299, .int .i64 t300, .slice none 0 0]) ?_ 3 _ rfl; (with_reducible repeat (first | refine blk_drewN ?_ _ | refine blk_drew ?_ | refine blk_alloc ?_ _)); refine blk_put (cs := #[.int .i64 t298, .int .i64 t299, .int .i64 0, .slice none 0 0]) ?_ 2 _ rfl; (with_reducible repeat (first | refine blk_drewN ?_ _ | refine blk_drew ?_ | refine blk_alloc ?_ _)); refine blk_put (cs := #[.int .i64 t298, .int .i64 0, .int .i64 0, .slice none 0 0]) ?_ 1 _ rfl; (with_reducible repeat (first | refine blk_drewN ?_ _ | refine blk_drew ?_ | refine blk_alloc ?_ _)); refine blk_put (cs := #[.int .i64 0, .int .i64 0, .int .i64 0, .slice none 0 0]) ?_ 0 _ rfl; (with_reducible repeat (first | refine blk_drewN ?_ _ | refine blk_drew ?_ | refine blk_alloc ?_ _)); exact BK304.out) hb); have n3_ := Aside0.mk (below_step (by repeat (first | (with_reducible first | exact HB.out | apply below_alloc | apply pw_below_drewN | apply below_drew1 | refine below_set ?_ GE297.out | refine below_set ?_ GE304.out) | exact HB.out)) hb); clear HO303; clear BK297; clear BK304; clear HB; have HO303 := n0_; have BK297 := n1_; have BK304 := n2_; have HB := n3_; clear n0_ n1_ n2_ n3_; (try clear hb); (try clear hb2); (try clear hk); (try clear hi); have hcz20_0 : w19.cell? ⟨gb297, 0, none⟩ = some (.int .i64 a0_0) := (blk_cell BK297.out 0).trans rfl; have hcz20_1 : w19.cell? ⟨gb297, 1, none⟩ = some (.int .i64 a0_1) := (blk_cell BK297.out 1).trans rfl; have hcz20_2 : w19.cell? ⟨gb297, 2, none⟩ = some (.int .i64 a0_2) := (blk_cell BK297.out 2).trans rfl; have hcz20_3 : w19.cell? ⟨gb297, 3, none⟩ = some (.slice A0_3 l0_3.length c0_3) := (blk_cell BK297.out 3).trans rfl; have hfz20_0 := blk_frozen BK297.out 0; have hfz20_1 := blk_frozen BK297.out 1; have hfz20_2 := blk_frozen BK297.out 2; have hfz20_3 := blk_frozen BK297.out 3) | ((with_reducible refine gate_callee (f := 14) rfl ?_); refine goesL_ (some 31) rfl rfl Try.func14 (by kernel_rfl) rfl #[.agg #[.int .i64 a0_0, .int .i64 a0_1, .int .i64 a0_2, .slice A0_3 l0_3.length c0_3]] rfl (by (try simp only [List.map_toArray, List.map_cons, List.map_nil]); first | done | rfl | (simp only [List.length_drop, List.length_take]; rfl)) ?_; (with_reducible refine (watchwordref1_PutLsa.calls k a0_0 a0_1 a0_2 _ _ l0_3 t307 t308 _ ?side1 ?side2 A6.out).mono ?_); (case side1 => repeat (first | exact (Kd.C_below HR0_3.out HB.out) | (with_reducible refine Kd.C_alloc ?_ _) | (with_reducible refine Kd.C_drewN ?_ _) | (with_reducible refine Kd.C_drew ?_))); (case side2 => exact HC0_3.out); rintro e w21 ⟨rfl, hb⟩; refine ⟨_, rfl, ?_⟩; have n0_ := Aside0.mk (Kd.R_below (by (with_reducible repeat (first | apply Kd.R_alloc | apply Kd.R_drewN | apply Kd.R_drew)); exact HO303.out) hb); have n1_ := Aside0.mk (blk_below (g := gb297) (o := .cells #[.int .i64 a0_0, .int .i64 a0_1, .int .i64 a0_2, .slice A0_3 l0_3.length c0_3] 24 (0, 0)) (by (with_reducible repeat (first | refine blk_drewN ?_ _ | refine blk_drew ?_ | refine blk_alloc ?_ _)); exact BK297.out) hb); have n2_ := Aside0.mk (blk_below (g := gb304) (o := .cells #[.int .i64 t298, .int .i64 t299, .int .i64 t300, .slice Ao18 t301.length co18] 24 (0, 0)) (by (with_reducible repeat (first | refine blk_drewN ?_ _ | refine blk_drew ?_ | refine blk_alloc ?_ _)); exact BK304.out) hb); have n3_ := Aside0.mk (below_step (by repeat (first | (with_reducible first | exact HB.out | apply below_alloc | apply pw_below_drewN | apply below_drew1 | refine below_set ?_ GE297.out | refine below_set ?_ GE304.out) | exact HB.out)) hb); clear HO303; clear BK297; clear BK304; clear HB; have HO303 := n0_; have BK297 := n1_; have BK304 := n2_; have HB := n3_; clear n0_ n1_ n2_ n3_; (try clear hb); (try clear hb2); (try clear hk); (try clear hi)) | ((with_reducible refine gate_callee (f := 15) rfl ?_); refine goesL_ (some 37) rfl rfl Try.func15 (by kernel_rfl) rfl #[.string a1, .int .i64 a2] rfl (by (try simp only [List.map_toArray, List.map_cons, List.map_nil]); first | done | rfl | (simp only [List.length_drop, List.length_take]; rfl)) ?_; (with_reducible refine (lsa_Get.calls k a1 a2 t309 t310 t311 t312 t315 t316 _ A7.out).mono ?_); rintro e w22 ⟨v313, rfl, ho0, hb⟩; refine ⟨_, rfl, ?_⟩; have n0_ := Aside0.mk (Kd.R_elder' (by (with_reducible repeat (first | apply Kd.R_alloc | apply Kd.R_drewN | apply Kd.R_drew)); exact HO303.out) (Kd.R_base ho0) hb); have n1_ := Aside0.mk (Kd.R_lower (Kd.R_new' ho0 (Kd.R_lt (by (with_reducible repeat (first | apply Kd.R_alloc | apply Kd.R_drewN | apply Kd.R_drew)); exact HO303.out))) (below_size (by repeat (first | (with_reducible first | exact HB.out | apply below_alloc | apply pw_below_drewN | apply below_drew1 | refine below_set ?_ GE297.out | refine below_set ?_ GE304.out) | exact HB.out)))); have n2_ := Aside0.mk (blk_below (g := gb297) (o := .cells #[.int .i64 a0_0, .int .i64 a0_1, .int .i64 a0_2, .slice A0_3 l0_3.length c0_3] 24 (0, 0)) (by (with_reducible repeat (first | refine blk_drewN ?_ _ | refine blk_drew ?_ | refine blk_alloc ?_ _)); exact BK297.out) hb); have n3_ := Aside0.mk (blk_below (g := gb304) (o := .cells #[.int .i64 t298, .int .i64 t299, .int .i64 t300, .slice Ao18 t301.length co18] 24 (0, 0)) (by (with_reducible repeat (first | refine blk_drewN ?_ _ | refine blk_drew ?_ | refine blk_alloc ?_ _)); exact BK304.out) hb); have n4_ := Aside0.mk (below_step (by repeat (first | (with_reducible first | exact HB.out | apply below_alloc | apply pw_below_drewN | apply below_drew1 | refine below_set ?_ GE297.out | refine below_set ?_ GE304.out) | exact HB.out)) hb); clear HO303; clear BK297; clear BK304; clear HB; have HO303 := n0_; have HO314 := n1_; have BK297 := n2_; have BK304 := n3_; have HB := n4_; clear n0_ n1_ n2_ n3_ n4_; (try clear hb); (try clear hb2); (try clear hk); (try clear hi); (try clear ho0)) | ((with_reducible refine gate_dst (N := 12) rfl ?_); refine box_event ?hg (N := 12) ?hd (cs := #[.int .i64 0, .int .i64 0, .int .i64 0, .slice none 0 0]) (t := 24) ?hr ?_; (case hd => rfl); (case hg => rfl); (case hr => first | (go_simp; done) | (go_simp; rfl)); intro gb317 hg w23 hbox hb; have n0_ := Aside0.mk (Kd.R_below (by (with_reducible repeat (first | apply Kd.R_alloc | apply Kd.R_drewN | apply Kd.R_drew)); exact HO303.out) hb); have n1_ := Aside0.mk (Kd.R_below (by (with_reducible repeat (first | apply Kd.R_alloc | apply Kd.R_drewN | apply Kd.R_drew)); exact HO314.out) hb); have n2_ := Aside0.mk (blk_below (g := gb297) (o := .cells #[.int .i64 a0_0, .int .i64 a0_1, .int .i64 a0_2, .slice A0_3 l0_3.length c0_3] 24 (0, 0)) (by (with_reducible repeat (first | refine blk_drewN ?_ _ | refine blk_drew ?_ | refine blk_alloc ?_ _)); exact BK297.out) hb); have n3_ := Aside0.mk (blk_below (g := gb304) (o := .cells #[.int .i64 t298, .int .i64 t299, .int .i64 t300, .slice Ao18 t301.length co18] 24 (0, 0)) (by (with_reducible repeat (first | refine blk_drewN ?_ _ | refine blk_drew ?_ | refine blk_alloc ?_ _)); exact BK304.out) hb); have n4_ := Aside0.mk (below_step (by repeat (first | (with_reducible first | exact HB.out | apply below_alloc | apply pw_below_drewN | apply below_drew1 | refine below_set ?_ GE297.out | refine below_set ?_ GE304.out) | exact HB.out)) hb); have n5_ := Aside0.mk (hbox); have n6_ := Aside0.mk ((by rw [hg]; exact (below_size (by repeat (first | (with_reducible first | exact HB.out | apply below_alloc | apply pw_below_drewN | apply below_drew1 | refine below_set ?_ GE297.out | refine below_set ?_ GE304.out) | exact HB.out))) : w.heap.size ≤ gb317)); have n7_ := Aside0.mk ((by rw [hg]; exact (below_size (by repeat (first | (with_reducible first | exact HB.out | apply below_alloc | apply pw_below_drewN | apply below_drew1 | refine below_set ?_ GE297.out | refine below_set ?_ GE304.out) | exact HB.out))) : w.heap.size ≤ gb317)); have n8_ := Aside0.mk ((by rw [hg]; exact Nat.ne_of_lt (blk_lt (g := gb297) (o := .cells #[.int .i64 a0_0, .int .i64 a0_1, .int .i64 a0_2, .slice A0_3 l0_3.length c0_3] 24 (0, 0)) (by (with_reducible repeat (first | refine blk_drewN ?_ _ | refine blk_drew ?_ | refine blk_alloc ?_ _)); exact BK297.out)) : gb297 ≠ gb317)); have n9_ := Aside0.mk ((by rw [hg]; exact Nat.ne_of_gt (blk_lt (g := gb297) (o := .cells #[.int .i64 a0_0, .int .i64 a0_1, .int .i64 a0_2, .slice A0_3 l0_3.length c0_3] 24 (0, 0)) (by (with_reducible repeat (first | refine blk_drewN ?_ _ | refine blk_drew ?_ | refine blk_alloc ?_ _)); exact BK297.out)) : gb317 ≠ gb297)); have n10_ := Aside0.mk ((by rw [hg]; exact Nat.ne_of_lt (blk_lt (g := gb304) (o := .cells #[.int .i64 t298, .int .i64 t299, .int .i64 t300, .slice Ao18 t301.length co18] 24 (0, 0)) (by (with_reducible repeat (first | refine blk_drewN ?_ _ | refine blk_drew ?_ | refine blk_alloc ?_ _)); exact BK304.out)) : gb304 ≠ gb317)); have n11_ := Aside0.mk ((by rw [hg]; exact Nat.ne_of_gt (blk_lt (g := gb304) (o := .cells #[.int .i64 t298, .int .i64 t299, .int .i64 t300, .slice Ao18 t301.length co18] 24 (0, 0)) (by (with_reducible repeat (first | refine blk_drewN ?_ _ | refine blk_drew ?_ | refine blk_alloc ?_ _)); exact BK304.out)) : gb317 ≠ gb304)); clear HO303; clear HO314; clear BK297; clear BK304; clear HB; have HO303 := n0_; have HO314 := n1_; have BK297 := n2_; have BK304 := n3_; have HB := n4_; have BK317 := n5_; have GW317 := n6_; have GE317 := n7_; have NB297_317 := n8_; have NB317_297 := n9_; have NB304_317 := n10_; have NB317_304 := n11_; clear n0_ n1_ n2_ n3_ n4_ n5_ n6_ n7_ n8_ n9_ n10_ n11_; clear hb hbox hg; have hnb24 := NB317_297.out; have hnc24 := NB297_317.out; have hnb25 := NB317_304.out; have hnc25 := NB304_317.out; have hcz26_0 : w23.cell? ⟨gb317, 0, none⟩ = some (.int .i64 0) := (blk_cell BK317.out 0).trans rfl; have hcz26_1 : w23.cell? ⟨gb317, 1, none⟩ = some (.int .i64 0) := (blk_cell BK317.out 1).trans rfl; have hcz26_2 : w23.cell? ⟨gb317, 2, none⟩ = some (.int .i64 0) := (blk_cell BK317.out 2).trans rfl; have hcz26_3 : w23.cell? ⟨gb317, 3, none⟩ = some (.slice none 0 0) := (blk_cell BK317.out 3).trans rfl; have hfz26_0 := blk_frozen BK317.out 0; have hfz26_1 := blk_frozen BK317.out 1; have hfz26_2 := blk_frozen BK317.out 2; have hfz26_3 := blk_frozen BK317.out 3; obtain ⟨Ao27, co27, eo27⟩ := Kd.R_slice HO314.out; subst eo27) | ((with_reducible refine gate_callee (f := 16) rfl ?_); refine goesL_ (some 44) rfl rfl Try.func16 (by kernel_rfl) rfl #[.string a1, .int .i64 a2] rfl (by (try simp only [List.map_toArray, List.map_cons, List.map_nil]); first | done | rfl | (simp only [List.length_drop, List.length_take]; rfl)) ?_; (with_reducible refine (watchwordref1_GetLsa.calls k a1 a2 t318 t319 t320 t321 t324 t325 _ A8.out).mono ?_); rintro e w28 ⟨v322, rfl, ho0, hb⟩; refine ⟨_, rfl, ?_⟩; have n0_ := Aside0.mk (Kd.R_elder' (by (with_reducible repeat (first | apply Kd.R_alloc | apply Kd.R_drewN | apply Kd.R_drew)); exact (Kd.R_mono (Kd.R_far (p := ⟨gb317, 3, none⟩) (Kd.R_far (p := ⟨gb317, 2, none⟩) (Kd.R_far (p := ⟨gb317, 1, none⟩) (Kd.R_far (p := ⟨gb317, 0, none⟩) (Kd.R_types HO303.out BK317.out (by decide)) (fun _ hk => hk.2) (.int .i64 t309)) (fun _ hk => hk.2) (.int .i64 t310)) (fun _ hk => hk.2) (.int .i64 t311)) (fun _ hk => hk.2) (.slice Ao27 t312.length co27)) (fun _ h_ => h_.1))) (Kd.R_base ho0) hb); have n1_ := Aside0.mk (Kd.R_elder' (by (with_reducible repeat (first | apply Kd.R_alloc | apply Kd.R_drewN | apply Kd.R_drew)); exact (Kd.R_mono (Kd.R_far (p := ⟨gb317, 3, none⟩) (Kd.R_far (p := ⟨gb317, 2, none⟩) (Kd.R_far (p := ⟨gb317, 1, none⟩) (Kd.R_far (p := ⟨gb317, 0, none⟩) (Kd.R_types HO314.out BK317.out (by decide)) (fun _ hk => hk.2) (.int .i64 t309)) (fun _ hk => hk.2) (.int .i64 t310)) (fun _ hk => hk.2) (.int .i64 t311)) (fun _ hk => hk.2) (.slice Ao27 t312.length co27)) (fun _ h_ => h_.1))) (Kd.R_base ho0) hb); have n2_ := Aside0.mk (Kd.R_lower (Kd.R_new' (Kd.R_new' ho0 (Kd.R_lt (by (with_reducible repeat (first | apply Kd.R_alloc | apply Kd.R_drewN | apply Kd.R_drew)); exact (Kd.R_mono (Kd.R_far (p := ⟨gb317, 3, none⟩) (Kd.R_far (p := ⟨gb317, 2, none⟩) (Kd.R_far (p := ⟨gb317, 1, none⟩) (Kd.R_far (p := ⟨gb317, 0, none⟩) (Kd.R_types HO303.out BK317.out (by decide)) (fun _ hk => hk.2) (.int .i64 t309)) (fun _ hk => hk.2) (.int .i64 t310)) (fun _ hk => hk.2) (.int .i64 t311)) (fun _ hk => hk.2) (.slice Ao27 t312.length co27)) (fun _ h_ => h_.1))))) (Kd.R_lt (by (with_reducible repeat (first | apply Kd.R_alloc | apply Kd.R_drewN | apply Kd.R_drew)); exact (Kd.R_mono (Kd.R_far (p := ⟨gb317, 3, none⟩) (Kd.R_far (p := ⟨gb317, 2, none⟩) (Kd.R_far (p := ⟨gb317, 1, none⟩) (Kd.R_far (p := ⟨gb317, 0, none⟩) (Kd.R_types HO314.out BK317.out (by decide)) (fun _ hk => hk.2) (.int .i64 t309)) (fun _ hk => hk.2) (.int .i64 t310)) (fun _ hk => hk.2) (.int .i64 t311)) (fun _ hk => hk.2) (.slice Ao27 t312.length co27)) (fun _ h_ => h_.1))))) (below_size (by repeat (first | (with_reducible first | exact HB.out | apply below_alloc | apply pw_below_drewN | apply below_drew1 | refine below_set ?_ GE297.out | refine below_set ?_ GE304.out | refine below_set ?_ GE317.out) | exact HB.out)))); have n3_ := Aside0.mk (blk_below (g := gb297) (o := .cells #[.int .i64 a0_0, .int .i64 a0_1, .int .i64 a0_2, .slice A0_3 l0_3.length c0_3] 24 (0, 0)) (by (with_reducible repeat (first | refine blk_drewN ?_ _ | refine blk_drew ?_ | refine blk_alloc ?_ _)); refine blk_far ?_ NB297_317.out _; (with_reducible repeat (first | refine blk_drewN ?_ _ | refine blk_drew ?_ | refine blk_alloc ?_ _)); refine blk_far ?_ NB297_317.out _; (with_reducible repeat (first | refine blk_drewN ?_ _ | refine blk_drew ?_ | refine blk_alloc ?_ _)); refine blk_far ?_ NB297_317.out _; (with_reducible repeat (first | refine blk_drewN ?_ _ | refine blk_drew ?_ | refine blk_alloc ?_ _)); refine blk_far ?_ NB297_317.out _; (with_reducible repeat (first | refine blk_drewN ?_ _ | refine blk_drew ?_ | refine blk_alloc ?_ _)); exact BK297.out) hb); have n4_ := Aside0.mk (blk_below (g := gb304) (o := .cells #[.int .i64 t298, .int .i64 t299, .int .i64 t300, .slice Ao18 t301.length co18] 24 (0, 0)) (by (with_reducible repeat (first | refine blk_drewN ?_ _ | refine blk_drew ?_ | refine blk_alloc ?_ _)); refine blk_far ?_ NB304_317.out _; (with_reducible repeat (first | refine blk_drewN ?_ _ | refine blk_drew ?_ | refine blk_alloc ?_ _)); refine blk_far ?_ NB304_317.out _; (with_reducible repeat (first | refine blk_drewN ?_ _ | refine blk_drew ?_ | refine blk_alloc ?_ _)); refine blk_far ?_ NB304_317.out _; (with_reducible repeat (first | refine blk_drewN ?_ _ | refine blk_drew ?_ | refine blk_alloc ?_ _)); refine blk_far ?_ NB304_317.out _; (with_reducible repeat (first | refine blk_drewN ?_ _ | refine blk_drew ?_ | refine blk_alloc ?_ _)); exact BK304.out) hb); have n5_ := Aside0.mk (blk_below (g := gb317) (o := .cells #[.int .i64 t309, .int .i64 t310, .int .i64 t311, .slice Ao27 t312.length co27] 24 (0, 0)) (by (with_reducible repeat (first | refine blk_drewN ?_ _ | refine blk_drew ?_ | refine blk_alloc ?_ _)); refine blk_put (cs := #[.int .i64 t309, .int .i64 t310, .int .i64 t311, .slice none 0 0]) ?_ 3 _ rfl; (with_reducible repeat (first | refine blk_drewN ?_ _ | refine blk_drew ?_ | refine blk_alloc ?_ _)); refine blk_put (cs := #[.int .i64 t309, .int .i64 t310, .int .i64 0, .slice none 0 0]) ?_ 2 _ rfl; (with_reducible repeat (first | refine blk_drewN ?_ _ | refine blk_drew ?_ | refine blk_alloc ?_ _)); refine blk_put (cs := #[.int .i64 t309, .int .i64 0, .int .i64 0, .slice none 0 0]) ?_ 1 _ rfl; (with_reducible repeat (first | refine blk_drewN ?_ _ | refine blk_drew ?_ | refine blk_alloc ?_ _)); refine blk_put (cs := #[.int .i64 0, .int .i64 0, .int .i64 0, .slice none 0 0]) ?_ 0 _ rfl; (with_reducible repeat (first | refine blk_drewN ?_ _ | refine blk_drew ?_ | refine blk_alloc ?_ _)); exact BK317.out) hb); have n6_ := Aside0.mk (below_step (by repeat (first | (with_reducible first | exact HB.out | apply below_alloc | apply pw_below_drewN | apply below_drew1 | refine below_set ?_ GE297.out | refine below_set ?_ GE304.out | refine below_set ?_ GE317.out) | exact HB.out)) hb); clear HO303; clear HO314; clear BK297; clear BK304; clear BK317; clear HB; have HO303 := n0_; have HO314 := n1_; have HO323 := n2_; have BK297 := n3_; have BK304 := n4_; have BK317 := n5_; have HB := n6_; clear n0_ n1_ n2_ n3_ n4_ n5_ n6_; (try clear hb); (try clear hb2); (try clear hk); (try clear hi); (try clear ho0)) | ((with_reducible refine gate_dst (N := 15) rfl ?_); refine box_event ?hg (N := 15) ?hd (cs := #[.int .i64 0, .int .i64 0, .int .i64 0, .slice none 0 0]) (t := 24) ?hr ?_; (case hd => rfl); (case hg => rfl); (case hr => first | (go_simp; done) | (go_simp; rfl)); intro gb326 hg w29 hbox hb; have n0_ := Aside0.mk (Kd.R_below (by (with_reducible repeat (first | apply Kd.R_alloc | apply Kd.R_drewN | apply Kd.R_drew)); exact HO303.out) hb); have n1_ := Aside0.mk (Kd.R_below (by (with_reducible repeat (first | apply Kd.R_alloc | apply Kd.R_drewN | apply Kd.R_drew)); exact HO314.out) hb); have n2_ := Aside0.mk (Kd.R_below (by (with_reducible repeat (first | apply Kd.R_alloc | apply Kd.R_drewN | apply Kd.R_drew)); exact HO323.out) hb); have n3_ := Aside0.mk (blk_below (g := gb297) (o := .cells #[.int .i64 a0_0, .int .i64 a0_1, .int .i64 a0_2, .slice A0_3 l0_3.length c0_3] 24 (0, 0)) (by (with_reducible repeat (first | refine blk_drewN ?_ _ | refine blk_drew ?_ | refine blk_alloc ?_ _)); exact BK297.out) hb); have n4_ := Aside0.mk (blk_below (g := gb304) (o := .cells #[.int .i64 t298, .int .i64 t299, .int .i64 t300, .slice Ao18 t301.length co18] 24 (0, 0)) (by (with_reducible repeat (first | refine blk_drewN ?_ _ | refine blk_drew ?_ | refine blk_alloc ?_ _)); exact BK304.out) hb); have n5_ := Aside0.mk (blk_below (g := gb317) (o := .cells #[.int .i64 t309, .int .i64 t310, .int .i64 t311, .slice Ao27 t312.length co27] 24 (0, 0)) (by (with_reducible repeat (first | refine blk_drewN ?_ _ | refine blk_drew ?_ | refine blk_alloc ?_ _)); exact BK317.out) hb); have n6_ := Aside0.mk (below_step (by repeat (first | (with_reducible first | exact HB.out | apply below_alloc | apply pw_below_drewN | apply below_drew1 | refine below_set ?_ GE297.out | refine below_set ?_ GE304.out | refine below_set ?_ GE317.out) | exact HB.out)) hb); have n7_ := Aside0.mk (hbox); have n8_ := Aside0.mk ((by rw [hg]; exact (below_size (by repeat (first | (with_reducible first | exact HB.out | apply below_alloc | apply pw_below_drewN | apply below_drew1 | refine below_set ?_ GE297.out | refine below_set ?_ GE304.out | refine below_set ?_ GE317.out) | exact HB.out))) : w.heap.size ≤ gb326)); have n9_ := Aside0.mk ((by rw [hg]; exact (below_size (by repeat (first | (with_reducible first | exact HB.out | apply below_alloc | apply pw_below_drewN | apply below_drew1 | refine below_set ?_ GE297.out | refine below_set ?_ GE304.out | refine below_set ?_ GE317.out) | exact HB.out))) : w.heap.size ≤ gb326)); have n10_ := Aside0.mk ((by rw [hg]; exact Nat.ne_of_lt (blk_lt (g := gb297) (o := .cells #[.int .i64 a0_0, .int .i64 a0_1, .int .i64 a0_2, .slice A0_3 l0_3.length c0_3] 24 (0, 0)) (by (with_reducible repeat (first | refine blk_drewN ?_ _ | refine blk_drew ?_ | refine blk_alloc ?_ _)); exact BK297.out)) : gb297 ≠ gb326)); have n11_ := Aside0.mk ((by rw [hg]; exact Nat.ne_of_gt (blk_lt (g := gb297) (o := .cells #[.int .i64 a0_0, .int .i64 a0_1, .int .i64 a0_2, .slice A0_3 l0_3.length c0_3] 24 (0, 0)) (by (with_reducible repeat (first | refine blk_drewN ?_ _ | refine blk_drew ?_ | refine blk_alloc ?_ _)); exact BK297.out)) : gb326 ≠ gb297)); have n12_ := Aside0.mk ((by rw [hg]; exact Nat.ne_of_lt (blk_lt (g := gb304) (o := .cells #[.int .i64 t298, .int .i64 t299, .int .i64 t300, .slice Ao18 t301.length co18] 24 (0, 0)) (by (with_reducible repeat (first | refine blk_drewN ?_ _ | refine blk_drew ?_ | refine blk_alloc ?_ _)); exact BK304.out)) : gb304 ≠ gb326)); have n13_ := Aside0.mk ((by rw [hg]; exact Nat.ne_of_gt (blk_lt (g := gb304) (o := .cells #[.int .i64 t298, .int .i64 t299, .int .i64 t300, .slice Ao18 t301.length co18] 24 (0, 0)) (by (with_reducible repeat (first | refine blk_drewN ?_ _ | refine blk_drew ?_ | refine blk_alloc ?_ _)); exact BK304.out)) : gb326 ≠ gb304)); have n14_ := Aside0.mk ((by rw [hg]; exact Nat.ne_of_lt (blk_lt (g := gb317) (o := .cells #[.int .i64 t309, .int .i64 t310, .int .i64 t311, .slice Ao27 t312.length co27] 24 (0, 0)) (by (with_reducible repeat (first | refine blk_drewN ?_ _ | refine blk_drew ?_ | refine blk_alloc ?_ _)); exact BK317.out)) : gb317 ≠ gb326)); have n15_ := Aside0.mk ((by rw [hg]; exact Nat.ne_of_gt (blk_lt (g := gb317) (o := .cells #[.int .i64 t309, .int .i64 t310, .int .i64 t311, .slice Ao27 t312.length co27] 24 (0, 0)) (by (with_reducible repeat (first | refine blk_drewN ?_ _ | refine blk_drew ?_ | refine blk_alloc ?_ _)); exact BK317.out)) : gb326 ≠ gb317)); clear HO303; clear HO314; clear HO323; clear BK297; clear BK304; clear BK317; clear HB; have HO303 := n0_; have HO314 := n1_; have HO323 := n2_; have BK297 := n3_; have BK304 := n4_; have BK317 := n5_; have HB := n6_; have BK326 := n7_; have GW326 := n8_; have GE326 := n9_; have NB297_326 := n10_; have NB326_297 := n11_; have NB304_326 := n12_; have NB326_304 := n13_; have NB317_326 := n14_; have NB326_317 := n15_; clear n0_ n1_ n2_ n3_ n4_ n5_ n6_ n7_ n8_ n9_ n10_ n11_ n12_ n13_ n14_ n15_; clear hb hbox hg; have hnb30 := NB326_297.out; have hnc30 := NB297_326.out; have hnb31 := NB326_304.out; have hnc31 := NB304_326.out; have hnb32 := NB326_317.out; have hnc32 := NB317_326.out; have hcz33_0 : w29.cell? ⟨gb326, 0, none⟩ = some (.int .i64 0) := (blk_cell BK326.out 0).trans rfl; have hcz33_1 : w29.cell? ⟨gb326, 1, none⟩ = some (.int .i64 0) := (blk_cell BK326.out 1).trans rfl; have hcz33_2 : w29.cell? ⟨gb326, 2, none⟩ = some (.int .i64 0) := (blk_cell BK326.out 2).trans rfl; have hcz33_3 : w29.cell? ⟨gb326, 3, none⟩ = some (.slice none 0 0) := (blk_cell BK326.out 3).trans rfl; have hfz33_0 := blk_frozen BK326.out 0; have hfz33_1 := blk_frozen BK326.out 1; have hfz33_2 := blk_frozen BK326.out 2; have hfz33_3 := blk_frozen BK326.out 3; obtain ⟨Ao34, co34, eo34⟩ := Kd.R_slice HO323.out; subst eo34; have hcz35_0 : w29.cell? ⟨gb304, 0, none⟩ = some (.int .i64 t298) := (blk_cell BK304.out 0).trans rfl; have hcz35_1 : w29.cell? ⟨gb304, 1, none⟩ = some (.int .i64 t299) := (blk_cell BK304.out 1).trans rfl; have hcz35_2 : w29.cell? ⟨gb304, 2, none⟩ = some (.int .i64 t300) := (blk_cell BK304.out 2).trans rfl; have hcz35_3 : w29.cell? ⟨gb304, 3, none⟩ = some (.slice Ao18 t301.length co18) := (blk_cell BK304.out 3).trans rfl; have hfz35_0 := blk_frozen BK304.out 0; have hfz35_1 := blk_frozen BK304.out 1; have hfz35_2 := blk_frozen BK304.out 2; have hfz35_3 := blk_frozen BK304.out 3) | ((with_reducible refine gate_callee (f := 17) rfl ?_); refine goesL_ (some 50) rfl rfl Try.func17 (by kernel_rfl) rfl #[.agg #[.int .i64 t298, .int .i64 t299, .int .i64 t300, .slice Ao18 t301.length co18]] rfl (by (try simp only [List.map_toArray, List.map_cons, List.map_nil]); first | done | rfl | (simp only [List.length_drop, List.length_take]; rfl)) ?_; (with_reducible refine (lsa_Head.calls k t298 t299 t300 _ _ t301 t327 t328 t329 t330 t331 _ ?side1 ?side2 A9.out).mono ?_); (case side1 => refine (Kd.R_reads' (e := 49) (base := w.heap.size) (ok := fun k_ => ((True ∧ some k_ ≠ (.slice Ao27 t312.length co27 : Value).ownBlock) ∧ some k_ ≠ (.slice Ao34 t321.length co34 : Value).ownBlock)) (n := t301.length) (c := co18) ?_).2.2; exact (by (with_reducible repeat (first | apply Kd.R_alloc | apply Kd.R_drewN | apply Kd.R_drew)); exact (Kd.R_mono (Kd.R_far (p := ⟨gb326, 3, none⟩) (Kd.R_far (p := ⟨gb326, 2, none⟩) (Kd.R_far (p := ⟨gb326, 1, none⟩) (Kd.R_far (p := ⟨gb326, 0, none⟩) (Kd.R_types HO303.out BK326.out (by decide)) (fun _ hk => hk.2) (.int .i64 t318)) (fun _ hk => hk.2) (.int .i64 t319)) (fun _ hk => hk.2) (.int .i64 t320)) (fun _ hk => hk.2) (.slice Ao34 t321.length co34)) (fun _ h_ => h_.1)))); (case side2 => exact (Kd.R_reads' HO303.out).2.1); rintro e w36 ⟨rfl, hb⟩; refine ⟨_, rfl, ?_⟩; have n0_ := Aside0.mk (Kd.R_below (by (with_reducible repeat (first | apply Kd.R_alloc | apply Kd.R_drewN | apply Kd.R_drew)); exact (Kd.R_mono (Kd.R_far (p := ⟨gb326, 3, none⟩) (Kd.R_far (p := ⟨gb326, 2, none⟩) (Kd.R_far (p := ⟨gb326, 1, none⟩) (Kd.R_far (p := ⟨gb326, 0, none⟩) (Kd.R_types HO303.out BK326.out (by decide)) (fun _ hk => hk.2) (.int .i64 t318)) (fun _ hk => hk.2) (.int .i64 t319)) (fun _ hk => hk.2) (.int .i64 t320)) (fun _ hk => hk.2) (.slice Ao34 t321.length co34)) (fun _ h_ => h_.1))) hb); have n1_ := Aside0.mk (Kd.R_below (by (with_reducible repeat (first | apply Kd.R_alloc | apply Kd.R_drewN | apply Kd.R_drew)); exact (Kd.R_mono (Kd.R_far (p := ⟨gb326, 3, none⟩) (Kd.R_far (p := ⟨gb326, 2, none⟩) (Kd.R_far (p := ⟨gb326, 1, none⟩) (Kd.R_far (p := ⟨gb326, 0, none⟩) (Kd.R_types HO314.out BK326.out (by decide)) (fun _ hk => hk.2) (.int .i64 t318)) (fun _ hk => hk.2) (.int .i64 t319)) (fun _ hk => hk.2) (.int .i64 t320)) (fun _ hk => hk.2) (.slice Ao34 t321.length co34)) (fun _ h_ => h_.1))) hb); have n2_ := Aside0.mk (Kd.R_below (by (with_reducible repeat (first | apply Kd.R_alloc | apply Kd.R_drewN | apply Kd.R_drew)); exact (Kd.R_mono (Kd.R_far (p := ⟨gb326, 3, none⟩) (Kd.R_far (p := ⟨gb326, 2, none⟩) (Kd.R_far (p := ⟨gb326, 1, none⟩) (Kd.R_far (p := ⟨gb326, 0, none⟩) (Kd.R_types HO323.out BK326.out (by decide)) (fun _ hk => hk.2) (.int .i64 t318)) (fun _ hk => hk.2) (.int .i64 t319)) (fun _ hk => hk.2) (.int .i64 t320)) (fun _ hk => hk.2) (.slice Ao34 t321.length co34)) (fun _ h_ => h_.1))) hb); have n3_ := Aside0.mk (blk_below (g := gb297) (o := .cells #[.int .i64 a0_0, .int .i64 a0_1, .int .i64 a0_2, .slice A0_3 l0_3.length c0_3] 24 (0, 0)) (by (with_reducible repeat (first | refine blk_drewN ?_ _ | refine blk_drew ?_ | refine blk_alloc ?_ _)); refine blk_far ?_ NB297_326.out _; (with_reducible repeat (first | refine blk_drewN ?_ _ | refine blk_drew ?_ | refine blk_alloc ?_ _)); refine blk_far ?_ NB297_326.out _; (with_reducible repeat (first | refine blk_drewN ?_ _ | refine blk_drew ?_ | refine blk_alloc ?_ _)); refine blk_far ?_ NB297_326.out _; (with_reducible repeat (first | refine blk_drewN ?_ _ | refine blk_drew ?_ | refine blk_alloc ?_ _)); refine blk_far ?_ NB297_326.out _; (with_reducible repeat (first | refine blk_drewN ?_ _ | refine blk_drew ?_ | refine blk_alloc ?_ _)); exact BK297.out) hb); have n4_ := Aside0.mk (blk_below (g := gb304) (o := .cells #[.int .i64 t298, .int .i64 t299, .int .i64 t300, .slice Ao18 t301.length co18] 24 (0, 0)) (by (with_reducible repeat (first | refine blk_drewN ?_ _ | refine blk_drew ?_ | refine blk_alloc ?_ _)); refine blk_far ?_ NB304_326.out _; (with_reducible repeat (first | refine blk_drewN ?_ _ | refine blk_drew ?_ | refine blk_alloc ?_ _)); refine blk_far ?_ NB304_326.out _; (with_reducible repeat (first | refine blk_drewN ?_ _ | refine blk_drew ?_ | refine blk_alloc ?_ _)); refine blk_far ?_ NB304_326.out _; (with_reducible repeat (first | refine blk_drewN ?_ _ | refine blk_drew ?_ | refine blk_alloc ?_ _)); refine blk_far ?_ NB304_326.out _; (with_reducible repeat (first | refine blk_drewN ?_ _ | refine blk_drew ?_ | refine blk_alloc ?_ _)); exact BK304.out) hb); have n5_ := Aside0.mk (blk_below (g := gb317) (o := .cells #[.int .i64 t309, .int .i64 t310, .int .i64 t311, .slice Ao27 t312.length co27] 24 (0, 0)) (by (with_reducible repeat (first | refine blk_drewN ?_ _ | refine blk_drew ?_ | refine blk_alloc ?_ _)); refine blk_far ?_ NB317_326.out _; (with_reducible repeat (first | refine blk_drewN ?_ _ | refine blk_drew ?_ | refine blk_alloc ?_ _)); refine blk_far ?_ NB317_326.out _; (with_reducible repeat (first | refine blk_drewN ?_ _ | refine blk_drew ?_ | refine blk_alloc ?_ _)); refine blk_far ?_ NB317_326.out _; (with_reducible repeat (first | refine blk_drewN ?_ _ | refine blk_drew ?_ | refine blk_alloc ?_ _)); refine blk_far ?_ NB317_326.out _; (with_reducible repeat (first | refine blk_drewN ?_ _ | refine blk_drew ?_ | refine blk_alloc ?_ _)); exact BK317.out) hb); have n6_ := Aside0.mk (blk_below (g := gb326) (o := .cells #[.int .i64 t318, .int .i64 t319, .int .i64 t320, .slice Ao34 t321.length co34] 24 (0, 0)) (by (with_reducible repeat (first | refine blk_drewN ?_ _ | refine blk_drew ?_ | refine blk_alloc ?_ _)); refine blk_put (cs := #[.int .i64 t318, .int .i64 t319, .int .i64 t320, .slice none 0 0]) ?_ 3 _ rfl; (with_reducible repeat (first | refine blk_drewN ?_ _ | refine blk_drew ?_ | refine blk_alloc ?_ _)); refine blk_put (cs := #[.int .i64 t318, .int .i64 t319, .int .i64 0, .slice none 0 0]) ?_ 2 _ rfl; (with_reducible repeat (first | refine blk_drewN ?_ _ | refine blk_drew ?_ | refine blk_alloc ?_ _)); refine blk_put (cs := #[.int .i64 t318, .int .i64 0, .int .i64 0, .slice none 0 0]) ?_ 1 _ rfl; (with_reducible repeat (first | refine blk_drewN ?_ _ | refine blk_drew ?_ | refine blk_alloc ?_ _)); refine blk_put (cs := #[.int .i64 0, .int .i64 0, .int .i64 0, .slice none 0 0]) ?_ 0 _ rfl; (with_reducible repeat (first | refine blk_drewN ?_ _ | refine blk_drew ?_ | refine blk_alloc ?_ _)); exact BK326.out) hb); have n7_ := Aside0.mk (below_step (by repeat (first | (with_reducible first | exact HB.out | apply below_alloc | apply pw_below_drewN | apply below_drew1 | refine below_set ?_ GE297.out | refine below_set ?_ GE304.out | refine below_set ?_ GE317.out | refine below_set ?_ GE326.out) | exact HB.out)) hb); clear HO303; clear HO314; clear HO323; clear BK297; clear BK304; clear BK317; clear BK326; clear HB; have HO303 := n0_; have HO314 := n1_; have HO323 := n2_; have BK297 := n3_; have BK304 := n4_; have BK317 := n5_; have BK326 := n6_; have HB := n7_; clear n0_ n1_ n2_ n3_ n4_ n5_ n6_ n7_; (try clear hb); (try clear hb2); (try clear hk); (try clear hi)) | ((with_reducible refine gate_dst (N := 18) rfl ?_); refine box_event ?hg (N := 18) ?hd (cs := #[.int .i64 0, .int .i64 0, .int .i64 0, .int .i64 0]) (t := 36) ?hr ?_; (case hd => rfl); (case hg => rfl); (case hr => first | (go_simp; done) | (go_simp; rfl)); intro gb332 hg w37 hbox hb; have n0_ := Aside0.mk (Kd.R_below (by (with_reducible repeat (first | apply Kd.R_alloc | apply Kd.R_drewN | apply Kd.R_drew)); exact HO303.out) hb); have n1_ := Aside0.mk (Kd.R_below (by (with_reducible repeat (first | apply Kd.R_alloc | apply Kd.R_drewN | apply Kd.R_drew)); exact HO314.out) hb); have n2_ := Aside0.mk (Kd.R_below (by (with_reducible repeat (first | apply Kd.R_alloc | apply Kd.R_drewN | apply Kd.R_drew)); exact HO323.out) hb); have n3_ := Aside0.mk (blk_below (g := gb297) (o := .cells #[.int .i64 a0_0, .int .i64 a0_1, .int .i64 a0_2, .slice A0_3 l0_3.length c0_3] 24 (0, 0)) (by (with_reducible repeat (first | refine blk_drewN ?_ _ | refine blk_drew ?_ | refine blk_alloc ?_ _)); exact BK297.out) hb); have n4_ := Aside0.mk (blk_below (g := gb304) (o := .cells #[.int .i64 t298, .int .i64 t299, .int .i64 t300, .slice Ao18 t301.length co18] 24 (0, 0)) (by (with_reducible repeat (first | refine blk_drewN ?_ _ | refine blk_drew ?_ | refine blk_alloc ?_ _)); exact BK304.out) hb); have n5_ := Aside0.mk (blk_below (g := gb317) (o := .cells #[.int .i64 t309, .int .i64 t310, .int .i64 t311, .slice Ao27 t312.length co27] 24 (0, 0)) (by (with_reducible repeat (first | refine blk_drewN ?_ _ | refine blk_drew ?_ | refine blk_alloc ?_ _)); exact BK317.out) hb); have n6_ := Aside0.mk (blk_below (g := gb326) (o := .cells #[.int .i64 t318, .int .i64 t319, .int .i64 t320, .slice Ao34 t321.length co34] 24 (0, 0)) (by (with_reducible repeat (first | refine blk_drewN ?_ _ | refine blk_drew ?_ | refine blk_alloc ?_ _)); exact BK326.out) hb); have n7_ := Aside0.mk (below_step (by repeat (first | (with_reducible first | exact HB.out | apply below_alloc | apply pw_below_drewN | apply below_drew1 | refine below_set ?_ GE297.out | refine below_set ?_ GE304.out | refine below_set ?_ GE317.out | refine below_set ?_ GE326.out) | exact HB.out)) hb); have n8_ := Aside0.mk (hbox); have n9_ := Aside0.mk ((by rw [hg]; exact (below_size (by repeat (first | (with_reducible first | exact HB.out | apply below_alloc | apply pw_below_drewN | apply below_drew1 | refine below_set ?_ GE297.out | refine below_set ?_ GE304.out | refine below_set ?_ GE317.out | refine below_set ?_ GE326.out) | exact HB.out))) : w.heap.size ≤ gb332)); have n10_ := Aside0.mk ((by rw [hg]; exact (below_size (by repeat (first | (with_reducible first | exact HB.out | apply below_alloc | apply pw_below_drewN | apply below_drew1 | refine below_set ?_ GE297.out | refine below_set ?_ GE304.out | refine below_set ?_ GE317.out | refine below_set ?_ GE326.out) | exact HB.out))) : w.heap.size ≤ gb332)); have n11_ := Aside0.mk ((by rw [hg]; exact Nat.ne_of_lt (blk_lt (g := gb297) (o := .cells #[.int .i64 a0_0, .int .i64 a0_1, .int .i64 a0_2, .slice A0_3 l0_3.length c0_3] 24 (0, 0)) (by (with_reducible repeat (first | refine blk_drewN ?_ _ | refine blk_drew ?_ | refine blk_alloc ?_ _)); exact BK297.out)) : gb297 ≠ gb332)); have n12_ := Aside0.mk ((by rw [hg]; exact Nat.ne_of_gt (blk_lt (g := gb297) (o := .cells #[.int .i64 a0_0, .int .i64 a0_1, .int .i64 a0_2, .slice A0_3 l0_3.length c0_3] 24 (0, 0)) (by (with_reducible repeat (first | refine blk_drewN ?_ _ | refine blk_drew ?_ | refine blk_alloc ?_ _)); exact BK297.out)) : gb332 ≠ gb297)); have n13_ := Aside0.mk ((by rw [hg]; exact Nat.ne_of_lt (blk_lt (g := gb304) (o := .cells #[.int .i64 t298, .int .i64 t299, .int .i64 t300, .slice Ao18 t301.length co18] 24 (0, 0)) (by (with_reducible repeat (first | refine blk_drewN ?_ _ | refine blk_drew ?_ | refine blk_alloc ?_ _)); exact BK304.out)) : gb304 ≠ gb332)); have n14_ := Aside0.mk ((by rw [hg]; exact Nat.ne_of_gt (blk_lt (g := gb304) (o := .cells #[.int .i64 t298, .int .i64 t299, .int .i64 t300, .slice Ao18 t301.length co18] 24 (0, 0)) (by (with_reducible repeat (first | refine blk_drewN ?_ _ | refine blk_drew ?_ | refine blk_alloc ?_ _)); exact BK304.out)) : gb332 ≠ gb304)); have n15_ := Aside0.mk ((by rw [hg]; exact Nat.ne_of_lt (blk_lt (g := gb317) (o := .cells #[.int .i64 t309, .int .i64 t310, .int .i64 t311, .slice Ao27 t312.length co27] 24 (0, 0)) (by (with_reducible repeat (first | refine blk_drewN ?_ _ | refine blk_drew ?_ | refine blk_alloc ?_ _)); exact BK317.out)) : gb317 ≠ gb332)); have n16_ := Aside0.mk ((by rw [hg]; exact Nat.ne_of_gt (blk_lt (g := gb317) (o := .cells #[.int .i64 t309, .int .i64 t310, .int .i64 t311, .slice Ao27 t312.length co27] 24 (0, 0)) (by (with_reducible repeat (first | refine blk_drewN ?_ _ | refine blk_drew ?_ | refine blk_alloc ?_ _)); exact BK317.out)) : gb332 ≠ gb317)); have n17_ := Aside0.mk ((by rw [hg]; exact Nat.ne_of_lt (blk_lt (g := gb326) (o := .cells #[.int .i64 t318, .int .i64 t319, .int .i64 t320, .slice Ao34 t321.length co34] 24 (0, 0)) (by (with_reducible repeat (first | refine blk_drewN ?_ _ | refine blk_drew ?_ | refine blk_alloc ?_ _)); exact BK326.out)) : gb326 ≠ gb332)); have n18_ := Aside0.mk ((by rw [hg]; exact Nat.ne_of_gt (blk_lt (g := gb326) (o := .cells #[.int .i64 t318, .int .i64 t319, .int .i64 t320, .slice Ao34 t321.length co34] 24 (0, 0)) (by (with_reducible repeat (first | refine blk_drewN ?_ _ | refine blk_drew ?_ | refine blk_alloc ?_ _)); exact BK326.out)) : gb332 ≠ gb326)); clear HO303; clear HO314; clear HO323; clear BK297; clear BK304; clear BK317; clear BK326; clear HB; have HO303 := n0_; have HO314 := n1_; have HO323 := n2_; have BK297 := n3_; have BK304 := n4_; have BK317 := n5_; have BK326 := n6_; have HB := n7_; have BK332 := n8_; have GW332 := n9_; have GE332 := n10_; have NB297_332 := n11_; have NB332_297 := n12_; have NB304_332 := n13_; have NB332_304 := n14_; have NB317_332 := n15_; have NB332_317 := n16_; have NB326_332 := n17_; have NB332_326 := n18_; clear n0_ n1_ n2_ n3_ n4_ n5_ n6_ n7_ n8_ n9_ n10_ n11_ n12_ n13_ n14_ n15_ n16_ n17_ n18_; clear hb hbox hg; have hnb38 := NB332_297.out; have hnc38 := NB297_332.out; have hnb39 := NB332_304.out; have hnc39 := NB304_332.out; have hnb40 := NB332_317.out; have hnc40 := NB317_332.out; have hnb41 := NB332_326.out; have hnc41 := NB326_332.out; have hcz42_0 : w37.cell? ⟨gb332, 0, none⟩ = some (.int .i64 0) := (blk_cell BK332.out 0).trans rfl; have hcz42_1 : w37.cell? ⟨gb332, 1, none⟩ = some (.int .i64 0) := (blk_cell BK332.out 1).trans rfl; have hcz42_2 : w37.cell? ⟨gb332, 2, none⟩ = some (.int .i64 0) := (blk_cell BK332.out 2).trans rfl; have hcz42_3 : w37.cell? ⟨gb332, 3, none⟩ = some (.int .i64 0) := (blk_cell BK332.out 3).trans rfl; have hfz42_0 := blk_frozen BK332.out 0; have hfz42_1 := blk_frozen BK332.out 1; have hfz42_2 := blk_frozen BK332.out 2; have hfz42_3 := blk_frozen BK332.out 3; have hcz43_0 : w37.cell? ⟨gb297, 0, none⟩ = some (.int .i64 a0_0) := (blk_cell BK297.out 0).trans rfl; have hcz43_1 : w37.cell? ⟨gb297, 1, none⟩ = some (.int .i64 a0_1) := (blk_cell BK297.out 1).trans rfl; have hcz43_2 : w37.cell? ⟨gb297, 2, none⟩ = some (.int .i64 a0_2) := (blk_cell BK297.out 2).trans rfl; have hcz43_3 : w37.cell? ⟨gb297, 3, none⟩ = some (.slice A0_3 l0_3.length c0_3) := (blk_cell BK297.out 3).trans rfl; have hfz43_0 := blk_frozen BK297.out 0; have hfz43_1 := blk_frozen BK297.out 1; have hfz43_2 := blk_frozen BK297.out 2; have hfz43_3 := blk_frozen BK297.out 3) | ((with_reducible refine gate_callee (f := 18) rfl ?_); refine goesL_ (some 55) rfl rfl Try.func18 (by kernel_rfl) rfl #[.agg #[.int .i64 a0_0, .int .i64 a0_1, .int .i64 a0_2, .slice A0_3 l0_3.length c0_3]] rfl (by (try simp only [List.map_toArray, List.map_cons, List.map_nil]); first | done | rfl | (simp only [List.length_drop, List.length_take]; rfl)) ?_; (with_reducible refine (watchwordref1_HeadOf.calls k a0_0 a0_1 a0_2 _ _ l0_3 t333 t334 t335 t336 t337 _ ?side1 ?side2 A10.out).mono ?_); (case side1 => exact Kd.C_below HR0_3.out (by repeat (first | (with_reducible first | exact HB.out | apply below_alloc | apply pw_below_drewN | apply below_drew1 | refine below_set ?_ GE297.out | refine below_set ?_ GE304.out | refine below_set ?_ GE317.out | refine below_set ?_ GE326.out | refine below_set ?_ GE332.out) | exact HB.out))); (case side2 => exact HC0_3.out); rintro e w44 ⟨rfl, hb⟩; refine ⟨_, rfl, ?_⟩; have n0_ := Aside0.mk (Kd.R_below (by (with_reducible repeat (first | apply Kd.R_alloc | apply Kd.R_drewN | apply Kd.R_drew)); exact (Kd.R_mono (Kd.R_far (p := ⟨gb332, 3, none⟩) (Kd.R_far (p := ⟨gb332, 2, none⟩) (Kd.R_far (p := ⟨gb332, 1, none⟩) (Kd.R_far (p := ⟨gb332, 0, none⟩) (Kd.R_types HO303.out BK332.out (by decide)) (fun _ hk => hk.2) (.int .i64 t327)) (fun _ hk => hk.2) (.int .i64 t328)) (fun _ hk => hk.2) (.int .i64 t329)) (fun _ hk => hk.2) (.int .i64 t330)) (fun _ h_ => h_.1))) hb); have n1_ := Aside0.mk (Kd.R_below (by (with_reducible repeat (first | apply Kd.R_alloc | apply Kd.R_drewN | apply Kd.R_drew)); exact (Kd.R_mono (Kd.R_far (p := ⟨gb332, 3, none⟩) (Kd.R_far (p := ⟨gb332, 2, none⟩) (Kd.R_far (p := ⟨gb332, 1, none⟩) (Kd.R_far (p := ⟨gb332, 0, none⟩) (Kd.R_types HO314.out BK332.out (by decide)) (fun _ hk => hk.2) (.int .i64 t327)) (fun _ hk => hk.2) (.int .i64 t328)) (fun _ hk => hk.2) (.int .i64 t329)) (fun _ hk => hk.2) (.int .i64 t330)) (fun _ h_ => h_.1))) hb); have n2_ := Aside0.mk (Kd.R_below (by (with_reducible repeat (first | apply Kd.R_alloc | apply Kd.R_drewN | apply Kd.R_drew)); exact (Kd.R_mono (Kd.R_far (p := ⟨gb332, 3, none⟩) (Kd.R_far (p := ⟨gb332, 2, none⟩) (Kd.R_far (p := ⟨gb332, 1, none⟩) (Kd.R_far (p := ⟨gb332, 0, none⟩) (Kd.R_types HO323.out BK332.out (by decide)) (fun _ hk => hk.2) (.int .i64 t327)) (fun _ hk => hk.2) (.int .i64 t328)) (fun _ hk => hk.2) (.int .i64 t329)) (fun _ hk => hk.2) (.int .i64 t330)) (fun _ h_ => h_.1))) hb); have n3_ := Aside0.mk (blk_below (g := gb297) (o := .cells #[.int .i64 a0_0, .int .i64 a0_1, .int .i64 a0_2, .slice A0_3 l0_3.length c0_3] 24 (0, 0)) (by (with_reducible repeat (first | refine blk_drewN ?_ _ | refine blk_drew ?_ | refine blk_alloc ?_ _)); refine blk_far ?_ NB297_332.out _; (with_reducible repeat (first | refine blk_drewN ?_ _ | refine blk_drew ?_ | refine blk_alloc ?_ _)); refine blk_far ?_ NB297_332.out _; (with_reducible repeat (first | refine blk_drewN ?_ _ | refine blk_drew ?_ | refine blk_alloc ?_ _)); refine blk_far ?_ NB297_332.out _; (with_reducible repeat (first | refine blk_drewN ?_ _ | refine blk_drew ?_ | refine blk_alloc ?_ _)); refine blk_far ?_ NB297_332.out _; (with_reducible repeat (first | refine blk_drewN ?_ _ | refine blk_drew ?_ | refine blk_alloc ?_ _)); exact BK297.out) hb); have n4_ := Aside0.mk (blk_below (g := gb304) (o := .cells #[.int .i64 t298, .int .i64 t299, .int .i64 t300, .slice Ao18 t301.length co18] 24 (0, 0)) (by (with_reducible repeat (first | refine blk_drewN ?_ _ | refine blk_drew ?_ | refine blk_alloc ?_ _)); refine blk_far ?_ NB304_332.out _; (with_reducible repeat (first | refine blk_drewN ?_ _ | refine blk_drew ?_ | refine blk_alloc ?_ _)); refine blk_far ?_ NB304_332.out _; (with_reducible repeat (first | refine blk_drewN ?_ _ | refine blk_drew ?_ | refine blk_alloc ?_ _)); refine blk_far ?_ NB304_332.out _; (with_reducible repeat (first | refine blk_drewN ?_ _ | refine blk_drew ?_ | refine blk_alloc ?_ _)); refine blk_far ?_ NB304_332.out _; (with_reducible repeat (first | refine blk_drewN ?_ _ | refine blk_drew ?_ | refine blk_alloc ?_ _)); exact BK304.out) hb); have n5_ := Aside0.mk (blk_below (g := gb317) (o := .cells #[.int .i64 t309, .int .i64 t310, .int .i64 t311, .slice Ao27 t312.length co27] 24 (0, 0)) (by (with_reducible repeat (first | refine blk_drewN ?_ _ | refine blk_drew ?_ | refine blk_alloc ?_ _)); refine blk_far ?_ NB317_332.out _; (with_reducible repeat (first | refine blk_drewN ?_ _ | refine blk_drew ?_ | refine blk_alloc ?_ _)); refine blk_far ?_ NB317_332.out _; (with_reducible repeat (first | refine blk_drewN ?_ _ | refine blk_drew ?_ | refine blk_alloc ?_ _)); refine blk_far ?_ NB317_332.out _; (with_reducible repeat (first | refine blk_drewN ?_ _ | refine blk_drew ?_ | refine blk_alloc ?_ _)); refine blk_far ?_ NB317_332.out _; (with_reducible repeat (first | refine blk_drewN ?_ _ | refine blk_drew ?_ | refine blk_alloc ?_ _)); exact BK317.out) hb); have n6_ := Aside0.mk (blk_below (g := gb326) (o := .cells #[.int .i64 t318, .int .i64 t319, .int .i64 t320, .slice Ao34 t321.length co34] 24 (0, 0)) (by (with_reducible repeat (first | refine blk_drewN ?_ _ | refine blk_drew ?_ | refine blk_alloc ?_ _)); refine blk_far ?_ NB326_332.out _; (with_reducible repeat (first | refine blk_drewN ?_ _ | refine blk_drew ?_ | refine blk_alloc ?_ _)); refine blk_far ?_ NB326_332.out _; (with_reducible repeat (first | refine blk_drewN ?_ _ | refine blk_drew ?_ | refine blk_alloc ?_ _)); refine blk_far ?_ NB326_332.out _; (with_reducible repeat (first | refine blk_drewN ?_ _ | refine blk_drew ?_ | refine blk_alloc ?_ _)); refine blk_far ?_ NB326_332.out _; (with_reducible repeat (first | refine blk_drewN ?_ _ | refine blk_drew ?_ | refine blk_alloc ?_ _)); exact BK326.out) hb); have n7_ := Aside0.mk (blk_below (g := gb332) (o := .cells #[.int .i64 t327, .int .i64 t328, .int .i64 t329, .int .i64 t330] 36 (0, 0)) (by (with_reducible repeat (first | refine blk_drewN ?_ _ | refine blk_drew ?_ | refine blk_alloc ?_ _)); refine blk_put (cs := #[.int .i64 t327, .int .i64 t328, .int .i64 t329, .int .i64 0]) ?_ 3 _ rfl; (with_reducible repeat (first | refine blk_drewN ?_ _ | refine blk_drew ?_ | refine blk_alloc ?_ _)); refine blk_put (cs := #[.int .i64 t327, .int .i64 t328, .int .i64 0, .int .i64 0]) ?_ 2 _ rfl; (with_reducible repeat (first | refine blk_drewN ?_ _ | refine blk_drew ?_ | refine blk_alloc ?_ _)); refine blk_put (cs := #[.int .i64 t327, .int .i64 0, .int .i64 0, .int .i64 0]) ?_ 1 _ rfl; (with_reducible repeat (first | refine blk_drewN ?_ _ | refine blk_drew ?_ | refine blk_alloc ?_ _)); refine blk_put (cs := #[.int .i64 0, .int .i64 0, .int .i64 0, .int .i64 0]) ?_ 0 _ rfl; (with_reducible repeat (first | refine blk_drewN ?_ _ | refine blk_drew ?_ | refine blk_alloc ?_ _)); exact BK332.out) hb); have n8_ := Aside0.mk (below_step (by repeat (first | (with_reducible first | exact HB.out | apply below_alloc | apply pw_below_drewN | apply below_drew1 | refine below_set ?_ GE297.out | refine below_set ?_ GE304.out | refine below_set ?_ GE317.out | refine below_set ?_ GE326.out | refine below_set ?_ GE332.out) | exact HB.out)) hb); clear HO303; clear HO314; clear HO323; clear BK297; clear BK304; clear BK317; clear BK326; clear BK332; clear HB; have HO303 := n0_; have HO314 := n1_; have HO323 := n2_; have BK297 := n3_; have BK304 := n4_; have BK317 := n5_; have BK326 := n6_; have BK332 := n7_; have HB := n8_; clear n0_ n1_ n2_ n3_ n4_ n5_ n6_ n7_ n8_; (try clear hb); (try clear hb2); (try clear hk); (try clear hi)) | ((with_reducible refine gate_dst (N := 20) rfl ?_); refine box_event ?hg (N := 20) ?hd (cs := #[.int .i64 0, .int .i64 0, .int .i64 0, .int .i64 0]) (t := 36) ?hr ?_; (case hd => rfl); (case hg => rfl); (case hr => first | (go_simp; done) | (go_simp; rfl)); intro gb338 hg w45 hbox hb; have n0_ := Aside0.mk (Kd.R_below (by (with_reducible repeat (first | apply Kd.R_alloc | apply Kd.R_drewN | apply Kd.R_drew)); exact HO303.out) hb); have n1_ := Aside0.mk (Kd.R_below (by (with_reducible repeat (first | apply Kd.R_alloc | apply Kd.R_drewN | apply Kd.R_drew)); exact HO314.out) hb); have n2_ := Aside0.mk (Kd.R_below (by (with_reducible repeat (first | apply Kd.R_alloc | apply Kd.R_drewN | apply Kd.R_drew)); exact HO323.out) hb); have n3_ := Aside0.mk (blk_below (g := gb297) (o := .cells #[.int .i64 a0_0, .int .i64 a0_1, .int .i64 a0_2, .slice A0_3 l0_3.length c0_3] 24 (0, 0)) (by (with_reducible repeat (first | refine blk_drewN ?_ _ | refine blk_drew ?_ | refine blk_alloc ?_ _)); exact BK297.out) hb); have n4_ := Aside0.mk (blk_below (g := gb304) (o := .cells #[.int .i64 t298, .int .i64 t299, .int .i64 t300, .slice Ao18 t301.length co18] 24 (0, 0)) (by (with_reducible repeat (first | refine blk_drewN ?_ _ | refine blk_drew ?_ | refine blk_alloc ?_ _)); exact BK304.out) hb); have n5_ := Aside0.mk (blk_below (g := gb317) (o := .cells #[.int .i64 t309, .int .i64 t310, .int .i64 t311, .slice Ao27 t312.length co27] 24 (0, 0)) (by (with_reducible repeat (first | refine blk_drewN ?_ _ | refine blk_drew ?_ | refine blk_alloc ?_ _)); exact BK317.out) hb); have n6_ := Aside0.mk (blk_below (g := gb326) (o := .cells #[.int .i64 t318, .int .i64 t319, .int .i64 t320, .slice Ao34 t321.length co34] 24 (0, 0)) (by (with_reducible repeat (first | refine blk_drewN ?_ _ | refine blk_drew ?_ | refine blk_alloc ?_ _)); exact BK326.out) hb); have n7_ := Aside0.mk (blk_below (g := gb332) (o := .cells #[.int .i64 t327, .int .i64 t328, .int .i64 t329, .int .i64 t330] 36 (0, 0)) (by (with_reducible repeat (first | refine blk_drewN ?_ _ | refine blk_drew ?_ | refine blk_alloc ?_ _)); exact BK332.out) hb); have n8_ := Aside0.mk (below_step (by repeat (first | (with_reducible first | exact HB.out | apply below_alloc | apply pw_below_drewN | apply below_drew1 | refine below_set ?_ GE297.out | refine below_set ?_ GE304.out | refine below_set ?_ GE317.out | refine below_set ?_ GE326.out | refine below_set ?_ GE332.out) | exact HB.out)) hb); have n9_ := Aside0.mk (hbox); have n10_ := Aside0.mk ((by rw [hg]; exact (below_size (by repeat (first | (with_reducible first | exact HB.out | apply below_alloc | apply pw_below_drewN | apply below_drew1 | refine below_set ?_ GE297.out | refine below_set ?_ GE304.out | refine below_set ?_ GE317.out | refine below_set ?_ GE326.out | refine below_set ?_ GE332.out) | exact HB.out))) : w.heap.size ≤ gb338)); have n11_ := Aside0.mk ((by rw [hg]; exact (below_size (by repeat (first | (with_reducible first | exact HB.out | apply below_alloc | apply pw_below_drewN | apply below_drew1 | refine below_set ?_ GE297.out | refine below_set ?_ GE304.out | refine below_set ?_ GE317.out | refine below_set ?_ GE326.out | refine below_set ?_ GE332.out) | exact HB.out))) : w.heap.size ≤ gb338)); have n12_ := Aside0.mk ((by rw [hg]; exact Nat.ne_of_lt (blk_lt (g := gb297) (o := .cells #[.int .i64 a0_0, .int .i64 a0_1, .int .i64 a0_2, .slice A0_3 l0_3.length c0_3] 24 (0, 0)) (by (with_reducible repeat (first | refine blk_drewN ?_ _ | refine blk_drew ?_ | refine blk_alloc ?_ _)); exact BK297.out)) : gb297 ≠ gb338)); have n13_ := Aside0.mk ((by rw [hg]; exact Nat.ne_of_gt (blk_lt (g := gb297) (o := .cells #[.int .i64 a0_0, .int .i64 a0_1, .int .i64 a0_2, .slice A0_3 l0_3.length c0_3] 24 (0, 0)) (by (with_reducible repeat (first | refine blk_drewN ?_ _ | refine blk_drew ?_ | refine blk_alloc ?_ _)); exact BK297.out)) : gb338 ≠ gb297)); have n14_ := Aside0.mk ((by rw [hg]; exact Nat.ne_of_lt (blk_lt (g := gb304) (o := .cells #[.int .i64 t298, .int .i64 t299, .int .i64 t300, .slice Ao18 t301.length co18] 24 (0, 0)) (by (with_reducible repeat (first | refine blk_drewN ?_ _ | refine blk_drew ?_ | refine blk_alloc ?_ _)); exact BK304.out)) : gb304 ≠ gb338)); have n15_ := Aside0.mk ((by rw [hg]; exact Nat.ne_of_gt (blk_lt (g := gb304) (o := .cells #[.int .i64 t298, .int .i64 t299, .int .i64 t300, .slice Ao18 t301.length co18] 24 (0, 0)) (by (with_reducible repeat (first | refine blk_drewN ?_ _ | refine blk_drew ?_ | refine blk_alloc ?_ _)); exact BK304.out)) : gb338 ≠ gb304)); have n16_ := Aside0.mk ((by rw [hg]; exact Nat.ne_of_lt (blk_lt (g := gb317) (o := .cells #[.int .i64 t309, .int .i64 t310, .int .i64 t311, .slice Ao27 t312.length co27] 24 (0, 0)) (by (with_reducible repeat (first | refine blk_drewN ?_ _ | refine blk_drew ?_ | refine blk_alloc ?_ _)); exact BK317.out)) : gb317 ≠ gb338)); have n17_ := Aside0.mk ((by rw [hg]; exact Nat.ne_of_gt (blk_lt (g := gb317) (o := .cells #[.int .i64 t309, .int .i64 t310, .int .i64 t311, .slice Ao27 t312.length co27] 24 (0, 0)) (by (with_reducible repeat (first | refine blk_drewN ?_ _ | refine blk_drew ?_ | refine blk_alloc ?_ _)); exact BK317.out)) : gb338 ≠ gb317)); have n18_ := Aside0.mk ((by rw [hg]; exact Nat.ne_of_lt (blk_lt (g := gb326) (o := .cells #[.int .i64 t318, .int .i64 t319, .int .i64 t320, .slice Ao34 t321.length co34] 24 (0, 0)) (by (with_reducible repeat (first | refine blk_drewN ?_ _ | refine blk_drew ?_ | refine blk_alloc ?_ _)); exact BK326.out)) : gb326 ≠ gb338)); have n19_ := Aside0.mk ((by rw [hg]; exact Nat.ne_of_gt (blk_lt (g := gb326) (o := .cells #[.int .i64 t318, .int .i64 t319, .int .i64 t320, .slice Ao34 t321.length co34] 24 (0, 0)) (by (with_reducible repeat (first | refine blk_drewN ?_ _ | refine blk_drew ?_ | refine blk_alloc ?_ _)); exact BK326.out)) : gb338 ≠ gb326)); have n20_ := Aside0.mk ((by rw [hg]; exact Nat.ne_of_lt (blk_lt (g := gb332) (o := .cells #[.int .i64 t327, .int .i64 t328, .int .i64 t329, .int .i64 t330] 36 (0, 0)) (by (with_reducible repeat (first | refine blk_drewN ?_ _ | refine blk_drew ?_ | refine blk_alloc ?_ _)); exact BK332.out)) : gb332 ≠ gb338)); have n21_ := Aside0.mk ((by rw [hg]; exact Nat.ne_of_gt (blk_lt (g := gb332) (o := .cells #[.int .i64 t327, .int .i64 t328, .int .i64 t329, .int .i64 t330] 36 (0, 0)) (by (with_reducible repeat (first | refine blk_drewN ?_ _ | refine blk_drew ?_ | refine blk_alloc ?_ _)); exact BK332.out)) : gb338 ≠ gb332)); clear HO303; clear HO314; clear HO323; clear BK297; clear BK304; clear BK317; clear BK326; clear BK332; clear HB; have HO303 := n0_; have HO314 := n1_; have HO323 := n2_; have BK297 := n3_; have BK304 := n4_; have BK317 := n5_; have BK326 := n6_; have BK332 := n7_; have HB := n8_; have BK338 := n9_; have GW338 := n10_; have GE338 := n11_; have NB297_338 := n12_; have NB338_297 := n13_; have NB304_338 := n14_; have NB338_304 := n15_; have NB317_338 := n16_; have NB338_317 := n17_; have NB326_338 := n18_; have NB338_326 := n19_; have NB332_338 := n20_; have NB338_332 := n21_; clear n0_ n1_ n2_ n3_ n4_ n5_ n6_ n7_ n8_ n9_ n10_ n11_ n12_ n13_ n14_ n15_ n16_ n17_ n18_ n19_ n20_ n21_; clear hb hbox hg; have hnb46 := NB338_297.out; have hnc46 := NB297_338.out; have hnb47 := NB338_304.out; have hnc47 := NB304_338.out; have hnb48 := NB338_317.out; have hnc48 := NB317_338.out; have hnb49 := NB338_326.out; have hnc49 := NB326_338.out; have hnb50 := NB338_332.out; have hnc50 := NB332_338.out; have hcz51_0 : w45.cell? ⟨gb338, 0, none⟩ = some (.int .i64 0) := (blk_cell BK338.out 0).trans rfl; have hcz51_1 : w45.cell? ⟨gb338, 1, none⟩ = some (.int .i64 0) := (blk_cell BK338.out 1).trans rfl; have hcz51_2 : w45.cell? ⟨gb338, 2, none⟩ = some (.int .i64 0) := (blk_cell BK338.out 2).trans rfl; have hcz51_3 : w45.cell? ⟨gb338, 3, none⟩ = some (.int .i64 0) := (blk_cell BK338.out 3).trans rfl; have hfz51_0 := blk_frozen BK338.out 0; have hfz51_1 := blk_frozen BK338.out 1; have hfz51_2 := blk_frozen BK338.out 2; have hfz51_3 := blk_frozen BK338.out 3))
 (try simp only [Act.put, List.setIfInBounds_toArray, List.set_cons_zero, List.set_cons_succ])
 go_cut [101] (fun v101 wc => ∃ (kq : Nat) (x101_10 : Bool), v101 = .bool x101_10 ∧ Aside0 (watchwordlaw7_Lsas.j0 kq x101_10 a0_0 a0_1 a0_2 l0_3 t298 t299 t300 t301 t309 t310 t311 t312 = some r) ∧ Aside0 (kq ≤ k) ∧ Aside0 (Kd.R k49 49 wc w.heap.size (fun k_ => some k_ ≠ ((.slice Ao27 t312.length co27) : Value).ownBlock ∧ some k_ ≠ ((.slice Ao34 t321.length co34) : Value).ownBlock) (.slice Ao18 t301.length co18) t301) ∧ Aside0 (Kd.R k49 49 wc w.heap.size (fun k_ => some k_ ≠ ((.slice Ao18 t301.length co18) : Value).ownBlock ∧ some k_ ≠ ((.slice Ao34 t321.length co34) : Value).ownBlock) (.slice Ao27 t312.length co27) t312) ∧ Aside0 (Kd.R k49 49 wc w.heap.size (fun k_ => some k_ ≠ ((.slice Ao18 t301.length co18) : Value).ownBlock ∧ some k_ ≠ ((.slice Ao27 t312.length co27) : Value).ownBlock) (.slice Ao34 t321.length co34) t321) ∧ Aside0 (wc.heap[gb297]? = some (.cells #[.int .i64 a0_0, .int .i64 a0_1, .int .i64 a0_2, (.slice A0_3 l0_3.length c0_3)] 24 (0, 0))) ∧ Aside0 (wc.heap[gb304]? = some (.cells #[.int .i64 t298, .int .i64 t299, .int .i64 t300, (.slice Ao18 t301.length co18)] 24 (0, 0))) ∧ Aside0 (wc.heap[gb317]? = some (.cells #[.int .i64 t309, .int .i64 t310, .int .i64 t311, (.slice Ao27 t312.length co27)] 24 (0, 0))) ∧ Aside0 (wc.heap[gb326]? = some (.cells #[.int .i64 t318, .int .i64 t319, .int .i64 t320, (.slice Ao34 t321.length co34)] 24 (0, 0))) ∧ Aside0 (wc.heap[gb332]? = some (.cells #[.int .i64 t327, .int .i64 t328, .int .i64 t329, .int .i64 t330] 36 (0, 0))) ∧ Aside0 (wc.heap[gb338]? = some (.cells #[.int .i64 t333, .int .i64 t334, .int .i64 t335, .int .i64 t336] 36 (0, 0))) ∧ Aside0 (Below w.heap.size w wc))
 case first =>
  have H := HC11.out
  clear HC11
  by_cases c52 : t305.toList = t307.toList
  ·rw [if_pos c52] at H
   have c52b0 : (t305.toList == t307.toList) = true := beq_iff_eq.mpr c52
   have c52b1 : (t305.toList != t307.toList) = false := bne_eq_false_iff_eq.mpr c52
   clear c52
   (first | rw [c52b0] | (simp only [i64_w, i32_w]; rw [c52b0]) | skip)
   replace H := Option.bind_eq_some_iff.mp H
   obtain ⟨t339, A530, H⟩ := H
   replace H : (if t339 = t308 then ((watchwordlaw0_SameLsa.f k t309 t310 t311 t312 t318 t319 t320 t321).bind fun t340 => (if t340 = true then (if t315 = t324 then ((watchwordlaw0_Num.f t316).bind fun t341 => (if t341 = t325 then (if (!(t327 == t333) || (!(t328 == t334) || (!(t329 == t335) || (!(t330 == t336))))) = true then (watchwordlaw7_Lsas.j0 k true a0_0 a0_1 a0_2 l0_3 t298 t299 t300 t301 t309 t310 t311 t312) else ((watchwordlaw0_Num.f t331).bind fun t342 => (if t342 = t337 then ((lsa_May.f k t298 t299 t300 t301).bind fun t343 => ((watchwordref1_LsaMay.f k a0_0 a0_1 a0_2 l0_3).bind fun t344 => (watchwordlaw7_Lsas.j0 k (t343 != t344) a0_0 a0_1 a0_2 l0_3 t298 t299 t300 t301 t309 t310 t311 t312))) else (watchwordlaw7_Lsas.j0 k true a0_0 a0_1 a0_2 l0_3 t298 t299 t300 t301 t309 t310 t311 t312)))) else (watchwordlaw7_Lsas.j0 k true a0_0 a0_1 a0_2 l0_3 t298 t299 t300 t301 t309 t310 t311 t312))) else (watchwordlaw7_Lsas.j0 k true a0_0 a0_1 a0_2 l0_3 t298 t299 t300 t301 t309 t310 t311 t312)) else (watchwordlaw7_Lsas.j0 k true a0_0 a0_1 a0_2 l0_3 t298 t299 t300 t301 t309 t310 t311 t312))) else (watchwordlaw7_Lsas.j0 k true a0_0 a0_1 a0_2 l0_3 t298 t299 t300 t301 t309 t310 t311 t312)) = some r := H
   have A53 := Aside0.mk A530
   clear A530
   by_cases c54 : t339 = t308
   ·rw [if_pos c54] at H
    have c54b0 : (t339 == t308) = true := beq_iff_eq.mpr c54
    have c54b1 : (t339 != t308) = false := bne_eq_false_iff_eq.mpr c54
    clear c54
    replace H := Option.bind_eq_some_iff.mp H
    obtain ⟨t340, A550, H⟩ := H
    replace H : (if t340 = true then (if t315 = t324 then ((watchwordlaw0_Num.f t316).bind fun t341 => (if t341 = t325 then (if (!(t327 == t333) || (!(t328 == t334) || (!(t329 == t335) || (!(t330 == t336))))) = true then (watchwordlaw7_Lsas.j0 k true a0_0 a0_1 a0_2 l0_3 t298 t299 t300 t301 t309 t310 t311 t312) else ((watchwordlaw0_Num.f t331).bind fun t342 => (if t342 = t337 then ((lsa_May.f k t298 t299 t300 t301).bind fun t343 => ((watchwordref1_LsaMay.f k a0_0 a0_1 a0_2 l0_3).bind fun t344 => (watchwordlaw7_Lsas.j0 k (t343 != t344) a0_0 a0_1 a0_2 l0_3 t298 t299 t300 t301 t309 t310 t311 t312))) else (watchwordlaw7_Lsas.j0 k true a0_0 a0_1 a0_2 l0_3 t298 t299 t300 t301 t309 t310 t311 t312)))) else (watchwordlaw7_Lsas.j0 k true a0_0 a0_1 a0_2 l0_3 t298 t299 t300 t301 t309 t310 t311 t312))) else (watchwordlaw7_Lsas.j0 k true a0_0 a0_1 a0_2 l0_3 t298 t299 t300 t301 t309 t310 t311 t312)) else (watchwordlaw7_Lsas.j0 k true a0_0 a0_1 a0_2 l0_3 t298 t299 t300 t301 t309 t310 t311 t312)) = some r := H
    have A55 := Aside0.mk A550
    clear A550
    by_cases c56 : t340 = true
    ·subst c56
     have H1 : (if t315 = t324 then ((watchwordlaw0_Num.f t316).bind fun t341 => (if t341 = t325 then (if (!(t327 == t333) || (!(t328 == t334) || (!(t329 == t335) || (!(t330 == t336))))) = true then (watchwordlaw7_Lsas.j0 k true a0_0 a0_1 a0_2 l0_3 t298 t299 t300 t301 t309 t310 t311 t312) else ((watchwordlaw0_Num.f t331).bind fun t342 => (if t342 = t337 then ((lsa_May.f k t298 t299 t300 t301).bind fun t343 => ((watchwordref1_LsaMay.f k a0_0 a0_1 a0_2 l0_3).bind fun t344 => (watchwordlaw7_Lsas.j0 k (t343 != t344) a0_0 a0_1 a0_2 l0_3 t298 t299 t300 t301 t309 t310 t311 t312))) else (watchwordlaw7_Lsas.j0 k true a0_0 a0_1 a0_2 l0_3 t298 t299 t300 t301 t309 t310 t311 t312)))) else (watchwordlaw7_Lsas.j0 k true a0_0 a0_1 a0_2 l0_3 t298 t299 t300 t301 t309 t310 t311 t312))) else (watchwordlaw7_Lsas.j0 k true a0_0 a0_1 a0_2 l0_3 t298 t299 t300 t301 t309 t310 t311 t312)) = some r := by rw [if_pos rfl] at H; exact H
     clear H
     have H := H1
     clear H1
     by_cases c57 : t315 = t324
     ·rw [if_pos c57] at H
      have c57b0 : (t315 == t324) = true := beq_iff_eq.mpr c57
      have c57b1 : (t315 != t324) = false := bne_eq_false_iff_eq.mpr c57
      clear c57
      replace H := Option.bind_eq_some_iff.mp H
      obtain ⟨t341, A580, H⟩ := H
      replace H : (if t341 = t325 then (if (!(t327 == t333) || (!(t328 == t334) || (!(t329 == t335) || (!(t330 == t336))))) = true then (watchwordlaw7_Lsas.j0 k true a0_0 a0_1 a0_2 l0_3 t298 t299 t300 t301 t309 t310 t311 t312) else ((watchwordlaw0_Num.f t331).bind fun t342 => (if t342 = t337 then ((lsa_May.f k t298 t299 t300 t301).bind fun t343 => ((watchwordref1_LsaMay.f k a0_0 a0_1 a0_2 l0_3).bind fun t344 => (watchwordlaw7_Lsas.j0 k (t343 != t344) a0_0 a0_1 a0_2 l0_3 t298 t299 t300 t301 t309 t310 t311 t312))) else (watchwordlaw7_Lsas.j0 k true a0_0 a0_1 a0_2 l0_3 t298 t299 t300 t301 t309 t310 t311 t312)))) else (watchwordlaw7_Lsas.j0 k true a0_0 a0_1 a0_2 l0_3 t298 t299 t300 t301 t309 t310 t311 t312)) = some r := H
      have A58 := Aside0.mk A580
      clear A580
      by_cases c59 : t341 = t325
      ·rw [if_pos c59] at H
       have c59b0 : (t341 == t325) = true := beq_iff_eq.mpr c59
       have c59b1 : (t341 != t325) = false := bne_eq_false_iff_eq.mpr c59
       clear c59
       by_cases c60 : (!(t327 == t333) || (!(t328 == t334) || (!(t329 == t335) || (!(t330 == t336))))) = true
       ·rw [if_pos c60] at H
        have c60b0 : (!(t327 == t333) || (!(t328 == t334) || (!(t329 == t335) || (!(t330 == t336))))) = true := c60
        clear c60
        exact absurd H (fun h_ => (by
         have hd_ : ∀ k_, watchwordlaw7_Lsas.j0 k_ true a0_0 a0_1 a0_2 l0_3 t298 t299 t300 t301 t309 t310 t311 t312 = some r → False := by
          intro k_ h_
          cases k_ with
          | zero => exact absurd h_ (by simp [watchwordlaw7_Lsas.j0])
          | succ k_ =>
           simp only [watchwordlaw7_Lsas.j0, if_true] at h_
           exact absurd (Option.some.inj h_) (by rw [HT.out]; decide)
         exact hd_ _ h_))
       ·rw [if_neg c60] at H
        have c60b0 : (!(t327 == t333) || (!(t328 == t334) || (!(t329 == t335) || (!(t330 == t336))))) = false := by simpa using c60
        clear c60
        replace H := Option.bind_eq_some_iff.mp H
        obtain ⟨t342, A610, H⟩ := H
        replace H : (if t342 = t337 then ((lsa_May.f k t298 t299 t300 t301).bind fun t343 => ((watchwordref1_LsaMay.f k a0_0 a0_1 a0_2 l0_3).bind fun t344 => (watchwordlaw7_Lsas.j0 k (t343 != t344) a0_0 a0_1 a0_2 l0_3 t298 t299 t300 t301 t309 t310 t311 t312))) else (watchwordlaw7_Lsas.j0 k true a0_0 a0_1 a0_2 l0_3 t298 t299 t300 t301 t309 t310 t311 t312)) = some r := H
        have A61 := Aside0.mk A610
        clear A610
        by_cases c62 : t342 = t337
        ·rw [if_pos c62] at H
         have c62b0 : (t342 == t337) = true := beq_iff_eq.mpr c62
         have c62b1 : (t342 != t337) = false := bne_eq_false_iff_eq.mpr c62
         clear c62
         replace H := Option.bind_eq_some_iff.mp H
         obtain ⟨t343, A630, H⟩ := H
         replace H : ((watchwordref1_LsaMay.f k a0_0 a0_1 a0_2 l0_3).bind fun t344 => (watchwordlaw7_Lsas.j0 k (t343 != t344) a0_0 a0_1 a0_2 l0_3 t298 t299 t300 t301 t309 t310 t311 t312)) = some r := H
         have A63 := Aside0.mk A630
         clear A630
         replace H := Option.bind_eq_some_iff.mp H
         obtain ⟨t344, A640, H⟩ := H
         replace H : (watchwordlaw7_Lsas.j0 k (t343 != t344) a0_0 a0_1 a0_2 l0_3 t298 t299 t300 t301 t309 t310 t311 t312) = some r := H
         have A64 := Aside0.mk A640
         clear A640
         have H' := Aside0.mk H
         clear H
         try go_wp2
         have n0_ : Aside0 (Kd.R k49 49 ((((w45.setCell ⟨gb338, 0, none⟩ (.int .i64 t333)).setCell ⟨gb338, 1, none⟩ (.int .i64 t334)).setCell ⟨gb338, 2, none⟩ (.int .i64 t335)).setCell ⟨gb338, 3, none⟩ (.int .i64 t336)) w.heap.size (fun k_ => some k_ ≠ (.slice Ao27 t312.length co27 : Value).ownBlock ∧ some k_ ≠ (.slice Ao34 t321.length co34 : Value).ownBlock) (.slice Ao18 t301.length co18) t301) := ⟨by (with_reducible repeat (first | apply Kd.R_alloc | apply Kd.R_drewN | apply Kd.R_drew)); exact Kd.R_mono (Kd.R_far (p := ⟨gb338, 3, none⟩) (Kd.R_far (p := ⟨gb338, 2, none⟩) (Kd.R_far (p := ⟨gb338, 1, none⟩) (Kd.R_far (p := ⟨gb338, 0, none⟩) (Kd.R_types HO303.out BK338.out (by decide)) (fun _ hk => hk.2) (.int .i64 t333)) (fun _ hk => hk.2) (.int .i64 t334)) (fun _ hk => hk.2) (.int .i64 t335)) (fun _ hk => hk.2) (.int .i64 t336)) (fun _ hk => ⟨hk.1.1.2, hk.1.2⟩)⟩
         have n1_ : Aside0 (Kd.R k49 49 ((((w45.setCell ⟨gb338, 0, none⟩ (.int .i64 t333)).setCell ⟨gb338, 1, none⟩ (.int .i64 t334)).setCell ⟨gb338, 2, none⟩ (.int .i64 t335)).setCell ⟨gb338, 3, none⟩ (.int .i64 t336)) w.heap.size (fun k_ => some k_ ≠ (.slice Ao18 t301.length co18 : Value).ownBlock ∧ some k_ ≠ (.slice Ao34 t321.length co34 : Value).ownBlock) (.slice Ao27 t312.length co27) t312) := ⟨by (with_reducible repeat (first | apply Kd.R_alloc | apply Kd.R_drewN | apply Kd.R_drew)); exact Kd.R_mono (Kd.R_far (p := ⟨gb338, 3, none⟩) (Kd.R_far (p := ⟨gb338, 2, none⟩) (Kd.R_far (p := ⟨gb338, 1, none⟩) (Kd.R_far (p := ⟨gb338, 0, none⟩) (Kd.R_types HO314.out BK338.out (by decide)) (fun _ hk => hk.2) (.int .i64 t333)) (fun _ hk => hk.2) (.int .i64 t334)) (fun _ hk => hk.2) (.int .i64 t335)) (fun _ hk => hk.2) (.int .i64 t336)) (fun _ hk => ⟨hk.1.1.2, hk.1.2⟩)⟩
         have n2_ : Aside0 (Kd.R k49 49 ((((w45.setCell ⟨gb338, 0, none⟩ (.int .i64 t333)).setCell ⟨gb338, 1, none⟩ (.int .i64 t334)).setCell ⟨gb338, 2, none⟩ (.int .i64 t335)).setCell ⟨gb338, 3, none⟩ (.int .i64 t336)) w.heap.size (fun k_ => some k_ ≠ (.slice Ao18 t301.length co18 : Value).ownBlock ∧ some k_ ≠ (.slice Ao27 t312.length co27 : Value).ownBlock) (.slice Ao34 t321.length co34) t321) := ⟨by (with_reducible repeat (first | apply Kd.R_alloc | apply Kd.R_drewN | apply Kd.R_drew)); exact Kd.R_mono (Kd.R_far (p := ⟨gb338, 3, none⟩) (Kd.R_far (p := ⟨gb338, 2, none⟩) (Kd.R_far (p := ⟨gb338, 1, none⟩) (Kd.R_far (p := ⟨gb338, 0, none⟩) (Kd.R_types HO323.out BK338.out (by decide)) (fun _ hk => hk.2) (.int .i64 t333)) (fun _ hk => hk.2) (.int .i64 t334)) (fun _ hk => hk.2) (.int .i64 t335)) (fun _ hk => hk.2) (.int .i64 t336)) (fun _ hk => ⟨hk.1.1.2, hk.1.2⟩)⟩
         have n3_ : Aside0 (((((w45.setCell ⟨gb338, 0, none⟩ (.int .i64 t333)).setCell ⟨gb338, 1, none⟩ (.int .i64 t334)).setCell ⟨gb338, 2, none⟩ (.int .i64 t335)).setCell ⟨gb338, 3, none⟩ (.int .i64 t336)).heap[gb297]? = some (.cells #[.int .i64 a0_0, .int .i64 a0_1, .int .i64 a0_2, .slice A0_3 l0_3.length c0_3] 24 (0, 0))) := ⟨by (with_reducible repeat (first | refine blk_drewN ?_ _ | refine blk_drew ?_ | refine blk_alloc ?_ _)); refine blk_far ?_ NB297_338.out _; (with_reducible repeat (first | refine blk_drewN ?_ _ | refine blk_drew ?_ | refine blk_alloc ?_ _)); refine blk_far ?_ NB297_338.out _; (with_reducible repeat (first | refine blk_drewN ?_ _ | refine blk_drew ?_ | refine blk_alloc ?_ _)); refine blk_far ?_ NB297_338.out _; (with_reducible repeat (first | refine blk_drewN ?_ _ | refine blk_drew ?_ | refine blk_alloc ?_ _)); refine blk_far ?_ NB297_338.out _; (with_reducible repeat (first | refine blk_drewN ?_ _ | refine blk_drew ?_ | refine blk_alloc ?_ _)); exact BK297.out⟩
         have n4_ : Aside0 (((((w45.setCell ⟨gb338, 0, none⟩ (.int .i64 t333)).setCell ⟨gb338, 1, none⟩ (.int .i64 t334)).setCell ⟨gb338, 2, none⟩ (.int .i64 t335)).setCell ⟨gb338, 3, none⟩ (.int .i64 t336)).heap[gb304]? = some (.cells #[.int .i64 t298, .int .i64 t299, .int .i64 t300, .slice Ao18 t301.length co18] 24 (0, 0))) := ⟨by (with_reducible repeat (first | refine blk_drewN ?_ _ | refine blk_drew ?_ | refine blk_alloc ?_ _)); refine blk_far ?_ NB304_338.out _; (with_reducible repeat (first | refine blk_drewN ?_ _ | refine blk_drew ?_ | refine blk_alloc ?_ _)); refine blk_far ?_ NB304_338.out _; (with_reducible repeat (first | refine blk_drewN ?_ _ | refine blk_drew ?_ | refine blk_alloc ?_ _)); refine blk_far ?_ NB304_338.out _; (with_reducible repeat (first | refine blk_drewN ?_ _ | refine blk_drew ?_ | refine blk_alloc ?_ _)); refine blk_far ?_ NB304_338.out _; (with_reducible repeat (first | refine blk_drewN ?_ _ | refine blk_drew ?_ | refine blk_alloc ?_ _)); exact BK304.out⟩
         have n5_ : Aside0 (((((w45.setCell ⟨gb338, 0, none⟩ (.int .i64 t333)).setCell ⟨gb338, 1, none⟩ (.int .i64 t334)).setCell ⟨gb338, 2, none⟩ (.int .i64 t335)).setCell ⟨gb338, 3, none⟩ (.int .i64 t336)).heap[gb317]? = some (.cells #[.int .i64 t309, .int .i64 t310, .int .i64 t311, .slice Ao27 t312.length co27] 24 (0, 0))) := ⟨by (with_reducible repeat (first | refine blk_drewN ?_ _ | refine blk_drew ?_ | refine blk_alloc ?_ _)); refine blk_far ?_ NB317_338.out _; (with_reducible repeat (first | refine blk_drewN ?_ _ | refine blk_drew ?_ | refine blk_alloc ?_ _)); refine blk_far ?_ NB317_338.out _; (with_reducible repeat (first | refine blk_drewN ?_ _ | refine blk_drew ?_ | refine blk_alloc ?_ _)); refine blk_far ?_ NB317_338.out _; (with_reducible repeat (first | refine blk_drewN ?_ _ | refine blk_drew ?_ | refine blk_alloc ?_ _)); refine blk_far ?_ NB317_338.out _; (with_reducible repeat (first | refine blk_drewN ?_ _ | refine blk_drew ?_ | refine blk_alloc ?_ _)); exact BK317.out⟩
         have n6_ : Aside0 (((((w45.setCell ⟨gb338, 0, none⟩ (.int .i64 t333)).setCell ⟨gb338, 1, none⟩ (.int .i64 t334)).setCell ⟨gb338, 2, none⟩ (.int .i64 t335)).setCell ⟨gb338, 3, none⟩ (.int .i64 t336)).heap[gb326]? = some (.cells #[.int .i64 t318, .int .i64 t319, .int .i64 t320, .slice Ao34 t321.length co34] 24 (0, 0))) := ⟨by (with_reducible repeat (first | refine blk_drewN ?_ _ | refine blk_drew ?_ | refine blk_alloc ?_ _)); refine blk_far ?_ NB326_338.out _; (with_reducible repeat (first | refine blk_drewN ?_ _ | refine blk_drew ?_ | refine blk_alloc ?_ _)); refine blk_far ?_ NB326_338.out _; (with_reducible repeat (first | refine blk_drewN ?_ _ | refine blk_drew ?_ | refine blk_alloc ?_ _)); refine blk_far ?_ NB326_338.out _; (with_reducible repeat (first | refine blk_drewN ?_ _ | refine blk_drew ?_ | refine blk_alloc ?_ _)); refine blk_far ?_ NB326_338.out _; (with_reducible repeat (first | refine blk_drewN ?_ _ | refine blk_drew ?_ | refine blk_alloc ?_ _)); exact BK326.out⟩
         have n7_ : Aside0 (((((w45.setCell ⟨gb338, 0, none⟩ (.int .i64 t333)).setCell ⟨gb338, 1, none⟩ (.int .i64 t334)).setCell ⟨gb338, 2, none⟩ (.int .i64 t335)).setCell ⟨gb338, 3, none⟩ (.int .i64 t336)).heap[gb332]? = some (.cells #[.int .i64 t327, .int .i64 t328, .int .i64 t329, .int .i64 t330] 36 (0, 0))) := ⟨by (with_reducible repeat (first | refine blk_drewN ?_ _ | refine blk_drew ?_ | refine blk_alloc ?_ _)); refine blk_far ?_ NB332_338.out _; (with_reducible repeat (first | refine blk_drewN ?_ _ | refine blk_drew ?_ | refine blk_alloc ?_ _)); refine blk_far ?_ NB332_338.out _; (with_reducible repeat (first | refine blk_drewN ?_ _ | refine blk_drew ?_ | refine blk_alloc ?_ _)); refine blk_far ?_ NB332_338.out _; (with_reducible repeat (first | refine blk_drewN ?_ _ | refine blk_drew ?_ | refine blk_alloc ?_ _)); refine blk_far ?_ NB332_338.out _; (with_reducible repeat (first | refine blk_drewN ?_ _ | refine blk_drew ?_ | refine blk_alloc ?_ _)); exact BK332.out⟩
         have n8_ : Aside0 (((((w45.setCell ⟨gb338, 0, none⟩ (.int .i64 t333)).setCell ⟨gb338, 1, none⟩ (.int .i64 t334)).setCell ⟨gb338, 2, none⟩ (.int .i64 t335)).setCell ⟨gb338, 3, none⟩ (.int .i64 t336)).heap[gb338]? = some (.cells #[.int .i64 t333, .int .i64 t334, .int .i64 t335, .int .i64 t336] 36 (0, 0))) := ⟨by (with_reducible repeat (first | refine blk_drewN ?_ _ | refine blk_drew ?_ | refine blk_alloc ?_ _)); refine blk_put (cs := #[.int .i64 t333, .int .i64 t334, .int .i64 t335, .int .i64 0]) ?_ 3 _ rfl; (with_reducible repeat (first | refine blk_drewN ?_ _ | refine blk_drew ?_ | refine blk_alloc ?_ _)); refine blk_put (cs := #[.int .i64 t333, .int .i64 t334, .int .i64 0, .int .i64 0]) ?_ 2 _ rfl; (with_reducible repeat (first | refine blk_drewN ?_ _ | refine blk_drew ?_ | refine blk_alloc ?_ _)); refine blk_put (cs := #[.int .i64 t333, .int .i64 0, .int .i64 0, .int .i64 0]) ?_ 1 _ rfl; (with_reducible repeat (first | refine blk_drewN ?_ _ | refine blk_drew ?_ | refine blk_alloc ?_ _)); refine blk_put (cs := #[.int .i64 0, .int .i64 0, .int .i64 0, .int .i64 0]) ?_ 0 _ rfl; (with_reducible repeat (first | refine blk_drewN ?_ _ | refine blk_drew ?_ | refine blk_alloc ?_ _)); exact BK338.out⟩
         have n9_ : Aside0 (Below w.heap.size w ((((w45.setCell ⟨gb338, 0, none⟩ (.int .i64 t333)).setCell ⟨gb338, 1, none⟩ (.int .i64 t334)).setCell ⟨gb338, 2, none⟩ (.int .i64 t335)).setCell ⟨gb338, 3, none⟩ (.int .i64 t336))) := ⟨by repeat (first | (with_reducible first | exact HB.out | apply below_alloc | apply pw_below_drewN | apply below_drew1 | refine below_set ?_ GE297.out | refine below_set ?_ GE304.out | refine below_set ?_ GE317.out | refine below_set ?_ GE326.out | refine below_set ?_ GE332.out | refine below_set ?_ GE338.out) | exact HB.out)⟩
         (try clear HO303)
         (try clear HO314)
         (try clear HO323)
         (try clear BK297)
         (try clear BK304)
         (try clear BK317)
         (try clear BK326)
         (try clear BK332)
         (try clear BK338)
         (try clear HB)
         generalize ((((w45.setCell ⟨gb338, 0, none⟩ (.int .i64 t333)).setCell ⟨gb338, 1, none⟩ (.int .i64 t334)).setCell ⟨gb338, 2, none⟩ (.int .i64 t335)).setCell ⟨gb338, 3, none⟩ (.int .i64 t336)) = w65 at n0_ n1_ n2_ n3_ n4_ n5_ n6_ n7_ n8_ n9_ ⊢
         have HO303 := n0_
         have HO314 := n1_
         have HO323 := n2_
         have BK297 := n3_
         have BK304 := n4_
         have BK317 := n5_
         have BK326 := n6_
         have BK332 := n7_
         have BK338 := n8_
         have HB := n9_
         clear n0_ n1_ n2_ n3_ n4_ n5_ n6_ n7_ n8_ n9_
         have n0_ := Aside0.mk (Kd.R_drew HO303.out)
         have n1_ := Aside0.mk (Kd.R_drew HO314.out)
         have n2_ := Aside0.mk (Kd.R_drew HO323.out)
         have n3_ := Aside0.mk (blk_drew BK297.out)
         have n4_ := Aside0.mk (blk_drew BK304.out)
         have n5_ := Aside0.mk (blk_drew BK317.out)
         have n6_ := Aside0.mk (blk_drew BK326.out)
         have n7_ := Aside0.mk (blk_drew BK332.out)
         have n8_ := Aside0.mk (blk_drew BK338.out)
         have n9_ := Aside0.mk (below_drew1 HB.out)
         clear HO303
         clear HO314
         clear HO323
         clear BK297
         clear BK304
         clear BK317
         clear BK326
         clear BK332
         clear BK338
         clear HB
         have HO303 := n0_
         have HO314 := n1_
         have HO323 := n2_
         have BK297 := n3_
         have BK304 := n4_
         have BK317 := n5_
         have BK326 := n6_
         have BK332 := n7_
         have BK338 := n8_
         have HB := n9_
         clear n0_ n1_ n2_ n3_ n4_ n5_ n6_ n7_ n8_ n9_
         refine start_ (n := 44) (S := fun w' => w'.cell? ⟨gb317, 0, none⟩ = some (.int .i64 t309) ∧ w'.cell? ⟨gb317, 1, none⟩ = some (.int .i64 t310) ∧ w'.cell? ⟨gb317, 2, none⟩ = some (.int .i64 t311) ∧ w'.cell? ⟨gb317, 3, none⟩ = some (.slice Ao27 t312.length co27) ∧ w'.cell? ⟨gb326, 0, none⟩ = some (.int .i64 t318) ∧ w'.cell? ⟨gb326, 1, none⟩ = some (.int .i64 t319) ∧ w'.cell? ⟨gb326, 2, none⟩ = some (.int .i64 t320) ∧ w'.cell? ⟨gb326, 3, none⟩ = some (.slice Ao34 t321.length co34) ∧ w'.cell? ⟨gb332, 0, none⟩ = some (.int .i64 t327) ∧ w'.cell? ⟨gb332, 1, none⟩ = some (.int .i64 t328) ∧ w'.cell? ⟨gb332, 2, none⟩ = some (.int .i64 t329) ∧ w'.cell? ⟨gb332, 3, none⟩ = some (.int .i64 t330) ∧ w'.cell? ⟨gb338, 0, none⟩ = some (.int .i64 t333) ∧ w'.cell? ⟨gb338, 1, none⟩ = some (.int .i64 t334) ∧ w'.cell? ⟨gb338, 2, none⟩ = some (.int .i64 t335) ∧ w'.cell? ⟨gb338, 3, none⟩ = some (.int .i64 t336) ∧ w'.cell? ⟨gb304, 0, none⟩ = some (.int .i64 t298) ∧ w'.cell? ⟨gb304, 1, none⟩ = some (.int .i64 t299) ∧ w'.cell? ⟨gb304, 2, none⟩ = some (.int .i64 t300) ∧ w'.cell? ⟨gb304, 3, none⟩ = some (.slice Ao18 t301.length co18) ∧ w'.cell? ⟨gb297, 0, none⟩ = some (.int .i64 a0_0) ∧ w'.cell? ⟨gb297, 1, none⟩ = some (.int .i64 a0_1) ∧ w'.cell? ⟨gb297, 2, none⟩ = some (.int .i64 a0_2) ∧ w'.cell? ⟨gb297, 3, none⟩ = some (.slice A0_3 l0_3.length c0_3)) (ds := []) #[false, false, false, false, false, false, false, false, false, false, false, false, false, false, false, false, false, false, false, false, false, false, false, false, false, false, false, false, false, false, false, false, false, false, false, false, false, false, false, false, false, false, false, false] (by kernel_rfl) rfl rfl ⟨(blk_cell BK317.out 0).trans rfl, (blk_cell BK317.out 1).trans rfl, (blk_cell BK317.out 2).trans rfl, (blk_cell BK317.out 3).trans rfl, (blk_cell BK326.out 0).trans rfl, (blk_cell BK326.out 1).trans rfl, (blk_cell BK326.out 2).trans rfl, (blk_cell BK326.out 3).trans rfl, (blk_cell BK332.out 0).trans rfl, (blk_cell BK332.out 1).trans rfl, (blk_cell BK332.out 2).trans rfl, (blk_cell BK332.out 3).trans rfl, (blk_cell BK338.out 0).trans rfl, (blk_cell BK338.out 1).trans rfl, (blk_cell BK338.out 2).trans rfl, (blk_cell BK338.out 3).trans rfl, (blk_cell BK304.out 0).trans rfl, (blk_cell BK304.out 1).trans rfl, (blk_cell BK304.out 2).trans rfl, (blk_cell BK304.out 3).trans rfl, (blk_cell BK297.out 0).trans rfl, (blk_cell BK297.out 1).trans rfl, (blk_cell BK297.out 2).trans rfl, (blk_cell BK297.out 3).trans rfl⟩ (fun hHeld => ?_); refine with_tabW watchwordlaw7_Lsas.tab8 watchwordlaw7_Lsas.bits8 (fun HT_ HW_ => ?_)
         generalize w65.drew = w66 at HO303 HO314 HO323 BK297 BK304 BK317 BK326 BK332 BK338 HB hHeld ⊢
         refine pure_ (i := 0) (N := some 58) (v := ?_) (a' := ?_) #[true, false, false, false, false, false, false, false, false, false, false, false, false, false, false, false, false, false, false, false, false, false, false, false, false, false, false, false, false, false, false, false, false, false, false, false, false, false, false, false, false, false, false, false] rfl rfl (any_of HT_.out (by kernel_rfl)) (fun _ _ _ h => h) (Or.inl ⟨by rfl, ?_⟩) ?_ ?_
         rotate_left
         ·intro w'
          go_simp
          with_reducible rfl
         rotate_left
         ·simp only [Act.put, List.setIfInBounds_toArray, List.set_cons_zero, List.set_cons_succ, i64_w, i32_w]
          rfl
         refine pure_ (i := 1) (N := some 59) (v := ?_) (a' := ?_) #[true, true, false, false, false, false, false, false, false, false, false, false, false, false, false, false, false, false, false, false, false, false, false, false, false, false, false, false, false, false, false, false, false, false, false, false, false, false, false, false, false, false, false, false] rfl rfl (any_of HT_.out (by kernel_rfl)) (fun _ _ _ h => h) (Or.inl ⟨by rfl, ?_⟩) ?_ ?_
         rotate_left
         ·intro w'
          go_simp
          with_reducible rfl
         rotate_left
         ·simp only [Act.put, List.setIfInBounds_toArray, List.set_cons_zero, List.set_cons_succ, i64_w, i32_w]
          rfl
         refine pure_ (i := 2) (N := some 60) (v := ?_) (a' := ?_) #[true, true, true, false, false, false, false, false, false, false, false, false, false, false, false, false, false, false, false, false, false, false, false, false, false, false, false, false, false, false, false, false, false, false, false, false, false, false, false, false, false, false, false, false] rfl rfl (any_of HT_.out (by kernel_rfl)) (fun _ _ _ h => h) (Or.inl ⟨by rfl, ?_⟩) ?_ ?_
         rotate_left
         ·intro w'
          go_simp
          with_reducible rfl
         rotate_left
         ·simp only [Act.put, List.setIfInBounds_toArray, List.set_cons_zero, List.set_cons_succ, i64_w, i32_w]
          rfl
         refine pure_ (i := 3) (N := some 61) (v := ?_) (a' := ?_) #[true, true, true, true, false, false, false, false, false, false, false, false, false, false, false, false, false, false, false, false, false, false, false, false, false, false, false, false, false, false, false, false, false, false, false, false, false, false, false, false, false, false, false, false] rfl rfl (any_of HT_.out (by kernel_rfl)) (fun _ _ _ h => h) (Or.inl ⟨by rfl, ?_⟩) ?_ ?_
         rotate_left
         ·intro w'
          go_simp
          with_reducible rfl
         rotate_left
         ·simp only [Act.put, List.setIfInBounds_toArray, List.set_cons_zero, List.set_cons_succ, i64_w, i32_w]
          rfl
         refine pure_ (i := 4) (N := some 62) (v := ?_) (a' := ?_) #[true, true, true, true, true, false, false, false, false, false, false, false, false, false, false, false, false, false, false, false, false, false, false, false, false, false, false, false, false, false, false, false, false, false, false, false, false, false, false, false, false, false, false, false] rfl rfl (any_of HT_.out (by kernel_rfl)) (fun _ _ _ h => h) (Or.inl ⟨by rfl, ?_⟩) ?_ ?_
         rotate_left
         ·intro w'
          go_simp
          with_reducible rfl
         rotate_left
         ·simp only [Act.put, List.setIfInBounds_toArray, List.set_cons_zero, List.set_cons_succ, i64_w, i32_w]
          rfl
         refine pure_ (i := 6) (N := some 64) (v := ?_) (a' := ?_) #[true, true, true, true, true, false, true, false, false, false, false, false, false, false, false, false, false, false, false, false, false, false, false, false, false, false, false, false, false, false, false, false, false, false, false, false, false, false, false, false, false, false, false, false] rfl rfl (any_of HT_.out (by kernel_rfl)) (fun _ _ _ h => h) (Or.inl ⟨by rfl, ?_⟩) ?_ ?_
         rotate_left
         ·intro w'
          go_simp
          with_reducible rfl
         rotate_left
         ·simp only [Act.put, List.setIfInBounds_toArray, List.set_cons_zero, List.set_cons_succ, i64_w, i32_w]
          rfl
         refine one_ (i := 5) (N := some 63) #[true, true, true, true, true, true, true, false, false, false, false, false, false, false, false, false, false, false, false, false, false, false, false, false, false, false, false, false, false, false, false, false, false, false, false, false, false, false, false, false, false, false, false, false] rfl rfl (one_of HT_.out (by kernel_rfl)) (by decide) (fun K hK => ?_)
         refine goes_ Try.func19 (by kernel_rfl) rfl #[.int .i64 t306] (by rfl) rfl rfl (by (try simp only [List.map_toArray, List.map_cons, List.map_nil]); first | done | rfl | (simp only [List.length_drop, List.length_take]; rfl)) ?_
         with_reducible refine (watchwordlaw0_Num.calls t306 t339 _ A53.out).mono ?_
         rintro e w' ⟨rfl, ⟨nd, rfl⟩⟩
         refine ⟨_, rfl, ?_⟩
         refine hK.out _ _ ⟨(blk_cell BK317.out 0).trans rfl, (blk_cell BK317.out 1).trans rfl, (blk_cell BK317.out 2).trans rfl, (blk_cell BK317.out 3).trans rfl, (blk_cell BK326.out 0).trans rfl, (blk_cell BK326.out 1).trans rfl, (blk_cell BK326.out 2).trans rfl, (blk_cell BK326.out 3).trans rfl, (blk_cell BK332.out 0).trans rfl, (blk_cell BK332.out 1).trans rfl, (blk_cell BK332.out 2).trans rfl, (blk_cell BK332.out 3).trans rfl, (blk_cell BK338.out 0).trans rfl, (blk_cell BK338.out 1).trans rfl, (blk_cell BK338.out 2).trans rfl, (blk_cell BK338.out 3).trans rfl, (blk_cell BK304.out 0).trans rfl, (blk_cell BK304.out 1).trans rfl, (blk_cell BK304.out 2).trans rfl, (blk_cell BK304.out 3).trans rfl, (blk_cell BK297.out 0).trans rfl, (blk_cell BK297.out 1).trans rfl, (blk_cell BK297.out 2).trans rfl, (blk_cell BK297.out 3).trans rfl⟩ (fun hHeld => ?_)
         clear hK K
         refine norm_ (a' := ?_) ?_ ?_
         rotate_left
         ·show Act.put _ (some 63) _ = _
          simp only [Act.put, List.setIfInBounds_toArray, List.set_cons_zero, List.set_cons_succ, i64_w, i32_w]
          rfl
         refine pure_ (i := 7) (N := some 65) (v := ?_) (a' := ?_) #[true, true, true, true, true, true, true, true, false, false, false, false, false, false, false, false, false, false, false, false, false, false, false, false, false, false, false, false, false, false, false, false, false, false, false, false, false, false, false, false, false, false, false, false] rfl rfl (any_of HT_.out (by kernel_rfl)) (fun _ _ _ h => h) (Or.inl ⟨by rfl, ?_⟩) ?_ ?_
         rotate_left
         ·intro w'
          go_simp
          with_reducible rfl
         rotate_left
         ·simp only [Act.put, List.setIfInBounds_toArray, List.set_cons_zero, List.set_cons_succ, i64_w, i32_w]
          rfl
         refine pure_ (i := 8) (N := some 66) (v := ?_) (a' := ?_) #[true, true, true, true, true, true, true, true, true, false, false, false, false, false, false, false, false, false, false, false, false, false, false, false, false, false, false, false, false, false, false, false, false, false, false, false, false, false, false, false, false, false, false, false] rfl rfl (any_of HT_.out (by kernel_rfl)) (fun _ _ _ h => h) (Or.inl ⟨by rfl, ?_⟩) ?_ ?_
         rotate_left
         ·intro w'
          go_simp
          with_reducible rfl
         rotate_left
         ·simp only [Act.put, List.setIfInBounds_toArray, List.set_cons_zero, List.set_cons_succ, i64_w, i32_w]
          rfl
         refine pure_ (i := 9) (N := some 67) (v := ?_) (a' := ?_) #[true, true, true, true, true, true, true, true, true, true, false, false, false, false, false, false, false, false, false, false, false, false, false, false, false, false, false, false, false, false, false, false, false, false, false, false, false, false, false, false, false, false, false, false] rfl rfl (any_of HT_.out (by kernel_rfl)) (fun _ _ _ h => h) (Or.inl ⟨by rfl, ?_⟩) ?_ ?_
         rotate_left
         ·intro w'
          go_simp
          with_reducible rfl
         rotate_left
         ·simp only [Act.put, List.setIfInBounds_toArray, List.set_cons_zero, List.set_cons_succ, i64_w, i32_w]
          rfl
         refine take_ (i := 10) (N := some 68) (v := ?_) (a' := ?_) #[true, true, true, true, true, true, true, true, true, true, true, false, false, false, false, false, false, false, false, false, false, false, false, false, false, false, false, false, false, false, false, false, false, false, false, false, false, false, false, false, false, false, false, false] rfl rfl (take_ofW HT_.out HW_.out (by kernel_rfl)) (fun _ _ _ h => h) (Or.inl ⟨by rfl, ?_⟩) hHeld ?_ ?_
         rotate_left
         ·rintro w' ⟨s0, s1, s2, s3, s4, s5, s6, s7, s8, s9, s10, s11, s12, s13, s14, s15, s16, s17, s18, s19, s20, s21, s22, s23⟩
          go_simp
          with_reducible rfl
         rotate_left
         ·simp only [Act.put, List.setIfInBounds_toArray, List.set_cons_zero, List.set_cons_succ, i64_w, i32_w]
          rfl
         refine take_ (i := 11) (N := some 69) (v := ?_) (a' := ?_) #[true, true, true, true, true, true, true, true, true, true, true, true, false, false, false, false, false, false, false, false, false, false, false, false, false, false, false, false, false, false, false, false, false, false, false, false, false, false, false, false, false, false, false, false] rfl rfl (take_ofW HT_.out HW_.out (by kernel_rfl)) (fun _ _ _ h => h) (Or.inl ⟨by rfl, ?_⟩) hHeld ?_ ?_
         rotate_left
         ·rintro w' ⟨s0, s1, s2, s3, s4, s5, s6, s7, s8, s9, s10, s11, s12, s13, s14, s15, s16, s17, s18, s19, s20, s21, s22, s23⟩
          go_simp
          with_reducible rfl
         rotate_left
         ·simp only [Act.put, List.setIfInBounds_toArray, List.set_cons_zero, List.set_cons_succ, i64_w, i32_w]
          rfl
         refine one_ (i := 12) (N := some 70) #[true, true, true, true, true, true, true, true, true, true, true, true, true, false, false, false, false, false, false, false, false, false, false, false, false, false, false, false, false, false, false, false, false, false, false, false, false, false, false, false, false, false, false, false] rfl rfl (one_of HT_.out (by kernel_rfl)) (by decide) (fun K hK => ?_)
         refine goes_ Try.func20 (by kernel_rfl) rfl #[.agg #[.int .i64 t309, .int .i64 t310, .int .i64 t311, .slice Ao27 t312.length co27], .agg #[.int .i64 t318, .int .i64 t319, .int .i64 t320, .slice Ao34 t321.length co34]] (by rfl) rfl rfl (by (try simp only [List.map_toArray, List.map_cons, List.map_nil]); first | done | rfl | (simp only [List.length_drop, List.length_take]; rfl)) ?_
         with_reducible refine (watchwordlaw0_SameLsa.calls k t309 t310 t311 _ _ t312 t318 t319 t320 _ _ t321 true _ ?side1 ?side2 ?side3 ?side4 A55.out).mono ?_
         (case side1 => repeat (first | exact (Kd.R_reads' HO314.out).2.2 | (with_reducible refine Kd.C_alloc ?_ _) | (with_reducible refine Kd.C_drewN ?_ _) | (with_reducible refine Kd.C_drew ?_)))
         (case side2 => exact (Kd.R_reads' HO314.out).2.1)
         (case side3 => repeat (first | exact (Kd.R_reads' HO323.out).2.2 | (with_reducible refine Kd.C_alloc ?_ _) | (with_reducible refine Kd.C_drewN ?_ _) | (with_reducible refine Kd.C_drew ?_)))
         (case side4 => exact (Kd.R_reads' HO323.out).2.1)
         rintro e w67 ⟨rfl, hb⟩
         refine ⟨_, rfl, ?_⟩
         have n0_ := Aside0.mk (Kd.R_below (by (with_reducible repeat (first | apply Kd.R_alloc | apply Kd.R_drewN | apply Kd.R_drew)); exact HO303.out) hb)
         have n1_ := Aside0.mk (Kd.R_below (by (with_reducible repeat (first | apply Kd.R_alloc | apply Kd.R_drewN | apply Kd.R_drew)); exact HO314.out) hb)
         have n2_ := Aside0.mk (Kd.R_below (by (with_reducible repeat (first | apply Kd.R_alloc | apply Kd.R_drewN | apply Kd.R_drew)); exact HO323.out) hb)
         have n3_ := Aside0.mk (blk_below (g := gb297) (o := .cells #[.int .i64 a0_0, .int .i64 a0_1, .int .i64 a0_2, .slice A0_3 l0_3.length c0_3] 24 (0, 0)) (by (with_reducible repeat (first | refine blk_drewN ?_ _ | refine blk_drew ?_ | refine blk_alloc ?_ _)); exact BK297.out) hb)
         have n4_ := Aside0.mk (blk_below (g := gb304) (o := .cells #[.int .i64 t298, .int .i64 t299, .int .i64 t300, .slice Ao18 t301.length co18] 24 (0, 0)) (by (with_reducible repeat (first | refine blk_drewN ?_ _ | refine blk_drew ?_ | refine blk_alloc ?_ _)); exact BK304.out) hb)
         have n5_ := Aside0.mk (blk_below (g := gb317) (o := .cells #[.int .i64 t309, .int .i64 t310, .int .i64 t311, .slice Ao27 t312.length co27] 24 (0, 0)) (by (with_reducible repeat (first | refine blk_drewN ?_ _ | refine blk_drew ?_ | refine blk_alloc ?_ _)); exact BK317.out) hb)
         have n6_ := Aside0.mk (blk_below (g := gb326) (o := .cells #[.int .i64 t318, .int .i64 t319, .int .i64 t320, .slice Ao34 t321.length co34] 24 (0, 0)) (by (with_reducible repeat (first | refine blk_drewN ?_ _ | refine blk_drew ?_ | refine blk_alloc ?_ _)); exact BK326.out) hb)
         have n7_ := Aside0.mk (blk_below (g := gb332) (o := .cells #[.int .i64 t327, .int .i64 t328, .int .i64 t329, .int .i64 t330] 36 (0, 0)) (by (with_reducible repeat (first | refine blk_drewN ?_ _ | refine blk_drew ?_ | refine blk_alloc ?_ _)); exact BK332.out) hb)
         have n8_ := Aside0.mk (blk_below (g := gb338) (o := .cells #[.int .i64 t333, .int .i64 t334, .int .i64 t335, .int .i64 t336] 36 (0, 0)) (by (with_reducible repeat (first | refine blk_drewN ?_ _ | refine blk_drew ?_ | refine blk_alloc ?_ _)); exact BK338.out) hb)
         have n9_ := Aside0.mk (below_step (by repeat (first | (with_reducible first | exact HB.out | apply below_alloc | apply pw_below_drewN | apply below_drew1 | refine below_set ?_ GE297.out | refine below_set ?_ GE304.out | refine below_set ?_ GE317.out | refine below_set ?_ GE326.out | refine below_set ?_ GE332.out | refine below_set ?_ GE338.out) | exact HB.out)) hb)
         clear HO303
         clear HO314
         clear HO323
         clear BK297
         clear BK304
         clear BK317
         clear BK326
         clear BK332
         clear BK338
         clear HB
         have HO303 := n0_
         have HO314 := n1_
         have HO323 := n2_
         have BK297 := n3_
         have BK304 := n4_
         have BK317 := n5_
         have BK326 := n6_
         have BK332 := n7_
         have BK338 := n8_
         have HB := n9_
         clear n0_ n1_ n2_ n3_ n4_ n5_ n6_ n7_ n8_ n9_
         (try clear hb)
         (try clear hb2)
         (try clear hk)
         (try clear hi)
         refine hK.out _ _ ⟨(blk_cell BK317.out 0).trans rfl, (blk_cell BK317.out 1).trans rfl, (blk_cell BK317.out 2).trans rfl, (blk_cell BK317.out 3).trans rfl, (blk_cell BK326.out 0).trans rfl, (blk_cell BK326.out 1).trans rfl, (blk_cell BK326.out 2).trans rfl, (blk_cell BK326.out 3).trans rfl, (blk_cell BK332.out 0).trans rfl, (blk_cell BK332.out 1).trans rfl, (blk_cell BK332.out 2).trans rfl, (blk_cell BK332.out 3).trans rfl, (blk_cell BK338.out 0).trans rfl, (blk_cell BK338.out 1).trans rfl, (blk_cell BK338.out 2).trans rfl, (blk_cell BK338.out 3).trans rfl, (blk_cell BK304.out 0).trans rfl, (blk_cell BK304.out 1).trans rfl, (blk_cell BK304.out 2).trans rfl, (blk_cell BK304.out 3).trans rfl, (blk_cell BK297.out 0).trans rfl, (blk_cell BK297.out 1).trans rfl, (blk_cell BK297.out 2).trans rfl, (blk_cell BK297.out 3).trans rfl⟩ (fun hHeld => ?_)
         clear hK K
         refine norm_ (a' := ?_) ?_ ?_
         rotate_left
         ·show Act.put _ (some 70) _ = _
          simp only [Act.put, List.setIfInBounds_toArray, List.set_cons_zero, List.set_cons_succ, i64_w, i32_w]
          rfl
         refine pure_ (i := 13) (N := some 71) (v := ?_) (a' := ?_) #[true, true, true, true, true, true, true, true, true, true, true, true, true, true, false, false, false, false, false, false, false, false, false, false, false, false, false, false, false, false, false, false, false, false, false, false, false, false, false, false, false, false, false, false] rfl rfl (any_of HT_.out (by kernel_rfl)) (fun _ _ _ h => h) (Or.inl ⟨by rfl, ?_⟩) ?_ ?_
         rotate_left
         ·intro w'
          go_simp
          with_reducible rfl
         rotate_left
         ·simp only [Act.put, List.setIfInBounds_toArray, List.set_cons_zero, List.set_cons_succ, i64_w, i32_w]
          rfl
         refine pure_ (i := 14) (N := some 72) (v := ?_) (a' := ?_) #[true, true, true, true, true, true, true, true, true, true, true, true, true, true, true, false, false, false, false, false, false, false, false, false, false, false, false, false, false, false, false, false, false, false, false, false, false, false, false, false, false, false, false, false] rfl rfl (any_of HT_.out (by kernel_rfl)) (fun _ _ _ h => h) (Or.inl ⟨by rfl, ?_⟩) ?_ ?_
         rotate_left
         ·intro w'
          go_simp
          with_reducible rfl
         rotate_left
         ·simp only [Act.put, List.setIfInBounds_toArray, List.set_cons_zero, List.set_cons_succ, i64_w, i32_w]
          rfl
         refine pure_ (i := 15) (N := some 73) (v := ?_) (a' := ?_) #[true, true, true, true, true, true, true, true, true, true, true, true, true, true, true, true, false, false, false, false, false, false, false, false, false, false, false, false, false, false, false, false, false, false, false, false, false, false, false, false, false, false, false, false] rfl rfl (any_of HT_.out (by kernel_rfl)) (fun _ _ _ h => h) (Or.inl ⟨by rfl, ?_⟩) ?_ ?_
         rotate_left
         ·intro w'
          go_simp
          with_reducible rfl
         rotate_left
         ·simp only [Act.put, List.setIfInBounds_toArray, List.set_cons_zero, List.set_cons_succ, i64_w, i32_w]
          rfl
         refine pure_ (i := 16) (N := some 74) (v := ?_) (a' := ?_) #[true, true, true, true, true, true, true, true, true, true, true, true, true, true, true, true, true, false, false, false, false, false, false, false, false, false, false, false, false, false, false, false, false, false, false, false, false, false, false, false, false, false, false, false] rfl rfl (any_of HT_.out (by kernel_rfl)) (fun _ _ _ h => h) (Or.inl ⟨by rfl, ?_⟩) ?_ ?_
         rotate_left
         ·intro w'
          go_simp
          with_reducible rfl
         rotate_left
         ·simp only [Act.put, List.setIfInBounds_toArray, List.set_cons_zero, List.set_cons_succ, i64_w, i32_w]
          rfl
         refine pure_ (i := 17) (N := some 75) (v := ?_) (a' := ?_) #[true, true, true, true, true, true, true, true, true, true, true, true, true, true, true, true, true, true, false, false, false, false, false, false, false, false, false, false, false, false, false, false, false, false, false, false, false, false, false, false, false, false, false, false] rfl rfl (any_of HT_.out (by kernel_rfl)) (fun _ _ _ h => h) (Or.inl ⟨by rfl, ?_⟩) ?_ ?_
         rotate_left
         ·intro w'
          go_simp
          with_reducible rfl
         rotate_left
         ·simp only [Act.put, List.setIfInBounds_toArray, List.set_cons_zero, List.set_cons_succ, i64_w, i32_w]
          rfl
         refine pure_ (i := 18) (N := some 76) (v := ?_) (a' := ?_) #[true, true, true, true, true, true, true, true, true, true, true, true, true, true, true, true, true, true, true, false, false, false, false, false, false, false, false, false, false, false, false, false, false, false, false, false, false, false, false, false, false, false, false, false] rfl rfl (any_of HT_.out (by kernel_rfl)) (fun _ _ _ h => h) (Or.inl ⟨by rfl, ?_⟩) ?_ ?_
         rotate_left
         ·intro w'
          go_simp
          with_reducible rfl
         rotate_left
         ·simp only [Act.put, List.setIfInBounds_toArray, List.set_cons_zero, List.set_cons_succ, i64_w, i32_w]
          rfl
         refine pure_ (i := 19) (N := some 77) (v := ?_) (a' := ?_) #[true, true, true, true, true, true, true, true, true, true, true, true, true, true, true, true, true, true, true, true, false, false, false, false, false, false, false, false, false, false, false, false, false, false, false, false, false, false, false, false, false, false, false, false] rfl rfl (any_of HT_.out (by kernel_rfl)) (fun _ _ _ h => h) (Or.inl ⟨by rfl, ?_⟩) ?_ ?_
         rotate_left
         ·intro w'
          go_simp
          with_reducible rfl
         rotate_left
         ·simp only [Act.put, List.setIfInBounds_toArray, List.set_cons_zero, List.set_cons_succ, i64_w, i32_w]
          rfl
         refine pure_ (i := 20) (N := some 78) (v := ?_) (a' := ?_) #[true, true, true, true, true, true, true, true, true, true, true, true, true, true, true, true, true, true, true, true, true, false, false, false, false, false, false, false, false, false, false, false, false, false, false, false, false, false, false, false, false, false, false, false] rfl rfl (any_of HT_.out (by kernel_rfl)) (fun _ _ _ h => h) (Or.inl ⟨by rfl, ?_⟩) ?_ ?_
         rotate_left
         ·intro w'
          go_simp
          with_reducible rfl
         rotate_left
         ·simp only [Act.put, List.setIfInBounds_toArray, List.set_cons_zero, List.set_cons_succ, i64_w, i32_w]
          rfl
         refine pure_ (i := 21) (N := some 79) (v := ?_) (a' := ?_) #[true, true, true, true, true, true, true, true, true, true, true, true, true, true, true, true, true, true, true, true, true, true, false, false, false, false, false, false, false, false, false, false, false, false, false, false, false, false, false, false, false, false, false, false] rfl rfl (any_of HT_.out (by kernel_rfl)) (fun _ _ _ h => h) (Or.inl ⟨by rfl, ?_⟩) ?_ ?_
         rotate_left
         ·intro w'
          go_simp
          with_reducible rfl
         rotate_left
         ·simp only [Act.put, List.setIfInBounds_toArray, List.set_cons_zero, List.set_cons_succ, i64_w, i32_w]
          rfl
         refine pure_ (i := 23) (N := some 81) (v := ?_) (a' := ?_) #[true, true, true, true, true, true, true, true, true, true, true, true, true, true, true, true, true, true, true, true, true, true, false, true, false, false, false, false, false, false, false, false, false, false, false, false, false, false, false, false, false, false, false, false] rfl rfl (any_of HT_.out (by kernel_rfl)) (fun _ _ _ h => h) (Or.inl ⟨by rfl, ?_⟩) ?_ ?_
         rotate_left
         ·intro w'
          go_simp
          with_reducible rfl
         rotate_left
         ·simp only [Act.put, List.setIfInBounds_toArray, List.set_cons_zero, List.set_cons_succ, i64_w, i32_w]
          rfl
         refine one_ (i := 22) (N := some 80) #[true, true, true, true, true, true, true, true, true, true, true, true, true, true, true, true, true, true, true, true, true, true, true, true, false, false, false, false, false, false, false, false, false, false, false, false, false, false, false, false, false, false, false, false] rfl rfl (one_of HT_.out (by kernel_rfl)) (by decide) (fun K hK => ?_)
         refine goes_ Try.func19 (by kernel_rfl) rfl #[.int .i64 t316] (by rfl) rfl rfl (by (try simp only [List.map_toArray, List.map_cons, List.map_nil]); first | done | rfl | (simp only [List.length_drop, List.length_take]; rfl)) ?_
         with_reducible refine (watchwordlaw0_Num.calls t316 t341 _ A58.out).mono ?_
         rintro e w' ⟨rfl, ⟨nd, rfl⟩⟩
         refine ⟨_, rfl, ?_⟩
         refine hK.out _ _ ⟨(blk_cell BK317.out 0).trans rfl, (blk_cell BK317.out 1).trans rfl, (blk_cell BK317.out 2).trans rfl, (blk_cell BK317.out 3).trans rfl, (blk_cell BK326.out 0).trans rfl, (blk_cell BK326.out 1).trans rfl, (blk_cell BK326.out 2).trans rfl, (blk_cell BK326.out 3).trans rfl, (blk_cell BK332.out 0).trans rfl, (blk_cell BK332.out 1).trans rfl, (blk_cell BK332.out 2).trans rfl, (blk_cell BK332.out 3).trans rfl, (blk_cell BK338.out 0).trans rfl, (blk_cell BK338.out 1).trans rfl, (blk_cell BK338.out 2).trans rfl, (blk_cell BK338.out 3).trans rfl, (blk_cell BK304.out 0).trans rfl, (blk_cell BK304.out 1).trans rfl, (blk_cell BK304.out 2).trans rfl, (blk_cell BK304.out 3).trans rfl, (blk_cell BK297.out 0).trans rfl, (blk_cell BK297.out 1).trans rfl, (blk_cell BK297.out 2).trans rfl, (blk_cell BK297.out 3).trans rfl⟩ (fun hHeld => ?_)
         clear hK K
         refine norm_ (a' := ?_) ?_ ?_
         rotate_left
         ·show Act.put _ (some 80) _ = _
          simp only [Act.put, List.setIfInBounds_toArray, List.set_cons_zero, List.set_cons_succ, i64_w, i32_w]
          rfl
         refine pure_ (i := 24) (N := some 82) (v := ?_) (a' := ?_) #[true, true, true, true, true, true, true, true, true, true, true, true, true, true, true, true, true, true, true, true, true, true, true, true, true, false, false, false, false, false, false, false, false, false, false, false, false, false, false, false, false, false, false, false] rfl rfl (any_of HT_.out (by kernel_rfl)) (fun _ _ _ h => h) (Or.inl ⟨by rfl, ?_⟩) ?_ ?_
         rotate_left
         ·intro w'
          go_simp
          with_reducible rfl
         rotate_left
         ·simp only [Act.put, List.setIfInBounds_toArray, List.set_cons_zero, List.set_cons_succ, i64_w, i32_w]
          rfl
         refine pure_ (i := 25) (N := some 83) (v := ?_) (a' := ?_) #[true, true, true, true, true, true, true, true, true, true, true, true, true, true, true, true, true, true, true, true, true, true, true, true, true, true, false, false, false, false, false, false, false, false, false, false, false, false, false, false, false, false, false, false] rfl rfl (any_of HT_.out (by kernel_rfl)) (fun _ _ _ h => h) (Or.inl ⟨by rfl, ?_⟩) ?_ ?_
         rotate_left
         ·intro w'
          go_simp
          with_reducible rfl
         rotate_left
         ·simp only [Act.put, List.setIfInBounds_toArray, List.set_cons_zero, List.set_cons_succ, i64_w, i32_w]
          rfl
         refine pure_ (i := 26) (N := some 84) (v := ?_) (a' := ?_) #[true, true, true, true, true, true, true, true, true, true, true, true, true, true, true, true, true, true, true, true, true, true, true, true, true, true, true, false, false, false, false, false, false, false, false, false, false, false, false, false, false, false, false, false] rfl rfl (any_of HT_.out (by kernel_rfl)) (fun _ _ _ h => h) (Or.inl ⟨by rfl, ?_⟩) ?_ ?_
         rotate_left
         ·intro w'
          go_simp
          with_reducible rfl
         rotate_left
         ·simp only [Act.put, List.setIfInBounds_toArray, List.set_cons_zero, List.set_cons_succ, i64_w, i32_w]
          rfl
         refine take_ (i := 27) (N := some 85) (v := ?_) (a' := ?_) #[true, true, true, true, true, true, true, true, true, true, true, true, true, true, true, true, true, true, true, true, true, true, true, true, true, true, true, true, false, false, false, false, false, false, false, false, false, false, false, false, false, false, false, false] rfl rfl (take_ofW HT_.out HW_.out (by kernel_rfl)) (fun _ _ _ h => h) (Or.inl ⟨by rfl, ?_⟩) hHeld ?_ ?_
         rotate_left
         ·rintro w' ⟨s0, s1, s2, s3, s4, s5, s6, s7, s8, s9, s10, s11, s12, s13, s14, s15, s16, s17, s18, s19, s20, s21, s22, s23⟩
          go_simp
          with_reducible rfl
         rotate_left
         ·simp only [Act.put, List.setIfInBounds_toArray, List.set_cons_zero, List.set_cons_succ, i64_w, i32_w]
          rfl
         refine take_ (i := 28) (N := some 86) (v := ?_) (a' := ?_) #[true, true, true, true, true, true, true, true, true, true, true, true, true, true, true, true, true, true, true, true, true, true, true, true, true, true, true, true, true, false, false, false, false, false, false, false, false, false, false, false, false, false, false, false] rfl rfl (take_ofW HT_.out HW_.out (by kernel_rfl)) (fun _ _ _ h => h) (Or.inl ⟨by rfl, ?_⟩) hHeld ?_ ?_
         rotate_left
         ·rintro w' ⟨s0, s1, s2, s3, s4, s5, s6, s7, s8, s9, s10, s11, s12, s13, s14, s15, s16, s17, s18, s19, s20, s21, s22, s23⟩
          go_simp
          with_reducible rfl
         rotate_left
         ·simp only [Act.put, List.setIfInBounds_toArray, List.set_cons_zero, List.set_cons_succ, i64_w, i32_w]
          rfl
         refine pure_ (i := 29) (N := some 87) (v := ?_) (a' := ?_) #[true, true, true, true, true, true, true, true, true, true, true, true, true, true, true, true, true, true, true, true, true, true, true, true, true, true, true, true, true, true, false, false, false, false, false, false, false, false, false, false, false, false, false, false] rfl rfl (any_of HT_.out (by kernel_rfl)) (fun _ _ _ h => h) (Or.inl ⟨by rfl, ?_⟩) ?_ ?_
         rotate_left
         ·intro w'
          go_simp
          with_reducible rfl
         rotate_left
         ·simp only [Act.put, List.setIfInBounds_toArray, List.set_cons_zero, List.set_cons_succ, i64_w, i32_w]
          rfl
         refine pure_ (i := 30) (N := some 88) (v := ?_) (a' := ?_) #[true, true, true, true, true, true, true, true, true, true, true, true, true, true, true, true, true, true, true, true, true, true, true, true, true, true, true, true, true, true, true, false, false, false, false, false, false, false, false, false, false, false, false, false] rfl rfl (any_of HT_.out (by kernel_rfl)) (fun _ _ _ h => h) (Or.inl ⟨by rfl, ?_⟩) ?_ ?_
         rotate_left
         ·intro w'
          go_simp
          with_reducible rfl
         rotate_left
         ·simp only [Act.put, List.setIfInBounds_toArray, List.set_cons_zero, List.set_cons_succ, i64_w, i32_w]
          rfl
         refine pure_ (i := 31) (N := some 89) (v := ?_) (a' := ?_) #[true, true, true, true, true, true, true, true, true, true, true, true, true, true, true, true, true, true, true, true, true, true, true, true, true, true, true, true, true, true, true, true, false, false, false, false, false, false, false, false, false, false, false, false] rfl rfl (any_of HT_.out (by kernel_rfl)) (fun _ _ _ h => h) (Or.inl ⟨by rfl, ?_⟩) ?_ ?_
         rotate_left
         ·intro w'
          go_simp
          with_reducible rfl
         rotate_left
         ·simp only [Act.put, List.setIfInBounds_toArray, List.set_cons_zero, List.set_cons_succ, i64_w, i32_w]
          rfl
         refine pure_ (i := 32) (N := some 90) (v := ?_) (a' := ?_) #[true, true, true, true, true, true, true, true, true, true, true, true, true, true, true, true, true, true, true, true, true, true, true, true, true, true, true, true, true, true, true, true, true, false, false, false, false, false, false, false, false, false, false, false] rfl rfl (any_of HT_.out (by kernel_rfl)) (fun _ _ _ h => h) (Or.inl ⟨by rfl, ?_⟩) ?_ ?_
         rotate_left
         ·intro w'
          go_simp
          with_reducible rfl
         rotate_left
         ·simp only [Act.put, List.setIfInBounds_toArray, List.set_cons_zero, List.set_cons_succ, i64_w, i32_w]
          rfl
         refine pure_ (i := 34) (N := some 92) (v := ?_) (a' := ?_) #[true, true, true, true, true, true, true, true, true, true, true, true, true, true, true, true, true, true, true, true, true, true, true, true, true, true, true, true, true, true, true, true, true, false, true, false, false, false, false, false, false, false, false, false] rfl rfl (any_of HT_.out (by kernel_rfl)) (fun _ _ _ h => h) (Or.inl ⟨by rfl, ?_⟩) ?_ ?_
         rotate_left
         ·intro w'
          go_simp
          with_reducible rfl
         rotate_left
         ·simp only [Act.put, List.setIfInBounds_toArray, List.set_cons_zero, List.set_cons_succ, i64_w, i32_w]
          rfl
         refine one_ (i := 33) (N := some 91) #[true, true, true, true, true, true, true, true, true, true, true, true, true, true, true, true, true, true, true, true, true, true, true, true, true, true, true, true, true, true, true, true, true, true, true, false, false, false, false, false, false, false, false, false] rfl rfl (one_of HT_.out (by kernel_rfl)) (by decide) (fun K hK => ?_)
         refine goes_ Try.func19 (by kernel_rfl) rfl #[.int .i64 t331] (by rfl) rfl rfl (by (try simp only [List.map_toArray, List.map_cons, List.map_nil]); first | done | rfl | (simp only [List.length_drop, List.length_take]; rfl)) ?_
         with_reducible refine (watchwordlaw0_Num.calls t331 t342 _ A61.out).mono ?_
         rintro e w' ⟨rfl, ⟨nd, rfl⟩⟩
         refine ⟨_, rfl, ?_⟩
         refine hK.out _ _ ⟨(blk_cell BK317.out 0).trans rfl, (blk_cell BK317.out 1).trans rfl, (blk_cell BK317.out 2).trans rfl, (blk_cell BK317.out 3).trans rfl, (blk_cell BK326.out 0).trans rfl, (blk_cell BK326.out 1).trans rfl, (blk_cell BK326.out 2).trans rfl, (blk_cell BK326.out 3).trans rfl, (blk_cell BK332.out 0).trans rfl, (blk_cell BK332.out 1).trans rfl, (blk_cell BK332.out 2).trans rfl, (blk_cell BK332.out 3).trans rfl, (blk_cell BK338.out 0).trans rfl, (blk_cell BK338.out 1).trans rfl, (blk_cell BK338.out 2).trans rfl, (blk_cell BK338.out 3).trans rfl, (blk_cell BK304.out 0).trans rfl, (blk_cell BK304.out 1).trans rfl, (blk_cell BK304.out 2).trans rfl, (blk_cell BK304.out 3).trans rfl, (blk_cell BK297.out 0).trans rfl, (blk_cell BK297.out 1).trans rfl, (blk_cell BK297.out 2).trans rfl, (blk_cell BK297.out 3).trans rfl⟩ (fun hHeld => ?_)
         clear hK K
         refine norm_ (a' := ?_) ?_ ?_
         rotate_left
         ·show Act.put _ (some 91) _ = _
          simp only [Act.put, List.setIfInBounds_toArray, List.set_cons_zero, List.set_cons_succ, i64_w, i32_w]
          rfl
         refine pure_ (i := 35) (N := some 93) (v := ?_) (a' := ?_) #[true, true, true, true, true, true, true, true, true, true, true, true, true, true, true, true, true, true, true, true, true, true, true, true, true, true, true, true, true, true, true, true, true, true, true, true, false, false, false, false, false, false, false, false] rfl rfl (any_of HT_.out (by kernel_rfl)) (fun _ _ _ h => h) (Or.inl ⟨by rfl, ?_⟩) ?_ ?_
         rotate_left
         ·intro w'
          go_simp
          with_reducible rfl
         rotate_left
         ·simp only [Act.put, List.setIfInBounds_toArray, List.set_cons_zero, List.set_cons_succ, i64_w, i32_w]
          rfl
         refine pure_ (i := 36) (N := some 94) (v := ?_) (a' := ?_) #[true, true, true, true, true, true, true, true, true, true, true, true, true, true, true, true, true, true, true, true, true, true, true, true, true, true, true, true, true, true, true, true, true, true, true, true, true, false, false, false, false, false, false, false] rfl rfl (any_of HT_.out (by kernel_rfl)) (fun _ _ _ h => h) (Or.inl ⟨by rfl, ?_⟩) ?_ ?_
         rotate_left
         ·intro w'
          go_simp
          with_reducible rfl
         rotate_left
         ·simp only [Act.put, List.setIfInBounds_toArray, List.set_cons_zero, List.set_cons_succ, i64_w, i32_w]
          rfl
         refine pure_ (i := 37) (N := some 95) (v := ?_) (a' := ?_) #[true, true, true, true, true, true, true, true, true, true, true, true, true, true, true, true, true, true, true, true, true, true, true, true, true, true, true, true, true, true, true, true, true, true, true, true, true, true, false, false, false, false, false, false] rfl rfl (any_of HT_.out (by kernel_rfl)) (fun _ _ _ h => h) (Or.inl ⟨by rfl, ?_⟩) ?_ ?_
         rotate_left
         ·intro w'
          go_simp
          with_reducible rfl
         rotate_left
         ·simp only [Act.put, List.setIfInBounds_toArray, List.set_cons_zero, List.set_cons_succ, i64_w, i32_w]
          rfl
         refine take_ (i := 38) (N := some 96) (v := ?_) (a' := ?_) #[true, true, true, true, true, true, true, true, true, true, true, true, true, true, true, true, true, true, true, true, true, true, true, true, true, true, true, true, true, true, true, true, true, true, true, true, true, true, true, false, false, false, false, false] rfl rfl (take_ofW HT_.out HW_.out (by kernel_rfl)) (fun _ _ _ h => h) (Or.inl ⟨by rfl, ?_⟩) hHeld ?_ ?_
         rotate_left
         ·rintro w' ⟨s0, s1, s2, s3, s4, s5, s6, s7, s8, s9, s10, s11, s12, s13, s14, s15, s16, s17, s18, s19, s20, s21, s22, s23⟩
          go_simp
          with_reducible rfl
         rotate_left
         ·simp only [Act.put, List.setIfInBounds_toArray, List.set_cons_zero, List.set_cons_succ, i64_w, i32_w]
          rfl
         refine take_ (i := 40) (N := some 98) (v := ?_) (a' := ?_) #[true, true, true, true, true, true, true, true, true, true, true, true, true, true, true, true, true, true, true, true, true, true, true, true, true, true, true, true, true, true, true, true, true, true, true, true, true, true, true, false, true, false, false, false] rfl rfl (take_ofW HT_.out HW_.out (by kernel_rfl)) (fun _ _ _ h => h) (Or.inl ⟨by rfl, ?_⟩) hHeld ?_ ?_
         rotate_left
         ·rintro w' ⟨s0, s1, s2, s3, s4, s5, s6, s7, s8, s9, s10, s11, s12, s13, s14, s15, s16, s17, s18, s19, s20, s21, s22, s23⟩
          go_simp
          with_reducible rfl
         rotate_left
         ·simp only [Act.put, List.setIfInBounds_toArray, List.set_cons_zero, List.set_cons_succ, i64_w, i32_w]
          rfl
         refine one_ (i := 39) (N := some 97) #[true, true, true, true, true, true, true, true, true, true, true, true, true, true, true, true, true, true, true, true, true, true, true, true, true, true, true, true, true, true, true, true, true, true, true, true, true, true, true, true, true, false, false, false] rfl rfl (one_of HT_.out (by kernel_rfl)) (by decide) (fun K hK => ?_)
         refine goes_ Try.func21 (by kernel_rfl) rfl #[.agg #[.int .i64 t298, .int .i64 t299, .int .i64 t300, .slice Ao18 t301.length co18]] (by rfl) rfl rfl (by (try simp only [List.map_toArray, List.map_cons, List.map_nil]); first | done | rfl | (simp only [List.length_drop, List.length_take]; rfl)) ?_
         with_reducible refine (lsa_May.calls k t298 t299 t300 _ _ t301 t343 _ ?side1 ?side2 A63.out).mono ?_
         (case side1 => repeat (first | exact (Kd.R_reads' HO303.out).2.2 | (with_reducible refine Kd.C_alloc ?_ _) | (with_reducible refine Kd.C_drewN ?_ _) | (with_reducible refine Kd.C_drew ?_)))
         (case side2 => exact (Kd.R_reads' HO303.out).2.1)
         rintro e w68 ⟨rfl, hb⟩
         refine ⟨_, rfl, ?_⟩
         have n0_ := Aside0.mk (Kd.R_below (by (with_reducible repeat (first | apply Kd.R_alloc | apply Kd.R_drewN | apply Kd.R_drew)); exact HO303.out) hb)
         have n1_ := Aside0.mk (Kd.R_below (by (with_reducible repeat (first | apply Kd.R_alloc | apply Kd.R_drewN | apply Kd.R_drew)); exact HO314.out) hb)
         have n2_ := Aside0.mk (Kd.R_below (by (with_reducible repeat (first | apply Kd.R_alloc | apply Kd.R_drewN | apply Kd.R_drew)); exact HO323.out) hb)
         have n3_ := Aside0.mk (blk_below (g := gb297) (o := .cells #[.int .i64 a0_0, .int .i64 a0_1, .int .i64 a0_2, .slice A0_3 l0_3.length c0_3] 24 (0, 0)) (by (with_reducible repeat (first | refine blk_drewN ?_ _ | refine blk_drew ?_ | refine blk_alloc ?_ _)); exact BK297.out) hb)
         have n4_ := Aside0.mk (blk_below (g := gb304) (o := .cells #[.int .i64 t298, .int .i64 t299, .int .i64 t300, .slice Ao18 t301.length co18] 24 (0, 0)) (by (with_reducible repeat (first | refine blk_drewN ?_ _ | refine blk_drew ?_ | refine blk_alloc ?_ _)); exact BK304.out) hb)
         have n5_ := Aside0.mk (blk_below (g := gb317) (o := .cells #[.int .i64 t309, .int .i64 t310, .int .i64 t311, .slice Ao27 t312.length co27] 24 (0, 0)) (by (with_reducible repeat (first | refine blk_drewN ?_ _ | refine blk_drew ?_ | refine blk_alloc ?_ _)); exact BK317.out) hb)
         have n6_ := Aside0.mk (blk_below (g := gb326) (o := .cells #[.int .i64 t318, .int .i64 t319, .int .i64 t320, .slice Ao34 t321.length co34] 24 (0, 0)) (by (with_reducible repeat (first | refine blk_drewN ?_ _ | refine blk_drew ?_ | refine blk_alloc ?_ _)); exact BK326.out) hb)
         have n7_ := Aside0.mk (blk_below (g := gb332) (o := .cells #[.int .i64 t327, .int .i64 t328, .int .i64 t329, .int .i64 t330] 36 (0, 0)) (by (with_reducible repeat (first | refine blk_drewN ?_ _ | refine blk_drew ?_ | refine blk_alloc ?_ _)); exact BK332.out) hb)
         have n8_ := Aside0.mk (blk_below (g := gb338) (o := .cells #[.int .i64 t333, .int .i64 t334, .int .i64 t335, .int .i64 t336] 36 (0, 0)) (by (with_reducible repeat (first | refine blk_drewN ?_ _ | refine blk_drew ?_ | refine blk_alloc ?_ _)); exact BK338.out) hb)
         have n9_ := Aside0.mk (below_step (by repeat (first | (with_reducible first | exact HB.out | apply below_alloc | apply pw_below_drewN | apply below_drew1 | refine below_set ?_ GE297.out | refine below_set ?_ GE304.out | refine below_set ?_ GE317.out | refine below_set ?_ GE326.out | refine below_set ?_ GE332.out | refine below_set ?_ GE338.out) | exact HB.out)) hb)
         clear HO303
         clear HO314
         clear HO323
         clear BK297
         clear BK304
         clear BK317
         clear BK326
         clear BK332
         clear BK338
         clear HB
         have HO303 := n0_
         have HO314 := n1_
         have HO323 := n2_
         have BK297 := n3_
         have BK304 := n4_
         have BK317 := n5_
         have BK326 := n6_
         have BK332 := n7_
         have BK338 := n8_
         have HB := n9_
         clear n0_ n1_ n2_ n3_ n4_ n5_ n6_ n7_ n8_ n9_
         (try clear hb)
         (try clear hb2)
         (try clear hk)
         (try clear hi)
         refine hK.out _ _ ⟨(blk_cell BK317.out 0).trans rfl, (blk_cell BK317.out 1).trans rfl, (blk_cell BK317.out 2).trans rfl, (blk_cell BK317.out 3).trans rfl, (blk_cell BK326.out 0).trans rfl, (blk_cell BK326.out 1).trans rfl, (blk_cell BK326.out 2).trans rfl, (blk_cell BK326.out 3).trans rfl, (blk_cell BK332.out 0).trans rfl, (blk_cell BK332.out 1).trans rfl, (blk_cell BK332.out 2).trans rfl, (blk_cell BK332.out 3).trans rfl, (blk_cell BK338.out 0).trans rfl, (blk_cell BK338.out 1).trans rfl, (blk_cell BK338.out 2).trans rfl, (blk_cell BK338.out 3).trans rfl, (blk_cell BK304.out 0).trans rfl, (blk_cell BK304.out 1).trans rfl, (blk_cell BK304.out 2).trans rfl, (blk_cell BK304.out 3).trans rfl, (blk_cell BK297.out 0).trans rfl, (blk_cell BK297.out 1).trans rfl, (blk_cell BK297.out 2).trans rfl, (blk_cell BK297.out 3).trans rfl⟩ (fun hHeld => ?_)
         clear hK K
         refine norm_ (a' := ?_) ?_ ?_
         rotate_left
         ·show Act.put _ (some 97) _ = _
          simp only [Act.put, List.setIfInBounds_toArray, List.set_cons_zero, List.set_cons_succ, i64_w, i32_w]
          rfl
         refine one_ (i := 41) (N := some 99) #[true, true, true, true, true, true, true, true, true, true, true, true, true, true, true, true, true, true, true, true, true, true, true, true, true, true, true, true, true, true, true, true, true, true, true, true, true, true, true, true, true, true, false, false] rfl rfl (one_of HT_.out (by kernel_rfl)) (by decide) (fun K hK => ?_)
         refine goes_ Try.func22 (by kernel_rfl) rfl #[.agg #[.int .i64 a0_0, .int .i64 a0_1, .int .i64 a0_2, .slice A0_3 l0_3.length c0_3]] (by rfl) rfl rfl (by (try simp only [List.map_toArray, List.map_cons, List.map_nil]); first | done | rfl | (simp only [List.length_drop, List.length_take]; rfl)) ?_
         with_reducible refine (watchwordref1_LsaMay.calls k a0_0 a0_1 a0_2 _ _ l0_3 t344 _ ?side1 ?side2 A64.out).mono ?_
         (case side1 => repeat (first | exact (Kd.C_below HR0_3.out HB.out) | (with_reducible refine Kd.C_alloc ?_ _) | (with_reducible refine Kd.C_drewN ?_ _) | (with_reducible refine Kd.C_drew ?_)))
         (case side2 => exact HC0_3.out)
         rintro e w69 ⟨rfl, hb⟩
         refine ⟨_, rfl, ?_⟩
         have n0_ := Aside0.mk (Kd.R_below (by (with_reducible repeat (first | apply Kd.R_alloc | apply Kd.R_drewN | apply Kd.R_drew)); exact HO303.out) hb)
         have n1_ := Aside0.mk (Kd.R_below (by (with_reducible repeat (first | apply Kd.R_alloc | apply Kd.R_drewN | apply Kd.R_drew)); exact HO314.out) hb)
         have n2_ := Aside0.mk (Kd.R_below (by (with_reducible repeat (first | apply Kd.R_alloc | apply Kd.R_drewN | apply Kd.R_drew)); exact HO323.out) hb)
         have n3_ := Aside0.mk (blk_below (g := gb297) (o := .cells #[.int .i64 a0_0, .int .i64 a0_1, .int .i64 a0_2, .slice A0_3 l0_3.length c0_3] 24 (0, 0)) (by (with_reducible repeat (first | refine blk_drewN ?_ _ | refine blk_drew ?_ | refine blk_alloc ?_ _)); exact BK297.out) hb)
         have n4_ := Aside0.mk (blk_below (g := gb304) (o := .cells #[.int .i64 t298, .int .i64 t299, .int .i64 t300, .slice Ao18 t301.length co18] 24 (0, 0)) (by (with_reducible repeat (first | refine blk_drewN ?_ _ | refine blk_drew ?_ | refine blk_alloc ?_ _)); exact BK304.out) hb)
         have n5_ := Aside0.mk (blk_below (g := gb317) (o := .cells #[.int .i64 t309, .int .i64 t310, .int .i64 t311, .slice Ao27 t312.length co27] 24 (0, 0)) (by (with_reducible repeat (first | refine blk_drewN ?_ _ | refine blk_drew ?_ | refine blk_alloc ?_ _)); exact BK317.out) hb)
         have n6_ := Aside0.mk (blk_below (g := gb326) (o := .cells #[.int .i64 t318, .int .i64 t319, .int .i64 t320, .slice Ao34 t321.length co34] 24 (0, 0)) (by (with_reducible repeat (first | refine blk_drewN ?_ _ | refine blk_drew ?_ | refine blk_alloc ?_ _)); exact BK326.out) hb)
         have n7_ := Aside0.mk (blk_below (g := gb332) (o := .cells #[.int .i64 t327, .int .i64 t328, .int .i64 t329, .int .i64 t330] 36 (0, 0)) (by (with_reducible repeat (first | refine blk_drewN ?_ _ | refine blk_drew ?_ | refine blk_alloc ?_ _)); exact BK332.out) hb)
         have n8_ := Aside0.mk (blk_below (g := gb338) (o := .cells #[.int .i64 t333, .int .i64 t334, .int .i64 t335, .int .i64 t336] 36 (0, 0)) (by (with_reducible repeat (first | refine blk_drewN ?_ _ | refine blk_drew ?_ | refine blk_alloc ?_ _)); exact BK338.out) hb)
         have n9_ := Aside0.mk (below_step (by repeat (first | (with_reducible first | exact HB.out | apply below_alloc | apply pw_below_drewN | apply below_drew1 | refine below_set ?_ GE297.out | refine below_set ?_ GE304.out | refine below_set ?_ GE317.out | refine below_set ?_ GE326.out | refine below_set ?_ GE332.out | refine below_set ?_ GE338.out) | exact HB.out)) hb)
         clear HO303
         clear HO314
         clear HO323
         clear BK297
         clear BK304
         clear BK317
         clear BK326
         clear BK332
         clear BK338
         clear HB
         have HO303 := n0_
         have HO314 := n1_
         have HO323 := n2_
         have BK297 := n3_
         have BK304 := n4_
         have BK317 := n5_
         have BK326 := n6_
         have BK332 := n7_
         have BK338 := n8_
         have HB := n9_
         clear n0_ n1_ n2_ n3_ n4_ n5_ n6_ n7_ n8_ n9_
         (try clear hb)
         (try clear hb2)
         (try clear hk)
         (try clear hi)
         refine hK.out _ _ ⟨(blk_cell BK317.out 0).trans rfl, (blk_cell BK317.out 1).trans rfl, (blk_cell BK317.out 2).trans rfl, (blk_cell BK317.out 3).trans rfl, (blk_cell BK326.out 0).trans rfl, (blk_cell BK326.out 1).trans rfl, (blk_cell BK326.out 2).trans rfl, (blk_cell BK326.out 3).trans rfl, (blk_cell BK332.out 0).trans rfl, (blk_cell BK332.out 1).trans rfl, (blk_cell BK332.out 2).trans rfl, (blk_cell BK332.out 3).trans rfl, (blk_cell BK338.out 0).trans rfl, (blk_cell BK338.out 1).trans rfl, (blk_cell BK338.out 2).trans rfl, (blk_cell BK338.out 3).trans rfl, (blk_cell BK304.out 0).trans rfl, (blk_cell BK304.out 1).trans rfl, (blk_cell BK304.out 2).trans rfl, (blk_cell BK304.out 3).trans rfl, (blk_cell BK297.out 0).trans rfl, (blk_cell BK297.out 1).trans rfl, (blk_cell BK297.out 2).trans rfl, (blk_cell BK297.out 3).trans rfl⟩ (fun hHeld => ?_)
         clear hK K
         refine norm_ (a' := ?_) ?_ ?_
         rotate_left
         ·show Act.put _ (some 99) _ = _
          simp only [Act.put, List.setIfInBounds_toArray, List.set_cons_zero, List.set_cons_succ, i64_w, i32_w]
          rfl
         refine pure_ (i := 42) (N := some 100) (v := ?_) (a' := ?_) #[true, true, true, true, true, true, true, true, true, true, true, true, true, true, true, true, true, true, true, true, true, true, true, true, true, true, true, true, true, true, true, true, true, true, true, true, true, true, true, true, true, true, true, false] rfl rfl (any_of HT_.out (by kernel_rfl)) (fun _ _ _ h => h) (Or.inl ⟨by rfl, ?_⟩) ?_ ?_
         rotate_left
         ·intro w'
          go_simp
          with_reducible rfl
         rotate_left
         ·simp only [Act.put, List.setIfInBounds_toArray, List.set_cons_zero, List.set_cons_succ, i64_w, i32_w]
          rfl
         refine pure_ (i := 43) (N := some 101) (v := ?_) (a' := ?_) #[true, true, true, true, true, true, true, true, true, true, true, true, true, true, true, true, true, true, true, true, true, true, true, true, true, true, true, true, true, true, true, true, true, true, true, true, true, true, true, true, true, true, true, true] rfl rfl (any_of HT_.out (by kernel_rfl)) (fun _ _ _ h => h) (Or.inl ⟨by rfl, ?_⟩) ?_ ?_
         rotate_left
         ·intro w'
          go_simp
          with_reducible rfl
         rotate_left
         ·simp only [Act.put, List.setIfInBounds_toArray, List.set_cons_zero, List.set_cons_succ, i64_w, i32_w]
          rfl
         refine done_ (done_of HT_.out (by kernel_rfl)) ?_
         try go_wp2
         go_meet
         case rel => exact ⟨_, ((t343 != t344)), (by first | rfl | (simp; done) | (simp [*]; done)), H', ⟨by first | omega | exact Nat.le_refl _⟩, ⟨by (with_reducible repeat (first | apply Kd.R_alloc | apply Kd.R_drewN | apply Kd.R_drew)); exact HO303.out⟩, ⟨by (with_reducible repeat (first | apply Kd.R_alloc | apply Kd.R_drewN | apply Kd.R_drew)); exact HO314.out⟩, ⟨by (with_reducible repeat (first | apply Kd.R_alloc | apply Kd.R_drewN | apply Kd.R_drew)); exact HO323.out⟩, ⟨by (with_reducible repeat (first | refine blk_drewN ?_ _ | refine blk_drew ?_ | refine blk_alloc ?_ _)); exact BK297.out⟩, ⟨by (with_reducible repeat (first | refine blk_drewN ?_ _ | refine blk_drew ?_ | refine blk_alloc ?_ _)); exact BK304.out⟩, ⟨by (with_reducible repeat (first | refine blk_drewN ?_ _ | refine blk_drew ?_ | refine blk_alloc ?_ _)); exact BK317.out⟩, ⟨by (with_reducible repeat (first | refine blk_drewN ?_ _ | refine blk_drew ?_ | refine blk_alloc ?_ _)); exact BK326.out⟩, ⟨by (with_reducible repeat (first | refine blk_drewN ?_ _ | refine blk_drew ?_ | refine blk_alloc ?_ _)); exact BK332.out⟩, ⟨by (with_reducible repeat (first | refine blk_drewN ?_ _ | refine blk_drew ?_ | refine blk_alloc ?_ _)); exact BK338.out⟩, ⟨by repeat (first | (with_reducible first | exact HB.out | apply below_alloc | apply pw_below_drewN | apply below_drew1 | refine below_set ?_ GE297.out | refine below_set ?_ GE304.out | refine below_set ?_ GE317.out | refine below_set ?_ GE326.out | refine below_set ?_ GE332.out | refine below_set ?_ GE338.out) | exact HB.out)⟩⟩
        ·rw [if_neg c62] at H
         have c62b0 : (t342 == t337) = false := beq_eq_false_iff_ne.mpr c62
         have c62b1 : (t342 != t337) = true := bne_iff_ne.mpr c62
         exact absurd H (fun h_ => (by
          have hd_ : ∀ k_, watchwordlaw7_Lsas.j0 k_ true a0_0 a0_1 a0_2 l0_3 t298 t299 t300 t301 t309 t310 t311 t312 = some r → False := by
           intro k_ h_
           cases k_ with
           | zero => exact absurd h_ (by simp [watchwordlaw7_Lsas.j0])
           | succ k_ =>
            simp only [watchwordlaw7_Lsas.j0, if_true] at h_
            exact absurd (Option.some.inj h_) (by rw [HT.out]; decide)
          exact hd_ _ h_))
      ·rw [if_neg c59] at H
       have c59b0 : (t341 == t325) = false := beq_eq_false_iff_ne.mpr c59
       have c59b1 : (t341 != t325) = true := bne_iff_ne.mpr c59
       exact absurd H (fun h_ => (by
        have hd_ : ∀ k_, watchwordlaw7_Lsas.j0 k_ true a0_0 a0_1 a0_2 l0_3 t298 t299 t300 t301 t309 t310 t311 t312 = some r → False := by
         intro k_ h_
         cases k_ with
         | zero => exact absurd h_ (by simp [watchwordlaw7_Lsas.j0])
         | succ k_ =>
          simp only [watchwordlaw7_Lsas.j0, if_true] at h_
          exact absurd (Option.some.inj h_) (by rw [HT.out]; decide)
        exact hd_ _ h_))
     ·rw [if_neg c57] at H
      have c57b0 : (t315 == t324) = false := beq_eq_false_iff_ne.mpr c57
      have c57b1 : (t315 != t324) = true := bne_iff_ne.mpr c57
      exact absurd H (fun h_ => (by
       have hd_ : ∀ k_, watchwordlaw7_Lsas.j0 k_ true a0_0 a0_1 a0_2 l0_3 t298 t299 t300 t301 t309 t310 t311 t312 = some r → False := by
        intro k_ h_
        cases k_ with
        | zero => exact absurd h_ (by simp [watchwordlaw7_Lsas.j0])
        | succ k_ =>
         simp only [watchwordlaw7_Lsas.j0, if_true] at h_
         exact absurd (Option.some.inj h_) (by rw [HT.out]; decide)
       exact hd_ _ h_))
    ·replace c56 := Bool.eq_false_iff.mpr c56
     subst c56
     have H1 : (watchwordlaw7_Lsas.j0 k true a0_0 a0_1 a0_2 l0_3 t298 t299 t300 t301 t309 t310 t311 t312) = some r := by rw [if_neg (show ¬ (false = true) by decide)] at H; exact H
     clear H
     have H := H1
     clear H1
     exact absurd H (fun h_ => (by
      have hd_ : ∀ k_, watchwordlaw7_Lsas.j0 k_ true a0_0 a0_1 a0_2 l0_3 t298 t299 t300 t301 t309 t310 t311 t312 = some r → False := by
       intro k_ h_
       cases k_ with
       | zero => exact absurd h_ (by simp [watchwordlaw7_Lsas.j0])
       | succ k_ =>
        simp only [watchwordlaw7_Lsas.j0, if_true] at h_
        exact absurd (Option.some.inj h_) (by rw [HT.out]; decide)
      exact hd_ _ h_))
   ·rw [if_neg c54] at H
    have c54b0 : (t339 == t308) = false := beq_eq_false_iff_ne.mpr c54
    have c54b1 : (t339 != t308) = true := bne_iff_ne.mpr c54
    exact absurd H (fun h_ => (by
     have hd_ : ∀ k_, watchwordlaw7_Lsas.j0 k_ true a0_0 a0_1 a0_2 l0_3 t298 t299 t300 t301 t309 t310 t311 t312 = some r → False := by
      intro k_ h_
      cases k_ with
      | zero => exact absurd h_ (by simp [watchwordlaw7_Lsas.j0])
      | succ k_ =>
       simp only [watchwordlaw7_Lsas.j0, if_true] at h_
       exact absurd (Option.some.inj h_) (by rw [HT.out]; decide)
     exact hd_ _ h_))
  ·rw [if_neg c52] at H
   have c52b0 : (t305.toList == t307.toList) = false := beq_eq_false_iff_ne.mpr c52
   have c52b1 : (t305.toList != t307.toList) = true := bne_iff_ne.mpr c52
   (first | rw [c52b0] | (simp only [i64_w, i32_w]; rw [c52b0]) | skip)
   exact absurd H (fun h_ => (by
    have hd_ : ∀ k_, watchwordlaw7_Lsas.j0 k_ true a0_0 a0_1 a0_2 l0_3 t298 t299 t300 t301 t309 t310 t311 t312 = some r → False := by
     intro k_ h_
     cases k_ with
     | zero => exact absurd h_ (by simp [watchwordlaw7_Lsas.j0])
     | succ k_ =>
      simp only [watchwordlaw7_Lsas.j0, if_true] at h_
      exact absurd (Option.some.inj h_) (by rw [HT.out]; decide)
    exact hd_ _ h_))
 case rest =>
  clear HC11
  try clear c1
  try clear c2
  try clear p2
  try clear c5
  try clear c6
  try clear c19
  try clear c20
  try clear c21
  try clear c22
  try clear c52
  try clear c52b0
  try clear c52b1
  try clear c54
  try clear c54b0
  try clear c54b1
  try clear c56
  try clear c57
  try clear c57b0
  try clear c57b1
  try clear c59
  try clear c59b0
  try clear c59b1
  try clear c62
  try clear c62b0
  try clear c62b1
  obtain ⟨kq, x101_10, rfl, HA, HJ10, HO_305003, HO_318003, HO_327003, BK297, BK304, BK317, BK326, BK332, BK338, HB⟩ := hcut
  cases kq with
  | zero => exact absurd HA.out (by simp [watchwordlaw7_Lsas.j0])
  | succ kj10 =>
   have H := HA.out
   clear HA
   simp only [watchwordlaw7_Lsas.j0] at H
   by_cases c70 : x101_10 = true
   ·subst c70
    have H1 : (some false) = some r := by rw [if_pos rfl] at H; exact H
    clear H
    have H := H1
    clear H1
    exact absurd (Option.some.inj H) (by rw [HT.out]; decide)
   ·replace c70 := Bool.eq_false_iff.mpr c70
    subst c70
    have H1 : ((watchwordlaw0_SpoilLinks.f kj10 t312).bind fun t345 => ((watchwordlaw0_SameLsa.f kj10 t298 t299 t300 t301 a0_0 a0_1 a0_2 l0_3).bind fun t346 => (if t346 = true then ((watchwordlaw7_awake.f kj10).bind fun t347 => (some t347)) else (some false)))) = some r := by rw [if_neg (show ¬ (false = true) by decide)] at H; exact H
    clear H
    have H := H1
    clear H1
    replace H := Option.bind_eq_some_iff.mp H
    obtain ⟨t345, A710, H⟩ := H
    replace H : ((watchwordlaw0_SameLsa.f kj10 t298 t299 t300 t301 a0_0 a0_1 a0_2 l0_3).bind fun t346 => (if t346 = true then ((watchwordlaw7_awake.f kj10).bind fun t347 => (some t347)) else (some false))) = some r := H
    have A71 := Aside0.mk A710
    clear A710
    replace H := Option.bind_eq_some_iff.mp H
    obtain ⟨t346, A720, H⟩ := H
    replace H : (if t346 = true then ((watchwordlaw7_awake.f kj10).bind fun t347 => (some t347)) else (some false)) = some r := H
    have A72 := Aside0.mk A720
    clear A720
    by_cases c73 : t346 = true
    ·subst c73
     have H1 : ((watchwordlaw7_awake.f kj10).bind fun t347 => (some t347)) = some r := by rw [if_pos rfl] at H; exact H
     clear H
     have H := H1
     clear H1
     replace H := Option.bind_eq_some_iff.mp H
     obtain ⟨t347, A740, H⟩ := H
     replace H : (some t347) = some r := H
     have A74 := Aside0.mk A740
     clear A740
     obtain rfl := Option.some.inj H
     have hnb75 := NB317_297.out
     have hnc75 := NB297_317.out
     have hnb76 := NB317_304.out
     have hnc76 := NB304_317.out
     have hnb77 := NB317_326.out
     have hnc77 := NB326_317.out
     have hnb78 := NB317_332.out
     have hnc78 := NB332_317.out
     have hnb79 := NB317_338.out
     have hnc79 := NB338_317.out
     have hcz80_0 : wc.cell? ⟨gb317, 0, none⟩ = some (.int .i64 t309) := (blk_cell BK317.out 0).trans rfl
     have hcz80_1 : wc.cell? ⟨gb317, 1, none⟩ = some (.int .i64 t310) := (blk_cell BK317.out 1).trans rfl
     have hcz80_2 : wc.cell? ⟨gb317, 2, none⟩ = some (.int .i64 t311) := (blk_cell BK317.out 2).trans rfl
     have hcz80_3 : wc.cell? ⟨gb317, 3, none⟩ = some (.slice Ao27 t312.length co27) := (blk_cell BK317.out 3).trans rfl
     have hfz80_0 := blk_frozen BK317.out 0
     have hfz80_1 := blk_frozen BK317.out 1
     have hfz80_2 := blk_frozen BK317.out 2
     have hfz80_3 := blk_frozen BK317.out 3
     go_wp2_with (first | ((with_reducible refine gate_callee (f := 23) rfl ?_); refine goesL_ (some 104) rfl rfl Try.func23 (by kernel_rfl) rfl #[.slice Ao27 t312.length co27] rfl (by (try simp only [List.map_toArray, List.map_cons, List.map_nil]); first | done | rfl | (simp only [List.length_drop, List.length_take]; rfl)) ?_; (with_reducible refine (watchwordlaw0_SpoilLinks.calls kj10 (fun k_ => some k_ = (.slice Ao27 t312.length co27 : Value).ownBlock) (.slice Ao27 t312.length co27) t312 t345 w _ ?side1 ?side2 A71.out).mono ?_); (case side1 => repeat (first | (with_reducible first | exact HB.out | apply below_alloc | apply pw_below_drewN | apply below_drew1 | refine below_set ?_ GE297.out | refine below_set ?_ GE304.out | refine below_set ?_ GE317.out | refine below_set ?_ GE326.out | refine below_set ?_ GE332.out | refine below_set ?_ GE338.out) | exact HB.out)); (case side2 => exact Kd.R_tight rfl HO_318003.out); rintro e w81 ⟨rfl, hy0, hb, hkp⟩; refine ⟨_, rfl, ?_⟩; have n0_ := Aside0.mk (Kd.R_mono (ok' := fun k_ => some k_ ≠ (.slice Ao27 t312.length co27 : Value).ownBlock ∧ some k_ ≠ (.slice Ao34 t321.length co34 : Value).ownBlock) (Kd.R_keptB (HO_305003.out) hkp (fun k_ hk_ hs_ => (hk_.1) hs_)) (fun k_ hk_ => ⟨hk_.1.1, hk_.1.2⟩)); have n1_ := Aside0.mk (Kd.R_reok rfl hy0 (fun k_ e_ => HO_318003.out.1 k_ e_)); have n2_ := Aside0.mk (Kd.R_mono (ok' := fun k_ => some k_ ≠ (.slice Ao18 t301.length co18 : Value).ownBlock ∧ some k_ ≠ (.slice Ao27 t312.length co27 : Value).ownBlock) (Kd.R_keptB (HO_327003.out) hkp (fun k_ hk_ hs_ => (hk_.2) hs_)) (fun k_ hk_ => ⟨hk_.1.1, hk_.1.2⟩)); have n3_ := Aside0.mk (blk_kept (by (with_reducible repeat (first | refine blk_drewN ?_ _ | refine blk_drew ?_ | refine blk_alloc ?_ _)); exact BK297.out) hkp (fun hs_ => (fun e_ => (Kd.R_ne HO_318003.out BK297.out (by decide)) e_) hs_)); have n4_ := Aside0.mk (blk_kept (by (with_reducible repeat (first | refine blk_drewN ?_ _ | refine blk_drew ?_ | refine blk_alloc ?_ _)); exact BK304.out) hkp (fun hs_ => (fun e_ => (Kd.R_ne HO_318003.out BK304.out (by decide)) e_) hs_)); have n5_ := Aside0.mk (blk_kept (by (with_reducible repeat (first | refine blk_drewN ?_ _ | refine blk_drew ?_ | refine blk_alloc ?_ _)); exact BK317.out) hkp (fun hs_ => (fun e_ => (Kd.R_ne HO_318003.out BK317.out (by decide)) e_) hs_)); have n6_ := Aside0.mk (blk_kept (by (with_reducible repeat (first | refine blk_drewN ?_ _ | refine blk_drew ?_ | refine blk_alloc ?_ _)); exact BK326.out) hkp (fun hs_ => (fun e_ => (Kd.R_ne HO_318003.out BK326.out (by decide)) e_) hs_)); have n7_ := Aside0.mk (blk_kept (by (with_reducible repeat (first | refine blk_drewN ?_ _ | refine blk_drew ?_ | refine blk_alloc ?_ _)); exact BK332.out) hkp (fun hs_ => (fun e_ => (Kd.R_ne HO_318003.out BK332.out (by decide)) e_) hs_)); have n8_ := Aside0.mk (blk_kept (by (with_reducible repeat (first | refine blk_drewN ?_ _ | refine blk_drew ?_ | refine blk_alloc ?_ _)); exact BK338.out) hkp (fun hs_ => (fun e_ => (Kd.R_ne HO_318003.out BK338.out (by decide)) e_) hs_)); have n9_ := Aside0.mk (hb); clear HO_305003; clear HO_318003; clear HO_327003; clear BK297; clear BK304; clear BK317; clear BK326; clear BK332; clear BK338; clear HB; have HO_305003 := n0_; have HO_318003 := n1_; have HO_327003 := n2_; have BK297 := n3_; have BK304 := n4_; have BK317 := n5_; have BK326 := n6_; have BK332 := n7_; have BK338 := n8_; have HB := n9_; clear n0_ n1_ n2_ n3_ n4_ n5_ n6_ n7_ n8_ n9_; (try clear hb); (try clear hkp); (try clear hy0); have hnb82 := NB304_297.out; have hnc82 := NB297_304.out; have hnb83 := NB304_326.out; have hnc83 := NB326_304.out; have hnb84 := NB304_332.out; have hnc84 := NB332_304.out; have hnb85 := NB304_338.out; have hnc85 := NB338_304.out; have hcz86_0 : w81.cell? ⟨gb304, 0, none⟩ = some (.int .i64 t298) := (blk_cell BK304.out 0).trans rfl; have hcz86_1 : w81.cell? ⟨gb304, 1, none⟩ = some (.int .i64 t299) := (blk_cell BK304.out 1).trans rfl; have hcz86_2 : w81.cell? ⟨gb304, 2, none⟩ = some (.int .i64 t300) := (blk_cell BK304.out 2).trans rfl; have hcz86_3 : w81.cell? ⟨gb304, 3, none⟩ = some (.slice Ao18 t301.length co18) := (blk_cell BK304.out 3).trans rfl; have hfz86_0 := blk_frozen BK304.out 0; have hfz86_1 := blk_frozen BK304.out 1; have hfz86_2 := blk_frozen BK304.out 2; have hfz86_3 := blk_frozen BK304.out 3; have hnb87 := NB297_326.out; have hnc87 := NB326_297.out; have hnb88 := NB297_332.out; have hnc88 := NB332_297.out; have hnb89 := NB297_338.out; have hnc89 := NB338_297.out; have hcz90_0 : w81.cell? ⟨gb297, 0, none⟩ = some (.int .i64 a0_0) := (blk_cell BK297.out 0).trans rfl; have hcz90_1 : w81.cell? ⟨gb297, 1, none⟩ = some (.int .i64 a0_1) := (blk_cell BK297.out 1).trans rfl; have hcz90_2 : w81.cell? ⟨gb297, 2, none⟩ = some (.int .i64 a0_2) := (blk_cell BK297.out 2).trans rfl; have hcz90_3 : w81.cell? ⟨gb297, 3, none⟩ = some (.slice A0_3 l0_3.length c0_3) := (blk_cell BK297.out 3).trans rfl; have hfz90_0 := blk_frozen BK297.out 0; have hfz90_1 := blk_frozen BK297.out 1; have hfz90_2 := blk_frozen BK297.out 2; have hfz90_3 := blk_frozen BK297.out 3) | ((with_reducible refine gate_callee (f := 20) rfl ?_); refine goesL_ (some 107) rfl rfl Try.func20 (by kernel_rfl) rfl #[.agg #[.int .i64 t298, .int .i64 t299, .int .i64 t300, .slice Ao18 t301.length co18], .agg #[.int .i64 a0_0, .int .i64 a0_1, .int .i64 a0_2, .slice A0_3 l0_3.length c0_3]] rfl (by (try simp only [List.map_toArray, List.map_cons, List.map_nil]); first | done | rfl | (simp only [List.length_drop, List.length_take]; rfl)) ?_; (with_reducible refine (watchwordlaw0_SameLsa.calls kj10 t298 t299 t300 _ _ t301 a0_0 a0_1 a0_2 _ _ l0_3 true _ ?side1 ?side2 ?side3 ?side4 A72.out).mono ?_); (case side1 => repeat (first | exact (Kd.R_reads' HO_305003.out).2.2 | (with_reducible refine Kd.C_alloc ?_ _) | (with_reducible refine Kd.C_drewN ?_ _) | (with_reducible refine Kd.C_drew ?_))); (case side2 => exact (Kd.R_reads' HO_305003.out).2.1); (case side3 => repeat (first | exact (Kd.C_below HR0_3.out HB.out) | (with_reducible refine Kd.C_alloc ?_ _) | (with_reducible refine Kd.C_drewN ?_ _) | (with_reducible refine Kd.C_drew ?_))); (case side4 => exact HC0_3.out); rintro e w91 ⟨rfl, hb⟩; refine ⟨_, rfl, ?_⟩; have n0_ := Aside0.mk (Kd.R_below (by (with_reducible repeat (first | apply Kd.R_alloc | apply Kd.R_drewN | apply Kd.R_drew)); exact HO_305003.out) hb); have n1_ := Aside0.mk (Kd.R_below (by (with_reducible repeat (first | apply Kd.R_alloc | apply Kd.R_drewN | apply Kd.R_drew)); exact HO_318003.out) hb); have n2_ := Aside0.mk (Kd.R_below (by (with_reducible repeat (first | apply Kd.R_alloc | apply Kd.R_drewN | apply Kd.R_drew)); exact HO_327003.out) hb); have n3_ := Aside0.mk (blk_below (g := gb297) (o := .cells #[.int .i64 a0_0, .int .i64 a0_1, .int .i64 a0_2, .slice A0_3 l0_3.length c0_3] 24 (0, 0)) (by (with_reducible repeat (first | refine blk_drewN ?_ _ | refine blk_drew ?_ | refine blk_alloc ?_ _)); exact BK297.out) hb); have n4_ := Aside0.mk (blk_below (g := gb304) (o := .cells #[.int .i64 t298, .int .i64 t299, .int .i64 t300, .slice Ao18 t301.length co18] 24 (0, 0)) (by (with_reducible repeat (first | refine blk_drewN ?_ _ | refine blk_drew ?_ | refine blk_alloc ?_ _)); exact BK304.out) hb); have n5_ := Aside0.mk (blk_below (g := gb317) (o := .cells #[.int .i64 t309, .int .i64 t310, .int .i64 t311, .slice Ao27 t312.length co27] 24 (0, 0)) (by (with_reducible repeat (first | refine blk_drewN ?_ _ | refine blk_drew ?_ | refine blk_alloc ?_ _)); exact BK317.out) hb); have n6_ := Aside0.mk (blk_below (g := gb326) (o := .cells #[.int .i64 t318, .int .i64 t319, .int .i64 t320, .slice Ao34 t321.length co34] 24 (0, 0)) (by (with_reducible repeat (first | refine blk_drewN ?_ _ | refine blk_drew ?_ | refine blk_alloc ?_ _)); exact BK326.out) hb); have n7_ := Aside0.mk (blk_below (g := gb332) (o := .cells #[.int .i64 t327, .int .i64 t328, .int .i64 t329, .int .i64 t330] 36 (0, 0)) (by (with_reducible repeat (first | refine blk_drewN ?_ _ | refine blk_drew ?_ | refine blk_alloc ?_ _)); exact BK332.out) hb); have n8_ := Aside0.mk (blk_below (g := gb338) (o := .cells #[.int .i64 t333, .int .i64 t334, .int .i64 t335, .int .i64 t336] 36 (0, 0)) (by (with_reducible repeat (first | refine blk_drewN ?_ _ | refine blk_drew ?_ | refine blk_alloc ?_ _)); exact BK338.out) hb); have n9_ := Aside0.mk (below_step (by repeat (first | (with_reducible first | exact HB.out | apply below_alloc | apply pw_below_drewN | apply below_drew1 | refine below_set ?_ GE297.out | refine below_set ?_ GE304.out | refine below_set ?_ GE317.out | refine below_set ?_ GE326.out | refine below_set ?_ GE332.out | refine below_set ?_ GE338.out) | exact HB.out)) hb); clear HO_305003; clear HO_318003; clear HO_327003; clear BK297; clear BK304; clear BK317; clear BK326; clear BK332; clear BK338; clear HB; have HO_305003 := n0_; have HO_318003 := n1_; have HO_327003 := n2_; have BK297 := n3_; have BK304 := n4_; have BK317 := n5_; have BK326 := n6_; have BK332 := n7_; have BK338 := n8_; have HB := n9_; clear n0_ n1_ n2_ n3_ n4_ n5_ n6_ n7_ n8_ n9_; (try clear hb); (try clear hb2); (try clear hk); (try clear hi)) | (go_at_call 24; (with_reducible refine (watchwordlaw7_awake.calls kj10  t347 _ A74.out (by first | rfl | exact HT.out)).mono ?_); rintro e w92 ⟨rfl, hb⟩; have n0_ := Aside0.mk (Kd.R_below (by (with_reducible repeat (first | apply Kd.R_alloc | apply Kd.R_drewN | apply Kd.R_drew)); exact HO_305003.out) hb); have n1_ := Aside0.mk (Kd.R_below (by (with_reducible repeat (first | apply Kd.R_alloc | apply Kd.R_drewN | apply Kd.R_drew)); exact HO_318003.out) hb); have n2_ := Aside0.mk (Kd.R_below (by (with_reducible repeat (first | apply Kd.R_alloc | apply Kd.R_drewN | apply Kd.R_drew)); exact HO_327003.out) hb); have n3_ := Aside0.mk (blk_below (g := gb297) (o := .cells #[.int .i64 a0_0, .int .i64 a0_1, .int .i64 a0_2, .slice A0_3 l0_3.length c0_3] 24 (0, 0)) (by (with_reducible repeat (first | refine blk_drewN ?_ _ | refine blk_drew ?_ | refine blk_alloc ?_ _)); exact BK297.out) hb); have n4_ := Aside0.mk (blk_below (g := gb304) (o := .cells #[.int .i64 t298, .int .i64 t299, .int .i64 t300, .slice Ao18 t301.length co18] 24 (0, 0)) (by (with_reducible repeat (first | refine blk_drewN ?_ _ | refine blk_drew ?_ | refine blk_alloc ?_ _)); exact BK304.out) hb); have n5_ := Aside0.mk (blk_below (g := gb317) (o := .cells #[.int .i64 t309, .int .i64 t310, .int .i64 t311, .slice Ao27 t312.length co27] 24 (0, 0)) (by (with_reducible repeat (first | refine blk_drewN ?_ _ | refine blk_drew ?_ | refine blk_alloc ?_ _)); exact BK317.out) hb); have n6_ := Aside0.mk (blk_below (g := gb326) (o := .cells #[.int .i64 t318, .int .i64 t319, .int .i64 t320, .slice Ao34 t321.length co34] 24 (0, 0)) (by (with_reducible repeat (first | refine blk_drewN ?_ _ | refine blk_drew ?_ | refine blk_alloc ?_ _)); exact BK326.out) hb); have n7_ := Aside0.mk (blk_below (g := gb332) (o := .cells #[.int .i64 t327, .int .i64 t328, .int .i64 t329, .int .i64 t330] 36 (0, 0)) (by (with_reducible repeat (first | refine blk_drewN ?_ _ | refine blk_drew ?_ | refine blk_alloc ?_ _)); exact BK332.out) hb); have n8_ := Aside0.mk (blk_below (g := gb338) (o := .cells #[.int .i64 t333, .int .i64 t334, .int .i64 t335, .int .i64 t336] 36 (0, 0)) (by (with_reducible repeat (first | refine blk_drewN ?_ _ | refine blk_drew ?_ | refine blk_alloc ?_ _)); exact BK338.out) hb); have n9_ := Aside0.mk (below_step (by repeat (first | (with_reducible first | exact HB.out | apply below_alloc | apply pw_below_drewN | apply below_drew1 | refine below_set ?_ GE297.out | refine below_set ?_ GE304.out | refine below_set ?_ GE317.out | refine below_set ?_ GE326.out | refine below_set ?_ GE332.out | refine below_set ?_ GE338.out) | exact HB.out)) hb); clear HO_305003; clear HO_318003; clear HO_327003; clear BK297; clear BK304; clear BK317; clear BK326; clear BK332; clear BK338; clear HB; have HO_305003 := n0_; have HO_318003 := n1_; have HO_327003 := n2_; have BK297 := n3_; have BK304 := n4_; have BK317 := n5_; have BK326 := n6_; have BK332 := n7_; have BK338 := n8_; have HB := n9_; clear n0_ n1_ n2_ n3_ n4_ n5_ n6_ n7_ n8_ n9_; (try clear hb); (try clear hb2); (try clear hk); (try clear hi)))
     go_ret
     exact ⟨by first | rfl | (simp [errW_none, errW_some] <;> rfl) | (simp [*, errW_none, errW_some] <;> rfl), by repeat (first | (with_reducible first | exact HB.out | apply below_alloc | apply pw_below_drewN | apply below_drew1 | refine below_set ?_ GE297.out | refine below_set ?_ GE304.out | refine below_set ?_ GE317.out | refine below_set ?_ GE326.out | refine below_set ?_ GE332.out | refine below_set ?_ GE338.out) | exact HB.out)⟩
    ·replace c73 := Bool.eq_false_iff.mpr c73
     subst c73
     have H1 : (some false) = some r := by rw [if_neg (show ¬ (false = true) by decide)] at H; exact H
     clear H
     have H := H1
     clear H1
     exact absurd (Option.some.inj H) (by rw [HT.out]; decide)

end Go.Proofs.Ytmcajcomoegkdaa.Q7
