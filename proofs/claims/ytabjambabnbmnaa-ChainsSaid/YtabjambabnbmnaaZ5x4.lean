/- Written by a program of this session (out of what the print wrote for this seat): the functions' walks, packed. -/
import Derived.Test.YtabjambabnbmnaaZ5x3
namespace Go.Proofs.Ytabjambabnbmnaa.Q5
open Go.RowKit Go.Proofs.YtabjambabnbmnaaW.PrintWords Go.Proofs.YtabjambabnbmnaaW.PrintLast Go.Proofs.YtabjambabnbmnaaW.PrintMore
attribute [local go_sem] max2_int min2_int max_two min_two max_three min_three max_four min_four   -- for this text's walks alone
set_option linter.unusedVariables false
set_option linter.unusedSimpArgs false

attribute [local go_sem high] eqA50
/-! ### watchwordlaw5_Chains: function 8 -/
def watchwordlaw5_Chains.j0 : Nat → List (S50) → List (S50) → List (S50) → List (S50) → Bool → Option (Bool)
 | 0, _, _, _, _, _ => none
 | k + 1, x0, x5, x9, x10, x100 => if x100 = true then (some false) else ((watchwordlaw0_SpoilKeys.f k x10).bind fun t346 => ((watchwordlaw0_KeptKeys.f k x9 x0 x5).bind fun t347 => (if t347 = true then ((watchwordlaw5_awake.f k).bind fun t348 => (some t348)) else (some false))))
def watchwordlaw5_Chains.g (k : Nat) (l0 : List (S50)) (a1_0 : Int) (a1_1 : ByteArray) (a1_2 : Int) (a1_3 : Int) (a1_4 : Int) (a1_5 : Int) (a2 : Int) (a3 : Int) (l2 : List (S50)) (l3 : List (S50)) : Option (Bool) := (chain_With.f k l2 a1_0 a1_1 a1_2 a1_3 a1_4 a1_5).bind fun bt300 => ((watchwordref1_WithKey.f k l0 a1_0 a1_1 a1_2 a1_3 a1_4 a1_5).bind fun bt304 => ((chain_Send.f k l2 a3).bind fun bt308 => ((watchwordref1_SendKey.f k l0 a3).bind fun bt316 => ((chain_Accept.f k l2 a2 a3).bind fun bt324 => ((watchwordref1_AcceptKey.f k l0 a2 a3).bind fun bt332 => ((watchwordlaw0_SameKeys.f k bt300.1 bt304.1).bind fun t340 => (if t340 = true then ((watchwordlaw0_Num.f bt300.2).bind fun t341 => (if t341 = bt304.2 then (if (!(bt308.1 == bt316.1) || (!(bt308.2.1.toList == bt316.2.1.toList) || (!(bt308.2.2.1 == bt316.2.2.1) || (!(bt308.2.2.2.1 == bt316.2.2.2.1) || (!(bt308.2.2.2.2.1 == bt316.2.2.2.2.1) || (!(bt308.2.2.2.2.2.1 == bt316.2.2.2.2.2.1))))))) = true then (watchwordlaw5_Chains.j0 k l0 l3 l2 bt300.1 true) else ((watchwordlaw0_Num.f bt308.2.2.2.2.2.2).bind fun t342 => (if t342 = bt316.2.2.2.2.2.2 then (if (!(bt324.1 == bt332.1) || (!(bt324.2.1.toList == bt332.2.1.toList) || (!(bt324.2.2.1 == bt332.2.2.1) || (!(bt324.2.2.2.1 == bt332.2.2.2.1) || (!(bt324.2.2.2.2.1 == bt332.2.2.2.2.1) || (!(bt324.2.2.2.2.2.1 == bt332.2.2.2.2.2.1))))))) = true then (watchwordlaw5_Chains.j0 k l0 l3 l2 bt300.1 true) else ((watchwordlaw0_Num.f bt324.2.2.2.2.2.2).bind fun t343 => (if t343 = bt332.2.2.2.2.2.2 then ((chain_May.f k l2).bind fun t344 => ((watchwordref1_ChainMay.f k l0).bind fun t345 => (watchwordlaw5_Chains.j0 k l0 l3 l2 bt300.1 (t344 != t345)))) else (watchwordlaw5_Chains.j0 k l0 l3 l2 bt300.1 true)))) else (watchwordlaw5_Chains.j0 k l0 l3 l2 bt300.1 true)))) else (watchwordlaw5_Chains.j0 k l0 l3 l2 bt300.1 true))) else (watchwordlaw5_Chains.j0 k l0 l3 l2 bt300.1 true))))))))
theorem watchwordlaw5_Chains.mono_l : ∀ k, (∀ y0 y1 y2 y3 y4, LeO (watchwordlaw5_Chains.j0 k y0 y1 y2 y3 y4) (watchwordlaw5_Chains.j0 (k + 1) y0 y1 y2 y3 y4))
 | 0 => fun _ _ _ _ _ r h => by simp [watchwordlaw5_Chains.j0] at h
 | k + 1 => by
  have ih0 := watchwordlaw5_Chains.mono_l k
  ·intro y0 y1 y2 y3 y4
   unfold watchwordlaw5_Chains.j0
   repeat' first
   | (with_reducible exact ih0 _ _ _ _ _)
   | (with_reducible exact chain_Accept.mono _ _ _ _)
   | (with_reducible exact chain_May.mono _ _)
   | (with_reducible exact chain_Send.mono _ _ _)
   | (with_reducible exact chain_With.mono _ _ _ _ _ _ _ _)
   | (with_reducible exact watchwordlaw0_KeptKeys.mono _ _ _ _)
   | (with_reducible exact watchwordlaw0_SameKeys.mono _ _ _)
   | (with_reducible exact watchwordlaw0_SpoilKeys.mono _ _)
   | (with_reducible exact watchwordlaw5_awake.mono _)
   | (with_reducible exact watchwordref1_AcceptKey.mono _ _ _ _)
   | (with_reducible exact watchwordref1_ChainMay.mono _ _)
   | (with_reducible exact watchwordref1_SendKey.mono _ _ _)
   | (with_reducible exact watchwordref1_WithKey.mono _ _ _ _ _ _ _ _)
   | (with_reducible exact LeO.refl _)
   | (with_reducible exact LeO.none _)
   | (with_reducible refine LeO.ite ?_ ?_)
   | (with_reducible refine LeO.bind ?_ (fun _ => ?_))
   | exact ih0 _ _ _ _ _
   | exact chain_Accept.mono _ _ _ _
   | exact chain_May.mono _ _
   | exact chain_Send.mono _ _ _
   | exact chain_With.mono _ _ _ _ _ _ _ _
   | exact watchwordlaw0_KeptKeys.mono _ _ _ _
   | exact watchwordlaw0_SameKeys.mono _ _ _
   | exact watchwordlaw0_SpoilKeys.mono _ _
   | exact watchwordlaw5_awake.mono _
   | exact watchwordref1_AcceptKey.mono _ _ _ _
   | exact watchwordref1_ChainMay.mono _ _
   | exact watchwordref1_SendKey.mono _ _ _
   | exact watchwordref1_WithKey.mono _ _ _ _ _ _ _ _
   | exact LeO.none _
   | refine LeO.ite ?_ ?_
   | refine LeO.bind ?_ (fun _ => ?_)
theorem watchwordlaw5_Chains.mono : ∀ a0 a1 a2 a3 a4 a5 a6 a7 a8 a9 a10 k, LeO (watchwordlaw5_Chains.g k a0 a1 a2 a3 a4 a5 a6 a7 a8 a9 a10) (watchwordlaw5_Chains.g (k + 1) a0 a1 a2 a3 a4 a5 a6 a7 a8 a9 a10) := by
 intro a0 a1 a2 a3 a4 a5 a6 a7 a8 a9 a10 k
 have ih0 := watchwordlaw5_Chains.mono_l k
 unfold watchwordlaw5_Chains.g
 repeat' first
   | (with_reducible exact ih0 _ _ _ _ _)
   | (with_reducible exact chain_Accept.mono _ _ _ _)
   | (with_reducible exact chain_May.mono _ _)
   | (with_reducible exact chain_Send.mono _ _ _)
   | (with_reducible exact chain_With.mono _ _ _ _ _ _ _ _)
   | (with_reducible exact watchwordlaw0_KeptKeys.mono _ _ _ _)
   | (with_reducible exact watchwordlaw0_SameKeys.mono _ _ _)
   | (with_reducible exact watchwordlaw0_SpoilKeys.mono _ _)
   | (with_reducible exact watchwordlaw5_awake.mono _)
   | (with_reducible exact watchwordref1_AcceptKey.mono _ _ _ _)
   | (with_reducible exact watchwordref1_ChainMay.mono _ _)
   | (with_reducible exact watchwordref1_SendKey.mono _ _ _)
   | (with_reducible exact watchwordref1_WithKey.mono _ _ _ _ _ _ _ _)
   | (with_reducible exact LeO.refl _)
   | (with_reducible exact LeO.none _)
   | (with_reducible refine LeO.ite ?_ ?_)
   | (with_reducible refine LeO.bind ?_ (fun _ => ?_))
   | exact ih0 _ _ _ _ _
   | exact chain_Accept.mono _ _ _ _
   | exact chain_May.mono _ _
   | exact chain_Send.mono _ _ _
   | exact chain_With.mono _ _ _ _ _ _ _ _
   | exact watchwordlaw0_KeptKeys.mono _ _ _ _
   | exact watchwordlaw0_SameKeys.mono _ _ _
   | exact watchwordlaw0_SpoilKeys.mono _ _
   | exact watchwordlaw5_awake.mono _
   | exact watchwordref1_AcceptKey.mono _ _ _ _
   | exact watchwordref1_ChainMay.mono _ _
   | exact watchwordref1_SendKey.mono _ _ _
   | exact watchwordref1_WithKey.mono _ _ _ _ _ _ _ _
   | exact LeO.none _
   | refine LeO.ite ?_ ?_
   | refine LeO.bind ?_ (fun _ => ?_)
set_option maxHeartbeats 8000000 in
set_option maxRecDepth 100000 in
theorem watchwordlaw5_Chains.walk (k : Nat) (A0 : Option Addr) (c0 : Nat) (l0 : List (S50)) (a1_0 : Int) (a1_1 : ByteArray) (a1_2 : Int) (a1_3 : Int) (a1_4 : Int) (a1_5 : Int) (a2 : Int) (a3 : Int) (l2 : List (S50)) (l3 : List (S50)) (r : Bool) (w : World) (hr0 : Kd.C k50 w A0 l0.length l0) (hc0 : l0.length ≤ c0) (hL : watchwordlaw0_LendKeys.f l0 = some l2) (h3 : ∀ t_, watchwordlaw0_CopyKeys.f l0 = some t_ → t_ ++ ([(⟨77777, ⟨#[]⟩, 0, 0, 0, 0⟩ : S50), (⟨77777, ⟨#[]⟩, 0, 0, 0, 0⟩ : S50)] : List S50) = l3) (hlen : l3.length = l2.length + 2) (hsz : l2.length ≤ 1000000000000000) (hle : l0.length ≤ l3.length) (h : watchwordlaw5_Chains.g k l0 a1_0 a1_1 a1_2 a1_3 a1_4 a1_5 a2 a3 l2 l3 = some r) (hT : r = true) :
  Calls Try.prog 8 #[.slice A0 l0.length c0, .agg #[.int .i64 a1_0, .string a1_1, .int .i64 a1_2, .int .i64 a1_3, .int .i64 a1_4, .int .i64 a1_5], .int .i64 a2, .int .i64 a3] w fun e w' => e = .returned (.bool r) ∧ Below w.heap.size w w' := by
 have HL_ := Aside0.mk hL
 have H3_ := Aside0.mk h3
 have HN_ := Aside0.mk hlen
 have HS_ := Aside0.mk hsz
 have HE_ := Aside0.mk hle
 clear hL h3 hlen hsz hle
 have hu50 := Try.underlying50
 have HR0 := Aside0.mk hr0
 have HC0 := Aside0.mk hc0
 clear hr0 hc0
 have HB := Aside0.mk (Below.refl w.heap.size w)
 have HT := Aside0.mk hT
 clear hT
 have H : ((chain_With.f k l2 a1_0 a1_1 a1_2 a1_3 a1_4 a1_5).bind fun bt300 => ((watchwordref1_WithKey.f k l0 a1_0 a1_1 a1_2 a1_3 a1_4 a1_5).bind fun bt304 => ((chain_Send.f k l2 a3).bind fun bt308 => ((watchwordref1_SendKey.f k l0 a3).bind fun bt316 => ((chain_Accept.f k l2 a2 a3).bind fun bt324 => ((watchwordref1_AcceptKey.f k l0 a2 a3).bind fun bt332 => ((watchwordlaw0_SameKeys.f k bt300.1 bt304.1).bind fun t340 => (if t340 = true then ((watchwordlaw0_Num.f bt300.2).bind fun t341 => (if t341 = bt304.2 then (if (!(bt308.1 == bt316.1) || (!(bt308.2.1.toList == bt316.2.1.toList) || (!(bt308.2.2.1 == bt316.2.2.1) || (!(bt308.2.2.2.1 == bt316.2.2.2.1) || (!(bt308.2.2.2.2.1 == bt316.2.2.2.2.1) || (!(bt308.2.2.2.2.2.1 == bt316.2.2.2.2.2.1))))))) = true then (watchwordlaw5_Chains.j0 k l0 l3 l2 bt300.1 true) else ((watchwordlaw0_Num.f bt308.2.2.2.2.2.2).bind fun t342 => (if t342 = bt316.2.2.2.2.2.2 then (if (!(bt324.1 == bt332.1) || (!(bt324.2.1.toList == bt332.2.1.toList) || (!(bt324.2.2.1 == bt332.2.2.1) || (!(bt324.2.2.2.1 == bt332.2.2.2.1) || (!(bt324.2.2.2.2.1 == bt332.2.2.2.2.1) || (!(bt324.2.2.2.2.2.1 == bt332.2.2.2.2.2.1))))))) = true then (watchwordlaw5_Chains.j0 k l0 l3 l2 bt300.1 true) else ((watchwordlaw0_Num.f bt324.2.2.2.2.2.2).bind fun t343 => (if t343 = bt332.2.2.2.2.2.2 then ((chain_May.f k l2).bind fun t344 => ((watchwordref1_ChainMay.f k l0).bind fun t345 => (watchwordlaw5_Chains.j0 k l0 l3 l2 bt300.1 (t344 != t345)))) else (watchwordlaw5_Chains.j0 k l0 l3 l2 bt300.1 true)))) else (watchwordlaw5_Chains.j0 k l0 l3 l2 bt300.1 true)))) else (watchwordlaw5_Chains.j0 k l0 l3 l2 bt300.1 true))) else (watchwordlaw5_Chains.j0 k l0 l3 l2 bt300.1 true))))))))) = some r := h
 clear h
 replace H := Option.bind_eq_some_iff.mp H
 obtain ⟨⟨t300, t303⟩, A70, H⟩ := H
 replace H : ((watchwordref1_WithKey.f k l0 a1_0 a1_1 a1_2 a1_3 a1_4 a1_5).bind fun bt304 => ((chain_Send.f k l2 a3).bind fun bt308 => ((watchwordref1_SendKey.f k l0 a3).bind fun bt316 => ((chain_Accept.f k l2 a2 a3).bind fun bt324 => ((watchwordref1_AcceptKey.f k l0 a2 a3).bind fun bt332 => ((watchwordlaw0_SameKeys.f k t300 bt304.1).bind fun t340 => (if t340 = true then ((watchwordlaw0_Num.f t303).bind fun t341 => (if t341 = bt304.2 then (if (!(bt308.1 == bt316.1) || (!(bt308.2.1.toList == bt316.2.1.toList) || (!(bt308.2.2.1 == bt316.2.2.1) || (!(bt308.2.2.2.1 == bt316.2.2.2.1) || (!(bt308.2.2.2.2.1 == bt316.2.2.2.2.1) || (!(bt308.2.2.2.2.2.1 == bt316.2.2.2.2.2.1))))))) = true then (watchwordlaw5_Chains.j0 k l0 l3 l2 t300 true) else ((watchwordlaw0_Num.f bt308.2.2.2.2.2.2).bind fun t342 => (if t342 = bt316.2.2.2.2.2.2 then (if (!(bt324.1 == bt332.1) || (!(bt324.2.1.toList == bt332.2.1.toList) || (!(bt324.2.2.1 == bt332.2.2.1) || (!(bt324.2.2.2.1 == bt332.2.2.2.1) || (!(bt324.2.2.2.2.1 == bt332.2.2.2.2.1) || (!(bt324.2.2.2.2.2.1 == bt332.2.2.2.2.2.1))))))) = true then (watchwordlaw5_Chains.j0 k l0 l3 l2 t300 true) else ((watchwordlaw0_Num.f bt324.2.2.2.2.2.2).bind fun t343 => (if t343 = bt332.2.2.2.2.2.2 then ((chain_May.f k l2).bind fun t344 => ((watchwordref1_ChainMay.f k l0).bind fun t345 => (watchwordlaw5_Chains.j0 k l0 l3 l2 t300 (t344 != t345)))) else (watchwordlaw5_Chains.j0 k l0 l3 l2 t300 true)))) else (watchwordlaw5_Chains.j0 k l0 l3 l2 t300 true)))) else (watchwordlaw5_Chains.j0 k l0 l3 l2 t300 true))) else (watchwordlaw5_Chains.j0 k l0 l3 l2 t300 true)))))))) = some r := H
 have A7 := Aside0.mk A70
 clear A70
 replace H := Option.bind_eq_some_iff.mp H
 obtain ⟨⟨t304, t307⟩, A80, H⟩ := H
 replace H : ((chain_Send.f k l2 a3).bind fun bt308 => ((watchwordref1_SendKey.f k l0 a3).bind fun bt316 => ((chain_Accept.f k l2 a2 a3).bind fun bt324 => ((watchwordref1_AcceptKey.f k l0 a2 a3).bind fun bt332 => ((watchwordlaw0_SameKeys.f k t300 t304).bind fun t340 => (if t340 = true then ((watchwordlaw0_Num.f t303).bind fun t341 => (if t341 = t307 then (if (!(bt308.1 == bt316.1) || (!(bt308.2.1.toList == bt316.2.1.toList) || (!(bt308.2.2.1 == bt316.2.2.1) || (!(bt308.2.2.2.1 == bt316.2.2.2.1) || (!(bt308.2.2.2.2.1 == bt316.2.2.2.2.1) || (!(bt308.2.2.2.2.2.1 == bt316.2.2.2.2.2.1))))))) = true then (watchwordlaw5_Chains.j0 k l0 l3 l2 t300 true) else ((watchwordlaw0_Num.f bt308.2.2.2.2.2.2).bind fun t342 => (if t342 = bt316.2.2.2.2.2.2 then (if (!(bt324.1 == bt332.1) || (!(bt324.2.1.toList == bt332.2.1.toList) || (!(bt324.2.2.1 == bt332.2.2.1) || (!(bt324.2.2.2.1 == bt332.2.2.2.1) || (!(bt324.2.2.2.2.1 == bt332.2.2.2.2.1) || (!(bt324.2.2.2.2.2.1 == bt332.2.2.2.2.2.1))))))) = true then (watchwordlaw5_Chains.j0 k l0 l3 l2 t300 true) else ((watchwordlaw0_Num.f bt324.2.2.2.2.2.2).bind fun t343 => (if t343 = bt332.2.2.2.2.2.2 then ((chain_May.f k l2).bind fun t344 => ((watchwordref1_ChainMay.f k l0).bind fun t345 => (watchwordlaw5_Chains.j0 k l0 l3 l2 t300 (t344 != t345)))) else (watchwordlaw5_Chains.j0 k l0 l3 l2 t300 true)))) else (watchwordlaw5_Chains.j0 k l0 l3 l2 t300 true)))) else (watchwordlaw5_Chains.j0 k l0 l3 l2 t300 true))) else (watchwordlaw5_Chains.j0 k l0 l3 l2 t300 true))))))) = some r := H
 have A8 := Aside0.mk A80
 clear A80
 replace H := Option.bind_eq_some_iff.mp H
 obtain ⟨⟨t308, t309, t310, t311, t312, t313, t314⟩, A90, H⟩ := H
 replace H : ((watchwordref1_SendKey.f k l0 a3).bind fun bt316 => ((chain_Accept.f k l2 a2 a3).bind fun bt324 => ((watchwordref1_AcceptKey.f k l0 a2 a3).bind fun bt332 => ((watchwordlaw0_SameKeys.f k t300 t304).bind fun t340 => (if t340 = true then ((watchwordlaw0_Num.f t303).bind fun t341 => (if t341 = t307 then (if (!(t308 == bt316.1) || (!(t309.toList == bt316.2.1.toList) || (!(t310 == bt316.2.2.1) || (!(t311 == bt316.2.2.2.1) || (!(t312 == bt316.2.2.2.2.1) || (!(t313 == bt316.2.2.2.2.2.1))))))) = true then (watchwordlaw5_Chains.j0 k l0 l3 l2 t300 true) else ((watchwordlaw0_Num.f t314).bind fun t342 => (if t342 = bt316.2.2.2.2.2.2 then (if (!(bt324.1 == bt332.1) || (!(bt324.2.1.toList == bt332.2.1.toList) || (!(bt324.2.2.1 == bt332.2.2.1) || (!(bt324.2.2.2.1 == bt332.2.2.2.1) || (!(bt324.2.2.2.2.1 == bt332.2.2.2.2.1) || (!(bt324.2.2.2.2.2.1 == bt332.2.2.2.2.2.1))))))) = true then (watchwordlaw5_Chains.j0 k l0 l3 l2 t300 true) else ((watchwordlaw0_Num.f bt324.2.2.2.2.2.2).bind fun t343 => (if t343 = bt332.2.2.2.2.2.2 then ((chain_May.f k l2).bind fun t344 => ((watchwordref1_ChainMay.f k l0).bind fun t345 => (watchwordlaw5_Chains.j0 k l0 l3 l2 t300 (t344 != t345)))) else (watchwordlaw5_Chains.j0 k l0 l3 l2 t300 true)))) else (watchwordlaw5_Chains.j0 k l0 l3 l2 t300 true)))) else (watchwordlaw5_Chains.j0 k l0 l3 l2 t300 true))) else (watchwordlaw5_Chains.j0 k l0 l3 l2 t300 true)))))) = some r := H
 have A9 := Aside0.mk A90
 clear A90
 replace H := Option.bind_eq_some_iff.mp H
 obtain ⟨⟨t316, t317, t318, t319, t320, t321, t322⟩, A100, H⟩ := H
 replace H : ((chain_Accept.f k l2 a2 a3).bind fun bt324 => ((watchwordref1_AcceptKey.f k l0 a2 a3).bind fun bt332 => ((watchwordlaw0_SameKeys.f k t300 t304).bind fun t340 => (if t340 = true then ((watchwordlaw0_Num.f t303).bind fun t341 => (if t341 = t307 then (if (!(t308 == t316) || (!(t309.toList == t317.toList) || (!(t310 == t318) || (!(t311 == t319) || (!(t312 == t320) || (!(t313 == t321))))))) = true then (watchwordlaw5_Chains.j0 k l0 l3 l2 t300 true) else ((watchwordlaw0_Num.f t314).bind fun t342 => (if t342 = t322 then (if (!(bt324.1 == bt332.1) || (!(bt324.2.1.toList == bt332.2.1.toList) || (!(bt324.2.2.1 == bt332.2.2.1) || (!(bt324.2.2.2.1 == bt332.2.2.2.1) || (!(bt324.2.2.2.2.1 == bt332.2.2.2.2.1) || (!(bt324.2.2.2.2.2.1 == bt332.2.2.2.2.2.1))))))) = true then (watchwordlaw5_Chains.j0 k l0 l3 l2 t300 true) else ((watchwordlaw0_Num.f bt324.2.2.2.2.2.2).bind fun t343 => (if t343 = bt332.2.2.2.2.2.2 then ((chain_May.f k l2).bind fun t344 => ((watchwordref1_ChainMay.f k l0).bind fun t345 => (watchwordlaw5_Chains.j0 k l0 l3 l2 t300 (t344 != t345)))) else (watchwordlaw5_Chains.j0 k l0 l3 l2 t300 true)))) else (watchwordlaw5_Chains.j0 k l0 l3 l2 t300 true)))) else (watchwordlaw5_Chains.j0 k l0 l3 l2 t300 true))) else (watchwordlaw5_Chains.j0 k l0 l3 l2 t300 true))))) = some r := H
 have A10 := Aside0.mk A100
 clear A100
 replace H := Option.bind_eq_some_iff.mp H
 obtain ⟨⟨t324, t325, t326, t327, t328, t329, t330⟩, A110, H⟩ := H
 replace H : ((watchwordref1_AcceptKey.f k l0 a2 a3).bind fun bt332 => ((watchwordlaw0_SameKeys.f k t300 t304).bind fun t340 => (if t340 = true then ((watchwordlaw0_Num.f t303).bind fun t341 => (if t341 = t307 then (if (!(t308 == t316) || (!(t309.toList == t317.toList) || (!(t310 == t318) || (!(t311 == t319) || (!(t312 == t320) || (!(t313 == t321))))))) = true then (watchwordlaw5_Chains.j0 k l0 l3 l2 t300 true) else ((watchwordlaw0_Num.f t314).bind fun t342 => (if t342 = t322 then (if (!(t324 == bt332.1) || (!(t325.toList == bt332.2.1.toList) || (!(t326 == bt332.2.2.1) || (!(t327 == bt332.2.2.2.1) || (!(t328 == bt332.2.2.2.2.1) || (!(t329 == bt332.2.2.2.2.2.1))))))) = true then (watchwordlaw5_Chains.j0 k l0 l3 l2 t300 true) else ((watchwordlaw0_Num.f t330).bind fun t343 => (if t343 = bt332.2.2.2.2.2.2 then ((chain_May.f k l2).bind fun t344 => ((watchwordref1_ChainMay.f k l0).bind fun t345 => (watchwordlaw5_Chains.j0 k l0 l3 l2 t300 (t344 != t345)))) else (watchwordlaw5_Chains.j0 k l0 l3 l2 t300 true)))) else (watchwordlaw5_Chains.j0 k l0 l3 l2 t300 true)))) else (watchwordlaw5_Chains.j0 k l0 l3 l2 t300 true))) else (watchwordlaw5_Chains.j0 k l0 l3 l2 t300 true)))) = some r := H
 have A11 := Aside0.mk A110
 clear A110
 replace H := Option.bind_eq_some_iff.mp H
 obtain ⟨⟨t332, t333, t334, t335, t336, t337, t338⟩, A120, H⟩ := H
 replace H : ((watchwordlaw0_SameKeys.f k t300 t304).bind fun t340 => (if t340 = true then ((watchwordlaw0_Num.f t303).bind fun t341 => (if t341 = t307 then (if (!(t308 == t316) || (!(t309.toList == t317.toList) || (!(t310 == t318) || (!(t311 == t319) || (!(t312 == t320) || (!(t313 == t321))))))) = true then (watchwordlaw5_Chains.j0 k l0 l3 l2 t300 true) else ((watchwordlaw0_Num.f t314).bind fun t342 => (if t342 = t322 then (if (!(t324 == t332) || (!(t325.toList == t333.toList) || (!(t326 == t334) || (!(t327 == t335) || (!(t328 == t336) || (!(t329 == t337))))))) = true then (watchwordlaw5_Chains.j0 k l0 l3 l2 t300 true) else ((watchwordlaw0_Num.f t330).bind fun t343 => (if t343 = t338 then ((chain_May.f k l2).bind fun t344 => ((watchwordref1_ChainMay.f k l0).bind fun t345 => (watchwordlaw5_Chains.j0 k l0 l3 l2 t300 (t344 != t345)))) else (watchwordlaw5_Chains.j0 k l0 l3 l2 t300 true)))) else (watchwordlaw5_Chains.j0 k l0 l3 l2 t300 true)))) else (watchwordlaw5_Chains.j0 k l0 l3 l2 t300 true))) else (watchwordlaw5_Chains.j0 k l0 l3 l2 t300 true))) = some r := H
 have A12 := Aside0.mk A120
 clear A120
 have HC13 := Aside0.mk H
 clear H
 go_enter Try.func8, Try.ntmps8
 go_upto_region 2 with (first | ((with_reducible refine gate_dst (N := 5) rfl ?_); refine box_event ?hg (N := 5) ?hd (cs := #[.int .i64 a1_0, .string a1_1, .int .i64 a1_2, .int .i64 a1_3, .int .i64 a1_4, .int .i64 a1_5]) (t := 50) ?hr ?_; (case hd => rfl); (case hg => rfl); (case hr => first | (go_simp; done) | (go_simp; rfl)); intro gb299 hg w14 hbox hb; have n0_ := Aside0.mk (below_step (by repeat (first | (with_reducible first | exact HB.out | apply below_alloc | apply pw_below_drewN | apply below_drew1) | exact HB.out)) hb); have n1_ := Aside0.mk (hbox); have n2_ := Aside0.mk ((by rw [hg]; exact (below_size (by repeat (first | (with_reducible first | exact HB.out | apply below_alloc | apply pw_below_drewN | apply below_drew1) | exact HB.out))) : w.heap.size ≤ gb299)); have n3_ := Aside0.mk ((by rw [hg]; exact (below_size (by repeat (first | (with_reducible first | exact HB.out | apply below_alloc | apply pw_below_drewN | apply below_drew1) | exact HB.out))) : w.heap.size ≤ gb299)); clear HB; have HB := n0_; have BK299 := n1_; have GW299 := n2_; have GE299 := n3_; clear n0_ n1_ n2_ n3_; clear hb hbox hg; have hcz15_0 : w14.cell? ⟨gb299, 0, none⟩ = some (.int .i64 a1_0) := (blk_cell BK299.out 0).trans rfl; have hcz15_1 : w14.cell? ⟨gb299, 1, none⟩ = some (.string a1_1) := (blk_cell BK299.out 1).trans rfl; have hcz15_2 : w14.cell? ⟨gb299, 2, none⟩ = some (.int .i64 a1_2) := (blk_cell BK299.out 2).trans rfl; have hcz15_3 : w14.cell? ⟨gb299, 3, none⟩ = some (.int .i64 a1_3) := (blk_cell BK299.out 3).trans rfl; have hcz15_4 : w14.cell? ⟨gb299, 4, none⟩ = some (.int .i64 a1_4) := (blk_cell BK299.out 4).trans rfl; have hcz15_5 : w14.cell? ⟨gb299, 5, none⟩ = some (.int .i64 a1_5) := (blk_cell BK299.out 5).trans rfl; have hfz15_0 := blk_frozen BK299.out 0; have hfz15_1 := blk_frozen BK299.out 1; have hfz15_2 := blk_frozen BK299.out 2; have hfz15_3 := blk_frozen BK299.out 3; have hfz15_4 := blk_frozen BK299.out 4; have hfz15_5 := blk_frozen BK299.out 5) | ((with_reducible refine gate_callee (f := 25) rfl ?_); refine goesL_ (some 23) rfl rfl Try.func25 (by kernel_rfl) rfl #[.slice A0 l0.length c0] rfl (by (try simp only [List.map_toArray, List.map_cons, List.map_nil]); first | done | rfl) ?_; (with_reducible refine (watchwordlaw0_LendKeys.lent _ _ l0 l2 _ ?side1 ?side2 HL_.out).mono ?_); (case side1 => repeat (first | exact (Kd.C_below HR0.out HB.out) | (with_reducible refine Kd.C_alloc ?_ _) | (with_reducible refine Kd.C_drewN ?_ _) | (with_reducible refine Kd.C_drew ?_))); (case side2 => exact HC0.out); rintro e w1 ⟨A2, c2, y_, t_, rfl, hc1_, hy_, hr_, hk_, hn_, hb⟩; refine ⟨_, rfl, ?_⟩; have HB0 := Aside0.mk (below_step (by repeat (first | (with_reducible first | exact HB.out | apply below_alloc | apply pw_below_drewN | apply below_drew1) | exact HB.out)) hb); have nbk_ := Aside0.mk (blk_below (g := gb299) (o := .cells #[.int .i64 a1_0, .string a1_1, .int .i64 a1_2, .int .i64 a1_3, .int .i64 a1_4, .int .i64 a1_5] 50 (0, 0)) BK299.out hb); clear hcz15_0 hcz15_1 hcz15_2 hcz15_3 hcz15_4 hcz15_5 hfz15_0 hfz15_1 hfz15_2 hfz15_3 hfz15_4 hfz15_5; clear GW299 GE299 BK299; have BK299 := nbk_; clear nbk_; have hcz15_0 : w1.cell? ⟨gb299, 0, none⟩ = some (.int .i64 a1_0) := (blk_cell BK299.out 0).trans rfl; have hcz15_1 : w1.cell? ⟨gb299, 1, none⟩ = some (.string a1_1) := (blk_cell BK299.out 1).trans rfl; have hcz15_2 : w1.cell? ⟨gb299, 2, none⟩ = some (.int .i64 a1_2) := (blk_cell BK299.out 2).trans rfl; have hcz15_3 : w1.cell? ⟨gb299, 3, none⟩ = some (.int .i64 a1_3) := (blk_cell BK299.out 3).trans rfl; have hcz15_4 : w1.cell? ⟨gb299, 4, none⟩ = some (.int .i64 a1_4) := (blk_cell BK299.out 4).trans rfl; have hcz15_5 : w1.cell? ⟨gb299, 5, none⟩ = some (.int .i64 a1_5) := (blk_cell BK299.out 5).trans rfl; have hfz15_0 := blk_frozen BK299.out 0; have hfz15_1 := blk_frozen BK299.out 1; have hfz15_2 := blk_frozen BK299.out 2; have hfz15_3 := blk_frozen BK299.out 3; have hfz15_4 := blk_frozen BK299.out 4; have hfz15_5 := blk_frozen BK299.out 5; have HY1 := Aside0.mk hc1_; have HY2 := Aside0.mk hy_; have HY3 := Aside0.mk hr_; have HY4 := Aside0.mk hk_; have HY5 := Aside0.mk hn_; clear hb hc1_ hy_ hr_ hk_ hn_))
 have hye_ : y_ = l3 := HY2.out.trans (H3_.out _ HY1.out)
 have HC2 := Aside0.mk (show l2.length ≤ c2 by have hn_ := HY5.out; rw [hye_, HN_.out] at hn_; omega)
 have HC3 := Aside0.mk (show l3.length ≤ c2 by have hn_ := HY5.out; rw [hye_] at hn_; exact hn_)
 have HR2 := Aside0.mk (show Kd.C k50 w1 A2 l2.length l2 by rw [HY3.out]; exact Kd.C_take HY4.out (by rw [hye_]; exact HE_.out))
 have HR3 := Aside0.mk (show Kd.C k50 w1 A2 l3.length l3 by rw [← hye_]; exact HY4.out)
 have hr0_ := Kd.C_below HR0.out HB0.out
 clear HR0 HB HY1 HY2 HY3 HY4 HY5 hye_
 have HR0 := Aside0.mk hr0_
 clear hr0_
 have HB := Aside0.mk (Below.refl w1.heap.size w1)
 go_upto_region 8 with (first | ((with_reducible refine gate_callee (f := 26) rfl ?_); refine goesL_ (some 27) rfl rfl Try.func26 (by kernel_rfl) rfl #[.slice A2 l2.length c2, .agg #[.int .i64 a1_0, .string a1_1, .int .i64 a1_2, .int .i64 a1_3, .int .i64 a1_4, .int .i64 a1_5]] rfl (by (try simp only [List.map_toArray, List.map_cons, List.map_nil]); first | done | rfl | (simp only [List.length_drop, List.length_take]; rfl)) ?_; (with_reducible refine (chain_With.calls k _ _ l2 a1_0 a1_1 a1_2 a1_3 a1_4 a1_5 t300 t303 _ ?side1 ?side2 A7.out).mono ?_); (case side1 => repeat (first | exact (Kd.C_below HR2.out HB.out) | (with_reducible refine Kd.C_alloc ?_ _) | (with_reducible refine Kd.C_drewN ?_ _) | (with_reducible refine Kd.C_drew ?_))); (case side2 => exact HC2.out); rintro e w16 ⟨v301, rfl, ho0, hb⟩; refine ⟨_, rfl, ?_⟩; have n0_ := Aside0.mk (Kd.R_lower (Kd.R_newB ho0 (g := gb299) (o := .cells #[.int .i64 a1_0, .string a1_1, .int .i64 a1_2, .int .i64 a1_3, .int .i64 a1_4, .int .i64 a1_5] 50 (0, 0)) (by (with_reducible repeat (first | refine blk_drewN ?_ _ | refine blk_drew ?_ | refine blk_alloc ?_ _)); exact BK299.out)) (below_size (by repeat (first | (with_reducible first | exact HB.out | apply below_alloc | apply pw_below_drewN | apply below_drew1 | refine below_set ?_ GE299.out) | exact HB.out)))); have n1_ := Aside0.mk (blk_below (g := gb299) (o := .cells #[.int .i64 a1_0, .string a1_1, .int .i64 a1_2, .int .i64 a1_3, .int .i64 a1_4, .int .i64 a1_5] 50 (0, 0)) (by (with_reducible repeat (first | refine blk_drewN ?_ _ | refine blk_drew ?_ | refine blk_alloc ?_ _)); exact BK299.out) hb); have n2_ := Aside0.mk (below_step (by repeat (first | (with_reducible first | exact HB.out | apply below_alloc | apply pw_below_drewN | apply below_drew1 | refine below_set ?_ GE299.out) | exact HB.out)) hb); clear BK299; clear HB; have HO302 := n0_; have BK299 := n1_; have HB := n2_; clear n0_ n1_ n2_; (try clear hb); (try clear hb2); (try clear hk); (try clear hi); (try clear ho0); have hcz17_0 : w16.cell? ⟨gb299, 0, none⟩ = some (.int .i64 a1_0) := (blk_cell BK299.out 0).trans rfl; have hcz17_1 : w16.cell? ⟨gb299, 1, none⟩ = some (.string a1_1) := (blk_cell BK299.out 1).trans rfl; have hcz17_2 : w16.cell? ⟨gb299, 2, none⟩ = some (.int .i64 a1_2) := (blk_cell BK299.out 2).trans rfl; have hcz17_3 : w16.cell? ⟨gb299, 3, none⟩ = some (.int .i64 a1_3) := (blk_cell BK299.out 3).trans rfl; have hcz17_4 : w16.cell? ⟨gb299, 4, none⟩ = some (.int .i64 a1_4) := (blk_cell BK299.out 4).trans rfl; have hcz17_5 : w16.cell? ⟨gb299, 5, none⟩ = some (.int .i64 a1_5) := (blk_cell BK299.out 5).trans rfl; have hfz17_0 := blk_frozen BK299.out 0; have hfz17_1 := blk_frozen BK299.out 1; have hfz17_2 := blk_frozen BK299.out 2; have hfz17_3 := blk_frozen BK299.out 3; have hfz17_4 := blk_frozen BK299.out 4; have hfz17_5 := blk_frozen BK299.out 5) | ((with_reducible refine gate_callee (f := 27) rfl ?_); refine goesL_ (some 33) rfl rfl Try.func27 (by kernel_rfl) rfl #[.slice A0 l0.length c0, .agg #[.int .i64 a1_0, .string a1_1, .int .i64 a1_2, .int .i64 a1_3, .int .i64 a1_4, .int .i64 a1_5]] rfl (by (try simp only [List.map_toArray, List.map_cons, List.map_nil]); first | done | rfl | (simp only [List.length_drop, List.length_take]; rfl)) ?_; (with_reducible refine (watchwordref1_WithKey.calls k _ _ l0 a1_0 a1_1 a1_2 a1_3 a1_4 a1_5 t304 t307 _ ?side1 ?side2 A8.out).mono ?_); (case side1 => repeat (first | exact (Kd.C_below HR0.out HB.out) | (with_reducible refine Kd.C_alloc ?_ _) | (with_reducible refine Kd.C_drewN ?_ _) | (with_reducible refine Kd.C_drew ?_))); (case side2 => exact HC0.out); rintro e w18 ⟨v305, rfl, ho0, hb⟩; refine ⟨_, rfl, ?_⟩; have n0_ := Aside0.mk (Kd.R_elder' (by (with_reducible repeat (first | apply Kd.R_alloc | apply Kd.R_drewN | apply Kd.R_drew)); exact HO302.out) (Kd.R_base ho0) hb); have n1_ := Aside0.mk (Kd.R_lower (Kd.R_newB (Kd.R_new' ho0 (Kd.R_lt (by (with_reducible repeat (first | apply Kd.R_alloc | apply Kd.R_drewN | apply Kd.R_drew)); exact HO302.out))) (g := gb299) (o := .cells #[.int .i64 a1_0, .string a1_1, .int .i64 a1_2, .int .i64 a1_3, .int .i64 a1_4, .int .i64 a1_5] 50 (0, 0)) (by (with_reducible repeat (first | refine blk_drewN ?_ _ | refine blk_drew ?_ | refine blk_alloc ?_ _)); exact BK299.out)) (below_size (by repeat (first | (with_reducible first | exact HB.out | apply below_alloc | apply pw_below_drewN | apply below_drew1 | refine below_set ?_ GE299.out) | exact HB.out)))); have n2_ := Aside0.mk (blk_below (g := gb299) (o := .cells #[.int .i64 a1_0, .string a1_1, .int .i64 a1_2, .int .i64 a1_3, .int .i64 a1_4, .int .i64 a1_5] 50 (0, 0)) (by (with_reducible repeat (first | refine blk_drewN ?_ _ | refine blk_drew ?_ | refine blk_alloc ?_ _)); exact BK299.out) hb); have n3_ := Aside0.mk (below_step (by repeat (first | (with_reducible first | exact HB.out | apply below_alloc | apply pw_below_drewN | apply below_drew1 | refine below_set ?_ GE299.out) | exact HB.out)) hb); clear HO302; clear BK299; clear HB; have HO302 := n0_; have HO306 := n1_; have BK299 := n2_; have HB := n3_; clear n0_ n1_ n2_ n3_; (try clear hb); (try clear hb2); (try clear hk); (try clear hi); (try clear ho0)) | ((with_reducible refine gate_callee (f := 28) rfl ?_); refine goesL_ (some 39) rfl rfl Try.func28 (by kernel_rfl) rfl #[.slice A2 l2.length c2, .int .i64 a3] rfl (by (try simp only [List.map_toArray, List.map_cons, List.map_nil]); first | done | rfl | (simp only [List.length_drop, List.length_take]; rfl)) ?_; (with_reducible refine (chain_Send.calls k _ _ l2 a3 t308 t309 t310 t311 t312 t313 t314 _ ?side1 ?side2 A9.out).mono ?_); (case side1 => repeat (first | exact (Kd.C_below HR2.out HB.out) | (with_reducible refine Kd.C_alloc ?_ _) | (with_reducible refine Kd.C_drewN ?_ _) | (with_reducible refine Kd.C_drew ?_))); (case side2 => exact HC2.out); rintro e w19 ⟨rfl, hb⟩; refine ⟨_, rfl, ?_⟩; have n0_ := Aside0.mk (Kd.R_below (by (with_reducible repeat (first | apply Kd.R_alloc | apply Kd.R_drewN | apply Kd.R_drew)); exact HO302.out) hb); have n1_ := Aside0.mk (Kd.R_below (by (with_reducible repeat (first | apply Kd.R_alloc | apply Kd.R_drewN | apply Kd.R_drew)); exact HO306.out) hb); have n2_ := Aside0.mk (blk_below (g := gb299) (o := .cells #[.int .i64 a1_0, .string a1_1, .int .i64 a1_2, .int .i64 a1_3, .int .i64 a1_4, .int .i64 a1_5] 50 (0, 0)) (by (with_reducible repeat (first | refine blk_drewN ?_ _ | refine blk_drew ?_ | refine blk_alloc ?_ _)); exact BK299.out) hb); have n3_ := Aside0.mk (below_step (by repeat (first | (with_reducible first | exact HB.out | apply below_alloc | apply pw_below_drewN | apply below_drew1 | refine below_set ?_ GE299.out) | exact HB.out)) hb); clear HO302; clear HO306; clear BK299; clear HB; have HO302 := n0_; have HO306 := n1_; have BK299 := n2_; have HB := n3_; clear n0_ n1_ n2_ n3_; (try clear hb); (try clear hb2); (try clear hk); (try clear hi)) | ((with_reducible refine gate_dst (N := 14) rfl ?_); refine box_event ?hg (N := 14) ?hd (cs := #[.int .i64 0, .string (⟨#[]⟩ : ByteArray), .int .i64 0, .int .i64 0, .int .i64 0, .int .i64 0]) (t := 50) ?hr ?_; (case hd => rfl); (case hg => rfl); (case hr => first | (go_simp; done) | (go_simp; rfl)); intro gb315 hg w20 hbox hb; have n0_ := Aside0.mk (Kd.R_below (Kd.R_elderB (by (with_reducible repeat (first | apply Kd.R_alloc | apply Kd.R_drewN | apply Kd.R_drew)); exact HO302.out) gb315 (Nat.le_of_eq hg.symm)) hb); have n1_ := Aside0.mk (Kd.R_below (Kd.R_elderB (by (with_reducible repeat (first | apply Kd.R_alloc | apply Kd.R_drewN | apply Kd.R_drew)); exact HO306.out) gb315 (Nat.le_of_eq hg.symm)) hb); have n2_ := Aside0.mk (blk_below (g := gb299) (o := .cells #[.int .i64 a1_0, .string a1_1, .int .i64 a1_2, .int .i64 a1_3, .int .i64 a1_4, .int .i64 a1_5] 50 (0, 0)) (by (with_reducible repeat (first | refine blk_drewN ?_ _ | refine blk_drew ?_ | refine blk_alloc ?_ _)); exact BK299.out) hb); have n3_ := Aside0.mk (below_step (by repeat (first | (with_reducible first | exact HB.out | apply below_alloc | apply pw_below_drewN | apply below_drew1 | refine below_set ?_ GE299.out) | exact HB.out)) hb); have n4_ := Aside0.mk (hbox); have n5_ := Aside0.mk ((by rw [hg]; exact (below_size (by repeat (first | (with_reducible first | exact HB.out | apply below_alloc | apply pw_below_drewN | apply below_drew1 | refine below_set ?_ GE299.out) | exact HB.out))) : w1.heap.size ≤ gb315)); have n6_ := Aside0.mk ((by rw [hg]; exact (below_size (by repeat (first | (with_reducible first | exact HB.out | apply below_alloc | apply pw_below_drewN | apply below_drew1 | refine below_set ?_ GE299.out) | exact HB.out))) : w1.heap.size ≤ gb315)); have n7_ := Aside0.mk ((by rw [hg]; exact Nat.ne_of_lt (blk_lt (g := gb299) (o := .cells #[.int .i64 a1_0, .string a1_1, .int .i64 a1_2, .int .i64 a1_3, .int .i64 a1_4, .int .i64 a1_5] 50 (0, 0)) (by (with_reducible repeat (first | refine blk_drewN ?_ _ | refine blk_drew ?_ | refine blk_alloc ?_ _)); exact BK299.out)) : gb299 ≠ gb315)); have n8_ := Aside0.mk ((by rw [hg]; exact Nat.ne_of_gt (blk_lt (g := gb299) (o := .cells #[.int .i64 a1_0, .string a1_1, .int .i64 a1_2, .int .i64 a1_3, .int .i64 a1_4, .int .i64 a1_5] 50 (0, 0)) (by (with_reducible repeat (first | refine blk_drewN ?_ _ | refine blk_drew ?_ | refine blk_alloc ?_ _)); exact BK299.out)) : gb315 ≠ gb299)); clear HO302; clear HO306; clear BK299; clear HB; have HO302 := n0_; have HO306 := n1_; have BK299 := n2_; have HB := n3_; have BK315 := n4_; have GW315 := n5_; have GE315 := n6_; have NB299_315 := n7_; have NB315_299 := n8_; clear n0_ n1_ n2_ n3_ n4_ n5_ n6_ n7_ n8_; clear hb hbox hg; have hnb21 := NB315_299.out; have hnc21 := NB299_315.out; have hcz22_0 : w20.cell? ⟨gb315, 0, none⟩ = some (.int .i64 0) := (blk_cell BK315.out 0).trans rfl; have hcz22_1 : w20.cell? ⟨gb315, 1, none⟩ = some (.string (⟨#[]⟩ : ByteArray)) := (blk_cell BK315.out 1).trans rfl; have hcz22_2 : w20.cell? ⟨gb315, 2, none⟩ = some (.int .i64 0) := (blk_cell BK315.out 2).trans rfl; have hcz22_3 : w20.cell? ⟨gb315, 3, none⟩ = some (.int .i64 0) := (blk_cell BK315.out 3).trans rfl; have hcz22_4 : w20.cell? ⟨gb315, 4, none⟩ = some (.int .i64 0) := (blk_cell BK315.out 4).trans rfl; have hcz22_5 : w20.cell? ⟨gb315, 5, none⟩ = some (.int .i64 0) := (blk_cell BK315.out 5).trans rfl; have hfz22_0 := blk_frozen BK315.out 0; have hfz22_1 := blk_frozen BK315.out 1; have hfz22_2 := blk_frozen BK315.out 2; have hfz22_3 := blk_frozen BK315.out 3; have hfz22_4 := blk_frozen BK315.out 4; have hfz22_5 := blk_frozen BK315.out 5) | ((with_reducible refine gate_store (t := 50) (p := 14) rfl ?_); refine store_event (t := 50) (p := 14) (v := ?vo_w23) (w1 := ((((((w20.setCell ⟨gb315, 0, none⟩ (.int .i64 t308)).setCell ⟨gb315, 1, none⟩ (.string t309)).setCell ⟨gb315, 2, none⟩ (.int .i64 t310)).setCell ⟨gb315, 3, none⟩ (.int .i64 t311)).setCell ⟨gb315, 4, none⟩ (.int .i64 t312)).setCell ⟨gb315, 5, none⟩ (.int .i64 t313))) ?hg ?ho ?hn ?hr ?_; (case ho => rfl); (case hg => rfl); (case hn => rfl); (case hr => first | (go_simp; done) | (go_simp; rfl)); intro w23 hw; have n0_ : Aside0 (Kd.R k50 50 w23 w1.heap.size (fun k_ => some k_ ≠ (v305 : Value).ownBlock ∧ k_ ≠ gb299 ∧ k_ ≠ gb315) v301 t300) := ⟨(by rw [hw]; exact (by (with_reducible repeat (first | apply Kd.R_alloc | apply Kd.R_drewN | apply Kd.R_drew)); exact Kd.R_mono (Kd.R_far (p := ⟨gb315, 5, none⟩) (Kd.R_far (p := ⟨gb315, 4, none⟩) (Kd.R_far (p := ⟨gb315, 3, none⟩) (Kd.R_far (p := ⟨gb315, 2, none⟩) (Kd.R_far (p := ⟨gb315, 1, none⟩) (Kd.R_far (p := ⟨gb315, 0, none⟩) (Kd.R_mono HO302.out (fun k_ hk => (⟨hk, hk.2⟩ : _ ∧ k_ ≠ gb315))) (fun _ hk => hk.2) (.int .i64 t308)) (fun _ hk => hk.2) (.string t309)) (fun _ hk => hk.2) (.int .i64 t310)) (fun _ hk => hk.2) (.int .i64 t311)) (fun _ hk => hk.2) (.int .i64 t312)) (fun _ hk => hk.2) (.int .i64 t313)) (fun _ hk => ⟨hk.1.1.2, ⟨hk.1.1.1.2, hk.1.2⟩⟩)))⟩; have n1_ : Aside0 (Kd.R k50 50 w23 w1.heap.size (fun k_ => some k_ ≠ (v301 : Value).ownBlock ∧ k_ ≠ gb299 ∧ k_ ≠ gb315) v305 t304) := ⟨(by rw [hw]; exact (by (with_reducible repeat (first | apply Kd.R_alloc | apply Kd.R_drewN | apply Kd.R_drew)); exact Kd.R_mono (Kd.R_far (p := ⟨gb315, 5, none⟩) (Kd.R_far (p := ⟨gb315, 4, none⟩) (Kd.R_far (p := ⟨gb315, 3, none⟩) (Kd.R_far (p := ⟨gb315, 2, none⟩) (Kd.R_far (p := ⟨gb315, 1, none⟩) (Kd.R_far (p := ⟨gb315, 0, none⟩) (Kd.R_mono HO306.out (fun k_ hk => (⟨hk, hk.2⟩ : _ ∧ k_ ≠ gb315))) (fun _ hk => hk.2) (.int .i64 t308)) (fun _ hk => hk.2) (.string t309)) (fun _ hk => hk.2) (.int .i64 t310)) (fun _ hk => hk.2) (.int .i64 t311)) (fun _ hk => hk.2) (.int .i64 t312)) (fun _ hk => hk.2) (.int .i64 t313)) (fun _ hk => ⟨hk.1.1.1.2, ⟨hk.1.1.2, hk.1.2⟩⟩)))⟩; have n2_ : Aside0 (w23.heap[gb299]? = some (.cells #[.int .i64 a1_0, .string a1_1, .int .i64 a1_2, .int .i64 a1_3, .int .i64 a1_4, .int .i64 a1_5] 50 (0, 0))) := ⟨(by rw [hw]; exact (by (with_reducible repeat (first | refine blk_drewN ?_ _ | refine blk_drew ?_ | refine blk_alloc ?_ _)); refine blk_far ?_ NB299_315.out _; (with_reducible repeat (first | refine blk_drewN ?_ _ | refine blk_drew ?_ | refine blk_alloc ?_ _)); refine blk_far ?_ NB299_315.out _; (with_reducible repeat (first | refine blk_drewN ?_ _ | refine blk_drew ?_ | refine blk_alloc ?_ _)); refine blk_far ?_ NB299_315.out _; (with_reducible repeat (first | refine blk_drewN ?_ _ | refine blk_drew ?_ | refine blk_alloc ?_ _)); refine blk_far ?_ NB299_315.out _; (with_reducible repeat (first | refine blk_drewN ?_ _ | refine blk_drew ?_ | refine blk_alloc ?_ _)); refine blk_far ?_ NB299_315.out _; (with_reducible repeat (first | refine blk_drewN ?_ _ | refine blk_drew ?_ | refine blk_alloc ?_ _)); refine blk_far ?_ NB299_315.out _; (with_reducible repeat (first | refine blk_drewN ?_ _ | refine blk_drew ?_ | refine blk_alloc ?_ _)); exact BK299.out))⟩; have n3_ : Aside0 (w23.heap[gb315]? = some (.cells #[.int .i64 t308, .string t309, .int .i64 t310, .int .i64 t311, .int .i64 t312, .int .i64 t313] 50 (0, 0))) := ⟨(by rw [hw]; exact (by (with_reducible repeat (first | refine blk_drewN ?_ _ | refine blk_drew ?_ | refine blk_alloc ?_ _)); refine blk_put (cs := #[.int .i64 t308, .string t309, .int .i64 t310, .int .i64 t311, .int .i64 t312, .int .i64 0]) ?_ 5 _ rfl; (with_reducible repeat (first | refine blk_drewN ?_ _ | refine blk_drew ?_ | refine blk_alloc ?_ _)); refine blk_put (cs := #[.int .i64 t308, .string t309, .int .i64 t310, .int .i64 t311, .int .i64 0, .int .i64 0]) ?_ 4 _ rfl; (with_reducible repeat (first | refine blk_drewN ?_ _ | refine blk_drew ?_ | refine blk_alloc ?_ _)); refine blk_put (cs := #[.int .i64 t308, .string t309, .int .i64 t310, .int .i64 0, .int .i64 0, .int .i64 0]) ?_ 3 _ rfl; (with_reducible repeat (first | refine blk_drewN ?_ _ | refine blk_drew ?_ | refine blk_alloc ?_ _)); refine blk_put (cs := #[.int .i64 t308, .string t309, .int .i64 0, .int .i64 0, .int .i64 0, .int .i64 0]) ?_ 2 _ rfl; (with_reducible repeat (first | refine blk_drewN ?_ _ | refine blk_drew ?_ | refine blk_alloc ?_ _)); refine blk_put (cs := #[.int .i64 t308, .string (⟨#[]⟩ : ByteArray), .int .i64 0, .int .i64 0, .int .i64 0, .int .i64 0]) ?_ 1 _ rfl; (with_reducible repeat (first | refine blk_drewN ?_ _ | refine blk_drew ?_ | refine blk_alloc ?_ _)); refine blk_put (cs := #[.int .i64 0, .string (⟨#[]⟩ : ByteArray), .int .i64 0, .int .i64 0, .int .i64 0, .int .i64 0]) ?_ 0 _ rfl; (with_reducible repeat (first | refine blk_drewN ?_ _ | refine blk_drew ?_ | refine blk_alloc ?_ _)); exact BK315.out))⟩; have n4_ : Aside0 (Below w1.heap.size w1 w23) := ⟨(by rw [hw]; exact (by repeat (first | (with_reducible first | exact HB.out | apply below_alloc | apply pw_below_drewN | apply below_drew1 | refine below_set ?_ GE299.out | refine below_set ?_ GE315.out) | exact HB.out)))⟩; clear hw; clear HO302; clear HO306; clear BK299; clear BK315; clear HB; have HO302 := n0_; have HO306 := n1_; have BK299 := n2_; have BK315 := n3_; have HB := n4_; clear n0_ n1_ n2_ n3_ n4_) | ((with_reducible refine gate_callee (f := 29) rfl ?_); refine goesL_ (some 45) rfl rfl Try.func29 (by kernel_rfl) rfl #[.slice A0 l0.length c0, .int .i64 a3] rfl (by (try simp only [List.map_toArray, List.map_cons, List.map_nil]); first | done | rfl | (simp only [List.length_drop, List.length_take]; rfl)) ?_; (with_reducible refine (watchwordref1_SendKey.calls k _ _ l0 a3 t316 t317 t318 t319 t320 t321 t322 _ ?side1 ?side2 A10.out).mono ?_); (case side1 => repeat (first | exact (Kd.C_below HR0.out HB.out) | (with_reducible refine Kd.C_alloc ?_ _) | (with_reducible refine Kd.C_drewN ?_ _) | (with_reducible refine Kd.C_drew ?_))); (case side2 => exact HC0.out); rintro e w24 ⟨rfl, hb⟩; refine ⟨_, rfl, ?_⟩; have n0_ := Aside0.mk (Kd.R_below (by (with_reducible repeat (first | apply Kd.R_alloc | apply Kd.R_drewN | apply Kd.R_drew)); exact HO302.out) hb); have n1_ := Aside0.mk (Kd.R_below (by (with_reducible repeat (first | apply Kd.R_alloc | apply Kd.R_drewN | apply Kd.R_drew)); exact HO306.out) hb); have n2_ := Aside0.mk (blk_below (g := gb299) (o := .cells #[.int .i64 a1_0, .string a1_1, .int .i64 a1_2, .int .i64 a1_3, .int .i64 a1_4, .int .i64 a1_5] 50 (0, 0)) (by (with_reducible repeat (first | refine blk_drewN ?_ _ | refine blk_drew ?_ | refine blk_alloc ?_ _)); exact BK299.out) hb); have n3_ := Aside0.mk (blk_below (g := gb315) (o := .cells #[.int .i64 t308, .string t309, .int .i64 t310, .int .i64 t311, .int .i64 t312, .int .i64 t313] 50 (0, 0)) (by (with_reducible repeat (first | refine blk_drewN ?_ _ | refine blk_drew ?_ | refine blk_alloc ?_ _)); exact BK315.out) hb); have n4_ := Aside0.mk (below_step (by repeat (first | (with_reducible first | exact HB.out | apply below_alloc | apply pw_below_drewN | apply below_drew1 | refine below_set ?_ GE299.out | refine below_set ?_ GE315.out) | exact HB.out)) hb); clear HO302; clear HO306; clear BK299; clear BK315; clear HB; have HO302 := n0_; have HO306 := n1_; have BK299 := n2_; have BK315 := n3_; have HB := n4_; clear n0_ n1_ n2_ n3_ n4_; (try clear hb); (try clear hb2); (try clear hk); (try clear hi)) | ((with_reducible refine gate_dst (N := 16) rfl ?_); refine box_event ?hg (N := 16) ?hd (cs := #[.int .i64 0, .string (⟨#[]⟩ : ByteArray), .int .i64 0, .int .i64 0, .int .i64 0, .int .i64 0]) (t := 50) ?hr ?_; (case hd => rfl); (case hg => rfl); (case hr => first | (go_simp; done) | (go_simp; rfl)); intro gb323 hg w25 hbox hb; have n0_ := Aside0.mk (Kd.R_below (Kd.R_elderB (by (with_reducible repeat (first | apply Kd.R_alloc | apply Kd.R_drewN | apply Kd.R_drew)); exact HO302.out) gb323 (Nat.le_of_eq hg.symm)) hb); have n1_ := Aside0.mk (Kd.R_below (Kd.R_elderB (by (with_reducible repeat (first | apply Kd.R_alloc | apply Kd.R_drewN | apply Kd.R_drew)); exact HO306.out) gb323 (Nat.le_of_eq hg.symm)) hb); have n2_ := Aside0.mk (blk_below (g := gb299) (o := .cells #[.int .i64 a1_0, .string a1_1, .int .i64 a1_2, .int .i64 a1_3, .int .i64 a1_4, .int .i64 a1_5] 50 (0, 0)) (by (with_reducible repeat (first | refine blk_drewN ?_ _ | refine blk_drew ?_ | refine blk_alloc ?_ _)); exact BK299.out) hb); have n3_ := Aside0.mk (blk_below (g := gb315) (o := .cells #[.int .i64 t308, .string t309, .int .i64 t310, .int .i64 t311, .int .i64 t312, .int .i64 t313] 50 (0, 0)) (by (with_reducible repeat (first | refine blk_drewN ?_ _ | refine blk_drew ?_ | refine blk_alloc ?_ _)); exact BK315.out) hb); have n4_ := Aside0.mk (below_step (by repeat (first | (with_reducible first | exact HB.out | apply below_alloc | apply pw_below_drewN | apply below_drew1 | refine below_set ?_ GE299.out | refine below_set ?_ GE315.out) | exact HB.out)) hb); have n5_ := Aside0.mk (hbox); have n6_ := Aside0.mk ((by rw [hg]; exact (below_size (by repeat (first | (with_reducible first | exact HB.out | apply below_alloc | apply pw_below_drewN | apply below_drew1 | refine below_set ?_ GE299.out | refine below_set ?_ GE315.out) | exact HB.out))) : w1.heap.size ≤ gb323)); have n7_ := Aside0.mk ((by rw [hg]; exact (below_size (by repeat (first | (with_reducible first | exact HB.out | apply below_alloc | apply pw_below_drewN | apply below_drew1 | refine below_set ?_ GE299.out | refine below_set ?_ GE315.out) | exact HB.out))) : w1.heap.size ≤ gb323)); have n8_ := Aside0.mk ((by rw [hg]; exact Nat.ne_of_lt (blk_lt (g := gb299) (o := .cells #[.int .i64 a1_0, .string a1_1, .int .i64 a1_2, .int .i64 a1_3, .int .i64 a1_4, .int .i64 a1_5] 50 (0, 0)) (by (with_reducible repeat (first | refine blk_drewN ?_ _ | refine blk_drew ?_ | refine blk_alloc ?_ _)); exact BK299.out)) : gb299 ≠ gb323)); have n9_ := Aside0.mk ((by rw [hg]; exact Nat.ne_of_gt (blk_lt (g := gb299) (o := .cells #[.int .i64 a1_0, .string a1_1, .int .i64 a1_2, .int .i64 a1_3, .int .i64 a1_4, .int .i64 a1_5] 50 (0, 0)) (by (with_reducible repeat (first | refine blk_drewN ?_ _ | refine blk_drew ?_ | refine blk_alloc ?_ _)); exact BK299.out)) : gb323 ≠ gb299)); have n10_ := Aside0.mk ((by rw [hg]; exact Nat.ne_of_lt (blk_lt (g := gb315) (o := .cells #[.int .i64 t308, .string t309, .int .i64 t310, .int .i64 t311, .int .i64 t312, .int .i64 t313] 50 (0, 0)) (by (with_reducible repeat (first | refine blk_drewN ?_ _ | refine blk_drew ?_ | refine blk_alloc ?_ _)); exact BK315.out)) : gb315 ≠ gb323)); have n11_ := Aside0.mk ((by rw [hg]; exact Nat.ne_of_gt (blk_lt (g := gb315) (o := .cells #[.int .i64 t308, .string t309, .int .i64 t310, .int .i64 t311, .int .i64 t312, .int .i64 t313] 50 (0, 0)) (by (with_reducible repeat (first | refine blk_drewN ?_ _ | refine blk_drew ?_ | refine blk_alloc ?_ _)); exact BK315.out)) : gb323 ≠ gb315)); clear HO302; clear HO306; clear BK299; clear BK315; clear HB; have HO302 := n0_; have HO306 := n1_; have BK299 := n2_; have BK315 := n3_; have HB := n4_; have BK323 := n5_; have GW323 := n6_; have GE323 := n7_; have NB299_323 := n8_; have NB323_299 := n9_; have NB315_323 := n10_; have NB323_315 := n11_; clear n0_ n1_ n2_ n3_ n4_ n5_ n6_ n7_ n8_ n9_ n10_ n11_; clear hb hbox hg; have hnb26 := NB323_299.out; have hnc26 := NB299_323.out; have hnb27 := NB323_315.out; have hnc27 := NB315_323.out; have hcz28_0 : w25.cell? ⟨gb323, 0, none⟩ = some (.int .i64 0) := (blk_cell BK323.out 0).trans rfl; have hcz28_1 : w25.cell? ⟨gb323, 1, none⟩ = some (.string (⟨#[]⟩ : ByteArray)) := (blk_cell BK323.out 1).trans rfl; have hcz28_2 : w25.cell? ⟨gb323, 2, none⟩ = some (.int .i64 0) := (blk_cell BK323.out 2).trans rfl; have hcz28_3 : w25.cell? ⟨gb323, 3, none⟩ = some (.int .i64 0) := (blk_cell BK323.out 3).trans rfl; have hcz28_4 : w25.cell? ⟨gb323, 4, none⟩ = some (.int .i64 0) := (blk_cell BK323.out 4).trans rfl; have hcz28_5 : w25.cell? ⟨gb323, 5, none⟩ = some (.int .i64 0) := (blk_cell BK323.out 5).trans rfl; have hfz28_0 := blk_frozen BK323.out 0; have hfz28_1 := blk_frozen BK323.out 1; have hfz28_2 := blk_frozen BK323.out 2; have hfz28_3 := blk_frozen BK323.out 3; have hfz28_4 := blk_frozen BK323.out 4; have hfz28_5 := blk_frozen BK323.out 5) | ((with_reducible refine gate_store (t := 50) (p := 16) rfl ?_); refine store_event (t := 50) (p := 16) (v := ?vo_w29) (w1 := ((((((w25.setCell ⟨gb323, 0, none⟩ (.int .i64 t316)).setCell ⟨gb323, 1, none⟩ (.string t317)).setCell ⟨gb323, 2, none⟩ (.int .i64 t318)).setCell ⟨gb323, 3, none⟩ (.int .i64 t319)).setCell ⟨gb323, 4, none⟩ (.int .i64 t320)).setCell ⟨gb323, 5, none⟩ (.int .i64 t321))) ?hg ?ho ?hn ?hr ?_; (case ho => rfl); (case hg => rfl); (case hn => rfl); (case hr => first | (go_simp; done) | (go_simp; rfl)); intro w29 hw; have n0_ : Aside0 (Kd.R k50 50 w29 w1.heap.size (fun k_ => some k_ ≠ (v305 : Value).ownBlock ∧ k_ ≠ gb299 ∧ k_ ≠ gb315 ∧ k_ ≠ gb323) v301 t300) := ⟨(by rw [hw]; exact (by (with_reducible repeat (first | apply Kd.R_alloc | apply Kd.R_drewN | apply Kd.R_drew)); exact Kd.R_mono (Kd.R_far (p := ⟨gb323, 5, none⟩) (Kd.R_far (p := ⟨gb323, 4, none⟩) (Kd.R_far (p := ⟨gb323, 3, none⟩) (Kd.R_far (p := ⟨gb323, 2, none⟩) (Kd.R_far (p := ⟨gb323, 1, none⟩) (Kd.R_far (p := ⟨gb323, 0, none⟩) (Kd.R_mono HO302.out (fun k_ hk => (⟨hk, hk.2⟩ : _ ∧ k_ ≠ gb323))) (fun _ hk => hk.2) (.int .i64 t316)) (fun _ hk => hk.2) (.string t317)) (fun _ hk => hk.2) (.int .i64 t318)) (fun _ hk => hk.2) (.int .i64 t319)) (fun _ hk => hk.2) (.int .i64 t320)) (fun _ hk => hk.2) (.int .i64 t321)) (fun _ hk => ⟨hk.1.1.1, ⟨hk.1.1.2.1, ⟨hk.1.1.2.2, hk.1.2⟩⟩⟩)))⟩; have n1_ : Aside0 (Kd.R k50 50 w29 w1.heap.size (fun k_ => some k_ ≠ (v301 : Value).ownBlock ∧ k_ ≠ gb299 ∧ k_ ≠ gb315 ∧ k_ ≠ gb323) v305 t304) := ⟨(by rw [hw]; exact (by (with_reducible repeat (first | apply Kd.R_alloc | apply Kd.R_drewN | apply Kd.R_drew)); exact Kd.R_mono (Kd.R_far (p := ⟨gb323, 5, none⟩) (Kd.R_far (p := ⟨gb323, 4, none⟩) (Kd.R_far (p := ⟨gb323, 3, none⟩) (Kd.R_far (p := ⟨gb323, 2, none⟩) (Kd.R_far (p := ⟨gb323, 1, none⟩) (Kd.R_far (p := ⟨gb323, 0, none⟩) (Kd.R_mono HO306.out (fun k_ hk => (⟨hk, hk.2⟩ : _ ∧ k_ ≠ gb323))) (fun _ hk => hk.2) (.int .i64 t316)) (fun _ hk => hk.2) (.string t317)) (fun _ hk => hk.2) (.int .i64 t318)) (fun _ hk => hk.2) (.int .i64 t319)) (fun _ hk => hk.2) (.int .i64 t320)) (fun _ hk => hk.2) (.int .i64 t321)) (fun _ hk => ⟨hk.1.1.1, ⟨hk.1.1.2.1, ⟨hk.1.1.2.2, hk.1.2⟩⟩⟩)))⟩; have n2_ : Aside0 (w29.heap[gb299]? = some (.cells #[.int .i64 a1_0, .string a1_1, .int .i64 a1_2, .int .i64 a1_3, .int .i64 a1_4, .int .i64 a1_5] 50 (0, 0))) := ⟨(by rw [hw]; exact (by (with_reducible repeat (first | refine blk_drewN ?_ _ | refine blk_drew ?_ | refine blk_alloc ?_ _)); refine blk_far ?_ NB299_323.out _; (with_reducible repeat (first | refine blk_drewN ?_ _ | refine blk_drew ?_ | refine blk_alloc ?_ _)); refine blk_far ?_ NB299_323.out _; (with_reducible repeat (first | refine blk_drewN ?_ _ | refine blk_drew ?_ | refine blk_alloc ?_ _)); refine blk_far ?_ NB299_323.out _; (with_reducible repeat (first | refine blk_drewN ?_ _ | refine blk_drew ?_ | refine blk_alloc ?_ _)); refine blk_far ?_ NB299_323.out _; (with_reducible repeat (first | refine blk_drewN ?_ _ | refine blk_drew ?_ | refine blk_alloc ?_ _)); refine blk_far ?_ NB299_323.out _; (with_reducible repeat (first | refine blk_drewN ?_ _ | refine blk_drew ?_ | refine blk_alloc ?_ _)); refine blk_far ?_ NB299_323.out _; (with_reducible repeat (first | refine blk_drewN ?_ _ | refine blk_drew ?_ | refine blk_alloc ?_ _)); exact BK299.out))⟩; have n3_ : Aside0 (w29.heap[gb315]? = some (.cells #[.int .i64 t308, .string t309, .int .i64 t310, .int .i64 t311, .int .i64 t312, .int .i64 t313] 50 (0, 0))) := ⟨(by rw [hw]; exact (by (with_reducible repeat (first | refine blk_drewN ?_ _ | refine blk_drew ?_ | refine blk_alloc ?_ _)); refine blk_far ?_ NB315_323.out _; (with_reducible repeat (first | refine blk_drewN ?_ _ | refine blk_drew ?_ | refine blk_alloc ?_ _)); refine blk_far ?_ NB315_323.out _; (with_reducible repeat (first | refine blk_drewN ?_ _ | refine blk_drew ?_ | refine blk_alloc ?_ _)); refine blk_far ?_ NB315_323.out _; (with_reducible repeat (first | refine blk_drewN ?_ _ | refine blk_drew ?_ | refine blk_alloc ?_ _)); refine blk_far ?_ NB315_323.out _; (with_reducible repeat (first | refine blk_drewN ?_ _ | refine blk_drew ?_ | refine blk_alloc ?_ _)); refine blk_far ?_ NB315_323.out _; (with_reducible repeat (first | refine blk_drewN ?_ _ | refine blk_drew ?_ | refine blk_alloc ?_ _)); refine blk_far ?_ NB315_323.out _; (with_reducible repeat (first | refine blk_drewN ?_ _ | refine blk_drew ?_ | refine blk_alloc ?_ _)); exact BK315.out))⟩; have n4_ : Aside0 (w29.heap[gb323]? = some (.cells #[.int .i64 t316, .string t317, .int .i64 t318, .int .i64 t319, .int .i64 t320, .int .i64 t321] 50 (0, 0))) := ⟨(by rw [hw]; exact (by (with_reducible repeat (first | refine blk_drewN ?_ _ | refine blk_drew ?_ | refine blk_alloc ?_ _)); refine blk_put (cs := #[.int .i64 t316, .string t317, .int .i64 t318, .int .i64 t319, .int .i64 t320, .int .i64 0]) ?_ 5 _ rfl; (with_reducible repeat (first | refine blk_drewN ?_ _ | refine blk_drew ?_ | refine blk_alloc ?_ _)); refine blk_put (cs := #[.int .i64 t316, .string t317, .int .i64 t318, .int .i64 t319, .int .i64 0, .int .i64 0]) ?_ 4 _ rfl; (with_reducible repeat (first | refine blk_drewN ?_ _ | refine blk_drew ?_ | refine blk_alloc ?_ _)); refine blk_put (cs := #[.int .i64 t316, .string t317, .int .i64 t318, .int .i64 0, .int .i64 0, .int .i64 0]) ?_ 3 _ rfl; (with_reducible repeat (first | refine blk_drewN ?_ _ | refine blk_drew ?_ | refine blk_alloc ?_ _)); refine blk_put (cs := #[.int .i64 t316, .string t317, .int .i64 0, .int .i64 0, .int .i64 0, .int .i64 0]) ?_ 2 _ rfl; (with_reducible repeat (first | refine blk_drewN ?_ _ | refine blk_drew ?_ | refine blk_alloc ?_ _)); refine blk_put (cs := #[.int .i64 t316, .string (⟨#[]⟩ : ByteArray), .int .i64 0, .int .i64 0, .int .i64 0, .int .i64 0]) ?_ 1 _ rfl; (with_reducible repeat (first | refine blk_drewN ?_ _ | refine blk_drew ?_ | refine blk_alloc ?_ _)); refine blk_put (cs := #[.int .i64 0, .string (⟨#[]⟩ : ByteArray), .int .i64 0, .int .i64 0, .int .i64 0, .int .i64 0]) ?_ 0 _ rfl; (with_reducible repeat (first | refine blk_drewN ?_ _ | refine blk_drew ?_ | refine blk_alloc ?_ _)); exact BK323.out))⟩; have n5_ : Aside0 (Below w1.heap.size w1 w29) := ⟨(by rw [hw]; exact (by repeat (first | (with_reducible first | exact HB.out | apply below_alloc | apply pw_below_drewN | apply below_drew1 | refine below_set ?_ GE299.out | refine below_set ?_ GE315.out | refine below_set ?_ GE323.out) | exact HB.out)))⟩; clear hw; clear HO302; clear HO306; clear BK299; clear BK315; clear BK323; clear HB; have HO302 := n0_; have HO306 := n1_; have BK299 := n2_; have BK315 := n3_; have BK323 := n4_; have HB := n5_; clear n0_ n1_ n2_ n3_ n4_ n5_) | ((with_reducible refine gate_callee (f := 30) rfl ?_); refine goesL_ (some 52) rfl rfl Try.func30 (by kernel_rfl) rfl #[.slice A2 l2.length c2, .int .i64 a2, .int .i64 a3] rfl (by (try simp only [List.map_toArray, List.map_cons, List.map_nil]); first | done | rfl | (simp only [List.length_drop, List.length_take]; rfl)) ?_; (with_reducible refine (chain_Accept.calls k _ _ l2 a2 a3 t324 t325 t326 t327 t328 t329 t330 _ ?side1 ?side2 A11.out).mono ?_); (case side1 => repeat (first | exact (Kd.C_below HR2.out HB.out) | (with_reducible refine Kd.C_alloc ?_ _) | (with_reducible refine Kd.C_drewN ?_ _) | (with_reducible refine Kd.C_drew ?_))); (case side2 => exact HC2.out); rintro e w30 ⟨rfl, hb⟩; refine ⟨_, rfl, ?_⟩; have n0_ := Aside0.mk (Kd.R_below (by (with_reducible repeat (first | apply Kd.R_alloc | apply Kd.R_drewN | apply Kd.R_drew)); exact HO302.out) hb); have n1_ := Aside0.mk (Kd.R_below (by (with_reducible repeat (first | apply Kd.R_alloc | apply Kd.R_drewN | apply Kd.R_drew)); exact HO306.out) hb); have n2_ := Aside0.mk (blk_below (g := gb299) (o := .cells #[.int .i64 a1_0, .string a1_1, .int .i64 a1_2, .int .i64 a1_3, .int .i64 a1_4, .int .i64 a1_5] 50 (0, 0)) (by (with_reducible repeat (first | refine blk_drewN ?_ _ | refine blk_drew ?_ | refine blk_alloc ?_ _)); exact BK299.out) hb); have n3_ := Aside0.mk (blk_below (g := gb315) (o := .cells #[.int .i64 t308, .string t309, .int .i64 t310, .int .i64 t311, .int .i64 t312, .int .i64 t313] 50 (0, 0)) (by (with_reducible repeat (first | refine blk_drewN ?_ _ | refine blk_drew ?_ | refine blk_alloc ?_ _)); exact BK315.out) hb); have n4_ := Aside0.mk (blk_below (g := gb323) (o := .cells #[.int .i64 t316, .string t317, .int .i64 t318, .int .i64 t319, .int .i64 t320, .int .i64 t321] 50 (0, 0)) (by (with_reducible repeat (first | refine blk_drewN ?_ _ | refine blk_drew ?_ | refine blk_alloc ?_ _)); exact BK323.out) hb); have n5_ := Aside0.mk (below_step (by repeat (first | (with_reducible first | exact HB.out | apply below_alloc | apply pw_below_drewN | apply below_drew1 | refine below_set ?_ GE299.out | refine below_set ?_ GE315.out | refine below_set ?_ GE323.out) | exact HB.out)) hb); clear HO302; clear HO306; clear BK299; clear BK315; clear BK323; clear HB; have HO302 := n0_; have HO306 := n1_; have BK299 := n2_; have BK315 := n3_; have BK323 := n4_; have HB := n5_; clear n0_ n1_ n2_ n3_ n4_ n5_; (try clear hb); (try clear hb2); (try clear hk); (try clear hi)) | ((with_reducible refine gate_dst (N := 18) rfl ?_); refine box_event ?hg (N := 18) ?hd (cs := #[.int .i64 0, .string (⟨#[]⟩ : ByteArray), .int .i64 0, .int .i64 0, .int .i64 0, .int .i64 0]) (t := 50) ?hr ?_; (case hd => rfl); (case hg => rfl); (case hr => first | (go_simp; done) | (go_simp; rfl)); intro gb331 hg w31 hbox hb; have n0_ := Aside0.mk (Kd.R_below (Kd.R_elderB (by (with_reducible repeat (first | apply Kd.R_alloc | apply Kd.R_drewN | apply Kd.R_drew)); exact HO302.out) gb331 (Nat.le_of_eq hg.symm)) hb); have n1_ := Aside0.mk (Kd.R_below (Kd.R_elderB (by (with_reducible repeat (first | apply Kd.R_alloc | apply Kd.R_drewN | apply Kd.R_drew)); exact HO306.out) gb331 (Nat.le_of_eq hg.symm)) hb); have n2_ := Aside0.mk (blk_below (g := gb299) (o := .cells #[.int .i64 a1_0, .string a1_1, .int .i64 a1_2, .int .i64 a1_3, .int .i64 a1_4, .int .i64 a1_5] 50 (0, 0)) (by (with_reducible repeat (first | refine blk_drewN ?_ _ | refine blk_drew ?_ | refine blk_alloc ?_ _)); exact BK299.out) hb); have n3_ := Aside0.mk (blk_below (g := gb315) (o := .cells #[.int .i64 t308, .string t309, .int .i64 t310, .int .i64 t311, .int .i64 t312, .int .i64 t313] 50 (0, 0)) (by (with_reducible repeat (first | refine blk_drewN ?_ _ | refine blk_drew ?_ | refine blk_alloc ?_ _)); exact BK315.out) hb); have n4_ := Aside0.mk (blk_below (g := gb323) (o := .cells #[.int .i64 t316, .string t317, .int .i64 t318, .int .i64 t319, .int .i64 t320, .int .i64 t321] 50 (0, 0)) (by (with_reducible repeat (first | refine blk_drewN ?_ _ | refine blk_drew ?_ | refine blk_alloc ?_ _)); exact BK323.out) hb); have n5_ := Aside0.mk (below_step (by repeat (first | (with_reducible first | exact HB.out | apply below_alloc | apply pw_below_drewN | apply below_drew1 | refine below_set ?_ GE299.out | refine below_set ?_ GE315.out | refine below_set ?_ GE323.out) | exact HB.out)) hb); have n6_ := Aside0.mk (hbox); have n7_ := Aside0.mk ((by rw [hg]; exact (below_size (by repeat (first | (with_reducible first | exact HB.out | apply below_alloc | apply pw_below_drewN | apply below_drew1 | refine below_set ?_ GE299.out | refine below_set ?_ GE315.out | refine below_set ?_ GE323.out) | exact HB.out))) : w1.heap.size ≤ gb331)); have n8_ := Aside0.mk ((by rw [hg]; exact (below_size (by repeat (first | (with_reducible first | exact HB.out | apply below_alloc | apply pw_below_drewN | apply below_drew1 | refine below_set ?_ GE299.out | refine below_set ?_ GE315.out | refine below_set ?_ GE323.out) | exact HB.out))) : w1.heap.size ≤ gb331)); have n9_ := Aside0.mk ((by rw [hg]; exact Nat.ne_of_lt (blk_lt (g := gb299) (o := .cells #[.int .i64 a1_0, .string a1_1, .int .i64 a1_2, .int .i64 a1_3, .int .i64 a1_4, .int .i64 a1_5] 50 (0, 0)) (by (with_reducible repeat (first | refine blk_drewN ?_ _ | refine blk_drew ?_ | refine blk_alloc ?_ _)); exact BK299.out)) : gb299 ≠ gb331)); have n10_ := Aside0.mk ((by rw [hg]; exact Nat.ne_of_gt (blk_lt (g := gb299) (o := .cells #[.int .i64 a1_0, .string a1_1, .int .i64 a1_2, .int .i64 a1_3, .int .i64 a1_4, .int .i64 a1_5] 50 (0, 0)) (by (with_reducible repeat (first | refine blk_drewN ?_ _ | refine blk_drew ?_ | refine blk_alloc ?_ _)); exact BK299.out)) : gb331 ≠ gb299)); have n11_ := Aside0.mk ((by rw [hg]; exact Nat.ne_of_lt (blk_lt (g := gb315) (o := .cells #[.int .i64 t308, .string t309, .int .i64 t310, .int .i64 t311, .int .i64 t312, .int .i64 t313] 50 (0, 0)) (by (with_reducible repeat (first | refine blk_drewN ?_ _ | refine blk_drew ?_ | refine blk_alloc ?_ _)); exact BK315.out)) : gb315 ≠ gb331)); have n12_ := Aside0.mk ((by rw [hg]; exact Nat.ne_of_gt (blk_lt (g := gb315) (o := .cells #[.int .i64 t308, .string t309, .int .i64 t310, .int .i64 t311, .int .i64 t312, .int .i64 t313] 50 (0, 0)) (by (with_reducible repeat (first | refine blk_drewN ?_ _ | refine blk_drew ?_ | refine blk_alloc ?_ _)); exact BK315.out)) : gb331 ≠ gb315)); have n13_ := Aside0.mk ((by rw [hg]; exact Nat.ne_of_lt (blk_lt (g := gb323) (o := .cells #[.int .i64 t316, .string t317, .int .i64 t318, .int .i64 t319, .int .i64 t320, .int .i64 t321] 50 (0, 0)) (by (with_reducible repeat (first | refine blk_drewN ?_ _ | refine blk_drew ?_ | refine blk_alloc ?_ _)); exact BK323.out)) : gb323 ≠ gb331)); have n14_ := Aside0.mk ((by rw [hg]; exact Nat.ne_of_gt (blk_lt (g := gb323) (o := .cells #[.int .i64 t316, .string t317, .int .i64 t318, .int .i64 t319, .int .i64 t320, .int .i64 t321] 50 (0, 0)) (by (with_reducible repeat (first | refine blk_drewN ?_ _ | refine blk_drew ?_ | refine blk_alloc ?_ _)); exact BK323.out)) : gb331 ≠ gb323)); clear HO302; clear HO306; clear BK299; clear BK315; clear BK323; clear HB; have HO302 := n0_; have HO306 := n1_; have BK299 := n2_; have BK315 := n3_; have BK323 := n4_; have HB := n5_; have BK331 := n6_; have GW331 := n7_; have GE331 := n8_; have NB299_331 := n9_; have NB331_299 := n10_; have NB315_331 := n11_; have NB331_315 := n12_; have NB323_331 := n13_; have NB331_323 := n14_; clear n0_ n1_ n2_ n3_ n4_ n5_ n6_ n7_ n8_ n9_ n10_ n11_ n12_ n13_ n14_; clear hb hbox hg; have hnb32 := NB331_299.out; have hnc32 := NB299_331.out; have hnb33 := NB331_315.out; have hnc33 := NB315_331.out; have hnb34 := NB331_323.out; have hnc34 := NB323_331.out; have hcz35_0 : w31.cell? ⟨gb331, 0, none⟩ = some (.int .i64 0) := (blk_cell BK331.out 0).trans rfl; have hcz35_1 : w31.cell? ⟨gb331, 1, none⟩ = some (.string (⟨#[]⟩ : ByteArray)) := (blk_cell BK331.out 1).trans rfl; have hcz35_2 : w31.cell? ⟨gb331, 2, none⟩ = some (.int .i64 0) := (blk_cell BK331.out 2).trans rfl; have hcz35_3 : w31.cell? ⟨gb331, 3, none⟩ = some (.int .i64 0) := (blk_cell BK331.out 3).trans rfl; have hcz35_4 : w31.cell? ⟨gb331, 4, none⟩ = some (.int .i64 0) := (blk_cell BK331.out 4).trans rfl; have hcz35_5 : w31.cell? ⟨gb331, 5, none⟩ = some (.int .i64 0) := (blk_cell BK331.out 5).trans rfl; have hfz35_0 := blk_frozen BK331.out 0; have hfz35_1 := blk_frozen BK331.out 1; have hfz35_2 := blk_frozen BK331.out 2; have hfz35_3 := blk_frozen BK331.out 3; have hfz35_4 := blk_frozen BK331.out 4; have hfz35_5 := blk_frozen BK331.out 5) | ((with_reducible refine gate_store (t := 50) (p := 18) rfl ?_); refine store_event (t := 50) (p := 18) (v := ?vo_w36) (w1 := ((((((w31.setCell ⟨gb331, 0, none⟩ (.int .i64 t324)).setCell ⟨gb331, 1, none⟩ (.string t325)).setCell ⟨gb331, 2, none⟩ (.int .i64 t326)).setCell ⟨gb331, 3, none⟩ (.int .i64 t327)).setCell ⟨gb331, 4, none⟩ (.int .i64 t328)).setCell ⟨gb331, 5, none⟩ (.int .i64 t329))) ?hg ?ho ?hn ?hr ?_; (case ho => rfl); (case hg => rfl); (case hn => rfl); (case hr => first | (go_simp; done) | (go_simp; rfl)); intro w36 hw; have n0_ : Aside0 (Kd.R k50 50 w36 w1.heap.size (fun k_ => some k_ ≠ (v305 : Value).ownBlock ∧ k_ ≠ gb299 ∧ k_ ≠ gb315 ∧ k_ ≠ gb323 ∧ k_ ≠ gb331) v301 t300) := ⟨(by rw [hw]; exact (by (with_reducible repeat (first | apply Kd.R_alloc | apply Kd.R_drewN | apply Kd.R_drew)); exact Kd.R_mono (Kd.R_far (p := ⟨gb331, 5, none⟩) (Kd.R_far (p := ⟨gb331, 4, none⟩) (Kd.R_far (p := ⟨gb331, 3, none⟩) (Kd.R_far (p := ⟨gb331, 2, none⟩) (Kd.R_far (p := ⟨gb331, 1, none⟩) (Kd.R_far (p := ⟨gb331, 0, none⟩) (Kd.R_mono HO302.out (fun k_ hk => (⟨hk, hk.2⟩ : _ ∧ k_ ≠ gb331))) (fun _ hk => hk.2) (.int .i64 t324)) (fun _ hk => hk.2) (.string t325)) (fun _ hk => hk.2) (.int .i64 t326)) (fun _ hk => hk.2) (.int .i64 t327)) (fun _ hk => hk.2) (.int .i64 t328)) (fun _ hk => hk.2) (.int .i64 t329)) (fun _ hk => ⟨hk.1.1.1, ⟨hk.1.1.2.1, ⟨hk.1.1.2.2.1, ⟨hk.1.1.2.2.2, hk.1.2⟩⟩⟩⟩)))⟩; have n1_ : Aside0 (Kd.R k50 50 w36 w1.heap.size (fun k_ => some k_ ≠ (v301 : Value).ownBlock ∧ k_ ≠ gb299 ∧ k_ ≠ gb315 ∧ k_ ≠ gb323 ∧ k_ ≠ gb331) v305 t304) := ⟨(by rw [hw]; exact (by (with_reducible repeat (first | apply Kd.R_alloc | apply Kd.R_drewN | apply Kd.R_drew)); exact Kd.R_mono (Kd.R_far (p := ⟨gb331, 5, none⟩) (Kd.R_far (p := ⟨gb331, 4, none⟩) (Kd.R_far (p := ⟨gb331, 3, none⟩) (Kd.R_far (p := ⟨gb331, 2, none⟩) (Kd.R_far (p := ⟨gb331, 1, none⟩) (Kd.R_far (p := ⟨gb331, 0, none⟩) (Kd.R_mono HO306.out (fun k_ hk => (⟨hk, hk.2⟩ : _ ∧ k_ ≠ gb331))) (fun _ hk => hk.2) (.int .i64 t324)) (fun _ hk => hk.2) (.string t325)) (fun _ hk => hk.2) (.int .i64 t326)) (fun _ hk => hk.2) (.int .i64 t327)) (fun _ hk => hk.2) (.int .i64 t328)) (fun _ hk => hk.2) (.int .i64 t329)) (fun _ hk => ⟨hk.1.1.1, ⟨hk.1.1.2.1, ⟨hk.1.1.2.2.1, ⟨hk.1.1.2.2.2, hk.1.2⟩⟩⟩⟩)))⟩; have n2_ : Aside0 (w36.heap[gb299]? = some (.cells #[.int .i64 a1_0, .string a1_1, .int .i64 a1_2, .int .i64 a1_3, .int .i64 a1_4, .int .i64 a1_5] 50 (0, 0))) := ⟨(by rw [hw]; exact (by (with_reducible repeat (first | refine blk_drewN ?_ _ | refine blk_drew ?_ | refine blk_alloc ?_ _)); refine blk_far ?_ NB299_331.out _; (with_reducible repeat (first | refine blk_drewN ?_ _ | refine blk_drew ?_ | refine blk_alloc ?_ _)); refine blk_far ?_ NB299_331.out _; (with_reducible repeat (first | refine blk_drewN ?_ _ | refine blk_drew ?_ | refine blk_alloc ?_ _)); refine blk_far ?_ NB299_331.out _; (with_reducible repeat (first | refine blk_drewN ?_ _ | refine blk_drew ?_ | refine blk_alloc ?_ _)); refine blk_far ?_ NB299_331.out _; (with_reducible repeat (first | refine blk_drewN ?_ _ | refine blk_drew ?_ | refine blk_alloc ?_ _)); refine blk_far ?_ NB299_331.out _; (with_reducible repeat (first | refine blk_drewN ?_ _ | refine blk_drew ?_ | refine blk_alloc ?_ _)); refine blk_far ?_ NB299_331.out _; (with_reducible repeat (first | refine blk_drewN ?_ _ | refine blk_drew ?_ | refine blk_alloc ?_ _)); exact BK299.out))⟩; have n3_ : Aside0 (w36.heap[gb315]? = some (.cells #[.int .i64 t308, .string t309, .int .i64 t310, .int .i64 t311, .int .i64 t312, .int .i64 t313] 50 (0, 0))) := ⟨(by rw [hw]; exact (by (with_reducible repeat (first | refine blk_drewN ?_ _ | refine blk_drew ?_ | refine blk_alloc ?_ _)); refine blk_far ?_ NB315_331.out _; (with_reducible repeat (first | refine blk_drewN ?_ _ | refine blk_drew ?_ | refine blk_alloc ?_ _)); refine blk_far ?_ NB315_331.out _; (with_reducible repeat (first | refine blk_drewN ?_ _ | refine blk_drew ?_ | refine blk_alloc ?_ _)); refine blk_far ?_ NB315_331.out _; (with_reducible repeat (first | refine blk_drewN ?_ _ | refine blk_drew ?_ | refine blk_alloc ?_ _)); refine blk_far ?_ NB315_331.out _; (with_reducible repeat (first | refine blk_drewN ?_ _ | refine blk_drew ?_ | refine blk_alloc ?_ _)); refine blk_far ?_ NB315_331.out _; (with_reducible repeat (first | refine blk_drewN ?_ _ | refine blk_drew ?_ | refine blk_alloc ?_ _)); refine blk_far ?_ NB315_331.out _; (with_reducible repeat (first | refine blk_drewN ?_ _ | refine blk_drew ?_ | refine blk_alloc ?_ _)); exact BK315.out))⟩; have n4_ : Aside0 (w36.heap[gb323]? = some (.cells #[.int .i64 t316, .string t317, .int .i64 t318, .int .i64 t319, .int .i64 t320, .int .i64 t321] 50 (0, 0))) := ⟨(by rw [hw]; exact (by (with_reducible repeat (first | refine blk_drewN ?_ _ | refine blk_drew ?_ | refine blk_alloc ?_ _)); refine blk_far ?_ NB323_331.out _; (with_reducible repeat (first | refine blk_drewN ?_ _ | refine blk_drew ?_ | refine blk_alloc ?_ _)); refine blk_far ?_ NB323_331.out _; (with_reducible repeat (first | refine blk_drewN ?_ _ | refine blk_drew ?_ | refine blk_alloc ?_ _)); refine blk_far ?_ NB323_331.out _; (with_reducible repeat (first | refine blk_drewN ?_ _ | refine blk_drew ?_ | refine blk_alloc ?_ _)); refine blk_far ?_ NB323_331.out _; (with_reducible repeat (first | refine blk_drewN ?_ _ | refine blk_drew ?_ | refine blk_alloc ?_ _)); refine blk_far ?_ NB323_331.out _; (with_reducible repeat (first | refine blk_drewN ?_ _ | refine blk_drew ?_ | refine blk_alloc ?_ _)); refine blk_far ?_ NB323_331.out _; (with_reducible repeat (first | refine blk_drewN ?_ _ | refine blk_drew ?_ | refine blk_alloc ?_ _)); exact BK323.out))⟩; have n5_ : Aside0 (w36.heap[gb331]? = some (.cells #[.int .i64 t324, .string t325, .int .i64 t326, .int .i64 t327, .int .i64 t328, .int .i64 t329] 50 (0, 0))) := ⟨(by rw [hw]; exact (by (with_reducible repeat (first | refine blk_drewN ?_ _ | refine blk_drew ?_ | refine blk_alloc ?_ _)); refine blk_put (cs := #[.int .i64 t324, .string t325, .int .i64 t326, .int .i64 t327, .int .i64 t328, .int .i64 0]) ?_ 5 _ rfl; (with_reducible repeat (first | refine blk_drewN ?_ _ | refine blk_drew ?_ | refine blk_alloc ?_ _)); refine blk_put (cs := #[.int .i64 t324, .string t325, .int .i64 t326, .int .i64 t327, .int .i64 0, .int .i64 0]) ?_ 4 _ rfl; (with_reducible repeat (first | refine blk_drewN ?_ _ | refine blk_drew ?_ | refine blk_alloc ?_ _)); refine blk_put (cs := #[.int .i64 t324, .string t325, .int .i64 t326, .int .i64 0, .int .i64 0, .int .i64 0]) ?_ 3 _ rfl; (with_reducible repeat (first | refine blk_drewN ?_ _ | refine blk_drew ?_ | refine blk_alloc ?_ _)); refine blk_put (cs := #[.int .i64 t324, .string t325, .int .i64 0, .int .i64 0, .int .i64 0, .int .i64 0]) ?_ 2 _ rfl; (with_reducible repeat (first | refine blk_drewN ?_ _ | refine blk_drew ?_ | refine blk_alloc ?_ _)); refine blk_put (cs := #[.int .i64 t324, .string (⟨#[]⟩ : ByteArray), .int .i64 0, .int .i64 0, .int .i64 0, .int .i64 0]) ?_ 1 _ rfl; (with_reducible repeat (first | refine blk_drewN ?_ _ | refine blk_drew ?_ | refine blk_alloc ?_ _)); refine blk_put (cs := #[.int .i64 0, .string (⟨#[]⟩ : ByteArray), .int .i64 0, .int .i64 0, .int .i64 0, .int .i64 0]) ?_ 0 _ rfl; (with_reducible repeat (first | refine blk_drewN ?_ _ | refine blk_drew ?_ | refine blk_alloc ?_ _)); exact BK331.out))⟩; have n6_ : Aside0 (Below w1.heap.size w1 w36) := ⟨(by rw [hw]; exact (by repeat (first | (with_reducible first | exact HB.out | apply below_alloc | apply pw_below_drewN | apply below_drew1 | refine below_set ?_ GE299.out | refine below_set ?_ GE315.out | refine below_set ?_ GE323.out | refine below_set ?_ GE331.out) | exact HB.out)))⟩; clear hw; clear HO302; clear HO306; clear BK299; clear BK315; clear BK323; clear BK331; clear HB; have HO302 := n0_; have HO306 := n1_; have BK299 := n2_; have BK315 := n3_; have BK323 := n4_; have BK331 := n5_; have HB := n6_; clear n0_ n1_ n2_ n3_ n4_ n5_ n6_) | ((with_reducible refine gate_callee (f := 31) rfl ?_); refine goesL_ (some 59) rfl rfl Try.func31 (by kernel_rfl) rfl #[.slice A0 l0.length c0, .int .i64 a2, .int .i64 a3] rfl (by (try simp only [List.map_toArray, List.map_cons, List.map_nil]); first | done | rfl | (simp only [List.length_drop, List.length_take]; rfl)) ?_; (with_reducible refine (watchwordref1_AcceptKey.calls k _ _ l0 a2 a3 t332 t333 t334 t335 t336 t337 t338 _ ?side1 ?side2 A12.out).mono ?_); (case side1 => repeat (first | exact (Kd.C_below HR0.out HB.out) | (with_reducible refine Kd.C_alloc ?_ _) | (with_reducible refine Kd.C_drewN ?_ _) | (with_reducible refine Kd.C_drew ?_))); (case side2 => exact HC0.out); rintro e w37 ⟨rfl, hb⟩; refine ⟨_, rfl, ?_⟩; have n0_ := Aside0.mk (Kd.R_below (by (with_reducible repeat (first | apply Kd.R_alloc | apply Kd.R_drewN | apply Kd.R_drew)); exact HO302.out) hb); have n1_ := Aside0.mk (Kd.R_below (by (with_reducible repeat (first | apply Kd.R_alloc | apply Kd.R_drewN | apply Kd.R_drew)); exact HO306.out) hb); have n2_ := Aside0.mk (blk_below (g := gb299) (o := .cells #[.int .i64 a1_0, .string a1_1, .int .i64 a1_2, .int .i64 a1_3, .int .i64 a1_4, .int .i64 a1_5] 50 (0, 0)) (by (with_reducible repeat (first | refine blk_drewN ?_ _ | refine blk_drew ?_ | refine blk_alloc ?_ _)); exact BK299.out) hb); have n3_ := Aside0.mk (blk_below (g := gb315) (o := .cells #[.int .i64 t308, .string t309, .int .i64 t310, .int .i64 t311, .int .i64 t312, .int .i64 t313] 50 (0, 0)) (by (with_reducible repeat (first | refine blk_drewN ?_ _ | refine blk_drew ?_ | refine blk_alloc ?_ _)); exact BK315.out) hb); have n4_ := Aside0.mk (blk_below (g := gb323) (o := .cells #[.int .i64 t316, .string t317, .int .i64 t318, .int .i64 t319, .int .i64 t320, .int .i64 t321] 50 (0, 0)) (by (with_reducible repeat (first | refine blk_drewN ?_ _ | refine blk_drew ?_ | refine blk_alloc ?_ _)); exact BK323.out) hb); have n5_ := Aside0.mk (blk_below (g := gb331) (o := .cells #[.int .i64 t324, .string t325, .int .i64 t326, .int .i64 t327, .int .i64 t328, .int .i64 t329] 50 (0, 0)) (by (with_reducible repeat (first | refine blk_drewN ?_ _ | refine blk_drew ?_ | refine blk_alloc ?_ _)); exact BK331.out) hb); have n6_ := Aside0.mk (below_step (by repeat (first | (with_reducible first | exact HB.out | apply below_alloc | apply pw_below_drewN | apply below_drew1 | refine below_set ?_ GE299.out | refine below_set ?_ GE315.out | refine below_set ?_ GE323.out | refine below_set ?_ GE331.out) | exact HB.out)) hb); clear HO302; clear HO306; clear BK299; clear BK315; clear BK323; clear BK331; clear HB; have HO302 := n0_; have HO306 := n1_; have BK299 := n2_; have BK315 := n3_; have BK323 := n4_; have BK331 := n5_; have HB := n6_; clear n0_ n1_ n2_ n3_ n4_ n5_ n6_; (try clear hb); (try clear hb2); (try clear hk); (try clear hi)) | ((with_reducible refine gate_dst (N := 20) rfl ?_); refine box_event ?hg (N := 20) ?hd (cs := #[.int .i64 0, .string (⟨#[]⟩ : ByteArray), .int .i64 0, .int .i64 0, .int .i64 0, .int .i64 0]) (t := 50) ?hr ?_; (case hd => rfl); (case hg => rfl); (case hr => first | (go_simp; done) | (go_simp; rfl)); intro gb339 hg w38 hbox hb; have n0_ := Aside0.mk (Kd.R_below (Kd.R_elderB (by (with_reducible repeat (first | apply Kd.R_alloc | apply Kd.R_drewN | apply Kd.R_drew)); exact HO302.out) gb339 (Nat.le_of_eq hg.symm)) hb); have n1_ := Aside0.mk (Kd.R_below (Kd.R_elderB (by (with_reducible repeat (first | apply Kd.R_alloc | apply Kd.R_drewN | apply Kd.R_drew)); exact HO306.out) gb339 (Nat.le_of_eq hg.symm)) hb); have n2_ := Aside0.mk (blk_below (g := gb299) (o := .cells #[.int .i64 a1_0, .string a1_1, .int .i64 a1_2, .int .i64 a1_3, .int .i64 a1_4, .int .i64 a1_5] 50 (0, 0)) (by (with_reducible repeat (first | refine blk_drewN ?_ _ | refine blk_drew ?_ | refine blk_alloc ?_ _)); exact BK299.out) hb); have n3_ := Aside0.mk (blk_below (g := gb315) (o := .cells #[.int .i64 t308, .string t309, .int .i64 t310, .int .i64 t311, .int .i64 t312, .int .i64 t313] 50 (0, 0)) (by (with_reducible repeat (first | refine blk_drewN ?_ _ | refine blk_drew ?_ | refine blk_alloc ?_ _)); exact BK315.out) hb); have n4_ := Aside0.mk (blk_below (g := gb323) (o := .cells #[.int .i64 t316, .string t317, .int .i64 t318, .int .i64 t319, .int .i64 t320, .int .i64 t321] 50 (0, 0)) (by (with_reducible repeat (first | refine blk_drewN ?_ _ | refine blk_drew ?_ | refine blk_alloc ?_ _)); exact BK323.out) hb); have n5_ := Aside0.mk (blk_below (g := gb331) (o := .cells #[.int .i64 t324, .string t325, .int .i64 t326, .int .i64 t327, .int .i64 t328, .int .i64 t329] 50 (0, 0)) (by (with_reducible repeat (first | refine blk_drewN ?_ _ | refine blk_drew ?_ | refine blk_alloc ?_ _)); exact BK331.out) hb); have n6_ := Aside0.mk (below_step (by repeat (first | (with_reducible first | exact HB.out | apply below_alloc | apply pw_below_drewN | apply below_drew1 | refine below_set ?_ GE299.out | refine below_set ?_ GE315.out | refine below_set ?_ GE323.out | refine below_set ?_ GE331.out) | exact HB.out)) hb); have n7_ := Aside0.mk (hbox); have n8_ := Aside0.mk ((by rw [hg]; exact (below_size (by repeat (first | (with_reducible first | exact HB.out | apply below_alloc | apply pw_below_drewN | apply below_drew1 | refine below_set ?_ GE299.out | refine below_set ?_ GE315.out | refine below_set ?_ GE323.out | refine below_set ?_ GE331.out) | exact HB.out))) : w1.heap.size ≤ gb339)); have n9_ := Aside0.mk ((by rw [hg]; exact (below_size (by repeat (first | (with_reducible first | exact HB.out | apply below_alloc | apply pw_below_drewN | apply below_drew1 | refine below_set ?_ GE299.out | refine below_set ?_ GE315.out | refine below_set ?_ GE323.out | refine below_set ?_ GE331.out) | exact HB.out))) : w1.heap.size ≤ gb339)); have n10_ := Aside0.mk ((by rw [hg]; exact Nat.ne_of_lt (blk_lt (g := gb299) (o := .cells #[.int .i64 a1_0, .string a1_1, .int .i64 a1_2, .int .i64 a1_3, .int .i64 a1_4, .int .i64 a1_5] 50 (0, 0)) (by (with_reducible repeat (first | refine blk_drewN ?_ _ | refine blk_drew ?_ | refine blk_alloc ?_ _)); exact BK299.out)) : gb299 ≠ gb339)); have n11_ := Aside0.mk ((by rw [hg]; exact Nat.ne_of_gt (blk_lt (g := gb299) (o := .cells #[.int .i64 a1_0, .string a1_1, .int .i64 a1_2, .int .i64 a1_3, .int .i64 a1_4, .int .i64 a1_5] 50 (0, 0)) (by (with_reducible repeat (first | refine blk_drewN ?_ _ | refine blk_drew ?_ | refine blk_alloc ?_ _)); exact BK299.out)) : gb339 ≠ gb299)); have n12_ := Aside0.mk ((by rw [hg]; exact Nat.ne_of_lt (blk_lt (g := gb315) (o := .cells #[.int .i64 t308, .string t309, .int .i64 t310, .int .i64 t311, .int .i64 t312, .int .i64 t313] 50 (0, 0)) (by (with_reducible repeat (first | refine blk_drewN ?_ _ | refine blk_drew ?_ | refine blk_alloc ?_ _)); exact BK315.out)) : gb315 ≠ gb339)); have n13_ := Aside0.mk ((by rw [hg]; exact Nat.ne_of_gt (blk_lt (g := gb315) (o := .cells #[.int .i64 t308, .string t309, .int .i64 t310, .int .i64 t311, .int .i64 t312, .int .i64 t313] 50 (0, 0)) (by (with_reducible repeat (first | refine blk_drewN ?_ _ | refine blk_drew ?_ | refine blk_alloc ?_ _)); exact BK315.out)) : gb339 ≠ gb315)); have n14_ := Aside0.mk ((by rw [hg]; exact Nat.ne_of_lt (blk_lt (g := gb323) (o := .cells #[.int .i64 t316, .string t317, .int .i64 t318, .int .i64 t319, .int .i64 t320, .int .i64 t321] 50 (0, 0)) (by (with_reducible repeat (first | refine blk_drewN ?_ _ | refine blk_drew ?_ | refine blk_alloc ?_ _)); exact BK323.out)) : gb323 ≠ gb339)); have n15_ := Aside0.mk ((by rw [hg]; exact Nat.ne_of_gt (blk_lt (g := gb323) (o := .cells #[.int .i64 t316, .string t317, .int .i64 t318, .int .i64 t319, .int .i64 t320, .int .i64 t321] 50 (0, 0)) (by (with_reducible repeat (first | refine blk_drewN ?_ _ | refine blk_drew ?_ | refine blk_alloc ?_ _)); exact BK323.out)) : gb339 ≠ gb323)); have n16_ := Aside0.mk ((by rw [hg]; exact Nat.ne_of_lt (blk_lt (g := gb331) (o := .cells #[.int .i64 t324, .string t325, .int .i64 t326, .int .i64 t327, .int .i64 t328, .int .i64 t329] 50 (0, 0)) (by (with_reducible repeat (first | refine blk_drewN ?_ _ | refine blk_drew ?_ | refine blk_alloc ?_ _)); exact BK331.out)) : gb331 ≠ gb339)); have n17_ := Aside0.mk ((by rw [hg]; exact Nat.ne_of_gt (blk_lt (g := gb331) (o := .cells #[.int .i64 t324, .string t325, .int .i64 t326, .int .i64 t327, .int .i64 t328, .int .i64 t329] 50 (0, 0)) (by (with_reducible repeat (first | refine blk_drewN ?_ _ | refine blk_drew ?_ | refine blk_alloc ?_ _)); exact BK331.out)) : gb339 ≠ gb331)); clear HO302; clear HO306; clear BK299; clear BK315; clear BK323; clear BK331; clear HB; have HO302 := n0_; have HO306 := n1_; have BK299 := n2_; have BK315 := n3_; have BK323 := n4_; have BK331 := n5_; have HB := n6_; have BK339 := n7_; have GW339 := n8_; have GE339 := n9_; have NB299_339 := n10_; have NB339_299 := n11_; have NB315_339 := n12_; have NB339_315 := n13_; have NB323_339 := n14_; have NB339_323 := n15_; have NB331_339 := n16_; have NB339_331 := n17_; clear n0_ n1_ n2_ n3_ n4_ n5_ n6_ n7_ n8_ n9_ n10_ n11_ n12_ n13_ n14_ n15_ n16_ n17_; clear hb hbox hg; have hnb39 := NB339_299.out; have hnc39 := NB299_339.out; have hnb40 := NB339_315.out; have hnc40 := NB315_339.out; have hnb41 := NB339_323.out; have hnc41 := NB323_339.out; have hnb42 := NB339_331.out; have hnc42 := NB331_339.out; have hcz43_0 : w38.cell? ⟨gb339, 0, none⟩ = some (.int .i64 0) := (blk_cell BK339.out 0).trans rfl; have hcz43_1 : w38.cell? ⟨gb339, 1, none⟩ = some (.string (⟨#[]⟩ : ByteArray)) := (blk_cell BK339.out 1).trans rfl; have hcz43_2 : w38.cell? ⟨gb339, 2, none⟩ = some (.int .i64 0) := (blk_cell BK339.out 2).trans rfl; have hcz43_3 : w38.cell? ⟨gb339, 3, none⟩ = some (.int .i64 0) := (blk_cell BK339.out 3).trans rfl; have hcz43_4 : w38.cell? ⟨gb339, 4, none⟩ = some (.int .i64 0) := (blk_cell BK339.out 4).trans rfl; have hcz43_5 : w38.cell? ⟨gb339, 5, none⟩ = some (.int .i64 0) := (blk_cell BK339.out 5).trans rfl; have hfz43_0 := blk_frozen BK339.out 0; have hfz43_1 := blk_frozen BK339.out 1; have hfz43_2 := blk_frozen BK339.out 2; have hfz43_3 := blk_frozen BK339.out 3; have hfz43_4 := blk_frozen BK339.out 4; have hfz43_5 := blk_frozen BK339.out 5) | ((with_reducible refine gate_store (t := 50) (p := 20) rfl ?_); refine store_event (t := 50) (p := 20) (v := ?vo_w44) (w1 := ((((((w38.setCell ⟨gb339, 0, none⟩ (.int .i64 t332)).setCell ⟨gb339, 1, none⟩ (.string t333)).setCell ⟨gb339, 2, none⟩ (.int .i64 t334)).setCell ⟨gb339, 3, none⟩ (.int .i64 t335)).setCell ⟨gb339, 4, none⟩ (.int .i64 t336)).setCell ⟨gb339, 5, none⟩ (.int .i64 t337))) ?hg ?ho ?hn ?hr ?_; (case ho => rfl); (case hg => rfl); (case hn => rfl); (case hr => first | (go_simp; done) | (go_simp; rfl)); intro w44 hw; have n0_ : Aside0 (Kd.R k50 50 w44 w1.heap.size (fun k_ => some k_ ≠ (v305 : Value).ownBlock ∧ k_ ≠ gb299 ∧ k_ ≠ gb315 ∧ k_ ≠ gb323 ∧ k_ ≠ gb331 ∧ k_ ≠ gb339) v301 t300) := ⟨(by rw [hw]; exact (by (with_reducible repeat (first | apply Kd.R_alloc | apply Kd.R_drewN | apply Kd.R_drew)); exact Kd.R_mono (Kd.R_far (p := ⟨gb339, 5, none⟩) (Kd.R_far (p := ⟨gb339, 4, none⟩) (Kd.R_far (p := ⟨gb339, 3, none⟩) (Kd.R_far (p := ⟨gb339, 2, none⟩) (Kd.R_far (p := ⟨gb339, 1, none⟩) (Kd.R_far (p := ⟨gb339, 0, none⟩) (Kd.R_mono HO302.out (fun k_ hk => (⟨hk, hk.2⟩ : _ ∧ k_ ≠ gb339))) (fun _ hk => hk.2) (.int .i64 t332)) (fun _ hk => hk.2) (.string t333)) (fun _ hk => hk.2) (.int .i64 t334)) (fun _ hk => hk.2) (.int .i64 t335)) (fun _ hk => hk.2) (.int .i64 t336)) (fun _ hk => hk.2) (.int .i64 t337)) (fun _ hk => ⟨hk.1.1.1, ⟨hk.1.1.2.1, ⟨hk.1.1.2.2.1, ⟨hk.1.1.2.2.2.1, ⟨hk.1.1.2.2.2.2, hk.1.2⟩⟩⟩⟩⟩)))⟩; have n1_ : Aside0 (Kd.R k50 50 w44 w1.heap.size (fun k_ => some k_ ≠ (v301 : Value).ownBlock ∧ k_ ≠ gb299 ∧ k_ ≠ gb315 ∧ k_ ≠ gb323 ∧ k_ ≠ gb331 ∧ k_ ≠ gb339) v305 t304) := ⟨(by rw [hw]; exact (by (with_reducible repeat (first | apply Kd.R_alloc | apply Kd.R_drewN | apply Kd.R_drew)); exact Kd.R_mono (Kd.R_far (p := ⟨gb339, 5, none⟩) (Kd.R_far (p := ⟨gb339, 4, none⟩) (Kd.R_far (p := ⟨gb339, 3, none⟩) (Kd.R_far (p := ⟨gb339, 2, none⟩) (Kd.R_far (p := ⟨gb339, 1, none⟩) (Kd.R_far (p := ⟨gb339, 0, none⟩) (Kd.R_mono HO306.out (fun k_ hk => (⟨hk, hk.2⟩ : _ ∧ k_ ≠ gb339))) (fun _ hk => hk.2) (.int .i64 t332)) (fun _ hk => hk.2) (.string t333)) (fun _ hk => hk.2) (.int .i64 t334)) (fun _ hk => hk.2) (.int .i64 t335)) (fun _ hk => hk.2) (.int .i64 t336)) (fun _ hk => hk.2) (.int .i64 t337)) (fun _ hk => ⟨hk.1.1.1, ⟨hk.1.1.2.1, ⟨hk.1.1.2.2.1, ⟨hk.1.1.2.2.2.1, ⟨hk.1.1.2.2.2.2, hk.1.2⟩⟩⟩⟩⟩)))⟩; have n2_ : Aside0 (w44.heap[gb299]? = some (.cells #[.int .i64 a1_0, .string a1_1, .int .i64 a1_2, .int .i64 a1_3, .int .i64 a1_4, .int .i64 a1_5] 50 (0, 0))) := ⟨(by rw [hw]; exact (by (with_reducible repeat (first | refine blk_drewN ?_ _ | refine blk_drew ?_ | refine blk_alloc ?_ _)); refine blk_far ?_ NB299_339.out _; (with_reducible repeat (first | refine blk_drewN ?_ _ | refine blk_drew ?_ | refine blk_alloc ?_ _)); refine blk_far ?_ NB299_339.out _; (with_reducible repeat (first | refine blk_drewN ?_ _ | refine blk_drew ?_ | refine blk_alloc ?_ _)); refine blk_far ?_ NB299_339.out _; (with_reducible repeat (first | refine blk_drewN ?_ _ | refine blk_drew ?_ | refine blk_alloc ?_ _)); refine blk_far ?_ NB299_339.out _; (with_reducible repeat (first | refine blk_drewN ?_ _ | refine blk_drew ?_ | refine blk_alloc ?_ _)); refine blk_far ?_ NB299_339.out _; (with_reducible repeat (first | refine blk_drewN ?_ _ | refine blk_drew ?_ | refine blk_alloc ?_ _)); refine blk_far ?_ NB299_339.out _; (with_reducible repeat (first | refine blk_drewN ?_ _ | refine blk_drew ?_ | refine blk_alloc ?_ _)); exact BK299.out))⟩; have n3_ : Aside0 (w44.heap[gb315]? = some (.cells #[.int .i64 t308, .string t309, .int .i64 t310, .int .i64 t311, .int .i64 t312, .int .i64 t313] 50 (0, 0))) := ⟨(by rw [hw]; exact (by (with_reducible repeat (first | refine blk_drewN ?_ _ | refine blk_drew ?_ | refine blk_alloc ?_ _)); refine blk_far ?_ NB315_339.out _; (with_reducible repeat (first | refine blk_drewN ?_ _ | refine blk_drew ?_ | refine blk_alloc ?_ _)); refine blk_far ?_ NB315_339.out _; (with_reducible repeat (first | refine blk_drewN ?_ _ | refine blk_drew ?_ | refine blk_alloc ?_ _)); refine blk_far ?_ NB315_339.out _; (with_reducible repeat (first | refine blk_drewN ?_ _ | refine blk_drew ?_ | refine blk_alloc ?_ _)); refine blk_far ?_ NB315_339.out _; (with_reducible repeat (first | refine blk_drewN ?_ _ | refine blk_drew ?_ | refine blk_alloc ?_ _)); refine blk_far ?_ NB315_339.out _; (with_reducible repeat (first | refine blk_drewN ?_ _ | refine blk_drew ?_ | refine blk_alloc ?_ _)); refine blk_far ?_ NB315_339.out _; (with_reducible repeat (first | refine blk_drewN ?_ _ | refine blk_drew ?_ | refine blk_alloc ?_ _)); exact BK315.out))⟩; have n4_ : Aside0 (w44.heap[gb323]? = some (.cells #[.int .i64 t316, .string t317, .int .i64 t318, .int .i64 t319, .int .i64 t320, .int .i64 t321] 50 (0, 0))) := ⟨(by rw [hw]; exact (by (with_reducible repeat (first | refine blk_drewN ?_ _ | refine blk_drew ?_ | refine blk_alloc ?_ _)); refine blk_far ?_ NB323_339.out _; (with_reducible repeat (first | refine blk_drewN ?_ _ | refine blk_drew ?_ | refine blk_alloc ?_ _)); refine blk_far ?_ NB323_339.out _; (with_reducible repeat (first | refine blk_drewN ?_ _ | refine blk_drew ?_ | refine blk_alloc ?_ _)); refine blk_far ?_ NB323_339.out _; (with_reducible repeat (first | refine blk_drewN ?_ _ | refine blk_drew ?_ | refine blk_alloc ?_ _)); refine blk_far ?_ NB323_339.out _; (with_reducible repeat (first | refine blk_drewN ?_ _ | refine blk_drew ?_ | refine blk_alloc ?_ _)); refine blk_far ?_ NB323_339.out _; (with_reducible repeat (first | refine blk_drewN ?_ _ | refine blk_drew ?_ | refine blk_alloc ?_ _)); refine blk_far ?_ NB323_339.out _; (with_reducible repeat (first | refine blk_drewN ?_ _ | refine blk_drew ?_ | refine blk_alloc ?_ _)); exact BK323.out))⟩; have n5_ : Aside0 (w44.heap[gb331]? = some (.cells #[.int .i64 t324, .string t325, .int .i64 t326, .int .i64 t327, .int .i64 t328, .int .i64 t329] 50 (0, 0))) := ⟨(by rw [hw]; exact (by (with_reducible repeat (first | refine blk_drewN ?_ _ | refine blk_drew ?_ | refine blk_alloc ?_ _)); refine blk_far ?_ NB331_339.out _; (with_reducible repeat (first | refine blk_drewN ?_ _ | refine blk_drew ?_ | refine blk_alloc ?_ _)); refine blk_far ?_ NB331_339.out _; (with_reducible repeat (first | refine blk_drewN ?_ _ | refine blk_drew ?_ | refine blk_alloc ?_ _)); refine blk_far ?_ NB331_339.out _; (with_reducible repeat (first | refine blk_drewN ?_ _ | refine blk_drew ?_ | refine blk_alloc ?_ _)); refine blk_far ?_ NB331_339.out _; (with_reducible repeat (first | refine blk_drewN ?_ _ | refine blk_drew ?_ | refine blk_alloc ?_ _)); refine blk_far ?_ NB331_339.out _; (with_reducible repeat (first | refine blk_drewN ?_ _ | refine blk_drew ?_ | refine blk_alloc ?_ _)); refine blk_far ?_ NB331_339.out _; (with_reducible repeat (first | refine blk_drewN ?_ _ | refine blk_drew ?_ | refine blk_alloc ?_ _)); exact BK331.out))⟩; have n6_ : Aside0 (w44.heap[gb339]? = some (.cells #[.int .i64 t332, .string t333, .int .i64 t334, .int .i64 t335, .int .i64 t336, .int .i64 t337] 50 (0, 0))) := ⟨(by rw [hw]; exact (by (with_reducible repeat (first | refine blk_drewN ?_ _ | refine blk_drew ?_ | refine blk_alloc ?_ _)); refine blk_put (cs := #[.int .i64 t332, .string t333, .int .i64 t334, .int .i64 t335, .int .i64 t336, .int .i64 0]) ?_ 5 _ rfl; (with_reducible repeat (first | refine blk_drewN ?_ _ | refine blk_drew ?_ | refine blk_alloc ?_ _)); refine blk_put (cs := #[.int .i64 t332, .string t333, .int .i64 t334, .int .i64 t335, .int .i64 0, .int .i64 0]) ?_ 4 _ rfl; (with_reducible repeat (first | refine blk_drewN ?_ _ | refine blk_drew ?_ | refine blk_alloc ?_ _)); refine blk_put (cs := #[.int .i64 t332, .string t333, .int .i64 t334, .int .i64 0, .int .i64 0, .int .i64 0]) ?_ 3 _ rfl; (with_reducible repeat (first | refine blk_drewN ?_ _ | refine blk_drew ?_ | refine blk_alloc ?_ _)); refine blk_put (cs := #[.int .i64 t332, .string t333, .int .i64 0, .int .i64 0, .int .i64 0, .int .i64 0]) ?_ 2 _ rfl; (with_reducible repeat (first | refine blk_drewN ?_ _ | refine blk_drew ?_ | refine blk_alloc ?_ _)); refine blk_put (cs := #[.int .i64 t332, .string (⟨#[]⟩ : ByteArray), .int .i64 0, .int .i64 0, .int .i64 0, .int .i64 0]) ?_ 1 _ rfl; (with_reducible repeat (first | refine blk_drewN ?_ _ | refine blk_drew ?_ | refine blk_alloc ?_ _)); refine blk_put (cs := #[.int .i64 0, .string (⟨#[]⟩ : ByteArray), .int .i64 0, .int .i64 0, .int .i64 0, .int .i64 0]) ?_ 0 _ rfl; (with_reducible repeat (first | refine blk_drewN ?_ _ | refine blk_drew ?_ | refine blk_alloc ?_ _)); exact BK339.out))⟩; have n7_ : Aside0 (Below w1.heap.size w1 w44) := ⟨(by rw [hw]; exact (by repeat (first | (with_reducible first | exact HB.out | apply below_alloc | apply pw_below_drewN | apply below_drew1 | refine below_set ?_ GE299.out | refine below_set ?_ GE315.out | refine below_set ?_ GE323.out | refine below_set ?_ GE331.out | refine below_set ?_ GE339.out) | exact HB.out)))⟩; clear hw; clear HO302; clear HO306; clear BK299; clear BK315; clear BK323; clear BK331; clear BK339; clear HB; have HO302 := n0_; have HO306 := n1_; have BK299 := n2_; have BK315 := n3_; have BK323 := n4_; have BK331 := n5_; have BK339 := n6_; have HB := n7_; clear n0_ n1_ n2_ n3_ n4_ n5_ n6_ n7_))
 (try simp only [Act.put, List.setIfInBounds_toArray, List.set_cons_zero, List.set_cons_succ])
 go_cut [100] (fun v100 wc => ∃ (kq : Nat) (x100_12 : Bool), v100 = .bool x100_12 ∧ Aside0 (watchwordlaw5_Chains.j0 kq l0 l3 l2 t300 x100_12 = some r) ∧ Aside0 (kq ≤ k) ∧ Aside0 (Kd.R k50 50 wc w1.heap.size (fun k_ => k_ ≠ gb299 ∧ k_ ≠ gb315 ∧ k_ ≠ gb323 ∧ k_ ≠ gb331 ∧ k_ ≠ gb339) v301 t300) ∧ Aside0 (wc.heap[gb299]? = some (.cells #[.int .i64 a1_0, .string a1_1, .int .i64 a1_2, .int .i64 a1_3, .int .i64 a1_4, .int .i64 a1_5] 50 (0, 0))) ∧ Aside0 (wc.heap[gb315]? = some (.cells #[.int .i64 t308, .string t309, .int .i64 t310, .int .i64 t311, .int .i64 t312, .int .i64 t313] 50 (0, 0))) ∧ Aside0 (wc.heap[gb323]? = some (.cells #[.int .i64 t316, .string t317, .int .i64 t318, .int .i64 t319, .int .i64 t320, .int .i64 t321] 50 (0, 0))) ∧ Aside0 (wc.heap[gb331]? = some (.cells #[.int .i64 t324, .string t325, .int .i64 t326, .int .i64 t327, .int .i64 t328, .int .i64 t329] 50 (0, 0))) ∧ Aside0 (wc.heap[gb339]? = some (.cells #[.int .i64 t332, .string t333, .int .i64 t334, .int .i64 t335, .int .i64 t336, .int .i64 t337] 50 (0, 0))) ∧ Aside0 (Below w1.heap.size w1 wc))
 case first =>
  have H := HC13.out
  clear HC13
  replace H := Option.bind_eq_some_iff.mp H
  obtain ⟨t340, A450, H⟩ := H
  replace H : (if t340 = true then ((watchwordlaw0_Num.f t303).bind fun t341 => (if t341 = t307 then (if (!(t308 == t316) || (!(t309.toList == t317.toList) || (!(t310 == t318) || (!(t311 == t319) || (!(t312 == t320) || (!(t313 == t321))))))) = true then (watchwordlaw5_Chains.j0 k l0 l3 l2 t300 true) else ((watchwordlaw0_Num.f t314).bind fun t342 => (if t342 = t322 then (if (!(t324 == t332) || (!(t325.toList == t333.toList) || (!(t326 == t334) || (!(t327 == t335) || (!(t328 == t336) || (!(t329 == t337))))))) = true then (watchwordlaw5_Chains.j0 k l0 l3 l2 t300 true) else ((watchwordlaw0_Num.f t330).bind fun t343 => (if t343 = t338 then ((chain_May.f k l2).bind fun t344 => ((watchwordref1_ChainMay.f k l0).bind fun t345 => (watchwordlaw5_Chains.j0 k l0 l3 l2 t300 (t344 != t345)))) else (watchwordlaw5_Chains.j0 k l0 l3 l2 t300 true)))) else (watchwordlaw5_Chains.j0 k l0 l3 l2 t300 true)))) else (watchwordlaw5_Chains.j0 k l0 l3 l2 t300 true))) else (watchwordlaw5_Chains.j0 k l0 l3 l2 t300 true)) = some r := H
  have A45 := Aside0.mk A450
  clear A450
  by_cases c46 : t340 = true
  ·subst c46
   have H1 : ((watchwordlaw0_Num.f t303).bind fun t341 => (if t341 = t307 then (if (!(t308 == t316) || (!(t309.toList == t317.toList) || (!(t310 == t318) || (!(t311 == t319) || (!(t312 == t320) || (!(t313 == t321))))))) = true then (watchwordlaw5_Chains.j0 k l0 l3 l2 t300 true) else ((watchwordlaw0_Num.f t314).bind fun t342 => (if t342 = t322 then (if (!(t324 == t332) || (!(t325.toList == t333.toList) || (!(t326 == t334) || (!(t327 == t335) || (!(t328 == t336) || (!(t329 == t337))))))) = true then (watchwordlaw5_Chains.j0 k l0 l3 l2 t300 true) else ((watchwordlaw0_Num.f t330).bind fun t343 => (if t343 = t338 then ((chain_May.f k l2).bind fun t344 => ((watchwordref1_ChainMay.f k l0).bind fun t345 => (watchwordlaw5_Chains.j0 k l0 l3 l2 t300 (t344 != t345)))) else (watchwordlaw5_Chains.j0 k l0 l3 l2 t300 true)))) else (watchwordlaw5_Chains.j0 k l0 l3 l2 t300 true)))) else (watchwordlaw5_Chains.j0 k l0 l3 l2 t300 true))) = some r := by rw [if_pos rfl] at H; exact H
   clear H
   have H := H1
   clear H1
   replace H := Option.bind_eq_some_iff.mp H
   obtain ⟨t341, A470, H⟩ := H
   replace H : (if t341 = t307 then (if (!(t308 == t316) || (!(t309.toList == t317.toList) || (!(t310 == t318) || (!(t311 == t319) || (!(t312 == t320) || (!(t313 == t321))))))) = true then (watchwordlaw5_Chains.j0 k l0 l3 l2 t300 true) else ((watchwordlaw0_Num.f t314).bind fun t342 => (if t342 = t322 then (if (!(t324 == t332) || (!(t325.toList == t333.toList) || (!(t326 == t334) || (!(t327 == t335) || (!(t328 == t336) || (!(t329 == t337))))))) = true then (watchwordlaw5_Chains.j0 k l0 l3 l2 t300 true) else ((watchwordlaw0_Num.f t330).bind fun t343 => (if t343 = t338 then ((chain_May.f k l2).bind fun t344 => ((watchwordref1_ChainMay.f k l0).bind fun t345 => (watchwordlaw5_Chains.j0 k l0 l3 l2 t300 (t344 != t345)))) else (watchwordlaw5_Chains.j0 k l0 l3 l2 t300 true)))) else (watchwordlaw5_Chains.j0 k l0 l3 l2 t300 true)))) else (watchwordlaw5_Chains.j0 k l0 l3 l2 t300 true)) = some r := H
   have A47 := Aside0.mk A470
   clear A470
   by_cases c48 : t341 = t307
   ·rw [if_pos c48] at H
    have c48b0 : (t341 == t307) = true := beq_iff_eq.mpr c48
    have c48b1 : (t341 != t307) = false := bne_eq_false_iff_eq.mpr c48
    clear c48
    (first | rw [c48b0] | (simp only [i64_w, i32_w]; rw [c48b0]) | skip)
    by_cases c49 : (!(t308 == t316) || (!(t309.toList == t317.toList) || (!(t310 == t318) || (!(t311 == t319) || (!(t312 == t320) || (!(t313 == t321))))))) = true
    ·rw [if_pos c49] at H
     have c49b0 : (!(t308 == t316) || (!(t309.toList == t317.toList) || (!(t310 == t318) || (!(t311 == t319) || (!(t312 == t320) || (!(t313 == t321))))))) = true := c49
     clear c49
     exact absurd H (fun h_ => (by
      have hd_ : ∀ k_, watchwordlaw5_Chains.j0 k_ l0 l3 l2 t300 true = some r → False := by
       intro k_ h_
       cases k_ with
       | zero => exact absurd h_ (by simp [watchwordlaw5_Chains.j0])
       | succ k_ =>
        simp only [watchwordlaw5_Chains.j0, if_true] at h_
        exact absurd (Option.some.inj h_) (by rw [HT.out]; decide)
      exact hd_ _ h_))
    ·rw [if_neg c49] at H
     have c49b0 : (!(t308 == t316) || (!(t309.toList == t317.toList) || (!(t310 == t318) || (!(t311 == t319) || (!(t312 == t320) || (!(t313 == t321))))))) = false := by simpa using c49
     clear c49
     replace H := Option.bind_eq_some_iff.mp H
     obtain ⟨t342, A500, H⟩ := H
     replace H : (if t342 = t322 then (if (!(t324 == t332) || (!(t325.toList == t333.toList) || (!(t326 == t334) || (!(t327 == t335) || (!(t328 == t336) || (!(t329 == t337))))))) = true then (watchwordlaw5_Chains.j0 k l0 l3 l2 t300 true) else ((watchwordlaw0_Num.f t330).bind fun t343 => (if t343 = t338 then ((chain_May.f k l2).bind fun t344 => ((watchwordref1_ChainMay.f k l0).bind fun t345 => (watchwordlaw5_Chains.j0 k l0 l3 l2 t300 (t344 != t345)))) else (watchwordlaw5_Chains.j0 k l0 l3 l2 t300 true)))) else (watchwordlaw5_Chains.j0 k l0 l3 l2 t300 true)) = some r := H
     have A50 := Aside0.mk A500
     clear A500
     by_cases c51 : t342 = t322
     ·rw [if_pos c51] at H
      have c51b0 : (t342 == t322) = true := beq_iff_eq.mpr c51
      have c51b1 : (t342 != t322) = false := bne_eq_false_iff_eq.mpr c51
      clear c51
      by_cases c52 : (!(t324 == t332) || (!(t325.toList == t333.toList) || (!(t326 == t334) || (!(t327 == t335) || (!(t328 == t336) || (!(t329 == t337))))))) = true
      ·rw [if_pos c52] at H
       have c52b0 : (!(t324 == t332) || (!(t325.toList == t333.toList) || (!(t326 == t334) || (!(t327 == t335) || (!(t328 == t336) || (!(t329 == t337))))))) = true := c52
       clear c52
       exact absurd H (fun h_ => (by
        have hd_ : ∀ k_, watchwordlaw5_Chains.j0 k_ l0 l3 l2 t300 true = some r → False := by
         intro k_ h_
         cases k_ with
         | zero => exact absurd h_ (by simp [watchwordlaw5_Chains.j0])
         | succ k_ =>
          simp only [watchwordlaw5_Chains.j0, if_true] at h_
          exact absurd (Option.some.inj h_) (by rw [HT.out]; decide)
        exact hd_ _ h_))
      ·rw [if_neg c52] at H
       have c52b0 : (!(t324 == t332) || (!(t325.toList == t333.toList) || (!(t326 == t334) || (!(t327 == t335) || (!(t328 == t336) || (!(t329 == t337))))))) = false := by simpa using c52
       clear c52
       replace H := Option.bind_eq_some_iff.mp H
       obtain ⟨t343, A530, H⟩ := H
       replace H : (if t343 = t338 then ((chain_May.f k l2).bind fun t344 => ((watchwordref1_ChainMay.f k l0).bind fun t345 => (watchwordlaw5_Chains.j0 k l0 l3 l2 t300 (t344 != t345)))) else (watchwordlaw5_Chains.j0 k l0 l3 l2 t300 true)) = some r := H
       have A53 := Aside0.mk A530
       clear A530
       by_cases c54 : t343 = t338
       ·rw [if_pos c54] at H
        have c54b0 : (t343 == t338) = true := beq_iff_eq.mpr c54
        have c54b1 : (t343 != t338) = false := bne_eq_false_iff_eq.mpr c54
        clear c54
        replace H := Option.bind_eq_some_iff.mp H
        obtain ⟨t344, A550, H⟩ := H
        replace H : ((watchwordref1_ChainMay.f k l0).bind fun t345 => (watchwordlaw5_Chains.j0 k l0 l3 l2 t300 (t344 != t345))) = some r := H
        have A55 := Aside0.mk A550
        clear A550
        replace H := Option.bind_eq_some_iff.mp H
        obtain ⟨t345, A560, H⟩ := H
        replace H : (watchwordlaw5_Chains.j0 k l0 l3 l2 t300 (t344 != t345)) = some r := H
        have A56 := Aside0.mk A560
        clear A560
        have H' := Aside0.mk H
        clear H
        obtain ⟨Ao57, co57, eo57⟩ := Kd.R_slice HO302.out
        subst eo57
        obtain ⟨Ao58, co58, eo58⟩ := Kd.R_slice HO306.out
        subst eo58
        go_wp2_with (first | ((with_reducible refine gate_callee (f := 32) rfl ?_); refine goesL_ (some 64) rfl rfl Try.func32 (by kernel_rfl) rfl #[.slice Ao57 t300.length co57, .slice Ao58 t304.length co58] rfl (by (try simp only [List.map_toArray, List.map_cons, List.map_nil]); first | done | rfl | (simp only [List.length_drop, List.length_take]; rfl)) ?_; (with_reducible refine (watchwordlaw0_SameKeys.calls k _ _ t300 _ _ t304 true _ ?side1 ?side2 ?side3 ?side4 A45.out).mono ?_); (case side1 => repeat (first | exact (Kd.R_reads' HO302.out).2.2 | (with_reducible refine Kd.C_alloc ?_ _) | (with_reducible refine Kd.C_drewN ?_ _) | (with_reducible refine Kd.C_drew ?_))); (case side2 => exact (Kd.R_reads' HO302.out).2.1); (case side3 => repeat (first | exact (Kd.R_reads' HO306.out).2.2 | (with_reducible refine Kd.C_alloc ?_ _) | (with_reducible refine Kd.C_drewN ?_ _) | (with_reducible refine Kd.C_drew ?_))); (case side4 => exact (Kd.R_reads' HO306.out).2.1); rintro e w' ⟨rfl, ⟨nd, rfl⟩⟩; refine ⟨_, rfl, ?_⟩) | (go_at_call 18; (with_reducible refine (watchwordlaw0_Num.calls t303 t341 _ A47.out).mono ?_); rintro e w' ⟨rfl, ⟨nd, rfl⟩⟩; have hnb59 := NB315_299.out; have hnc59 := NB299_315.out; have hnb60 := NB315_323.out; have hnc60 := NB323_315.out; have hnb61 := NB315_331.out; have hnc61 := NB331_315.out; have hnb62 := NB315_339.out; have hnc62 := NB339_315.out; have hcz63_0 : w44.cell? ⟨gb315, 0, none⟩ = some (.int .i64 t308) := (blk_cell BK315.out 0).trans rfl; have hcz63_1 : w44.cell? ⟨gb315, 1, none⟩ = some (.string t309) := (blk_cell BK315.out 1).trans rfl; have hcz63_2 : w44.cell? ⟨gb315, 2, none⟩ = some (.int .i64 t310) := (blk_cell BK315.out 2).trans rfl; have hcz63_3 : w44.cell? ⟨gb315, 3, none⟩ = some (.int .i64 t311) := (blk_cell BK315.out 3).trans rfl; have hcz63_4 : w44.cell? ⟨gb315, 4, none⟩ = some (.int .i64 t312) := (blk_cell BK315.out 4).trans rfl; have hcz63_5 : w44.cell? ⟨gb315, 5, none⟩ = some (.int .i64 t313) := (blk_cell BK315.out 5).trans rfl; have hfz63_0 := blk_frozen BK315.out 0; have hfz63_1 := blk_frozen BK315.out 1; have hfz63_2 := blk_frozen BK315.out 2; have hfz63_3 := blk_frozen BK315.out 3; have hfz63_4 := blk_frozen BK315.out 4; have hfz63_5 := blk_frozen BK315.out 5; have hnb64 := NB323_299.out; have hnc64 := NB299_323.out; have hnb65 := NB323_331.out; have hnc65 := NB331_323.out; have hnb66 := NB323_339.out; have hnc66 := NB339_323.out; have hcz67_0 : w44.cell? ⟨gb323, 0, none⟩ = some (.int .i64 t316) := (blk_cell BK323.out 0).trans rfl; have hcz67_1 : w44.cell? ⟨gb323, 1, none⟩ = some (.string t317) := (blk_cell BK323.out 1).trans rfl; have hcz67_2 : w44.cell? ⟨gb323, 2, none⟩ = some (.int .i64 t318) := (blk_cell BK323.out 2).trans rfl; have hcz67_3 : w44.cell? ⟨gb323, 3, none⟩ = some (.int .i64 t319) := (blk_cell BK323.out 3).trans rfl; have hcz67_4 : w44.cell? ⟨gb323, 4, none⟩ = some (.int .i64 t320) := (blk_cell BK323.out 4).trans rfl; have hcz67_5 : w44.cell? ⟨gb323, 5, none⟩ = some (.int .i64 t321) := (blk_cell BK323.out 5).trans rfl; have hfz67_0 := blk_frozen BK323.out 0; have hfz67_1 := blk_frozen BK323.out 1; have hfz67_2 := blk_frozen BK323.out 2; have hfz67_3 := blk_frozen BK323.out 3; have hfz67_4 := blk_frozen BK323.out 4; have hfz67_5 := blk_frozen BK323.out 5) | (go_at_call 18; (with_reducible refine (watchwordlaw0_Num.calls t314 t342 _ A50.out).mono ?_); rintro e w' ⟨rfl, ⟨nd, rfl⟩⟩; have hnb68 := NB331_299.out; have hnc68 := NB299_331.out; have hnb69 := NB331_339.out; have hnc69 := NB339_331.out; have hcz70_0 : w44.cell? ⟨gb331, 0, none⟩ = some (.int .i64 t324) := (blk_cell BK331.out 0).trans rfl; have hcz70_1 : w44.cell? ⟨gb331, 1, none⟩ = some (.string t325) := (blk_cell BK331.out 1).trans rfl; have hcz70_2 : w44.cell? ⟨gb331, 2, none⟩ = some (.int .i64 t326) := (blk_cell BK331.out 2).trans rfl; have hcz70_3 : w44.cell? ⟨gb331, 3, none⟩ = some (.int .i64 t327) := (blk_cell BK331.out 3).trans rfl; have hcz70_4 : w44.cell? ⟨gb331, 4, none⟩ = some (.int .i64 t328) := (blk_cell BK331.out 4).trans rfl; have hcz70_5 : w44.cell? ⟨gb331, 5, none⟩ = some (.int .i64 t329) := (blk_cell BK331.out 5).trans rfl; have hfz70_0 := blk_frozen BK331.out 0; have hfz70_1 := blk_frozen BK331.out 1; have hfz70_2 := blk_frozen BK331.out 2; have hfz70_3 := blk_frozen BK331.out 3; have hfz70_4 := blk_frozen BK331.out 4; have hfz70_5 := blk_frozen BK331.out 5; have hnb71 := NB339_299.out; have hnc71 := NB299_339.out; have hcz72_0 : w44.cell? ⟨gb339, 0, none⟩ = some (.int .i64 t332) := (blk_cell BK339.out 0).trans rfl; have hcz72_1 : w44.cell? ⟨gb339, 1, none⟩ = some (.string t333) := (blk_cell BK339.out 1).trans rfl; have hcz72_2 : w44.cell? ⟨gb339, 2, none⟩ = some (.int .i64 t334) := (blk_cell BK339.out 2).trans rfl; have hcz72_3 : w44.cell? ⟨gb339, 3, none⟩ = some (.int .i64 t335) := (blk_cell BK339.out 3).trans rfl; have hcz72_4 : w44.cell? ⟨gb339, 4, none⟩ = some (.int .i64 t336) := (blk_cell BK339.out 4).trans rfl; have hcz72_5 : w44.cell? ⟨gb339, 5, none⟩ = some (.int .i64 t337) := (blk_cell BK339.out 5).trans rfl; have hfz72_0 := blk_frozen BK339.out 0; have hfz72_1 := blk_frozen BK339.out 1; have hfz72_2 := blk_frozen BK339.out 2; have hfz72_3 := blk_frozen BK339.out 3; have hfz72_4 := blk_frozen BK339.out 4; have hfz72_5 := blk_frozen BK339.out 5) | (go_at_call 18; (with_reducible refine (watchwordlaw0_Num.calls t330 t343 _ A53.out).mono ?_); rintro e w' ⟨rfl, ⟨nd, rfl⟩⟩) | (go_at_call 33; (with_reducible refine (chain_May.calls k _ _ l2 t344 _ ?side1 ?side2 A55.out).mono ?_); (case side1 => repeat (first | exact (Kd.C_below HR2.out (by repeat (first | (with_reducible first | exact HB.out | apply below_alloc | apply pw_below_drewN | apply below_drew1 | refine below_set ?_ GE299.out | refine below_set ?_ GE315.out | refine below_set ?_ GE323.out | refine below_set ?_ GE331.out | refine below_set ?_ GE339.out) | exact HB.out))) | (with_reducible refine Kd.C_alloc ?_ _) | (with_reducible refine Kd.C_drewN ?_ _) | (with_reducible refine Kd.C_drew ?_))); (case side2 => exact HC2.out); rintro e w73 ⟨rfl, hb⟩; have n0_ := Aside0.mk (Kd.R_below (by (with_reducible repeat (first | apply Kd.R_alloc | apply Kd.R_drewN | apply Kd.R_drew)); exact HO302.out) hb); have n1_ := Aside0.mk (Kd.R_below (by (with_reducible repeat (first | apply Kd.R_alloc | apply Kd.R_drewN | apply Kd.R_drew)); exact HO306.out) hb); have n2_ := Aside0.mk (blk_below (g := gb299) (o := .cells #[.int .i64 a1_0, .string a1_1, .int .i64 a1_2, .int .i64 a1_3, .int .i64 a1_4, .int .i64 a1_5] 50 (0, 0)) (by (with_reducible repeat (first | refine blk_drewN ?_ _ | refine blk_drew ?_ | refine blk_alloc ?_ _)); exact BK299.out) hb); have n3_ := Aside0.mk (blk_below (g := gb315) (o := .cells #[.int .i64 t308, .string t309, .int .i64 t310, .int .i64 t311, .int .i64 t312, .int .i64 t313] 50 (0, 0)) (by (with_reducible repeat (first | refine blk_drewN ?_ _ | refine blk_drew ?_ | refine blk_alloc ?_ _)); exact BK315.out) hb); have n4_ := Aside0.mk (blk_below (g := gb323) (o := .cells #[.int .i64 t316, .string t317, .int .i64 t318, .int .i64 t319, .int .i64 t320, .int .i64 t321] 50 (0, 0)) (by (with_reducible repeat (first | refine blk_drewN ?_ _ | refine blk_drew ?_ | refine blk_alloc ?_ _)); exact BK323.out) hb); have n5_ := Aside0.mk (blk_below (g := gb331) (o := .cells #[.int .i64 t324, .string t325, .int .i64 t326, .int .i64 t327, .int .i64 t328, .int .i64 t329] 50 (0, 0)) (by (with_reducible repeat (first | refine blk_drewN ?_ _ | refine blk_drew ?_ | refine blk_alloc ?_ _)); exact BK331.out) hb); have n6_ := Aside0.mk (blk_below (g := gb339) (o := .cells #[.int .i64 t332, .string t333, .int .i64 t334, .int .i64 t335, .int .i64 t336, .int .i64 t337] 50 (0, 0)) (by (with_reducible repeat (first | refine blk_drewN ?_ _ | refine blk_drew ?_ | refine blk_alloc ?_ _)); exact BK339.out) hb); have n7_ := Aside0.mk (below_step (by repeat (first | (with_reducible first | exact HB.out | apply below_alloc | apply pw_below_drewN | apply below_drew1 | refine below_set ?_ GE299.out | refine below_set ?_ GE315.out | refine below_set ?_ GE323.out | refine below_set ?_ GE331.out | refine below_set ?_ GE339.out) | exact HB.out)) hb); clear HO302; clear HO306; clear BK299; clear BK315; clear BK323; clear BK331; clear BK339; clear HB; have HO302 := n0_; have HO306 := n1_; have BK299 := n2_; have BK315 := n3_; have BK323 := n4_; have BK331 := n5_; have BK339 := n6_; have HB := n7_; clear n0_ n1_ n2_ n3_ n4_ n5_ n6_ n7_; (try clear hb); (try clear hb2); (try clear hk); (try clear hi)) | (go_at_call 34; (with_reducible refine (watchwordref1_ChainMay.calls k _ _ l0 t345 _ ?side1 ?side2 A56.out).mono ?_); (case side1 => repeat (first | exact (Kd.C_below HR0.out HB.out) | (with_reducible refine Kd.C_alloc ?_ _) | (with_reducible refine Kd.C_drewN ?_ _) | (with_reducible refine Kd.C_drew ?_))); (case side2 => exact HC0.out); rintro e w74 ⟨rfl, hb⟩; have n0_ := Aside0.mk (Kd.R_below (by (with_reducible repeat (first | apply Kd.R_alloc | apply Kd.R_drewN | apply Kd.R_drew)); exact HO302.out) hb); have n1_ := Aside0.mk (Kd.R_below (by (with_reducible repeat (first | apply Kd.R_alloc | apply Kd.R_drewN | apply Kd.R_drew)); exact HO306.out) hb); have n2_ := Aside0.mk (blk_below (g := gb299) (o := .cells #[.int .i64 a1_0, .string a1_1, .int .i64 a1_2, .int .i64 a1_3, .int .i64 a1_4, .int .i64 a1_5] 50 (0, 0)) (by (with_reducible repeat (first | refine blk_drewN ?_ _ | refine blk_drew ?_ | refine blk_alloc ?_ _)); exact BK299.out) hb); have n3_ := Aside0.mk (blk_below (g := gb315) (o := .cells #[.int .i64 t308, .string t309, .int .i64 t310, .int .i64 t311, .int .i64 t312, .int .i64 t313] 50 (0, 0)) (by (with_reducible repeat (first | refine blk_drewN ?_ _ | refine blk_drew ?_ | refine blk_alloc ?_ _)); exact BK315.out) hb); have n4_ := Aside0.mk (blk_below (g := gb323) (o := .cells #[.int .i64 t316, .string t317, .int .i64 t318, .int .i64 t319, .int .i64 t320, .int .i64 t321] 50 (0, 0)) (by (with_reducible repeat (first | refine blk_drewN ?_ _ | refine blk_drew ?_ | refine blk_alloc ?_ _)); exact BK323.out) hb); have n5_ := Aside0.mk (blk_below (g := gb331) (o := .cells #[.int .i64 t324, .string t325, .int .i64 t326, .int .i64 t327, .int .i64 t328, .int .i64 t329] 50 (0, 0)) (by (with_reducible repeat (first | refine blk_drewN ?_ _ | refine blk_drew ?_ | refine blk_alloc ?_ _)); exact BK331.out) hb); have n6_ := Aside0.mk (blk_below (g := gb339) (o := .cells #[.int .i64 t332, .string t333, .int .i64 t334, .int .i64 t335, .int .i64 t336, .int .i64 t337] 50 (0, 0)) (by (with_reducible repeat (first | refine blk_drewN ?_ _ | refine blk_drew ?_ | refine blk_alloc ?_ _)); exact BK339.out) hb); have n7_ := Aside0.mk (below_step (by repeat (first | (with_reducible first | exact HB.out | apply below_alloc | apply pw_below_drewN | apply below_drew1 | refine below_set ?_ GE299.out | refine below_set ?_ GE315.out | refine below_set ?_ GE323.out | refine below_set ?_ GE331.out | refine below_set ?_ GE339.out) | exact HB.out)) hb); clear HO302; clear HO306; clear BK299; clear BK315; clear BK323; clear BK331; clear BK339; clear HB; have HO302 := n0_; have HO306 := n1_; have BK299 := n2_; have BK315 := n3_; have BK323 := n4_; have BK331 := n5_; have BK339 := n6_; have HB := n7_; clear n0_ n1_ n2_ n3_ n4_ n5_ n6_ n7_; (try clear hb); (try clear hb2); (try clear hk); (try clear hi)))
        go_meet
        case rel => exact ⟨_, ((t344 != t345)), (by first | rfl | (simp; done) | (simp [*]; done)), H', ⟨by first | omega | exact Nat.le_refl _⟩, ⟨by (with_reducible repeat (first | apply Kd.R_alloc | apply Kd.R_drewN | apply Kd.R_drew)); exact Kd.R_mono HO302.out (fun _ hk => ⟨hk.2.1, ⟨hk.2.2.1, ⟨hk.2.2.2.1, ⟨hk.2.2.2.2.1, hk.2.2.2.2.2⟩⟩⟩⟩)⟩, ⟨by (with_reducible repeat (first | refine blk_drewN ?_ _ | refine blk_drew ?_ | refine blk_alloc ?_ _)); exact BK299.out⟩, ⟨by (with_reducible repeat (first | refine blk_drewN ?_ _ | refine blk_drew ?_ | refine blk_alloc ?_ _)); exact BK315.out⟩, ⟨by (with_reducible repeat (first | refine blk_drewN ?_ _ | refine blk_drew ?_ | refine blk_alloc ?_ _)); exact BK323.out⟩, ⟨by (with_reducible repeat (first | refine blk_drewN ?_ _ | refine blk_drew ?_ | refine blk_alloc ?_ _)); exact BK331.out⟩, ⟨by (with_reducible repeat (first | refine blk_drewN ?_ _ | refine blk_drew ?_ | refine blk_alloc ?_ _)); exact BK339.out⟩, ⟨by repeat (first | (with_reducible first | exact HB.out | apply below_alloc | apply pw_below_drewN | apply below_drew1 | refine below_set ?_ GE299.out | refine below_set ?_ GE315.out | refine below_set ?_ GE323.out | refine below_set ?_ GE331.out | refine below_set ?_ GE339.out) | exact HB.out)⟩⟩
       ·rw [if_neg c54] at H
        have c54b0 : (t343 == t338) = false := beq_eq_false_iff_ne.mpr c54
        have c54b1 : (t343 != t338) = true := bne_iff_ne.mpr c54
        exact absurd H (fun h_ => (by
         have hd_ : ∀ k_, watchwordlaw5_Chains.j0 k_ l0 l3 l2 t300 true = some r → False := by
          intro k_ h_
          cases k_ with
          | zero => exact absurd h_ (by simp [watchwordlaw5_Chains.j0])
          | succ k_ =>
           simp only [watchwordlaw5_Chains.j0, if_true] at h_
           exact absurd (Option.some.inj h_) (by rw [HT.out]; decide)
         exact hd_ _ h_))
     ·rw [if_neg c51] at H
      have c51b0 : (t342 == t322) = false := beq_eq_false_iff_ne.mpr c51
      have c51b1 : (t342 != t322) = true := bne_iff_ne.mpr c51
      exact absurd H (fun h_ => (by
       have hd_ : ∀ k_, watchwordlaw5_Chains.j0 k_ l0 l3 l2 t300 true = some r → False := by
        intro k_ h_
        cases k_ with
        | zero => exact absurd h_ (by simp [watchwordlaw5_Chains.j0])
        | succ k_ =>
         simp only [watchwordlaw5_Chains.j0, if_true] at h_
         exact absurd (Option.some.inj h_) (by rw [HT.out]; decide)
       exact hd_ _ h_))
   ·rw [if_neg c48] at H
    have c48b0 : (t341 == t307) = false := beq_eq_false_iff_ne.mpr c48
    have c48b1 : (t341 != t307) = true := bne_iff_ne.mpr c48
    (first | rw [c48b0] | (simp only [i64_w, i32_w]; rw [c48b0]) | skip)
    exact absurd H (fun h_ => (by
     have hd_ : ∀ k_, watchwordlaw5_Chains.j0 k_ l0 l3 l2 t300 true = some r → False := by
      intro k_ h_
      cases k_ with
      | zero => exact absurd h_ (by simp [watchwordlaw5_Chains.j0])
      | succ k_ =>
       simp only [watchwordlaw5_Chains.j0, if_true] at h_
       exact absurd (Option.some.inj h_) (by rw [HT.out]; decide)
     exact hd_ _ h_))
  ·replace c46 := Bool.eq_false_iff.mpr c46
   subst c46
   have H1 : (watchwordlaw5_Chains.j0 k l0 l3 l2 t300 true) = some r := by rw [if_neg (show ¬ (false = true) by decide)] at H; exact H
   clear H
   have H := H1
   clear H1
   exact absurd H (fun h_ => (by
    have hd_ : ∀ k_, watchwordlaw5_Chains.j0 k_ l0 l3 l2 t300 true = some r → False := by
     intro k_ h_
     cases k_ with
     | zero => exact absurd h_ (by simp [watchwordlaw5_Chains.j0])
     | succ k_ =>
      simp only [watchwordlaw5_Chains.j0, if_true] at h_
      exact absurd (Option.some.inj h_) (by rw [HT.out]; decide)
    exact hd_ _ h_))
 case rest =>
  clear HC13
  try clear p2
  try clear c2
  try clear c2
  try clear c6
  try clear c7
  try clear c8
  try clear c21
  try clear c26
  try clear c27
  try clear c28
  try clear c29
  try clear c30
  try clear c31
  try clear c32
  try clear c33
  try clear c34
  try clear c39
  try clear c40
  try clear c41
  try clear c42
  try clear c46
  try clear c48
  try clear c48b0
  try clear c48b1
  try clear c49
  try clear c49b0
  try clear c51
  try clear c51b0
  try clear c51b1
  try clear c52
  try clear c52b0
  try clear c54
  try clear c54b0
  try clear c54b1
  try clear c59
  try clear c60
  try clear c61
  try clear c62
  try clear c64
  try clear c65
  try clear c66
  try clear c68
  try clear c69
  try clear c71
  try clear hcz15_0
  try clear hcz15_1
  try clear hcz15_2
  try clear hcz15_3
  try clear hcz15_4
  try clear hcz15_5
  try clear hcz17_0
  try clear hcz17_1
  try clear hcz17_2
  try clear hcz17_3
  try clear hcz17_4
  try clear hcz17_5
  try clear hcz22_0
  try clear hcz22_1
  try clear hcz22_2
  try clear hcz22_3
  try clear hcz22_4
  try clear hcz22_5
  try clear hcz28_0
  try clear hcz28_1
  try clear hcz28_2
  try clear hcz28_3
  try clear hcz28_4
  try clear hcz28_5
  try clear hcz35_0
  try clear hcz35_1
  try clear hcz35_2
  try clear hcz35_3
  try clear hcz35_4
  try clear hcz35_5
  try clear hcz43_0
  try clear hcz43_1
  try clear hcz43_2
  try clear hcz43_3
  try clear hcz43_4
  try clear hcz43_5
  try clear hcz63_0
  try clear hcz63_1
  try clear hcz63_2
  try clear hcz63_3
  try clear hcz63_4
  try clear hcz63_5
  try clear hcz67_0
  try clear hcz67_1
  try clear hcz67_2
  try clear hcz67_3
  try clear hcz67_4
  try clear hcz67_5
  try clear hcz70_0
  try clear hcz70_1
  try clear hcz70_2
  try clear hcz70_3
  try clear hcz70_4
  try clear hcz70_5
  try clear hcz72_0
  try clear hcz72_1
  try clear hcz72_2
  try clear hcz72_3
  try clear hcz72_4
  try clear hcz72_5
  try clear hfz15_0
  try clear hfz15_1
  try clear hfz15_2
  try clear hfz15_3
  try clear hfz15_4
  try clear hfz15_5
  try clear hfz17_0
  try clear hfz17_1
  try clear hfz17_2
  try clear hfz17_3
  try clear hfz17_4
  try clear hfz17_5
  try clear hfz22_0
  try clear hfz22_1
  try clear hfz22_2
  try clear hfz22_3
  try clear hfz22_4
  try clear hfz22_5
  try clear hfz28_0
  try clear hfz28_1
  try clear hfz28_2
  try clear hfz28_3
  try clear hfz28_4
  try clear hfz28_5
  try clear hfz35_0
  try clear hfz35_1
  try clear hfz35_2
  try clear hfz35_3
  try clear hfz35_4
  try clear hfz35_5
  try clear hfz43_0
  try clear hfz43_1
  try clear hfz43_2
  try clear hfz43_3
  try clear hfz43_4
  try clear hfz43_5
  try clear hfz63_0
  try clear hfz63_1
  try clear hfz63_2
  try clear hfz63_3
  try clear hfz63_4
  try clear hfz63_5
  try clear hfz67_0
  try clear hfz67_1
  try clear hfz67_2
  try clear hfz67_3
  try clear hfz67_4
  try clear hfz67_5
  try clear hfz70_0
  try clear hfz70_1
  try clear hfz70_2
  try clear hfz70_3
  try clear hfz70_4
  try clear hfz70_5
  try clear hfz72_0
  try clear hfz72_1
  try clear hfz72_2
  try clear hfz72_3
  try clear hfz72_4
  try clear hfz72_5
  obtain ⟨kq, x100_12, rfl, HA, HJ12, HO_10, BK299, BK315, BK323, BK331, BK339, HB⟩ := hcut
  cases kq with
  | zero => exact absurd HA.out (by simp [watchwordlaw5_Chains.j0])
  | succ kj12 =>
   have H := HA.out
   clear HA
   simp only [watchwordlaw5_Chains.j0] at H
   by_cases c75 : x100_12 = true
   ·subst c75
    have H1 : (some false) = some r := by rw [if_pos rfl] at H; exact H
    clear H
    have H := H1
    clear H1
    exact absurd (Option.some.inj H) (by rw [HT.out]; decide)
   ·replace c75 := Bool.eq_false_iff.mpr c75
    subst c75
    have H1 : ((watchwordlaw0_SpoilKeys.f kj12 t300).bind fun t346 => ((watchwordlaw0_KeptKeys.f kj12 l2 l0 l3).bind fun t347 => (if t347 = true then ((watchwordlaw5_awake.f kj12).bind fun t348 => (some t348)) else (some false)))) = some r := by rw [if_neg (show ¬ (false = true) by decide)] at H; exact H
    clear H
    have H := H1
    clear H1
    replace H := Option.bind_eq_some_iff.mp H
    obtain ⟨t346, A760, H⟩ := H
    replace H : ((watchwordlaw0_KeptKeys.f kj12 l2 l0 l3).bind fun t347 => (if t347 = true then ((watchwordlaw5_awake.f kj12).bind fun t348 => (some t348)) else (some false))) = some r := H
    have A76 := Aside0.mk A760
    clear A760
    replace H := Option.bind_eq_some_iff.mp H
    obtain ⟨t347, A770, H⟩ := H
    replace H : (if t347 = true then ((watchwordlaw5_awake.f kj12).bind fun t348 => (some t348)) else (some false)) = some r := H
    have A77 := Aside0.mk A770
    clear A770
    by_cases c78 : t347 = true
    ·subst c78
     have H1 : ((watchwordlaw5_awake.f kj12).bind fun t348 => (some t348)) = some r := by rw [if_pos rfl] at H; exact H
     clear H
     have H := H1
     clear H1
     replace H := Option.bind_eq_some_iff.mp H
     obtain ⟨t348, A790, H⟩ := H
     replace H : (some t348) = some r := H
     have A79 := Aside0.mk A790
     clear A790
     obtain rfl := Option.some.inj H
     obtain ⟨Ao80, co80, eo80⟩ := Kd.R_slice HO_10.out
     subst eo80
     go_wp2_with (first | ((with_reducible refine gate_callee (f := 35) rfl ?_); refine goesL_ (some 102) rfl rfl Try.func35 (by kernel_rfl) rfl #[.slice Ao80 t300.length co80] rfl (by (try simp only [List.map_toArray, List.map_cons, List.map_nil]); first | done | rfl | (simp only [List.length_drop, List.length_take]; rfl)) ?_; (with_reducible refine (watchwordlaw0_SpoilKeys.calls kj12 (fun k_ => some k_ = (.slice Ao80 t300.length co80 : Value).ownBlock) (.slice Ao80 t300.length co80) t300 t346 w1 _ ?side1 ?side2 A76.out).mono ?_); (case side1 => repeat (first | (with_reducible first | exact HB.out | apply below_alloc | apply pw_below_drewN | apply below_drew1 | refine below_set ?_ GE299.out | refine below_set ?_ GE315.out | refine below_set ?_ GE323.out | refine below_set ?_ GE331.out | refine below_set ?_ GE339.out) | exact HB.out)); (case side2 => exact Kd.R_tight rfl HO_10.out); rintro e w81 ⟨rfl, hy0, hb, hkp⟩; refine ⟨_, rfl, ?_⟩; have n0_ := Aside0.mk (Kd.R_reok rfl hy0 (fun k_ e_ => HO_10.out.1 k_ e_)); have n1_ := Aside0.mk (blk_kept (by (with_reducible repeat (first | refine blk_drewN ?_ _ | refine blk_drew ?_ | refine blk_alloc ?_ _)); exact BK299.out) hkp (fun hs_ => (fun e_ => (Kd.R_away HO_10.out (fun _ hk => hk.1)) e_) hs_)); have n2_ := Aside0.mk (blk_kept (by (with_reducible repeat (first | refine blk_drewN ?_ _ | refine blk_drew ?_ | refine blk_alloc ?_ _)); exact BK315.out) hkp (fun hs_ => (fun e_ => (Kd.R_away HO_10.out (fun _ hk => hk.2.1)) e_) hs_)); have n3_ := Aside0.mk (blk_kept (by (with_reducible repeat (first | refine blk_drewN ?_ _ | refine blk_drew ?_ | refine blk_alloc ?_ _)); exact BK323.out) hkp (fun hs_ => (fun e_ => (Kd.R_away HO_10.out (fun _ hk => hk.2.2.1)) e_) hs_)); have n4_ := Aside0.mk (blk_kept (by (with_reducible repeat (first | refine blk_drewN ?_ _ | refine blk_drew ?_ | refine blk_alloc ?_ _)); exact BK331.out) hkp (fun hs_ => (fun e_ => (Kd.R_away HO_10.out (fun _ hk => hk.2.2.2.1)) e_) hs_)); have n5_ := Aside0.mk (blk_kept (by (with_reducible repeat (first | refine blk_drewN ?_ _ | refine blk_drew ?_ | refine blk_alloc ?_ _)); exact BK339.out) hkp (fun hs_ => (fun e_ => (Kd.R_away HO_10.out (fun _ hk => hk.2.2.2.2)) e_) hs_)); have n6_ := Aside0.mk (hb); clear HO_10; clear BK299; clear BK315; clear BK323; clear BK331; clear BK339; clear HB; have HO_10 := n0_; have BK299 := n1_; have BK315 := n2_; have BK323 := n3_; have BK331 := n4_; have BK339 := n5_; have HB := n6_; clear n0_ n1_ n2_ n3_ n4_ n5_ n6_; (try clear hb); (try clear hkp); (try clear hy0)) | ((with_reducible refine gate_callee (f := 36) rfl ?_); refine goesL_ (some 105) rfl rfl Try.func36 (by kernel_rfl) rfl #[.slice A2 l2.length c2, .slice A0 l0.length c0] rfl (by (try simp only [List.map_toArray, List.map_cons, List.map_nil]); first | done | rfl | (simp only [List.length_drop, List.length_take]; rfl)) ?_; (with_reducible refine (watchwordlaw0_KeptKeys.kept kj12 _ _ l2 _ _ l0 _ _ l3 true _ ?side1 ?side2 ?side3 ?side4 ?side5 ?side6 A77.out rfl rfl HN_.out HS_.out).mono ?_); (case side1 => repeat (first | exact (Kd.C_below HR2.out HB.out) | (with_reducible refine Kd.C_alloc ?_ _) | (with_reducible refine Kd.C_drewN ?_ _) | (with_reducible refine Kd.C_drew ?_))); (case side2 => exact HC2.out); (case side3 => repeat (first | exact (Kd.C_below HR0.out HB.out) | (with_reducible refine Kd.C_alloc ?_ _) | (with_reducible refine Kd.C_drewN ?_ _) | (with_reducible refine Kd.C_drew ?_))); (case side4 => exact HC0.out); (case side5 => repeat (first | exact (Kd.C_below HR3.out HB.out) | (with_reducible refine Kd.C_alloc ?_ _) | (with_reducible refine Kd.C_drewN ?_ _) | (with_reducible refine Kd.C_drew ?_))); (case side6 => exact HC3.out); rintro e w' ⟨rfl, ⟨nd, rfl⟩⟩; refine ⟨_, rfl, ?_⟩) | (go_at_call 37; (with_reducible refine (watchwordlaw5_awake.calls kj12  t348 _ A79.out (by first | rfl | exact HT.out)).mono ?_); rintro e w82 ⟨rfl, hb⟩; have n0_ := Aside0.mk (Kd.R_below (by (with_reducible repeat (first | apply Kd.R_alloc | apply Kd.R_drewN | apply Kd.R_drew)); exact HO_10.out) hb); have n1_ := Aside0.mk (blk_below (g := gb299) (o := .cells #[.int .i64 a1_0, .string a1_1, .int .i64 a1_2, .int .i64 a1_3, .int .i64 a1_4, .int .i64 a1_5] 50 (0, 0)) (by (with_reducible repeat (first | refine blk_drewN ?_ _ | refine blk_drew ?_ | refine blk_alloc ?_ _)); exact BK299.out) hb); have n2_ := Aside0.mk (blk_below (g := gb315) (o := .cells #[.int .i64 t308, .string t309, .int .i64 t310, .int .i64 t311, .int .i64 t312, .int .i64 t313] 50 (0, 0)) (by (with_reducible repeat (first | refine blk_drewN ?_ _ | refine blk_drew ?_ | refine blk_alloc ?_ _)); exact BK315.out) hb); have n3_ := Aside0.mk (blk_below (g := gb323) (o := .cells #[.int .i64 t316, .string t317, .int .i64 t318, .int .i64 t319, .int .i64 t320, .int .i64 t321] 50 (0, 0)) (by (with_reducible repeat (first | refine blk_drewN ?_ _ | refine blk_drew ?_ | refine blk_alloc ?_ _)); exact BK323.out) hb); have n4_ := Aside0.mk (blk_below (g := gb331) (o := .cells #[.int .i64 t324, .string t325, .int .i64 t326, .int .i64 t327, .int .i64 t328, .int .i64 t329] 50 (0, 0)) (by (with_reducible repeat (first | refine blk_drewN ?_ _ | refine blk_drew ?_ | refine blk_alloc ?_ _)); exact BK331.out) hb); have n5_ := Aside0.mk (blk_below (g := gb339) (o := .cells #[.int .i64 t332, .string t333, .int .i64 t334, .int .i64 t335, .int .i64 t336, .int .i64 t337] 50 (0, 0)) (by (with_reducible repeat (first | refine blk_drewN ?_ _ | refine blk_drew ?_ | refine blk_alloc ?_ _)); exact BK339.out) hb); have n6_ := Aside0.mk (below_step (by repeat (first | (with_reducible first | exact HB.out | apply below_alloc | apply pw_below_drewN | apply below_drew1 | refine below_set ?_ GE299.out | refine below_set ?_ GE315.out | refine below_set ?_ GE323.out | refine below_set ?_ GE331.out | refine below_set ?_ GE339.out) | exact HB.out)) hb); clear HO_10; clear BK299; clear BK315; clear BK323; clear BK331; clear BK339; clear HB; have HO_10 := n0_; have BK299 := n1_; have BK315 := n2_; have BK323 := n3_; have BK331 := n4_; have BK339 := n5_; have HB := n6_; clear n0_ n1_ n2_ n3_ n4_ n5_ n6_; (try clear hb); (try clear hb2); (try clear hk); (try clear hi)))
     go_ret
     exact ⟨by first | rfl | (simp [errW_none, errW_some] <;> rfl) | (simp [*, errW_none, errW_some] <;> rfl), below_step HB0.out (by repeat (first | (with_reducible first | exact HB.out | apply below_alloc | apply pw_below_drewN | apply below_drew1 | refine below_set ?_ GE299.out | refine below_set ?_ GE315.out | refine below_set ?_ GE323.out | refine below_set ?_ GE331.out | refine below_set ?_ GE339.out) | exact HB.out))⟩
    ·replace c78 := Bool.eq_false_iff.mpr c78
     subst c78
     have H1 : (some false) = some r := by rw [if_neg (show ¬ (false = true) by decide)] at H; exact H
     clear H
     have H := H1
     clear H1
     exact absurd (Option.some.inj H) (by rw [HT.out]; decide)

/-- What the law comes to. -/
def watchwordlaw5_Chains.f (k : Nat) (l0 : List (S50)) (a1_0 : Int) (a1_1 : ByteArray) (a1_2 : Int) (a1_3 : Int) (a1_4 : Int) (a1_5 : Int) (a2 : Int) (a3 : Int) : Option Bool := if l0.length ≤ 2513169434900 then watchwordlaw5_Chains.g k l0 a1_0 a1_1 a1_2 a1_3 a1_4 a1_5 a2 a3 l0 (l0 ++ [(⟨77777, ⟨#[]⟩, 0, 0, 0, 0⟩ : S50), (⟨77777, ⟨#[]⟩, 0, 0, 0, 0⟩ : S50)]) else none
theorem watchwordlaw5_Chains.copy {l0 : List S50} (hs : l0.length ≤ 2513169434900) : watchwordlaw0_CopyKeys.f l0 = some l0 := by
  unfold watchwordlaw0_CopyKeys.f
  simp only [Option.bind_some, List.length_nil, List.nil_append]
  rw [if_pos (by omega)]
theorem watchwordlaw5_Chains.lend {l0 : List S50} (hs : l0.length ≤ 2513169434900) : watchwordlaw0_LendKeys.f l0 = some l0 := by
  unfold watchwordlaw0_LendKeys.f
  simp only [watchwordlaw5_Chains.copy hs, Option.bind_some]
  rw [if_pos (by simp only [List.length_cons, List.length_nil]; omega), if_pos (by omega), if_pos (by rw [List.length_append]; omega), Int.toNat_natCast, List.take_left]
theorem watchwordlaw5_Chains.calls (k : Nat) (A0 : Option Addr) (c0 : Nat) (l0 : List (S50)) (a1_0 : Int) (a1_1 : ByteArray) (a1_2 : Int) (a1_3 : Int) (a1_4 : Int) (a1_5 : Int) (a2 : Int) (a3 : Int) (r : Bool) (w : World) (hr0 : Kd.C k50 w A0 l0.length l0) (hc0 : l0.length ≤ c0) (h : watchwordlaw5_Chains.f k l0 a1_0 a1_1 a1_2 a1_3 a1_4 a1_5 a2 a3 = some r) (hT : r = true) :
    Calls Try.prog 8 #[.slice A0 l0.length c0, .agg #[.int .i64 a1_0, .string a1_1, .int .i64 a1_2, .int .i64 a1_3, .int .i64 a1_4, .int .i64 a1_5], .int .i64 a2, .int .i64 a3] w fun e w' => e = .returned (.bool r) ∧ Below w.heap.size w w' := by
  unfold watchwordlaw5_Chains.f at h
  by_cases hs : l0.length ≤ 2513169434900
  · rw [if_pos hs] at h
    exact watchwordlaw5_Chains.walk k A0 c0 l0 a1_0 a1_1 a1_2 a1_3 a1_4 a1_5 a2 a3 l0 (l0 ++ [(⟨77777, ⟨#[]⟩, 0, 0, 0, 0⟩ : S50), (⟨77777, ⟨#[]⟩, 0, 0, 0, 0⟩ : S50)]) r w hr0 hc0 (watchwordlaw5_Chains.lend hs) (fun t_ h_ => by rw [watchwordlaw5_Chains.copy hs] at h_; rw [Option.some.inj h_]) (by rw [List.length_append]; rfl) (by omega) (by rw [List.length_append]; omega) h hT
  · rw [if_neg hs] at h; cases h

end Go.Proofs.Ytabjambabnbmnaa.Q5
namespace Go.Proofs.Ytabjambabnbmnaa.Base
open Go.RowKit Go.Proofs.YtabjambabnbmnaaW.PrintWords Go.Proofs.YtabjambabnbmnaaW.PrintLast Go.Proofs.YtabjambabnbmnaaW.PrintMore
set_option linter.unusedVariables false

/-! ### Texts as_ lists of numbers -/
def B (s : ByteArray) : List Int := s.data.toList.map fun b => (b.toNat : Int)
def Byt (l : List Int) : Prop := ∀ x ∈ l, 0 ≤ x ∧ x < 256
theorem B_len (s : ByteArray) : (B s).length = s.size := by simp [B]
theorem B_byt (s : ByteArray) : Byt (B s) := by
  intro x hx
  simp only [B, List.mem_map] at hx
  obtain ⟨b, _, rfl⟩ := hx
  have := b.toNat_lt
  omega
theorem map_toNat_inj : ∀ {l l' : List UInt8}, l.map (fun b => (b.toNat : Int)) = l'.map (fun b => (b.toNat : Int)) → l = l'
  | [], [], _ => rfl
  | [], _ :: _, h => by simp at h
  | _ :: _, [], h => by simp at h
  | a :: l, b :: l', h => by
    simp only [List.map_cons, List.cons.injEq] at h
    obtain ⟨h1, h2⟩ := h
    have : a = b := UInt8.toNat_inj.mp (by exact_mod_cast h1)
    rw [this, map_toNat_inj h2]
theorem B_inj {s t : ByteArray} (h : B s = B t) : s = t := by
  have := map_toNat_inj h
  cases s; cases t
  simp only [ByteArray.mk.injEq]
  exact Array.toList_inj.mp this
theorem toList_iff (s t : ByteArray) : s.toList = t.toList ↔ B s = B t := by
  rw [Lib.toList_data, Lib.toList_data]
  constructor
  · intro h; simp only [B, h]
  · exact map_toNat_inj
theorem toList_iff_lit (s : ByteArray) (l : List UInt8) : s.toList = l ↔ B s = l.map (fun b => (b.toNat : Int)) := by
  rw [Lib.toList_data]
  constructor
  · intro h; simp only [B, h]
  · exact map_toNat_inj
theorem B_append (s t : ByteArray) : B (s ++ t) = B s ++ B t := by simp [B, ByteArray.data_append]
theorem B_mk (a : Array UInt8) : B ⟨a⟩ = a.toList.map (fun b => (b.toNat : Int)) := rfl
theorem B_strOf {l : List Int} (h : Byt l) : B (strOfNums l) = l := by
  unfold B strOfNums
  simp only [List.map_map]
  conv => rhs; rw [← List.map_id l]
  apply List.map_congr_left
  intro x hx
  obtain ⟨h0, h1⟩ := h x hx
  simp only [Function.comp, id, UInt8.toNat_ofNat']
  omega
theorem strOf_B (s : ByteArray) : strOfNums (B s) = s := B_inj (B_strOf (B_byt s))
theorem strOf_size (l : List Int) : (strOfNums l).size = l.length := by show (Array.size _) = _; simp
theorem strOf_append (l l' : List Int) : strOfNums l ++ strOfNums l' = strOfNums (l ++ l') := by
  have : (strOfNums l ++ strOfNums l').data = (strOfNums (l ++ l')).data := by simp [strOfNums, ByteArray.data_append]
  exact ByteArray.ext this
theorem B_extract (s : ByteArray) (a b : Nat) : B (s.extract a b) = ((B s).drop a).take (b - a) := by
  unfold B
  rw [Lib.extract_data, List.map_take, List.map_drop]
theorem bt_B (s : ByteArray) (i : Int) : bt s i = (B s).getD i.toNat 0 := by
  unfold bt B
  split
  · rename_i h
    rw [List.getD_eq_getElem?_getD, List.getElem?_map]
    have : i.toNat < s.data.toList.length := by simpa using h
    rw [List.getElem?_eq_getElem this]
    rfl
  · rename_i h
    rw [List.getD_eq_getElem?_getD, List.getElem?_map]
    have : s.data.toList.length ≤ i.toNat := by simp only [Array.length_toList]; have : s.size = s.data.size := rfl; omega
    rw [List.getElem?_eq_none this]
    rfl
theorem byt_mod (x : Int) : 0 ≤ x % 256 ∧ x % 256 < 256 := by omega
theorem byt_nil : Byt [] := fun _ h => by cases h
theorem byt_cons {x : Int} {l : List Int} (h : 0 ≤ x ∧ x < 256) (hl : Byt l) : Byt (x :: l) := by
  intro y hy
  rcases List.mem_cons.mp hy with rfl | hy
  · exact h
  · exact hl y hy
theorem byt_append {l l' : List Int} (h : Byt l) (h' : Byt l') : Byt (l ++ l') := by
  intro y hy
  rcases List.mem_append.mp hy with hy | hy
  · exact h y hy
  · exact h' y hy
theorem byt_take {l : List Int} (n : Nat) (h : Byt l) : Byt (l.take n) := fun y hy => h y (List.mem_of_mem_take hy)
theorem byt_drop {l : List Int} (n : Nat) (h : Byt l) : Byt (l.drop n) := fun y hy => h y (List.mem_of_mem_drop hy)

/-! ### Numbers in bytes -/
def e1 (x : Int) : List Int := [x % 256]
def e2 (x : Int) : List Int := [x / 256 % 256, x % 256]
def e4 (x : Int) : List Int := [x / 16777216 % 256, x / 65536 % 256, x / 256 % 256, x % 256]
theorem e1_byt (x : Int) : Byt (e1 x) := byt_cons (byt_mod _) byt_nil
theorem e2_byt (x : Int) : Byt (e2 x) := byt_cons (byt_mod _) (byt_cons (byt_mod _) byt_nil)
theorem e4_byt (x : Int) : Byt (e4 x) := byt_cons (byt_mod _) (byt_cons (byt_mod _) (byt_cons (byt_mod _) (byt_cons (byt_mod _) byt_nil)))
theorem e1_len (x : Int) : (e1 x).length = 1 := rfl
theorem e2_len (x : Int) : (e2 x).length = 2 := rfl
theorem e4_len (x : Int) : (e4 x).length = 4 := rfl
def num (l : List Int) : Int := l.foldl (fun a b => a * 256 + b) 0
theorem num_two (a b : Int) : num [a, b] = a * 256 + b := by simp [num]
theorem num_four (a b c d : Int) : num [a, b, c, d] = a * 16777216 + b * 65536 + c * 256 + d := by simp [num]; omega
theorem num_e2 {x : Int} (h0 : 0 ≤ x) (h1 : x < 65536) : num (e2 x) = x := by unfold e2; rw [num_two]; omega
theorem num_e4 {x : Int} (h0 : 0 ≤ x) (h1 : x < 4294967296) : num (e4 x) = x := by unfold e4; rw [num_four]; omega
theorem e2_num {a b : Int} (ha : 0 ≤ a ∧ a < 256) (hb : 0 ≤ b ∧ b < 256) : e2 (num [a, b]) = [a, b] := by
  rw [num_two]; unfold e2
  simp only [List.cons.injEq, and_true]
  omega
theorem e4_num {a b c d : Int} (ha : 0 ≤ a ∧ a < 256) (hb : 0 ≤ b ∧ b < 256) (hc : 0 ≤ c ∧ c < 256) (hd : 0 ≤ d ∧ d < 256) : e4 (num [a, b, c, d]) = [a, b, c, d] := by
  rw [num_four]; unfold e4
  simp only [List.cons.injEq, and_true]
  omega
theorem num_two_range {a b : Int} (ha : 0 ≤ a ∧ a < 256) (hb : 0 ≤ b ∧ b < 256) : 0 ≤ num [a, b] ∧ num [a, b] < 65536 := by rw [num_two]; omega
theorem num_four_range {a b c d : Int} (ha : 0 ≤ a ∧ a < 256) (hb : 0 ≤ b ∧ b < 256) (hc : 0 ≤ c ∧ c < 256) (hd : 0 ≤ d ∧ d < 256) : 0 ≤ num [a, b, c, d] ∧ num [a, b, c, d] < 4294967296 := by rw [num_four]; omega
theorem e2_inj {x y : Int} (hx : 0 ≤ x ∧ x < 65536) (hy : 0 ≤ y ∧ y < 65536) (h : e2 x = e2 y) : x = y := by
  have := congrArg num h
  rwa [num_e2 hx.1 hx.2, num_e2 hy.1 hy.2] at this
theorem e4_inj {x y : Int} (hx : 0 ≤ x ∧ x < 4294967296) (hy : 0 ≤ y ∧ y < 4294967296) (h : e4 x = e4 y) : x = y := by
  have := congrArg num h
  rwa [num_e4 hx.1 hx.2, num_e4 hy.1 hy.2] at this

/-! ### Bits -/
theorem wrap_id {x : Int} (h0 : -9223372036854775808 ≤ x) (h1 : x ≤ 9223372036854775807) : wrap64 x = x := by unfold wrap64; omega
theorem wraps_i64 (n : Int) (h₀ : 0 ≤ n) (h₁ : n < 2 ^ 63) : IntKind.i64.wrap n = n := by rw [IntKind.wrap_i64]; omega
theorem or_byte {x y : Int} (hx₀ : 0 ≤ x) (hx₁ : x < 9223372036854775808) (hx : x % 256 = 0) (h₀ : 0 ≤ y) (h₁ : y < 256) : Go.bits .or .i64 x y = x + y :=
  bits_join .i64 63 (by decide) wraps_i64 8 x y hx₀ hx hx₁ h₀ h₁ (by omega)
theorem and_mask (i : Nat) (hi : i ≤ 62) (n : Int) : Go.bits .and .i64 n ((2 ^ i - 1 : Nat) : Int) = n % ((2 ^ i : Nat) : Int) := by
  have hp : 2 ^ i ≤ 2 ^ 62 := Nat.pow_le_pow_right (by decide) hi
  have hpos : 0 < 2 ^ i := Nat.two_pow_pos i
  have hm : (BitVec.ofInt 64 ((2 ^ i - 1 : Nat) : Int)).toNat = 2 ^ i - 1 := by
    rw [BitVec.ofInt_natCast, BitVec.toNat_ofNat]
    apply Nat.mod_eq_of_lt
    omega
  have key : (BitVec.ofInt 64 n &&& BitVec.ofInt 64 ((2 ^ i - 1 : Nat) : Int)).toNat = (n % ((2 ^ 64 : Nat) : Int)).toNat % 2 ^ i := by
    rw [BitVec.toNat_and, BitVec.toNat_ofInt, hm, Nat.and_two_pow_sub_one_eq_mod]
  show IntKind.i64.wrap ((BitVec.ofInt 64 n &&& BitVec.ofInt 64 ((2 ^ i - 1 : Nat) : Int)).toNat : Nat) = _
  rw [key]
  have hd : ((2 ^ i : Nat) : Int) ∣ ((2 ^ 64 : Nat) : Int) := by
    have : (2 ^ i) ∣ (2 ^ 64) := Nat.pow_dvd_pow 2 (by omega)
    exact_mod_cast this
  have h2 : (((n % ((2 ^ 64 : Nat) : Int)).toNat % 2 ^ i : Nat) : Int) = n % ((2 ^ i : Nat) : Int) := by
    rw [Int.natCast_emod, Int.toNat_of_nonneg (by omega), Int.emod_emod_of_dvd _ hd]
  rw [h2]
  have hlt : n % ((2 ^ i : Nat) : Int) < ((2 ^ i : Nat) : Int) := Int.emod_lt_of_pos _ (by exact_mod_cast hpos)
  have h0 : 0 ≤ n % ((2 ^ i : Nat) : Int) := Int.emod_nonneg _ (by have : ((2 ^ i : Nat) : Int) ≠ 0 := by exact_mod_cast Nat.pos_iff_ne_zero.mp hpos
                                                                   exact this)
  have hle : ((2 ^ i : Nat) : Int) ≤ ((2 ^ 62 : Nat) : Int) := by exact_mod_cast hp
  exact wraps_i64 _ h0 (by have : ((2 ^ 62 : Nat) : Int) < 2 ^ 63 := by decide
                           omega)
theorem and1 (n : Int) : Go.bits .and .i64 n 1 = n % 2 := and_mask 1 (by decide) n
theorem and3 (n : Int) : Go.bits .and .i64 n 3 = n % 4 := and_mask 2 (by decide) n
theorem and15 (n : Int) : Go.bits .and .i64 n 15 = n % 16 := and_mask 4 (by decide) n
theorem and127 (n : Int) : Go.bits .and .i64 n 127 = n % 128 := and_mask 7 (by decide) n
theorem and255 (n : Int) : Go.bits .and .i64 n 255 = n % 256 := and_mask 8 (by decide) n
theorem and1023 (n : Int) : Go.bits .and .i64 n 1023 = n % 1024 := and_mask 10 (by decide) n

theorem empty_list : (⟨#[]⟩ : ByteArray).toList = ([] : List UInt8) := by rw [Lib.toList_data]
def lim : Nat → Int
  | 0 => 1
  | i + 1 => lim i * 256
theorem lim_succ (i : Nat) : lim (i + 1) = lim i * 256 := rfl
theorem lim_le6 {i : Nat} (h : i ≤ 6) : lim i ≤ 281474976710656 := by
  have : i = 0 ∨ i = 1 ∨ i = 2 ∨ i = 3 ∨ i = 4 ∨ i = 5 ∨ i = 6 := by omega
  rcases this with rfl | rfl | rfl | rfl | rfl | rfl | rfl <;> decide
theorem byt_getD {l : List Int} (h : Byt l) (i : Nat) : 0 ≤ l.getD i 0 ∧ l.getD i 0 < 256 := by
  rw [List.getD_eq_getElem?_getD]
  by_cases hi : i < l.length
  · rw [List.getElem?_eq_getElem hi]; exact h _ (List.getElem_mem hi)
  · rw [List.getElem?_eq_none (by omega)]; simp

end Go.Proofs.Ytabjambabnbmnaa.Base
namespace Go.Proofs.Ytabjambabnbmnaa.L5
open Go.RowKit Go.Proofs.YtabjambabnbmnaaW.PrintWords Go.Proofs.YtabjambabnbmnaaW.PrintLast Go.Proofs.YtabjambabnbmnaaW.PrintMore Go.Proofs.Ytabjambabnbmnaa.Base Go.Proofs.Ytabjambabnbmnaa.Q5
set_option linter.unusedVariables false
set_option linter.unusedSimpArgs false
/-! ### Rising rows: lists whose elements are sound and whose keys rise; one put in its place -/
section
variable {α : Type}
def rises (ok : α → Bool) (key : α → Int) : Int → List α → Bool
  | _, [] => true
  | p, x :: l => if ok x = true ∧ p < key x then rises ok key (key x) l else false
def ins (key : α → Int) (x : α) : List α → List α
  | [] => [x]
  | y :: l => if key y < key x then y :: ins key x l else if key y = key x then x :: l else x :: y :: l
def look (key : α → Int) (q : Int) : List α → Option α
  | [] => none
  | y :: l => if key y = q then some y else look key q l
variable {ok : α → Bool} {key : α → Int}
theorem rises_cons {p : Int} {x : α} {l : List α} : rises ok key p (x :: l) = true ↔ (ok x = true ∧ p < key x) ∧ rises ok key (key x) l = true := by
  show (if ok x = true ∧ p < key x then rises ok key (key x) l else false) = true ↔ _
  by_cases h : ok x = true ∧ p < key x
  · rw [if_pos h]; exact ⟨fun h' => ⟨h, h'⟩, fun h' => h'.2⟩
  · rw [if_neg h]; constructor
    · intro h'; cases h'
    · intro h'; exact absurd h'.1 h
theorem rises_lower : ∀ {l : List α} {p q : Int}, rises ok key p l = true → q ≤ p → rises ok key q l = true
  | [], _, _, _, _ => rfl
  | x :: l, p, q, h, hq => by
    obtain ⟨⟨h1, h2⟩, h3⟩ := rises_cons.mp h
    exact rises_cons.mpr ⟨⟨h1, by omega⟩, h3⟩
theorem rises_mem : ∀ {l : List α} {p : Int}, rises ok key p l = true → ∀ x ∈ l, ok x = true ∧ p < key x
  | [], _, _, _, hx => by cases hx
  | y :: l, p, h, x, hx => by
    obtain ⟨⟨h1, h2⟩, h3⟩ := rises_cons.mp h
    rcases List.mem_cons.mp hx with rfl | hx
    · exact ⟨h1, h2⟩
    · have := rises_mem h3 x hx
      exact ⟨this.1, by omega⟩
theorem rises_length : ∀ {l : List α} {p : Int} (b : Int), rises ok key p l = true → (∀ x, ok x = true → key x ≤ b) → p ≤ b → (l.length : Int) ≤ b - p
  | [], p, b, _, _, hp => by simp; omega
  | x :: l, p, b, h, hb, hp => by
    obtain ⟨⟨h1, h2⟩, h3⟩ := rises_cons.mp h
    have := rises_length b h3 hb (hb x h1)
    simp only [List.length_cons]; omega
theorem rises_get : ∀ {l : List α} {p : Int}, rises ok key p l = true → ∀ {i j : Nat} (hi : i < j) (hj : j < l.length), key (l[i]'(by omega)) < key l[j]
  | [], _, _, _, _, _, hj => by simp at hj
  | x :: l, p, h, i, j, hi, hj => by
    obtain ⟨⟨h1, h2⟩, h3⟩ := rises_cons.mp h
    obtain ⟨j, rfl⟩ : ∃ m, j = m + 1 := ⟨j - 1, by omega⟩
    cases i with
    | zero =>
      simp only [List.getElem_cons_zero, List.getElem_cons_succ]
      exact (rises_mem h3 _ (List.getElem_mem _)).2
    | succ i =>
      simp only [List.getElem_cons_succ]
      exact rises_get h3 (by omega) (by simpa using hj)
theorem rises_ok {l : List α} {p : Int} (h : rises ok key p l = true) {i : Nat} (hi : i < l.length) : ok l[i] = true := (rises_mem h _ (List.getElem_mem hi)).1
theorem ins_rises : ∀ {l : List α} {p : Int} {x : α}, rises ok key p l = true → ok x = true → p < key x → rises ok key p (ins key x l) = true
  | [], p, x, _, h1, h2 => rises_cons.mpr ⟨⟨h1, h2⟩, rfl⟩
  | y :: l, p, x, h, h1, h2 => by
    obtain ⟨⟨a1, a2⟩, a3⟩ := rises_cons.mp h
    show rises ok key p (if key y < key x then y :: ins key x l else if key y = key x then x :: l else x :: y :: l) = true
    by_cases c1 : key y < key x
    · rw [if_pos c1]; exact rises_cons.mpr ⟨⟨a1, a2⟩, ins_rises a3 h1 c1⟩
    · rw [if_neg c1]
      by_cases c2 : key y = key x
      · rw [if_pos c2]; exact rises_cons.mpr ⟨⟨h1, h2⟩, rises_lower a3 (by omega)⟩
      · rw [if_neg c2]; exact rises_cons.mpr ⟨⟨h1, h2⟩, rises_cons.mpr ⟨⟨a1, by omega⟩, a3⟩⟩
theorem ins_length : ∀ (l : List α) (x : α), (ins key x l).length ≤ l.length + 1 ∧ 1 ≤ (ins key x l).length
  | [], x => by simp [ins]
  | y :: l, x => by
    have := ins_length l x
    unfold ins
    split
    · simp only [List.length_cons]; omega
    · split <;> simp only [List.length_cons] <;> omega
theorem look_lt : ∀ {l : List α} {p q : Int}, rises ok key p l = true → q ≤ p → look key q l = none
  | [], _, _, _, _ => rfl
  | x :: l, p, q, h, hq => by
    obtain ⟨⟨h1, h2⟩, h3⟩ := rises_cons.mp h
    unfold look
    rw [if_neg (by omega)]
    exact look_lt h3 (by omega)
theorem look_ins_self : ∀ {l : List α} {p : Int} {x : α}, rises ok key p l = true → look key (key x) (ins key x l) = some x
  | [], _, x, _ => by simp [ins, look]
  | y :: l, p, x, h => by
    obtain ⟨⟨h1, h2⟩, h3⟩ := rises_cons.mp h
    unfold ins
    by_cases c1 : key y < key x
    · rw [if_pos c1]; unfold look; rw [if_neg (by omega)]; exact look_ins_self h3
    · rw [if_neg c1]
      by_cases c2 : key y = key x
      · rw [if_pos c2]; unfold look; rw [if_pos rfl]
      · rw [if_neg c2]; unfold look; rw [if_pos rfl]
theorem look_ins_other : ∀ {l : List α} {x : α} {q : Int}, q ≠ key x → look key q (ins key x l) = look key q l
  | [], x, q, hq => by show (if key x = q then some x else look key q []) = _; rw [if_neg (by omega)]
  | y :: l, x, q, hq => by
    unfold ins
    by_cases c1 : key y < key x
    · rw [if_pos c1]; unfold look; rw [look_ins_other hq]
    · rw [if_neg c1]
      by_cases c2 : key y = key x
      · rw [if_pos c2]; unfold look; rw [if_neg (by omega), if_neg (by omega)]
      · rw [if_neg c2]; conv => lhs; unfold look
        rw [if_neg (by omega)]
theorem look_mem : ∀ {l : List α} {q : Int} {x : α}, look key q l = some x → x ∈ l ∧ key x = q
  | [], _, _, h => by cases h
  | y :: l, q, x, h => by
    unfold look at h
    by_cases c : key y = q
    · rw [if_pos c] at h; obtain rfl := Option.some.inj h; exact ⟨List.mem_cons_self, c⟩
    · rw [if_neg c] at h; have := look_mem h; exact ⟨List.mem_cons_of_mem _ this.1, this.2⟩
theorem look_none : ∀ {l : List α} {q : Int}, look key q l = none → ∀ x ∈ l, key x ≠ q
  | [], _, _, x, hx => by cases hx
  | y :: l, q, h, x, hx => by
    unfold look at h
    by_cases c : key y = q
    · rw [if_pos c] at h; cases h
    · rw [if_neg c] at h
      rcases List.mem_cons.mp hx with rfl | hx
      · exact c
      · exact look_none h x hx
/-- Where a key is, or would be. -/
structure Place (key : α → Int) (l : List α) (q : Int) (p : Nat) : Prop where
  le : p ≤ l.length
  lo : ∀ j (h : j < l.length), j < p → key l[j] < q
  hi : ∀ j (h : j < l.length), p ≤ j → q ≤ key l[j]
theorem place_of : ∀ {l : List α} {p : Int}, rises ok key p l = true → ∀ q, ∃ m, Place key l q m
  | [], _, _, q => ⟨0, by simp, fun _ h => by simp at h, fun _ h => by simp at h⟩
  | x :: l, p, h, q => by
    obtain ⟨⟨h1, h2⟩, h3⟩ := rises_cons.mp h
    by_cases c : key x < q
    · obtain ⟨m, hm⟩ := place_of h3 q
      refine ⟨m + 1, by simpa using hm.le, fun j hj h => ?_, fun j hj h => ?_⟩
      · cases j with
        | zero => exact c
        | succ j => exact hm.lo j (by simpa using hj) (by omega)
      · obtain ⟨j, rfl⟩ : ∃ m, j = m + 1 := ⟨j - 1, by omega⟩
        exact hm.hi j (by simpa using hj) (by omega)
    · refine ⟨0, Nat.zero_le _, fun j _ h => by omega, fun j hj _ => ?_⟩
      cases j with
      | zero => show q ≤ key x; omega
      | succ j =>
        have hj' : j < l.length := by simpa using hj
        have := (rises_mem h3 _ (List.getElem_mem hj')).2
        simp only [List.getElem_cons_succ]; omega
/-- Put in at its place. -/
theorem ins_place : ∀ {l : List α} {b : Int} {x : α} {m : Nat}, rises ok key b l = true → Place key l (key x) m →
    (∀ h : m < l.length, key l[m] = key x → ins key x l = l.set m x) ∧ ((∀ h : m < l.length, key l[m] ≠ key x) → ins key x l = l.take m ++ [x] ++ l.drop m)
  | [], _, x, m, _, P => by
    have := P.le
    obtain rfl : m = 0 := by simpa using this
    exact ⟨fun h => by simp at h, fun _ => rfl⟩
  | y :: l, b, x, m, h, P => by
    obtain ⟨⟨h1, h2⟩, h3⟩ := rises_cons.mp h
    cases m with
    | zero =>
      have c1 := P.hi 0 (by simp) (Nat.le_refl _)
      simp only [List.getElem_cons_zero] at c1
      refine ⟨fun _ e => ?_, fun e => ?_⟩
      · simp only [List.getElem_cons_zero] at e
        unfold ins; rw [if_neg (by omega), if_pos e]; rfl
      · have e := e (by simp)
        simp only [List.getElem_cons_zero] at e
        unfold ins; rw [if_neg (by omega), if_neg e]; rfl
    | succ m =>
      have c1 := P.lo 0 (by simp) (by omega)
      simp only [List.getElem_cons_zero] at c1
      have P' : Place key l (key x) m := ⟨by have := P.le; simpa using this, fun j hj hm => P.lo (j + 1) (by simpa using hj) (by omega), fun j hj hm => P.hi (j + 1) (by simpa using hj) (by omega)⟩
      have ih := ins_place h3 P'
      refine ⟨fun hl e => ?_, fun e => ?_⟩
      · simp only [List.getElem_cons_succ] at e
        unfold ins; rw [if_pos c1, ih.1 (by simpa using hl) e]; rfl
      · unfold ins; rw [if_pos c1, ih.2 (fun hl => by have := e (by simpa using hl); simpa using this)]; rfl
theorem look_place : ∀ {l : List α} {b q : Int} {m : Nat}, rises ok key b l = true → Place key l q m →
    (∀ h : m < l.length, key l[m] = q → look key q l = some l[m]) ∧ ((∀ h : m < l.length, key l[m] ≠ q) → look key q l = none)
  | [], _, q, m, _, P => ⟨fun h => by simp at h, fun _ => rfl⟩
  | y :: l, b, q, m, h, P => by
    obtain ⟨⟨h1, h2⟩, h3⟩ := rises_cons.mp h
    cases m with
    | zero =>
      have c1 := P.hi 0 (by simp) (Nat.le_refl _)
      simp only [List.getElem_cons_zero] at c1
      refine ⟨fun _ e => ?_, fun e => ?_⟩
      · simp only [List.getElem_cons_zero] at e
        unfold look; rw [if_pos e]; rfl
      · have e := e (by simp)
        simp only [List.getElem_cons_zero] at e
        unfold look; rw [if_neg e]
        exact look_lt h3 (by omega)
    | succ m =>
      have c1 := P.lo 0 (by simp) (by omega)
      simp only [List.getElem_cons_zero] at c1
      have P' : Place key l q m := ⟨by have := P.le; simpa using this, fun j hj hm => P.lo (j + 1) (by simpa using hj) (by omega), fun j hj hm => P.hi (j + 1) (by simpa using hj) (by omega)⟩
      have ih := look_place h3 P'
      refine ⟨fun hl e => ?_, fun e => ?_⟩
      · simp only [List.getElem_cons_succ] at e
        unfold look; rw [if_neg (by omega), ih.1 (by simpa using hl) e]; rfl
      · unfold look; rw [if_neg (by omega)]; exact ih.2 (fun hl => by have := e (by simpa using hl); simpa using this)
end
theorem mid_wraps {i j : Nat} (h : i + j ≤ 4000) : wrap64 ((i : Int) + (j : Int)) = ((i + j : Nat) : Int) ∧ IntKind.u64.wrap (((i + j : Nat) : Int)) = ((i + j : Nat) : Int) ∧ (((i + j : Nat) : Int)) / 2 = (((i + j) / 2 : Nat) : Int) ∧ wrap64 ((((i + j) / 2 : Nat) : Int)) = (((i + j) / 2 : Nat) : Int) ∧ wrap64 ((((i + j) / 2 : Nat) : Int) + 1) = (((i + j) / 2 + 1 : Nat) : Int) := by
  refine ⟨?_, IntWalk.u64_in _ ⟨by omega, by omega⟩, by omega, wrap_id (by omega) (by omega), ?_⟩
  · rw [wrap_id (by omega) (by omega)]; omega
  · rw [wrap_id (by omega) (by omega)]; omega
theorem next_wrap {i : Nat} (h : i ≤ 9223372036854775800) : wrap64 ((i : Int) + 1) = ((i + 1 : Nat) : Int) := by rw [wrap_id (by omega) (by omega)]; omega
/-! ### chain: May, With, Send, Accept (S50: the struct Key) -/
def KeyOk (x : S50) : Prop := (0 ≤ x.f0 ∧ x.f0 ≤ 255) ∧ (1 ≤ x.f1.size ∧ x.f1.size ≤ 32) ∧ (0 ≤ x.f2 ∧ x.f2 ≤ 1048576) ∧ (0 ≤ x.f3 ∧ x.f3 ≤ 1048576) ∧ (0 ≤ x.f4 ∧ x.f4 ≤ 1048576) ∧ (0 ≤ x.f5 ∧ x.f5 ≤ 1048576)
instance (x : S50) : Decidable (KeyOk x) := by unfold KeyOk; infer_instance
def kok (x : S50) : Bool := decide (KeyOk x)
def kkey (x : S50) : Int := x.f0
theorem kok_iff {x : S50} : kok x = true ↔ KeyOk x := by unfold kok; exact decide_eq_true_iff
theorem kkey_range {x : S50} (h : kok x = true) : -1 < kkey x ∧ kkey x ≤ 255 := by
  have := kok_iff.mp h
  unfold KeyOk at this; unfold kkey; omega
theorem now_f (x : Int) : chain_Now.f x = some (decide (0 ≤ x ∧ x ≤ 1048576)) := by
  unfold chain_Now.f
  by_cases h1 : x ≥ 0
  · rw [if_pos h1]; simp only [h1, true_and]
  · rw [if_neg h1]; have : ¬ (0 ≤ x ∧ x ≤ 1048576) := by omega
    simp [this]
theorem chain_Key_f (x : S50) : chain_Key.f x.f0 x.f1 x.f2 x.f3 x.f4 x.f5 = some (kok x) := by
  have hi : chain_Id.f x.f0 = some (decide (0 ≤ x.f0 ∧ x.f0 ≤ 255)) := by
    unfold chain_Id.f
    by_cases h1 : x.f0 ≥ 0
    · rw [if_pos h1]; simp only [h1, true_and]
    · rw [if_neg h1]; have : ¬ (0 ≤ x.f0 ∧ x.f0 ≤ 255) := by omega
      simp [this]
  have hs : mac_Secret.f x.f1 = some (decide (1 ≤ x.f1.size ∧ x.f1.size ≤ 32)) := by
    unfold mac_Secret.f
    by_cases h1 : (x.f1.size : Int) ≥ 1
    · rw [if_pos h1]; congr 1; exact decide_eq_decide.mpr (by omega)
    · rw [if_neg h1, decide_eq_false (by omega)]
  simp only [chain_Key.f, hi, hs, now_f, Option.bind_some, decide_eq_true_eq]
  unfold kok KeyOk
  by_cases h1 : 0 ≤ x.f0 ∧ x.f0 ≤ 255
  · by_cases h2 : 1 ≤ x.f1.size ∧ x.f1.size ≤ 32
    · by_cases h3 : 0 ≤ x.f2 ∧ x.f2 ≤ 1048576
      · by_cases h4 : 0 ≤ x.f3 ∧ x.f3 ≤ 1048576
        · by_cases h5 : 0 ≤ x.f4 ∧ x.f4 ≤ 1048576
          · simp [h1, h2, h3, h4, h5]
          · simp [h1, h2, h3, h4, h5]
        · simp [h1, h2, h3, h4]
      · simp [h1, h2, h3]
    · simp [h1, h2]
  · simp [h1]
theorem rdK_at {l : List S50} {i : Nat} (h : i < l.length) : rd_T50 l (i : Int) = l[i] := by
  unfold rd_T50; rw [Int.toNat_natCast, List.getD_eq_getElem?_getD, List.getElem?_eq_getElem h]; rfl
def prevK (l : List S50) (i : Nat) : Int := if h : 0 < i ∧ i - 1 < l.length then kkey l[i - 1] else -1
/-- May a chain be? -/
def chainOk (l : List S50) : Bool := rises kok kkey (-1) l && decide (l.length ≤ 4)
theorem chain_May_l {l : List S50} (hn : l.length ≤ 9223372036854775800) : ∀ (d k i : Nat), i + d = l.length → d < k →
    chain_May.l0 k l l (l.length : Int) (i : Int) = some (rises kok kkey (prevK l i) (l.drop i) && decide (l.length ≤ 4)) := by
  intro d
  induction d with
  | zero =>
    intro k i hi hk
    obtain ⟨k, rfl⟩ : ∃ m, k = m + 1 := ⟨k - 1, by omega⟩
    simp only [chain_May.l0]
    rw [if_neg (by omega), List.drop_of_length_le (by omega)]
    show some (decide ((l.length : Int) ≤ 4)) = some (true && decide (l.length ≤ 4))
    rw [Bool.true_and]; congr 1; exact decide_eq_decide.mpr (by omega)
  | succ d ih =>
    intro k i hi hk
    obtain ⟨k, rfl⟩ : ∃ m, k = m + 1 := ⟨k - 1, by omega⟩
    have hlt : i < l.length := by omega
    have h4 : wrap64 ((i : Int) + 1) = ((i + 1 : Nat) : Int) := by rw [wrap_id (by omega) (by omega)]; omega
    have ih' := ih k (i + 1) (by omega) (by omega)
    simp only [chain_May.l0, rdK_at hlt, chain_Key_f, Option.bind_some]
    rw [if_pos (by omega), if_pos (by omega), if_pos (by omega), h4, List.drop_eq_getElem_cons hlt]
    have hpn : prevK l (i + 1) = kkey l[i] := by unfold prevK; rw [dif_pos ⟨by omega, by omega⟩]; rfl
    rw [hpn] at ih'
    show _ = some ((if kok l[i] = true ∧ prevK l i < kkey l[i] then rises kok kkey (kkey l[i]) (l.drop (i + 1)) else false) && decide (l.length ≤ 4))
    by_cases hc : kok l[i] = true
    · rw [if_pos hc]
      have hr := kkey_range hc
      by_cases h0 : (i : Int) > 0
      · have h5 : wrap64 ((i : Int) - 1) = ((i - 1 : Nat) : Int) := by rw [wrap_id (by omega) (by omega)]; omega
        have hl1 : i - 1 < l.length := by omega
        rw [if_pos h0, h5, if_pos (by omega), if_pos (by omega), rdK_at hl1]
        have hpv : prevK l i = kkey l[i - 1] := by unfold prevK; rw [dif_pos ⟨by omega, hl1⟩]
        rw [hpv]
        unfold kkey at hr ih' ⊢
        by_cases hg : l[i - 1].f0 ≥ l[i].f0
        · rw [if_pos hg, if_neg (by omega), Bool.false_and]
        · rw [if_neg hg, if_pos ⟨hc, by omega⟩, ih']
      · rw [if_neg h0]
        have hpv : prevK l i = -1 := by unfold prevK; rw [dif_neg (by omega)]
        rw [hpv, if_pos ⟨hc, by omega⟩, ih']
    · rw [if_neg hc, if_neg (fun h => hc h.1), Bool.false_and]
theorem chain_May_f {l : List S50} (hn : l.length ≤ 9223372036854775800) {k : Nat} (hk : l.length < k) : chain_May.f k l = some (chainOk l) :=
  chain_May_l hn l.length k 0 (by omega) hk
theorem chainOk_iff {l : List S50} : chainOk l = true ↔ rises kok kkey (-1) l = true ∧ l.length ≤ 4 := by
  unfold chainOk; rw [Bool.and_eq_true, decide_eq_true_eq]
theorem bs_l {l : List S50} {t p : Int} {m : Nat} (hr : rises kok kkey p l = true) (ht : 0 ≤ t ∧ t ≤ 255) (P : Place kkey l t m) (hn : l.length ≤ 1000) :
    ∀ (d k i j : Nat), i + d = j → d < k → i ≤ m → m ≤ j → j ≤ l.length →
    api_Key_int.l0 k l t (l.length : Int) (i : Int) (j : Int) = some ((m : Int), if h : m < l.length then decide (kkey l[m] = t) else false) := by
  intro d
  induction d using Nat.strongRecOn with
  | _ d ih =>
    intro k i j hij hk him hmj hjn
    obtain ⟨k, rfl⟩ : ∃ q, k = q + 1 := ⟨k - 1, by omega⟩
    have hw : ∀ {q : Nat} (h : q < l.length), chain_at_1.f l[q].f0 l[q].f1 l[q].f2 l[q].f3 l[q].f4 l[q].f5 t = some (kkey l[q] - t) := by
      intro q h
      have := kkey_range (rises_ok hr h)
      unfold kkey at this ⊢
      show some (wrap64 (l[q].f0 - t)) = _
      rw [wrap_id (by omega) (by omega)]
    simp only [api_Key_int.l0]
    by_cases h0 : i < j
    · have hh : (i + j) / 2 < l.length := by omega
      obtain ⟨e1, e2, e3, e4, e5⟩ := mid_wraps (i := i) (j := j) (by omega)
      simp only [e1, e2, e3, e4, e5, rdK_at hh]
      clear e1 e2 e3 e4 e5
      rw [if_pos (by omega), if_pos (by omega), if_pos (by omega)]
      simp only [hw hh, Option.bind_some]
      by_cases hc : kkey l[(i + j) / 2] - t < 0
      · rw [if_pos hc]
        have hm : (i + j) / 2 < m := by
          apply Nat.lt_of_not_le; intro hle
          have := P.hi _ hh hle; omega
        exact ih (j - ((i + j) / 2 + 1)) (by omega) k ((i + j) / 2 + 1) j (by omega) (by omega) (by omega) hmj hjn
      · rw [if_neg hc]
        have hm : m ≤ (i + j) / 2 := by
          apply Nat.le_of_not_lt; intro hlt
          have := P.lo _ hh hlt; omega
        exact ih ((i + j) / 2 - i) (by omega) k i ((i + j) / 2) (by omega) (by omega) him hm (by omega)
    · obtain rfl : i = m := by omega
      rw [if_neg (by omega)]
      by_cases hl : i < l.length
      · rw [if_pos (by omega), if_pos (by omega), if_pos (by omega)]
        simp only [rdK_at hl, hw hl, Option.bind_some, dif_pos hl]
        congr 2
        by_cases hc : kkey l[i] = t
        · rw [hc]; simp
        · have : kkey l[i] - t ≠ 0 := by omega
          simp [this, hc]
      · rw [if_neg (by omega), dif_neg hl]
/-- A number that no key has: nothing is found, wherever the differences wrap to. -/
theorem bs_none_l {l : List S50} {t p : Int} (hr : rises kok kkey p l = true) (h63 : -9223372036854775808 ≤ t ∧ t ≤ 9223372036854775807) (ht : ¬ (0 ≤ t ∧ t ≤ 255)) (hn : l.length ≤ 1000) :
    ∀ (d k i j : Nat), i + d = j → d < k → j ≤ l.length → ∃ m : Nat, api_Key_int.l0 k l t (l.length : Int) (i : Int) (j : Int) = some ((m : Int), false) := by
  intro d
  induction d using Nat.strongRecOn with
  | _ d ih =>
    intro k i j hij hk hjn
    obtain ⟨k, rfl⟩ : ∃ q, k = q + 1 := ⟨k - 1, by omega⟩
    have hw : ∀ {q : Nat} (h : q < l.length), ∃ c : Int, chain_at_1.f l[q].f0 l[q].f1 l[q].f2 l[q].f3 l[q].f4 l[q].f5 t = some c ∧ c ≠ 0 := by
      intro q h
      have := kkey_range (rises_ok hr h)
      unfold kkey at this
      exact ⟨wrap64 (l[q].f0 - t), rfl, by unfold wrap64; omega⟩
    simp only [api_Key_int.l0]
    by_cases h0 : i < j
    · have hh : (i + j) / 2 < l.length := by omega
      obtain ⟨e1, e2, e3, e4, e5⟩ := mid_wraps (i := i) (j := j) (by omega)
      obtain ⟨c, hc, _⟩ := hw hh
      simp only [e1, e2, e3, e4, e5, rdK_at hh]
      clear e1 e2 e3 e4 e5
      rw [if_pos (by omega), if_pos (by omega), if_pos (by omega)]
      simp only [hc, Option.bind_some]
      split
      · exact ih (j - ((i + j) / 2 + 1)) (by omega) k ((i + j) / 2 + 1) j (by omega) (by omega) hjn
      · exact ih ((i + j) / 2 - i) (by omega) k i ((i + j) / 2) (by omega) (by omega) (by omega)
    · rw [if_neg (by omega)]
      by_cases hl : i < l.length
      · obtain ⟨c, hc, hc0⟩ := hw hl
        rw [if_pos (by omega), if_pos (by omega), if_pos (by omega)]
        simp only [rdK_at hl, hc, Option.bind_some]
        exact ⟨i, by simp [hc0]⟩
      · rw [if_neg (by omega)]
        exact ⟨i, rfl⟩
theorem at_f {l : List S50} {t : Int} {m k : Nat} (h : chainOk l = true) (ht : 0 ≤ t ∧ t ≤ 255) (P : Place kkey l t m) (hk : 10 < k) :
    chain_at.f k l t = some ((m : Int), if h : m < l.length then decide (kkey l[m] = t) else false) := by
  obtain ⟨hr, hl⟩ := chainOk_iff.mp h
  have := bs_l hr ht P (by omega) l.length k 0 l.length (by omega) (by omega) (by omega) P.le (Nat.le_refl _)
  have h' : api_Key_int.f k l t = some ((m : Int), if h : m < l.length then decide (kkey l[m] = t) else false) := this
  simp only [chain_at.f, h', Option.bind_some]
theorem at_none {l : List S50} {t : Int} {k : Nat} (h : chainOk l = true) (h63 : -9223372036854775808 ≤ t ∧ t ≤ 9223372036854775807) (ht : ¬ (0 ≤ t ∧ t ≤ 255)) (hk : 10 < k) :
    ∃ m : Nat, chain_at.f k l t = some ((m : Int), false) := by
  obtain ⟨hr, hl⟩ := chainOk_iff.mp h
  obtain ⟨m, hm⟩ := bs_none_l hr h63 ht (by omega) l.length k 0 l.length (by omega) (by omega) (Nat.le_refl _)
  have h' : api_Key_int.f k l t = some ((m : Int), false) := hm
  exact ⟨m, by simp only [chain_at.f, h', Option.bind_some]⟩
theorem clone_f {l : List S50} (hn : l.length < 2513169434916) : api_Key_48.f l = some l := by
  simp [api_Key_48.f, hn]
/-- A chain with a key, if there is room. -/
def withK (l : List S50) (x : S50) : List S50 × Int :=
  if chainOk l = true ∧ kok x = true ∧ ((look kkey (kkey x) l).isSome = true ∨ l.length ≠ 4) then (ins kkey x l, 0) else ([], 500)
theorem chain_With_f {l : List S50} (hn : l.length ≤ 9223372036854775800) {k : Nat} (hk : l.length + 20 < k) (x : S50) :
    chain_With.f k l x.f0 x.f1 x.f2 x.f3 x.f4 x.f5 = some (withK l x) := by
  obtain ⟨k, rfl⟩ : ∃ q, k = q + 1 := ⟨k - 1, by omega⟩
  have ht : chain_With.j0 (k + 1) l true x.f0 x.f1 x.f2 x.f3 x.f4 x.f5 = some ([], 500) := by simp [chain_With.j0]
  simp only [chain_With.f, chain_May_f hn (show l.length < k + 1 by omega), chain_Key_f, Option.bind_some]
  unfold withK
  by_cases h1 : chainOk l = true
  · rw [if_pos h1]
    obtain ⟨hr, hl4⟩ := chainOk_iff.mp h1
    by_cases h2 : kok x = true
    · rw [h2]
      have hid : 0 ≤ x.f0 ∧ x.f0 ≤ 255 := by have := kok_iff.mp h2; unfold KeyOk at this; omega
      obtain ⟨m, P⟩ := place_of hr (kkey x)
      simp only [chain_With.j0, Bool.not_true, Bool.false_eq_true, if_false, clone_f (show l.length < 2513169434916 by omega), at_f h1 hid P (show 10 < k by omega), Option.bind_some]
      have hI := ins_place hr P
      have hL := look_place hr P
      have hx : (⟨x.f0, x.f1, x.f2, x.f3, x.f4, x.f5⟩ : S50) = x := rfl
      by_cases hm : ∃ h : m < l.length, kkey l[m] = kkey x
      · obtain ⟨hl, he⟩ := hm
        have he' : kkey l[m] = x.f0 := he
        rw [dif_pos hl, decide_eq_true he', if_pos rfl, if_pos (by omega), if_pos (by omega), if_pos ⟨h1, trivial, .inl (by rw [hL.1 hl he]; rfl)⟩, hI.1 hl he, Int.toNat_natCast, hx]
      · have hno : ∀ h : m < l.length, kkey l[m] ≠ kkey x := fun h he => hm ⟨h, he⟩
        have : (if h : m < l.length then decide (kkey l[m] = x.f0) else false) = false := by
          by_cases h : m < l.length
          · rw [dif_pos h]; exact decide_eq_false (hno h)
          · rw [dif_neg h]
        have hmn := P.le
        rw [this, if_neg (by decide)]
        by_cases h4 : l.length = 4
        · have hno4 : ¬ ((look kkey (kkey x) l).isSome = true ∨ l.length ≠ 4) := by
            rw [hL.2 hno]; rintro (h | h)
            · cases h
            · exact h h4
          rw [if_pos (by omega), if_neg (fun h => hno4 h.2.2)]
        · rw [if_neg (by omega), if_pos ⟨h1, trivial, .inr h4⟩, hI.2 hno]
          simp only [api_Key_50.f, Int.toNat_natCast, hx]
          rw [if_pos ⟨by omega, by omega, by omega⟩]
          rfl
    · have h2' : kok x = false := by simpa using h2
      rw [if_neg (fun h => h2 h.2.1), h2']; exact ht
  · rw [if_neg h1, if_neg (fun h => h1 h.1)]; exact ht
/-- A key as_ it is told, or none (501). -/
def tup : Option S50 → Int × ByteArray × Int × Int × Int × Int × Int
  | none => (0, ⟨#[]⟩, 0, 0, 0, 0, 501)
  | some x => (x.f0, x.f1, x.f2, x.f3, x.f4, x.f5, 0)
def tupForm : Int × ByteArray × Int × Int × Int × Int × Int := (0, ⟨#[]⟩, 0, 0, 0, 0, 500)
/-- Is a key as_ late as_ the best one? -/
def late : Option S50 → S50 → Bool
  | none, _ => true
  | some y, x => decide (x.f2 ≥ y.f2)
/-- The key that is sent with. -/
def send (now : Int) : Option S50 → List S50 → Option S50
  | b, [] => b
  | b, x :: l => send now (if x.f2 ≤ now ∧ now < x.f3 ∧ late b x = true then some x else b) l
theorem send_l {l : List S50} {now : Int} (hn : l.length ≤ 1000) : ∀ (d k i : Nat) (b : Option S50), i + d = l.length → d < k →
    chain_Send.l0 k now (tup b).2.2.2.2.2.2 l (l.length : Int) (i : Int) (tup b).1 (tup b).2.1 (tup b).2.2.1 (tup b).2.2.2.1 (tup b).2.2.2.2.1 (tup b).2.2.2.2.2.1 = some (tup (send now b (l.drop i))) := by
  intro d
  induction d with
  | zero =>
    intro k i b hi hk
    obtain ⟨k, rfl⟩ : ∃ m, k = m + 1 := ⟨k - 1, by omega⟩
    simp only [chain_Send.l0]
    rw [if_neg (by omega), List.drop_of_length_le (by omega)]
    rfl
  | succ d ih =>
    intro k i b hi hk
    obtain ⟨k, rfl⟩ : ∃ m, k = m + 1 := ⟨k - 1, by omega⟩
    have hlt : i < l.length := by omega
    have h4 : wrap64 ((i : Int) + 1) = ((i + 1 : Nat) : Int) := by rw [wrap_id (by omega) (by omega)]; omega
    have ihs := ih k (i + 1) (some l[i]) (by omega) (by omega)
    have ihb := ih k (i + 1) b (by omega) (by omega)
    simp only [chain_Send.l0, rdK_at hlt, h4]
    rw [if_pos (by omega), if_pos (by omega), if_pos (by omega), List.drop_eq_getElem_cons hlt]
    show _ = some (tup (send now (if l[i].f2 ≤ now ∧ now < l[i].f3 ∧ late b l[i] = true then some l[i] else b) (l.drop (i + 1))))
    by_cases c1 : l[i].f2 ≤ now
    · rw [if_pos c1]
      by_cases c2 : now < l[i].f3
      · rw [if_pos c2]
        cases b with
        | none =>
          rw [if_neg (show ¬ ((tup (none : Option S50)).2.2.2.2.2.2 = 0) from (by decide : ¬ (501 : Int) = 0)), if_pos ⟨c1, c2, rfl⟩]; exact ihs
        | some y =>
          rw [if_pos (show (tup (some y)).2.2.2.2.2.2 = 0 from rfl)]
          by_cases c3 : l[i].f2 ≥ y.f2
          · rw [if_pos (show l[i].f2 ≥ (tup (some y)).2.2.1 from c3), if_pos ⟨c1, c2, decide_eq_true c3⟩]; exact ihs
          · rw [if_neg (show ¬ l[i].f2 ≥ (tup (some y)).2.2.1 from c3), if_neg (fun h => c3 (of_decide_eq_true h.2.2))]; exact ihb
      · rw [if_neg c2, if_neg (fun h => c2 h.2.1)]; exact ihb
    · rw [if_neg c1, if_neg (fun h => c1 h.1)]; exact ihb
theorem chain_Send_f {l : List S50} (hn : l.length ≤ 9223372036854775800) {k : Nat} (hk : l.length + 20 < k) (now : Int) :
    chain_Send.f k l now = some (if chainOk l = true ∧ 0 ≤ now ∧ now ≤ 1048576 then tup (send now none l) else tupForm) := by
  obtain ⟨k, rfl⟩ : ∃ q, k = q + 1 := ⟨k - 1, by omega⟩
  have ht : chain_Send.j0 (k + 1) l now true = some tupForm := by simp [chain_Send.j0, tupForm]
  simp only [chain_Send.f, chain_May_f hn (show l.length < k + 1 by omega), now_f, Option.bind_some]
  by_cases h1 : chainOk l = true
  · rw [if_pos h1]
    obtain ⟨hr, hl4⟩ := chainOk_iff.mp h1
    by_cases h2 : 0 ≤ now ∧ now ≤ 1048576
    · rw [if_pos ⟨h1, h2⟩, decide_eq_true h2]
      simp only [chain_Send.j0, Bool.not_true, Bool.false_eq_true, if_false]
      exact send_l (by omega) l.length k 0 none (by omega) (by omega)
    · rw [if_neg (fun h => h2 h.2), decide_eq_false h2]; exact ht
  · rw [if_neg h1, if_neg (fun h => h1 h.1)]; exact ht
/-- The key of a number, if it is accepted. -/
def accept (id now : Int) (l : List S50) : Option S50 := match look kkey id l with | none => none | some x => if x.f4 > now ∨ now ≥ x.f5 then none else some x
theorem chain_Accept_f {l : List S50} (hn : l.length ≤ 9223372036854775800) {k : Nat} (hk : l.length + 20 < k) {id : Int} (h63 : -9223372036854775808 ≤ id ∧ id ≤ 9223372036854775807) (now : Int) :
    chain_Accept.f k l id now = some (if chainOk l = true ∧ 0 ≤ now ∧ now ≤ 1048576 then tup (accept id now l) else tupForm) := by
  obtain ⟨k, rfl⟩ : ∃ q, k = q + 1 := ⟨k - 1, by omega⟩
  have ht : chain_Accept.j0 (k + 1) l id now true = some tupForm := by simp [chain_Accept.j0, tupForm]
  simp only [chain_Accept.f, chain_May_f hn (show l.length < k + 1 by omega), now_f, Option.bind_some]
  by_cases h1 : chainOk l = true
  · rw [if_pos h1]
    obtain ⟨hr, hl4⟩ := chainOk_iff.mp h1
    by_cases h2 : 0 ≤ now ∧ now ≤ 1048576
    · rw [if_pos ⟨h1, h2⟩, decide_eq_true h2]
      simp only [chain_Accept.j0, Bool.not_true, Bool.false_eq_true, if_false]
      unfold accept
      by_cases hid : 0 ≤ id ∧ id ≤ 255
      · obtain ⟨m, P⟩ := place_of hr id
        have hL := look_place hr P
        rw [at_f h1 hid P (show 10 < k by omega), Option.bind_some]
        by_cases hm : ∃ h : m < l.length, kkey l[m] = id
        · obtain ⟨hl, he⟩ := hm
          rw [hL.1 hl he]
          simp only [dif_pos hl, decide_eq_true he, if_true, rdK_at hl]
          rw [if_pos (by omega), if_pos (by omega)]
          by_cases c1 : l[m].f4 > now
          · rw [if_pos c1, if_pos (.inl c1)]; rfl
          · rw [if_neg c1]
            by_cases c2 : now ≥ l[m].f5
            · rw [if_pos c2, if_pos (.inr c2)]; rfl
            · rw [if_neg c2, if_neg (by omega)]; rfl
        · have hno : ∀ h : m < l.length, kkey l[m] ≠ id := fun h he => hm ⟨h, he⟩
          have : (if h : m < l.length then decide (kkey l[m] = id) else false) = false := by
            by_cases h : m < l.length
            · rw [dif_pos h]; exact decide_eq_false (hno h)
            · rw [dif_neg h]
          rw [hL.2 hno]
          simp only [this, Bool.false_eq_true, if_false]
          rfl
      · obtain ⟨m, hm⟩ := at_none (k := k) h1 h63 hid (by omega)
        have hnone : look kkey id l = none := by
          cases hq : look kkey id l with
          | none => rfl
          | some y =>
            have := look_mem hq
            have h2 := kkey_range (rises_mem hr y this.1).1
            omega
        rw [hm, hnone]; rfl
    · rw [if_neg (fun h => h2 h.2), decide_eq_false h2]; exact ht
  · rw [if_neg h1, if_neg (fun h => h1 h.1)]; exact ht

end Go.Proofs.Ytabjambabnbmnaa.L5
namespace Go.Proofs.Ytabjambabnbmnaa.L5
open Go.RowKit Go.Proofs.YtabjambabnbmnaaW.PrintWords Go.Proofs.YtabjambabnbmnaaW.PrintLast Go.Proofs.YtabjambabnbmnaaW.PrintMore Go.Proofs.Ytabjambabnbmnaa.Base Go.Proofs.Ytabjambabnbmnaa.Q5
/-- The layer is awake. -/
theorem awake_ok {k : Nat} (hk : 100 ≤ k) : watchwordlaw5_awake.f k = some true :=
  at_rounds (g := fun k => watchwordlaw5_awake.f k) watchwordlaw5_awake.mono hk (by decide +kernel)

end Go.Proofs.Ytabjambabnbmnaa.L5
namespace Go.Proofs.Ytabjambabnbmnaa.Opn
open Go.RowKit Go.Proofs.YtabjambabnbmnaaW.PrintWords Go.Proofs.YtabjambabnbmnaaW.PrintLast Go.Proofs.YtabjambabnbmnaaW.PrintMore
open Go.Joins Go.ChangeShapes Go.WideShapes Go.Deep
set_option linter.unusedVariables false

/-- Whatever reads as_ data of type t, within reach, is told by the kind d; R is known of it. -/
def Opn {α : Type} (P : Program) (t : TypeId) (d : Kd α) (R : α → Prop) : Prop :=
  ∀ {H : Type} {enc : TypeId × Value → H} {w : World} {base : Nat} {spare : Nat → Bool} {held : Bool} {fuel : Nat} {cs : List Value} {x : DataW H × List MemPlace},
    DataW.trod enc P w base spare held fuel t cs = some x → (∀ n ∈ x.1.weights P t, n ≤ reachBytes) → ∃ a, d.K w a cs ∧ R a
theorem opn_int {P : Program} {t : TypeId} {k : IntKind} (ht : P.underlying t = some (.int k)) : Opn P t (Kd.int k) (fun a => (Lit.int k a).wf = true) := by
  intro H enc w base spare held fuel cs x h _
  obtain ⟨a, rfl, rfl, wa⟩ := DataW.trod_int ht h
  exact ⟨a, rfl, wa⟩
theorem opn_string {P : Program} {t : TypeId} (ht : P.underlying t = some .string) : Opn P t Kd.string (fun s => s.size ≤ 140737488351232) := by
  intro H enc w base spare held fuel cs x h hw
  obtain ⟨s, rfl, rfl, hs⟩ := DataW.trod_string ht h
  refine ⟨s, rfl, ?_⟩
  have := hw s.data.toList.length (by simp [DataW.weights])
  rw [Array.length_toList] at this
  exact this
theorem cells_at {w : World} {base : Nat} {a : Addr} {n : Nat} {cs : List Value} (h : w.cells? base a n = some cs) : ∀ i u, cs[i]? = some u → w.cell? (a.add i) = some u := by
  obtain ⟨_, hl, hat⟩ := World.cells?_some h
  intro i u hu
  have hi : i < n := by have := (List.getElem?_eq_some_iff.1 hu).1; omega
  rw [hat i hi]; exact hu
theorem opn_slice {α : Type} {P : Program} {t e : TypeId} {d : Kd α} {R : α → Prop} {B : Nat} (ht : P.underlying t = some (.slice e)) (hc : P.cellsOf e = d.sz) (hB : P.bytesOf e = B) (ho : Opn P e d R) :
    Opn P t (Kd.slice e d) (fun l => l.length * B ≤ 140737488351232 ∧ l.length ≤ maxLen ∧ ∀ a ∈ l, R a) := by
  intro H enc w base spare held fuel cs x h hw
  rcases open_slice ht h with ⟨rfl, rfl⟩ | ⟨ad, len, cap, m, n, D, Pl, rfl, hb, hl, hm, hmm, rfl, hi⟩
  · exact ⟨[], ⟨none, 0, rfl, Nat.le_refl _, rfl, by simp, fun h => absurd h (by simp)⟩, by simp, by simp [maxLen], fun a ha => by cases ha⟩
  · have hlm : len ≤ m := by rw [hmm]; split <;> omega
    have hwt : ∀ i, i < len → ∀ n ∈ (D i).weights P e, n ≤ reachBytes := by
      intro i hi' n hn
      refine hw n ?_
      simp only [DataW.weights, ht, List.mem_cons, List.mem_append]
      refine Or.inr (Or.inl ?_)
      have key : ∀ (l : List (DataW H)) (y : DataW H), y ∈ l → ∀ n ∈ y.weights P e, n ∈ DataW.weightsAll P e l := by
        intro l
        induction l with
        | nil => intro y hy; cases hy
        | cons z l ih =>
          intro y hy n hn
          simp only [DataW.weightsAll, List.mem_append]
          rcases List.mem_cons.mp hy with rfl | hy
          · exact Or.inl hn
          · exact Or.inr (ih y hy n hn)
      exact key _ (D i) (List.mem_map.mpr ⟨i, by simpa using hi', rfl⟩) n hn
    have hex : ∀ i, i < len → ∃ a cs', d.K w a cs' ∧ R a ∧ w.cells? base (ad.add (i * P.cellsOf e)) (P.cellsOf e) = some cs' := by
      intro i hi'
      obtain ⟨cs', h1, h2⟩ := hi i (by omega)
      obtain ⟨a, hK, hR⟩ := ho h2 (hwt i hi')
      exact ⟨a, cs', hK, hR, h1⟩
    have hw0 : len * B ≤ reachBytes := by
      have := hw ((((List.range len).map D).length + ((List.range (m - len)).map fun j => D (len + j)).length) * P.bytesOf e) (by simp [DataW.weights, ht])
      rw [hB] at this
      simp only [List.length_map, List.length_range] at this
      exact Nat.le_trans (Nat.mul_le_mul_right _ (by omega)) this
    obtain ⟨l, hll, hl2⟩ : ∃ l : List α, l.length = len ∧ ∀ i a, l[i]? = some a → ∃ cs', d.K w a cs' ∧ R a ∧ w.cells? base (ad.add (i * P.cellsOf e)) (P.cellsOf e) = some cs' := by
      clear hw0 hwt hw hlm hmm hm hl hi h
      induction len with
      | zero => exact ⟨[], rfl, fun i a h => by simp at h⟩
      | succ k ih =>
        obtain ⟨l, hll, hl2⟩ := ih (fun i hi' => hex i (by omega))
        obtain ⟨a, cs', h1, h2, h3⟩ := hex k (by omega)
        refine ⟨l ++ [a], by simp [hll], fun i b hb => ?_⟩
        by_cases hik : i < l.length
        · rw [List.getElem?_append_left hik] at hb
          exact hl2 i b hb
        · have hlt := (List.getElem?_eq_some_iff.1 hb).1
          rw [List.length_append, List.length_singleton] at hlt
          have : i = l.length := by omega
          subst this
          rw [List.getElem?_append_right (Nat.le_refl _)] at hb
          simp at hb
          subst hb
          rw [hll]
          exact ⟨cs', h1, h2, h3⟩
    have hmax : len ≤ maxLen := Nat.le_trans hl hm
    refine ⟨l, ⟨some ad, cap, by rw [hll], by omega, ⟨rfl, by rw [hll]; unfold maxLen at hmax; omega, fun _ => ⟨ad, rfl, fun j p hj => ?_⟩⟩⟩, by rw [hll]; exact hw0, by rw [hll]; exact hmax, fun a ha => ?_⟩
    · obtain ⟨cs', h1, _, h3⟩ := hl2 j p hj
      refine ⟨cs', d.K_len h1, h1, fun i u hu => ?_⟩
      have := cells_at h3 i u hu
      rw [Go.Deep.add_add, hc] at this
      exact this
    · obtain ⟨i, hi', rfl⟩ := List.mem_iff_getElem.mp ha
      obtain ⟨_, _, hR, _⟩ := hl2 i _ (List.getElem?_eq_getElem hi')
      exact hR
theorem wt_field {H : Type} {P : Program} {t f : TypeId} {fs : Array Field} {parts : List (DataW H)} {y : DataW H} {j : Nat} (ht : P.underlying t = some (.struct fs)) (hw : ∀ n ∈ (DataW.agg parts).weights P t, n ≤ reachBytes)
    (hf : (fs.toList.map (·.type))[j]? = some f) (hy : parts[j]? = some y) : ∀ n ∈ y.weights P f, n ≤ reachBytes := by
  intro n hn
  refine hw n ?_
  simp only [DataW.weights, ht]
  exact DataW.weights_mem_each hf hy n hn
theorem wt_arg {H : Type} {P : Program} {ts : List TypeId} {ds : List (DataW H)} {j : Nat} {t : TypeId} {d : DataW H} (h : (DataW.weightsEach P ts ds).all (· ≤ reachBytes) = true) (ht : ts[j]? = some t) (hd : ds[j]? = some d) : ∀ n ∈ d.weights P t, n ≤ reachBytes := by
  intro n hn
  have := List.all_eq_true.1 h _ (DataW.weights_mem_each ht hd n hn)
  simpa using this
section
variable {H : Type} {enc : TypeId × Value → H} {P : Program} {w : World} {base : Nat} {spare : Nat → Bool} {held : Bool}
theorem open_agg5 {r : Reach} {b0 : Nat} {t : TypeId} {f0 f1 f2 f3 f4 : Field} {v : Value} {d : DataW H} {p : List MemPlace} (hs : P.underlying t = some (.struct #[f0, f1, f2, f3, f4])) (hone : oneCellFields P #[f0, f1, f2, f3, f4] = true) (hC : P.cellsOf t = 5)
    (hv : Value.okWide P w r b0 t v) (h : DataW.Trod enc P w base spare held t v d p) :
    ∃ (v0 v1 v2 v3 v4 : Value) (y0 y1 y2 y3 y4 : DataW H × List MemPlace) (n : Nat), v = .agg #[v0, v1, v2, v3, v4] ∧ d = .agg [y0.1, y1.1, y2.1, y3.1, y4.1] ∧ p = y0.2 ++ (y1.2 ++ (y2.2 ++ (y3.2 ++ y4.2))) ∧
      DataW.trod enc P w base spare held n f0.type [v0] = some y0 ∧ DataW.trod enc P w base spare held n f1.type [v1] = some y1 ∧ DataW.trod enc P w base spare held n f2.type [v2] = some y2 ∧ DataW.trod enc P w base spare held n f3.type [v3] = some y3 ∧ DataW.trod enc P w base spare held n f4.type [v4] = some y4 := by
  obtain ⟨cs, rfl, hsz⟩ := okWide_struct hs hv
  obtain ⟨l⟩ := cs
  match l, hsz.trans hC with
  | [c0, c1, c2, c3, c4], _ =>
    obtain ⟨fuel, hf⟩ := h
    obtain ⟨xs, n, _, hx, _, hlen, hg⟩ := DataW.trod_struct hs hf
    obtain ⟨o0, k0⟩ := hone_of hone 0 f0 rfl
    obtain ⟨o1, k1⟩ := hone_of hone 1 f1 rfl
    obtain ⟨o2, k2⟩ := hone_of hone 2 f2 rfl
    obtain ⟨o3, k3⟩ := hone_of hone 3 f3 rfl
    obtain ⟨o4, k4⟩ := hone_of hone 4 f4 rfl
    match xs, hlen with
    | [y0, y1, y2, y3, y4], _ =>
      simp only [Prod.mk.injEq] at hx
      exact ⟨c0, c1, c2, c3, c4, y0, y1, y2, y3, y4, n, rfl, by simpa using hx.1, by simpa using hx.2, by simpa [Value.cells, o0, k0] using hg 0 f0 rfl, by simpa [Value.cells, o1, k1] using hg 1 f1 rfl, by simpa [Value.cells, o2, k2] using hg 2 f2 rfl, by simpa [Value.cells, o3, k3] using hg 3 f3 rfl, by simpa [Value.cells, o4, k4] using hg 4 f4 rfl⟩
theorem open_agg6 {r : Reach} {b0 : Nat} {t : TypeId} {f0 f1 f2 f3 f4 f5 : Field} {v : Value} {d : DataW H} {p : List MemPlace} (hs : P.underlying t = some (.struct #[f0, f1, f2, f3, f4, f5])) (hone : oneCellFields P #[f0, f1, f2, f3, f4, f5] = true) (hC : P.cellsOf t = 6)
    (hv : Value.okWide P w r b0 t v) (h : DataW.Trod enc P w base spare held t v d p) :
    ∃ (v0 v1 v2 v3 v4 v5 : Value) (y0 y1 y2 y3 y4 y5 : DataW H × List MemPlace) (n : Nat), v = .agg #[v0, v1, v2, v3, v4, v5] ∧ d = .agg [y0.1, y1.1, y2.1, y3.1, y4.1, y5.1] ∧ p = y0.2 ++ (y1.2 ++ (y2.2 ++ (y3.2 ++ (y4.2 ++ y5.2)))) ∧
      DataW.trod enc P w base spare held n f0.type [v0] = some y0 ∧ DataW.trod enc P w base spare held n f1.type [v1] = some y1 ∧ DataW.trod enc P w base spare held n f2.type [v2] = some y2 ∧ DataW.trod enc P w base spare held n f3.type [v3] = some y3 ∧ DataW.trod enc P w base spare held n f4.type [v4] = some y4 ∧ DataW.trod enc P w base spare held n f5.type [v5] = some y5 := by
  obtain ⟨cs, rfl, hsz⟩ := okWide_struct hs hv
  obtain ⟨l⟩ := cs
  match l, hsz.trans hC with
  | [c0, c1, c2, c3, c4, c5], _ =>
    obtain ⟨fuel, hf⟩ := h
    obtain ⟨xs, n, _, hx, _, hlen, hg⟩ := DataW.trod_struct hs hf
    obtain ⟨o0, k0⟩ := hone_of hone 0 f0 rfl
    obtain ⟨o1, k1⟩ := hone_of hone 1 f1 rfl
    obtain ⟨o2, k2⟩ := hone_of hone 2 f2 rfl
    obtain ⟨o3, k3⟩ := hone_of hone 3 f3 rfl
    obtain ⟨o4, k4⟩ := hone_of hone 4 f4 rfl
    obtain ⟨o5, k5⟩ := hone_of hone 5 f5 rfl
    match xs, hlen with
    | [y0, y1, y2, y3, y4, y5], _ =>
      simp only [Prod.mk.injEq] at hx
      exact ⟨c0, c1, c2, c3, c4, c5, y0, y1, y2, y3, y4, y5, n, rfl, by simpa using hx.1, by simpa using hx.2, by simpa [Value.cells, o0, k0] using hg 0 f0 rfl, by simpa [Value.cells, o1, k1] using hg 1 f1 rfl, by simpa [Value.cells, o2, k2] using hg 2 f2 rfl, by simpa [Value.cells, o3, k3] using hg 3 f3 rfl, by simpa [Value.cells, o4, k4] using hg 4 f4 rfl, by simpa [Value.cells, o5, k5] using hg 5 f5 rfl⟩
end

end Go.Proofs.Ytabjambabnbmnaa.Opn
namespace Go.Proofs.Ytabjambabnbmnaa.O5
open Go.RowKit Go.Proofs.YtabjambabnbmnaaW.PrintWords Go.Proofs.YtabjambabnbmnaaW.PrintLast Go.Proofs.YtabjambabnbmnaaW.PrintMore Go.Proofs.Ytabjambabnbmnaa.Opn Go.Proofs.Ytabjambabnbmnaa.Q5
open Go.Joins Go.ChangeShapes Go.WideShapes Go.Deep
set_option linter.unusedVariables false

def R50 (x : S50) : Prop := (Lit.int .i64 x.f0).wf = true ∧ x.f1.size ≤ 140737488351232 ∧ (Lit.int .i64 x.f2).wf = true ∧ (Lit.int .i64 x.f3).wf = true ∧ (Lit.int .i64 x.f4).wf = true ∧ (Lit.int .i64 x.f5).wf = true
set_option maxRecDepth 100000 in
theorem opn50 : Opn Try.prog 50 k50 R50 := by
  intro H enc w base spare held fuel cs x h hw
  obtain ⟨xs, n, _, rfl, hl, hlen, hf⟩ := DataW.trod_struct Try.underlying50 h
  have hl' : cs.length = 6 := hl.trans (by kernel_rfl)
  match cs, hl', xs, hlen with
  | [c0, c1, c2, c3, c4, c5], _, [y0, y1, y2, y3, y4, y5], _ =>
    have g0 : DataW.trod enc Try.prog w base spare held n 3 [c0] = some y0 := by
      have hk : Try.prog.cellsOf 3 = 1 := by kernel_rfl
      have z : DataW.trod enc Try.prog w base spare held n 3 ((([c0, c1, c2, c3, c4, c5] : List Value).drop 0).take (Try.prog.cellsOf 3)) = some y0 := hf 0 _ rfl
      rw [hk] at z
      exact z
    obtain ⟨a0, e0, r0⟩ := (opn_int Try.underlying3) g0 (wt_field (j := 0) Try.underlying50 hw rfl rfl)
    have g1 : DataW.trod enc Try.prog w base spare held n 9 [c1] = some y1 := by
      have hk : Try.prog.cellsOf 9 = 1 := by kernel_rfl
      have z : DataW.trod enc Try.prog w base spare held n 9 ((([c0, c1, c2, c3, c4, c5] : List Value).drop 1).take (Try.prog.cellsOf 9)) = some y1 := hf 1 _ rfl
      rw [hk] at z
      exact z
    obtain ⟨a1, e1, r1⟩ := (opn_string Try.underlying9) g1 (wt_field (j := 1) Try.underlying50 hw rfl rfl)
    have g2 : DataW.trod enc Try.prog w base spare held n 3 [c2] = some y2 := by
      have hk : Try.prog.cellsOf 3 = 1 := by kernel_rfl
      have z : DataW.trod enc Try.prog w base spare held n 3 ((([c0, c1, c2, c3, c4, c5] : List Value).drop 2).take (Try.prog.cellsOf 3)) = some y2 := hf 2 _ rfl
      rw [hk] at z
      exact z
    obtain ⟨a2, e2, r2⟩ := (opn_int Try.underlying3) g2 (wt_field (j := 2) Try.underlying50 hw rfl rfl)
    have g3 : DataW.trod enc Try.prog w base spare held n 3 [c3] = some y3 := by
      have hk : Try.prog.cellsOf 3 = 1 := by kernel_rfl
      have z : DataW.trod enc Try.prog w base spare held n 3 ((([c0, c1, c2, c3, c4, c5] : List Value).drop 3).take (Try.prog.cellsOf 3)) = some y3 := hf 3 _ rfl
      rw [hk] at z
      exact z
    obtain ⟨a3, e3, r3⟩ := (opn_int Try.underlying3) g3 (wt_field (j := 3) Try.underlying50 hw rfl rfl)
    have g4 : DataW.trod enc Try.prog w base spare held n 3 [c4] = some y4 := by
      have hk : Try.prog.cellsOf 3 = 1 := by kernel_rfl
      have z : DataW.trod enc Try.prog w base spare held n 3 ((([c0, c1, c2, c3, c4, c5] : List Value).drop 4).take (Try.prog.cellsOf 3)) = some y4 := hf 4 _ rfl
      rw [hk] at z
      exact z
    obtain ⟨a4, e4, r4⟩ := (opn_int Try.underlying3) g4 (wt_field (j := 4) Try.underlying50 hw rfl rfl)
    have g5 : DataW.trod enc Try.prog w base spare held n 3 [c5] = some y5 := by
      have hk : Try.prog.cellsOf 3 = 1 := by kernel_rfl
      have z : DataW.trod enc Try.prog w base spare held n 3 ((([c0, c1, c2, c3, c4, c5] : List Value).drop 5).take (Try.prog.cellsOf 3)) = some y5 := hf 5 _ rfl
      rw [hk] at z
      exact z
    obtain ⟨a5, e5, r5⟩ := (opn_int Try.underlying3) g5 (wt_field (j := 5) Try.underlying50 hw rfl rfl)
    exact ⟨⟨a0, a1, a2, a3, a4, a5⟩, ⟨[c0], [c1, c2, c3, c4, c5], rfl, e0, ⟨[c1], [c2, c3, c4, c5], rfl, e1, ⟨[c2], [c3, c4, c5], rfl, e2, ⟨[c3], [c4, c5], rfl, e3, ⟨[c4], [c5], rfl, e4, e5⟩⟩⟩⟩⟩, ⟨r0, r1, r2, r3, r4, r5⟩⟩

end Go.Proofs.Ytabjambabnbmnaa.O5
