/- Written by a program of this session out of the print of the loaded functions: each Go function as a plain function, and that its call comes to it; for a law, the row out of its plain statement. -/
import Derived.Test.YtabjambabnbmnaaQ5x0
import Derived.Test.YtabjambabnbmnaaQ5x1
import Derived.Test.YtabjambabnbmnaaQ5x118
import Derived.Test.YtabjambabnbmnaaQ5x128
import Derived.Test.YtabjambabnbmnaaQ5x130
import Derived.Test.YtabjambabnbmnaaQ5x133
import Derived.Test.YtabjambabnbmnaaQ5x137
namespace Go.Proofs.Ytabjambabnbmnaa.Q5
open Go.RowKit Go.Proofs.YtabjambabnbmnaaW.PrintWords Go.Proofs.YtabjambabnbmnaaW.PrintLast Go.Proofs.YtabjambabnbmnaaW.PrintMore
attribute [local go_sem] max2_int min2_int max_two min_two max_three min_three max_four min_four   -- for this text's walks alone
set_option linter.unusedVariables false
set_option linter.unusedSimpArgs false

attribute [local go_sem high] eqA50
/-! ### watchwordlaw5_ChainTimes: function 9 -/
mutual
def watchwordlaw5_ChainTimes.l0 : Nat → List (S50) → Int → Int → Int → Int → Int → Int → ByteArray → Int → Int → Int → Int → Int → ByteArray → Int → Int → Int → Int → Option (Bool)
 | 0, _, _, _, _, _, _, _, _, _, _, _, _, _, _, _, _, _, _ => none
 | k + 1, x0, x1, x7, x9, x11, x12, x365000, x365001, x365002, x365003, x365004, x365005, x373000, x373001, x373002, x373003, x373004, x373005 => if x12 < (x0.length : Int) then (if 0 ≤ x12 then (if ((rd_T50 x0 x12).f2) ≤ x7 then (if x7 < ((rd_T50 x0 x12).f3) then ((watchwordlaw0_Num.f x9).bind fun t381 => (if t381 = 0 then (if ((rd_T50 x0 x12).f2) > x365002 then (watchwordlaw5_ChainTimes.j1 k x0 x1 x7 x9 x11 x12 true x365000 x365001 x365002 x365003 x365004 x365005 x373000 x373001 x373002 x373003 x373004 x373005 ((rd_T50 x0 x12).f0) ((rd_T50 x0 x12).f1) ((rd_T50 x0 x12).f2) ((rd_T50 x0 x12).f3) ((rd_T50 x0 x12).f4) ((rd_T50 x0 x12).f5)) else (if ((rd_T50 x0 x12).f2) = x365002 then (watchwordlaw5_ChainTimes.j1 k x0 x1 x7 x9 x11 x12 (decide (((rd_T50 x0 x12).f0) > x365000)) x365000 x365001 x365002 x365003 x365004 x365005 x373000 x373001 x373002 x373003 x373004 x373005 ((rd_T50 x0 x12).f0) ((rd_T50 x0 x12).f1) ((rd_T50 x0 x12).f2) ((rd_T50 x0 x12).f3) ((rd_T50 x0 x12).f4) ((rd_T50 x0 x12).f5)) else (watchwordlaw5_ChainTimes.j1 k x0 x1 x7 x9 x11 x12 false x365000 x365001 x365002 x365003 x365004 x365005 x373000 x373001 x373002 x373003 x373004 x373005 ((rd_T50 x0 x12).f0) ((rd_T50 x0 x12).f1) ((rd_T50 x0 x12).f2) ((rd_T50 x0 x12).f3) ((rd_T50 x0 x12).f4) ((rd_T50 x0 x12).f5)))) else (watchwordlaw5_ChainTimes.j1 k x0 x1 x7 x9 x11 x12 true x365000 x365001 x365002 x365003 x365004 x365005 x373000 x373001 x373002 x373003 x373004 x373005 ((rd_T50 x0 x12).f0) ((rd_T50 x0 x12).f1) ((rd_T50 x0 x12).f2) ((rd_T50 x0 x12).f3) ((rd_T50 x0 x12).f4) ((rd_T50 x0 x12).f5)))) else (watchwordlaw5_ChainTimes.j1 k x0 x1 x7 x9 x11 x12 false x365000 x365001 x365002 x365003 x365004 x365005 x373000 x373001 x373002 x373003 x373004 x373005 ((rd_T50 x0 x12).f0) ((rd_T50 x0 x12).f1) ((rd_T50 x0 x12).f2) ((rd_T50 x0 x12).f3) ((rd_T50 x0 x12).f4) ((rd_T50 x0 x12).f5))) else (watchwordlaw5_ChainTimes.j1 k x0 x1 x7 x9 x11 x12 false x365000 x365001 x365002 x365003 x365004 x365005 x373000 x373001 x373002 x373003 x373004 x373005 ((rd_T50 x0 x12).f0) ((rd_T50 x0 x12).f1) ((rd_T50 x0 x12).f2) ((rd_T50 x0 x12).f3) ((rd_T50 x0 x12).f4) ((rd_T50 x0 x12).f5))) else (none)) else ((watchwordlaw0_Num.f x9).bind fun t376 => (if t376 = 0 then (if x365002 ≤ x7 then (if x7 < x365003 then ((watchwordlaw0_Num.f x11).bind fun t377 => (if t377 = 0 then (if x373000 = (Go.bits .and .i64 x1 255) then (if x373004 ≤ x7 then (some (decide (x7 < x373005))) else (some false)) else (some false)) else (some true))) else (some false)) else (some false)) else ((watchwordlaw0_Num.f x11).bind fun t378 => (if t378 = 0 then (if x373000 = (Go.bits .and .i64 x1 255) then (if x373004 ≤ x7 then (some (decide (x7 < x373005))) else (some false)) else (some false)) else (some true)))))
def watchwordlaw5_ChainTimes.j1 : Nat → List (S50) → Int → Int → Int → Int → Int → Bool → Int → ByteArray → Int → Int → Int → Int → Int → ByteArray → Int → Int → Int → Int → Int → ByteArray → Int → Int → Int → Int → Option (Bool)
 | 0, _, _, _, _, _, _, _, _, _, _, _, _, _, _, _, _, _, _, _, _, _, _, _, _, _ => none
 | k + 1, x0, x1, x7, x9, x11, x12, x88, x365000, x365001, x365002, x365003, x365004, x365005, x373000, x373001, x373002, x373003, x373004, x373005, x381000, x381001, x381002, x381003, x381004, x381005 => if x88 = true then (some false) else (if x381000 = (Go.bits .and .i64 x1 255) then (if x381004 ≤ x7 then (if x7 < x381005 then ((watchwordlaw0_Num.f x11).bind fun t382 => (if t382 = 0 then (if (!(x373000 == x381000) || (!(x373001.toList == x381001.toList) || (!(x373002 == x381002) || (!(x373003 == x381003) || (!(x373004 == x381004) || (!(x373005 == x381005))))))) = true then (some false) else (watchwordlaw5_ChainTimes.l0 k x0 x1 x7 x9 x11 (wrap64 (x12 + 1)) x365000 x365001 x365002 x365003 x365004 x365005 x373000 x373001 x373002 x373003 x373004 x373005)) else (some false))) else (watchwordlaw5_ChainTimes.l0 k x0 x1 x7 x9 x11 (wrap64 (x12 + 1)) x365000 x365001 x365002 x365003 x365004 x365005 x373000 x373001 x373002 x373003 x373004 x373005)) else (watchwordlaw5_ChainTimes.l0 k x0 x1 x7 x9 x11 (wrap64 (x12 + 1)) x365000 x365001 x365002 x365003 x365004 x365005 x373000 x373001 x373002 x373003 x373004 x373005)) else (watchwordlaw5_ChainTimes.l0 k x0 x1 x7 x9 x11 (wrap64 (x12 + 1)) x365000 x365001 x365002 x365003 x365004 x365005 x373000 x373001 x373002 x373003 x373004 x373005))
end
def watchwordlaw5_ChainTimes.f (k : Nat) (l0 : List (S50)) (a1 : Int) (a2 : Int) : Option (Bool) := (watchwordlaw5_awake.f k).bind fun t356 => (if t356 = true then ((chain_Send.f k l0 (Go.bits .and .i64 a2 1023)).bind fun bt357 => ((chain_Accept.f k l0 (Go.bits .and .i64 a1 255) (Go.bits .and .i64 a2 1023)).bind fun bt365 => ((chain_May.f k l0).bind fun t373 => (if t373 = true then (watchwordlaw5_ChainTimes.l0 k l0 a1 (Go.bits .and .i64 a2 1023) bt357.2.2.2.2.2.2 bt365.2.2.2.2.2.2 0 bt357.1 bt357.2.1 bt357.2.2.1 bt357.2.2.2.1 bt357.2.2.2.2.1 bt357.2.2.2.2.2.1 bt365.1 bt365.2.1 bt365.2.2.1 bt365.2.2.2.1 bt365.2.2.2.2.1 bt365.2.2.2.2.2.1) else ((watchwordlaw0_Num.f bt357.2.2.2.2.2.2).bind fun t374 => (if t374 = 500 then ((watchwordlaw0_Num.f bt365.2.2.2.2.2.2).bind fun t375 => (some (t375 == 500))) else (some false))))))) else (some false))
theorem watchwordlaw5_ChainTimes.mono_l : ∀ k, (∀ y0 y1 y2 y3 y4 y5 y6 y7 y8 y9 y10 y11 y12 y13 y14 y15 y16 y17, LeO (watchwordlaw5_ChainTimes.l0 k y0 y1 y2 y3 y4 y5 y6 y7 y8 y9 y10 y11 y12 y13 y14 y15 y16 y17) (watchwordlaw5_ChainTimes.l0 (k + 1) y0 y1 y2 y3 y4 y5 y6 y7 y8 y9 y10 y11 y12 y13 y14 y15 y16 y17)) ∧ (∀ y0 y1 y2 y3 y4 y5 y6 y7 y8 y9 y10 y11 y12 y13 y14 y15 y16 y17 y18 y19 y20 y21 y22 y23 y24, LeO (watchwordlaw5_ChainTimes.j1 k y0 y1 y2 y3 y4 y5 y6 y7 y8 y9 y10 y11 y12 y13 y14 y15 y16 y17 y18 y19 y20 y21 y22 y23 y24) (watchwordlaw5_ChainTimes.j1 (k + 1) y0 y1 y2 y3 y4 y5 y6 y7 y8 y9 y10 y11 y12 y13 y14 y15 y16 y17 y18 y19 y20 y21 y22 y23 y24))
 | 0 => ⟨fun _ _ _ _ _ _ _ _ _ _ _ _ _ _ _ _ _ _ r h => by simp [watchwordlaw5_ChainTimes.l0] at h, fun _ _ _ _ _ _ _ _ _ _ _ _ _ _ _ _ _ _ _ _ _ _ _ _ _ r h => by simp [watchwordlaw5_ChainTimes.j1] at h⟩
 | k + 1 => by
  obtain ⟨ih0, ih1⟩ := watchwordlaw5_ChainTimes.mono_l k
  refine ⟨?_, ?_⟩
  ·intro y0 y1 y2 y3 y4 y5 y6 y7 y8 y9 y10 y11 y12 y13 y14 y15 y16 y17
   unfold watchwordlaw5_ChainTimes.l0
   repeat' first
   | (with_reducible exact ih0 _ _ _ _ _ _ _ _ _ _ _ _ _ _ _ _ _ _)
   | (with_reducible exact ih1 _ _ _ _ _ _ _ _ _ _ _ _ _ _ _ _ _ _ _ _ _ _ _ _ _)
   | (with_reducible exact chain_Accept.mono _ _ _ _)
   | (with_reducible exact chain_May.mono _ _)
   | (with_reducible exact chain_Send.mono _ _ _)
   | (with_reducible exact watchwordlaw5_awake.mono _)
   | (with_reducible exact LeO.refl _)
   | (with_reducible exact LeO.none _)
   | (with_reducible refine LeO.ite ?_ ?_)
   | (with_reducible refine LeO.bind ?_ (fun _ => ?_))
   | exact ih0 _ _ _ _ _ _ _ _ _ _ _ _ _ _ _ _ _ _
   | exact ih1 _ _ _ _ _ _ _ _ _ _ _ _ _ _ _ _ _ _ _ _ _ _ _ _ _
   | exact chain_Accept.mono _ _ _ _
   | exact chain_May.mono _ _
   | exact chain_Send.mono _ _ _
   | exact watchwordlaw5_awake.mono _
   | exact LeO.none _
   | refine LeO.ite ?_ ?_
   | refine LeO.bind ?_ (fun _ => ?_)
  ·intro y0 y1 y2 y3 y4 y5 y6 y7 y8 y9 y10 y11 y12 y13 y14 y15 y16 y17 y18 y19 y20 y21 y22 y23 y24
   unfold watchwordlaw5_ChainTimes.j1
   repeat' first
   | (with_reducible exact ih0 _ _ _ _ _ _ _ _ _ _ _ _ _ _ _ _ _ _)
   | (with_reducible exact ih1 _ _ _ _ _ _ _ _ _ _ _ _ _ _ _ _ _ _ _ _ _ _ _ _ _)
   | (with_reducible exact chain_Accept.mono _ _ _ _)
   | (with_reducible exact chain_May.mono _ _)
   | (with_reducible exact chain_Send.mono _ _ _)
   | (with_reducible exact watchwordlaw5_awake.mono _)
   | (with_reducible exact LeO.refl _)
   | (with_reducible exact LeO.none _)
   | (with_reducible refine LeO.ite ?_ ?_)
   | (with_reducible refine LeO.bind ?_ (fun _ => ?_))
   | exact ih0 _ _ _ _ _ _ _ _ _ _ _ _ _ _ _ _ _ _
   | exact ih1 _ _ _ _ _ _ _ _ _ _ _ _ _ _ _ _ _ _ _ _ _ _ _ _ _
   | exact chain_Accept.mono _ _ _ _
   | exact chain_May.mono _ _
   | exact chain_Send.mono _ _ _
   | exact watchwordlaw5_awake.mono _
   | exact LeO.none _
   | refine LeO.ite ?_ ?_
   | refine LeO.bind ?_ (fun _ => ?_)
theorem watchwordlaw5_ChainTimes.mono : ∀ a0 a1 a2 k, LeO (watchwordlaw5_ChainTimes.f k a0 a1 a2) (watchwordlaw5_ChainTimes.f (k + 1) a0 a1 a2) := by
 intro a0 a1 a2 k
 obtain ⟨ih0, ih1⟩ := watchwordlaw5_ChainTimes.mono_l k
 unfold watchwordlaw5_ChainTimes.f
 repeat' first
   | (with_reducible exact ih0 _ _ _ _ _ _ _ _ _ _ _ _ _ _ _ _ _ _)
   | (with_reducible exact ih1 _ _ _ _ _ _ _ _ _ _ _ _ _ _ _ _ _ _ _ _ _ _ _ _ _)
   | (with_reducible exact chain_Accept.mono _ _ _ _)
   | (with_reducible exact chain_May.mono _ _)
   | (with_reducible exact chain_Send.mono _ _ _)
   | (with_reducible exact watchwordlaw5_awake.mono _)
   | (with_reducible exact LeO.refl _)
   | (with_reducible exact LeO.none _)
   | (with_reducible refine LeO.ite ?_ ?_)
   | (with_reducible refine LeO.bind ?_ (fun _ => ?_))
   | exact ih0 _ _ _ _ _ _ _ _ _ _ _ _ _ _ _ _ _ _
   | exact ih1 _ _ _ _ _ _ _ _ _ _ _ _ _ _ _ _ _ _ _ _ _ _ _ _ _
   | exact chain_Accept.mono _ _ _ _
   | exact chain_May.mono _ _
   | exact chain_Send.mono _ _ _
   | exact watchwordlaw5_awake.mono _
   | exact LeO.none _
   | refine LeO.ite ?_ ?_
   | refine LeO.bind ?_ (fun _ => ?_)
set_option maxHeartbeats 8000000 in
set_option maxRecDepth 100000 in
theorem watchwordlaw5_ChainTimes.calls (k : Nat) (A0 : Option Addr) (c0 : Nat) (l0 : List (S50)) (a1 : Int) (a2 : Int) (r : Bool) (w : World) (hr0 : Kd.C k50 w A0 l0.length l0) (hc0 : l0.length ≤ c0) (h : watchwordlaw5_ChainTimes.f k l0 a1 a2 = some r) (hT : r = true) :
  Calls Try.prog 9 #[.slice A0 l0.length c0, .int .i64 a1, .int .i64 a2] w fun e w' => e = .returned (.bool r) ∧ Below w.heap.size w w' := by
 have hu50 := Try.underlying50
 have HR0 := Aside0.mk hr0
 have HC0 := Aside0.mk hc0
 clear hr0 hc0
 have HB := Aside0.mk (Below.refl w.heap.size w)
 have HT := Aside0.mk hT
 clear hT
 have H : ((watchwordlaw5_awake.f k).bind fun t356 => (if t356 = true then ((chain_Send.f k l0 (Go.bits .and .i64 a2 1023)).bind fun bt357 => ((chain_Accept.f k l0 (Go.bits .and .i64 a1 255) (Go.bits .and .i64 a2 1023)).bind fun bt365 => ((chain_May.f k l0).bind fun t373 => (if t373 = true then (watchwordlaw5_ChainTimes.l0 k l0 a1 (Go.bits .and .i64 a2 1023) bt357.2.2.2.2.2.2 bt365.2.2.2.2.2.2 0 bt357.1 bt357.2.1 bt357.2.2.1 bt357.2.2.2.1 bt357.2.2.2.2.1 bt357.2.2.2.2.2.1 bt365.1 bt365.2.1 bt365.2.2.1 bt365.2.2.2.1 bt365.2.2.2.2.1 bt365.2.2.2.2.2.1) else ((watchwordlaw0_Num.f bt357.2.2.2.2.2.2).bind fun t374 => (if t374 = 500 then ((watchwordlaw0_Num.f bt365.2.2.2.2.2.2).bind fun t375 => (some (t375 == 500))) else (some false))))))) else (some false))) = some r := h
 clear h
 replace H := Option.bind_eq_some_iff.mp H
 obtain ⟨t356, A40, H⟩ := H
 replace H : (if t356 = true then ((chain_Send.f k l0 (Go.bits .and .i64 a2 1023)).bind fun bt357 => ((chain_Accept.f k l0 (Go.bits .and .i64 a1 255) (Go.bits .and .i64 a2 1023)).bind fun bt365 => ((chain_May.f k l0).bind fun t373 => (if t373 = true then (watchwordlaw5_ChainTimes.l0 k l0 a1 (Go.bits .and .i64 a2 1023) bt357.2.2.2.2.2.2 bt365.2.2.2.2.2.2 0 bt357.1 bt357.2.1 bt357.2.2.1 bt357.2.2.2.1 bt357.2.2.2.2.1 bt357.2.2.2.2.2.1 bt365.1 bt365.2.1 bt365.2.2.1 bt365.2.2.2.1 bt365.2.2.2.2.1 bt365.2.2.2.2.2.1) else ((watchwordlaw0_Num.f bt357.2.2.2.2.2.2).bind fun t374 => (if t374 = 500 then ((watchwordlaw0_Num.f bt365.2.2.2.2.2.2).bind fun t375 => (some (t375 == 500))) else (some false))))))) else (some false)) = some r := H
 have A4 := Aside0.mk A40
 clear A40
 by_cases c5 : t356 = true
 ·subst c5
  have H1 : ((chain_Send.f k l0 (Go.bits .and .i64 a2 1023)).bind fun bt357 => ((chain_Accept.f k l0 (Go.bits .and .i64 a1 255) (Go.bits .and .i64 a2 1023)).bind fun bt365 => ((chain_May.f k l0).bind fun t373 => (if t373 = true then (watchwordlaw5_ChainTimes.l0 k l0 a1 (Go.bits .and .i64 a2 1023) bt357.2.2.2.2.2.2 bt365.2.2.2.2.2.2 0 bt357.1 bt357.2.1 bt357.2.2.1 bt357.2.2.2.1 bt357.2.2.2.2.1 bt357.2.2.2.2.2.1 bt365.1 bt365.2.1 bt365.2.2.1 bt365.2.2.2.1 bt365.2.2.2.2.1 bt365.2.2.2.2.2.1) else ((watchwordlaw0_Num.f bt357.2.2.2.2.2.2).bind fun t374 => (if t374 = 500 then ((watchwordlaw0_Num.f bt365.2.2.2.2.2.2).bind fun t375 => (some (t375 == 500))) else (some false))))))) = some r := by rw [if_pos rfl] at H; exact H
  clear H
  have H := H1
  clear H1
  replace H := Option.bind_eq_some_iff.mp H
  obtain ⟨⟨t357, t358, t359, t360, t361, t362, t363⟩, A60, H⟩ := H
  replace H : ((chain_Accept.f k l0 (Go.bits .and .i64 a1 255) (Go.bits .and .i64 a2 1023)).bind fun bt365 => ((chain_May.f k l0).bind fun t373 => (if t373 = true then (watchwordlaw5_ChainTimes.l0 k l0 a1 (Go.bits .and .i64 a2 1023) t363 bt365.2.2.2.2.2.2 0 t357 t358 t359 t360 t361 t362 bt365.1 bt365.2.1 bt365.2.2.1 bt365.2.2.2.1 bt365.2.2.2.2.1 bt365.2.2.2.2.2.1) else ((watchwordlaw0_Num.f t363).bind fun t374 => (if t374 = 500 then ((watchwordlaw0_Num.f bt365.2.2.2.2.2.2).bind fun t375 => (some (t375 == 500))) else (some false)))))) = some r := H
  have A6 := Aside0.mk A60
  clear A60
  replace H := Option.bind_eq_some_iff.mp H
  obtain ⟨⟨t365, t366, t367, t368, t369, t370, t371⟩, A70, H⟩ := H
  replace H : ((chain_May.f k l0).bind fun t373 => (if t373 = true then (watchwordlaw5_ChainTimes.l0 k l0 a1 (Go.bits .and .i64 a2 1023) t363 t371 0 t357 t358 t359 t360 t361 t362 t365 t366 t367 t368 t369 t370) else ((watchwordlaw0_Num.f t363).bind fun t374 => (if t374 = 500 then ((watchwordlaw0_Num.f t371).bind fun t375 => (some (t375 == 500))) else (some false))))) = some r := H
  have A7 := Aside0.mk A70
  clear A70
  replace H := Option.bind_eq_some_iff.mp H
  obtain ⟨t373, A80, H⟩ := H
  replace H : (if t373 = true then (watchwordlaw5_ChainTimes.l0 k l0 a1 (Go.bits .and .i64 a2 1023) t363 t371 0 t357 t358 t359 t360 t361 t362 t365 t366 t367 t368 t369 t370) else ((watchwordlaw0_Num.f t363).bind fun t374 => (if t374 = 500 then ((watchwordlaw0_Num.f t371).bind fun t375 => (some (t375 == 500))) else (some false)))) = some r := H
  have A8 := Aside0.mk A80
  clear A80
  by_cases c9 : t373 = true
  ·subst c9
   have H1 : (watchwordlaw5_ChainTimes.l0 k l0 a1 (Go.bits .and .i64 a2 1023) t363 t371 0 t357 t358 t359 t360 t361 t362 t365 t366 t367 t368 t369 t370) = some r := by rw [if_pos rfl] at H; exact H
   clear H
   have H := H1
   clear H1
   have H' := Aside0.mk H
   clear H
   go_enter Try.func9, Try.ntmps9
   go_wp2_with (first | ((with_reducible refine gate_callee (f := 37) rfl ?_); refine goesL_ (some 14) rfl rfl Try.func37 (by kernel_rfl) rfl #[] rfl (by (try simp only [List.map_toArray, List.map_cons, List.map_nil]); first | done | rfl | (simp only [List.length_drop, List.length_take]; rfl)) ?_; (with_reducible refine (watchwordlaw5_awake.calls k  true _ A4.out (by first | rfl | exact HT.out)).mono ?_); rintro e w10 ⟨rfl, hb⟩; refine ⟨_, rfl, ?_⟩; have n0_ := Aside0.mk (below_step (by repeat (first | (with_reducible first | exact HB.out | apply below_alloc | apply pw_below_drewN | apply below_drew1) | exact HB.out)) hb); clear HB; have HB := n0_; clear n0_; (try clear hb); (try clear hb2); (try clear hk); (try clear hi)) | ((with_reducible refine gate_callee (f := 28) rfl ?_); refine goesL_ (some 21) rfl rfl Try.func28 (by kernel_rfl) rfl #[.slice A0 l0.length c0, .int .i64 (Go.bits .and .i64 a2 1023)] rfl (by (try simp only [List.map_toArray, List.map_cons, List.map_nil]); first | done | rfl | (simp only [List.length_drop, List.length_take]; rfl)) ?_; (with_reducible refine (chain_Send.calls k _ _ l0 (Go.bits .and .i64 a2 1023) t357 t358 t359 t360 t361 t362 t363 _ ?side1 ?side2 A6.out).mono ?_); (case side1 => repeat (first | exact (Kd.C_below HR0.out HB.out) | (with_reducible refine Kd.C_alloc ?_ _) | (with_reducible refine Kd.C_drewN ?_ _) | (with_reducible refine Kd.C_drew ?_))); (case side2 => exact HC0.out); rintro e w11 ⟨rfl, hb⟩; refine ⟨_, rfl, ?_⟩; have n0_ := Aside0.mk (below_step (by repeat (first | (with_reducible first | exact HB.out | apply below_alloc | apply pw_below_drewN | apply below_drew1) | exact HB.out)) hb); clear HB; have HB := n0_; clear n0_; (try clear hb); (try clear hb2); (try clear hk); (try clear hi)) | ((with_reducible refine gate_dst (N := 8) rfl ?_); refine box_event ?hg (N := 8) ?hd (cs := #[.int .i64 0, .string (⟨#[]⟩ : ByteArray), .int .i64 0, .int .i64 0, .int .i64 0, .int .i64 0]) (t := 50) ?hr ?_; (case hd => rfl); (case hg => rfl); (case hr => first | (go_simp; done) | (go_simp; rfl)); intro gb364 hg w12 hbox hb; have n0_ := Aside0.mk (below_step (by repeat (first | (with_reducible first | exact HB.out | apply below_alloc | apply pw_below_drewN | apply below_drew1) | exact HB.out)) hb); have n1_ := Aside0.mk (hbox); have n2_ := Aside0.mk ((by rw [hg]; exact (below_size (by repeat (first | (with_reducible first | exact HB.out | apply below_alloc | apply pw_below_drewN | apply below_drew1) | exact HB.out))) : w.heap.size ≤ gb364)); have n3_ := Aside0.mk ((by rw [hg]; exact (below_size (by repeat (first | (with_reducible first | exact HB.out | apply below_alloc | apply pw_below_drewN | apply below_drew1) | exact HB.out))) : w.heap.size ≤ gb364)); clear HB; have HB := n0_; have BK364 := n1_; have GW364 := n2_; have GE364 := n3_; clear n0_ n1_ n2_ n3_; clear hb hbox hg; have hcz13_0 : w12.cell? ⟨gb364, 0, none⟩ = some (.int .i64 0) := (blk_cell BK364.out 0).trans rfl; have hcz13_1 : w12.cell? ⟨gb364, 1, none⟩ = some (.string (⟨#[]⟩ : ByteArray)) := (blk_cell BK364.out 1).trans rfl; have hcz13_2 : w12.cell? ⟨gb364, 2, none⟩ = some (.int .i64 0) := (blk_cell BK364.out 2).trans rfl; have hcz13_3 : w12.cell? ⟨gb364, 3, none⟩ = some (.int .i64 0) := (blk_cell BK364.out 3).trans rfl; have hcz13_4 : w12.cell? ⟨gb364, 4, none⟩ = some (.int .i64 0) := (blk_cell BK364.out 4).trans rfl; have hcz13_5 : w12.cell? ⟨gb364, 5, none⟩ = some (.int .i64 0) := (blk_cell BK364.out 5).trans rfl; have hfz13_0 := blk_frozen BK364.out 0; have hfz13_1 := blk_frozen BK364.out 1; have hfz13_2 := blk_frozen BK364.out 2; have hfz13_3 := blk_frozen BK364.out 3; have hfz13_4 := blk_frozen BK364.out 4; have hfz13_5 := blk_frozen BK364.out 5) | ((with_reducible refine gate_store (t := 50) (p := 8) rfl ?_); refine store_event (t := 50) (p := 8) (v := ?vo_w14) (w1 := ((((((w12.setCell ⟨gb364, 0, none⟩ (.int .i64 t357)).setCell ⟨gb364, 1, none⟩ (.string t358)).setCell ⟨gb364, 2, none⟩ (.int .i64 t359)).setCell ⟨gb364, 3, none⟩ (.int .i64 t360)).setCell ⟨gb364, 4, none⟩ (.int .i64 t361)).setCell ⟨gb364, 5, none⟩ (.int .i64 t362))) ?hg ?ho ?hn ?hr ?_; (case ho => rfl); (case hg => rfl); (case hn => rfl); (case hr => first | (go_simp; done) | (go_simp; rfl)); intro w14 hw; have n0_ : Aside0 (w14.heap[gb364]? = some (.cells #[.int .i64 t357, .string t358, .int .i64 t359, .int .i64 t360, .int .i64 t361, .int .i64 t362] 50 (0, 0))) := ⟨(by rw [hw]; exact (by (with_reducible repeat (first | refine blk_drewN ?_ _ | refine blk_drew ?_ | refine blk_alloc ?_ _)); refine blk_put (cs := #[.int .i64 t357, .string t358, .int .i64 t359, .int .i64 t360, .int .i64 t361, .int .i64 0]) ?_ 5 _ rfl; (with_reducible repeat (first | refine blk_drewN ?_ _ | refine blk_drew ?_ | refine blk_alloc ?_ _)); refine blk_put (cs := #[.int .i64 t357, .string t358, .int .i64 t359, .int .i64 t360, .int .i64 0, .int .i64 0]) ?_ 4 _ rfl; (with_reducible repeat (first | refine blk_drewN ?_ _ | refine blk_drew ?_ | refine blk_alloc ?_ _)); refine blk_put (cs := #[.int .i64 t357, .string t358, .int .i64 t359, .int .i64 0, .int .i64 0, .int .i64 0]) ?_ 3 _ rfl; (with_reducible repeat (first | refine blk_drewN ?_ _ | refine blk_drew ?_ | refine blk_alloc ?_ _)); refine blk_put (cs := #[.int .i64 t357, .string t358, .int .i64 0, .int .i64 0, .int .i64 0, .int .i64 0]) ?_ 2 _ rfl; (with_reducible repeat (first | refine blk_drewN ?_ _ | refine blk_drew ?_ | refine blk_alloc ?_ _)); refine blk_put (cs := #[.int .i64 t357, .string (⟨#[]⟩ : ByteArray), .int .i64 0, .int .i64 0, .int .i64 0, .int .i64 0]) ?_ 1 _ rfl; (with_reducible repeat (first | refine blk_drewN ?_ _ | refine blk_drew ?_ | refine blk_alloc ?_ _)); refine blk_put (cs := #[.int .i64 0, .string (⟨#[]⟩ : ByteArray), .int .i64 0, .int .i64 0, .int .i64 0, .int .i64 0]) ?_ 0 _ rfl; (with_reducible repeat (first | refine blk_drewN ?_ _ | refine blk_drew ?_ | refine blk_alloc ?_ _)); exact BK364.out))⟩; have n1_ : Aside0 (Below w.heap.size w w14) := ⟨(by rw [hw]; exact (by repeat (first | (with_reducible first | exact HB.out | apply below_alloc | apply pw_below_drewN | apply below_drew1 | refine below_set ?_ GE364.out) | exact HB.out)))⟩; clear hw; clear BK364; clear HB; have BK364 := n0_; have HB := n1_; clear n0_ n1_) | ((with_reducible refine gate_callee (f := 30) rfl ?_); refine goesL_ (some 29) rfl rfl Try.func30 (by kernel_rfl) rfl #[.slice A0 l0.length c0, .int .i64 (Go.bits .and .i64 a1 255), .int .i64 (Go.bits .and .i64 a2 1023)] rfl (by (try simp only [List.map_toArray, List.map_cons, List.map_nil]); first | done | rfl | (simp only [List.length_drop, List.length_take]; rfl)) ?_; (with_reducible refine (chain_Accept.calls k _ _ l0 (Go.bits .and .i64 a1 255) (Go.bits .and .i64 a2 1023) t365 t366 t367 t368 t369 t370 t371 _ ?side1 ?side2 A7.out).mono ?_); (case side1 => repeat (first | exact (Kd.C_below HR0.out HB.out) | (with_reducible refine Kd.C_alloc ?_ _) | (with_reducible refine Kd.C_drewN ?_ _) | (with_reducible refine Kd.C_drew ?_))); (case side2 => exact HC0.out); rintro e w15 ⟨rfl, hb⟩; refine ⟨_, rfl, ?_⟩; have n0_ := Aside0.mk (blk_below (g := gb364) (o := .cells #[.int .i64 t357, .string t358, .int .i64 t359, .int .i64 t360, .int .i64 t361, .int .i64 t362] 50 (0, 0)) (by (with_reducible repeat (first | refine blk_drewN ?_ _ | refine blk_drew ?_ | refine blk_alloc ?_ _)); exact BK364.out) hb); have n1_ := Aside0.mk (below_step (by repeat (first | (with_reducible first | exact HB.out | apply below_alloc | apply pw_below_drewN | apply below_drew1 | refine below_set ?_ GE364.out) | exact HB.out)) hb); clear BK364; clear HB; have BK364 := n0_; have HB := n1_; clear n0_ n1_; (try clear hb); (try clear hb2); (try clear hk); (try clear hi)) | ((with_reducible refine gate_dst (N := 10) rfl ?_); refine box_event ?hg (N := 10) ?hd (cs := #[.int .i64 0, .string (⟨#[]⟩ : ByteArray), .int .i64 0, .int .i64 0, .int .i64 0, .int .i64 0]) (t := 50) ?hr ?_; (case hd => rfl); (case hg => rfl); (case hr => first | (go_simp; done) | (go_simp; rfl)); intro gb372 hg w16 hbox hb; have n0_ := Aside0.mk (blk_below (g := gb364) (o := .cells #[.int .i64 t357, .string t358, .int .i64 t359, .int .i64 t360, .int .i64 t361, .int .i64 t362] 50 (0, 0)) (by (with_reducible repeat (first | refine blk_drewN ?_ _ | refine blk_drew ?_ | refine blk_alloc ?_ _)); exact BK364.out) hb); have n1_ := Aside0.mk (below_step (by repeat (first | (with_reducible first | exact HB.out | apply below_alloc | apply pw_below_drewN | apply below_drew1 | refine below_set ?_ GE364.out) | exact HB.out)) hb); have n2_ := Aside0.mk (hbox); have n3_ := Aside0.mk ((by rw [hg]; exact (below_size (by repeat (first | (with_reducible first | exact HB.out | apply below_alloc | apply pw_below_drewN | apply below_drew1 | refine below_set ?_ GE364.out) | exact HB.out))) : w.heap.size ≤ gb372)); have n4_ := Aside0.mk ((by rw [hg]; exact (below_size (by repeat (first | (with_reducible first | exact HB.out | apply below_alloc | apply pw_below_drewN | apply below_drew1 | refine below_set ?_ GE364.out) | exact HB.out))) : w.heap.size ≤ gb372)); have n5_ := Aside0.mk ((by rw [hg]; exact Nat.ne_of_lt (blk_lt (g := gb364) (o := .cells #[.int .i64 t357, .string t358, .int .i64 t359, .int .i64 t360, .int .i64 t361, .int .i64 t362] 50 (0, 0)) (by (with_reducible repeat (first | refine blk_drewN ?_ _ | refine blk_drew ?_ | refine blk_alloc ?_ _)); exact BK364.out)) : gb364 ≠ gb372)); have n6_ := Aside0.mk ((by rw [hg]; exact Nat.ne_of_gt (blk_lt (g := gb364) (o := .cells #[.int .i64 t357, .string t358, .int .i64 t359, .int .i64 t360, .int .i64 t361, .int .i64 t362] 50 (0, 0)) (by (with_reducible repeat (first | refine blk_drewN ?_ _ | refine blk_drew ?_ | refine blk_alloc ?_ _)); exact BK364.out)) : gb372 ≠ gb364)); clear BK364; clear HB; have BK364 := n0_; have HB := n1_; have BK372 := n2_; have GW372 := n3_; have GE372 := n4_; have NB364_372 := n5_; have NB372_364 := n6_; clear n0_ n1_ n2_ n3_ n4_ n5_ n6_; clear hb hbox hg; have hnb17 := NB372_364.out; have hnc17 := NB364_372.out; have hcz18_0 : w16.cell? ⟨gb372, 0, none⟩ = some (.int .i64 0) := (blk_cell BK372.out 0).trans rfl; have hcz18_1 : w16.cell? ⟨gb372, 1, none⟩ = some (.string (⟨#[]⟩ : ByteArray)) := (blk_cell BK372.out 1).trans rfl; have hcz18_2 : w16.cell? ⟨gb372, 2, none⟩ = some (.int .i64 0) := (blk_cell BK372.out 2).trans rfl; have hcz18_3 : w16.cell? ⟨gb372, 3, none⟩ = some (.int .i64 0) := (blk_cell BK372.out 3).trans rfl; have hcz18_4 : w16.cell? ⟨gb372, 4, none⟩ = some (.int .i64 0) := (blk_cell BK372.out 4).trans rfl; have hcz18_5 : w16.cell? ⟨gb372, 5, none⟩ = some (.int .i64 0) := (blk_cell BK372.out 5).trans rfl; have hfz18_0 := blk_frozen BK372.out 0; have hfz18_1 := blk_frozen BK372.out 1; have hfz18_2 := blk_frozen BK372.out 2; have hfz18_3 := blk_frozen BK372.out 3; have hfz18_4 := blk_frozen BK372.out 4; have hfz18_5 := blk_frozen BK372.out 5) | ((with_reducible refine gate_store (t := 50) (p := 10) rfl ?_); refine store_event (t := 50) (p := 10) (v := ?vo_w19) (w1 := ((((((w16.setCell ⟨gb372, 0, none⟩ (.int .i64 t365)).setCell ⟨gb372, 1, none⟩ (.string t366)).setCell ⟨gb372, 2, none⟩ (.int .i64 t367)).setCell ⟨gb372, 3, none⟩ (.int .i64 t368)).setCell ⟨gb372, 4, none⟩ (.int .i64 t369)).setCell ⟨gb372, 5, none⟩ (.int .i64 t370))) ?hg ?ho ?hn ?hr ?_; (case ho => rfl); (case hg => rfl); (case hn => rfl); (case hr => first | (go_simp; done) | (go_simp; rfl)); intro w19 hw; have n0_ : Aside0 (w19.heap[gb364]? = some (.cells #[.int .i64 t357, .string t358, .int .i64 t359, .int .i64 t360, .int .i64 t361, .int .i64 t362] 50 (0, 0))) := ⟨(by rw [hw]; exact (by (with_reducible repeat (first | refine blk_drewN ?_ _ | refine blk_drew ?_ | refine blk_alloc ?_ _)); refine blk_far ?_ NB364_372.out _; (with_reducible repeat (first | refine blk_drewN ?_ _ | refine blk_drew ?_ | refine blk_alloc ?_ _)); refine blk_far ?_ NB364_372.out _; (with_reducible repeat (first | refine blk_drewN ?_ _ | refine blk_drew ?_ | refine blk_alloc ?_ _)); refine blk_far ?_ NB364_372.out _; (with_reducible repeat (first | refine blk_drewN ?_ _ | refine blk_drew ?_ | refine blk_alloc ?_ _)); refine blk_far ?_ NB364_372.out _; (with_reducible repeat (first | refine blk_drewN ?_ _ | refine blk_drew ?_ | refine blk_alloc ?_ _)); refine blk_far ?_ NB364_372.out _; (with_reducible repeat (first | refine blk_drewN ?_ _ | refine blk_drew ?_ | refine blk_alloc ?_ _)); refine blk_far ?_ NB364_372.out _; (with_reducible repeat (first | refine blk_drewN ?_ _ | refine blk_drew ?_ | refine blk_alloc ?_ _)); exact BK364.out))⟩; have n1_ : Aside0 (w19.heap[gb372]? = some (.cells #[.int .i64 t365, .string t366, .int .i64 t367, .int .i64 t368, .int .i64 t369, .int .i64 t370] 50 (0, 0))) := ⟨(by rw [hw]; exact (by (with_reducible repeat (first | refine blk_drewN ?_ _ | refine blk_drew ?_ | refine blk_alloc ?_ _)); refine blk_put (cs := #[.int .i64 t365, .string t366, .int .i64 t367, .int .i64 t368, .int .i64 t369, .int .i64 0]) ?_ 5 _ rfl; (with_reducible repeat (first | refine blk_drewN ?_ _ | refine blk_drew ?_ | refine blk_alloc ?_ _)); refine blk_put (cs := #[.int .i64 t365, .string t366, .int .i64 t367, .int .i64 t368, .int .i64 0, .int .i64 0]) ?_ 4 _ rfl; (with_reducible repeat (first | refine blk_drewN ?_ _ | refine blk_drew ?_ | refine blk_alloc ?_ _)); refine blk_put (cs := #[.int .i64 t365, .string t366, .int .i64 t367, .int .i64 0, .int .i64 0, .int .i64 0]) ?_ 3 _ rfl; (with_reducible repeat (first | refine blk_drewN ?_ _ | refine blk_drew ?_ | refine blk_alloc ?_ _)); refine blk_put (cs := #[.int .i64 t365, .string t366, .int .i64 0, .int .i64 0, .int .i64 0, .int .i64 0]) ?_ 2 _ rfl; (with_reducible repeat (first | refine blk_drewN ?_ _ | refine blk_drew ?_ | refine blk_alloc ?_ _)); refine blk_put (cs := #[.int .i64 t365, .string (⟨#[]⟩ : ByteArray), .int .i64 0, .int .i64 0, .int .i64 0, .int .i64 0]) ?_ 1 _ rfl; (with_reducible repeat (first | refine blk_drewN ?_ _ | refine blk_drew ?_ | refine blk_alloc ?_ _)); refine blk_put (cs := #[.int .i64 0, .string (⟨#[]⟩ : ByteArray), .int .i64 0, .int .i64 0, .int .i64 0, .int .i64 0]) ?_ 0 _ rfl; (with_reducible repeat (first | refine blk_drewN ?_ _ | refine blk_drew ?_ | refine blk_alloc ?_ _)); exact BK372.out))⟩; have n2_ : Aside0 (Below w.heap.size w w19) := ⟨(by rw [hw]; exact (by repeat (first | (with_reducible first | exact HB.out | apply below_alloc | apply pw_below_drewN | apply below_drew1 | refine below_set ?_ GE364.out | refine below_set ?_ GE372.out) | exact HB.out)))⟩; clear hw; clear BK364; clear BK372; clear HB; have BK364 := n0_; have BK372 := n1_; have HB := n2_; clear n0_ n1_ n2_) | ((with_reducible refine gate_callee (f := 33) rfl ?_); refine goesL_ (some 33) rfl rfl Try.func33 (by kernel_rfl) rfl #[.slice A0 l0.length c0] rfl (by (try simp only [List.map_toArray, List.map_cons, List.map_nil]); first | done | rfl | (simp only [List.length_drop, List.length_take]; rfl)) ?_; (with_reducible refine (chain_May.calls k _ _ l0 true _ ?side1 ?side2 A8.out).mono ?_); (case side1 => repeat (first | exact (Kd.C_below HR0.out HB.out) | (with_reducible refine Kd.C_alloc ?_ _) | (with_reducible refine Kd.C_drewN ?_ _) | (with_reducible refine Kd.C_drew ?_))); (case side2 => exact HC0.out); rintro e w20 ⟨rfl, hb⟩; refine ⟨_, rfl, ?_⟩; have n0_ := Aside0.mk (blk_below (g := gb364) (o := .cells #[.int .i64 t357, .string t358, .int .i64 t359, .int .i64 t360, .int .i64 t361, .int .i64 t362] 50 (0, 0)) (by (with_reducible repeat (first | refine blk_drewN ?_ _ | refine blk_drew ?_ | refine blk_alloc ?_ _)); exact BK364.out) hb); have n1_ := Aside0.mk (blk_below (g := gb372) (o := .cells #[.int .i64 t365, .string t366, .int .i64 t367, .int .i64 t368, .int .i64 t369, .int .i64 t370] 50 (0, 0)) (by (with_reducible repeat (first | refine blk_drewN ?_ _ | refine blk_drew ?_ | refine blk_alloc ?_ _)); exact BK372.out) hb); have n2_ := Aside0.mk (below_step (by repeat (first | (with_reducible first | exact HB.out | apply below_alloc | apply pw_below_drewN | apply below_drew1 | refine below_set ?_ GE364.out | refine below_set ?_ GE372.out) | exact HB.out)) hb); clear BK364; clear BK372; clear HB; have BK364 := n0_; have BK372 := n1_; have HB := n2_; clear n0_ n1_ n2_; (try clear hb); (try clear hb2); (try clear hk); (try clear hi)))
   go_loopg [12] k (fun kq v12 w' => ∃ (x12_1 : Int), v12 = .int .i64 x12_1 ∧ Aside0 (watchwordlaw5_ChainTimes.l0 kq l0 a1 (Go.bits .and .i64 a2 1023) t363 t371 x12_1 t357 t358 t359 t360 t361 t362 t365 t366 t367 t368 t369 t370 = some r) ∧ Aside0 (kq ≤ k) ∧ Aside0 (w'.heap[gb364]? = some (.cells #[.int .i64 t357, .string t358, .int .i64 t359, .int .i64 t360, .int .i64 t361, .int .i64 t362] 50 (0, 0))) ∧ Aside0 (w'.heap[gb372]? = some (.cells #[.int .i64 t365, .string t366, .int .i64 t367, .int .i64 t368, .int .i64 t369, .int .i64 t370] 50 (0, 0))) ∧ Aside0 (Below w.heap.size w w'))
   case atStart => exact ⟨(0), (by first | rfl | (simp; done) | (simp [*]; done)), H', ⟨Nat.le_refl _⟩, ⟨by (with_reducible repeat (first | refine blk_drewN ?_ _ | refine blk_drew ?_ | refine blk_alloc ?_ _)); exact BK364.out⟩, ⟨by (with_reducible repeat (first | refine blk_drewN ?_ _ | refine blk_drew ?_ | refine blk_alloc ?_ _)); exact BK372.out⟩, ⟨by repeat (first | (with_reducible first | exact HB.out | apply below_alloc | apply pw_below_drewN | apply below_drew1 | refine below_set ?_ GE364.out | refine below_set ?_ GE372.out) | exact HB.out)⟩⟩
   case round =>
    clear H'
    try clear c1
    try clear c2
    try clear p2
    try clear c3
    try clear c5
    try clear c9
    try clear c17
    try clear hcz13_0
    try clear hcz13_1
    try clear hcz13_2
    try clear hcz13_3
    try clear hcz13_4
    try clear hcz13_5
    try clear hcz18_0
    try clear hcz18_1
    try clear hcz18_2
    try clear hcz18_3
    try clear hcz18_4
    try clear hcz18_5
    try clear hfz13_0
    try clear hfz13_1
    try clear hfz13_2
    try clear hfz13_3
    try clear hfz13_4
    try clear hfz13_5
    try clear hfz18_0
    try clear hfz18_1
    try clear hfz18_2
    try clear hfz18_3
    try clear hfz18_4
    try clear hfz18_5
    obtain ⟨x12_1, rfl, HA, HK1, BK364, BK372, HB⟩ := hrel
    cases gk with
    | zero => exact absurd HA.out (by simp [watchwordlaw5_ChainTimes.l0])
    | succ k1 =>
     have H := HA.out
     clear HA
     simp only [watchwordlaw5_ChainTimes.l0] at H
     by_cases c21 : x12_1 < (l0.length : Int)
     ·rw [if_pos c21] at H
      have c21b0 : decide (x12_1 < (l0.length : Int)) = true := decide_eq_true c21
      clear c21
      by_cases c22 : 0 ≤ x12_1
      ·rw [if_pos c22] at H
       have c22b0 : decide (0 ≤ x12_1) = true := decide_eq_true c22
       clear c22
       have HC23 := Aside0.mk H
       clear H
       have p379 : 0 ≤ (x12_1 : Int) := of_decide_eq_true (by first | (with_reducible assumption) | assumption)
       have q379 : x12_1 < (l0.length : Int) := of_decide_eq_true (by first | (with_reducible assumption) | assumption)
       obtain ⟨ad379, e379, hx379_0, hx379_1, hx379_2, hx379_3, hx379_4, hx379_5⟩ := at_T50 HR0.out x12_1 p379 q379
       cases e379
       replace hx379_0 := (HB.out.cell (World.block_lt_of_cell? w _ hx379_0)).trans hx379_0
       replace hx379_1 := (HB.out.cell (World.block_lt_of_cell? w _ hx379_1)).trans hx379_1
       replace hx379_2 := (HB.out.cell (World.block_lt_of_cell? w _ hx379_2)).trans hx379_2
       replace hx379_3 := (HB.out.cell (World.block_lt_of_cell? w _ hx379_3)).trans hx379_3
       replace hx379_4 := (HB.out.cell (World.block_lt_of_cell? w _ hx379_4)).trans hx379_4
       replace hx379_5 := (HB.out.cell (World.block_lt_of_cell? w _ hx379_5)).trans hx379_5
       replace p379 := eq_true p379
       replace q379 := eq_true q379
       go_upto_region 12 with (first | ((with_reducible refine gate_dst (N := 13) rfl ?_); refine box_event ?hg (N := 13) ?hd (cs := #[.int .i64 0, .string (⟨#[]⟩ : ByteArray), .int .i64 0, .int .i64 0, .int .i64 0, .int .i64 0]) (t := 50) ?hr ?_; (case hd => rfl); (case hg => rfl); (case hr => first | (go_simp; done) | (go_simp; rfl)); intro gb380 hg w24 hbox hb; have n0_ := Aside0.mk (blk_below (g := gb364) (o := .cells #[.int .i64 t357, .string t358, .int .i64 t359, .int .i64 t360, .int .i64 t361, .int .i64 t362] 50 (0, 0)) (by (with_reducible repeat (first | refine blk_drewN ?_ _ | refine blk_drew ?_ | refine blk_alloc ?_ _)); exact BK364.out) hb); have n1_ := Aside0.mk (blk_below (g := gb372) (o := .cells #[.int .i64 t365, .string t366, .int .i64 t367, .int .i64 t368, .int .i64 t369, .int .i64 t370] 50 (0, 0)) (by (with_reducible repeat (first | refine blk_drewN ?_ _ | refine blk_drew ?_ | refine blk_alloc ?_ _)); exact BK372.out) hb); have n2_ := Aside0.mk (below_step (by repeat (first | (with_reducible first | exact HB.out | apply below_alloc | apply pw_below_drewN | apply below_drew1 | refine below_set ?_ GE364.out | refine below_set ?_ GE372.out) | exact HB.out)) hb); have n3_ := Aside0.mk (hbox); have n4_ := Aside0.mk ((by rw [hg]; exact (below_size (by repeat (first | (with_reducible first | exact HB.out | apply below_alloc | apply pw_below_drewN | apply below_drew1 | refine below_set ?_ GE364.out | refine below_set ?_ GE372.out) | exact HB.out))) : w.heap.size ≤ gb380)); have n5_ := Aside0.mk ((by rw [hg]; exact (below_size (by repeat (first | (with_reducible first | exact HB.out | apply below_alloc | apply pw_below_drewN | apply below_drew1 | refine below_set ?_ GE364.out | refine below_set ?_ GE372.out) | exact HB.out))) : w.heap.size ≤ gb380)); have n6_ := Aside0.mk ((by rw [hg]; exact Nat.ne_of_lt (blk_lt (g := gb364) (o := .cells #[.int .i64 t357, .string t358, .int .i64 t359, .int .i64 t360, .int .i64 t361, .int .i64 t362] 50 (0, 0)) (by (with_reducible repeat (first | refine blk_drewN ?_ _ | refine blk_drew ?_ | refine blk_alloc ?_ _)); exact BK364.out)) : gb364 ≠ gb380)); have n7_ := Aside0.mk ((by rw [hg]; exact Nat.ne_of_gt (blk_lt (g := gb364) (o := .cells #[.int .i64 t357, .string t358, .int .i64 t359, .int .i64 t360, .int .i64 t361, .int .i64 t362] 50 (0, 0)) (by (with_reducible repeat (first | refine blk_drewN ?_ _ | refine blk_drew ?_ | refine blk_alloc ?_ _)); exact BK364.out)) : gb380 ≠ gb364)); have n8_ := Aside0.mk ((by rw [hg]; exact Nat.ne_of_lt (blk_lt (g := gb372) (o := .cells #[.int .i64 t365, .string t366, .int .i64 t367, .int .i64 t368, .int .i64 t369, .int .i64 t370] 50 (0, 0)) (by (with_reducible repeat (first | refine blk_drewN ?_ _ | refine blk_drew ?_ | refine blk_alloc ?_ _)); exact BK372.out)) : gb372 ≠ gb380)); have n9_ := Aside0.mk ((by rw [hg]; exact Nat.ne_of_gt (blk_lt (g := gb372) (o := .cells #[.int .i64 t365, .string t366, .int .i64 t367, .int .i64 t368, .int .i64 t369, .int .i64 t370] 50 (0, 0)) (by (with_reducible repeat (first | refine blk_drewN ?_ _ | refine blk_drew ?_ | refine blk_alloc ?_ _)); exact BK372.out)) : gb380 ≠ gb372)); clear BK364; clear BK372; clear HB; have BK364 := n0_; have BK372 := n1_; have HB := n2_; have BK380 := n3_; have GW380 := n4_; have GE380 := n5_; have NB364_380 := n6_; have NB380_364 := n7_; have NB372_380 := n8_; have NB380_372 := n9_; clear n0_ n1_ n2_ n3_ n4_ n5_ n6_ n7_ n8_ n9_; clear hb hbox hg; have hnb25 := NB380_364.out; have hnc25 := NB364_380.out; have hnb26 := NB380_372.out; have hnc26 := NB372_380.out; have hcz27_0 : w24.cell? ⟨gb380, 0, none⟩ = some (.int .i64 0) := (blk_cell BK380.out 0).trans rfl; have hcz27_1 : w24.cell? ⟨gb380, 1, none⟩ = some (.string (⟨#[]⟩ : ByteArray)) := (blk_cell BK380.out 1).trans rfl; have hcz27_2 : w24.cell? ⟨gb380, 2, none⟩ = some (.int .i64 0) := (blk_cell BK380.out 2).trans rfl; have hcz27_3 : w24.cell? ⟨gb380, 3, none⟩ = some (.int .i64 0) := (blk_cell BK380.out 3).trans rfl; have hcz27_4 : w24.cell? ⟨gb380, 4, none⟩ = some (.int .i64 0) := (blk_cell BK380.out 4).trans rfl; have hcz27_5 : w24.cell? ⟨gb380, 5, none⟩ = some (.int .i64 0) := (blk_cell BK380.out 5).trans rfl; have hfz27_0 := blk_frozen BK380.out 0; have hfz27_1 := blk_frozen BK380.out 1; have hfz27_2 := blk_frozen BK380.out 2; have hfz27_3 := blk_frozen BK380.out 3; have hfz27_4 := blk_frozen BK380.out 4; have hfz27_5 := blk_frozen BK380.out 5) | ((with_reducible refine gate_store (t := 50) (p := 13) rfl ?_); refine store_event (t := 50) (p := 13) (v := ?vo_w28) (w1 := ((((((w24.setCell ⟨gb380, 0, none⟩ (.int .i64 ((rd_T50 l0 x12_1).f0))).setCell ⟨gb380, 1, none⟩ (.string ((rd_T50 l0 x12_1).f1))).setCell ⟨gb380, 2, none⟩ (.int .i64 ((rd_T50 l0 x12_1).f2))).setCell ⟨gb380, 3, none⟩ (.int .i64 ((rd_T50 l0 x12_1).f3))).setCell ⟨gb380, 4, none⟩ (.int .i64 ((rd_T50 l0 x12_1).f4))).setCell ⟨gb380, 5, none⟩ (.int .i64 ((rd_T50 l0 x12_1).f5)))) ?hg ?ho ?hn ?hr ?_; (case ho => rfl); (case hg => rfl); (case hn => rfl); (case hr => first | (go_simp; done) | (go_simp; rfl)); intro w28 hw; have n0_ : Aside0 (w28.heap[gb364]? = some (.cells #[.int .i64 t357, .string t358, .int .i64 t359, .int .i64 t360, .int .i64 t361, .int .i64 t362] 50 (0, 0))) := ⟨(by rw [hw]; exact (by (with_reducible repeat (first | refine blk_drewN ?_ _ | refine blk_drew ?_ | refine blk_alloc ?_ _)); refine blk_far ?_ NB364_380.out _; (with_reducible repeat (first | refine blk_drewN ?_ _ | refine blk_drew ?_ | refine blk_alloc ?_ _)); refine blk_far ?_ NB364_380.out _; (with_reducible repeat (first | refine blk_drewN ?_ _ | refine blk_drew ?_ | refine blk_alloc ?_ _)); refine blk_far ?_ NB364_380.out _; (with_reducible repeat (first | refine blk_drewN ?_ _ | refine blk_drew ?_ | refine blk_alloc ?_ _)); refine blk_far ?_ NB364_380.out _; (with_reducible repeat (first | refine blk_drewN ?_ _ | refine blk_drew ?_ | refine blk_alloc ?_ _)); refine blk_far ?_ NB364_380.out _; (with_reducible repeat (first | refine blk_drewN ?_ _ | refine blk_drew ?_ | refine blk_alloc ?_ _)); refine blk_far ?_ NB364_380.out _; (with_reducible repeat (first | refine blk_drewN ?_ _ | refine blk_drew ?_ | refine blk_alloc ?_ _)); exact BK364.out))⟩; have n1_ : Aside0 (w28.heap[gb372]? = some (.cells #[.int .i64 t365, .string t366, .int .i64 t367, .int .i64 t368, .int .i64 t369, .int .i64 t370] 50 (0, 0))) := ⟨(by rw [hw]; exact (by (with_reducible repeat (first | refine blk_drewN ?_ _ | refine blk_drew ?_ | refine blk_alloc ?_ _)); refine blk_far ?_ NB372_380.out _; (with_reducible repeat (first | refine blk_drewN ?_ _ | refine blk_drew ?_ | refine blk_alloc ?_ _)); refine blk_far ?_ NB372_380.out _; (with_reducible repeat (first | refine blk_drewN ?_ _ | refine blk_drew ?_ | refine blk_alloc ?_ _)); refine blk_far ?_ NB372_380.out _; (with_reducible repeat (first | refine blk_drewN ?_ _ | refine blk_drew ?_ | refine blk_alloc ?_ _)); refine blk_far ?_ NB372_380.out _; (with_reducible repeat (first | refine blk_drewN ?_ _ | refine blk_drew ?_ | refine blk_alloc ?_ _)); refine blk_far ?_ NB372_380.out _; (with_reducible repeat (first | refine blk_drewN ?_ _ | refine blk_drew ?_ | refine blk_alloc ?_ _)); refine blk_far ?_ NB372_380.out _; (with_reducible repeat (first | refine blk_drewN ?_ _ | refine blk_drew ?_ | refine blk_alloc ?_ _)); exact BK372.out))⟩; have n2_ : Aside0 (w28.heap[gb380]? = some (.cells #[.int .i64 ((rd_T50 l0 x12_1).f0), .string ((rd_T50 l0 x12_1).f1), .int .i64 ((rd_T50 l0 x12_1).f2), .int .i64 ((rd_T50 l0 x12_1).f3), .int .i64 ((rd_T50 l0 x12_1).f4), .int .i64 ((rd_T50 l0 x12_1).f5)] 50 (0, 0))) := ⟨(by rw [hw]; exact (by (with_reducible repeat (first | refine blk_drewN ?_ _ | refine blk_drew ?_ | refine blk_alloc ?_ _)); refine blk_put (cs := #[.int .i64 ((rd_T50 l0 x12_1).f0), .string ((rd_T50 l0 x12_1).f1), .int .i64 ((rd_T50 l0 x12_1).f2), .int .i64 ((rd_T50 l0 x12_1).f3), .int .i64 ((rd_T50 l0 x12_1).f4), .int .i64 0]) ?_ 5 _ rfl; (with_reducible repeat (first | refine blk_drewN ?_ _ | refine blk_drew ?_ | refine blk_alloc ?_ _)); refine blk_put (cs := #[.int .i64 ((rd_T50 l0 x12_1).f0), .string ((rd_T50 l0 x12_1).f1), .int .i64 ((rd_T50 l0 x12_1).f2), .int .i64 ((rd_T50 l0 x12_1).f3), .int .i64 0, .int .i64 0]) ?_ 4 _ rfl; (with_reducible repeat (first | refine blk_drewN ?_ _ | refine blk_drew ?_ | refine blk_alloc ?_ _)); refine blk_put (cs := #[.int .i64 ((rd_T50 l0 x12_1).f0), .string ((rd_T50 l0 x12_1).f1), .int .i64 ((rd_T50 l0 x12_1).f2), .int .i64 0, .int .i64 0, .int .i64 0]) ?_ 3 _ rfl; (with_reducible repeat (first | refine blk_drewN ?_ _ | refine blk_drew ?_ | refine blk_alloc ?_ _)); refine blk_put (cs := #[.int .i64 ((rd_T50 l0 x12_1).f0), .string ((rd_T50 l0 x12_1).f1), .int .i64 0, .int .i64 0, .int .i64 0, .int .i64 0]) ?_ 2 _ rfl; (with_reducible repeat (first | refine blk_drewN ?_ _ | refine blk_drew ?_ | refine blk_alloc ?_ _)); refine blk_put (cs := #[.int .i64 ((rd_T50 l0 x12_1).f0), .string (⟨#[]⟩ : ByteArray), .int .i64 0, .int .i64 0, .int .i64 0, .int .i64 0]) ?_ 1 _ rfl; (with_reducible repeat (first | refine blk_drewN ?_ _ | refine blk_drew ?_ | refine blk_alloc ?_ _)); refine blk_put (cs := #[.int .i64 0, .string (⟨#[]⟩ : ByteArray), .int .i64 0, .int .i64 0, .int .i64 0, .int .i64 0]) ?_ 0 _ rfl; (with_reducible repeat (first | refine blk_drewN ?_ _ | refine blk_drew ?_ | refine blk_alloc ?_ _)); exact BK380.out))⟩; have n3_ : Aside0 (Below w.heap.size w w28) := ⟨(by rw [hw]; exact (by repeat (first | (with_reducible first | exact HB.out | apply below_alloc | apply pw_below_drewN | apply below_drew1 | refine below_set ?_ GE364.out | refine below_set ?_ GE372.out | refine below_set ?_ GE380.out) | exact HB.out)))⟩; clear hw; clear BK364; clear BK372; clear BK380; clear HB; have BK364 := n0_; have BK372 := n1_; have BK380 := n2_; have HB := n3_; clear n0_ n1_ n2_ n3_))
       (try simp only [Act.put, List.setIfInBounds_toArray, List.set_cons_zero, List.set_cons_succ])
       go_cut [88] (fun v88 wc => ∃ (kq : Nat) (x88_22 : Bool), v88 = .bool x88_22 ∧ Aside0 (watchwordlaw5_ChainTimes.j1 kq l0 a1 (Go.bits .and .i64 a2 1023) t363 t371 x12_1 x88_22 t357 t358 t359 t360 t361 t362 t365 t366 t367 t368 t369 t370 ((rd_T50 l0 x12_1).f0) ((rd_T50 l0 x12_1).f1) ((rd_T50 l0 x12_1).f2) ((rd_T50 l0 x12_1).f3) ((rd_T50 l0 x12_1).f4) ((rd_T50 l0 x12_1).f5) = some r) ∧ Aside0 (kq ≤ k1) ∧ Aside0 (wc.heap[gb364]? = some (.cells #[.int .i64 t357, .string t358, .int .i64 t359, .int .i64 t360, .int .i64 t361, .int .i64 t362] 50 (0, 0))) ∧ Aside0 (wc.heap[gb372]? = some (.cells #[.int .i64 t365, .string t366, .int .i64 t367, .int .i64 t368, .int .i64 t369, .int .i64 t370] 50 (0, 0))) ∧ Aside0 (wc.heap[gb380]? = some (.cells #[.int .i64 ((rd_T50 l0 x12_1).f0), .string ((rd_T50 l0 x12_1).f1), .int .i64 ((rd_T50 l0 x12_1).f2), .int .i64 ((rd_T50 l0 x12_1).f3), .int .i64 ((rd_T50 l0 x12_1).f4), .int .i64 ((rd_T50 l0 x12_1).f5)] 50 (0, 0))) ∧ Aside0 (Below w.heap.size w wc))
       case first =>
        have H := HC23.out
        clear HC23
        by_cases c29 : ((rd_T50 l0 x12_1).f2) ≤ (Go.bits .and .i64 a2 1023)
        ·rw [if_pos c29] at H
         have c29b0 : decide (((rd_T50 l0 x12_1).f2) ≤ (Go.bits .and .i64 a2 1023)) = true := decide_eq_true c29
         clear c29
         (first | rw [c29b0] | (simp only [i64_w, i32_w]; rw [c29b0]) | skip)
         by_cases c30 : (Go.bits .and .i64 a2 1023) < ((rd_T50 l0 x12_1).f3)
         ·rw [if_pos c30] at H
          have c30b0 : decide ((Go.bits .and .i64 a2 1023) < ((rd_T50 l0 x12_1).f3)) = true := decide_eq_true c30
          clear c30
          replace H := Option.bind_eq_some_iff.mp H
          obtain ⟨t381, A310, H⟩ := H
          replace H : (if t381 = 0 then (if ((rd_T50 l0 x12_1).f2) > t359 then (watchwordlaw5_ChainTimes.j1 k1 l0 a1 (Go.bits .and .i64 a2 1023) t363 t371 x12_1 true t357 t358 t359 t360 t361 t362 t365 t366 t367 t368 t369 t370 ((rd_T50 l0 x12_1).f0) ((rd_T50 l0 x12_1).f1) ((rd_T50 l0 x12_1).f2) ((rd_T50 l0 x12_1).f3) ((rd_T50 l0 x12_1).f4) ((rd_T50 l0 x12_1).f5)) else (if ((rd_T50 l0 x12_1).f2) = t359 then (watchwordlaw5_ChainTimes.j1 k1 l0 a1 (Go.bits .and .i64 a2 1023) t363 t371 x12_1 (decide (((rd_T50 l0 x12_1).f0) > t357)) t357 t358 t359 t360 t361 t362 t365 t366 t367 t368 t369 t370 ((rd_T50 l0 x12_1).f0) ((rd_T50 l0 x12_1).f1) ((rd_T50 l0 x12_1).f2) ((rd_T50 l0 x12_1).f3) ((rd_T50 l0 x12_1).f4) ((rd_T50 l0 x12_1).f5)) else (watchwordlaw5_ChainTimes.j1 k1 l0 a1 (Go.bits .and .i64 a2 1023) t363 t371 x12_1 false t357 t358 t359 t360 t361 t362 t365 t366 t367 t368 t369 t370 ((rd_T50 l0 x12_1).f0) ((rd_T50 l0 x12_1).f1) ((rd_T50 l0 x12_1).f2) ((rd_T50 l0 x12_1).f3) ((rd_T50 l0 x12_1).f4) ((rd_T50 l0 x12_1).f5)))) else (watchwordlaw5_ChainTimes.j1 k1 l0 a1 (Go.bits .and .i64 a2 1023) t363 t371 x12_1 true t357 t358 t359 t360 t361 t362 t365 t366 t367 t368 t369 t370 ((rd_T50 l0 x12_1).f0) ((rd_T50 l0 x12_1).f1) ((rd_T50 l0 x12_1).f2) ((rd_T50 l0 x12_1).f3) ((rd_T50 l0 x12_1).f4) ((rd_T50 l0 x12_1).f5))) = some r := H
          have A31 := Aside0.mk A310
          clear A310
          by_cases c32 : t381 = 0
          ·rw [if_pos c32] at H
           have c32b0 : (t381 == 0) = true := beq_iff_eq.mpr c32
           have c32b1 : (t381 != 0) = false := bne_eq_false_iff_eq.mpr c32
           clear c32
           by_cases c33 : ((rd_T50 l0 x12_1).f2) > t359
           ·rw [if_pos c33] at H
            have c33b0 : decide (t359 < ((rd_T50 l0 x12_1).f2)) = true := decide_eq_true c33
            clear c33
            exact absurd H (fun h_ => (by
             have hd_ : ∀ k_, watchwordlaw5_ChainTimes.j1 k_ l0 a1 (Go.bits .and .i64 a2 1023) t363 t371 x12_1 true t357 t358 t359 t360 t361 t362 t365 t366 t367 t368 t369 t370 ((rd_T50 l0 x12_1).f0) ((rd_T50 l0 x12_1).f1) ((rd_T50 l0 x12_1).f2) ((rd_T50 l0 x12_1).f3) ((rd_T50 l0 x12_1).f4) ((rd_T50 l0 x12_1).f5) = some r → False := by
              intro k_ h_
              cases k_ with
              | zero => exact absurd h_ (by simp [watchwordlaw5_ChainTimes.j1])
              | succ k_ =>
               simp only [watchwordlaw5_ChainTimes.j1, if_true] at h_
               exact absurd (Option.some.inj h_) (by rw [HT.out]; decide)
             exact hd_ _ h_))
           ·rw [if_neg c33] at H
            have c33b0 : decide (t359 < ((rd_T50 l0 x12_1).f2)) = false := decide_eq_false c33
            clear c33
            by_cases c34 : ((rd_T50 l0 x12_1).f2) = t359
            ·rw [if_pos c34] at H
             have c34b0 : (((rd_T50 l0 x12_1).f2) == t359) = true := beq_iff_eq.mpr c34
             have c34b1 : (((rd_T50 l0 x12_1).f2) != t359) = false := bne_eq_false_iff_eq.mpr c34
             clear c34
             have H' := Aside0.mk H
             clear H
             have hnb35 := NB380_364.out
             have hnc35 := NB364_380.out
             have hnb36 := NB380_372.out
             have hnc36 := NB372_380.out
             have hcz37_0 : w28.cell? ⟨gb380, 0, none⟩ = some (.int .i64 ((rd_T50 l0 x12_1).f0)) := (blk_cell BK380.out 0).trans rfl
             have hcz37_1 : w28.cell? ⟨gb380, 1, none⟩ = some (.string ((rd_T50 l0 x12_1).f1)) := (blk_cell BK380.out 1).trans rfl
             have hcz37_2 : w28.cell? ⟨gb380, 2, none⟩ = some (.int .i64 ((rd_T50 l0 x12_1).f2)) := (blk_cell BK380.out 2).trans rfl
             have hcz37_3 : w28.cell? ⟨gb380, 3, none⟩ = some (.int .i64 ((rd_T50 l0 x12_1).f3)) := (blk_cell BK380.out 3).trans rfl
             have hcz37_4 : w28.cell? ⟨gb380, 4, none⟩ = some (.int .i64 ((rd_T50 l0 x12_1).f4)) := (blk_cell BK380.out 4).trans rfl
             have hcz37_5 : w28.cell? ⟨gb380, 5, none⟩ = some (.int .i64 ((rd_T50 l0 x12_1).f5)) := (blk_cell BK380.out 5).trans rfl
             have hfz37_0 := blk_frozen BK380.out 0
             have hfz37_1 := blk_frozen BK380.out 1
             have hfz37_2 := blk_frozen BK380.out 2
             have hfz37_3 := blk_frozen BK380.out 3
             have hfz37_4 := blk_frozen BK380.out 4
             have hfz37_5 := blk_frozen BK380.out 5
             go_wp2_with (first | (go_at_call 18; (with_reducible refine (watchwordlaw0_Num.calls t363 t381 _ A31.out).mono ?_); rintro e w' ⟨rfl, ⟨nd, rfl⟩⟩; have hnb38 := NB364_372.out; have hnc38 := NB372_364.out; have hcz39_0 : w28.cell? ⟨gb364, 0, none⟩ = some (.int .i64 t357) := (blk_cell BK364.out 0).trans rfl; have hcz39_1 : w28.cell? ⟨gb364, 1, none⟩ = some (.string t358) := (blk_cell BK364.out 1).trans rfl; have hcz39_2 : w28.cell? ⟨gb364, 2, none⟩ = some (.int .i64 t359) := (blk_cell BK364.out 2).trans rfl; have hcz39_3 : w28.cell? ⟨gb364, 3, none⟩ = some (.int .i64 t360) := (blk_cell BK364.out 3).trans rfl; have hcz39_4 : w28.cell? ⟨gb364, 4, none⟩ = some (.int .i64 t361) := (blk_cell BK364.out 4).trans rfl; have hcz39_5 : w28.cell? ⟨gb364, 5, none⟩ = some (.int .i64 t362) := (blk_cell BK364.out 5).trans rfl; have hfz39_0 := blk_frozen BK364.out 0; have hfz39_1 := blk_frozen BK364.out 1; have hfz39_2 := blk_frozen BK364.out 2; have hfz39_3 := blk_frozen BK364.out 3; have hfz39_4 := blk_frozen BK364.out 4; have hfz39_5 := blk_frozen BK364.out 5))
             go_meet
             case rel => exact ⟨_, (decide (((rd_T50 l0 x12_1).f0) > t357)), (by first | rfl | (simp; done) | (simp [*]; done)), H', ⟨by have := HK1.out; first | omega | exact Nat.le_refl _⟩, ⟨by (with_reducible repeat (first | refine blk_drewN ?_ _ | refine blk_drew ?_ | refine blk_alloc ?_ _)); exact BK364.out⟩, ⟨by (with_reducible repeat (first | refine blk_drewN ?_ _ | refine blk_drew ?_ | refine blk_alloc ?_ _)); exact BK372.out⟩, ⟨by (with_reducible repeat (first | refine blk_drewN ?_ _ | refine blk_drew ?_ | refine blk_alloc ?_ _)); exact BK380.out⟩, ⟨by repeat (first | (with_reducible first | exact HB.out | apply below_alloc | apply pw_below_drewN | apply below_drew1 | refine below_set ?_ GE364.out | refine below_set ?_ GE372.out | refine below_set ?_ GE380.out) | exact HB.out)⟩⟩
            ·rw [if_neg c34] at H
             have c34b0 : (((rd_T50 l0 x12_1).f2) == t359) = false := beq_eq_false_iff_ne.mpr c34
             have c34b1 : (((rd_T50 l0 x12_1).f2) != t359) = true := bne_iff_ne.mpr c34
             have H' := Aside0.mk H
             clear H
             have hnb40 := NB380_364.out
             have hnc40 := NB364_380.out
             have hnb41 := NB380_372.out
             have hnc41 := NB372_380.out
             have hcz42_0 : w28.cell? ⟨gb380, 0, none⟩ = some (.int .i64 ((rd_T50 l0 x12_1).f0)) := (blk_cell BK380.out 0).trans rfl
             have hcz42_1 : w28.cell? ⟨gb380, 1, none⟩ = some (.string ((rd_T50 l0 x12_1).f1)) := (blk_cell BK380.out 1).trans rfl
             have hcz42_2 : w28.cell? ⟨gb380, 2, none⟩ = some (.int .i64 ((rd_T50 l0 x12_1).f2)) := (blk_cell BK380.out 2).trans rfl
             have hcz42_3 : w28.cell? ⟨gb380, 3, none⟩ = some (.int .i64 ((rd_T50 l0 x12_1).f3)) := (blk_cell BK380.out 3).trans rfl
             have hcz42_4 : w28.cell? ⟨gb380, 4, none⟩ = some (.int .i64 ((rd_T50 l0 x12_1).f4)) := (blk_cell BK380.out 4).trans rfl
             have hcz42_5 : w28.cell? ⟨gb380, 5, none⟩ = some (.int .i64 ((rd_T50 l0 x12_1).f5)) := (blk_cell BK380.out 5).trans rfl
             have hfz42_0 := blk_frozen BK380.out 0
             have hfz42_1 := blk_frozen BK380.out 1
             have hfz42_2 := blk_frozen BK380.out 2
             have hfz42_3 := blk_frozen BK380.out 3
             have hfz42_4 := blk_frozen BK380.out 4
             have hfz42_5 := blk_frozen BK380.out 5
             go_wp2_with (first | (go_at_call 18; (with_reducible refine (watchwordlaw0_Num.calls t363 t381 _ A31.out).mono ?_); rintro e w' ⟨rfl, ⟨nd, rfl⟩⟩; have hnb43 := NB364_372.out; have hnc43 := NB372_364.out; have hcz44_0 : w28.cell? ⟨gb364, 0, none⟩ = some (.int .i64 t357) := (blk_cell BK364.out 0).trans rfl; have hcz44_1 : w28.cell? ⟨gb364, 1, none⟩ = some (.string t358) := (blk_cell BK364.out 1).trans rfl; have hcz44_2 : w28.cell? ⟨gb364, 2, none⟩ = some (.int .i64 t359) := (blk_cell BK364.out 2).trans rfl; have hcz44_3 : w28.cell? ⟨gb364, 3, none⟩ = some (.int .i64 t360) := (blk_cell BK364.out 3).trans rfl; have hcz44_4 : w28.cell? ⟨gb364, 4, none⟩ = some (.int .i64 t361) := (blk_cell BK364.out 4).trans rfl; have hcz44_5 : w28.cell? ⟨gb364, 5, none⟩ = some (.int .i64 t362) := (blk_cell BK364.out 5).trans rfl; have hfz44_0 := blk_frozen BK364.out 0; have hfz44_1 := blk_frozen BK364.out 1; have hfz44_2 := blk_frozen BK364.out 2; have hfz44_3 := blk_frozen BK364.out 3; have hfz44_4 := blk_frozen BK364.out 4; have hfz44_5 := blk_frozen BK364.out 5))
             go_meet
             case rel => exact ⟨_, (false), (by first | rfl | (simp; done) | (simp [*]; done)), H', ⟨by have := HK1.out; first | omega | exact Nat.le_refl _⟩, ⟨by (with_reducible repeat (first | refine blk_drewN ?_ _ | refine blk_drew ?_ | refine blk_alloc ?_ _)); exact BK364.out⟩, ⟨by (with_reducible repeat (first | refine blk_drewN ?_ _ | refine blk_drew ?_ | refine blk_alloc ?_ _)); exact BK372.out⟩, ⟨by (with_reducible repeat (first | refine blk_drewN ?_ _ | refine blk_drew ?_ | refine blk_alloc ?_ _)); exact BK380.out⟩, ⟨by repeat (first | (with_reducible first | exact HB.out | apply below_alloc | apply pw_below_drewN | apply below_drew1 | refine below_set ?_ GE364.out | refine below_set ?_ GE372.out | refine below_set ?_ GE380.out) | exact HB.out)⟩⟩
          ·rw [if_neg c32] at H
           have c32b0 : (t381 == 0) = false := beq_eq_false_iff_ne.mpr c32
           have c32b1 : (t381 != 0) = true := bne_iff_ne.mpr c32
           exact absurd H (fun h_ => (by
            have hd_ : ∀ k_, watchwordlaw5_ChainTimes.j1 k_ l0 a1 (Go.bits .and .i64 a2 1023) t363 t371 x12_1 true t357 t358 t359 t360 t361 t362 t365 t366 t367 t368 t369 t370 ((rd_T50 l0 x12_1).f0) ((rd_T50 l0 x12_1).f1) ((rd_T50 l0 x12_1).f2) ((rd_T50 l0 x12_1).f3) ((rd_T50 l0 x12_1).f4) ((rd_T50 l0 x12_1).f5) = some r → False := by
             intro k_ h_
             cases k_ with
             | zero => exact absurd h_ (by simp [watchwordlaw5_ChainTimes.j1])
             | succ k_ =>
              simp only [watchwordlaw5_ChainTimes.j1, if_true] at h_
              exact absurd (Option.some.inj h_) (by rw [HT.out]; decide)
            exact hd_ _ h_))
         ·rw [if_neg c30] at H
          have c30b0 : decide ((Go.bits .and .i64 a2 1023) < ((rd_T50 l0 x12_1).f3)) = false := decide_eq_false c30
          clear c30
          have H' := Aside0.mk H
          clear H
          have hnb45 := NB380_364.out
          have hnc45 := NB364_380.out
          have hnb46 := NB380_372.out
          have hnc46 := NB372_380.out
          have hcz47_0 : w28.cell? ⟨gb380, 0, none⟩ = some (.int .i64 ((rd_T50 l0 x12_1).f0)) := (blk_cell BK380.out 0).trans rfl
          have hcz47_1 : w28.cell? ⟨gb380, 1, none⟩ = some (.string ((rd_T50 l0 x12_1).f1)) := (blk_cell BK380.out 1).trans rfl
          have hcz47_2 : w28.cell? ⟨gb380, 2, none⟩ = some (.int .i64 ((rd_T50 l0 x12_1).f2)) := (blk_cell BK380.out 2).trans rfl
          have hcz47_3 : w28.cell? ⟨gb380, 3, none⟩ = some (.int .i64 ((rd_T50 l0 x12_1).f3)) := (blk_cell BK380.out 3).trans rfl
          have hcz47_4 : w28.cell? ⟨gb380, 4, none⟩ = some (.int .i64 ((rd_T50 l0 x12_1).f4)) := (blk_cell BK380.out 4).trans rfl
          have hcz47_5 : w28.cell? ⟨gb380, 5, none⟩ = some (.int .i64 ((rd_T50 l0 x12_1).f5)) := (blk_cell BK380.out 5).trans rfl
          have hfz47_0 := blk_frozen BK380.out 0
          have hfz47_1 := blk_frozen BK380.out 1
          have hfz47_2 := blk_frozen BK380.out 2
          have hfz47_3 := blk_frozen BK380.out 3
          have hfz47_4 := blk_frozen BK380.out 4
          have hfz47_5 := blk_frozen BK380.out 5
          go_wp2
          go_meet
          case rel => exact ⟨_, (false), (by first | rfl | (simp; done) | (simp [*]; done)), H', ⟨by have := HK1.out; first | omega | exact Nat.le_refl _⟩, ⟨by (with_reducible repeat (first | refine blk_drewN ?_ _ | refine blk_drew ?_ | refine blk_alloc ?_ _)); exact BK364.out⟩, ⟨by (with_reducible repeat (first | refine blk_drewN ?_ _ | refine blk_drew ?_ | refine blk_alloc ?_ _)); exact BK372.out⟩, ⟨by (with_reducible repeat (first | refine blk_drewN ?_ _ | refine blk_drew ?_ | refine blk_alloc ?_ _)); exact BK380.out⟩, ⟨by repeat (first | (with_reducible first | exact HB.out | apply below_alloc | apply pw_below_drewN | apply below_drew1 | refine below_set ?_ GE364.out | refine below_set ?_ GE372.out | refine below_set ?_ GE380.out) | exact HB.out)⟩⟩
        ·rw [if_neg c29] at H
         have c29b0 : decide (((rd_T50 l0 x12_1).f2) ≤ (Go.bits .and .i64 a2 1023)) = false := decide_eq_false c29
         clear c29
         (first | rw [c29b0] | (simp only [i64_w, i32_w]; rw [c29b0]) | skip)
         have H' := Aside0.mk H
         clear H
         have hnb48 := NB380_364.out
         have hnc48 := NB364_380.out
         have hnb49 := NB380_372.out
         have hnc49 := NB372_380.out
         have hcz50_0 : w28.cell? ⟨gb380, 0, none⟩ = some (.int .i64 ((rd_T50 l0 x12_1).f0)) := (blk_cell BK380.out 0).trans rfl
         have hcz50_1 : w28.cell? ⟨gb380, 1, none⟩ = some (.string ((rd_T50 l0 x12_1).f1)) := (blk_cell BK380.out 1).trans rfl
         have hcz50_2 : w28.cell? ⟨gb380, 2, none⟩ = some (.int .i64 ((rd_T50 l0 x12_1).f2)) := (blk_cell BK380.out 2).trans rfl
         have hcz50_3 : w28.cell? ⟨gb380, 3, none⟩ = some (.int .i64 ((rd_T50 l0 x12_1).f3)) := (blk_cell BK380.out 3).trans rfl
         have hcz50_4 : w28.cell? ⟨gb380, 4, none⟩ = some (.int .i64 ((rd_T50 l0 x12_1).f4)) := (blk_cell BK380.out 4).trans rfl
         have hcz50_5 : w28.cell? ⟨gb380, 5, none⟩ = some (.int .i64 ((rd_T50 l0 x12_1).f5)) := (blk_cell BK380.out 5).trans rfl
         have hfz50_0 := blk_frozen BK380.out 0
         have hfz50_1 := blk_frozen BK380.out 1
         have hfz50_2 := blk_frozen BK380.out 2
         have hfz50_3 := blk_frozen BK380.out 3
         have hfz50_4 := blk_frozen BK380.out 4
         have hfz50_5 := blk_frozen BK380.out 5
         go_wp2
         go_meet
         case rel => exact ⟨_, (false), (by first | rfl | (simp; done) | (simp [*]; done)), H', ⟨by have := HK1.out; first | omega | exact Nat.le_refl _⟩, ⟨by (with_reducible repeat (first | refine blk_drewN ?_ _ | refine blk_drew ?_ | refine blk_alloc ?_ _)); exact BK364.out⟩, ⟨by (with_reducible repeat (first | refine blk_drewN ?_ _ | refine blk_drew ?_ | refine blk_alloc ?_ _)); exact BK372.out⟩, ⟨by (with_reducible repeat (first | refine blk_drewN ?_ _ | refine blk_drew ?_ | refine blk_alloc ?_ _)); exact BK380.out⟩, ⟨by repeat (first | (with_reducible first | exact HB.out | apply below_alloc | apply pw_below_drewN | apply below_drew1 | refine below_set ?_ GE364.out | refine below_set ?_ GE372.out | refine below_set ?_ GE380.out) | exact HB.out)⟩⟩
       case rest =>
        clear HC23
        try clear c1
        try clear c2
        try clear p2
        try clear c3
        try clear p3
        try clear q3
        try clear hx3
        try clear c4
        try clear c5
        try clear c9
        try clear c17
        try clear c21
        try clear c21b0
        try clear c22
        try clear c22b0
        try clear c25
        try clear c26
        try clear c28
        try clear c29
        try clear c29b0
        try clear c30
        try clear c30b0
        try clear c32
        try clear c32b0
        try clear c32b1
        try clear c33
        try clear c33b0
        try clear c34
        try clear c34b0
        try clear c34b1
        try clear c35
        try clear c36
        try clear c37
        try clear p37
        try clear q37
        try clear hx37
        try clear c38
        try clear c40
        try clear c41
        try clear c43
        try clear c45
        try clear c46
        try clear c48
        try clear c49
        try clear hcz13_0
        try clear hcz13_1
        try clear hcz13_2
        try clear hcz13_3
        try clear hcz13_4
        try clear hcz13_5
        try clear hcz18_0
        try clear hcz18_1
        try clear hcz18_2
        try clear hcz18_3
        try clear hcz18_4
        try clear hcz18_5
        try clear hcz27_0
        try clear hcz27_1
        try clear hcz27_2
        try clear hcz27_3
        try clear hcz27_4
        try clear hcz27_5
        try clear hcz37_0
        try clear hcz37_1
        try clear hcz37_2
        try clear hcz37_3
        try clear hcz37_4
        try clear hcz37_5
        try clear hcz39_0
        try clear hcz39_1
        try clear hcz39_2
        try clear hcz39_3
        try clear hcz39_4
        try clear hcz39_5
        try clear hcz42_0
        try clear hcz42_1
        try clear hcz42_2
        try clear hcz42_3
        try clear hcz42_4
        try clear hcz42_5
        try clear hcz44_0
        try clear hcz44_1
        try clear hcz44_2
        try clear hcz44_3
        try clear hcz44_4
        try clear hcz44_5
        try clear hcz47_0
        try clear hcz47_1
        try clear hcz47_2
        try clear hcz47_3
        try clear hcz47_4
        try clear hcz47_5
        try clear hcz50_0
        try clear hcz50_1
        try clear hcz50_2
        try clear hcz50_3
        try clear hcz50_4
        try clear hcz50_5
        try clear hfz13_0
        try clear hfz13_1
        try clear hfz13_2
        try clear hfz13_3
        try clear hfz13_4
        try clear hfz13_5
        try clear hfz18_0
        try clear hfz18_1
        try clear hfz18_2
        try clear hfz18_3
        try clear hfz18_4
        try clear hfz18_5
        try clear hfz27_0
        try clear hfz27_1
        try clear hfz27_2
        try clear hfz27_3
        try clear hfz27_4
        try clear hfz27_5
        try clear hfz37_0
        try clear hfz37_1
        try clear hfz37_2
        try clear hfz37_3
        try clear hfz37_4
        try clear hfz37_5
        try clear hfz39_0
        try clear hfz39_1
        try clear hfz39_2
        try clear hfz39_3
        try clear hfz39_4
        try clear hfz39_5
        try clear hfz42_0
        try clear hfz42_1
        try clear hfz42_2
        try clear hfz42_3
        try clear hfz42_4
        try clear hfz42_5
        try clear hfz44_0
        try clear hfz44_1
        try clear hfz44_2
        try clear hfz44_3
        try clear hfz44_4
        try clear hfz44_5
        try clear hfz47_0
        try clear hfz47_1
        try clear hfz47_2
        try clear hfz47_3
        try clear hfz47_4
        try clear hfz47_5
        try clear hfz50_0
        try clear hfz50_1
        try clear hfz50_2
        try clear hfz50_3
        try clear hfz50_4
        try clear hfz50_5
        try clear hx379_0
        try clear hx379_1
        try clear hx379_2
        try clear hx379_3
        try clear hx379_4
        try clear hx379_5
        try clear p2
        try clear p379
        try clear q379
        obtain ⟨kq, x88_22, rfl, HA, HJ22, BK364, BK372, BK380, HB⟩ := hcut
        cases kq with
        | zero => exact absurd HA.out (by simp [watchwordlaw5_ChainTimes.j1])
        | succ kj22 =>
         have H := HA.out
         clear HA
         simp only [watchwordlaw5_ChainTimes.j1] at H
         by_cases c51 : x88_22 = true
         ·subst c51
          have H1 : (some false) = some r := by rw [if_pos rfl] at H; exact H
          clear H
          have H := H1
          clear H1
          exact absurd (Option.some.inj H) (by rw [HT.out]; decide)
         ·replace c51 := Bool.eq_false_iff.mpr c51
          subst c51
          have H1 : (if ((rd_T50 l0 x12_1).f0) = (Go.bits .and .i64 a1 255) then (if ((rd_T50 l0 x12_1).f4) ≤ (Go.bits .and .i64 a2 1023) then (if (Go.bits .and .i64 a2 1023) < ((rd_T50 l0 x12_1).f5) then ((watchwordlaw0_Num.f t371).bind fun t382 => (if t382 = 0 then (if (!(t365 == ((rd_T50 l0 x12_1).f0)) || (!(t366.toList == ((rd_T50 l0 x12_1).f1).toList) || (!(t367 == ((rd_T50 l0 x12_1).f2)) || (!(t368 == ((rd_T50 l0 x12_1).f3)) || (!(t369 == ((rd_T50 l0 x12_1).f4)) || (!(t370 == ((rd_T50 l0 x12_1).f5)))))))) = true then (some false) else (watchwordlaw5_ChainTimes.l0 kj22 l0 a1 (Go.bits .and .i64 a2 1023) t363 t371 (wrap64 (x12_1 + 1)) t357 t358 t359 t360 t361 t362 t365 t366 t367 t368 t369 t370)) else (some false))) else (watchwordlaw5_ChainTimes.l0 kj22 l0 a1 (Go.bits .and .i64 a2 1023) t363 t371 (wrap64 (x12_1 + 1)) t357 t358 t359 t360 t361 t362 t365 t366 t367 t368 t369 t370)) else (watchwordlaw5_ChainTimes.l0 kj22 l0 a1 (Go.bits .and .i64 a2 1023) t363 t371 (wrap64 (x12_1 + 1)) t357 t358 t359 t360 t361 t362 t365 t366 t367 t368 t369 t370)) else (watchwordlaw5_ChainTimes.l0 kj22 l0 a1 (Go.bits .and .i64 a2 1023) t363 t371 (wrap64 (x12_1 + 1)) t357 t358 t359 t360 t361 t362 t365 t366 t367 t368 t369 t370)) = some r := by rw [if_neg (show ¬ (false = true) by decide)] at H; exact H
          clear H
          have H := H1
          clear H1
          by_cases c52 : ((rd_T50 l0 x12_1).f0) = (Go.bits .and .i64 a1 255)
          ·rw [if_pos c52] at H
           have c52b0 : (((rd_T50 l0 x12_1).f0) == (Go.bits .and .i64 a1 255)) = true := beq_iff_eq.mpr c52
           have c52b1 : (((rd_T50 l0 x12_1).f0) != (Go.bits .and .i64 a1 255)) = false := bne_eq_false_iff_eq.mpr c52
           clear c52
           by_cases c53 : ((rd_T50 l0 x12_1).f4) ≤ (Go.bits .and .i64 a2 1023)
           ·rw [if_pos c53] at H
            have c53b0 : decide (((rd_T50 l0 x12_1).f4) ≤ (Go.bits .and .i64 a2 1023)) = true := decide_eq_true c53
            clear c53
            by_cases c54 : (Go.bits .and .i64 a2 1023) < ((rd_T50 l0 x12_1).f5)
            ·rw [if_pos c54] at H
             have c54b0 : decide ((Go.bits .and .i64 a2 1023) < ((rd_T50 l0 x12_1).f5)) = true := decide_eq_true c54
             clear c54
             replace H := Option.bind_eq_some_iff.mp H
             obtain ⟨t382, A550, H⟩ := H
             replace H : (if t382 = 0 then (if (!(t365 == ((rd_T50 l0 x12_1).f0)) || (!(t366.toList == ((rd_T50 l0 x12_1).f1).toList) || (!(t367 == ((rd_T50 l0 x12_1).f2)) || (!(t368 == ((rd_T50 l0 x12_1).f3)) || (!(t369 == ((rd_T50 l0 x12_1).f4)) || (!(t370 == ((rd_T50 l0 x12_1).f5)))))))) = true then (some false) else (watchwordlaw5_ChainTimes.l0 kj22 l0 a1 (Go.bits .and .i64 a2 1023) t363 t371 (wrap64 (x12_1 + 1)) t357 t358 t359 t360 t361 t362 t365 t366 t367 t368 t369 t370)) else (some false)) = some r := H
             have A55 := Aside0.mk A550
             clear A550
             by_cases c56 : t382 = 0
             ·rw [if_pos c56] at H
              have c56b0 : (t382 == 0) = true := beq_iff_eq.mpr c56
              have c56b1 : (t382 != 0) = false := bne_eq_false_iff_eq.mpr c56
              clear c56
              by_cases c57 : (!(t365 == ((rd_T50 l0 x12_1).f0)) || (!(t366.toList == ((rd_T50 l0 x12_1).f1).toList) || (!(t367 == ((rd_T50 l0 x12_1).f2)) || (!(t368 == ((rd_T50 l0 x12_1).f3)) || (!(t369 == ((rd_T50 l0 x12_1).f4)) || (!(t370 == ((rd_T50 l0 x12_1).f5)))))))) = true
              ·rw [if_pos c57] at H
               have c57b0 : (!(t365 == ((rd_T50 l0 x12_1).f0)) || (!(t366.toList == ((rd_T50 l0 x12_1).f1).toList) || (!(t367 == ((rd_T50 l0 x12_1).f2)) || (!(t368 == ((rd_T50 l0 x12_1).f3)) || (!(t369 == ((rd_T50 l0 x12_1).f4)) || (!(t370 == ((rd_T50 l0 x12_1).f5)))))))) = true := c57
               clear c57
               exact absurd (Option.some.inj H) (by rw [HT.out]; decide)
              ·rw [if_neg c57] at H
               have c57b0 : (!(t365 == ((rd_T50 l0 x12_1).f0)) || (!(t366.toList == ((rd_T50 l0 x12_1).f1).toList) || (!(t367 == ((rd_T50 l0 x12_1).f2)) || (!(t368 == ((rd_T50 l0 x12_1).f3)) || (!(t369 == ((rd_T50 l0 x12_1).f4)) || (!(t370 == ((rd_T50 l0 x12_1).f5)))))))) = false := by simpa using c57
               clear c57
               have H' := Aside0.mk H
               clear H
               have hnb58 := NB380_364.out
               have hnc58 := NB364_380.out
               have hnb59 := NB380_372.out
               have hnc59 := NB372_380.out
               have hcz60_0 : wc.cell? ⟨gb380, 0, none⟩ = some (.int .i64 ((rd_T50 l0 x12_1).f0)) := (blk_cell BK380.out 0).trans rfl
               have hcz60_1 : wc.cell? ⟨gb380, 1, none⟩ = some (.string ((rd_T50 l0 x12_1).f1)) := (blk_cell BK380.out 1).trans rfl
               have hcz60_2 : wc.cell? ⟨gb380, 2, none⟩ = some (.int .i64 ((rd_T50 l0 x12_1).f2)) := (blk_cell BK380.out 2).trans rfl
               have hcz60_3 : wc.cell? ⟨gb380, 3, none⟩ = some (.int .i64 ((rd_T50 l0 x12_1).f3)) := (blk_cell BK380.out 3).trans rfl
               have hcz60_4 : wc.cell? ⟨gb380, 4, none⟩ = some (.int .i64 ((rd_T50 l0 x12_1).f4)) := (blk_cell BK380.out 4).trans rfl
               have hcz60_5 : wc.cell? ⟨gb380, 5, none⟩ = some (.int .i64 ((rd_T50 l0 x12_1).f5)) := (blk_cell BK380.out 5).trans rfl
               have hfz60_0 := blk_frozen BK380.out 0
               have hfz60_1 := blk_frozen BK380.out 1
               have hfz60_2 := blk_frozen BK380.out 2
               have hfz60_3 := blk_frozen BK380.out 3
               have hfz60_4 := blk_frozen BK380.out 4
               have hfz60_5 := blk_frozen BK380.out 5
               go_wp2_with (first | (go_at_call 18; (with_reducible refine (watchwordlaw0_Num.calls t371 t382 _ A55.out).mono ?_); rintro e w' ⟨rfl, ⟨nd, rfl⟩⟩; have hnb61 := NB372_364.out; have hnc61 := NB364_372.out; have hcz62_0 : wc.cell? ⟨gb372, 0, none⟩ = some (.int .i64 t365) := (blk_cell BK372.out 0).trans rfl; have hcz62_1 : wc.cell? ⟨gb372, 1, none⟩ = some (.string t366) := (blk_cell BK372.out 1).trans rfl; have hcz62_2 : wc.cell? ⟨gb372, 2, none⟩ = some (.int .i64 t367) := (blk_cell BK372.out 2).trans rfl; have hcz62_3 : wc.cell? ⟨gb372, 3, none⟩ = some (.int .i64 t368) := (blk_cell BK372.out 3).trans rfl; have hcz62_4 : wc.cell? ⟨gb372, 4, none⟩ = some (.int .i64 t369) := (blk_cell BK372.out 4).trans rfl; have hcz62_5 : wc.cell? ⟨gb372, 5, none⟩ = some (.int .i64 t370) := (blk_cell BK372.out 5).trans rfl; have hfz62_0 := blk_frozen BK372.out 0; have hfz62_1 := blk_frozen BK372.out 1; have hfz62_2 := blk_frozen BK372.out 2; have hfz62_3 := blk_frozen BK372.out 3; have hfz62_4 := blk_frozen BK372.out 4; have hfz62_5 := blk_frozen BK372.out 5))
               go_roundg kj22
               case measure => have := HK1.out; have := HJ22.out; omega
               case rel => exact ⟨(wrap64 (x12_1 + 1)), (by first | rfl | (simp; done) | (simp [*]; done)), H', ⟨by have := HK1.out; have := HJ22.out; omega⟩, ⟨by (with_reducible repeat (first | refine blk_drewN ?_ _ | refine blk_drew ?_ | refine blk_alloc ?_ _)); exact BK364.out⟩, ⟨by (with_reducible repeat (first | refine blk_drewN ?_ _ | refine blk_drew ?_ | refine blk_alloc ?_ _)); exact BK372.out⟩, ⟨by repeat (first | (with_reducible first | exact HB.out | apply below_alloc | apply pw_below_drewN | apply below_drew1 | refine below_set ?_ GE364.out | refine below_set ?_ GE372.out | refine below_set ?_ GE380.out) | exact HB.out)⟩⟩
             ·rw [if_neg c56] at H
              have c56b0 : (t382 == 0) = false := beq_eq_false_iff_ne.mpr c56
              have c56b1 : (t382 != 0) = true := bne_iff_ne.mpr c56
              exact absurd (Option.some.inj H) (by rw [HT.out]; decide)
            ·rw [if_neg c54] at H
             have c54b0 : decide ((Go.bits .and .i64 a2 1023) < ((rd_T50 l0 x12_1).f5)) = false := decide_eq_false c54
             clear c54
             have H' := Aside0.mk H
             clear H
             have hnb63 := NB380_364.out
             have hnc63 := NB364_380.out
             have hnb64 := NB380_372.out
             have hnc64 := NB372_380.out
             have hcz65_0 : wc.cell? ⟨gb380, 0, none⟩ = some (.int .i64 ((rd_T50 l0 x12_1).f0)) := (blk_cell BK380.out 0).trans rfl
             have hcz65_1 : wc.cell? ⟨gb380, 1, none⟩ = some (.string ((rd_T50 l0 x12_1).f1)) := (blk_cell BK380.out 1).trans rfl
             have hcz65_2 : wc.cell? ⟨gb380, 2, none⟩ = some (.int .i64 ((rd_T50 l0 x12_1).f2)) := (blk_cell BK380.out 2).trans rfl
             have hcz65_3 : wc.cell? ⟨gb380, 3, none⟩ = some (.int .i64 ((rd_T50 l0 x12_1).f3)) := (blk_cell BK380.out 3).trans rfl
             have hcz65_4 : wc.cell? ⟨gb380, 4, none⟩ = some (.int .i64 ((rd_T50 l0 x12_1).f4)) := (blk_cell BK380.out 4).trans rfl
             have hcz65_5 : wc.cell? ⟨gb380, 5, none⟩ = some (.int .i64 ((rd_T50 l0 x12_1).f5)) := (blk_cell BK380.out 5).trans rfl
             have hfz65_0 := blk_frozen BK380.out 0
             have hfz65_1 := blk_frozen BK380.out 1
             have hfz65_2 := blk_frozen BK380.out 2
             have hfz65_3 := blk_frozen BK380.out 3
             have hfz65_4 := blk_frozen BK380.out 4
             have hfz65_5 := blk_frozen BK380.out 5
             go_wp2
             go_roundg kj22
             case measure => have := HK1.out; have := HJ22.out; omega
             case rel => exact ⟨(wrap64 (x12_1 + 1)), (by first | rfl | (simp; done) | (simp [*]; done)), H', ⟨by have := HK1.out; have := HJ22.out; omega⟩, ⟨by (with_reducible repeat (first | refine blk_drewN ?_ _ | refine blk_drew ?_ | refine blk_alloc ?_ _)); exact BK364.out⟩, ⟨by (with_reducible repeat (first | refine blk_drewN ?_ _ | refine blk_drew ?_ | refine blk_alloc ?_ _)); exact BK372.out⟩, ⟨by repeat (first | (with_reducible first | exact HB.out | apply below_alloc | apply pw_below_drewN | apply below_drew1 | refine below_set ?_ GE364.out | refine below_set ?_ GE372.out | refine below_set ?_ GE380.out) | exact HB.out)⟩⟩
           ·rw [if_neg c53] at H
            have c53b0 : decide (((rd_T50 l0 x12_1).f4) ≤ (Go.bits .and .i64 a2 1023)) = false := decide_eq_false c53
            clear c53
            have H' := Aside0.mk H
            clear H
            have hnb66 := NB380_364.out
            have hnc66 := NB364_380.out
            have hnb67 := NB380_372.out
            have hnc67 := NB372_380.out
            have hcz68_0 : wc.cell? ⟨gb380, 0, none⟩ = some (.int .i64 ((rd_T50 l0 x12_1).f0)) := (blk_cell BK380.out 0).trans rfl
            have hcz68_1 : wc.cell? ⟨gb380, 1, none⟩ = some (.string ((rd_T50 l0 x12_1).f1)) := (blk_cell BK380.out 1).trans rfl
            have hcz68_2 : wc.cell? ⟨gb380, 2, none⟩ = some (.int .i64 ((rd_T50 l0 x12_1).f2)) := (blk_cell BK380.out 2).trans rfl
            have hcz68_3 : wc.cell? ⟨gb380, 3, none⟩ = some (.int .i64 ((rd_T50 l0 x12_1).f3)) := (blk_cell BK380.out 3).trans rfl
            have hcz68_4 : wc.cell? ⟨gb380, 4, none⟩ = some (.int .i64 ((rd_T50 l0 x12_1).f4)) := (blk_cell BK380.out 4).trans rfl
            have hcz68_5 : wc.cell? ⟨gb380, 5, none⟩ = some (.int .i64 ((rd_T50 l0 x12_1).f5)) := (blk_cell BK380.out 5).trans rfl
            have hfz68_0 := blk_frozen BK380.out 0
            have hfz68_1 := blk_frozen BK380.out 1
            have hfz68_2 := blk_frozen BK380.out 2
            have hfz68_3 := blk_frozen BK380.out 3
            have hfz68_4 := blk_frozen BK380.out 4
            have hfz68_5 := blk_frozen BK380.out 5
            go_wp2
            go_roundg kj22
            case measure => have := HK1.out; have := HJ22.out; omega
            case rel => exact ⟨(wrap64 (x12_1 + 1)), (by first | rfl | (simp; done) | (simp [*]; done)), H', ⟨by have := HK1.out; have := HJ22.out; omega⟩, ⟨by (with_reducible repeat (first | refine blk_drewN ?_ _ | refine blk_drew ?_ | refine blk_alloc ?_ _)); exact BK364.out⟩, ⟨by (with_reducible repeat (first | refine blk_drewN ?_ _ | refine blk_drew ?_ | refine blk_alloc ?_ _)); exact BK372.out⟩, ⟨by repeat (first | (with_reducible first | exact HB.out | apply below_alloc | apply pw_below_drewN | apply below_drew1 | refine below_set ?_ GE364.out | refine below_set ?_ GE372.out | refine below_set ?_ GE380.out) | exact HB.out)⟩⟩
          ·rw [if_neg c52] at H
           have c52b0 : (((rd_T50 l0 x12_1).f0) == (Go.bits .and .i64 a1 255)) = false := beq_eq_false_iff_ne.mpr c52
           have c52b1 : (((rd_T50 l0 x12_1).f0) != (Go.bits .and .i64 a1 255)) = true := bne_iff_ne.mpr c52
           have H' := Aside0.mk H
           clear H
           have hnb69 := NB380_364.out
           have hnc69 := NB364_380.out
           have hnb70 := NB380_372.out
           have hnc70 := NB372_380.out
           have hcz71_0 : wc.cell? ⟨gb380, 0, none⟩ = some (.int .i64 ((rd_T50 l0 x12_1).f0)) := (blk_cell BK380.out 0).trans rfl
           have hcz71_1 : wc.cell? ⟨gb380, 1, none⟩ = some (.string ((rd_T50 l0 x12_1).f1)) := (blk_cell BK380.out 1).trans rfl
           have hcz71_2 : wc.cell? ⟨gb380, 2, none⟩ = some (.int .i64 ((rd_T50 l0 x12_1).f2)) := (blk_cell BK380.out 2).trans rfl
           have hcz71_3 : wc.cell? ⟨gb380, 3, none⟩ = some (.int .i64 ((rd_T50 l0 x12_1).f3)) := (blk_cell BK380.out 3).trans rfl
           have hcz71_4 : wc.cell? ⟨gb380, 4, none⟩ = some (.int .i64 ((rd_T50 l0 x12_1).f4)) := (blk_cell BK380.out 4).trans rfl
           have hcz71_5 : wc.cell? ⟨gb380, 5, none⟩ = some (.int .i64 ((rd_T50 l0 x12_1).f5)) := (blk_cell BK380.out 5).trans rfl
           have hfz71_0 := blk_frozen BK380.out 0
           have hfz71_1 := blk_frozen BK380.out 1
           have hfz71_2 := blk_frozen BK380.out 2
           have hfz71_3 := blk_frozen BK380.out 3
           have hfz71_4 := blk_frozen BK380.out 4
           have hfz71_5 := blk_frozen BK380.out 5
           go_wp2
           go_roundg kj22
           case measure => have := HK1.out; have := HJ22.out; omega
           case rel => exact ⟨(wrap64 (x12_1 + 1)), (by first | rfl | (simp; done) | (simp [*]; done)), H', ⟨by have := HK1.out; have := HJ22.out; omega⟩, ⟨by (with_reducible repeat (first | refine blk_drewN ?_ _ | refine blk_drew ?_ | refine blk_alloc ?_ _)); exact BK364.out⟩, ⟨by (with_reducible repeat (first | refine blk_drewN ?_ _ | refine blk_drew ?_ | refine blk_alloc ?_ _)); exact BK372.out⟩, ⟨by repeat (first | (with_reducible first | exact HB.out | apply below_alloc | apply pw_below_drewN | apply below_drew1 | refine below_set ?_ GE364.out | refine below_set ?_ GE372.out | refine below_set ?_ GE380.out) | exact HB.out)⟩⟩
      ·rw [if_neg c22] at H
       exact absurd H (by simp)
     ·rw [if_neg c21] at H
      have c21b0 : decide (x12_1 < (l0.length : Int)) = false := decide_eq_false c21
      clear c21
      replace H := Option.bind_eq_some_iff.mp H
      obtain ⟨t376, A720, H⟩ := H
      replace H : (if t376 = 0 then (if t359 ≤ (Go.bits .and .i64 a2 1023) then (if (Go.bits .and .i64 a2 1023) < t360 then ((watchwordlaw0_Num.f t371).bind fun t377 => (if t377 = 0 then (if t365 = (Go.bits .and .i64 a1 255) then (if t369 ≤ (Go.bits .and .i64 a2 1023) then (some (decide ((Go.bits .and .i64 a2 1023) < t370))) else (some false)) else (some false)) else (some true))) else (some false)) else (some false)) else ((watchwordlaw0_Num.f t371).bind fun t378 => (if t378 = 0 then (if t365 = (Go.bits .and .i64 a1 255) then (if t369 ≤ (Go.bits .and .i64 a2 1023) then (some (decide ((Go.bits .and .i64 a2 1023) < t370))) else (some false)) else (some false)) else (some true)))) = some r := H
      have A72 := Aside0.mk A720
      clear A720
      by_cases c73 : t376 = 0
      ·rw [if_pos c73] at H
       have c73b0 : (t376 == 0) = true := beq_iff_eq.mpr c73
       have c73b1 : (t376 != 0) = false := bne_eq_false_iff_eq.mpr c73
       clear c73
       by_cases c74 : t359 ≤ (Go.bits .and .i64 a2 1023)
       ·rw [if_pos c74] at H
        have c74b0 : decide (t359 ≤ (Go.bits .and .i64 a2 1023)) = true := decide_eq_true c74
        clear c74
        by_cases c75 : (Go.bits .and .i64 a2 1023) < t360
        ·rw [if_pos c75] at H
         have c75b0 : decide ((Go.bits .and .i64 a2 1023) < t360) = true := decide_eq_true c75
         clear c75
         replace H := Option.bind_eq_some_iff.mp H
         obtain ⟨t377, A760, H⟩ := H
         replace H : (if t377 = 0 then (if t365 = (Go.bits .and .i64 a1 255) then (if t369 ≤ (Go.bits .and .i64 a2 1023) then (some (decide ((Go.bits .and .i64 a2 1023) < t370))) else (some false)) else (some false)) else (some true)) = some r := H
         have A76 := Aside0.mk A760
         clear A760
         by_cases c77 : t377 = 0
         ·rw [if_pos c77] at H
          have c77b0 : (t377 == 0) = true := beq_iff_eq.mpr c77
          have c77b1 : (t377 != 0) = false := bne_eq_false_iff_eq.mpr c77
          clear c77
          by_cases c78 : t365 = (Go.bits .and .i64 a1 255)
          ·rw [if_pos c78] at H
           have c78b0 : (t365 == (Go.bits .and .i64 a1 255)) = true := beq_iff_eq.mpr c78
           have c78b1 : (t365 != (Go.bits .and .i64 a1 255)) = false := bne_eq_false_iff_eq.mpr c78
           clear c78
           by_cases c79 : t369 ≤ (Go.bits .and .i64 a2 1023)
           ·rw [if_pos c79] at H
            have c79b0 : decide (t369 ≤ (Go.bits .and .i64 a2 1023)) = true := decide_eq_true c79
            clear c79
            obtain rfl := Option.some.inj H
            go_wp2_with (first | ((with_reducible refine gate_callee (f := 18) rfl ?_); refine goesL_ (some 117) rfl rfl Try.func18 (by kernel_rfl) rfl #[.int .i64 t363] rfl (by (try simp only [List.map_toArray, List.map_cons, List.map_nil]); first | done | rfl | (simp only [List.length_drop, List.length_take]; rfl)) ?_; (with_reducible refine (watchwordlaw0_Num.calls t363 t376 _ A72.out).mono ?_); rintro e w' ⟨rfl, ⟨nd, rfl⟩⟩; refine ⟨_, rfl, ?_⟩; have hnb80 := NB364_372.out; have hnc80 := NB372_364.out; have hcz81_0 : wr.cell? ⟨gb364, 0, none⟩ = some (.int .i64 t357) := (blk_cell BK364.out 0).trans rfl; have hcz81_1 : wr.cell? ⟨gb364, 1, none⟩ = some (.string t358) := (blk_cell BK364.out 1).trans rfl; have hcz81_2 : wr.cell? ⟨gb364, 2, none⟩ = some (.int .i64 t359) := (blk_cell BK364.out 2).trans rfl; have hcz81_3 : wr.cell? ⟨gb364, 3, none⟩ = some (.int .i64 t360) := (blk_cell BK364.out 3).trans rfl; have hcz81_4 : wr.cell? ⟨gb364, 4, none⟩ = some (.int .i64 t361) := (blk_cell BK364.out 4).trans rfl; have hcz81_5 : wr.cell? ⟨gb364, 5, none⟩ = some (.int .i64 t362) := (blk_cell BK364.out 5).trans rfl; have hfz81_0 := blk_frozen BK364.out 0; have hfz81_1 := blk_frozen BK364.out 1; have hfz81_2 := blk_frozen BK364.out 2; have hfz81_3 := blk_frozen BK364.out 3; have hfz81_4 := blk_frozen BK364.out 4; have hfz81_5 := blk_frozen BK364.out 5) | (go_at_call 18; (with_reducible refine (watchwordlaw0_Num.calls t371 t377 _ A76.out).mono ?_); rintro e w' ⟨rfl, ⟨nd, rfl⟩⟩; have hcz82_0 : wr.cell? ⟨gb372, 0, none⟩ = some (.int .i64 t365) := (blk_cell BK372.out 0).trans rfl; have hcz82_1 : wr.cell? ⟨gb372, 1, none⟩ = some (.string t366) := (blk_cell BK372.out 1).trans rfl; have hcz82_2 : wr.cell? ⟨gb372, 2, none⟩ = some (.int .i64 t367) := (blk_cell BK372.out 2).trans rfl; have hcz82_3 : wr.cell? ⟨gb372, 3, none⟩ = some (.int .i64 t368) := (blk_cell BK372.out 3).trans rfl; have hcz82_4 : wr.cell? ⟨gb372, 4, none⟩ = some (.int .i64 t369) := (blk_cell BK372.out 4).trans rfl; have hcz82_5 : wr.cell? ⟨gb372, 5, none⟩ = some (.int .i64 t370) := (blk_cell BK372.out 5).trans rfl; have hfz82_0 := blk_frozen BK372.out 0; have hfz82_1 := blk_frozen BK372.out 1; have hfz82_2 := blk_frozen BK372.out 2; have hfz82_3 := blk_frozen BK372.out 3; have hfz82_4 := blk_frozen BK372.out 4; have hfz82_5 := blk_frozen BK372.out 5))
            go_ret
            exact ⟨by first | rfl | (simp [errW_none, errW_some] <;> rfl) | (simp [*, errW_none, errW_some] <;> rfl), by repeat (first | (with_reducible first | exact HB.out | apply below_alloc | apply pw_below_drewN | apply below_drew1 | refine below_set ?_ GE364.out | refine below_set ?_ GE372.out) | exact HB.out)⟩
           ·rw [if_neg c79] at H
            have c79b0 : decide (t369 ≤ (Go.bits .and .i64 a2 1023)) = false := decide_eq_false c79
            clear c79
            exact absurd (Option.some.inj H) (by rw [HT.out]; decide)
          ·rw [if_neg c78] at H
           have c78b0 : (t365 == (Go.bits .and .i64 a1 255)) = false := beq_eq_false_iff_ne.mpr c78
           have c78b1 : (t365 != (Go.bits .and .i64 a1 255)) = true := bne_iff_ne.mpr c78
           exact absurd (Option.some.inj H) (by rw [HT.out]; decide)
         ·rw [if_neg c77] at H
          have c77b0 : (t377 == 0) = false := beq_eq_false_iff_ne.mpr c77
          have c77b1 : (t377 != 0) = true := bne_iff_ne.mpr c77
          obtain rfl := Option.some.inj H
          go_wp2_with (first | ((with_reducible refine gate_callee (f := 18) rfl ?_); refine goesL_ (some 117) rfl rfl Try.func18 (by kernel_rfl) rfl #[.int .i64 t363] rfl (by (try simp only [List.map_toArray, List.map_cons, List.map_nil]); first | done | rfl | (simp only [List.length_drop, List.length_take]; rfl)) ?_; (with_reducible refine (watchwordlaw0_Num.calls t363 t376 _ A72.out).mono ?_); rintro e w' ⟨rfl, ⟨nd, rfl⟩⟩; refine ⟨_, rfl, ?_⟩; have hnb83 := NB364_372.out; have hnc83 := NB372_364.out; have hcz84_0 : wr.cell? ⟨gb364, 0, none⟩ = some (.int .i64 t357) := (blk_cell BK364.out 0).trans rfl; have hcz84_1 : wr.cell? ⟨gb364, 1, none⟩ = some (.string t358) := (blk_cell BK364.out 1).trans rfl; have hcz84_2 : wr.cell? ⟨gb364, 2, none⟩ = some (.int .i64 t359) := (blk_cell BK364.out 2).trans rfl; have hcz84_3 : wr.cell? ⟨gb364, 3, none⟩ = some (.int .i64 t360) := (blk_cell BK364.out 3).trans rfl; have hcz84_4 : wr.cell? ⟨gb364, 4, none⟩ = some (.int .i64 t361) := (blk_cell BK364.out 4).trans rfl; have hcz84_5 : wr.cell? ⟨gb364, 5, none⟩ = some (.int .i64 t362) := (blk_cell BK364.out 5).trans rfl; have hfz84_0 := blk_frozen BK364.out 0; have hfz84_1 := blk_frozen BK364.out 1; have hfz84_2 := blk_frozen BK364.out 2; have hfz84_3 := blk_frozen BK364.out 3; have hfz84_4 := blk_frozen BK364.out 4; have hfz84_5 := blk_frozen BK364.out 5) | (go_at_call 18; (with_reducible refine (watchwordlaw0_Num.calls t371 t377 _ A76.out).mono ?_); rintro e w' ⟨rfl, ⟨nd, rfl⟩⟩))
          go_ret
          exact ⟨by first | rfl | (simp [errW_none, errW_some] <;> rfl) | (simp [*, errW_none, errW_some] <;> rfl), by repeat (first | (with_reducible first | exact HB.out | apply below_alloc | apply pw_below_drewN | apply below_drew1 | refine below_set ?_ GE364.out | refine below_set ?_ GE372.out) | exact HB.out)⟩
        ·rw [if_neg c75] at H
         have c75b0 : decide ((Go.bits .and .i64 a2 1023) < t360) = false := decide_eq_false c75
         clear c75
         exact absurd (Option.some.inj H) (by rw [HT.out]; decide)
       ·rw [if_neg c74] at H
        have c74b0 : decide (t359 ≤ (Go.bits .and .i64 a2 1023)) = false := decide_eq_false c74
        clear c74
        exact absurd (Option.some.inj H) (by rw [HT.out]; decide)
      ·rw [if_neg c73] at H
       have c73b0 : (t376 == 0) = false := beq_eq_false_iff_ne.mpr c73
       have c73b1 : (t376 != 0) = true := bne_iff_ne.mpr c73
       replace H := Option.bind_eq_some_iff.mp H
       obtain ⟨t378, A850, H⟩ := H
       replace H : (if t378 = 0 then (if t365 = (Go.bits .and .i64 a1 255) then (if t369 ≤ (Go.bits .and .i64 a2 1023) then (some (decide ((Go.bits .and .i64 a2 1023) < t370))) else (some false)) else (some false)) else (some true)) = some r := H
       have A85 := Aside0.mk A850
       clear A850
       by_cases c86 : t378 = 0
       ·rw [if_pos c86] at H
        have c86b0 : (t378 == 0) = true := beq_iff_eq.mpr c86
        have c86b1 : (t378 != 0) = false := bne_eq_false_iff_eq.mpr c86
        clear c86
        by_cases c87 : t365 = (Go.bits .and .i64 a1 255)
        ·rw [if_pos c87] at H
         have c87b0 : (t365 == (Go.bits .and .i64 a1 255)) = true := beq_iff_eq.mpr c87
         have c87b1 : (t365 != (Go.bits .and .i64 a1 255)) = false := bne_eq_false_iff_eq.mpr c87
         clear c87
         by_cases c88 : t369 ≤ (Go.bits .and .i64 a2 1023)
         ·rw [if_pos c88] at H
          have c88b0 : decide (t369 ≤ (Go.bits .and .i64 a2 1023)) = true := decide_eq_true c88
          clear c88
          obtain rfl := Option.some.inj H
          go_wp2_with (first | ((with_reducible refine gate_callee (f := 18) rfl ?_); refine goesL_ (some 117) rfl rfl Try.func18 (by kernel_rfl) rfl #[.int .i64 t363] rfl (by (try simp only [List.map_toArray, List.map_cons, List.map_nil]); first | done | rfl | (simp only [List.length_drop, List.length_take]; rfl)) ?_; (with_reducible refine (watchwordlaw0_Num.calls t363 t376 _ A72.out).mono ?_); rintro e w' ⟨rfl, ⟨nd, rfl⟩⟩; refine ⟨_, rfl, ?_⟩) | (go_at_call 18; (with_reducible refine (watchwordlaw0_Num.calls t371 t378 _ A85.out).mono ?_); rintro e w' ⟨rfl, ⟨nd, rfl⟩⟩; have hnb89 := NB372_364.out; have hnc89 := NB364_372.out; have hcz90_0 : wr.cell? ⟨gb372, 0, none⟩ = some (.int .i64 t365) := (blk_cell BK372.out 0).trans rfl; have hcz90_1 : wr.cell? ⟨gb372, 1, none⟩ = some (.string t366) := (blk_cell BK372.out 1).trans rfl; have hcz90_2 : wr.cell? ⟨gb372, 2, none⟩ = some (.int .i64 t367) := (blk_cell BK372.out 2).trans rfl; have hcz90_3 : wr.cell? ⟨gb372, 3, none⟩ = some (.int .i64 t368) := (blk_cell BK372.out 3).trans rfl; have hcz90_4 : wr.cell? ⟨gb372, 4, none⟩ = some (.int .i64 t369) := (blk_cell BK372.out 4).trans rfl; have hcz90_5 : wr.cell? ⟨gb372, 5, none⟩ = some (.int .i64 t370) := (blk_cell BK372.out 5).trans rfl; have hfz90_0 := blk_frozen BK372.out 0; have hfz90_1 := blk_frozen BK372.out 1; have hfz90_2 := blk_frozen BK372.out 2; have hfz90_3 := blk_frozen BK372.out 3; have hfz90_4 := blk_frozen BK372.out 4; have hfz90_5 := blk_frozen BK372.out 5))
          go_ret
          exact ⟨by first | rfl | (simp [errW_none, errW_some] <;> rfl) | (simp [*, errW_none, errW_some] <;> rfl), by repeat (first | (with_reducible first | exact HB.out | apply below_alloc | apply pw_below_drewN | apply below_drew1 | refine below_set ?_ GE364.out | refine below_set ?_ GE372.out) | exact HB.out)⟩
         ·rw [if_neg c88] at H
          have c88b0 : decide (t369 ≤ (Go.bits .and .i64 a2 1023)) = false := decide_eq_false c88
          clear c88
          exact absurd (Option.some.inj H) (by rw [HT.out]; decide)
        ·rw [if_neg c87] at H
         have c87b0 : (t365 == (Go.bits .and .i64 a1 255)) = false := beq_eq_false_iff_ne.mpr c87
         have c87b1 : (t365 != (Go.bits .and .i64 a1 255)) = true := bne_iff_ne.mpr c87
         exact absurd (Option.some.inj H) (by rw [HT.out]; decide)
       ·rw [if_neg c86] at H
        have c86b0 : (t378 == 0) = false := beq_eq_false_iff_ne.mpr c86
        have c86b1 : (t378 != 0) = true := bne_iff_ne.mpr c86
        obtain rfl := Option.some.inj H
        go_wp2_with (first | ((with_reducible refine gate_callee (f := 18) rfl ?_); refine goesL_ (some 117) rfl rfl Try.func18 (by kernel_rfl) rfl #[.int .i64 t363] rfl (by (try simp only [List.map_toArray, List.map_cons, List.map_nil]); first | done | rfl | (simp only [List.length_drop, List.length_take]; rfl)) ?_; (with_reducible refine (watchwordlaw0_Num.calls t363 t376 _ A72.out).mono ?_); rintro e w' ⟨rfl, ⟨nd, rfl⟩⟩; refine ⟨_, rfl, ?_⟩) | (go_at_call 18; (with_reducible refine (watchwordlaw0_Num.calls t371 t378 _ A85.out).mono ?_); rintro e w' ⟨rfl, ⟨nd, rfl⟩⟩))
        go_ret
        exact ⟨by first | rfl | (simp [errW_none, errW_some] <;> rfl) | (simp [*, errW_none, errW_some] <;> rfl), by repeat (first | (with_reducible first | exact HB.out | apply below_alloc | apply pw_below_drewN | apply below_drew1 | refine below_set ?_ GE364.out | refine below_set ?_ GE372.out) | exact HB.out)⟩
  ·replace c9 := Bool.eq_false_iff.mpr c9
   subst c9
   have H1 : ((watchwordlaw0_Num.f t363).bind fun t374 => (if t374 = 500 then ((watchwordlaw0_Num.f t371).bind fun t375 => (some (t375 == 500))) else (some false))) = some r := by rw [if_neg (show ¬ (false = true) by decide)] at H; exact H
   clear H
   have H := H1
   clear H1
   replace H := Option.bind_eq_some_iff.mp H
   obtain ⟨t374, A910, H⟩ := H
   replace H : (if t374 = 500 then ((watchwordlaw0_Num.f t371).bind fun t375 => (some (t375 == 500))) else (some false)) = some r := H
   have A91 := Aside0.mk A910
   clear A910
   by_cases c92 : t374 = 500
   ·rw [if_pos c92] at H
    have c92b0 : (t374 == 500) = true := beq_iff_eq.mpr c92
    have c92b1 : (t374 != 500) = false := bne_eq_false_iff_eq.mpr c92
    clear c92
    replace H := Option.bind_eq_some_iff.mp H
    obtain ⟨t375, A930, H⟩ := H
    replace H : (some (t375 == 500)) = some r := H
    have A93 := Aside0.mk A930
    clear A930
    obtain rfl := Option.some.inj H
    go_enter Try.func9, Try.ntmps9
    go_wp2_with (first | ((with_reducible refine gate_callee (f := 37) rfl ?_); refine goesL_ (some 14) rfl rfl Try.func37 (by kernel_rfl) rfl #[] rfl (by (try simp only [List.map_toArray, List.map_cons, List.map_nil]); first | done | rfl | (simp only [List.length_drop, List.length_take]; rfl)) ?_; (with_reducible refine (watchwordlaw5_awake.calls k  true _ A4.out (by first | rfl | exact HT.out)).mono ?_); rintro e w94 ⟨rfl, hb⟩; refine ⟨_, rfl, ?_⟩; have n0_ := Aside0.mk (below_step (by repeat (first | (with_reducible first | exact HB.out | apply below_alloc | apply pw_below_drewN | apply below_drew1) | exact HB.out)) hb); clear HB; have HB := n0_; clear n0_; (try clear hb); (try clear hb2); (try clear hk); (try clear hi)) | ((with_reducible refine gate_callee (f := 28) rfl ?_); refine goesL_ (some 21) rfl rfl Try.func28 (by kernel_rfl) rfl #[.slice A0 l0.length c0, .int .i64 (Go.bits .and .i64 a2 1023)] rfl (by (try simp only [List.map_toArray, List.map_cons, List.map_nil]); first | done | rfl | (simp only [List.length_drop, List.length_take]; rfl)) ?_; (with_reducible refine (chain_Send.calls k _ _ l0 (Go.bits .and .i64 a2 1023) t357 t358 t359 t360 t361 t362 t363 _ ?side1 ?side2 A6.out).mono ?_); (case side1 => repeat (first | exact (Kd.C_below HR0.out HB.out) | (with_reducible refine Kd.C_alloc ?_ _) | (with_reducible refine Kd.C_drewN ?_ _) | (with_reducible refine Kd.C_drew ?_))); (case side2 => exact HC0.out); rintro e w95 ⟨rfl, hb⟩; refine ⟨_, rfl, ?_⟩; have n0_ := Aside0.mk (below_step (by repeat (first | (with_reducible first | exact HB.out | apply below_alloc | apply pw_below_drewN | apply below_drew1) | exact HB.out)) hb); clear HB; have HB := n0_; clear n0_; (try clear hb); (try clear hb2); (try clear hk); (try clear hi)) | ((with_reducible refine gate_dst (N := 8) rfl ?_); refine box_event ?hg (N := 8) ?hd (cs := #[.int .i64 0, .string (⟨#[]⟩ : ByteArray), .int .i64 0, .int .i64 0, .int .i64 0, .int .i64 0]) (t := 50) ?hr ?_; (case hd => rfl); (case hg => rfl); (case hr => first | (go_simp; done) | (go_simp; rfl)); intro gb364 hg w96 hbox hb; have n0_ := Aside0.mk (below_step (by repeat (first | (with_reducible first | exact HB.out | apply below_alloc | apply pw_below_drewN | apply below_drew1) | exact HB.out)) hb); have n1_ := Aside0.mk (hbox); have n2_ := Aside0.mk ((by rw [hg]; exact (below_size (by repeat (first | (with_reducible first | exact HB.out | apply below_alloc | apply pw_below_drewN | apply below_drew1) | exact HB.out))) : w.heap.size ≤ gb364)); have n3_ := Aside0.mk ((by rw [hg]; exact (below_size (by repeat (first | (with_reducible first | exact HB.out | apply below_alloc | apply pw_below_drewN | apply below_drew1) | exact HB.out))) : w.heap.size ≤ gb364)); clear HB; have HB := n0_; have BK364 := n1_; have GW364 := n2_; have GE364 := n3_; clear n0_ n1_ n2_ n3_; clear hb hbox hg; have hcz97_0 : w96.cell? ⟨gb364, 0, none⟩ = some (.int .i64 0) := (blk_cell BK364.out 0).trans rfl; have hcz97_1 : w96.cell? ⟨gb364, 1, none⟩ = some (.string (⟨#[]⟩ : ByteArray)) := (blk_cell BK364.out 1).trans rfl; have hcz97_2 : w96.cell? ⟨gb364, 2, none⟩ = some (.int .i64 0) := (blk_cell BK364.out 2).trans rfl; have hcz97_3 : w96.cell? ⟨gb364, 3, none⟩ = some (.int .i64 0) := (blk_cell BK364.out 3).trans rfl; have hcz97_4 : w96.cell? ⟨gb364, 4, none⟩ = some (.int .i64 0) := (blk_cell BK364.out 4).trans rfl; have hcz97_5 : w96.cell? ⟨gb364, 5, none⟩ = some (.int .i64 0) := (blk_cell BK364.out 5).trans rfl; have hfz97_0 := blk_frozen BK364.out 0; have hfz97_1 := blk_frozen BK364.out 1; have hfz97_2 := blk_frozen BK364.out 2; have hfz97_3 := blk_frozen BK364.out 3; have hfz97_4 := blk_frozen BK364.out 4; have hfz97_5 := blk_frozen BK364.out 5) | ((with_reducible refine gate_store (t := 50) (p := 8) rfl ?_); refine store_event (t := 50) (p := 8) (v := ?vo_w98) (w1 := ((((((w96.setCell ⟨gb364, 0, none⟩ (.int .i64 t357)).setCell ⟨gb364, 1, none⟩ (.string t358)).setCell ⟨gb364, 2, none⟩ (.int .i64 t359)).setCell ⟨gb364, 3, none⟩ (.int .i64 t360)).setCell ⟨gb364, 4, none⟩ (.int .i64 t361)).setCell ⟨gb364, 5, none⟩ (.int .i64 t362))) ?hg ?ho ?hn ?hr ?_; (case ho => rfl); (case hg => rfl); (case hn => rfl); (case hr => first | (go_simp; done) | (go_simp; rfl)); intro w98 hw; have n0_ : Aside0 (w98.heap[gb364]? = some (.cells #[.int .i64 t357, .string t358, .int .i64 t359, .int .i64 t360, .int .i64 t361, .int .i64 t362] 50 (0, 0))) := ⟨(by rw [hw]; exact (by (with_reducible repeat (first | refine blk_drewN ?_ _ | refine blk_drew ?_ | refine blk_alloc ?_ _)); refine blk_put (cs := #[.int .i64 t357, .string t358, .int .i64 t359, .int .i64 t360, .int .i64 t361, .int .i64 0]) ?_ 5 _ rfl; (with_reducible repeat (first | refine blk_drewN ?_ _ | refine blk_drew ?_ | refine blk_alloc ?_ _)); refine blk_put (cs := #[.int .i64 t357, .string t358, .int .i64 t359, .int .i64 t360, .int .i64 0, .int .i64 0]) ?_ 4 _ rfl; (with_reducible repeat (first | refine blk_drewN ?_ _ | refine blk_drew ?_ | refine blk_alloc ?_ _)); refine blk_put (cs := #[.int .i64 t357, .string t358, .int .i64 t359, .int .i64 0, .int .i64 0, .int .i64 0]) ?_ 3 _ rfl; (with_reducible repeat (first | refine blk_drewN ?_ _ | refine blk_drew ?_ | refine blk_alloc ?_ _)); refine blk_put (cs := #[.int .i64 t357, .string t358, .int .i64 0, .int .i64 0, .int .i64 0, .int .i64 0]) ?_ 2 _ rfl; (with_reducible repeat (first | refine blk_drewN ?_ _ | refine blk_drew ?_ | refine blk_alloc ?_ _)); refine blk_put (cs := #[.int .i64 t357, .string (⟨#[]⟩ : ByteArray), .int .i64 0, .int .i64 0, .int .i64 0, .int .i64 0]) ?_ 1 _ rfl; (with_reducible repeat (first | refine blk_drewN ?_ _ | refine blk_drew ?_ | refine blk_alloc ?_ _)); refine blk_put (cs := #[.int .i64 0, .string (⟨#[]⟩ : ByteArray), .int .i64 0, .int .i64 0, .int .i64 0, .int .i64 0]) ?_ 0 _ rfl; (with_reducible repeat (first | refine blk_drewN ?_ _ | refine blk_drew ?_ | refine blk_alloc ?_ _)); exact BK364.out))⟩; have n1_ : Aside0 (Below w.heap.size w w98) := ⟨(by rw [hw]; exact (by repeat (first | (with_reducible first | exact HB.out | apply below_alloc | apply pw_below_drewN | apply below_drew1 | refine below_set ?_ GE364.out) | exact HB.out)))⟩; clear hw; clear BK364; clear HB; have BK364 := n0_; have HB := n1_; clear n0_ n1_) | ((with_reducible refine gate_callee (f := 30) rfl ?_); refine goesL_ (some 29) rfl rfl Try.func30 (by kernel_rfl) rfl #[.slice A0 l0.length c0, .int .i64 (Go.bits .and .i64 a1 255), .int .i64 (Go.bits .and .i64 a2 1023)] rfl (by (try simp only [List.map_toArray, List.map_cons, List.map_nil]); first | done | rfl | (simp only [List.length_drop, List.length_take]; rfl)) ?_; (with_reducible refine (chain_Accept.calls k _ _ l0 (Go.bits .and .i64 a1 255) (Go.bits .and .i64 a2 1023) t365 t366 t367 t368 t369 t370 t371 _ ?side1 ?side2 A7.out).mono ?_); (case side1 => repeat (first | exact (Kd.C_below HR0.out HB.out) | (with_reducible refine Kd.C_alloc ?_ _) | (with_reducible refine Kd.C_drewN ?_ _) | (with_reducible refine Kd.C_drew ?_))); (case side2 => exact HC0.out); rintro e w99 ⟨rfl, hb⟩; refine ⟨_, rfl, ?_⟩; have n0_ := Aside0.mk (blk_below (g := gb364) (o := .cells #[.int .i64 t357, .string t358, .int .i64 t359, .int .i64 t360, .int .i64 t361, .int .i64 t362] 50 (0, 0)) (by (with_reducible repeat (first | refine blk_drewN ?_ _ | refine blk_drew ?_ | refine blk_alloc ?_ _)); exact BK364.out) hb); have n1_ := Aside0.mk (below_step (by repeat (first | (with_reducible first | exact HB.out | apply below_alloc | apply pw_below_drewN | apply below_drew1 | refine below_set ?_ GE364.out) | exact HB.out)) hb); clear BK364; clear HB; have BK364 := n0_; have HB := n1_; clear n0_ n1_; (try clear hb); (try clear hb2); (try clear hk); (try clear hi)) | ((with_reducible refine gate_dst (N := 10) rfl ?_); refine box_event ?hg (N := 10) ?hd (cs := #[.int .i64 0, .string (⟨#[]⟩ : ByteArray), .int .i64 0, .int .i64 0, .int .i64 0, .int .i64 0]) (t := 50) ?hr ?_; (case hd => rfl); (case hg => rfl); (case hr => first | (go_simp; done) | (go_simp; rfl)); intro gb372 hg w100 hbox hb; have n0_ := Aside0.mk (blk_below (g := gb364) (o := .cells #[.int .i64 t357, .string t358, .int .i64 t359, .int .i64 t360, .int .i64 t361, .int .i64 t362] 50 (0, 0)) (by (with_reducible repeat (first | refine blk_drewN ?_ _ | refine blk_drew ?_ | refine blk_alloc ?_ _)); exact BK364.out) hb); have n1_ := Aside0.mk (below_step (by repeat (first | (with_reducible first | exact HB.out | apply below_alloc | apply pw_below_drewN | apply below_drew1 | refine below_set ?_ GE364.out) | exact HB.out)) hb); have n2_ := Aside0.mk (hbox); have n3_ := Aside0.mk ((by rw [hg]; exact (below_size (by repeat (first | (with_reducible first | exact HB.out | apply below_alloc | apply pw_below_drewN | apply below_drew1 | refine below_set ?_ GE364.out) | exact HB.out))) : w.heap.size ≤ gb372)); have n4_ := Aside0.mk ((by rw [hg]; exact (below_size (by repeat (first | (with_reducible first | exact HB.out | apply below_alloc | apply pw_below_drewN | apply below_drew1 | refine below_set ?_ GE364.out) | exact HB.out))) : w.heap.size ≤ gb372)); have n5_ := Aside0.mk ((by rw [hg]; exact Nat.ne_of_lt (blk_lt (g := gb364) (o := .cells #[.int .i64 t357, .string t358, .int .i64 t359, .int .i64 t360, .int .i64 t361, .int .i64 t362] 50 (0, 0)) (by (with_reducible repeat (first | refine blk_drewN ?_ _ | refine blk_drew ?_ | refine blk_alloc ?_ _)); exact BK364.out)) : gb364 ≠ gb372)); have n6_ := Aside0.mk ((by rw [hg]; exact Nat.ne_of_gt (blk_lt (g := gb364) (o := .cells #[.int .i64 t357, .string t358, .int .i64 t359, .int .i64 t360, .int .i64 t361, .int .i64 t362] 50 (0, 0)) (by (with_reducible repeat (first | refine blk_drewN ?_ _ | refine blk_drew ?_ | refine blk_alloc ?_ _)); exact BK364.out)) : gb372 ≠ gb364)); clear BK364; clear HB; have BK364 := n0_; have HB := n1_; have BK372 := n2_; have GW372 := n3_; have GE372 := n4_; have NB364_372 := n5_; have NB372_364 := n6_; clear n0_ n1_ n2_ n3_ n4_ n5_ n6_; clear hb hbox hg; have hnb101 := NB372_364.out; have hnc101 := NB364_372.out; have hcz102_0 : w100.cell? ⟨gb372, 0, none⟩ = some (.int .i64 0) := (blk_cell BK372.out 0).trans rfl; have hcz102_1 : w100.cell? ⟨gb372, 1, none⟩ = some (.string (⟨#[]⟩ : ByteArray)) := (blk_cell BK372.out 1).trans rfl; have hcz102_2 : w100.cell? ⟨gb372, 2, none⟩ = some (.int .i64 0) := (blk_cell BK372.out 2).trans rfl; have hcz102_3 : w100.cell? ⟨gb372, 3, none⟩ = some (.int .i64 0) := (blk_cell BK372.out 3).trans rfl; have hcz102_4 : w100.cell? ⟨gb372, 4, none⟩ = some (.int .i64 0) := (blk_cell BK372.out 4).trans rfl; have hcz102_5 : w100.cell? ⟨gb372, 5, none⟩ = some (.int .i64 0) := (blk_cell BK372.out 5).trans rfl; have hfz102_0 := blk_frozen BK372.out 0; have hfz102_1 := blk_frozen BK372.out 1; have hfz102_2 := blk_frozen BK372.out 2; have hfz102_3 := blk_frozen BK372.out 3; have hfz102_4 := blk_frozen BK372.out 4; have hfz102_5 := blk_frozen BK372.out 5) | ((with_reducible refine gate_store (t := 50) (p := 10) rfl ?_); refine store_event (t := 50) (p := 10) (v := ?vo_w103) (w1 := ((((((w100.setCell ⟨gb372, 0, none⟩ (.int .i64 t365)).setCell ⟨gb372, 1, none⟩ (.string t366)).setCell ⟨gb372, 2, none⟩ (.int .i64 t367)).setCell ⟨gb372, 3, none⟩ (.int .i64 t368)).setCell ⟨gb372, 4, none⟩ (.int .i64 t369)).setCell ⟨gb372, 5, none⟩ (.int .i64 t370))) ?hg ?ho ?hn ?hr ?_; (case ho => rfl); (case hg => rfl); (case hn => rfl); (case hr => first | (go_simp; done) | (go_simp; rfl)); intro w103 hw; have n0_ : Aside0 (w103.heap[gb364]? = some (.cells #[.int .i64 t357, .string t358, .int .i64 t359, .int .i64 t360, .int .i64 t361, .int .i64 t362] 50 (0, 0))) := ⟨(by rw [hw]; exact (by (with_reducible repeat (first | refine blk_drewN ?_ _ | refine blk_drew ?_ | refine blk_alloc ?_ _)); refine blk_far ?_ NB364_372.out _; (with_reducible repeat (first | refine blk_drewN ?_ _ | refine blk_drew ?_ | refine blk_alloc ?_ _)); refine blk_far ?_ NB364_372.out _; (with_reducible repeat (first | refine blk_drewN ?_ _ | refine blk_drew ?_ | refine blk_alloc ?_ _)); refine blk_far ?_ NB364_372.out _; (with_reducible repeat (first | refine blk_drewN ?_ _ | refine blk_drew ?_ | refine blk_alloc ?_ _)); refine blk_far ?_ NB364_372.out _; (with_reducible repeat (first | refine blk_drewN ?_ _ | refine blk_drew ?_ | refine blk_alloc ?_ _)); refine blk_far ?_ NB364_372.out _; (with_reducible repeat (first | refine blk_drewN ?_ _ | refine blk_drew ?_ | refine blk_alloc ?_ _)); refine blk_far ?_ NB364_372.out _; (with_reducible repeat (first | refine blk_drewN ?_ _ | refine blk_drew ?_ | refine blk_alloc ?_ _)); exact BK364.out))⟩; have n1_ : Aside0 (w103.heap[gb372]? = some (.cells #[.int .i64 t365, .string t366, .int .i64 t367, .int .i64 t368, .int .i64 t369, .int .i64 t370] 50 (0, 0))) := ⟨(by rw [hw]; exact (by (with_reducible repeat (first | refine blk_drewN ?_ _ | refine blk_drew ?_ | refine blk_alloc ?_ _)); refine blk_put (cs := #[.int .i64 t365, .string t366, .int .i64 t367, .int .i64 t368, .int .i64 t369, .int .i64 0]) ?_ 5 _ rfl; (with_reducible repeat (first | refine blk_drewN ?_ _ | refine blk_drew ?_ | refine blk_alloc ?_ _)); refine blk_put (cs := #[.int .i64 t365, .string t366, .int .i64 t367, .int .i64 t368, .int .i64 0, .int .i64 0]) ?_ 4 _ rfl; (with_reducible repeat (first | refine blk_drewN ?_ _ | refine blk_drew ?_ | refine blk_alloc ?_ _)); refine blk_put (cs := #[.int .i64 t365, .string t366, .int .i64 t367, .int .i64 0, .int .i64 0, .int .i64 0]) ?_ 3 _ rfl; (with_reducible repeat (first | refine blk_drewN ?_ _ | refine blk_drew ?_ | refine blk_alloc ?_ _)); refine blk_put (cs := #[.int .i64 t365, .string t366, .int .i64 0, .int .i64 0, .int .i64 0, .int .i64 0]) ?_ 2 _ rfl; (with_reducible repeat (first | refine blk_drewN ?_ _ | refine blk_drew ?_ | refine blk_alloc ?_ _)); refine blk_put (cs := #[.int .i64 t365, .string (⟨#[]⟩ : ByteArray), .int .i64 0, .int .i64 0, .int .i64 0, .int .i64 0]) ?_ 1 _ rfl; (with_reducible repeat (first | refine blk_drewN ?_ _ | refine blk_drew ?_ | refine blk_alloc ?_ _)); refine blk_put (cs := #[.int .i64 0, .string (⟨#[]⟩ : ByteArray), .int .i64 0, .int .i64 0, .int .i64 0, .int .i64 0]) ?_ 0 _ rfl; (with_reducible repeat (first | refine blk_drewN ?_ _ | refine blk_drew ?_ | refine blk_alloc ?_ _)); exact BK372.out))⟩; have n2_ : Aside0 (Below w.heap.size w w103) := ⟨(by rw [hw]; exact (by repeat (first | (with_reducible first | exact HB.out | apply below_alloc | apply pw_below_drewN | apply below_drew1 | refine below_set ?_ GE364.out | refine below_set ?_ GE372.out) | exact HB.out)))⟩; clear hw; clear BK364; clear BK372; clear HB; have BK364 := n0_; have BK372 := n1_; have HB := n2_; clear n0_ n1_ n2_) | ((with_reducible refine gate_callee (f := 33) rfl ?_); refine goesL_ (some 33) rfl rfl Try.func33 (by kernel_rfl) rfl #[.slice A0 l0.length c0] rfl (by (try simp only [List.map_toArray, List.map_cons, List.map_nil]); first | done | rfl | (simp only [List.length_drop, List.length_take]; rfl)) ?_; (with_reducible refine (chain_May.calls k _ _ l0 false _ ?side1 ?side2 A8.out).mono ?_); (case side1 => repeat (first | exact (Kd.C_below HR0.out HB.out) | (with_reducible refine Kd.C_alloc ?_ _) | (with_reducible refine Kd.C_drewN ?_ _) | (with_reducible refine Kd.C_drew ?_))); (case side2 => exact HC0.out); rintro e w104 ⟨rfl, hb⟩; refine ⟨_, rfl, ?_⟩; have n0_ := Aside0.mk (blk_below (g := gb364) (o := .cells #[.int .i64 t357, .string t358, .int .i64 t359, .int .i64 t360, .int .i64 t361, .int .i64 t362] 50 (0, 0)) (by (with_reducible repeat (first | refine blk_drewN ?_ _ | refine blk_drew ?_ | refine blk_alloc ?_ _)); exact BK364.out) hb); have n1_ := Aside0.mk (blk_below (g := gb372) (o := .cells #[.int .i64 t365, .string t366, .int .i64 t367, .int .i64 t368, .int .i64 t369, .int .i64 t370] 50 (0, 0)) (by (with_reducible repeat (first | refine blk_drewN ?_ _ | refine blk_drew ?_ | refine blk_alloc ?_ _)); exact BK372.out) hb); have n2_ := Aside0.mk (below_step (by repeat (first | (with_reducible first | exact HB.out | apply below_alloc | apply pw_below_drewN | apply below_drew1 | refine below_set ?_ GE364.out | refine below_set ?_ GE372.out) | exact HB.out)) hb); clear BK364; clear BK372; clear HB; have BK364 := n0_; have BK372 := n1_; have HB := n2_; clear n0_ n1_ n2_; (try clear hb); (try clear hb2); (try clear hk); (try clear hi)) | ((with_reducible refine gate_callee (f := 18) rfl ?_); refine goesL_ (some 36) rfl rfl Try.func18 (by kernel_rfl) rfl #[.int .i64 t363] rfl (by (try simp only [List.map_toArray, List.map_cons, List.map_nil]); first | done | rfl | (simp only [List.length_drop, List.length_take]; rfl)) ?_; (with_reducible refine (watchwordlaw0_Num.calls t363 t374 _ A91.out).mono ?_); rintro e w' ⟨rfl, ⟨nd, rfl⟩⟩; refine ⟨_, rfl, ?_⟩) | (go_at_call 18; (with_reducible refine (watchwordlaw0_Num.calls t371 t375 _ A93.out).mono ?_); rintro e w' ⟨rfl, ⟨nd, rfl⟩⟩))
    go_ret
    exact ⟨by first | rfl | (simp [errW_none, errW_some] <;> rfl) | (simp [*, errW_none, errW_some] <;> rfl), by repeat (first | (with_reducible first | exact HB.out | apply below_alloc | apply pw_below_drewN | apply below_drew1 | refine below_set ?_ GE364.out | refine below_set ?_ GE372.out) | exact HB.out)⟩
   ·rw [if_neg c92] at H
    have c92b0 : (t374 == 500) = false := beq_eq_false_iff_ne.mpr c92
    have c92b1 : (t374 != 500) = true := bne_iff_ne.mpr c92
    exact absurd (Option.some.inj H) (by rw [HT.out]; decide)
 ·replace c5 := Bool.eq_false_iff.mpr c5
  subst c5
  have H1 : (some false) = some r := by rw [if_neg (show ¬ (false = true) by decide)] at H; exact H
  clear H
  have H := H1
  clear H1
  exact absurd (Option.some.inj H) (by rw [HT.out]; decide)

end Go.Proofs.Ytabjambabnbmnaa.Q5
