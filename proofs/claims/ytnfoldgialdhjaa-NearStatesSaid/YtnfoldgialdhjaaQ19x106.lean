/- Written by a program of this session out of the print of the loaded functions: each Go function as a plain function, and that its call comes to it; for a law, the row out of its plain statement. -/
import Derived.Test.YtnfoldgialdhjaaQ19x0
import Derived.Test.YtnfoldgialdhjaaQ19x1
import Derived.Test.YtnfoldgialdhjaaQ19x109
import Derived.Test.YtnfoldgialdhjaaQ19x113
import Derived.Test.YtnfoldgialdhjaaQ19x115
import Derived.Test.YtnfoldgialdhjaaQ19x118
import Derived.Test.YtnfoldgialdhjaaQ19x123
namespace Go.Proofs.Ytnfoldgialdhjaa.Q19
open Go.RowKit Go.Proofs.YtnfoldgialdhjaaW.PrintWords Go.Proofs.YtnfoldgialdhjaaW.PrintLast Go.Proofs.YtnfoldgialdhjaaW.PrintMore
attribute [local go_sem] max2_int min2_int max_two min_two max_three min_three max_four min_four   -- for this text's walks alone
set_option linter.unusedVariables false
set_option linter.unusedSimpArgs false

attribute [local go_sem high] eqA46
/-! ### watchwordlaw19_NearStates: function 6 -/
mutual
def watchwordlaw19_NearStates.l0 : Nat → List (S46) → Int → Bool → List (S46) → Bool → List Int → Bool → Int → Option (Bool)
 | 0, _, _, _, _, _, _, _, _ => none
 | k + 1, x0, x1, x2, x7, x8, x10, x11, x12 => if x12 < (x10.length : Int) then (if x11 = true then (watchwordlaw19_NearStates.l0 k x0 x1 x2 x7 x8 x10 true (wrap64 (x12 + 1))) else (if 0 ≤ x12 then (watchwordlaw19_NearStates.l0 k x0 x1 x2 x7 x8 x10 ((rd x10 x12) == x1) (wrap64 (x12 + 1))) else (none))) else (watchwordlaw19_NearStates.l1 k x0 x1 x2 x7 x8 x11 0 0 0)
def watchwordlaw19_NearStates.l1 : Nat → List (S46) → Int → Bool → List (S46) → Bool → Bool → Int → Int → Int → Option (Bool)
 | 0, _, _, _, _, _, _, _, _, _ => none
 | k + 1, x0, x1, x2, x7, x8, x11, x13, x14, x15 => if x15 < (x7.length : Int) then (if 0 ≤ x15 then (if ((rd_T46 x7 x15).f0) = x1 then (if x13 < (x0.length : Int) then (if 0 ≤ x13 then (watchwordlaw19_NearStates.j2 k x0 x1 x2 x7 x8 x11 x13 x14 x15 (((rd_T46 x0 x13).f0) == x1)) else (none)) else (watchwordlaw19_NearStates.j2 k x0 x1 x2 x7 x8 x11 x13 x14 x15 false)) else (if x13 ≥ (x0.length : Int) then (some false) else (if 0 ≤ x13 then (if x13 < (x0.length : Int) then (if (!(((rd_T46 x0 x13).f0) == ((rd_T46 x7 x15).f0)) || (!(((rd_T46 x0 x13).f1) == ((rd_T46 x7 x15).f1)) || (!(((rd_T46 x0 x13).f2) == ((rd_T46 x7 x15).f2))))) = true then (some false) else (watchwordlaw19_NearStates.l1 k x0 x1 x2 x7 x8 x11 (wrap64 (x13 + 1)) x14 (wrap64 (x15 + 1)))) else (none)) else (none)))) else (none)) else (if x2 = true then (if x13 = (x0.length : Int) then (if (x11 == x2) = true then (if (x8 == (x14 != 2)) = true then ((near_May.f k x7).bind fun t444 => (some t444)) else (some false)) else (some false)) else (some false)) else (if x13 = (x0.length : Int) then (if (x11 == x2) = true then (if (x8 == (x14 != 1)) = true then ((near_May.f k x7).bind fun t445 => (some t445)) else (some false)) else (some false)) else (some false)))
def watchwordlaw19_NearStates.j2 : Nat → List (S46) → Int → Bool → List (S46) → Bool → Bool → Int → Int → Int → Bool → Option (Bool)
 | 0, _, _, _, _, _, _, _, _, _, _ => none
 | k + 1, x0, x1, x2, x7, x8, x11, x13, x14, x15, x79 => if x79 = true then (if 0 ≤ x13 then (if x13 < (x0.length : Int) then (watchwordlaw19_NearStates.j3 k x0 x1 x2 x7 x8 x11 (wrap64 (x13 + 1)) ((rd_T46 x0 x13).f1) x15) else (none)) else (none)) else (watchwordlaw19_NearStates.j3 k x0 x1 x2 x7 x8 x11 x13 x14 x15)
def watchwordlaw19_NearStates.j3 : Nat → List (S46) → Int → Bool → List (S46) → Bool → Bool → Int → Int → Int → Option (Bool)
 | 0, _, _, _, _, _, _, _, _, _ => none
 | k + 1, x0, x1, x2, x7, x8, x11, x13, x14, x15 => if 0 ≤ x15 then (if x15 < (x7.length : Int) then (if ((rd_T46 x7 x15).f2) = 16 then (watchwordlaw19_NearStates.l1 k x0 x1 x2 x7 x8 x11 x13 x14 (wrap64 (x15 + 1))) else (some false)) else (none)) else (none)
end
def watchwordlaw19_NearStates.f (k : Nat) (l0 : List (S46)) (a1 : Int) (a2 : Bool) : Option (Bool) := (watchwordlaw19_awake.f k).bind fun t433 => (if t433 = true then ((near_Heard.f k l0 a1 a2).bind fun bt434 => ((watchwordlaw0_Num.f bt434.2.2).bind fun t439 => (if t439 = 0 then ((near_Full.f k bt434.1).bind fun t440 => (watchwordlaw19_NearStates.l0 k l0 a1 a2 bt434.1 bt434.2.1 t440 false 0)) else (if (bt434.1.length : Int) = 0 then (some (!bt434.2.1)) else (some false))))) else (some false))
theorem watchwordlaw19_NearStates.mono_l : ∀ k, (∀ y0 y1 y2 y3 y4 y5 y6 y7, LeO (watchwordlaw19_NearStates.l0 k y0 y1 y2 y3 y4 y5 y6 y7) (watchwordlaw19_NearStates.l0 (k + 1) y0 y1 y2 y3 y4 y5 y6 y7)) ∧ (∀ y0 y1 y2 y3 y4 y5 y6 y7 y8, LeO (watchwordlaw19_NearStates.l1 k y0 y1 y2 y3 y4 y5 y6 y7 y8) (watchwordlaw19_NearStates.l1 (k + 1) y0 y1 y2 y3 y4 y5 y6 y7 y8)) ∧ (∀ y0 y1 y2 y3 y4 y5 y6 y7 y8 y9, LeO (watchwordlaw19_NearStates.j2 k y0 y1 y2 y3 y4 y5 y6 y7 y8 y9) (watchwordlaw19_NearStates.j2 (k + 1) y0 y1 y2 y3 y4 y5 y6 y7 y8 y9)) ∧ (∀ y0 y1 y2 y3 y4 y5 y6 y7 y8, LeO (watchwordlaw19_NearStates.j3 k y0 y1 y2 y3 y4 y5 y6 y7 y8) (watchwordlaw19_NearStates.j3 (k + 1) y0 y1 y2 y3 y4 y5 y6 y7 y8))
 | 0 => ⟨fun _ _ _ _ _ _ _ _ r h => by simp [watchwordlaw19_NearStates.l0] at h, fun _ _ _ _ _ _ _ _ _ r h => by simp [watchwordlaw19_NearStates.l1] at h, fun _ _ _ _ _ _ _ _ _ _ r h => by simp [watchwordlaw19_NearStates.j2] at h, fun _ _ _ _ _ _ _ _ _ r h => by simp [watchwordlaw19_NearStates.j3] at h⟩
 | k + 1 => by
  obtain ⟨ih0, ih1, ih2, ih3⟩ := watchwordlaw19_NearStates.mono_l k
  refine ⟨?_, ?_, ?_, ?_⟩
  ·intro y0 y1 y2 y3 y4 y5 y6 y7
   unfold watchwordlaw19_NearStates.l0
   repeat' first
   | (with_reducible exact ih0 _ _ _ _ _ _ _ _)
   | (with_reducible exact ih1 _ _ _ _ _ _ _ _ _)
   | (with_reducible exact ih2 _ _ _ _ _ _ _ _ _ _)
   | (with_reducible exact ih3 _ _ _ _ _ _ _ _ _)
   | (with_reducible exact near_Full.mono _ _)
   | (with_reducible exact near_Heard.mono _ _ _ _)
   | (with_reducible exact near_May.mono _ _)
   | (with_reducible exact watchwordlaw19_awake.mono _)
   | (with_reducible exact LeO.refl _)
   | (with_reducible exact LeO.none _)
   | (with_reducible refine LeO.ite ?_ ?_)
   | (with_reducible refine LeO.bind ?_ (fun _ => ?_))
   | exact ih0 _ _ _ _ _ _ _ _
   | exact ih1 _ _ _ _ _ _ _ _ _
   | exact ih2 _ _ _ _ _ _ _ _ _ _
   | exact ih3 _ _ _ _ _ _ _ _ _
   | exact near_Full.mono _ _
   | exact near_Heard.mono _ _ _ _
   | exact near_May.mono _ _
   | exact watchwordlaw19_awake.mono _
   | exact LeO.none _
   | refine LeO.ite ?_ ?_
   | refine LeO.bind ?_ (fun _ => ?_)
  ·intro y0 y1 y2 y3 y4 y5 y6 y7 y8
   unfold watchwordlaw19_NearStates.l1
   repeat' first
   | (with_reducible exact ih0 _ _ _ _ _ _ _ _)
   | (with_reducible exact ih1 _ _ _ _ _ _ _ _ _)
   | (with_reducible exact ih2 _ _ _ _ _ _ _ _ _ _)
   | (with_reducible exact ih3 _ _ _ _ _ _ _ _ _)
   | (with_reducible exact near_Full.mono _ _)
   | (with_reducible exact near_Heard.mono _ _ _ _)
   | (with_reducible exact near_May.mono _ _)
   | (with_reducible exact watchwordlaw19_awake.mono _)
   | (with_reducible exact LeO.refl _)
   | (with_reducible exact LeO.none _)
   | (with_reducible refine LeO.ite ?_ ?_)
   | (with_reducible refine LeO.bind ?_ (fun _ => ?_))
   | exact ih0 _ _ _ _ _ _ _ _
   | exact ih1 _ _ _ _ _ _ _ _ _
   | exact ih2 _ _ _ _ _ _ _ _ _ _
   | exact ih3 _ _ _ _ _ _ _ _ _
   | exact near_Full.mono _ _
   | exact near_Heard.mono _ _ _ _
   | exact near_May.mono _ _
   | exact watchwordlaw19_awake.mono _
   | exact LeO.none _
   | refine LeO.ite ?_ ?_
   | refine LeO.bind ?_ (fun _ => ?_)
  ·intro y0 y1 y2 y3 y4 y5 y6 y7 y8 y9
   unfold watchwordlaw19_NearStates.j2
   repeat' first
   | (with_reducible exact ih0 _ _ _ _ _ _ _ _)
   | (with_reducible exact ih1 _ _ _ _ _ _ _ _ _)
   | (with_reducible exact ih2 _ _ _ _ _ _ _ _ _ _)
   | (with_reducible exact ih3 _ _ _ _ _ _ _ _ _)
   | (with_reducible exact near_Full.mono _ _)
   | (with_reducible exact near_Heard.mono _ _ _ _)
   | (with_reducible exact near_May.mono _ _)
   | (with_reducible exact watchwordlaw19_awake.mono _)
   | (with_reducible exact LeO.refl _)
   | (with_reducible exact LeO.none _)
   | (with_reducible refine LeO.ite ?_ ?_)
   | (with_reducible refine LeO.bind ?_ (fun _ => ?_))
   | exact ih0 _ _ _ _ _ _ _ _
   | exact ih1 _ _ _ _ _ _ _ _ _
   | exact ih2 _ _ _ _ _ _ _ _ _ _
   | exact ih3 _ _ _ _ _ _ _ _ _
   | exact near_Full.mono _ _
   | exact near_Heard.mono _ _ _ _
   | exact near_May.mono _ _
   | exact watchwordlaw19_awake.mono _
   | exact LeO.none _
   | refine LeO.ite ?_ ?_
   | refine LeO.bind ?_ (fun _ => ?_)
  ·intro y0 y1 y2 y3 y4 y5 y6 y7 y8
   unfold watchwordlaw19_NearStates.j3
   repeat' first
   | (with_reducible exact ih0 _ _ _ _ _ _ _ _)
   | (with_reducible exact ih1 _ _ _ _ _ _ _ _ _)
   | (with_reducible exact ih2 _ _ _ _ _ _ _ _ _ _)
   | (with_reducible exact ih3 _ _ _ _ _ _ _ _ _)
   | (with_reducible exact near_Full.mono _ _)
   | (with_reducible exact near_Heard.mono _ _ _ _)
   | (with_reducible exact near_May.mono _ _)
   | (with_reducible exact watchwordlaw19_awake.mono _)
   | (with_reducible exact LeO.refl _)
   | (with_reducible exact LeO.none _)
   | (with_reducible refine LeO.ite ?_ ?_)
   | (with_reducible refine LeO.bind ?_ (fun _ => ?_))
   | exact ih0 _ _ _ _ _ _ _ _
   | exact ih1 _ _ _ _ _ _ _ _ _
   | exact ih2 _ _ _ _ _ _ _ _ _ _
   | exact ih3 _ _ _ _ _ _ _ _ _
   | exact near_Full.mono _ _
   | exact near_Heard.mono _ _ _ _
   | exact near_May.mono _ _
   | exact watchwordlaw19_awake.mono _
   | exact LeO.none _
   | refine LeO.ite ?_ ?_
   | refine LeO.bind ?_ (fun _ => ?_)
theorem watchwordlaw19_NearStates.mono : ∀ a0 a1 a2 k, LeO (watchwordlaw19_NearStates.f k a0 a1 a2) (watchwordlaw19_NearStates.f (k + 1) a0 a1 a2) := by
 intro a0 a1 a2 k
 obtain ⟨ih0, ih1, ih2, ih3⟩ := watchwordlaw19_NearStates.mono_l k
 unfold watchwordlaw19_NearStates.f
 repeat' first
   | (with_reducible exact ih0 _ _ _ _ _ _ _ _)
   | (with_reducible exact ih1 _ _ _ _ _ _ _ _ _)
   | (with_reducible exact ih2 _ _ _ _ _ _ _ _ _ _)
   | (with_reducible exact ih3 _ _ _ _ _ _ _ _ _)
   | (with_reducible exact near_Full.mono _ _)
   | (with_reducible exact near_Heard.mono _ _ _ _)
   | (with_reducible exact near_May.mono _ _)
   | (with_reducible exact watchwordlaw19_awake.mono _)
   | (with_reducible exact LeO.refl _)
   | (with_reducible exact LeO.none _)
   | (with_reducible refine LeO.ite ?_ ?_)
   | (with_reducible refine LeO.bind ?_ (fun _ => ?_))
   | exact ih0 _ _ _ _ _ _ _ _
   | exact ih1 _ _ _ _ _ _ _ _ _
   | exact ih2 _ _ _ _ _ _ _ _ _ _
   | exact ih3 _ _ _ _ _ _ _ _ _
   | exact near_Full.mono _ _
   | exact near_Heard.mono _ _ _ _
   | exact near_May.mono _ _
   | exact watchwordlaw19_awake.mono _
   | exact LeO.none _
   | refine LeO.ite ?_ ?_
   | refine LeO.bind ?_ (fun _ => ?_)
set_option maxHeartbeats 8000000 in
set_option maxRecDepth 100000 in
theorem watchwordlaw19_NearStates.calls (k : Nat) (A0 : Option Addr) (c0 : Nat) (l0 : List (S46)) (a1 : Int) (a2 : Bool) (r : Bool) (w : World) (hr0 : Kd.C k46 w A0 l0.length l0) (hc0 : l0.length ≤ c0) (h : watchwordlaw19_NearStates.f k l0 a1 a2 = some r) (hT : r = true) :
  Calls Try.prog 6 #[.slice A0 l0.length c0, .int .i64 a1, .bool a2] w fun e w' => e = .returned (.bool r) ∧ Below w.heap.size w w' := by
 have hu46 := Try.underlying46
 have HR0 := Aside0.mk hr0
 have HC0 := Aside0.mk hc0
 clear hr0 hc0
 have HB := Aside0.mk (Below.refl w.heap.size w)
 have HT := Aside0.mk hT
 clear hT
 have H : ((watchwordlaw19_awake.f k).bind fun t433 => (if t433 = true then ((near_Heard.f k l0 a1 a2).bind fun bt434 => ((watchwordlaw0_Num.f bt434.2.2).bind fun t439 => (if t439 = 0 then ((near_Full.f k bt434.1).bind fun t440 => (watchwordlaw19_NearStates.l0 k l0 a1 a2 bt434.1 bt434.2.1 t440 false 0)) else (if (bt434.1.length : Int) = 0 then (some (!bt434.2.1)) else (some false))))) else (some false))) = some r := h
 clear h
 replace H := Option.bind_eq_some_iff.mp H
 obtain ⟨t433, A40, H⟩ := H
 replace H : (if t433 = true then ((near_Heard.f k l0 a1 a2).bind fun bt434 => ((watchwordlaw0_Num.f bt434.2.2).bind fun t439 => (if t439 = 0 then ((near_Full.f k bt434.1).bind fun t440 => (watchwordlaw19_NearStates.l0 k l0 a1 a2 bt434.1 bt434.2.1 t440 false 0)) else (if (bt434.1.length : Int) = 0 then (some (!bt434.2.1)) else (some false))))) else (some false)) = some r := H
 have A4 := Aside0.mk A40
 clear A40
 by_cases c5 : t433 = true
 ·subst c5
  have H1 : ((near_Heard.f k l0 a1 a2).bind fun bt434 => ((watchwordlaw0_Num.f bt434.2.2).bind fun t439 => (if t439 = 0 then ((near_Full.f k bt434.1).bind fun t440 => (watchwordlaw19_NearStates.l0 k l0 a1 a2 bt434.1 bt434.2.1 t440 false 0)) else (if (bt434.1.length : Int) = 0 then (some (!bt434.2.1)) else (some false))))) = some r := by rw [if_pos rfl] at H; exact H
  clear H
  have H := H1
  clear H1
  replace H := Option.bind_eq_some_iff.mp H
  obtain ⟨⟨t434, t435, t436⟩, A60, H⟩ := H
  replace H : ((watchwordlaw0_Num.f t436).bind fun t439 => (if t439 = 0 then ((near_Full.f k t434).bind fun t440 => (watchwordlaw19_NearStates.l0 k l0 a1 a2 t434 t435 t440 false 0)) else (if (t434.length : Int) = 0 then (some (!t435)) else (some false)))) = some r := H
  have A6 := Aside0.mk A60
  clear A60
  replace H := Option.bind_eq_some_iff.mp H
  obtain ⟨t439, A70, H⟩ := H
  replace H : (if t439 = 0 then ((near_Full.f k t434).bind fun t440 => (watchwordlaw19_NearStates.l0 k l0 a1 a2 t434 t435 t440 false 0)) else (if (t434.length : Int) = 0 then (some (!t435)) else (some false))) = some r := H
  have A7 := Aside0.mk A70
  clear A70
  by_cases c8 : t439 = 0
  ·rw [if_pos c8] at H
   have c8b0 : (t439 == 0) = true := beq_iff_eq.mpr c8
   have c8b1 : (t439 != 0) = false := bne_eq_false_iff_eq.mpr c8
   clear c8
   replace H := Option.bind_eq_some_iff.mp H
   obtain ⟨t440, A90, H⟩ := H
   replace H : (watchwordlaw19_NearStates.l0 k l0 a1 a2 t434 t435 t440 false 0) = some r := H
   have A9 := Aside0.mk A90
   clear A90
   have H' := Aside0.mk H
   clear H
   go_enter Try.func6, Try.ntmps6
   go_wp2_with (first | (go_at_call 23; (with_reducible refine (watchwordlaw19_awake.calls k  true _ A4.out (by first | rfl | exact HT.out)).mono ?_); rintro e w10 ⟨rfl, hb⟩; have n0_ := Aside0.mk (below_step (by repeat (first | (with_reducible first | exact HB.out | apply below_alloc | apply pw_below_drewN | apply below_drew1) | exact HB.out)) hb); clear HB; have HB := n0_; clear n0_; (try clear hb); (try clear hb2); (try clear hk); (try clear hi)) | (go_at_call 9; (with_reducible refine (near_Heard.calls k _ _ l0 a1 a2 t434 t435 t436 _ ?side1 ?side2 A6.out).mono ?_); (case side1 => repeat (first | exact (Kd.C_below HR0.out HB.out) | (with_reducible refine Kd.C_alloc ?_ _) | (with_reducible refine Kd.C_drewN ?_ _) | (with_reducible refine Kd.C_drew ?_))); (case side2 => exact HC0.out); rintro e w11 ⟨v437, rfl, ho0, hb⟩; have n0_ := Aside0.mk (Kd.R_lower ho0 (below_size (by repeat (first | (with_reducible first | exact HB.out | apply below_alloc | apply pw_below_drewN | apply below_drew1) | exact HB.out)))); have n1_ := Aside0.mk (below_step (by repeat (first | (with_reducible first | exact HB.out | apply below_alloc | apply pw_below_drewN | apply below_drew1) | exact HB.out)) hb); clear HB; have HO438 := n0_; have HB := n1_; clear n0_ n1_; (try clear hb); (try clear hb2); (try clear hk); (try clear hi); (try clear ho0)) | (go_at_call 15; (with_reducible refine (watchwordlaw0_Num.calls t436 t439 _ A7.out).mono ?_); rintro e w' ⟨rfl, ⟨nd, rfl⟩⟩; (try first | exact ⟨rfl, _, World.drewN_drewN _ _ _⟩ | exact ⟨rfl, _, Eq.trans (World.drewN_drewN _ _ _) (congrArg (World.drewN _) (Nat.add_assoc _ _ _))⟩); obtain ⟨Ao12, co12, eo12⟩ := Kd.R_slice HO438.out; subst eo12) | (go_at_call 13; (with_reducible refine (near_Full.calls k _ _ t434 t440 _ ?side1 ?side2 A9.out).mono ?_); (case side1 => repeat (first | exact (Kd.R_reads' HO438.out).2.2 | (with_reducible refine Kd.C_alloc ?_ _) | (with_reducible refine Kd.C_drewN ?_ _) | (with_reducible refine Kd.C_drew ?_))); (case side2 => exact (Kd.R_reads' HO438.out).2.1); rintro e w13 ⟨v441, rfl, ho0, hb⟩; have n0_ := Aside0.mk (Kd.R_below (by (with_reducible repeat (first | apply Kd.R_alloc | apply Kd.R_drewN | apply Kd.R_drew)); exact HO438.out) hb); have n1_ := Aside0.mk (Kd.R_lower ho0 (below_size (by repeat (first | (with_reducible first | exact HB.out | apply below_alloc | apply pw_below_drewN | apply below_drew1) | exact HB.out)))); have n2_ := Aside0.mk (below_step (by repeat (first | (with_reducible first | exact HB.out | apply below_alloc | apply pw_below_drewN | apply below_drew1) | exact HB.out)) hb); clear HO438; clear HB; have HO438 := n0_; have HO442 := n1_; have HB := n2_; clear n0_ n1_ n2_; (try clear hb); (try clear hb2); (try clear hk); (try clear hi); (try clear ho0)))
   repeat (go_quiet (first | (go_at_call 23; (with_reducible refine (watchwordlaw19_awake.calls k  true _ A4.out (by first | rfl | exact HT.out)).mono ?_); rintro e w10 ⟨rfl, hb⟩; have n0_ := Aside0.mk (below_step (by repeat (first | (with_reducible first | exact HB.out | apply below_alloc | apply pw_below_drewN | apply below_drew1) | exact HB.out)) hb); clear HB; have HB := n0_; clear n0_; (try clear hb); (try clear hb2); (try clear hk); (try clear hi)) | (go_at_call 9; (with_reducible refine (near_Heard.calls k _ _ l0 a1 a2 t434 t435 t436 _ ?side1 ?side2 A6.out).mono ?_); (case side1 => repeat (first | exact (Kd.C_below HR0.out HB.out) | (with_reducible refine Kd.C_alloc ?_ _) | (with_reducible refine Kd.C_drewN ?_ _) | (with_reducible refine Kd.C_drew ?_))); (case side2 => exact HC0.out); rintro e w11 ⟨v437, rfl, ho0, hb⟩; have n0_ := Aside0.mk (Kd.R_lower ho0 (below_size (by repeat (first | (with_reducible first | exact HB.out | apply below_alloc | apply pw_below_drewN | apply below_drew1) | exact HB.out)))); have n1_ := Aside0.mk (below_step (by repeat (first | (with_reducible first | exact HB.out | apply below_alloc | apply pw_below_drewN | apply below_drew1) | exact HB.out)) hb); clear HB; have HO438 := n0_; have HB := n1_; clear n0_ n1_; (try clear hb); (try clear hb2); (try clear hk); (try clear hi); (try clear ho0)) | (go_at_call 15; (with_reducible refine (watchwordlaw0_Num.calls t436 t439 _ A7.out).mono ?_); rintro e w' ⟨rfl, ⟨nd, rfl⟩⟩; (try first | exact ⟨rfl, _, World.drewN_drewN _ _ _⟩ | exact ⟨rfl, _, Eq.trans (World.drewN_drewN _ _ _) (congrArg (World.drewN _) (Nat.add_assoc _ _ _))⟩); obtain ⟨Ao12, co12, eo12⟩ := Kd.R_slice HO438.out; subst eo12) | (go_at_call 13; (with_reducible refine (near_Full.calls k _ _ t434 t440 _ ?side1 ?side2 A9.out).mono ?_); (case side1 => repeat (first | exact (Kd.R_reads' HO438.out).2.2 | (with_reducible refine Kd.C_alloc ?_ _) | (with_reducible refine Kd.C_drewN ?_ _) | (with_reducible refine Kd.C_drew ?_))); (case side2 => exact (Kd.R_reads' HO438.out).2.1); rintro e w13 ⟨v441, rfl, ho0, hb⟩; have n0_ := Aside0.mk (Kd.R_below (by (with_reducible repeat (first | apply Kd.R_alloc | apply Kd.R_drewN | apply Kd.R_drew)); exact HO438.out) hb); have n1_ := Aside0.mk (Kd.R_lower ho0 (below_size (by repeat (first | (with_reducible first | exact HB.out | apply below_alloc | apply pw_below_drewN | apply below_drew1) | exact HB.out)))); have n2_ := Aside0.mk (below_step (by repeat (first | (with_reducible first | exact HB.out | apply below_alloc | apply pw_below_drewN | apply below_drew1) | exact HB.out)) hb); clear HO438; clear HB; have HO438 := n0_; have HO442 := n1_; have HB := n2_; clear n0_ n1_ n2_; (try clear hb); (try clear hb2); (try clear hk); (try clear hi); (try clear ho0))); try go_wp2_with (first | (go_at_call 23; (with_reducible refine (watchwordlaw19_awake.calls k  true _ A4.out (by first | rfl | exact HT.out)).mono ?_); rintro e w10 ⟨rfl, hb⟩; have n0_ := Aside0.mk (below_step (by repeat (first | (with_reducible first | exact HB.out | apply below_alloc | apply pw_below_drewN | apply below_drew1) | exact HB.out)) hb); clear HB; have HB := n0_; clear n0_; (try clear hb); (try clear hb2); (try clear hk); (try clear hi)) | (go_at_call 9; (with_reducible refine (near_Heard.calls k _ _ l0 a1 a2 t434 t435 t436 _ ?side1 ?side2 A6.out).mono ?_); (case side1 => repeat (first | exact (Kd.C_below HR0.out HB.out) | (with_reducible refine Kd.C_alloc ?_ _) | (with_reducible refine Kd.C_drewN ?_ _) | (with_reducible refine Kd.C_drew ?_))); (case side2 => exact HC0.out); rintro e w11 ⟨v437, rfl, ho0, hb⟩; have n0_ := Aside0.mk (Kd.R_lower ho0 (below_size (by repeat (first | (with_reducible first | exact HB.out | apply below_alloc | apply pw_below_drewN | apply below_drew1) | exact HB.out)))); have n1_ := Aside0.mk (below_step (by repeat (first | (with_reducible first | exact HB.out | apply below_alloc | apply pw_below_drewN | apply below_drew1) | exact HB.out)) hb); clear HB; have HO438 := n0_; have HB := n1_; clear n0_ n1_; (try clear hb); (try clear hb2); (try clear hk); (try clear hi); (try clear ho0)) | (go_at_call 15; (with_reducible refine (watchwordlaw0_Num.calls t436 t439 _ A7.out).mono ?_); rintro e w' ⟨rfl, ⟨nd, rfl⟩⟩; (try first | exact ⟨rfl, _, World.drewN_drewN _ _ _⟩ | exact ⟨rfl, _, Eq.trans (World.drewN_drewN _ _ _) (congrArg (World.drewN _) (Nat.add_assoc _ _ _))⟩); obtain ⟨Ao12, co12, eo12⟩ := Kd.R_slice HO438.out; subst eo12) | (go_at_call 13; (with_reducible refine (near_Full.calls k _ _ t434 t440 _ ?side1 ?side2 A9.out).mono ?_); (case side1 => repeat (first | exact (Kd.R_reads' HO438.out).2.2 | (with_reducible refine Kd.C_alloc ?_ _) | (with_reducible refine Kd.C_drewN ?_ _) | (with_reducible refine Kd.C_drew ?_))); (case side2 => exact (Kd.R_reads' HO438.out).2.1); rintro e w13 ⟨v441, rfl, ho0, hb⟩; have n0_ := Aside0.mk (Kd.R_below (by (with_reducible repeat (first | apply Kd.R_alloc | apply Kd.R_drewN | apply Kd.R_drew)); exact HO438.out) hb); have n1_ := Aside0.mk (Kd.R_lower ho0 (below_size (by repeat (first | (with_reducible first | exact HB.out | apply below_alloc | apply pw_below_drewN | apply below_drew1) | exact HB.out)))); have n2_ := Aside0.mk (below_step (by repeat (first | (with_reducible first | exact HB.out | apply below_alloc | apply pw_below_drewN | apply below_drew1) | exact HB.out)) hb); clear HO438; clear HB; have HO438 := n0_; have HO442 := n1_; have HB := n2_; clear n0_ n1_ n2_; (try clear hb); (try clear hb2); (try clear hk); (try clear hi); (try clear ho0))))
   go_loopg [11, 12] k (fun kq v11 v12 w' => ∃ (x11_1 : Bool) (x12_1 : Int), v11 = .bool x11_1 ∧ v12 = .int .i64 x12_1 ∧ Aside0 (watchwordlaw19_NearStates.l0 kq l0 a1 a2 t434 t435 t440 x11_1 x12_1 = some r) ∧ Aside0 (kq ≤ k) ∧ Aside0 (Kd.R k46 46 w' w.heap.size (fun _ => True) (.slice Ao12 t434.length co12) t434) ∧ Aside0 (Kd.R (Kd.int .i64) 3 w' w.heap.size (fun _ => True) v441 t440) ∧ Aside0 (Below w.heap.size w w'))
   case atStart => exact ⟨(false), (0), (by first | rfl | (simp; done) | (simp [*]; done)), (by first | rfl | (simp; done) | (simp [*]; done)), H', ⟨Nat.le_refl _⟩, ⟨by (with_reducible repeat (first | apply Kd.R_alloc | apply Kd.R_drewN | apply Kd.R_drew)); exact HO438.out⟩, ⟨by (with_reducible repeat (first | apply Kd.R_alloc | apply Kd.R_drewN | apply Kd.R_drew)); exact HO442.out⟩, ⟨by repeat (first | (with_reducible first | exact HB.out | apply below_alloc | apply pw_below_drewN | apply below_drew1) | exact HB.out)⟩⟩
   case round =>
    clear H'
    try clear p2
    try clear c5
    try clear c6
    try clear c8
    try clear c8b0
    try clear c8b1
    obtain ⟨x11_1, x12_1, rfl, rfl, HA, HK1, HO_7, HO_10, HB⟩ := hrel
    cases gk with
    | zero => exact absurd HA.out (by simp [watchwordlaw19_NearStates.l0])
    | succ k1 =>
     have H := HA.out
     clear HA
     simp only [watchwordlaw19_NearStates.l0] at H
     by_cases c14 : x12_1 < (t440.length : Int)
     ·rw [if_pos c14] at H
      have c14b0 : decide (x12_1 < (t440.length : Int)) = true := decide_eq_true c14
      clear c14
      by_cases c15 : x11_1 = true
      ·subst c15
       have H1 : (watchwordlaw19_NearStates.l0 k1 l0 a1 a2 t434 t435 t440 true (wrap64 (x12_1 + 1))) = some r := by rw [if_pos rfl] at H; exact H
       clear H
       have H := H1
       clear H1
       have H' := Aside0.mk H
       clear H
       obtain ⟨Ao16, co16, eo16⟩ := Kd.R_slice HO_10.out
       subst eo16
       go_wp2
       repeat (go_quiet (fail); try go_wp2)
       go_roundg k1
       case measure => have := HK1.out; omega
       case rel => exact ⟨(true), (wrap64 (x12_1 + 1)), (by first | rfl | (simp; done) | (simp [*]; done)), (by first | rfl | (simp; done) | (simp [*]; done)), H', ⟨by have := HK1.out; omega⟩, ⟨by (with_reducible repeat (first | apply Kd.R_alloc | apply Kd.R_drewN | apply Kd.R_drew)); exact HO_7.out⟩, ⟨by (with_reducible repeat (first | apply Kd.R_alloc | apply Kd.R_drewN | apply Kd.R_drew)); exact HO_10.out⟩, ⟨by repeat (first | (with_reducible first | exact HB.out | apply below_alloc | apply pw_below_drewN | apply below_drew1) | exact HB.out)⟩⟩
      ·replace c15 := Bool.eq_false_iff.mpr c15
       subst c15
       have H1 : (if 0 ≤ x12_1 then (watchwordlaw19_NearStates.l0 k1 l0 a1 a2 t434 t435 t440 ((rd t440 x12_1) == a1) (wrap64 (x12_1 + 1))) else (none)) = some r := by rw [if_neg (show ¬ (false = true) by decide)] at H; exact H
       clear H
       have H := H1
       clear H1
       by_cases c17 : 0 ≤ x12_1
       ·rw [if_pos c17] at H
        have c17b0 : decide (0 ≤ x12_1) = true := decide_eq_true c17
        clear c17
        have H' := Aside0.mk H
        clear H
        obtain ⟨Ao18, co18, eo18⟩ := Kd.R_slice HO_10.out
        subst eo18
        have p443 : 0 ≤ (x12_1 : Int) := of_decide_eq_true (by first | (with_reducible assumption) | assumption)
        have q443 : x12_1 < (t440.length : Int) := of_decide_eq_true (by first | (with_reducible assumption) | assumption)
        obtain ⟨ad443, e443, hx443_0⟩ := Kd.at_int (Kd.R_reads' HO_10.out).2.2 x12_1 p443 q443
        cases e443
        replace p443 := eq_true p443
        replace q443 := eq_true q443
        go_wp2
        repeat (go_quiet (fail); try go_wp2)
        go_roundg k1
        case measure => have := HK1.out; omega
        case rel => exact ⟨(((rd t440 x12_1) == a1)), (wrap64 (x12_1 + 1)), (by first | rfl | (simp; done) | (simp [*]; done)), (by first | rfl | (simp; done) | (simp [*]; done)), H', ⟨by have := HK1.out; omega⟩, ⟨by (with_reducible repeat (first | apply Kd.R_alloc | apply Kd.R_drewN | apply Kd.R_drew)); exact HO_7.out⟩, ⟨by (with_reducible repeat (first | apply Kd.R_alloc | apply Kd.R_drewN | apply Kd.R_drew)); exact HO_10.out⟩, ⟨by repeat (first | (with_reducible first | exact HB.out | apply below_alloc | apply pw_below_drewN | apply below_drew1) | exact HB.out)⟩⟩
       ·rw [if_neg c17] at H
        exact absurd H (by simp)
     ·rw [if_neg c14] at H
      have c14b0 : decide (x12_1 < (t440.length : Int)) = false := decide_eq_false c14
      clear c14
      have H' := Aside0.mk H
      clear H
      obtain ⟨Ao19, co19, eo19⟩ := Kd.R_slice HO_10.out
      subst eo19
      go_wp2
      repeat (go_quiet (fail); try go_wp2)
      go_loopg [13, 14, 15] k1 (fun kq v13 v14 v15 w' => ∃ (x13_2 : Int) (x14_2 : Int) (x15_2 : Int), v13 = .int .i64 x13_2 ∧ v14 = .int .i64 x14_2 ∧ v15 = .int .i64 x15_2 ∧ Aside0 (watchwordlaw19_NearStates.l1 kq l0 a1 a2 t434 t435 x11_1 x13_2 x14_2 x15_2 = some r) ∧ Aside0 (kq ≤ k1) ∧ Aside0 (Kd.R k46 46 w' w.heap.size (fun _ => True) (.slice Ao12 t434.length co12) t434) ∧ Aside0 (Below w.heap.size w w'))
      case atStart => exact ⟨(0), (0), (0), (by first | rfl | (simp; done) | (simp [*]; done)), (by first | rfl | (simp; done) | (simp [*]; done)), (by first | rfl | (simp; done) | (simp [*]; done)), H', ⟨Nat.le_refl _⟩, ⟨by (with_reducible repeat (first | apply Kd.R_alloc | apply Kd.R_drewN | apply Kd.R_drew)); exact HO_7.out⟩, ⟨by repeat (first | (with_reducible first | exact HB.out | apply below_alloc | apply pw_below_drewN | apply below_drew1) | exact HB.out)⟩⟩
      case round =>
       clear H'
       try clear c1
       try clear p2
       try clear p4
       try clear q4
       try clear hx4
       try clear c5
       try clear c6
       try clear p6
       try clear c8
       try clear c8b0
       try clear c8b1
       try clear c14
       try clear c14b0
       try clear c15
       try clear c17
       try clear c17b0
       try clear hx443_0
       try clear p2
       try clear p443
       try clear q443
       obtain ⟨x13_2, x14_2, x15_2, rfl, rfl, rfl, HA, HK2, HO_7, HB⟩ := hrel
       cases gk with
       | zero => exact absurd HA.out (by simp [watchwordlaw19_NearStates.l1])
       | succ k2 =>
        have H := HA.out
        clear HA
        simp only [watchwordlaw19_NearStates.l1] at H
        by_cases c20 : x15_2 < (t434.length : Int)
        ·rw [if_pos c20] at H
         have c20b0 : decide (x15_2 < (t434.length : Int)) = true := decide_eq_true c20
         clear c20
         by_cases c21 : 0 ≤ x15_2
         ·rw [if_pos c21] at H
          have c21b0 : decide (0 ≤ x15_2) = true := decide_eq_true c21
          clear c21
          by_cases c22 : ((rd_T46 t434 x15_2).f0) = a1
          ·rw [if_pos c22] at H
           have c22b0 : (((rd_T46 t434 x15_2).f0) == a1) = true := beq_iff_eq.mpr c22
           have c22b1 : (((rd_T46 t434 x15_2).f0) != a1) = false := bne_eq_false_iff_eq.mpr c22
           clear c22
           have HC23 := Aside0.mk H
           clear H
           have p446 : 0 ≤ (x15_2 : Int) := of_decide_eq_true (by first | (with_reducible assumption) | assumption)
           have q446 : x15_2 < (t434.length : Int) := of_decide_eq_true (by first | (with_reducible assumption) | assumption)
           obtain ⟨ad446, e446, hx446_0, hx446_1, hx446_2⟩ := at_T46 (Kd.R_reads' HO_7.out).2.2 x15_2 p446 q446
           cases e446
           replace p446 := eq_true p446
           replace q446 := eq_true q446
           go_upto_region 18 with (fail)
           repeat (go_quiet (fail); go_upto_region 18 with (fail))
           go_cut [79] (fun v79 wc => ∃ (kq : Nat) (x79_22 : Bool), v79 = .bool x79_22 ∧ Aside0 (watchwordlaw19_NearStates.j2 kq l0 a1 a2 t434 t435 x11_1 x13_2 x14_2 x15_2 x79_22 = some r) ∧ Aside0 (kq ≤ k2) ∧ Aside0 (Kd.R k46 46 wc w.heap.size (fun _ => True) (.slice (some ad446) t434.length co12) t434) ∧ Aside0 (Below w.heap.size w wc))
           case first =>
            have H := HC23.out
            clear HC23
            by_cases c24 : x13_2 < (l0.length : Int)
            ·rw [if_pos c24] at H
             have c24b0 : decide (x13_2 < (l0.length : Int)) = true := decide_eq_true c24
             clear c24
             (first | rw [c24b0] | (simp only [i64_w, i32_w]; rw [c24b0]) | skip)
             by_cases c25 : 0 ≤ x13_2
             ·rw [if_pos c25] at H
              have c25b0 : decide (0 ≤ x13_2) = true := decide_eq_true c25
              clear c25
              have H' := Aside0.mk H
              clear H
              have p447 : 0 ≤ (x13_2 : Int) := of_decide_eq_true (by first | (with_reducible assumption) | assumption)
              have q447 : x13_2 < (l0.length : Int) := of_decide_eq_true (by first | (with_reducible assumption) | assumption)
              obtain ⟨ad447, e447, hx447_0, hx447_1, hx447_2⟩ := at_T46 HR0.out x13_2 p447 q447
              cases e447
              replace hx447_0 := (HB.out.cell (World.block_lt_of_cell? w _ hx447_0)).trans hx447_0
              replace hx447_1 := (HB.out.cell (World.block_lt_of_cell? w _ hx447_1)).trans hx447_1
              replace hx447_2 := (HB.out.cell (World.block_lt_of_cell? w _ hx447_2)).trans hx447_2
              replace p447 := eq_true p447
              replace q447 := eq_true q447
              go_wp2
              repeat (go_quiet (fail); try go_wp2)
              go_meet
              case rel => exact ⟨_, ((((rd_T46 l0 x13_2).f0) == a1)), (by first | rfl | (simp; done) | (simp [*]; done)), H', ⟨by have := HK1.out; have := HK2.out; first | omega | exact Nat.le_refl _⟩, ⟨by (with_reducible repeat (first | apply Kd.R_alloc | apply Kd.R_drewN | apply Kd.R_drew)); exact HO_7.out⟩, ⟨by repeat (first | (with_reducible first | exact HB.out | apply below_alloc | apply pw_below_drewN | apply below_drew1) | exact HB.out)⟩⟩
             ·rw [if_neg c25] at H
              exact absurd H (by simp)
            ·rw [if_neg c24] at H
             have c24b0 : decide (x13_2 < (l0.length : Int)) = false := decide_eq_false c24
             clear c24
             (first | rw [c24b0] | (simp only [i64_w, i32_w]; rw [c24b0]) | skip)
             have H' := Aside0.mk H
             clear H
             go_wp2
             repeat (go_quiet (fail); try go_wp2)
             go_meet
             case rel => exact ⟨_, (false), (by first | rfl | (simp; done) | (simp [*]; done)), H', ⟨by have := HK1.out; have := HK2.out; first | omega | exact Nat.le_refl _⟩, ⟨by (with_reducible repeat (first | apply Kd.R_alloc | apply Kd.R_drewN | apply Kd.R_drew)); exact HO_7.out⟩, ⟨by repeat (first | (with_reducible first | exact HB.out | apply below_alloc | apply pw_below_drewN | apply below_drew1) | exact HB.out)⟩⟩
           case rest =>
            clear HC23
            try clear c1
            try clear c2
            try clear p2
            try clear p4
            try clear q4
            try clear hx4
            try clear c5
            try clear c6
            try clear p6
            try clear c8
            try clear c8b0
            try clear c8b1
            try clear c14
            try clear c14b0
            try clear c15
            try clear c17
            try clear c17b0
            try clear c20
            try clear c20b0
            try clear c21
            try clear c21b0
            try clear c22
            try clear c22b0
            try clear c22b1
            try clear c24
            try clear c24b0
            try clear c25
            try clear c25b0
            try clear hx443_0
            try clear hx446_0
            try clear hx446_1
            try clear hx446_2
            try clear hx447_0
            try clear hx447_1
            try clear hx447_2
            try clear p2
            try clear p4
            try clear p443
            try clear p446
            try clear p447
            try clear p6
            try clear q4
            try clear q443
            try clear q446
            try clear q447
            obtain ⟨kq, x79_22, rfl, HA, HJ22, HO_7, HB⟩ := hcut
            cases kq with
            | zero => exact absurd HA.out (by simp [watchwordlaw19_NearStates.j2])
            | succ kj22 =>
             have H := HA.out
             clear HA
             simp only [watchwordlaw19_NearStates.j2] at H
             have HC26 := Aside0.mk H
             clear H
             go_upto_if 79 with (fail)
             repeat (go_quiet (fail); go_upto_if 79 with (fail))
             go_cut [13, 14] (fun v13 v14 wc => ∃ (kq : Nat) (x13_25 : Int) (x14_25 : Int), v13 = .int .i64 x13_25 ∧ v14 = .int .i64 x14_25 ∧ Aside0 (watchwordlaw19_NearStates.j3 kq l0 a1 a2 t434 t435 x11_1 x13_25 x14_25 x15_2 = some r) ∧ Aside0 (kq ≤ kj22) ∧ Aside0 (Kd.R k46 46 wc w.heap.size (fun _ => True) (.slice (some ad446) t434.length co12) t434) ∧ Aside0 (Below w.heap.size w wc))
             case first =>
              have H := HC26.out
              clear HC26
              by_cases c27 : x79_22 = true
              ·subst c27
               have H1 : (if 0 ≤ x13_2 then (if x13_2 < (l0.length : Int) then (watchwordlaw19_NearStates.j3 kj22 l0 a1 a2 t434 t435 x11_1 (wrap64 (x13_2 + 1)) ((rd_T46 l0 x13_2).f1) x15_2) else (none)) else (none)) = some r := by rw [if_pos rfl] at H; exact H
               clear H
               have H := H1
               clear H1
               by_cases c28 : 0 ≤ x13_2
               ·rw [if_pos c28] at H
                have c28b0 : decide (0 ≤ x13_2) = true := decide_eq_true c28
                clear c28
                (first | rw [c28b0] | (simp only [i64_w, i32_w]; rw [c28b0]) | skip)
                by_cases c29 : x13_2 < (l0.length : Int)
                ·rw [if_pos c29] at H
                 have c29b0 : decide (x13_2 < (l0.length : Int)) = true := decide_eq_true c29
                 clear c29
                 have H' := Aside0.mk H
                 clear H
                 have p448 : 0 ≤ (x13_2 : Int) := of_decide_eq_true (by first | (with_reducible assumption) | assumption)
                 have q448 : x13_2 < (l0.length : Int) := of_decide_eq_true (by first | (with_reducible assumption) | assumption)
                 obtain ⟨ad448, e448, hx448_0, hx448_1, hx448_2⟩ := at_T46 HR0.out x13_2 p448 q448
                 cases e448
                 replace hx448_0 := (HB.out.cell (World.block_lt_of_cell? w _ hx448_0)).trans hx448_0
                 replace hx448_1 := (HB.out.cell (World.block_lt_of_cell? w _ hx448_1)).trans hx448_1
                 replace hx448_2 := (HB.out.cell (World.block_lt_of_cell? w _ hx448_2)).trans hx448_2
                 replace p448 := eq_true p448
                 replace q448 := eq_true q448
                 go_wp2
                 repeat (go_quiet (fail); try go_wp2)
                 go_meet
                 case rel => exact ⟨_, (wrap64 (x13_2 + 1)), ((rd_T46 l0 x13_2).f1), (by first | rfl | (simp; done) | (simp [*]; done)), (by first | rfl | (simp; done) | (simp [*]; done)), H', ⟨by have := HK1.out; have := HK2.out; have := HJ22.out; first | omega | exact Nat.le_refl _⟩, ⟨by (with_reducible repeat (first | apply Kd.R_alloc | apply Kd.R_drewN | apply Kd.R_drew)); exact HO_7.out⟩, ⟨by repeat (first | (with_reducible first | exact HB.out | apply below_alloc | apply pw_below_drewN | apply below_drew1) | exact HB.out)⟩⟩
                ·rw [if_neg c29] at H
                 exact absurd H (by simp)
               ·rw [if_neg c28] at H
                exact absurd H (by simp)
              ·replace c27 := Bool.eq_false_iff.mpr c27
               subst c27
               have H1 : (watchwordlaw19_NearStates.j3 kj22 l0 a1 a2 t434 t435 x11_1 x13_2 x14_2 x15_2) = some r := by rw [if_neg (show ¬ (false = true) by decide)] at H; exact H
               clear H
               have H := H1
               clear H1
               have H' := Aside0.mk H
               clear H
               go_wp2
               repeat (go_quiet (fail); try go_wp2)
               go_meet
               case rel => exact ⟨_, (x13_2), (x14_2), (by first | rfl | (simp; done) | (simp [*]; done)), (by first | rfl | (simp; done) | (simp [*]; done)), H', ⟨by have := HK1.out; have := HK2.out; have := HJ22.out; first | omega | exact Nat.le_refl _⟩, ⟨by (with_reducible repeat (first | apply Kd.R_alloc | apply Kd.R_drewN | apply Kd.R_drew)); exact HO_7.out⟩, ⟨by repeat (first | (with_reducible first | exact HB.out | apply below_alloc | apply pw_below_drewN | apply below_drew1) | exact HB.out)⟩⟩
             case rest =>
              clear HC26
              try clear c1
              try clear c2
              try clear p2
              try clear p4
              try clear q4
              try clear hx4
              try clear c5
              try clear c6
              try clear p6
              try clear c8
              try clear c8b0
              try clear c8b1
              try clear c14
              try clear c14b0
              try clear c15
              try clear c17
              try clear c17b0
              try clear c20
              try clear c20b0
              try clear c21
              try clear c21b0
              try clear c22
              try clear c22b0
              try clear c22b1
              try clear c24
              try clear c24b0
              try clear c25
              try clear c25b0
              try clear c27
              try clear c28
              try clear c28b0
              try clear c29
              try clear c29b0
              try clear hx443_0
              try clear hx446_0
              try clear hx446_1
              try clear hx446_2
              try clear hx447_0
              try clear hx447_1
              try clear hx447_2
              try clear hx448_0
              try clear hx448_1
              try clear hx448_2
              try clear p2
              try clear p4
              try clear p443
              try clear p446
              try clear p447
              try clear p448
              try clear p6
              try clear q4
              try clear q443
              try clear q446
              try clear q447
              try clear q448
              obtain ⟨kq, x13_25, x14_25, rfl, rfl, HA, HJ25, HO_7, HB⟩ := hcut
              cases kq with
              | zero => exact absurd HA.out (by simp [watchwordlaw19_NearStates.j3])
              | succ kj25 =>
               have H := HA.out
               clear HA
               simp only [watchwordlaw19_NearStates.j3] at H
               by_cases c30 : 0 ≤ x15_2
               ·rw [if_pos c30] at H
                have c30b0 : decide (0 ≤ x15_2) = true := decide_eq_true c30
                clear c30
                by_cases c31 : x15_2 < (t434.length : Int)
                ·rw [if_pos c31] at H
                 have c31b0 : decide (x15_2 < (t434.length : Int)) = true := decide_eq_true c31
                 clear c31
                 by_cases c32 : ((rd_T46 t434 x15_2).f2) = 16
                 ·rw [if_pos c32] at H
                  have c32b0 : (((rd_T46 t434 x15_2).f2) == 16) = true := beq_iff_eq.mpr c32
                  have c32b1 : (((rd_T46 t434 x15_2).f2) != 16) = false := bne_eq_false_iff_eq.mpr c32
                  clear c32
                  have H' := Aside0.mk H
                  clear H
                  have p449 : 0 ≤ (x15_2 : Int) := of_decide_eq_true (by first | (with_reducible assumption) | assumption)
                  have q449 : x15_2 < (t434.length : Int) := of_decide_eq_true (by first | (with_reducible assumption) | assumption)
                  obtain ⟨ad449, e449, hx449_0, hx449_1, hx449_2⟩ := at_T46 (Kd.R_reads' HO_7.out).2.2 x15_2 p449 q449
                  obtain rfl : ad446 = ad449 := (by injection e449)
                  replace p449 := eq_true p449
                  replace q449 := eq_true q449
                  go_wp2
                  repeat (go_quiet (fail); try go_wp2)
                  go_roundg kj25
                  case measure => have := HK1.out; have := HK2.out; have := HJ22.out; have := HJ25.out; omega
                  case rel => exact ⟨(x13_25), (x14_25), (wrap64 (x15_2 + 1)), (by first | rfl | (simp; done) | (simp [*]; done)), (by first | rfl | (simp; done) | (simp [*]; done)), (by first | rfl | (simp; done) | (simp [*]; done)), H', ⟨by have := HK1.out; have := HK2.out; have := HJ22.out; have := HJ25.out; omega⟩, ⟨by (with_reducible repeat (first | apply Kd.R_alloc | apply Kd.R_drewN | apply Kd.R_drew)); exact HO_7.out⟩, ⟨by repeat (first | (with_reducible first | exact HB.out | apply below_alloc | apply pw_below_drewN | apply below_drew1) | exact HB.out)⟩⟩
                 ·rw [if_neg c32] at H
                  have c32b0 : (((rd_T46 t434 x15_2).f2) == 16) = false := beq_eq_false_iff_ne.mpr c32
                  have c32b1 : (((rd_T46 t434 x15_2).f2) != 16) = true := bne_iff_ne.mpr c32
                  exact absurd (Option.some.inj H) (by rw [HT.out]; decide)
                ·rw [if_neg c31] at H
                 exact absurd H (by simp)
               ·rw [if_neg c30] at H
                exact absurd H (by simp)
          ·rw [if_neg c22] at H
           have c22b0 : (((rd_T46 t434 x15_2).f0) == a1) = false := beq_eq_false_iff_ne.mpr c22
           have c22b1 : (((rd_T46 t434 x15_2).f0) != a1) = true := bne_iff_ne.mpr c22
           by_cases c33 : x13_2 ≥ (l0.length : Int)
           ·rw [if_pos c33] at H
            have c33b0 : decide ((l0.length : Int) ≤ x13_2) = true := decide_eq_true c33
            clear c33
            exact absurd (Option.some.inj H) (by rw [HT.out]; decide)
           ·rw [if_neg c33] at H
            have c33b0 : decide ((l0.length : Int) ≤ x13_2) = false := decide_eq_false c33
            clear c33
            by_cases c34 : 0 ≤ x13_2
            ·rw [if_pos c34] at H
             have c34b0 : decide (0 ≤ x13_2) = true := decide_eq_true c34
             clear c34
             by_cases c35 : x13_2 < (l0.length : Int)
             ·rw [if_pos c35] at H
              have c35b0 : decide (x13_2 < (l0.length : Int)) = true := decide_eq_true c35
              clear c35
              by_cases c36 : (!(((rd_T46 l0 x13_2).f0) == ((rd_T46 t434 x15_2).f0)) || (!(((rd_T46 l0 x13_2).f1) == ((rd_T46 t434 x15_2).f1)) || (!(((rd_T46 l0 x13_2).f2) == ((rd_T46 t434 x15_2).f2))))) = true
              ·rw [if_pos c36] at H
               have c36b0 : (!(((rd_T46 l0 x13_2).f0) == ((rd_T46 t434 x15_2).f0)) || (!(((rd_T46 l0 x13_2).f1) == ((rd_T46 t434 x15_2).f1)) || (!(((rd_T46 l0 x13_2).f2) == ((rd_T46 t434 x15_2).f2))))) = true := c36
               clear c36
               exact absurd (Option.some.inj H) (by rw [HT.out]; decide)
              ·rw [if_neg c36] at H
               have c36b0 : (!(((rd_T46 l0 x13_2).f0) == ((rd_T46 t434 x15_2).f0)) || (!(((rd_T46 l0 x13_2).f1) == ((rd_T46 t434 x15_2).f1)) || (!(((rd_T46 l0 x13_2).f2) == ((rd_T46 t434 x15_2).f2))))) = false := by simpa using c36
               clear c36
               have H' := Aside0.mk H
               clear H
               have p446 : 0 ≤ (x15_2 : Int) := of_decide_eq_true (by first | (with_reducible assumption) | assumption)
               have q446 : x15_2 < (t434.length : Int) := of_decide_eq_true (by first | (with_reducible assumption) | assumption)
               obtain ⟨ad446, e446, hx446_0, hx446_1, hx446_2⟩ := at_T46 (Kd.R_reads' HO_7.out).2.2 x15_2 p446 q446
               cases e446
               replace p446 := eq_true p446
               replace q446 := eq_true q446
               have p450 : 0 ≤ (x13_2 : Int) := of_decide_eq_true (by first | (with_reducible assumption) | assumption)
               have q450 : x13_2 < (l0.length : Int) := of_decide_eq_true (by first | (with_reducible assumption) | assumption)
               obtain ⟨ad450, e450, hx450_0, hx450_1, hx450_2⟩ := at_T46 HR0.out x13_2 p450 q450
               cases e450
               replace hx450_0 := (HB.out.cell (World.block_lt_of_cell? w _ hx450_0)).trans hx450_0
               replace hx450_1 := (HB.out.cell (World.block_lt_of_cell? w _ hx450_1)).trans hx450_1
               replace hx450_2 := (HB.out.cell (World.block_lt_of_cell? w _ hx450_2)).trans hx450_2
               replace p450 := eq_true p450
               replace q450 := eq_true q450
               have p451 : 0 ≤ (x15_2 : Int) := of_decide_eq_true (by first | (with_reducible assumption) | assumption)
               have q451 : x15_2 < (t434.length : Int) := of_decide_eq_true (by first | (with_reducible assumption) | assumption)
               obtain ⟨ad451, e451, hx451_0, hx451_1, hx451_2⟩ := at_T46 (Kd.R_reads' HO_7.out).2.2 x15_2 p451 q451
               obtain rfl : ad446 = ad451 := (by injection e451)
               replace p451 := eq_true p451
               replace q451 := eq_true q451
               go_wp2
               repeat (go_quiet (fail); try go_wp2)
               go_roundg k2
               case measure => have := HK1.out; have := HK2.out; omega
               case rel => exact ⟨(wrap64 (x13_2 + 1)), (x14_2), (wrap64 (x15_2 + 1)), (by first | rfl | (simp; done) | (simp [*]; done)), (by first | rfl | (simp; done) | (simp [*]; done)), (by first | rfl | (simp; done) | (simp [*]; done)), H', ⟨by have := HK1.out; have := HK2.out; omega⟩, ⟨by (with_reducible repeat (first | apply Kd.R_alloc | apply Kd.R_drewN | apply Kd.R_drew)); exact HO_7.out⟩, ⟨by repeat (first | (with_reducible first | exact HB.out | apply below_alloc | apply pw_below_drewN | apply below_drew1) | exact HB.out)⟩⟩
             ·rw [if_neg c35] at H
              exact absurd H (by simp)
            ·rw [if_neg c34] at H
             exact absurd H (by simp)
         ·rw [if_neg c21] at H
          exact absurd H (by simp)
        ·rw [if_neg c20] at H
         have c20b0 : decide (x15_2 < (t434.length : Int)) = false := decide_eq_false c20
         clear c20
         by_cases c37 : a2 = true
         ·subst c37
          have H1 : (if x13_2 = (l0.length : Int) then (if (x11_1 == true) = true then (if (t435 == (x14_2 != 2)) = true then ((near_May.f k2 t434).bind fun t444 => (some t444)) else (some false)) else (some false)) else (some false)) = some r := by rw [if_pos rfl] at H; exact H
          clear H
          have H := H1
          clear H1
          by_cases c38 : x13_2 = (l0.length : Int)
          ·rw [if_pos c38] at H
           have c38b0 : (x13_2 == (l0.length : Int)) = true := beq_iff_eq.mpr c38
           have c38b1 : (x13_2 != (l0.length : Int)) = false := bne_eq_false_iff_eq.mpr c38
           clear c38
           by_cases c39 : (x11_1 == true) = true
           ·rw [if_pos c39] at H
            have c39b0 : (x11_1 == true) = true := c39
            (try (have c39b1 : decide (x11_1 = true) = true := by simpa using c39))
            (try (have c39b2 : (x11_1 == true) = true := by simpa using c39))
            clear c39
            by_cases c40 : (t435 == (x14_2 != 2)) = true
            ·rw [if_pos c40] at H
             have c40b0 : (t435 == (x14_2 != 2)) = true := c40
             (try (have c40b1 : decide (t435 = (x14_2 != 2)) = true := by simpa using c40))
             (try (have c40b2 : (t435 == (x14_2 != 2)) = true := by simpa using c40))
             clear c40
             replace H := Option.bind_eq_some_iff.mp H
             obtain ⟨t444, A410, H⟩ := H
             replace H : (some t444) = some r := H
             have A41 := Aside0.mk A410
             clear A410
             obtain rfl := Option.some.inj H
             go_wp2_with (first | (go_at_call 18; (with_reducible refine (near_May.calls k2 _ _ t434 t444 _ ?side1 ?side2 A41.out).mono ?_); (case side1 => repeat (first | exact (Kd.R_reads' HO_7.out).2.2 | (with_reducible refine Kd.C_alloc ?_ _) | (with_reducible refine Kd.C_drewN ?_ _) | (with_reducible refine Kd.C_drew ?_))); (case side2 => exact (Kd.R_reads' HO_7.out).2.1); rintro e w42 ⟨rfl, hb⟩; have n0_ := Aside0.mk (Kd.R_below (by (with_reducible repeat (first | apply Kd.R_alloc | apply Kd.R_drewN | apply Kd.R_drew)); exact HO_7.out) hb); have n1_ := Aside0.mk (below_step (by repeat (first | (with_reducible first | exact HB.out | apply below_alloc | apply pw_below_drewN | apply below_drew1) | exact HB.out)) hb); clear HO_7; clear HB; have HO_7 := n0_; have HB := n1_; clear n0_ n1_; (try clear hb); (try clear hb2); (try clear hk); (try clear hi)))
             repeat (go_quiet (first | (go_at_call 18; (with_reducible refine (near_May.calls k2 _ _ t434 t444 _ ?side1 ?side2 A41.out).mono ?_); (case side1 => repeat (first | exact (Kd.R_reads' HO_7.out).2.2 | (with_reducible refine Kd.C_alloc ?_ _) | (with_reducible refine Kd.C_drewN ?_ _) | (with_reducible refine Kd.C_drew ?_))); (case side2 => exact (Kd.R_reads' HO_7.out).2.1); rintro e w42 ⟨rfl, hb⟩; have n0_ := Aside0.mk (Kd.R_below (by (with_reducible repeat (first | apply Kd.R_alloc | apply Kd.R_drewN | apply Kd.R_drew)); exact HO_7.out) hb); have n1_ := Aside0.mk (below_step (by repeat (first | (with_reducible first | exact HB.out | apply below_alloc | apply pw_below_drewN | apply below_drew1) | exact HB.out)) hb); clear HO_7; clear HB; have HO_7 := n0_; have HB := n1_; clear n0_ n1_; (try clear hb); (try clear hb2); (try clear hk); (try clear hi))); try go_wp2_with (first | (go_at_call 18; (with_reducible refine (near_May.calls k2 _ _ t434 t444 _ ?side1 ?side2 A41.out).mono ?_); (case side1 => repeat (first | exact (Kd.R_reads' HO_7.out).2.2 | (with_reducible refine Kd.C_alloc ?_ _) | (with_reducible refine Kd.C_drewN ?_ _) | (with_reducible refine Kd.C_drew ?_))); (case side2 => exact (Kd.R_reads' HO_7.out).2.1); rintro e w42 ⟨rfl, hb⟩; have n0_ := Aside0.mk (Kd.R_below (by (with_reducible repeat (first | apply Kd.R_alloc | apply Kd.R_drewN | apply Kd.R_drew)); exact HO_7.out) hb); have n1_ := Aside0.mk (below_step (by repeat (first | (with_reducible first | exact HB.out | apply below_alloc | apply pw_below_drewN | apply below_drew1) | exact HB.out)) hb); clear HO_7; clear HB; have HO_7 := n0_; have HB := n1_; clear n0_ n1_; (try clear hb); (try clear hb2); (try clear hk); (try clear hi))))
             go_ret
             exact ⟨by first | rfl | (simp [errW_none, errW_some] <;> rfl) | (simp [*, errW_none, errW_some] <;> rfl), by repeat (first | (with_reducible first | exact HB.out | apply below_alloc | apply pw_below_drewN | apply below_drew1) | exact HB.out)⟩
            ·rw [if_neg c40] at H
             have c40b0 : (t435 == (x14_2 != 2)) = false := by simpa using c40
             (try (have c40b1 : decide (t435 = (x14_2 != 2)) = false := by simpa using c40))
             (try (have c40b2 : (t435 == (x14_2 != 2)) = false := by simpa using c40))
             (try (have c40b3 : ¬ (t435 = (x14_2 != 2)) := by simpa using c40))
             clear c40
             exact absurd (Option.some.inj H) (by rw [HT.out]; decide)
           ·rw [if_neg c39] at H
            have c39b0 : (x11_1 == true) = false := by simpa using c39
            (try (have c39b1 : decide (x11_1 = true) = false := by simpa using c39))
            (try (have c39b2 : (x11_1 == true) = false := by simpa using c39))
            (try (have c39b3 : ¬ (x11_1 = true) := by simpa using c39))
            clear c39
            exact absurd (Option.some.inj H) (by rw [HT.out]; decide)
          ·rw [if_neg c38] at H
           have c38b0 : (x13_2 == (l0.length : Int)) = false := beq_eq_false_iff_ne.mpr c38
           have c38b1 : (x13_2 != (l0.length : Int)) = true := bne_iff_ne.mpr c38
           exact absurd (Option.some.inj H) (by rw [HT.out]; decide)
         ·replace c37 := Bool.eq_false_iff.mpr c37
          subst c37
          have H1 : (if x13_2 = (l0.length : Int) then (if (x11_1 == false) = true then (if (t435 == (x14_2 != 1)) = true then ((near_May.f k2 t434).bind fun t445 => (some t445)) else (some false)) else (some false)) else (some false)) = some r := by rw [if_neg (show ¬ (false = true) by decide)] at H; exact H
          clear H
          have H := H1
          clear H1
          by_cases c43 : x13_2 = (l0.length : Int)
          ·rw [if_pos c43] at H
           have c43b0 : (x13_2 == (l0.length : Int)) = true := beq_iff_eq.mpr c43
           have c43b1 : (x13_2 != (l0.length : Int)) = false := bne_eq_false_iff_eq.mpr c43
           clear c43
           by_cases c44 : (x11_1 == false) = true
           ·rw [if_pos c44] at H
            have c44b0 : (x11_1 == false) = true := c44
            (try (have c44b1 : decide (x11_1 = false) = true := by simpa using c44))
            (try (have c44b2 : (x11_1 == false) = true := by simpa using c44))
            clear c44
            by_cases c45 : (t435 == (x14_2 != 1)) = true
            ·rw [if_pos c45] at H
             have c45b0 : (t435 == (x14_2 != 1)) = true := c45
             (try (have c45b1 : decide (t435 = (x14_2 != 1)) = true := by simpa using c45))
             (try (have c45b2 : (t435 == (x14_2 != 1)) = true := by simpa using c45))
             clear c45
             replace H := Option.bind_eq_some_iff.mp H
             obtain ⟨t445, A460, H⟩ := H
             replace H : (some t445) = some r := H
             have A46 := Aside0.mk A460
             clear A460
             obtain rfl := Option.some.inj H
             go_wp2_with (first | (go_at_call 18; (with_reducible refine (near_May.calls k2 _ _ t434 t445 _ ?side1 ?side2 A46.out).mono ?_); (case side1 => repeat (first | exact (Kd.R_reads' HO_7.out).2.2 | (with_reducible refine Kd.C_alloc ?_ _) | (with_reducible refine Kd.C_drewN ?_ _) | (with_reducible refine Kd.C_drew ?_))); (case side2 => exact (Kd.R_reads' HO_7.out).2.1); rintro e w47 ⟨rfl, hb⟩; have n0_ := Aside0.mk (Kd.R_below (by (with_reducible repeat (first | apply Kd.R_alloc | apply Kd.R_drewN | apply Kd.R_drew)); exact HO_7.out) hb); have n1_ := Aside0.mk (below_step (by repeat (first | (with_reducible first | exact HB.out | apply below_alloc | apply pw_below_drewN | apply below_drew1) | exact HB.out)) hb); clear HO_7; clear HB; have HO_7 := n0_; have HB := n1_; clear n0_ n1_; (try clear hb); (try clear hb2); (try clear hk); (try clear hi)))
             repeat (go_quiet (first | (go_at_call 18; (with_reducible refine (near_May.calls k2 _ _ t434 t445 _ ?side1 ?side2 A46.out).mono ?_); (case side1 => repeat (first | exact (Kd.R_reads' HO_7.out).2.2 | (with_reducible refine Kd.C_alloc ?_ _) | (with_reducible refine Kd.C_drewN ?_ _) | (with_reducible refine Kd.C_drew ?_))); (case side2 => exact (Kd.R_reads' HO_7.out).2.1); rintro e w47 ⟨rfl, hb⟩; have n0_ := Aside0.mk (Kd.R_below (by (with_reducible repeat (first | apply Kd.R_alloc | apply Kd.R_drewN | apply Kd.R_drew)); exact HO_7.out) hb); have n1_ := Aside0.mk (below_step (by repeat (first | (with_reducible first | exact HB.out | apply below_alloc | apply pw_below_drewN | apply below_drew1) | exact HB.out)) hb); clear HO_7; clear HB; have HO_7 := n0_; have HB := n1_; clear n0_ n1_; (try clear hb); (try clear hb2); (try clear hk); (try clear hi))); try go_wp2_with (first | (go_at_call 18; (with_reducible refine (near_May.calls k2 _ _ t434 t445 _ ?side1 ?side2 A46.out).mono ?_); (case side1 => repeat (first | exact (Kd.R_reads' HO_7.out).2.2 | (with_reducible refine Kd.C_alloc ?_ _) | (with_reducible refine Kd.C_drewN ?_ _) | (with_reducible refine Kd.C_drew ?_))); (case side2 => exact (Kd.R_reads' HO_7.out).2.1); rintro e w47 ⟨rfl, hb⟩; have n0_ := Aside0.mk (Kd.R_below (by (with_reducible repeat (first | apply Kd.R_alloc | apply Kd.R_drewN | apply Kd.R_drew)); exact HO_7.out) hb); have n1_ := Aside0.mk (below_step (by repeat (first | (with_reducible first | exact HB.out | apply below_alloc | apply pw_below_drewN | apply below_drew1) | exact HB.out)) hb); clear HO_7; clear HB; have HO_7 := n0_; have HB := n1_; clear n0_ n1_; (try clear hb); (try clear hb2); (try clear hk); (try clear hi))))
             go_ret
             exact ⟨by first | rfl | (simp [errW_none, errW_some] <;> rfl) | (simp [*, errW_none, errW_some] <;> rfl), by repeat (first | (with_reducible first | exact HB.out | apply below_alloc | apply pw_below_drewN | apply below_drew1) | exact HB.out)⟩
            ·rw [if_neg c45] at H
             have c45b0 : (t435 == (x14_2 != 1)) = false := by simpa using c45
             (try (have c45b1 : decide (t435 = (x14_2 != 1)) = false := by simpa using c45))
             (try (have c45b2 : (t435 == (x14_2 != 1)) = false := by simpa using c45))
             (try (have c45b3 : ¬ (t435 = (x14_2 != 1)) := by simpa using c45))
             clear c45
             exact absurd (Option.some.inj H) (by rw [HT.out]; decide)
           ·rw [if_neg c44] at H
            have c44b0 : (x11_1 == false) = false := by simpa using c44
            (try (have c44b1 : decide (x11_1 = false) = false := by simpa using c44))
            (try (have c44b2 : (x11_1 == false) = false := by simpa using c44))
            (try (have c44b3 : ¬ (x11_1 = false) := by simpa using c44))
            clear c44
            exact absurd (Option.some.inj H) (by rw [HT.out]; decide)
          ·rw [if_neg c43] at H
           have c43b0 : (x13_2 == (l0.length : Int)) = false := beq_eq_false_iff_ne.mpr c43
           have c43b1 : (x13_2 != (l0.length : Int)) = true := bne_iff_ne.mpr c43
           exact absurd (Option.some.inj H) (by rw [HT.out]; decide)
  ·rw [if_neg c8] at H
   have c8b0 : (t439 == 0) = false := beq_eq_false_iff_ne.mpr c8
   have c8b1 : (t439 != 0) = true := bne_iff_ne.mpr c8
   by_cases c48 : (t434.length : Int) = 0
   ·rw [if_pos c48] at H
    have c48b0 : ((t434.length : Int) == 0) = true := beq_iff_eq.mpr c48
    have c48b1 : ((t434.length : Int) != 0) = false := bne_eq_false_iff_eq.mpr c48
    clear c48
    obtain rfl := Option.some.inj H
    go_enter Try.func6, Try.ntmps6
    go_wp2_with (first | (go_at_call 23; (with_reducible refine (watchwordlaw19_awake.calls k  true _ A4.out (by first | rfl | exact HT.out)).mono ?_); rintro e w49 ⟨rfl, hb⟩; have n0_ := Aside0.mk (below_step (by repeat (first | (with_reducible first | exact HB.out | apply below_alloc | apply pw_below_drewN | apply below_drew1) | exact HB.out)) hb); clear HB; have HB := n0_; clear n0_; (try clear hb); (try clear hb2); (try clear hk); (try clear hi)) | (go_at_call 9; (with_reducible refine (near_Heard.calls k _ _ l0 a1 a2 t434 t435 t436 _ ?side1 ?side2 A6.out).mono ?_); (case side1 => repeat (first | exact (Kd.C_below HR0.out HB.out) | (with_reducible refine Kd.C_alloc ?_ _) | (with_reducible refine Kd.C_drewN ?_ _) | (with_reducible refine Kd.C_drew ?_))); (case side2 => exact HC0.out); rintro e w50 ⟨v437, rfl, ho0, hb⟩; have n0_ := Aside0.mk (Kd.R_lower ho0 (below_size (by repeat (first | (with_reducible first | exact HB.out | apply below_alloc | apply pw_below_drewN | apply below_drew1) | exact HB.out)))); have n1_ := Aside0.mk (below_step (by repeat (first | (with_reducible first | exact HB.out | apply below_alloc | apply pw_below_drewN | apply below_drew1) | exact HB.out)) hb); clear HB; have HO438 := n0_; have HB := n1_; clear n0_ n1_; (try clear hb); (try clear hb2); (try clear hk); (try clear hi); (try clear ho0)) | (go_at_call 15; (with_reducible refine (watchwordlaw0_Num.calls t436 t439 _ A7.out).mono ?_); rintro e w' ⟨rfl, ⟨nd, rfl⟩⟩; (try first | exact ⟨rfl, _, World.drewN_drewN _ _ _⟩ | exact ⟨rfl, _, Eq.trans (World.drewN_drewN _ _ _) (congrArg (World.drewN _) (Nat.add_assoc _ _ _))⟩); obtain ⟨Ao51, co51, eo51⟩ := Kd.R_slice HO438.out; subst eo51))
    repeat (go_quiet (first | (go_at_call 23; (with_reducible refine (watchwordlaw19_awake.calls k  true _ A4.out (by first | rfl | exact HT.out)).mono ?_); rintro e w49 ⟨rfl, hb⟩; have n0_ := Aside0.mk (below_step (by repeat (first | (with_reducible first | exact HB.out | apply below_alloc | apply pw_below_drewN | apply below_drew1) | exact HB.out)) hb); clear HB; have HB := n0_; clear n0_; (try clear hb); (try clear hb2); (try clear hk); (try clear hi)) | (go_at_call 9; (with_reducible refine (near_Heard.calls k _ _ l0 a1 a2 t434 t435 t436 _ ?side1 ?side2 A6.out).mono ?_); (case side1 => repeat (first | exact (Kd.C_below HR0.out HB.out) | (with_reducible refine Kd.C_alloc ?_ _) | (with_reducible refine Kd.C_drewN ?_ _) | (with_reducible refine Kd.C_drew ?_))); (case side2 => exact HC0.out); rintro e w50 ⟨v437, rfl, ho0, hb⟩; have n0_ := Aside0.mk (Kd.R_lower ho0 (below_size (by repeat (first | (with_reducible first | exact HB.out | apply below_alloc | apply pw_below_drewN | apply below_drew1) | exact HB.out)))); have n1_ := Aside0.mk (below_step (by repeat (first | (with_reducible first | exact HB.out | apply below_alloc | apply pw_below_drewN | apply below_drew1) | exact HB.out)) hb); clear HB; have HO438 := n0_; have HB := n1_; clear n0_ n1_; (try clear hb); (try clear hb2); (try clear hk); (try clear hi); (try clear ho0)) | (go_at_call 15; (with_reducible refine (watchwordlaw0_Num.calls t436 t439 _ A7.out).mono ?_); rintro e w' ⟨rfl, ⟨nd, rfl⟩⟩; (try first | exact ⟨rfl, _, World.drewN_drewN _ _ _⟩ | exact ⟨rfl, _, Eq.trans (World.drewN_drewN _ _ _) (congrArg (World.drewN _) (Nat.add_assoc _ _ _))⟩); obtain ⟨Ao51, co51, eo51⟩ := Kd.R_slice HO438.out; subst eo51)); try go_wp2_with (first | (go_at_call 23; (with_reducible refine (watchwordlaw19_awake.calls k  true _ A4.out (by first | rfl | exact HT.out)).mono ?_); rintro e w49 ⟨rfl, hb⟩; have n0_ := Aside0.mk (below_step (by repeat (first | (with_reducible first | exact HB.out | apply below_alloc | apply pw_below_drewN | apply below_drew1) | exact HB.out)) hb); clear HB; have HB := n0_; clear n0_; (try clear hb); (try clear hb2); (try clear hk); (try clear hi)) | (go_at_call 9; (with_reducible refine (near_Heard.calls k _ _ l0 a1 a2 t434 t435 t436 _ ?side1 ?side2 A6.out).mono ?_); (case side1 => repeat (first | exact (Kd.C_below HR0.out HB.out) | (with_reducible refine Kd.C_alloc ?_ _) | (with_reducible refine Kd.C_drewN ?_ _) | (with_reducible refine Kd.C_drew ?_))); (case side2 => exact HC0.out); rintro e w50 ⟨v437, rfl, ho0, hb⟩; have n0_ := Aside0.mk (Kd.R_lower ho0 (below_size (by repeat (first | (with_reducible first | exact HB.out | apply below_alloc | apply pw_below_drewN | apply below_drew1) | exact HB.out)))); have n1_ := Aside0.mk (below_step (by repeat (first | (with_reducible first | exact HB.out | apply below_alloc | apply pw_below_drewN | apply below_drew1) | exact HB.out)) hb); clear HB; have HO438 := n0_; have HB := n1_; clear n0_ n1_; (try clear hb); (try clear hb2); (try clear hk); (try clear hi); (try clear ho0)) | (go_at_call 15; (with_reducible refine (watchwordlaw0_Num.calls t436 t439 _ A7.out).mono ?_); rintro e w' ⟨rfl, ⟨nd, rfl⟩⟩; (try first | exact ⟨rfl, _, World.drewN_drewN _ _ _⟩ | exact ⟨rfl, _, Eq.trans (World.drewN_drewN _ _ _) (congrArg (World.drewN _) (Nat.add_assoc _ _ _))⟩); obtain ⟨Ao51, co51, eo51⟩ := Kd.R_slice HO438.out; subst eo51)))
    go_ret
    exact ⟨by first | rfl | (simp [errW_none, errW_some] <;> rfl) | (simp [*, errW_none, errW_some] <;> rfl), by repeat (first | (with_reducible first | exact HB.out | apply below_alloc | apply pw_below_drewN | apply below_drew1) | exact HB.out)⟩
   ·rw [if_neg c48] at H
    have c48b0 : ((t434.length : Int) == 0) = false := beq_eq_false_iff_ne.mpr c48
    have c48b1 : ((t434.length : Int) != 0) = true := bne_iff_ne.mpr c48
    have c48b2 : ¬ (t434 = []) := fun h_ => c48 (by rw [h_]; rfl)
    exact absurd (Option.some.inj H) (by rw [HT.out]; decide)
 ·replace c5 := Bool.eq_false_iff.mpr c5
  subst c5
  have H1 : (some false) = some r := by rw [if_neg (show ¬ (false = true) by decide)] at H; exact H
  clear H
  have H := H1
  clear H1
  exact absurd (Option.some.inj H) (by rw [HT.out]; decide)

-- NOT PRINTED: function 7 (watchwordlaw19_NearRow)

end Go.Proofs.Ytnfoldgialdhjaa.Q19
