/- Written by a program of this session out of the print of the loaded functions: each Go function as a plain function, and that its call comes to it; for a law, the row out of its plain statement. -/
import Derived.Test.YtbpoflicphgokaaZ18x0
import Derived.Test.YtbpoflicphgokaaZ18x4
import Derived.Test.YtbpoflicphgokaaZ18x2
import Derived.Test.YtbpoflicphgokaaZ18x3
namespace Go.Proofs.Ytbpoflicphgokaa.Q18
open Go.RowKit Go.Proofs.YtbpoflicphgokaaW.PrintWords Go.Proofs.YtbpoflicphgokaaW.PrintLast Go.Proofs.YtbpoflicphgokaaW.PrintMore
attribute [local go_sem] max2_int min2_int max_two min_two max_three min_three max_four min_four   -- for this text's walks alone
set_option linter.unusedVariables false
set_option linter.unusedSimpArgs false

/-! ### watchwordlaw18_StoreNewest: function 6 -/
theorem upB106 {A B : Prop} (h : A) (f : A → B := by intro h_; (with_reducible repeat (first | refine blk_drewN ?_ _ | refine blk_drew ?_ | refine blk_alloc ?_ _)); exact h_) : B := f h
theorem upR106 {A B : Prop} (h : A) (f : A → B := by intro h_; (with_reducible repeat (first | apply Kd.R_alloc | apply Kd.R_drewN | apply Kd.R_drew)); exact h_) : B := f h
theorem upF106 {N A B : Prop} (n : N) (h : A) (f : N → A → B := by intro n_ h_; (with_reducible repeat (first | refine blk_far ?_ n_ _ | refine blk_drewN ?_ _ | refine blk_drew ?_ | refine blk_alloc ?_ _)); exact h_) : B := f n h
mutual
def watchwordlaw18_StoreNewest.j0 : Nat → List (S32) → List (S32) → Bool → Int → Int → Int → List (S56) → Option (Bool)
 | 0, _, _, _, _, _, _, _ => none
 | k + 1, x0, x5, x81, x602000, x602001, x602002, x602003 => if x81 = true then (some false) else (watchwordlaw18_StoreNewest.l0 k x0 x5 0 x602000 x602001 x602002 x602003)
def watchwordlaw18_StoreNewest.l0 : Nat → List (S32) → List (S32) → Int → Int → Int → Int → List (S56) → Option (Bool)
 | 0, _, _, _, _, _, _, _ => none
 | k + 1, x0, x5, x13, x602000, x602001, x602002, x602003 => if x13 < (x0.length : Int) then (if 0 ≤ x13 then ((store_Find.f k x5 ((rd_T32 x0 x13).f0)).bind fun bt628 => (if ((rd_T32 x0 x13).f0) = x602000 then (watchwordlaw18_StoreNewest.l0 k x0 x5 (wrap64 (x13 + 1)) x602000 x602001 x602002 x602003) else (if bt628.2.2.2.2 = true then ((watchwordlaw0_SameLsa.f k bt628.1 bt628.2.1 bt628.2.2.1 bt628.2.2.2.1 ((rd_T32 x0 x13).f0) ((rd_T32 x0 x13).f1) ((rd_T32 x0 x13).f2) ((rd_T32 x0 x13).f3)).bind fun t638 => (if t638 = true then (watchwordlaw18_StoreNewest.l0 k x0 x5 (wrap64 (x13 + 1)) x602000 x602001 x602002 x602003) else (some false))) else (some false)))) else (none)) else ((store_May.f k x5).bind fun t626 => (some t626))
end
def watchwordlaw18_StoreNewest.f (k : Nat) (l0 : List (S32)) (a1_0 : Int) (a1_1 : Int) (a1_2 : Int) (l1_3 : List (S56)) : Option (Bool) := (watchwordlaw18_awake.f k).bind fun t602 => (if t602 = true then ((store_With.f k l0 a1_0 a1_1 a1_2 l1_3).bind fun bt603 => ((watchwordlaw0_Num.f bt603.2.2).bind fun t608 => (if t608 = 0 then (if bt603.2.1 = true then ((store_With.f k bt603.1 a1_0 a1_1 a1_2 l1_3).bind fun bt610 => ((store_Find.f k bt603.1 a1_0).bind fun bt615 => ((watchwordlaw0_Num.f bt610.2.2).bind fun t623 => (if t623 = 0 then (if bt610.2.1 = true then (watchwordlaw18_StoreNewest.j0 k l0 bt603.1 true a1_0 a1_1 a1_2 l1_3) else ((watchwordlaw0_SameLsas.f k bt603.1 bt610.1).bind fun t624 => (if t624 = true then (if (bt615.2.2.2.2 != (decide (a1_2 < 60))) = true then (watchwordlaw18_StoreNewest.j0 k l0 bt603.1 true a1_0 a1_1 a1_2 l1_3) else (if bt615.2.2.2.2 = true then ((watchwordlaw0_SameLsa.f k bt615.1 bt615.2.1 bt615.2.2.1 bt615.2.2.2.1 a1_0 a1_1 a1_2 l1_3).bind fun t625 => (watchwordlaw18_StoreNewest.j0 k l0 bt603.1 (!t625) a1_0 a1_1 a1_2 l1_3)) else (watchwordlaw18_StoreNewest.j0 k l0 bt603.1 false a1_0 a1_1 a1_2 l1_3))) else (watchwordlaw18_StoreNewest.j0 k l0 bt603.1 true a1_0 a1_1 a1_2 l1_3)))) else (watchwordlaw18_StoreNewest.j0 k l0 bt603.1 true a1_0 a1_1 a1_2 l1_3))))) else ((watchwordlaw0_SameLsas.f k l0 bt603.1).bind fun t609 => (some t609))) else (if (bt603.1.length : Int) = 0 then (some (!bt603.2.1)) else (some false))))) else (some false))
theorem watchwordlaw18_StoreNewest.mono_l : ∀ k, (∀ y0 y1 y2 y3 y4 y5 y6, LeO (watchwordlaw18_StoreNewest.j0 k y0 y1 y2 y3 y4 y5 y6) (watchwordlaw18_StoreNewest.j0 (k + 1) y0 y1 y2 y3 y4 y5 y6)) ∧ (∀ y0 y1 y2 y3 y4 y5 y6, LeO (watchwordlaw18_StoreNewest.l0 k y0 y1 y2 y3 y4 y5 y6) (watchwordlaw18_StoreNewest.l0 (k + 1) y0 y1 y2 y3 y4 y5 y6))
 | 0 => ⟨fun _ _ _ _ _ _ _ r h => by simp [watchwordlaw18_StoreNewest.j0] at h, fun _ _ _ _ _ _ _ r h => by simp [watchwordlaw18_StoreNewest.l0] at h⟩
 | k + 1 => by
  obtain ⟨ih0, ih1⟩ := watchwordlaw18_StoreNewest.mono_l k
  refine ⟨?_, ?_⟩
  ·intro y0 y1 y2 y3 y4 y5 y6
   unfold watchwordlaw18_StoreNewest.j0
   repeat' first
   | (with_reducible exact ih0 _ _ _ _ _ _ _)
   | (with_reducible exact ih1 _ _ _ _ _ _ _)
   | (with_reducible exact store_Find.mono _ _ _)
   | (with_reducible exact store_May.mono _ _)
   | (with_reducible exact store_With.mono _ _ _ _ _ _)
   | (with_reducible exact watchwordlaw0_SameLsa.mono _ _ _ _ _ _ _ _ _)
   | (with_reducible exact watchwordlaw0_SameLsas.mono _ _ _)
   | (with_reducible exact watchwordlaw18_awake.mono _)
   | (with_reducible exact LeO.refl _)
   | (with_reducible exact LeO.none _)
   | (with_reducible refine LeO.ite ?_ ?_)
   | (with_reducible refine LeO.bind ?_ (fun _ => ?_))
   | exact ih0 _ _ _ _ _ _ _
   | exact ih1 _ _ _ _ _ _ _
   | exact store_Find.mono _ _ _
   | exact store_May.mono _ _
   | exact store_With.mono _ _ _ _ _ _
   | exact watchwordlaw0_SameLsa.mono _ _ _ _ _ _ _ _ _
   | exact watchwordlaw0_SameLsas.mono _ _ _
   | exact watchwordlaw18_awake.mono _
   | exact LeO.none _
   | refine LeO.ite ?_ ?_
   | refine LeO.bind ?_ (fun _ => ?_)
  ·intro y0 y1 y2 y3 y4 y5 y6
   unfold watchwordlaw18_StoreNewest.l0
   repeat' first
   | (with_reducible exact ih0 _ _ _ _ _ _ _)
   | (with_reducible exact ih1 _ _ _ _ _ _ _)
   | (with_reducible exact store_Find.mono _ _ _)
   | (with_reducible exact store_May.mono _ _)
   | (with_reducible exact store_With.mono _ _ _ _ _ _)
   | (with_reducible exact watchwordlaw0_SameLsa.mono _ _ _ _ _ _ _ _ _)
   | (with_reducible exact watchwordlaw0_SameLsas.mono _ _ _)
   | (with_reducible exact watchwordlaw18_awake.mono _)
   | (with_reducible exact LeO.refl _)
   | (with_reducible exact LeO.none _)
   | (with_reducible refine LeO.ite ?_ ?_)
   | (with_reducible refine LeO.bind ?_ (fun _ => ?_))
   | exact ih0 _ _ _ _ _ _ _
   | exact ih1 _ _ _ _ _ _ _
   | exact store_Find.mono _ _ _
   | exact store_May.mono _ _
   | exact store_With.mono _ _ _ _ _ _
   | exact watchwordlaw0_SameLsa.mono _ _ _ _ _ _ _ _ _
   | exact watchwordlaw0_SameLsas.mono _ _ _
   | exact watchwordlaw18_awake.mono _
   | exact LeO.none _
   | refine LeO.ite ?_ ?_
   | refine LeO.bind ?_ (fun _ => ?_)
theorem watchwordlaw18_StoreNewest.mono : ∀ a0 a1 a2 a3 a4 k, LeO (watchwordlaw18_StoreNewest.f k a0 a1 a2 a3 a4) (watchwordlaw18_StoreNewest.f (k + 1) a0 a1 a2 a3 a4) := by
 intro a0 a1 a2 a3 a4 k
 obtain ⟨ih0, ih1⟩ := watchwordlaw18_StoreNewest.mono_l k
 unfold watchwordlaw18_StoreNewest.f
 repeat' first
   | (with_reducible exact ih0 _ _ _ _ _ _ _)
   | (with_reducible exact ih1 _ _ _ _ _ _ _)
   | (with_reducible exact store_Find.mono _ _ _)
   | (with_reducible exact store_May.mono _ _)
   | (with_reducible exact store_With.mono _ _ _ _ _ _)
   | (with_reducible exact watchwordlaw0_SameLsa.mono _ _ _ _ _ _ _ _ _)
   | (with_reducible exact watchwordlaw0_SameLsas.mono _ _ _)
   | (with_reducible exact watchwordlaw18_awake.mono _)
   | (with_reducible exact LeO.refl _)
   | (with_reducible exact LeO.none _)
   | (with_reducible refine LeO.ite ?_ ?_)
   | (with_reducible refine LeO.bind ?_ (fun _ => ?_))
   | exact ih0 _ _ _ _ _ _ _
   | exact ih1 _ _ _ _ _ _ _
   | exact store_Find.mono _ _ _
   | exact store_May.mono _ _
   | exact store_With.mono _ _ _ _ _ _
   | exact watchwordlaw0_SameLsa.mono _ _ _ _ _ _ _ _ _
   | exact watchwordlaw0_SameLsas.mono _ _ _
   | exact watchwordlaw18_awake.mono _
   | exact LeO.none _
   | refine LeO.ite ?_ ?_
   | refine LeO.bind ?_ (fun _ => ?_)
def watchwordlaw18_StoreNewest.T16 : Bool × List (List Nat × List Nat) := (true, [([], []), ([], []), ([0, 1], [0, 1]), ([2], [2]), ([3], [3]), ([], []), ([5], [5]), ([4, 6], [4, 6]), ([7], [7]), ([8], [8]), ([9, 8], [8, 9]), ([10, 8, 8], [8, 10]), ([11], [11]), ([11], [11]), ([11], [11]), ([13, 14, 11], [11, 13, 14]), ([15, 11], [11, 15]), ([12, 16, 11, 11], [11, 12, 16]), ([17, 11], [11, 17]), ([11, 18, 8], [8, 11, 18]), ([8, 19], [8, 19])])
def watchwordlaw18_StoreNewest.B16 : List Nat := [0, 0, 3, 7, 15, 0, 32, 127, 255, 511, 1023, 2047, 4095, 4095, 4095, 28671, 61439, 131071, 262143, 524287, 1048575]
theorem watchwordlaw18_StoreNewest.tab16 : rtab .any (opsOf Try.f6 16) = watchwordlaw18_StoreNewest.T16 := by kernel_rfl
theorem watchwordlaw18_StoreNewest.bits16 : waitsOk watchwordlaw18_StoreNewest.T16.2 watchwordlaw18_StoreNewest.B16 = true := by kernel_rfl
set_option maxHeartbeats 8000000 in
set_option maxRecDepth 100000 in
theorem watchwordlaw18_StoreNewest.calls (k : Nat) (A0 : Option Addr) (c0 : Nat) (l0 : List (S32)) (a1_0 : Int) (a1_1 : Int) (a1_2 : Int) (A1_3 : Option Addr) (c1_3 : Nat) (l1_3 : List (S56)) (r : Bool) (w : World) (hr0 : Kd.C k32 w A0 l0.length l0) (hc0 : l0.length ≤ c0) (hr1_3 : Kd.C k56 w A1_3 l1_3.length l1_3) (hc1_3 : l1_3.length ≤ c1_3) (h : watchwordlaw18_StoreNewest.f k l0 a1_0 a1_1 a1_2 l1_3 = some r) (hT : r = true) :
  Calls Try.prog 6 #[.slice A0 l0.length c0, .agg #[.int .i64 a1_0, .int .i64 a1_1, .int .i64 a1_2, .slice A1_3 l1_3.length c1_3]] w fun e w' => e = .returned (.bool r) ∧ Below w.heap.size w w' := by
 have hu32 := Try.underlying32
 have HR0 := Aside0.mk hr0
 have HC0 := Aside0.mk hc0
 clear hr0 hc0
 have HR1_3 := Aside0.mk hr1_3
 have HC1_3 := Aside0.mk hc1_3
 clear hr1_3 hc1_3
 have HB := Aside0.mk (Below.refl w.heap.size w)
 have HT := Aside0.mk hT
 clear hT
 have H : ((watchwordlaw18_awake.f k).bind fun t602 => (if t602 = true then ((store_With.f k l0 a1_0 a1_1 a1_2 l1_3).bind fun bt603 => ((watchwordlaw0_Num.f bt603.2.2).bind fun t608 => (if t608 = 0 then (if bt603.2.1 = true then ((store_With.f k bt603.1 a1_0 a1_1 a1_2 l1_3).bind fun bt610 => ((store_Find.f k bt603.1 a1_0).bind fun bt615 => ((watchwordlaw0_Num.f bt610.2.2).bind fun t623 => (if t623 = 0 then (if bt610.2.1 = true then (watchwordlaw18_StoreNewest.j0 k l0 bt603.1 true a1_0 a1_1 a1_2 l1_3) else ((watchwordlaw0_SameLsas.f k bt603.1 bt610.1).bind fun t624 => (if t624 = true then (if (bt615.2.2.2.2 != (decide (a1_2 < 60))) = true then (watchwordlaw18_StoreNewest.j0 k l0 bt603.1 true a1_0 a1_1 a1_2 l1_3) else (if bt615.2.2.2.2 = true then ((watchwordlaw0_SameLsa.f k bt615.1 bt615.2.1 bt615.2.2.1 bt615.2.2.2.1 a1_0 a1_1 a1_2 l1_3).bind fun t625 => (watchwordlaw18_StoreNewest.j0 k l0 bt603.1 (!t625) a1_0 a1_1 a1_2 l1_3)) else (watchwordlaw18_StoreNewest.j0 k l0 bt603.1 false a1_0 a1_1 a1_2 l1_3))) else (watchwordlaw18_StoreNewest.j0 k l0 bt603.1 true a1_0 a1_1 a1_2 l1_3)))) else (watchwordlaw18_StoreNewest.j0 k l0 bt603.1 true a1_0 a1_1 a1_2 l1_3))))) else ((watchwordlaw0_SameLsas.f k l0 bt603.1).bind fun t609 => (some t609))) else (if (bt603.1.length : Int) = 0 then (some (!bt603.2.1)) else (some false))))) else (some false))) = some r := h
 clear h
 replace H := Option.bind_eq_some_iff.mp H
 obtain ⟨t602, A30, H⟩ := H
 replace H : (if t602 = true then ((store_With.f k l0 a1_0 a1_1 a1_2 l1_3).bind fun bt603 => ((watchwordlaw0_Num.f bt603.2.2).bind fun t608 => (if t608 = 0 then (if bt603.2.1 = true then ((store_With.f k bt603.1 a1_0 a1_1 a1_2 l1_3).bind fun bt610 => ((store_Find.f k bt603.1 a1_0).bind fun bt615 => ((watchwordlaw0_Num.f bt610.2.2).bind fun t623 => (if t623 = 0 then (if bt610.2.1 = true then (watchwordlaw18_StoreNewest.j0 k l0 bt603.1 true a1_0 a1_1 a1_2 l1_3) else ((watchwordlaw0_SameLsas.f k bt603.1 bt610.1).bind fun t624 => (if t624 = true then (if (bt615.2.2.2.2 != (decide (a1_2 < 60))) = true then (watchwordlaw18_StoreNewest.j0 k l0 bt603.1 true a1_0 a1_1 a1_2 l1_3) else (if bt615.2.2.2.2 = true then ((watchwordlaw0_SameLsa.f k bt615.1 bt615.2.1 bt615.2.2.1 bt615.2.2.2.1 a1_0 a1_1 a1_2 l1_3).bind fun t625 => (watchwordlaw18_StoreNewest.j0 k l0 bt603.1 (!t625) a1_0 a1_1 a1_2 l1_3)) else (watchwordlaw18_StoreNewest.j0 k l0 bt603.1 false a1_0 a1_1 a1_2 l1_3))) else (watchwordlaw18_StoreNewest.j0 k l0 bt603.1 true a1_0 a1_1 a1_2 l1_3)))) else (watchwordlaw18_StoreNewest.j0 k l0 bt603.1 true a1_0 a1_1 a1_2 l1_3))))) else ((watchwordlaw0_SameLsas.f k l0 bt603.1).bind fun t609 => (some t609))) else (if (bt603.1.length : Int) = 0 then (some (!bt603.2.1)) else (some false))))) else (some false)) = some r := H
 have A3 := Aside0.mk A30
 clear A30
 by_cases c4 : t602 = true
 ·subst c4
  have H1 : ((store_With.f k l0 a1_0 a1_1 a1_2 l1_3).bind fun bt603 => ((watchwordlaw0_Num.f bt603.2.2).bind fun t608 => (if t608 = 0 then (if bt603.2.1 = true then ((store_With.f k bt603.1 a1_0 a1_1 a1_2 l1_3).bind fun bt610 => ((store_Find.f k bt603.1 a1_0).bind fun bt615 => ((watchwordlaw0_Num.f bt610.2.2).bind fun t623 => (if t623 = 0 then (if bt610.2.1 = true then (watchwordlaw18_StoreNewest.j0 k l0 bt603.1 true a1_0 a1_1 a1_2 l1_3) else ((watchwordlaw0_SameLsas.f k bt603.1 bt610.1).bind fun t624 => (if t624 = true then (if (bt615.2.2.2.2 != (decide (a1_2 < 60))) = true then (watchwordlaw18_StoreNewest.j0 k l0 bt603.1 true a1_0 a1_1 a1_2 l1_3) else (if bt615.2.2.2.2 = true then ((watchwordlaw0_SameLsa.f k bt615.1 bt615.2.1 bt615.2.2.1 bt615.2.2.2.1 a1_0 a1_1 a1_2 l1_3).bind fun t625 => (watchwordlaw18_StoreNewest.j0 k l0 bt603.1 (!t625) a1_0 a1_1 a1_2 l1_3)) else (watchwordlaw18_StoreNewest.j0 k l0 bt603.1 false a1_0 a1_1 a1_2 l1_3))) else (watchwordlaw18_StoreNewest.j0 k l0 bt603.1 true a1_0 a1_1 a1_2 l1_3)))) else (watchwordlaw18_StoreNewest.j0 k l0 bt603.1 true a1_0 a1_1 a1_2 l1_3))))) else ((watchwordlaw0_SameLsas.f k l0 bt603.1).bind fun t609 => (some t609))) else (if (bt603.1.length : Int) = 0 then (some (!bt603.2.1)) else (some false))))) = some r := by rw [if_pos rfl] at H; exact H
  clear H
  have H := H1
  clear H1
  replace H := Option.bind_eq_some_iff.mp H
  obtain ⟨⟨t603, t606, t607⟩, A50, H⟩ := H
  replace H : ((watchwordlaw0_Num.f t607).bind fun t608 => (if t608 = 0 then (if t606 = true then ((store_With.f k t603 a1_0 a1_1 a1_2 l1_3).bind fun bt610 => ((store_Find.f k t603 a1_0).bind fun bt615 => ((watchwordlaw0_Num.f bt610.2.2).bind fun t623 => (if t623 = 0 then (if bt610.2.1 = true then (watchwordlaw18_StoreNewest.j0 k l0 t603 true a1_0 a1_1 a1_2 l1_3) else ((watchwordlaw0_SameLsas.f k t603 bt610.1).bind fun t624 => (if t624 = true then (if (bt615.2.2.2.2 != (decide (a1_2 < 60))) = true then (watchwordlaw18_StoreNewest.j0 k l0 t603 true a1_0 a1_1 a1_2 l1_3) else (if bt615.2.2.2.2 = true then ((watchwordlaw0_SameLsa.f k bt615.1 bt615.2.1 bt615.2.2.1 bt615.2.2.2.1 a1_0 a1_1 a1_2 l1_3).bind fun t625 => (watchwordlaw18_StoreNewest.j0 k l0 t603 (!t625) a1_0 a1_1 a1_2 l1_3)) else (watchwordlaw18_StoreNewest.j0 k l0 t603 false a1_0 a1_1 a1_2 l1_3))) else (watchwordlaw18_StoreNewest.j0 k l0 t603 true a1_0 a1_1 a1_2 l1_3)))) else (watchwordlaw18_StoreNewest.j0 k l0 t603 true a1_0 a1_1 a1_2 l1_3))))) else ((watchwordlaw0_SameLsas.f k l0 t603).bind fun t609 => (some t609))) else (if (t603.length : Int) = 0 then (some (!t606)) else (some false)))) = some r := H
  have A5 := Aside0.mk A50
  clear A50
  replace H := Option.bind_eq_some_iff.mp H
  obtain ⟨t608, A60, H⟩ := H
  replace H : (if t608 = 0 then (if t606 = true then ((store_With.f k t603 a1_0 a1_1 a1_2 l1_3).bind fun bt610 => ((store_Find.f k t603 a1_0).bind fun bt615 => ((watchwordlaw0_Num.f bt610.2.2).bind fun t623 => (if t623 = 0 then (if bt610.2.1 = true then (watchwordlaw18_StoreNewest.j0 k l0 t603 true a1_0 a1_1 a1_2 l1_3) else ((watchwordlaw0_SameLsas.f k t603 bt610.1).bind fun t624 => (if t624 = true then (if (bt615.2.2.2.2 != (decide (a1_2 < 60))) = true then (watchwordlaw18_StoreNewest.j0 k l0 t603 true a1_0 a1_1 a1_2 l1_3) else (if bt615.2.2.2.2 = true then ((watchwordlaw0_SameLsa.f k bt615.1 bt615.2.1 bt615.2.2.1 bt615.2.2.2.1 a1_0 a1_1 a1_2 l1_3).bind fun t625 => (watchwordlaw18_StoreNewest.j0 k l0 t603 (!t625) a1_0 a1_1 a1_2 l1_3)) else (watchwordlaw18_StoreNewest.j0 k l0 t603 false a1_0 a1_1 a1_2 l1_3))) else (watchwordlaw18_StoreNewest.j0 k l0 t603 true a1_0 a1_1 a1_2 l1_3)))) else (watchwordlaw18_StoreNewest.j0 k l0 t603 true a1_0 a1_1 a1_2 l1_3))))) else ((watchwordlaw0_SameLsas.f k l0 t603).bind fun t609 => (some t609))) else (if (t603.length : Int) = 0 then (some (!t606)) else (some false))) = some r := H
  have A6 := Aside0.mk A60
  clear A60
  by_cases c7 : t608 = 0
  ·rw [if_pos c7] at H
   have c7b0 : (t608 == 0) = true := beq_iff_eq.mpr c7
   have c7b1 : (t608 != 0) = false := bne_eq_false_iff_eq.mpr c7
   clear c7
   by_cases c8 : t606 = true
   ·subst c8
    have H1 : ((store_With.f k t603 a1_0 a1_1 a1_2 l1_3).bind fun bt610 => ((store_Find.f k t603 a1_0).bind fun bt615 => ((watchwordlaw0_Num.f bt610.2.2).bind fun t623 => (if t623 = 0 then (if bt610.2.1 = true then (watchwordlaw18_StoreNewest.j0 k l0 t603 true a1_0 a1_1 a1_2 l1_3) else ((watchwordlaw0_SameLsas.f k t603 bt610.1).bind fun t624 => (if t624 = true then (if (bt615.2.2.2.2 != (decide (a1_2 < 60))) = true then (watchwordlaw18_StoreNewest.j0 k l0 t603 true a1_0 a1_1 a1_2 l1_3) else (if bt615.2.2.2.2 = true then ((watchwordlaw0_SameLsa.f k bt615.1 bt615.2.1 bt615.2.2.1 bt615.2.2.2.1 a1_0 a1_1 a1_2 l1_3).bind fun t625 => (watchwordlaw18_StoreNewest.j0 k l0 t603 (!t625) a1_0 a1_1 a1_2 l1_3)) else (watchwordlaw18_StoreNewest.j0 k l0 t603 false a1_0 a1_1 a1_2 l1_3))) else (watchwordlaw18_StoreNewest.j0 k l0 t603 true a1_0 a1_1 a1_2 l1_3)))) else (watchwordlaw18_StoreNewest.j0 k l0 t603 true a1_0 a1_1 a1_2 l1_3))))) = some r := by rw [if_pos rfl] at H; exact H
    clear H
    have H := H1
    clear H1
    replace H := Option.bind_eq_some_iff.mp H
    obtain ⟨⟨t610, t613, t614⟩, A90, H⟩ := H
    replace H : ((store_Find.f k t603 a1_0).bind fun bt615 => ((watchwordlaw0_Num.f t614).bind fun t623 => (if t623 = 0 then (if t613 = true then (watchwordlaw18_StoreNewest.j0 k l0 t603 true a1_0 a1_1 a1_2 l1_3) else ((watchwordlaw0_SameLsas.f k t603 t610).bind fun t624 => (if t624 = true then (if (bt615.2.2.2.2 != (decide (a1_2 < 60))) = true then (watchwordlaw18_StoreNewest.j0 k l0 t603 true a1_0 a1_1 a1_2 l1_3) else (if bt615.2.2.2.2 = true then ((watchwordlaw0_SameLsa.f k bt615.1 bt615.2.1 bt615.2.2.1 bt615.2.2.2.1 a1_0 a1_1 a1_2 l1_3).bind fun t625 => (watchwordlaw18_StoreNewest.j0 k l0 t603 (!t625) a1_0 a1_1 a1_2 l1_3)) else (watchwordlaw18_StoreNewest.j0 k l0 t603 false a1_0 a1_1 a1_2 l1_3))) else (watchwordlaw18_StoreNewest.j0 k l0 t603 true a1_0 a1_1 a1_2 l1_3)))) else (watchwordlaw18_StoreNewest.j0 k l0 t603 true a1_0 a1_1 a1_2 l1_3)))) = some r := H
    have A9 := Aside0.mk A90
    clear A90
    replace H := Option.bind_eq_some_iff.mp H
    obtain ⟨⟨t615, t616, t617, t618, t621⟩, A100, H⟩ := H
    replace H : ((watchwordlaw0_Num.f t614).bind fun t623 => (if t623 = 0 then (if t613 = true then (watchwordlaw18_StoreNewest.j0 k l0 t603 true a1_0 a1_1 a1_2 l1_3) else ((watchwordlaw0_SameLsas.f k t603 t610).bind fun t624 => (if t624 = true then (if (t621 != (decide (a1_2 < 60))) = true then (watchwordlaw18_StoreNewest.j0 k l0 t603 true a1_0 a1_1 a1_2 l1_3) else (if t621 = true then ((watchwordlaw0_SameLsa.f k t615 t616 t617 t618 a1_0 a1_1 a1_2 l1_3).bind fun t625 => (watchwordlaw18_StoreNewest.j0 k l0 t603 (!t625) a1_0 a1_1 a1_2 l1_3)) else (watchwordlaw18_StoreNewest.j0 k l0 t603 false a1_0 a1_1 a1_2 l1_3))) else (watchwordlaw18_StoreNewest.j0 k l0 t603 true a1_0 a1_1 a1_2 l1_3)))) else (watchwordlaw18_StoreNewest.j0 k l0 t603 true a1_0 a1_1 a1_2 l1_3))) = some r := H
    have A10 := Aside0.mk A100
    clear A100
    have HC11 := Aside0.mk H
    clear H
    go_enter Try.func6, Try.ntmps6
    go_upto_region 10 with (first | ((with_reducible refine gate_dst (N := 3) rfl ?_); refine box_event ?hg (N := 3) ?hd (cs := #[.int .i64 a1_0, .int .i64 a1_1, .int .i64 a1_2, .slice A1_3 l1_3.length c1_3]) (t := 32) ?hr ?_; (case hd => rfl); (case hg => rfl); (case hr => first | (go_simp; done) | (go_simp; rfl)); intro gb601 hg w12 hbox hb; have n0_ := Aside0.mk (below_step (by repeat (first | (with_reducible first | exact HB.out | apply below_alloc | apply pw_below_drewN | apply below_drew1) | exact HB.out)) hb); have n1_ := Aside0.mk (hbox); have n2_ := Aside0.mk ((by rw [hg]; exact (below_size (by repeat (first | (with_reducible first | exact HB.out | apply below_alloc | apply pw_below_drewN | apply below_drew1) | exact HB.out))) : w.heap.size ≤ gb601)); have n3_ := Aside0.mk ((by rw [hg]; exact (below_size (by repeat (first | (with_reducible first | exact HB.out | apply below_alloc | apply pw_below_drewN | apply below_drew1) | exact HB.out))) : w.heap.size ≤ gb601)); clear HB; have HB := n0_; have BK601 := n1_; have GW601 := n2_; have GE601 := n3_; clear n0_ n1_ n2_ n3_; clear hb hbox hg) | ((with_reducible refine gate_callee (f := 9) rfl ?_); refine goesL_ (some 16) rfl rfl Try.func9 (by kernel_rfl) rfl #[] rfl (by (try simp only [List.map_toArray, List.map_cons, List.map_nil]); first | done | rfl | (simp only [List.length_drop, List.length_take]; rfl)) ?_; (with_reducible refine (watchwordlaw18_awake.calls k  true _ A3.out (by first | rfl | exact HT.out)).mono ?_); rintro e w13 ⟨rfl, hb⟩; refine ⟨_, rfl, ?_⟩; have n0_ := Aside0.mk (blk_below (upB106 BK601.out) hb); have n1_ := Aside0.mk (below_step (by repeat (first | (with_reducible first | exact HB.out | apply below_alloc | apply pw_below_drewN | apply below_drew1 | refine below_set ?_ GE601.out) | exact HB.out)) hb); clear BK601; clear HB; have BK601 := n0_; have HB := n1_; clear n0_ n1_; (try clear hb); (try clear hb2); (try clear hk); (try clear hi); have hcz14_0 : w13.cell? ⟨gb601, 0, none⟩ = some (.int .i64 a1_0) := (blk_cell BK601.out 0).trans rfl; have hcz14_1 : w13.cell? ⟨gb601, 1, none⟩ = some (.int .i64 a1_1) := (blk_cell BK601.out 1).trans rfl; have hcz14_2 : w13.cell? ⟨gb601, 2, none⟩ = some (.int .i64 a1_2) := (blk_cell BK601.out 2).trans rfl; have hcz14_3 : w13.cell? ⟨gb601, 3, none⟩ = some (.slice A1_3 l1_3.length c1_3) := (blk_cell BK601.out 3).trans rfl; have hfz14_0 := blk_frozen BK601.out 0; have hfz14_1 := blk_frozen BK601.out 1; have hfz14_2 := blk_frozen BK601.out 2; have hfz14_3 := blk_frozen BK601.out 3) | ((with_reducible refine gate_callee (f := 10) rfl ?_); refine goesL_ (some 21) rfl rfl Try.func10 (by kernel_rfl) rfl #[.slice A0 l0.length c0, .agg #[.int .i64 a1_0, .int .i64 a1_1, .int .i64 a1_2, .slice A1_3 l1_3.length c1_3]] rfl (by (try simp only [List.map_toArray, List.map_cons, List.map_nil]); first | done | rfl | (simp only [List.length_drop, List.length_take]; rfl)) ?_; (with_reducible refine (store_With.calls k (fun k_ => k_ < w.heap.size) _ _ l0 a1_0 a1_1 a1_2 _ _ l1_3 t603 true t607 _ ?side1 ?side2 ?side3 A5.out).mono ?_); (case side1 => exact Kd.V_mk HC0.out (Kd.F_below (Kd.C_F k32_heap HR0.out) (by repeat (first | (with_reducible first | exact HB.out | apply below_alloc | apply pw_below_drewN | apply below_drew1 | refine below_set ?_ GE601.out) | exact HB.out)))); (case side2 => repeat (first | exact (Kd.C_below HR1_3.out HB.out) | (with_reducible refine Kd.C_alloc ?_ _) | (with_reducible refine Kd.C_drewN ?_ _) | (with_reducible refine Kd.C_drew ?_))); (case side3 => exact HC1_3.out); rintro e w15 ⟨v604, rfl, ho0, hb⟩; refine ⟨_, rfl, ?_⟩; have n0_ := Aside0.mk (Kd.N_lower (Kd.N_mono (ok' := fun k_ => k_ ≠ gb601) ho0 (fun k_ hk_ => Or.elim hk_ (fun hs_ => fun e_ => Nat.not_le.2 hs_ (by rw [e_]; exact GW601.out)) (fun hn_ => (Kd.freshB (g := gb601) (o := .cells #[.int .i64 a1_0, .int .i64 a1_1, .int .i64 a1_2, .slice A1_3 l1_3.length c1_3] 32 (0, 0)) (upB106 BK601.out) k_ hn_)))) (below_size (by repeat (first | (with_reducible first | exact HB.out | apply below_alloc | apply pw_below_drewN | apply below_drew1 | refine below_set ?_ GE601.out) | exact HB.out)))); have n1_ := Aside0.mk (blk_below (upB106 BK601.out) hb); have n2_ := Aside0.mk (below_step (by repeat (first | (with_reducible first | exact HB.out | apply below_alloc | apply pw_below_drewN | apply below_drew1 | refine below_set ?_ GE601.out) | exact HB.out)) hb); clear BK601; clear HB; have HO605 := n0_; have BK601 := n1_; have HB := n2_; clear n0_ n1_ n2_; (try clear hb); (try clear hb2); (try clear hk); (try clear hi); (try clear ho0)) | ((with_reducible refine gate_callee (f := 11) rfl ?_); refine goesL_ (some 26) rfl rfl Try.func11 (by kernel_rfl) rfl #[.int .i64 t607] rfl (by (try simp only [List.map_toArray, List.map_cons, List.map_nil]); first | done | rfl | (simp only [List.length_drop, List.length_take]; rfl)) ?_; (with_reducible refine (watchwordlaw0_Num.calls t607 t608 _ A6.out).mono ?_); rintro e w' ⟨rfl, ⟨nd, rfl⟩⟩; refine ⟨_, rfl, ?_⟩; (try (rw [drewN_self w15]; generalize hq_ : World.drewN w15 _ = w15; have n0_ : Aside0 (Kd.N k32 32 w15 w.heap.size (fun k_ => k_ ≠ gb601) v604 t603) := ⟨by rw [← hq_]; exact (by (with_reducible repeat (first | apply Kd.N_alloc | apply Kd.N_drewN | apply Kd.N_drew)); exact HO605.out)⟩; have n1_ : Aside0 (w15.heap[gb601]? = some (.cells #[.int .i64 a1_0, .int .i64 a1_1, .int .i64 a1_2, .slice A1_3 l1_3.length c1_3] 32 (0, 0))) := ⟨by rw [← hq_]; exact (upB106 BK601.out)⟩; have n2_ : Aside0 (Below w.heap.size w w15) := ⟨by rw [← hq_]; exact (by repeat (first | (with_reducible first | exact HB.out | apply below_alloc | apply pw_below_drewN | apply below_drew1 | refine below_set ?_ GE601.out) | exact HB.out))⟩; clear HO605 BK601 HB hq_; have HO605 := n0_; have BK601 := n1_; have HB := n2_; clear n0_ n1_ n2_)); have hcz16_0 : w15.cell? ⟨gb601, 0, none⟩ = some (.int .i64 a1_0) := (blk_cell BK601.out 0).trans rfl; have hcz16_1 : w15.cell? ⟨gb601, 1, none⟩ = some (.int .i64 a1_1) := (blk_cell BK601.out 1).trans rfl; have hcz16_2 : w15.cell? ⟨gb601, 2, none⟩ = some (.int .i64 a1_2) := (blk_cell BK601.out 2).trans rfl; have hcz16_3 : w15.cell? ⟨gb601, 3, none⟩ = some (.slice A1_3 l1_3.length c1_3) := (blk_cell BK601.out 3).trans rfl; have hfz16_0 := blk_frozen BK601.out 0; have hfz16_1 := blk_frozen BK601.out 1; have hfz16_2 := blk_frozen BK601.out 2; have hfz16_3 := blk_frozen BK601.out 3; obtain ⟨Ao17, co17, eo17⟩ := Kd.N_slice HO605.out; subst eo17) | ((with_reducible refine gate_callee (f := 10) rfl ?_); refine goesL_ (some 43) rfl rfl Try.func10 (by kernel_rfl) rfl #[.slice Ao17 t603.length co17, .agg #[.int .i64 a1_0, .int .i64 a1_1, .int .i64 a1_2, .slice A1_3 l1_3.length c1_3]] rfl (by (try simp only [List.map_toArray, List.map_cons, List.map_nil]); first | done | rfl | (simp only [List.length_drop, List.length_take]; rfl)) ?_; (with_reducible refine (store_With.calls k (fun k_ => k_ ≠ gb601) _ _ t603 a1_0 a1_1 a1_2 _ _ l1_3 t610 t613 t614 _ ?side1 ?side2 ?side3 A9.out).mono ?_); (case side1 => exact Kd.N_V (HO605.out)); (case side2 => repeat (first | exact (Kd.C_below HR1_3.out HB.out) | (with_reducible refine Kd.C_alloc ?_ _) | (with_reducible refine Kd.C_drewN ?_ _) | (with_reducible refine Kd.C_drew ?_))); (case side3 => exact HC1_3.out); rintro e w18 ⟨v611, rfl, ho0, hb⟩; refine ⟨_, rfl, ?_⟩; have n0_ := Aside0.mk (Kd.N_elder' (by (with_reducible repeat (first | apply Kd.N_alloc | apply Kd.N_drewN | apply Kd.N_drew)); exact HO605.out) (Kd.N_base ho0) hb); have n1_ := Aside0.mk (Kd.N_lower (Kd.N_mono (ok' := fun k_ => k_ ≠ gb601) ho0 (fun k_ hk_ => Or.elim hk_ (fun hs_ => hs_) (fun hn_ => (Kd.freshB (g := gb601) (o := .cells #[.int .i64 a1_0, .int .i64 a1_1, .int .i64 a1_2, .slice A1_3 l1_3.length c1_3] 32 (0, 0)) (upB106 BK601.out) k_ hn_)))) (below_size (by repeat (first | (with_reducible first | exact HB.out | apply below_alloc | apply pw_below_drewN | apply below_drew1 | refine below_set ?_ GE601.out) | exact HB.out)))); have n2_ := Aside0.mk (blk_below (upB106 BK601.out) hb); have n3_ := Aside0.mk (below_step (by repeat (first | (with_reducible first | exact HB.out | apply below_alloc | apply pw_below_drewN | apply below_drew1 | refine below_set ?_ GE601.out) | exact HB.out)) hb); clear HO605; clear BK601; clear HB; have HO605 := n0_; have HO612 := n1_; have BK601 := n2_; have HB := n3_; clear n0_ n1_ n2_ n3_; (try clear hb); (try clear hb2); (try clear hk); (try clear hi); (try clear ho0); have hcz19_0 : w18.cell? ⟨gb601, 0, none⟩ = some (.int .i64 a1_0) := (blk_cell BK601.out 0).trans rfl; have hcz19_1 : w18.cell? ⟨gb601, 1, none⟩ = some (.int .i64 a1_1) := (blk_cell BK601.out 1).trans rfl; have hcz19_2 : w18.cell? ⟨gb601, 2, none⟩ = some (.int .i64 a1_2) := (blk_cell BK601.out 2).trans rfl; have hcz19_3 : w18.cell? ⟨gb601, 3, none⟩ = some (.slice A1_3 l1_3.length c1_3) := (blk_cell BK601.out 3).trans rfl; have hfz19_0 := blk_frozen BK601.out 0; have hfz19_1 := blk_frozen BK601.out 1; have hfz19_2 := blk_frozen BK601.out 2; have hfz19_3 := blk_frozen BK601.out 3) | ((with_reducible refine gate_callee (f := 12) rfl ?_); refine goesL_ (some 51) rfl rfl Try.func12 (by kernel_rfl) rfl #[.slice Ao17 t603.length co17, .int .i64 a1_0] rfl (by (try simp only [List.map_toArray, List.map_cons, List.map_nil]); first | done | rfl | (simp only [List.length_drop, List.length_take]; rfl)) ?_; (with_reducible refine (store_Find.calls k _ _ t603 a1_0 t615 t616 t617 t618 t621 _ ?side1 ?side2 A10.out).mono ?_); (case side1 => repeat (first | exact (Kd.N_reads' HO605.out).2.2 | (with_reducible refine Kd.C_alloc ?_ _) | (with_reducible refine Kd.C_drewN ?_ _) | (with_reducible refine Kd.C_drew ?_))); (case side2 => exact (Kd.N_reads' HO605.out).2.1); rintro e w20 ⟨v619, rfl, ho0, hb⟩; refine ⟨_, rfl, ?_⟩; have n0_ := Aside0.mk (Kd.N_elder' (by (with_reducible repeat (first | apply Kd.N_alloc | apply Kd.N_drewN | apply Kd.N_drew)); exact HO605.out) (Kd.R_base ho0) hb); have n1_ := Aside0.mk (Kd.N_elder' (by (with_reducible repeat (first | apply Kd.N_alloc | apply Kd.N_drewN | apply Kd.N_drew)); exact HO612.out) (Kd.R_base ho0) hb); have n2_ := Aside0.mk (Kd.R_lower ho0 (below_size (by repeat (first | (with_reducible first | exact HB.out | apply below_alloc | apply pw_below_drewN | apply below_drew1 | refine below_set ?_ GE601.out) | exact HB.out)))); have n3_ := Aside0.mk (blk_below (upB106 BK601.out) hb); have n4_ := Aside0.mk (below_step (by repeat (first | (with_reducible first | exact HB.out | apply below_alloc | apply pw_below_drewN | apply below_drew1 | refine below_set ?_ GE601.out) | exact HB.out)) hb); clear HO605; clear HO612; clear BK601; clear HB; have HO605 := n0_; have HO612 := n1_; have HO620 := n2_; have BK601 := n3_; have HB := n4_; clear n0_ n1_ n2_ n3_ n4_; (try clear hb); (try clear hb2); (try clear hk); (try clear hi); (try clear ho0)) | ((with_reducible refine gate_dst (N := 11) rfl ?_); refine box_event ?hg (N := 11) ?hd (cs := #[.int .i64 0, .int .i64 0, .int .i64 0, .slice none 0 0]) (t := 32) ?hr ?_; (case hd => rfl); (case hg => rfl); (case hr => first | (go_simp; done) | (go_simp; rfl)); intro gb622 hg w21 hbox hb; have n0_ := Aside0.mk (Kd.N_below (Kd.N_elderB (by (with_reducible repeat (first | apply Kd.N_alloc | apply Kd.N_drewN | apply Kd.N_drew)); exact HO605.out) gb622 (Nat.le_of_eq hg.symm)) hb); have n1_ := Aside0.mk (Kd.N_below (Kd.N_elderB (by (with_reducible repeat (first | apply Kd.N_alloc | apply Kd.N_drewN | apply Kd.N_drew)); exact HO612.out) gb622 (Nat.le_of_eq hg.symm)) hb); have n2_ := Aside0.mk (Kd.R_below (upR106 HO620.out) hb); have n3_ := Aside0.mk (blk_below (upB106 BK601.out) hb); have n4_ := Aside0.mk (below_step (by repeat (first | (with_reducible first | exact HB.out | apply below_alloc | apply pw_below_drewN | apply below_drew1 | refine below_set ?_ GE601.out) | exact HB.out)) hb); have n5_ := Aside0.mk (hbox); have n6_ := Aside0.mk ((by rw [hg]; exact (below_size (by repeat (first | (with_reducible first | exact HB.out | apply below_alloc | apply pw_below_drewN | apply below_drew1 | refine below_set ?_ GE601.out) | exact HB.out))) : w.heap.size ≤ gb622)); have n7_ := Aside0.mk ((by rw [hg]; exact (below_size (by repeat (first | (with_reducible first | exact HB.out | apply below_alloc | apply pw_below_drewN | apply below_drew1 | refine below_set ?_ GE601.out) | exact HB.out))) : w.heap.size ≤ gb622)); have n8_ := Aside0.mk ((by rw [hg]; exact Nat.ne_of_lt (blk_lt (g := gb601) (o := .cells #[.int .i64 a1_0, .int .i64 a1_1, .int .i64 a1_2, .slice A1_3 l1_3.length c1_3] 32 (0, 0)) (upB106 BK601.out)) : gb601 ≠ gb622)); have n9_ := Aside0.mk ((by rw [hg]; exact Nat.ne_of_gt (blk_lt (g := gb601) (o := .cells #[.int .i64 a1_0, .int .i64 a1_1, .int .i64 a1_2, .slice A1_3 l1_3.length c1_3] 32 (0, 0)) (upB106 BK601.out)) : gb622 ≠ gb601)); clear HO605; clear HO612; clear HO620; clear BK601; clear HB; have HO605 := n0_; have HO612 := n1_; have HO620 := n2_; have BK601 := n3_; have HB := n4_; have BK622 := n5_; have GW622 := n6_; have GE622 := n7_; have NB601_622 := n8_; have NB622_601 := n9_; clear n0_ n1_ n2_ n3_ n4_ n5_ n6_ n7_ n8_ n9_; clear hb hbox hg; have hnb22 := NB622_601.out; have hnc22 := NB601_622.out; have hcz23_0 : w21.cell? ⟨gb622, 0, none⟩ = some (.int .i64 0) := (blk_cell BK622.out 0).trans rfl; have hcz23_1 : w21.cell? ⟨gb622, 1, none⟩ = some (.int .i64 0) := (blk_cell BK622.out 1).trans rfl; have hcz23_2 : w21.cell? ⟨gb622, 2, none⟩ = some (.int .i64 0) := (blk_cell BK622.out 2).trans rfl; have hcz23_3 : w21.cell? ⟨gb622, 3, none⟩ = some (.slice none 0 0) := (blk_cell BK622.out 3).trans rfl; have hfz23_0 := blk_frozen BK622.out 0; have hfz23_1 := blk_frozen BK622.out 1; have hfz23_2 := blk_frozen BK622.out 2; have hfz23_3 := blk_frozen BK622.out 3; obtain ⟨Ao24, co24, eo24⟩ := Kd.R_slice HO620.out; subst eo24) | ((with_reducible refine gate_store (t := 32) (p := 11) rfl ?_); refine store_event (t := 32) (p := 11) (v := ?vo_w25) (w1 := ((((w21.setCell ⟨gb622, 0, none⟩ (.int .i64 t615)).setCell ⟨gb622, 1, none⟩ (.int .i64 t616)).setCell ⟨gb622, 2, none⟩ (.int .i64 t617)).setCell ⟨gb622, 3, none⟩ (.slice Ao24 t618.length co24))) ?hg ?ho ?hn ?hr ?_; (case ho => rfl); (case hg => rfl); (case hn => rfl); (case hr => first | (go_simp; done) | (go_simp; rfl)); intro w25 hw; have n0_ : Aside0 (Kd.N k32 32 w25 w.heap.size (fun k_ => some k_ ≠ (v611 : Value).ownBlock ∧ some k_ ≠ (.slice Ao24 t618.length co24 : Value).ownBlock ∧ k_ ≠ gb601 ∧ k_ ≠ gb622) (.slice Ao17 t603.length co17) t603) := ⟨(by rw [hw]; exact (by (with_reducible repeat (first | apply Kd.N_alloc | apply Kd.N_drewN | apply Kd.N_drew)); exact Kd.N_mono (Kd.N_far (p := ⟨gb622, 3, none⟩) (Kd.N_far (p := ⟨gb622, 2, none⟩) (Kd.N_far (p := ⟨gb622, 1, none⟩) (Kd.N_far (p := ⟨gb622, 0, none⟩) (Kd.N_mono HO605.out (fun k_ hk => (⟨hk, hk.2⟩ : _ ∧ k_ ≠ gb622))) (fun _ hk => hk.2) (.int .i64 t615)) (fun _ hk => hk.2) (.int .i64 t616)) (fun _ hk => hk.2) (.int .i64 t617)) (fun _ hk => hk.2) (.slice Ao24 t618.length co24)) (fun _ hk => ⟨hk.1.1.1.2, ⟨hk.1.1.2, ⟨hk.1.1.1.1, hk.1.2⟩⟩⟩)))⟩; have n1_ : Aside0 (Kd.N k32 32 w25 w.heap.size (fun k_ => some k_ ≠ (.slice Ao24 t618.length co24 : Value).ownBlock ∧ k_ ≠ gb601 ∧ k_ ≠ gb622) v611 t610) := ⟨(by rw [hw]; exact (by (with_reducible repeat (first | apply Kd.N_alloc | apply Kd.N_drewN | apply Kd.N_drew)); exact Kd.N_mono (Kd.N_far (p := ⟨gb622, 3, none⟩) (Kd.N_far (p := ⟨gb622, 2, none⟩) (Kd.N_far (p := ⟨gb622, 1, none⟩) (Kd.N_far (p := ⟨gb622, 0, none⟩) (Kd.N_mono HO612.out (fun k_ hk => (⟨hk, hk.2⟩ : _ ∧ k_ ≠ gb622))) (fun _ hk => hk.2) (.int .i64 t615)) (fun _ hk => hk.2) (.int .i64 t616)) (fun _ hk => hk.2) (.int .i64 t617)) (fun _ hk => hk.2) (.slice Ao24 t618.length co24)) (fun _ hk => ⟨hk.1.1.2, ⟨hk.1.1.1, hk.1.2⟩⟩)))⟩; have n2_ : Aside0 (Kd.R k56 56 w25 w.heap.size (fun _ => True) (.slice Ao24 t618.length co24) t618) := ⟨(by rw [hw]; exact (by (with_reducible repeat (first | apply Kd.R_alloc | apply Kd.R_drewN | apply Kd.R_drew)); exact Kd.R_mono (Kd.R_far (p := ⟨gb622, 3, none⟩) (Kd.R_far (p := ⟨gb622, 2, none⟩) (Kd.R_far (p := ⟨gb622, 1, none⟩) (Kd.R_far (p := ⟨gb622, 0, none⟩) (Kd.R_types HO620.out BK622.out (by decide)) (fun _ hk => hk.2) (.int .i64 t615)) (fun _ hk => hk.2) (.int .i64 t616)) (fun _ hk => hk.2) (.int .i64 t617)) (fun _ hk => hk.2) (.slice Ao24 t618.length co24)) (fun _ hk => trivial)))⟩; have n3_ : Aside0 (w25.heap[gb601]? = some (.cells #[.int .i64 a1_0, .int .i64 a1_1, .int .i64 a1_2, .slice A1_3 l1_3.length c1_3] 32 (0, 0))) := ⟨(by rw [hw]; exact (upF106 NB601_622.out BK601.out))⟩; have n4_ : Aside0 (w25.heap[gb622]? = some (.cells #[.int .i64 t615, .int .i64 t616, .int .i64 t617, .slice Ao24 t618.length co24] 32 (0, 0))) := ⟨(by rw [hw]; exact (by (with_reducible repeat (first | refine blk_drewN ?_ _ | refine blk_drew ?_ | refine blk_alloc ?_ _)); refine blk_put (cs := #[.int .i64 t615, .int .i64 t616, .int .i64 t617, .slice none 0 0]) ?_ 3 _ rfl; (with_reducible repeat (first | refine blk_drewN ?_ _ | refine blk_drew ?_ | refine blk_alloc ?_ _)); refine blk_put (cs := #[.int .i64 t615, .int .i64 t616, .int .i64 0, .slice none 0 0]) ?_ 2 _ rfl; (with_reducible repeat (first | refine blk_drewN ?_ _ | refine blk_drew ?_ | refine blk_alloc ?_ _)); refine blk_put (cs := #[.int .i64 t615, .int .i64 0, .int .i64 0, .slice none 0 0]) ?_ 1 _ rfl; (with_reducible repeat (first | refine blk_drewN ?_ _ | refine blk_drew ?_ | refine blk_alloc ?_ _)); refine blk_put (cs := #[.int .i64 0, .int .i64 0, .int .i64 0, .slice none 0 0]) ?_ 0 _ rfl; (with_reducible repeat (first | refine blk_drewN ?_ _ | refine blk_drew ?_ | refine blk_alloc ?_ _)); exact BK622.out))⟩; have n5_ : Aside0 (Below w.heap.size w w25) := ⟨(by rw [hw]; exact (by repeat (first | (with_reducible first | exact HB.out | apply below_alloc | apply pw_below_drewN | apply below_drew1 | refine below_set ?_ GE601.out | refine below_set ?_ GE622.out) | exact HB.out)))⟩; clear hw; clear HO605; clear HO612; clear HO620; clear BK601; clear BK622; clear HB; have HO605 := n0_; have HO612 := n1_; have HO620 := n2_; have BK601 := n3_; have BK622 := n4_; have HB := n5_; clear n0_ n1_ n2_ n3_ n4_ n5_))
    (try simp only [Act.put, List.setIfInBounds_toArray, List.set_cons_zero, List.set_cons_succ])
    go_cut [81] (fun v81 wc => ∃ (kq : Nat) (x81_10 : Bool), v81 = .bool x81_10 ∧ Aside0 (watchwordlaw18_StoreNewest.j0 kq l0 t603 x81_10 a1_0 a1_1 a1_2 l1_3 = some r) ∧ Aside0 (kq ≤ k) ∧ Aside0 (Kd.N k32 32 wc w.heap.size (fun k_ => some k_ ≠ ((.slice Ao24 t618.length co24) : Value).ownBlock ∧ k_ ≠ gb601 ∧ k_ ≠ gb622) (.slice Ao17 t603.length co17) t603) ∧ Aside0 (Kd.R k56 56 wc w.heap.size (fun _ => True) (.slice Ao24 t618.length co24) t618) ∧ Aside0 (wc.heap[gb601]? = some (.cells #[.int .i64 a1_0, .int .i64 a1_1, .int .i64 a1_2, (.slice A1_3 l1_3.length c1_3)] 32 (0, 0))) ∧ Aside0 (wc.heap[gb622]? = some (.cells #[.int .i64 t615, .int .i64 t616, .int .i64 t617, (.slice Ao24 t618.length co24)] 32 (0, 0))) ∧ Aside0 (Below w.heap.size w wc))
    case first =>
     have H := HC11.out
     clear HC11
     replace H := Option.bind_eq_some_iff.mp H
     obtain ⟨t623, A260, H⟩ := H
     replace H : (if t623 = 0 then (if t613 = true then (watchwordlaw18_StoreNewest.j0 k l0 t603 true a1_0 a1_1 a1_2 l1_3) else ((watchwordlaw0_SameLsas.f k t603 t610).bind fun t624 => (if t624 = true then (if (t621 != (decide (a1_2 < 60))) = true then (watchwordlaw18_StoreNewest.j0 k l0 t603 true a1_0 a1_1 a1_2 l1_3) else (if t621 = true then ((watchwordlaw0_SameLsa.f k t615 t616 t617 t618 a1_0 a1_1 a1_2 l1_3).bind fun t625 => (watchwordlaw18_StoreNewest.j0 k l0 t603 (!t625) a1_0 a1_1 a1_2 l1_3)) else (watchwordlaw18_StoreNewest.j0 k l0 t603 false a1_0 a1_1 a1_2 l1_3))) else (watchwordlaw18_StoreNewest.j0 k l0 t603 true a1_0 a1_1 a1_2 l1_3)))) else (watchwordlaw18_StoreNewest.j0 k l0 t603 true a1_0 a1_1 a1_2 l1_3)) = some r := H
     have A26 := Aside0.mk A260
     clear A260
     by_cases c27 : t623 = 0
     ·rw [if_pos c27] at H
      have c27b0 : (t623 == 0) = true := beq_iff_eq.mpr c27
      have c27b1 : (t623 != 0) = false := bne_eq_false_iff_eq.mpr c27
      clear c27
      (first | rw [c27b0] | (simp only [i64_w, i32_w]; rw [c27b0]) | skip)
      by_cases c28 : t613 = true
      ·subst c28
       have H1 : (watchwordlaw18_StoreNewest.j0 k l0 t603 true a1_0 a1_1 a1_2 l1_3) = some r := by rw [if_pos rfl] at H; exact H
       clear H
       have H := H1
       clear H1
       exact absurd H (fun h_ => (by
        have hd_ : ∀ k_, watchwordlaw18_StoreNewest.j0 k_ l0 t603 true a1_0 a1_1 a1_2 l1_3 = some r → False := by
         intro k_ h_
         cases k_ with
         | zero => exact absurd h_ (by simp [watchwordlaw18_StoreNewest.j0])
         | succ k_ =>
          simp only [watchwordlaw18_StoreNewest.j0, if_true] at h_
          exact absurd (Option.some.inj h_) (by rw [HT.out]; decide)
        exact hd_ _ h_))
      ·replace c28 := Bool.eq_false_iff.mpr c28
       subst c28
       have H1 : ((watchwordlaw0_SameLsas.f k t603 t610).bind fun t624 => (if t624 = true then (if (t621 != (decide (a1_2 < 60))) = true then (watchwordlaw18_StoreNewest.j0 k l0 t603 true a1_0 a1_1 a1_2 l1_3) else (if t621 = true then ((watchwordlaw0_SameLsa.f k t615 t616 t617 t618 a1_0 a1_1 a1_2 l1_3).bind fun t625 => (watchwordlaw18_StoreNewest.j0 k l0 t603 (!t625) a1_0 a1_1 a1_2 l1_3)) else (watchwordlaw18_StoreNewest.j0 k l0 t603 false a1_0 a1_1 a1_2 l1_3))) else (watchwordlaw18_StoreNewest.j0 k l0 t603 true a1_0 a1_1 a1_2 l1_3))) = some r := by rw [if_neg (show ¬ (false = true) by decide)] at H; exact H
       clear H
       have H := H1
       clear H1
       replace H := Option.bind_eq_some_iff.mp H
       obtain ⟨t624, A290, H⟩ := H
       replace H : (if t624 = true then (if (t621 != (decide (a1_2 < 60))) = true then (watchwordlaw18_StoreNewest.j0 k l0 t603 true a1_0 a1_1 a1_2 l1_3) else (if t621 = true then ((watchwordlaw0_SameLsa.f k t615 t616 t617 t618 a1_0 a1_1 a1_2 l1_3).bind fun t625 => (watchwordlaw18_StoreNewest.j0 k l0 t603 (!t625) a1_0 a1_1 a1_2 l1_3)) else (watchwordlaw18_StoreNewest.j0 k l0 t603 false a1_0 a1_1 a1_2 l1_3))) else (watchwordlaw18_StoreNewest.j0 k l0 t603 true a1_0 a1_1 a1_2 l1_3)) = some r := H
       have A29 := Aside0.mk A290
       clear A290
       by_cases c30 : t624 = true
       ·subst c30
        have H1 : (if (t621 != (decide (a1_2 < 60))) = true then (watchwordlaw18_StoreNewest.j0 k l0 t603 true a1_0 a1_1 a1_2 l1_3) else (if t621 = true then ((watchwordlaw0_SameLsa.f k t615 t616 t617 t618 a1_0 a1_1 a1_2 l1_3).bind fun t625 => (watchwordlaw18_StoreNewest.j0 k l0 t603 (!t625) a1_0 a1_1 a1_2 l1_3)) else (watchwordlaw18_StoreNewest.j0 k l0 t603 false a1_0 a1_1 a1_2 l1_3))) = some r := by rw [if_pos rfl] at H; exact H
        clear H
        have H := H1
        clear H1
        by_cases c31 : (t621 != (decide (a1_2 < 60))) = true
        ·rw [if_pos c31] at H
         have c31b0 : (t621 != (decide (a1_2 < 60))) = true := c31
         (try (have c31b1 : decide (t621 = (decide (a1_2 < 60))) = false := by simpa using c31))
         (try (have c31b2 : (t621 == (decide (a1_2 < 60))) = false := by simpa using c31))
         (try (have c31b3 : ¬ (t621 = (decide (a1_2 < 60))) := by simpa using c31))
         clear c31
         exact absurd H (fun h_ => (by
          have hd_ : ∀ k_, watchwordlaw18_StoreNewest.j0 k_ l0 t603 true a1_0 a1_1 a1_2 l1_3 = some r → False := by
           intro k_ h_
           cases k_ with
           | zero => exact absurd h_ (by simp [watchwordlaw18_StoreNewest.j0])
           | succ k_ =>
            simp only [watchwordlaw18_StoreNewest.j0, if_true] at h_
            exact absurd (Option.some.inj h_) (by rw [HT.out]; decide)
          exact hd_ _ h_))
        ·rw [if_neg c31] at H
         have c31b0 : (t621 != (decide (a1_2 < 60))) = false := by simpa using c31
         (try (have c31b1 : decide (t621 = (decide (a1_2 < 60))) = true := by simpa using c31))
         (try (have c31b2 : (t621 == (decide (a1_2 < 60))) = true := by simpa using c31))
         clear c31
         by_cases c32 : t621 = true
         ·subst c32
          have H1 : ((watchwordlaw0_SameLsa.f k t615 t616 t617 t618 a1_0 a1_1 a1_2 l1_3).bind fun t625 => (watchwordlaw18_StoreNewest.j0 k l0 t603 (!t625) a1_0 a1_1 a1_2 l1_3)) = some r := by rw [if_pos rfl] at H; exact H
          clear H
          have H := H1
          clear H1
          replace H := Option.bind_eq_some_iff.mp H
          obtain ⟨t625, A330, H⟩ := H
          replace H : (watchwordlaw18_StoreNewest.j0 k l0 t603 (!t625) a1_0 a1_1 a1_2 l1_3) = some r := H
          have A33 := Aside0.mk A330
          clear A330
          have H' := Aside0.mk H
          clear H
          go_wp2_with (first | ((with_reducible refine gate_callee (f := 11) rfl ?_); refine goesL_ (some 55) rfl rfl Try.func11 (by kernel_rfl) rfl #[.int .i64 t614] rfl (by (try simp only [List.map_toArray, List.map_cons, List.map_nil]); first | done | rfl | (simp only [List.length_drop, List.length_take]; rfl)) ?_; (with_reducible refine (watchwordlaw0_Num.calls t614 t623 _ A26.out).mono ?_); rintro e w' ⟨rfl, ⟨nd, rfl⟩⟩; refine ⟨_, rfl, ?_⟩; obtain ⟨Ao34, co34, eo34⟩ := Kd.N_slice HO612.out; subst eo34) | (go_at_call 21; (with_reducible refine (watchwordlaw0_SameLsas.calls k _ _ t603 _ _ t610 true _ ?side1 ?side2 ?side3 ?side4 A29.out).mono ?_); (case side1 => repeat (first | exact (Kd.N_reads' HO605.out).2.2 | (with_reducible refine Kd.C_alloc ?_ _) | (with_reducible refine Kd.C_drewN ?_ _) | (with_reducible refine Kd.C_drew ?_))); (case side2 => exact (Kd.N_reads' HO605.out).2.1); (case side3 => repeat (first | exact (Kd.N_reads' HO612.out).2.2 | (with_reducible refine Kd.C_alloc ?_ _) | (with_reducible refine Kd.C_drewN ?_ _) | (with_reducible refine Kd.C_drew ?_))); (case side4 => exact (Kd.N_reads' HO612.out).2.1); rintro e w35 ⟨rfl, hb⟩; have n0_ := Aside0.mk (Kd.N_below (by (with_reducible repeat (first | apply Kd.N_alloc | apply Kd.N_drewN | apply Kd.N_drew)); exact HO605.out) hb); have n1_ := Aside0.mk (Kd.N_below (by (with_reducible repeat (first | apply Kd.N_alloc | apply Kd.N_drewN | apply Kd.N_drew)); exact HO612.out) hb); have n2_ := Aside0.mk (Kd.R_below (upR106 HO620.out) hb); have n3_ := Aside0.mk (blk_below (upB106 BK601.out) hb); have n4_ := Aside0.mk (blk_below (upB106 BK622.out) hb); have n5_ := Aside0.mk (below_step (by repeat (first | (with_reducible first | exact HB.out | apply below_alloc | apply pw_below_drewN | apply below_drew1 | refine below_set ?_ GE601.out | refine below_set ?_ GE622.out) | exact HB.out)) hb); clear HO605; clear HO612; clear HO620; clear BK601; clear BK622; clear HB; have HO605 := n0_; have HO612 := n1_; have HO620 := n2_; have BK601 := n3_; have BK622 := n4_; have HB := n5_; clear n0_ n1_ n2_ n3_ n4_ n5_; (try clear hb); (try clear hb2); (try clear hk); (try clear hi); have hnb36 := NB601_622.out; have hnc36 := NB622_601.out; have hcz37_0 : w35.cell? ⟨gb601, 0, none⟩ = some (.int .i64 a1_0) := (blk_cell BK601.out 0).trans rfl; have hcz37_1 : w35.cell? ⟨gb601, 1, none⟩ = some (.int .i64 a1_1) := (blk_cell BK601.out 1).trans rfl; have hcz37_2 : w35.cell? ⟨gb601, 2, none⟩ = some (.int .i64 a1_2) := (blk_cell BK601.out 2).trans rfl; have hcz37_3 : w35.cell? ⟨gb601, 3, none⟩ = some (.slice A1_3 l1_3.length c1_3) := (blk_cell BK601.out 3).trans rfl; have hfz37_0 := blk_frozen BK601.out 0; have hfz37_1 := blk_frozen BK601.out 1; have hfz37_2 := blk_frozen BK601.out 2; have hfz37_3 := blk_frozen BK601.out 3; have hcz38_0 : w35.cell? ⟨gb622, 0, none⟩ = some (.int .i64 t615) := (blk_cell BK622.out 0).trans rfl; have hcz38_1 : w35.cell? ⟨gb622, 1, none⟩ = some (.int .i64 t616) := (blk_cell BK622.out 1).trans rfl; have hcz38_2 : w35.cell? ⟨gb622, 2, none⟩ = some (.int .i64 t617) := (blk_cell BK622.out 2).trans rfl; have hcz38_3 : w35.cell? ⟨gb622, 3, none⟩ = some (.slice Ao24 t618.length co24) := (blk_cell BK622.out 3).trans rfl; have hfz38_0 := blk_frozen BK622.out 0; have hfz38_1 := blk_frozen BK622.out 1; have hfz38_2 := blk_frozen BK622.out 2; have hfz38_3 := blk_frozen BK622.out 3) | (go_at_call 22; (with_reducible refine (watchwordlaw0_SameLsa.calls k t615 t616 t617 _ _ t618 a1_0 a1_1 a1_2 _ _ l1_3 t625 _ ?side1 ?side2 ?side3 ?side4 A33.out).mono ?_); (case side1 => repeat (first | exact (Kd.R_reads' HO620.out).2.2 | (with_reducible refine Kd.C_alloc ?_ _) | (with_reducible refine Kd.C_drewN ?_ _) | (with_reducible refine Kd.C_drew ?_))); (case side2 => exact (Kd.R_reads' HO620.out).2.1); (case side3 => repeat (first | exact (Kd.C_below HR1_3.out HB.out) | (with_reducible refine Kd.C_alloc ?_ _) | (with_reducible refine Kd.C_drewN ?_ _) | (with_reducible refine Kd.C_drew ?_))); (case side4 => exact HC1_3.out); rintro e w39 ⟨rfl, hb⟩; have n0_ := Aside0.mk (Kd.N_below (by (with_reducible repeat (first | apply Kd.N_alloc | apply Kd.N_drewN | apply Kd.N_drew)); exact HO605.out) hb); have n1_ := Aside0.mk (Kd.N_below (by (with_reducible repeat (first | apply Kd.N_alloc | apply Kd.N_drewN | apply Kd.N_drew)); exact HO612.out) hb); have n2_ := Aside0.mk (Kd.R_below (upR106 HO620.out) hb); have n3_ := Aside0.mk (blk_below (upB106 BK601.out) hb); have n4_ := Aside0.mk (blk_below (upB106 BK622.out) hb); have n5_ := Aside0.mk (below_step (by repeat (first | (with_reducible first | exact HB.out | apply below_alloc | apply pw_below_drewN | apply below_drew1 | refine below_set ?_ GE601.out | refine below_set ?_ GE622.out) | exact HB.out)) hb); clear HO605; clear HO612; clear HO620; clear BK601; clear BK622; clear HB; have HO605 := n0_; have HO612 := n1_; have HO620 := n2_; have BK601 := n3_; have BK622 := n4_; have HB := n5_; clear n0_ n1_ n2_ n3_ n4_ n5_; (try clear hb); (try clear hb2); (try clear hk); (try clear hi)))
          go_meet
          case rel => exact ⟨_, (!t625), (by first | rfl | (simp; done) | (simp [*]; done)), H', ⟨by first | omega | exact Nat.le_refl _⟩, ⟨by (with_reducible repeat (first | apply Kd.N_alloc | apply Kd.N_drewN | apply Kd.N_drew)); exact Kd.N_mono HO605.out (fun _ hk => ⟨hk.2.1, ⟨hk.2.2.1, hk.2.2.2⟩⟩)⟩, ⟨upR106 HO620.out⟩, ⟨upB106 BK601.out⟩, ⟨upB106 BK622.out⟩, ⟨by repeat (first | (with_reducible first | exact HB.out | apply below_alloc | apply pw_below_drewN | apply below_drew1 | refine below_set ?_ GE601.out | refine below_set ?_ GE622.out) | exact HB.out)⟩⟩
         ·replace c32 := Bool.eq_false_iff.mpr c32
          subst c32
          have H1 : (watchwordlaw18_StoreNewest.j0 k l0 t603 false a1_0 a1_1 a1_2 l1_3) = some r := by rw [if_neg (show ¬ (false = true) by decide)] at H; exact H
          clear H
          have H := H1
          clear H1
          have H' := Aside0.mk H
          clear H
          go_wp2_with (first | ((with_reducible refine gate_callee (f := 11) rfl ?_); refine goesL_ (some 55) rfl rfl Try.func11 (by kernel_rfl) rfl #[.int .i64 t614] rfl (by (try simp only [List.map_toArray, List.map_cons, List.map_nil]); first | done | rfl | (simp only [List.length_drop, List.length_take]; rfl)) ?_; (with_reducible refine (watchwordlaw0_Num.calls t614 t623 _ A26.out).mono ?_); rintro e w' ⟨rfl, ⟨nd, rfl⟩⟩; refine ⟨_, rfl, ?_⟩; obtain ⟨Ao40, co40, eo40⟩ := Kd.N_slice HO612.out; subst eo40) | (go_at_call 21; (with_reducible refine (watchwordlaw0_SameLsas.calls k _ _ t603 _ _ t610 true _ ?side1 ?side2 ?side3 ?side4 A29.out).mono ?_); (case side1 => repeat (first | exact (Kd.N_reads' HO605.out).2.2 | (with_reducible refine Kd.C_alloc ?_ _) | (with_reducible refine Kd.C_drewN ?_ _) | (with_reducible refine Kd.C_drew ?_))); (case side2 => exact (Kd.N_reads' HO605.out).2.1); (case side3 => repeat (first | exact (Kd.N_reads' HO612.out).2.2 | (with_reducible refine Kd.C_alloc ?_ _) | (with_reducible refine Kd.C_drewN ?_ _) | (with_reducible refine Kd.C_drew ?_))); (case side4 => exact (Kd.N_reads' HO612.out).2.1); rintro e w41 ⟨rfl, hb⟩; have n0_ := Aside0.mk (Kd.N_below (by (with_reducible repeat (first | apply Kd.N_alloc | apply Kd.N_drewN | apply Kd.N_drew)); exact HO605.out) hb); have n1_ := Aside0.mk (Kd.N_below (by (with_reducible repeat (first | apply Kd.N_alloc | apply Kd.N_drewN | apply Kd.N_drew)); exact HO612.out) hb); have n2_ := Aside0.mk (Kd.R_below (upR106 HO620.out) hb); have n3_ := Aside0.mk (blk_below (upB106 BK601.out) hb); have n4_ := Aside0.mk (blk_below (upB106 BK622.out) hb); have n5_ := Aside0.mk (below_step (by repeat (first | (with_reducible first | exact HB.out | apply below_alloc | apply pw_below_drewN | apply below_drew1 | refine below_set ?_ GE601.out | refine below_set ?_ GE622.out) | exact HB.out)) hb); clear HO605; clear HO612; clear HO620; clear BK601; clear BK622; clear HB; have HO605 := n0_; have HO612 := n1_; have HO620 := n2_; have BK601 := n3_; have BK622 := n4_; have HB := n5_; clear n0_ n1_ n2_ n3_ n4_ n5_; (try clear hb); (try clear hb2); (try clear hk); (try clear hi); have hnb42 := NB601_622.out; have hnc42 := NB622_601.out; have hcz43_0 : w41.cell? ⟨gb601, 0, none⟩ = some (.int .i64 a1_0) := (blk_cell BK601.out 0).trans rfl; have hcz43_1 : w41.cell? ⟨gb601, 1, none⟩ = some (.int .i64 a1_1) := (blk_cell BK601.out 1).trans rfl; have hcz43_2 : w41.cell? ⟨gb601, 2, none⟩ = some (.int .i64 a1_2) := (blk_cell BK601.out 2).trans rfl; have hcz43_3 : w41.cell? ⟨gb601, 3, none⟩ = some (.slice A1_3 l1_3.length c1_3) := (blk_cell BK601.out 3).trans rfl; have hfz43_0 := blk_frozen BK601.out 0; have hfz43_1 := blk_frozen BK601.out 1; have hfz43_2 := blk_frozen BK601.out 2; have hfz43_3 := blk_frozen BK601.out 3))
          go_meet
          case rel => exact ⟨_, (false), (by first | rfl | (simp; done) | (simp [*]; done)), H', ⟨by first | omega | exact Nat.le_refl _⟩, ⟨by (with_reducible repeat (first | apply Kd.N_alloc | apply Kd.N_drewN | apply Kd.N_drew)); exact Kd.N_mono HO605.out (fun _ hk => ⟨hk.2.1, ⟨hk.2.2.1, hk.2.2.2⟩⟩)⟩, ⟨upR106 HO620.out⟩, ⟨upB106 BK601.out⟩, ⟨upB106 BK622.out⟩, ⟨by repeat (first | (with_reducible first | exact HB.out | apply below_alloc | apply pw_below_drewN | apply below_drew1 | refine below_set ?_ GE601.out | refine below_set ?_ GE622.out) | exact HB.out)⟩⟩
       ·replace c30 := Bool.eq_false_iff.mpr c30
        subst c30
        have H1 : (watchwordlaw18_StoreNewest.j0 k l0 t603 true a1_0 a1_1 a1_2 l1_3) = some r := by rw [if_neg (show ¬ (false = true) by decide)] at H; exact H
        clear H
        have H := H1
        clear H1
        exact absurd H (fun h_ => (by
         have hd_ : ∀ k_, watchwordlaw18_StoreNewest.j0 k_ l0 t603 true a1_0 a1_1 a1_2 l1_3 = some r → False := by
          intro k_ h_
          cases k_ with
          | zero => exact absurd h_ (by simp [watchwordlaw18_StoreNewest.j0])
          | succ k_ =>
           simp only [watchwordlaw18_StoreNewest.j0, if_true] at h_
           exact absurd (Option.some.inj h_) (by rw [HT.out]; decide)
         exact hd_ _ h_))
     ·rw [if_neg c27] at H
      have c27b0 : (t623 == 0) = false := beq_eq_false_iff_ne.mpr c27
      have c27b1 : (t623 != 0) = true := bne_iff_ne.mpr c27
      (first | rw [c27b0] | (simp only [i64_w, i32_w]; rw [c27b0]) | skip)
      exact absurd H (fun h_ => (by
       have hd_ : ∀ k_, watchwordlaw18_StoreNewest.j0 k_ l0 t603 true a1_0 a1_1 a1_2 l1_3 = some r → False := by
        intro k_ h_
        cases k_ with
        | zero => exact absurd h_ (by simp [watchwordlaw18_StoreNewest.j0])
        | succ k_ =>
         simp only [watchwordlaw18_StoreNewest.j0, if_true] at h_
         exact absurd (Option.some.inj h_) (by rw [HT.out]; decide)
       exact hd_ _ h_))
    case rest =>
     clear HC11
     obtain ⟨kq, x81_10, rfl, HA, HJ10, HO_5, HO_623003, BK601, BK622, HB⟩ := hcut
     cases kq with
     | zero => exact absurd HA.out (by simp [watchwordlaw18_StoreNewest.j0])
     | succ kj10 =>
      have H := HA.out
      clear HA
      simp only [watchwordlaw18_StoreNewest.j0] at H
      by_cases c44 : x81_10 = true
      ·subst c44
       have H1 : (some false) = some r := by rw [if_pos rfl] at H; exact H
       clear H
       have H := H1
       clear H1
       exact absurd (Option.some.inj H) (by rw [HT.out]; decide)
      ·replace c44 := Bool.eq_false_iff.mpr c44
       subst c44
       have H1 : (watchwordlaw18_StoreNewest.l0 kj10 l0 t603 0 a1_0 a1_1 a1_2 l1_3) = some r := by rw [if_neg (show ¬ (false = true) by decide)] at H; exact H
       clear H
       have H := H1
       clear H1
       have H' := Aside0.mk H
       clear H
       go_wp2
       go_loopg [13] kj10 (fun kq v13 w' => ∃ (x13_2 : Int), v13 = .int .i64 x13_2 ∧ Aside0 (watchwordlaw18_StoreNewest.l0 kq l0 t603 x13_2 a1_0 a1_1 a1_2 l1_3 = some r) ∧ Aside0 (kq ≤ kj10) ∧ Aside0 (Kd.N k32 32 w' w.heap.size (fun k_ => some k_ ≠ ((.slice Ao24 t618.length co24) : Value).ownBlock ∧ k_ ≠ gb601 ∧ k_ ≠ gb622) (.slice Ao17 t603.length co17) t603) ∧ Aside0 (Kd.R k56 56 w' w.heap.size (fun _ => True) (.slice Ao24 t618.length co24) t618) ∧ Aside0 (w'.heap[gb601]? = some (.cells #[.int .i64 a1_0, .int .i64 a1_1, .int .i64 a1_2, (.slice A1_3 l1_3.length c1_3)] 32 (0, 0))) ∧ Aside0 (w'.heap[gb622]? = some (.cells #[.int .i64 t615, .int .i64 t616, .int .i64 t617, (.slice Ao24 t618.length co24)] 32 (0, 0))) ∧ Aside0 (Below w.heap.size w w'))
       case atStart => exact ⟨(0), (by first | rfl | (simp; done) | (simp [*]; done)), H', ⟨Nat.le_refl _⟩, ⟨by (with_reducible repeat (first | apply Kd.N_alloc | apply Kd.N_drewN | apply Kd.N_drew)); exact HO_5.out⟩, ⟨upR106 HO_623003.out⟩, ⟨upB106 BK601.out⟩, ⟨upB106 BK622.out⟩, ⟨by repeat (first | (with_reducible first | exact HB.out | apply below_alloc | apply pw_below_drewN | apply below_drew1 | refine below_set ?_ GE601.out | refine below_set ?_ GE622.out) | exact HB.out)⟩⟩
       case round =>
        clear H'
        obtain ⟨x13_2, rfl, HA, HK2, HO_5, HO_623003, BK601, BK622, HB⟩ := hrel
        cases gk with
        | zero => exact absurd HA.out (by simp [watchwordlaw18_StoreNewest.l0])
        | succ k2 =>
         have H := HA.out
         clear HA
         simp only [watchwordlaw18_StoreNewest.l0] at H
         by_cases c45 : x13_2 < (l0.length : Int)
         ·rw [if_pos c45] at H
          have c45b0 : decide (x13_2 < (l0.length : Int)) = true := decide_eq_true c45
          clear c45
          by_cases c46 : 0 ≤ x13_2
          ·rw [if_pos c46] at H
           have c46b0 : decide (0 ≤ x13_2) = true := decide_eq_true c46
           clear c46
           replace H := Option.bind_eq_some_iff.mp H
           obtain ⟨⟨t628, t629, t630, t631, t634⟩, A470, H⟩ := H
           replace H : (if ((rd_T32 l0 x13_2).f0) = a1_0 then (watchwordlaw18_StoreNewest.l0 k2 l0 t603 (wrap64 (x13_2 + 1)) a1_0 a1_1 a1_2 l1_3) else (if t634 = true then ((watchwordlaw0_SameLsa.f k2 t628 t629 t630 t631 ((rd_T32 l0 x13_2).f0) ((rd_T32 l0 x13_2).f1) ((rd_T32 l0 x13_2).f2) ((rd_T32 l0 x13_2).f3)).bind fun t638 => (if t638 = true then (watchwordlaw18_StoreNewest.l0 k2 l0 t603 (wrap64 (x13_2 + 1)) a1_0 a1_1 a1_2 l1_3) else (some false))) else (some false))) = some r := H
           have A47 := Aside0.mk A470
           clear A470
           by_cases c48 : ((rd_T32 l0 x13_2).f0) = a1_0
           ·rw [if_pos c48] at H
            have c48b0 : (((rd_T32 l0 x13_2).f0) == a1_0) = true := beq_iff_eq.mpr c48
            have c48b1 : (((rd_T32 l0 x13_2).f0) != a1_0) = false := bne_eq_false_iff_eq.mpr c48
            clear c48
            have H' := Aside0.mk H
            clear H
            have p627 : 0 ≤ (x13_2 : Int) := of_decide_eq_true (by first | (with_reducible assumption) | assumption)
            have q627 : x13_2 < (l0.length : Int) := of_decide_eq_true (by first | (with_reducible assumption) | assumption)
            obtain ⟨ad627, A627_3, c627_3, e627, hx627_0, hx627_1, hx627_2, hx627_3, hl627_3, hi627_3⟩ := at_T32 HR0.out x13_2 p627 q627
            cases e627
            replace hx627_0 := (HB.out.cell (World.block_lt_of_cell? w _ hx627_0)).trans hx627_0
            replace hx627_1 := (HB.out.cell (World.block_lt_of_cell? w _ hx627_1)).trans hx627_1
            replace hx627_2 := (HB.out.cell (World.block_lt_of_cell? w _ hx627_2)).trans hx627_2
            replace hx627_3 := (HB.out.cell (World.block_lt_of_cell? w _ hx627_3)).trans hx627_3
            have HR627_3 := Aside0.mk hi627_3
            have HC627_3 := Aside0.mk hl627_3
            clear hi627_3 hl627_3
            replace p627 := eq_true p627
            replace q627 := eq_true q627
            try go_wp2_with (first | ((with_reducible refine gate_callee (f := 12) rfl ?_); refine goesL_ (some 95) rfl rfl Try.func12 (by kernel_rfl) rfl #[.slice Ao17 t603.length co17, .int .i64 ((rd_T32 l0 x13_2).f0)] rfl (by (try simp only [List.map_toArray, List.map_cons, List.map_nil]); first | done | rfl | (simp only [List.length_drop, List.length_take]; rfl)) ?_; (with_reducible refine (store_Find.calls k2 _ _ t603 ((rd_T32 l0 x13_2).f0) t628 t629 t630 t631 t634 _ ?side1 ?side2 A47.out).mono ?_); (case side1 => repeat (first | exact (Kd.N_reads' HO_5.out).2.2 | (with_reducible refine Kd.C_alloc ?_ _) | (with_reducible refine Kd.C_drewN ?_ _) | (with_reducible refine Kd.C_drew ?_))); (case side2 => exact (Kd.N_reads' HO_5.out).2.1); rintro e w49 ⟨v632, rfl, ho0, hb⟩; refine ⟨_, rfl, ?_⟩; have n0_ := Aside0.mk (Kd.N_elder' (by (with_reducible repeat (first | apply Kd.N_alloc | apply Kd.N_drewN | apply Kd.N_drew)); exact HO_5.out) (Kd.R_base ho0) hb); have n1_ := Aside0.mk (Kd.R_elder' (upR106 HO_623003.out) (Kd.R_base ho0) hb); have n2_ := Aside0.mk (Kd.R_lower (Kd.R_new' ho0 (Kd.R_lt (upR106 HO_623003.out))) (below_size (by repeat (first | (with_reducible first | exact HB.out | apply below_alloc | apply pw_below_drewN | apply below_drew1 | refine below_set ?_ GE601.out | refine below_set ?_ GE622.out) | exact HB.out)))); have n3_ := Aside0.mk (blk_below (upB106 BK601.out) hb); have n4_ := Aside0.mk (blk_below (upB106 BK622.out) hb); have n5_ := Aside0.mk (below_step (by repeat (first | (with_reducible first | exact HB.out | apply below_alloc | apply pw_below_drewN | apply below_drew1 | refine below_set ?_ GE601.out | refine below_set ?_ GE622.out) | exact HB.out)) hb); clear HO_5; clear HO_623003; clear BK601; clear BK622; clear HB; have HO_5 := n0_; have HO_623003 := n1_; have HO633 := n2_; have BK601 := n3_; have BK622 := n4_; have HB := n5_; clear n0_ n1_ n2_ n3_ n4_ n5_; (try clear hb); (try clear hb2); (try clear hk); (try clear hi); (try clear ho0)) | ((with_reducible refine gate_dst (N := 14) rfl ?_); refine box_event ?hg (N := 14) ?hd (cs := #[.int .i64 0, .int .i64 0, .int .i64 0, .slice none 0 0]) (t := 32) ?hr ?_; (case hd => rfl); (case hg => rfl); (case hr => first | (go_simp; done) | (go_simp; rfl)); intro gb635 hg w50 hbox hb; have n0_ := Aside0.mk (Kd.N_below (Kd.N_elderB (by (with_reducible repeat (first | apply Kd.N_alloc | apply Kd.N_drewN | apply Kd.N_drew)); exact HO_5.out) gb635 (Nat.le_of_eq hg.symm)) hb); have n1_ := Aside0.mk (Kd.R_below (upR106 HO_623003.out) hb); have n2_ := Aside0.mk (Kd.R_below (upR106 HO633.out) hb); have n3_ := Aside0.mk (blk_below (upB106 BK601.out) hb); have n4_ := Aside0.mk (blk_below (upB106 BK622.out) hb); have n5_ := Aside0.mk (below_step (by repeat (first | (with_reducible first | exact HB.out | apply below_alloc | apply pw_below_drewN | apply below_drew1 | refine below_set ?_ GE601.out | refine below_set ?_ GE622.out) | exact HB.out)) hb); have n6_ := Aside0.mk (hbox); have n7_ := Aside0.mk ((by rw [hg]; exact (below_size (by repeat (first | (with_reducible first | exact HB.out | apply below_alloc | apply pw_below_drewN | apply below_drew1 | refine below_set ?_ GE601.out | refine below_set ?_ GE622.out) | exact HB.out))) : w.heap.size ≤ gb635)); have n8_ := Aside0.mk ((by rw [hg]; exact (below_size (by repeat (first | (with_reducible first | exact HB.out | apply below_alloc | apply pw_below_drewN | apply below_drew1 | refine below_set ?_ GE601.out | refine below_set ?_ GE622.out) | exact HB.out))) : w.heap.size ≤ gb635)); have n9_ := Aside0.mk ((by rw [hg]; exact Nat.ne_of_lt (blk_lt (g := gb601) (o := .cells #[.int .i64 a1_0, .int .i64 a1_1, .int .i64 a1_2, .slice A1_3 l1_3.length c1_3] 32 (0, 0)) (upB106 BK601.out)) : gb601 ≠ gb635)); have n10_ := Aside0.mk ((by rw [hg]; exact Nat.ne_of_gt (blk_lt (g := gb601) (o := .cells #[.int .i64 a1_0, .int .i64 a1_1, .int .i64 a1_2, .slice A1_3 l1_3.length c1_3] 32 (0, 0)) (upB106 BK601.out)) : gb635 ≠ gb601)); have n11_ := Aside0.mk ((by rw [hg]; exact Nat.ne_of_lt (blk_lt (g := gb622) (o := .cells #[.int .i64 t615, .int .i64 t616, .int .i64 t617, .slice Ao24 t618.length co24] 32 (0, 0)) (upB106 BK622.out)) : gb622 ≠ gb635)); have n12_ := Aside0.mk ((by rw [hg]; exact Nat.ne_of_gt (blk_lt (g := gb622) (o := .cells #[.int .i64 t615, .int .i64 t616, .int .i64 t617, .slice Ao24 t618.length co24] 32 (0, 0)) (upB106 BK622.out)) : gb635 ≠ gb622)); clear HO_5; clear HO_623003; clear HO633; clear BK601; clear BK622; clear HB; have HO_5 := n0_; have HO_623003 := n1_; have HO633 := n2_; have BK601 := n3_; have BK622 := n4_; have HB := n5_; have BK635 := n6_; have GW635 := n7_; have GE635 := n8_; have NB601_635 := n9_; have NB635_601 := n10_; have NB622_635 := n11_; have NB635_622 := n12_; clear n0_ n1_ n2_ n3_ n4_ n5_ n6_ n7_ n8_ n9_ n10_ n11_ n12_; clear hb hbox hg; have hnb51 := NB635_601.out; have hnc51 := NB601_635.out; have hnb52 := NB635_622.out; have hnc52 := NB622_635.out; have hcz53_0 : w50.cell? ⟨gb635, 0, none⟩ = some (.int .i64 0) := (blk_cell BK635.out 0).trans rfl; have hcz53_1 : w50.cell? ⟨gb635, 1, none⟩ = some (.int .i64 0) := (blk_cell BK635.out 1).trans rfl; have hcz53_2 : w50.cell? ⟨gb635, 2, none⟩ = some (.int .i64 0) := (blk_cell BK635.out 2).trans rfl; have hcz53_3 : w50.cell? ⟨gb635, 3, none⟩ = some (.slice none 0 0) := (blk_cell BK635.out 3).trans rfl; have hfz53_0 := blk_frozen BK635.out 0; have hfz53_1 := blk_frozen BK635.out 1; have hfz53_2 := blk_frozen BK635.out 2; have hfz53_3 := blk_frozen BK635.out 3; obtain ⟨Ao54, co54, eo54⟩ := Kd.R_slice HO633.out; subst eo54) | ((with_reducible refine gate_store (t := 32) (p := 14) rfl ?_); refine store_event (t := 32) (p := 14) (v := ?vo_w55) (w1 := ((((w50.setCell ⟨gb635, 0, none⟩ (.int .i64 t628)).setCell ⟨gb635, 1, none⟩ (.int .i64 t629)).setCell ⟨gb635, 2, none⟩ (.int .i64 t630)).setCell ⟨gb635, 3, none⟩ (.slice Ao54 t631.length co54))) ?hg ?ho ?hn ?hr ?_; (case ho => rfl); (case hg => rfl); (case hn => rfl); (case hr => first | (go_simp; done) | (go_simp; rfl)); intro w55 hw; have n0_ : Aside0 (Kd.N k32 32 w55 w.heap.size (fun k_ => some k_ ≠ (.slice Ao24 t618.length co24 : Value).ownBlock ∧ some k_ ≠ (.slice Ao54 t631.length co54 : Value).ownBlock ∧ k_ ≠ gb601 ∧ k_ ≠ gb622 ∧ k_ ≠ gb635) (.slice Ao17 t603.length co17) t603) := ⟨(by rw [hw]; exact (by (with_reducible repeat (first | apply Kd.N_alloc | apply Kd.N_drewN | apply Kd.N_drew)); exact Kd.N_mono (Kd.N_far (p := ⟨gb635, 3, none⟩) (Kd.N_far (p := ⟨gb635, 2, none⟩) (Kd.N_far (p := ⟨gb635, 1, none⟩) (Kd.N_far (p := ⟨gb635, 0, none⟩) (Kd.N_mono HO_5.out (fun k_ hk => (⟨hk, hk.2⟩ : _ ∧ k_ ≠ gb635))) (fun _ hk => hk.2) (.int .i64 t628)) (fun _ hk => hk.2) (.int .i64 t629)) (fun _ hk => hk.2) (.int .i64 t630)) (fun _ hk => hk.2) (.slice Ao54 t631.length co54)) (fun _ hk => ⟨hk.1.1.1.1, ⟨hk.1.1.2, ⟨hk.1.1.1.2.1, ⟨hk.1.1.1.2.2, hk.1.2⟩⟩⟩⟩)))⟩; have n1_ : Aside0 (Kd.R k56 56 w55 w.heap.size (fun k_ => some k_ ≠ (.slice Ao54 t631.length co54 : Value).ownBlock) (.slice Ao24 t618.length co24) t618) := ⟨(by rw [hw]; exact (by (with_reducible repeat (first | apply Kd.R_alloc | apply Kd.R_drewN | apply Kd.R_drew)); exact Kd.R_mono (Kd.R_far (p := ⟨gb635, 3, none⟩) (Kd.R_far (p := ⟨gb635, 2, none⟩) (Kd.R_far (p := ⟨gb635, 1, none⟩) (Kd.R_far (p := ⟨gb635, 0, none⟩) (Kd.R_types HO_623003.out BK635.out (by decide)) (fun _ hk => hk.2) (.int .i64 t628)) (fun _ hk => hk.2) (.int .i64 t629)) (fun _ hk => hk.2) (.int .i64 t630)) (fun _ hk => hk.2) (.slice Ao54 t631.length co54)) (fun _ hk => hk.1.2)))⟩; have n2_ : Aside0 (Kd.R k56 56 w55 w.heap.size (fun k_ => some k_ ≠ (.slice Ao24 t618.length co24 : Value).ownBlock) (.slice Ao54 t631.length co54) t631) := ⟨(by rw [hw]; exact (by (with_reducible repeat (first | apply Kd.R_alloc | apply Kd.R_drewN | apply Kd.R_drew)); exact Kd.R_mono (Kd.R_far (p := ⟨gb635, 3, none⟩) (Kd.R_far (p := ⟨gb635, 2, none⟩) (Kd.R_far (p := ⟨gb635, 1, none⟩) (Kd.R_far (p := ⟨gb635, 0, none⟩) (Kd.R_types HO633.out BK635.out (by decide)) (fun _ hk => hk.2) (.int .i64 t628)) (fun _ hk => hk.2) (.int .i64 t629)) (fun _ hk => hk.2) (.int .i64 t630)) (fun _ hk => hk.2) (.slice Ao54 t631.length co54)) (fun _ hk => hk.1.2)))⟩; have n3_ : Aside0 (w55.heap[gb601]? = some (.cells #[.int .i64 a1_0, .int .i64 a1_1, .int .i64 a1_2, .slice A1_3 l1_3.length c1_3] 32 (0, 0))) := ⟨(by rw [hw]; exact (upF106 NB601_635.out BK601.out))⟩; have n4_ : Aside0 (w55.heap[gb622]? = some (.cells #[.int .i64 t615, .int .i64 t616, .int .i64 t617, .slice Ao24 t618.length co24] 32 (0, 0))) := ⟨(by rw [hw]; exact (upF106 NB622_635.out BK622.out))⟩; have n5_ : Aside0 (w55.heap[gb635]? = some (.cells #[.int .i64 t628, .int .i64 t629, .int .i64 t630, .slice Ao54 t631.length co54] 32 (0, 0))) := ⟨(by rw [hw]; exact (by (with_reducible repeat (first | refine blk_drewN ?_ _ | refine blk_drew ?_ | refine blk_alloc ?_ _)); refine blk_put (cs := #[.int .i64 t628, .int .i64 t629, .int .i64 t630, .slice none 0 0]) ?_ 3 _ rfl; (with_reducible repeat (first | refine blk_drewN ?_ _ | refine blk_drew ?_ | refine blk_alloc ?_ _)); refine blk_put (cs := #[.int .i64 t628, .int .i64 t629, .int .i64 0, .slice none 0 0]) ?_ 2 _ rfl; (with_reducible repeat (first | refine blk_drewN ?_ _ | refine blk_drew ?_ | refine blk_alloc ?_ _)); refine blk_put (cs := #[.int .i64 t628, .int .i64 0, .int .i64 0, .slice none 0 0]) ?_ 1 _ rfl; (with_reducible repeat (first | refine blk_drewN ?_ _ | refine blk_drew ?_ | refine blk_alloc ?_ _)); refine blk_put (cs := #[.int .i64 0, .int .i64 0, .int .i64 0, .slice none 0 0]) ?_ 0 _ rfl; (with_reducible repeat (first | refine blk_drewN ?_ _ | refine blk_drew ?_ | refine blk_alloc ?_ _)); exact BK635.out))⟩; have n6_ : Aside0 (Below w.heap.size w w55) := ⟨(by rw [hw]; exact (by repeat (first | (with_reducible first | exact HB.out | apply below_alloc | apply pw_below_drewN | apply below_drew1 | refine below_set ?_ GE601.out | refine below_set ?_ GE622.out | refine below_set ?_ GE635.out) | exact HB.out)))⟩; clear hw; clear HO_5; clear HO_623003; clear HO633; clear BK601; clear BK622; clear BK635; clear HB; have HO_5 := n0_; have HO_623003 := n1_; have HO633 := n2_; have BK601 := n3_; have BK622 := n4_; have BK635 := n5_; have HB := n6_; clear n0_ n1_ n2_ n3_ n4_ n5_ n6_))
            have n0_ := Aside0.mk (Kd.N_drew HO_5.out)
            have n1_ := Aside0.mk (Kd.R_drew HO_623003.out)
            have n2_ := Aside0.mk (Kd.R_drew HO633.out)
            have n3_ := Aside0.mk (blk_drew BK601.out)
            have n4_ := Aside0.mk (blk_drew BK622.out)
            have n5_ := Aside0.mk (blk_drew BK635.out)
            have n6_ := Aside0.mk (below_drew1 HB.out)
            clear HO_5
            clear HO_623003
            clear HO633
            clear BK601
            clear BK622
            clear BK635
            clear HB
            have HO_5 := n0_
            have HO_623003 := n1_
            have HO633 := n2_
            have BK601 := n3_
            have BK622 := n4_
            have BK635 := n5_
            have HB := n6_
            clear n0_ n1_ n2_ n3_ n4_ n5_ n6_
            have p636 : 0 ≤ (x13_2 : Int) := of_decide_eq_true (by first | (with_reducible assumption) | assumption)
            have q636 : x13_2 < (l0.length : Int) := of_decide_eq_true (by first | (with_reducible assumption) | assumption)
            obtain ⟨ad636, A636_3, c636_3, e636, hx636_0, hx636_1, hx636_2, hx636_3, hl636_3, hi636_3⟩ := at_T32 HR0.out x13_2 p636 q636
            have hw636_3 := hx636_3
            have hw636_2 := hx636_2
            have hw636_1 := hx636_1
            have hw636_0 := hx636_0
            obtain rfl : ad627 = ad636 := (by injection e636)
            replace hx636_0 := (HB.out.cell (World.block_lt_of_cell? w _ hx636_0)).trans hx636_0
            replace hx636_1 := (HB.out.cell (World.block_lt_of_cell? w _ hx636_1)).trans hx636_1
            replace hx636_2 := (HB.out.cell (World.block_lt_of_cell? w _ hx636_2)).trans hx636_2
            replace hx636_3 := (HB.out.cell (World.block_lt_of_cell? w _ hx636_3)).trans hx636_3
            have HR636_3 := Aside0.mk hi636_3
            have HC636_3 := Aside0.mk hl636_3
            clear hi636_3 hl636_3
            replace p636 := eq_true p636
            replace q636 := eq_true q636
            refine start_ (n := 21) (S := fun w' => w'.cell? ⟨gb601, 0, none⟩ = some (.int .i64 a1_0) ∧ w'.cell? ⟨gb601, 1, none⟩ = some (.int .i64 a1_1) ∧ w'.cell? ⟨gb601, 2, none⟩ = some (.int .i64 a1_2) ∧ w'.cell? ⟨gb601, 3, none⟩ = some (.slice A1_3 l1_3.length c1_3) ∧ w'.cell? (ad627.add ((x13_2).toNat * 4)) = some (.int .i64 ((rd_T32 l0 x13_2).f0)) ∧ w'.cell? ⟨(ad627.add ((x13_2).toNat * 4)).block, (ad627.add ((x13_2).toNat * 4)).off + 1, none⟩ = some (.int .i64 ((rd_T32 l0 x13_2).f1)) ∧ w'.cell? ⟨(ad627.add ((x13_2).toNat * 4)).block, (ad627.add ((x13_2).toNat * 4)).off + 2, none⟩ = some (.int .i64 ((rd_T32 l0 x13_2).f2)) ∧ w'.cell? ⟨(ad627.add ((x13_2).toNat * 4)).block, (ad627.add ((x13_2).toNat * 4)).off + 3, none⟩ = some (.slice A636_3 ((rd_T32 l0 x13_2).f3).length c636_3)) (ds := []) #[false, false, false, false, false, false, false, false, false, false, false, false, false, false, false, false, false, false, false, false, false] (by kernel_rfl) rfl rfl ⟨(blk_cell BK601.out 0).trans rfl, (blk_cell BK601.out 1).trans rfl, (blk_cell BK601.out 2).trans rfl, (blk_cell BK601.out 3).trans rfl, ((HB.out.cell (World.block_lt_of_cell? w _ hw636_0)).trans hw636_0), ((HB.out.cell (World.block_lt_of_cell? w _ hw636_1)).trans hw636_1), ((HB.out.cell (World.block_lt_of_cell? w _ hw636_2)).trans hw636_2), ((HB.out.cell (World.block_lt_of_cell? w _ hw636_3)).trans hw636_3)⟩ (fun hHeld => ?_); refine with_tabW watchwordlaw18_StoreNewest.tab16 watchwordlaw18_StoreNewest.bits16 (fun HT_ HW_ => ?_)
            generalize w55.drew = w56 at HO_5 HO_623003 HO633 BK601 BK622 BK635 HB HR636_3 hx636_0 hx636_1 hx636_2 hx636_3 hHeld ⊢
            refine pure_ (i := 0) (N := some 98) (v := ?_) (a' := ?_) #[true, false, false, false, false, false, false, false, false, false, false, false, false, false, false, false, false, false, false, false, false] rfl rfl (any_of HT_.out (by kernel_rfl)) (fun _ _ _ h => h) (Or.inl ⟨by rfl, ?_⟩) ?_ ?_
            rotate_left
            ·intro w'
             go_simp
             with_reducible rfl
            rotate_left
            ·simp only [Act.put, List.setIfInBounds_toArray, List.set_cons_zero, List.set_cons_succ, i64_w, i32_w]
             rfl
            refine pure_ (i := 1) (N := some 99) (v := ?_) (a' := ?_) #[true, true, false, false, false, false, false, false, false, false, false, false, false, false, false, false, false, false, false, false, false] rfl rfl (any_of HT_.out (by kernel_rfl)) (fun _ _ _ h => h) (Or.inl ⟨by rfl, ?_⟩) ?_ ?_
            rotate_left
            ·intro w'
             go_simp
             with_reducible rfl
            rotate_left
            ·simp only [Act.put, List.setIfInBounds_toArray, List.set_cons_zero, List.set_cons_succ, i64_w, i32_w]
             rfl
            refine pure_ (i := 2) (N := some 100) (v := ?_) (a' := ?_) #[true, true, true, false, false, false, false, false, false, false, false, false, false, false, false, false, false, false, false, false, false] rfl rfl (any_of HT_.out (by kernel_rfl)) (fun _ _ _ h => h) (Or.inl ⟨by rfl, ?_⟩) ?_ ?_
            rotate_left
            ·intro w'
             go_simp
             with_reducible rfl
            rotate_left
            ·simp only [Act.put, List.setIfInBounds_toArray, List.set_cons_zero, List.set_cons_succ, i64_w, i32_w]
             rfl
            refine pure_ (i := 3) (N := some 101) (v := ?_) (a' := ?_) #[true, true, true, true, false, false, false, false, false, false, false, false, false, false, false, false, false, false, false, false, false] rfl rfl (any_of HT_.out (by kernel_rfl)) (fun _ _ _ h => h) (Or.inl ⟨by rfl, ?_⟩) ?_ ?_
            rotate_left
            ·intro w'
             go_simp
             with_reducible rfl
            rotate_left
            ·simp only [Act.put, List.setIfInBounds_toArray, List.set_cons_zero, List.set_cons_succ, i64_w, i32_w]
             rfl
            refine pure_ (i := 5) (N := some 103) (v := ?_) (a' := ?_) #[true, true, true, true, false, true, false, false, false, false, false, false, false, false, false, false, false, false, false, false, false] rfl rfl (any_of HT_.out (by kernel_rfl)) (fun _ _ _ h => h) (Or.inl ⟨by rfl, ?_⟩) ?_ ?_
            rotate_left
            ·intro w'
             go_simp
             with_reducible rfl
            rotate_left
            ·simp only [Act.put, List.setIfInBounds_toArray, List.set_cons_zero, List.set_cons_succ, i64_w, i32_w]
             rfl
            refine take_ (i := 4) (N := some 102) (v := ?_) (a' := ?_) #[true, true, true, true, true, true, false, false, false, false, false, false, false, false, false, false, false, false, false, false, false] rfl rfl (take_ofW HT_.out HW_.out (by kernel_rfl)) (fun _ _ _ h => h) (Or.inl ⟨by rfl, ?_⟩) hHeld ?_ ?_
            rotate_left
            ·rintro w' ⟨s0, s1, s2, s3, s4, s5, s6, s7⟩
             go_simp
             with_reducible rfl
            rotate_left
            ·simp only [Act.put, List.setIfInBounds_toArray, List.set_cons_zero, List.set_cons_succ, i64_w, i32_w]
             rfl
            refine take_ (i := 6) (N := some 104) (v := ?_) (a' := ?_) #[true, true, true, true, true, true, true, false, false, false, false, false, false, false, false, false, false, false, false, false, false] rfl rfl (take_ofW HT_.out HW_.out (by kernel_rfl)) (fun _ _ _ h => h) (Or.inl ⟨by rfl, ?_⟩) hHeld ?_ ?_
            rotate_left
            ·rintro w' ⟨s0, s1, s2, s3, s4, s5, s6, s7⟩
             go_simp
             with_reducible rfl
            rotate_left
            ·simp only [Act.put, List.setIfInBounds_toArray, List.set_cons_zero, List.set_cons_succ, i64_w, i32_w]
             rfl
            refine pure_ (i := 7) (N := some 105) (v := ?_) (a' := ?_) #[true, true, true, true, true, true, true, true, false, false, false, false, false, false, false, false, false, false, false, false, false] rfl rfl (any_of HT_.out (by kernel_rfl)) (fun _ _ _ h => h) (Or.inl ⟨by rfl, ?_⟩) ?_ ?_
            rotate_left
            ·intro w'
             go_simp
             with_reducible rfl
            rotate_left
            ·simp only [Act.put, List.setIfInBounds_toArray, List.set_cons_zero, List.set_cons_succ, i64_w, i32_w]
             rfl
            refine pure_ (i := 8) (N := some 106) (v := ?_) (a' := ?_) #[true, true, true, true, true, true, true, true, true, false, false, false, false, false, false, false, false, false, false, false, false] rfl rfl (any_of HT_.out (by kernel_rfl)) (fun _ _ _ h => h) (Or.inl ⟨by rfl, ?_⟩) ?_ ?_
            rotate_left
            ·intro w'
             go_simp
             with_reducible rfl
            rotate_left
            ·simp only [Act.put, List.setIfInBounds_toArray, List.set_cons_zero, List.set_cons_succ, i64_w, i32_w]
             rfl
            refine pure_ (i := 9) (N := some 107) (v := undef) (a' := ?_) #[true, true, true, true, true, true, true, true, true, true, false, false, false, false, false, false, false, false, false, false, false] rfl rfl (any_of HT_.out (by kernel_rfl)) (fun _ _ _ h => h) (Or.inr ⟨by rfl, rfl⟩) ?_ ?_
            rotate_left
            ·simp only [Act.put, List.setIfInBounds_toArray, List.set_cons_zero, List.set_cons_succ, i64_w, i32_w]
             rfl
            refine pure_ (i := 10) (N := some 108) (v := undef) (a' := ?_) #[true, true, true, true, true, true, true, true, true, true, true, false, false, false, false, false, false, false, false, false, false] rfl rfl (any_of HT_.out (by kernel_rfl)) (fun _ _ _ h => h) (Or.inr ⟨by rfl, rfl⟩) ?_ ?_
            rotate_left
            ·simp only [Act.put, List.setIfInBounds_toArray, List.set_cons_zero, List.set_cons_succ, i64_w, i32_w]
             rfl
            refine pure_ (i := 11) (N := some 109) (v := undef) (a' := ?_) #[true, true, true, true, true, true, true, true, true, true, true, true, false, false, false, false, false, false, false, false, false] rfl rfl (any_of HT_.out (by kernel_rfl)) (fun _ _ _ h => h) (Or.inr ⟨by rfl, rfl⟩) ?_ ?_
            rotate_left
            ·simp only [Act.put, List.setIfInBounds_toArray, List.set_cons_zero, List.set_cons_succ, i64_w, i32_w]
             rfl
            refine pure_ (i := 12) (N := some 110) (v := undef) (a' := ?_) #[true, true, true, true, true, true, true, true, true, true, true, true, true, false, false, false, false, false, false, false, false] rfl rfl (any_of HT_.out (by kernel_rfl)) (fun _ _ _ h => h) (Or.inr ⟨by rfl, rfl⟩) ?_ ?_
            rotate_left
            ·simp only [Act.put, List.setIfInBounds_toArray, List.set_cons_zero, List.set_cons_succ, i64_w, i32_w]
             rfl
            refine pure_ (i := 13) (N := some 111) (v := undef) (a' := ?_) #[true, true, true, true, true, true, true, true, true, true, true, true, true, true, false, false, false, false, false, false, false] rfl rfl (any_of HT_.out (by kernel_rfl)) (fun _ _ _ h => h) (Or.inr ⟨by rfl, rfl⟩) ?_ ?_
            rotate_left
            ·simp only [Act.put, List.setIfInBounds_toArray, List.set_cons_zero, List.set_cons_succ, i64_w, i32_w]
             rfl
            refine pure_ (i := 14) (N := some 112) (v := undef) (a' := ?_) #[true, true, true, true, true, true, true, true, true, true, true, true, true, true, true, false, false, false, false, false, false] rfl rfl (any_of HT_.out (by kernel_rfl)) (fun _ _ _ h => h) (Or.inr ⟨by rfl, rfl⟩) ?_ ?_
            rotate_left
            ·simp only [Act.put, List.setIfInBounds_toArray, List.set_cons_zero, List.set_cons_succ, i64_w, i32_w]
             rfl
            refine pure_ (i := 15) (N := some 113) (v := undef) (a' := ?_) #[true, true, true, true, true, true, true, true, true, true, true, true, true, true, true, true, false, false, false, false, false] rfl rfl (any_of HT_.out (by kernel_rfl)) (fun _ _ _ h => h) (Or.inr ⟨by rfl, rfl⟩) ?_ ?_
            rotate_left
            ·simp only [Act.put, List.setIfInBounds_toArray, List.set_cons_zero, List.set_cons_succ, i64_w, i32_w]
             rfl
            refine pure_ (i := 16) (N := some 114) (v := undef) (a' := ?_) #[true, true, true, true, true, true, true, true, true, true, true, true, true, true, true, true, true, false, false, false, false] rfl rfl (any_of HT_.out (by kernel_rfl)) (fun _ _ _ h => h) (Or.inr ⟨by rfl, rfl⟩) ?_ ?_
            rotate_left
            ·simp only [Act.put, List.setIfInBounds_toArray, List.set_cons_zero, List.set_cons_succ, i64_w, i32_w]
             rfl
            refine pure_ (i := 17) (N := some 115) (v := undef) (a' := ?_) #[true, true, true, true, true, true, true, true, true, true, true, true, true, true, true, true, true, true, false, false, false] rfl rfl (any_of HT_.out (by kernel_rfl)) (fun _ _ _ h => h) (Or.inr ⟨by rfl, rfl⟩) ?_ ?_
            rotate_left
            ·simp only [Act.put, List.setIfInBounds_toArray, List.set_cons_zero, List.set_cons_succ, i64_w, i32_w]
             rfl
            refine pure_ (i := 18) (N := some 116) (v := undef) (a' := ?_) #[true, true, true, true, true, true, true, true, true, true, true, true, true, true, true, true, true, true, true, false, false] rfl rfl (any_of HT_.out (by kernel_rfl)) (fun _ _ _ h => h) (Or.inr ⟨by rfl, rfl⟩) ?_ ?_
            rotate_left
            ·simp only [Act.put, List.setIfInBounds_toArray, List.set_cons_zero, List.set_cons_succ, i64_w, i32_w]
             rfl
            refine pure_ (i := 19) (N := some 117) (v := undef) (a' := ?_) #[true, true, true, true, true, true, true, true, true, true, true, true, true, true, true, true, true, true, true, true, false] rfl rfl (any_of HT_.out (by kernel_rfl)) (fun _ _ _ h => h) (Or.inr ⟨by rfl, rfl⟩) ?_ ?_
            rotate_left
            ·simp only [Act.put, List.setIfInBounds_toArray, List.set_cons_zero, List.set_cons_succ, i64_w, i32_w]
             rfl
            refine pure_ (i := 20) (N := some 118) (v := ?_) (a' := ?_) #[true, true, true, true, true, true, true, true, true, true, true, true, true, true, true, true, true, true, true, true, true] rfl rfl (any_of HT_.out (by kernel_rfl)) (fun _ _ _ h => h) (Or.inl ⟨by rfl, ?_⟩) ?_ ?_
            rotate_left
            ·intro w'
             go_simp
             with_reducible rfl
            rotate_left
            ·simp only [Act.put, List.setIfInBounds_toArray, List.set_cons_zero, List.set_cons_succ, i64_w, i32_w]
             rfl
            refine done_ (done_of HT_.out (by kernel_rfl)) ?_
            try go_wp2
            go_roundg k2
            case measure => have := HJ10.out; have := HK2.out; omega
            case rel => exact ⟨(wrap64 (x13_2 + 1)), (by first | rfl | (simp; done) | (simp [*]; done)), H', ⟨by have := HJ10.out; have := HK2.out; omega⟩, ⟨by (with_reducible repeat (first | apply Kd.N_alloc | apply Kd.N_drewN | apply Kd.N_drew)); exact Kd.N_mono HO_5.out (fun _ hk => ⟨hk.1, ⟨hk.2.2.1, hk.2.2.2.1⟩⟩)⟩, ⟨by (with_reducible repeat (first | apply Kd.R_alloc | apply Kd.R_drewN | apply Kd.R_drew)); exact Kd.R_mono HO_623003.out (fun _ hk => trivial)⟩, ⟨upB106 BK601.out⟩, ⟨upB106 BK622.out⟩, ⟨by repeat (first | (with_reducible first | exact HB.out | apply below_alloc | apply pw_below_drewN | apply below_drew1 | refine below_set ?_ GE601.out | refine below_set ?_ GE622.out | refine below_set ?_ GE635.out) | exact HB.out)⟩⟩
           ·rw [if_neg c48] at H
            have c48b0 : (((rd_T32 l0 x13_2).f0) == a1_0) = false := beq_eq_false_iff_ne.mpr c48
            have c48b1 : (((rd_T32 l0 x13_2).f0) != a1_0) = true := bne_iff_ne.mpr c48
            by_cases c57 : t634 = true
            ·subst c57
             have H1 : ((watchwordlaw0_SameLsa.f k2 t628 t629 t630 t631 ((rd_T32 l0 x13_2).f0) ((rd_T32 l0 x13_2).f1) ((rd_T32 l0 x13_2).f2) ((rd_T32 l0 x13_2).f3)).bind fun t638 => (if t638 = true then (watchwordlaw18_StoreNewest.l0 k2 l0 t603 (wrap64 (x13_2 + 1)) a1_0 a1_1 a1_2 l1_3) else (some false))) = some r := by rw [if_pos rfl] at H; exact H
             clear H
             have H := H1
             clear H1
             replace H := Option.bind_eq_some_iff.mp H
             obtain ⟨t638, A580, H⟩ := H
             replace H : (if t638 = true then (watchwordlaw18_StoreNewest.l0 k2 l0 t603 (wrap64 (x13_2 + 1)) a1_0 a1_1 a1_2 l1_3) else (some false)) = some r := H
             have A58 := Aside0.mk A580
             clear A580
             by_cases c59 : t638 = true
             ·subst c59
              have H1 : (watchwordlaw18_StoreNewest.l0 k2 l0 t603 (wrap64 (x13_2 + 1)) a1_0 a1_1 a1_2 l1_3) = some r := by rw [if_pos rfl] at H; exact H
              clear H
              have H := H1
              clear H1
              have H' := Aside0.mk H
              clear H
              have p627 : 0 ≤ (x13_2 : Int) := of_decide_eq_true (by first | (with_reducible assumption) | assumption)
              have q627 : x13_2 < (l0.length : Int) := of_decide_eq_true (by first | (with_reducible assumption) | assumption)
              obtain ⟨ad627, A627_3, c627_3, e627, hx627_0, hx627_1, hx627_2, hx627_3, hl627_3, hi627_3⟩ := at_T32 HR0.out x13_2 p627 q627
              cases e627
              replace hx627_0 := (HB.out.cell (World.block_lt_of_cell? w _ hx627_0)).trans hx627_0
              replace hx627_1 := (HB.out.cell (World.block_lt_of_cell? w _ hx627_1)).trans hx627_1
              replace hx627_2 := (HB.out.cell (World.block_lt_of_cell? w _ hx627_2)).trans hx627_2
              replace hx627_3 := (HB.out.cell (World.block_lt_of_cell? w _ hx627_3)).trans hx627_3
              have HR627_3 := Aside0.mk hi627_3
              have HC627_3 := Aside0.mk hl627_3
              clear hi627_3 hl627_3
              replace p627 := eq_true p627
              replace q627 := eq_true q627
              try go_wp2_with (first | ((with_reducible refine gate_callee (f := 12) rfl ?_); refine goesL_ (some 95) rfl rfl Try.func12 (by kernel_rfl) rfl #[.slice Ao17 t603.length co17, .int .i64 ((rd_T32 l0 x13_2).f0)] rfl (by (try simp only [List.map_toArray, List.map_cons, List.map_nil]); first | done | rfl | (simp only [List.length_drop, List.length_take]; rfl)) ?_; (with_reducible refine (store_Find.calls k2 _ _ t603 ((rd_T32 l0 x13_2).f0) t628 t629 t630 t631 true _ ?side1 ?side2 A47.out).mono ?_); (case side1 => repeat (first | exact (Kd.N_reads' HO_5.out).2.2 | (with_reducible refine Kd.C_alloc ?_ _) | (with_reducible refine Kd.C_drewN ?_ _) | (with_reducible refine Kd.C_drew ?_))); (case side2 => exact (Kd.N_reads' HO_5.out).2.1); rintro e w60 ⟨v632, rfl, ho0, hb⟩; refine ⟨_, rfl, ?_⟩; have n0_ := Aside0.mk (Kd.N_elder' (by (with_reducible repeat (first | apply Kd.N_alloc | apply Kd.N_drewN | apply Kd.N_drew)); exact HO_5.out) (Kd.R_base ho0) hb); have n1_ := Aside0.mk (Kd.R_elder' (upR106 HO_623003.out) (Kd.R_base ho0) hb); have n2_ := Aside0.mk (Kd.R_lower (Kd.R_new' ho0 (Kd.R_lt (upR106 HO_623003.out))) (below_size (by repeat (first | (with_reducible first | exact HB.out | apply below_alloc | apply pw_below_drewN | apply below_drew1 | refine below_set ?_ GE601.out | refine below_set ?_ GE622.out) | exact HB.out)))); have n3_ := Aside0.mk (blk_below (upB106 BK601.out) hb); have n4_ := Aside0.mk (blk_below (upB106 BK622.out) hb); have n5_ := Aside0.mk (below_step (by repeat (first | (with_reducible first | exact HB.out | apply below_alloc | apply pw_below_drewN | apply below_drew1 | refine below_set ?_ GE601.out | refine below_set ?_ GE622.out) | exact HB.out)) hb); clear HO_5; clear HO_623003; clear BK601; clear BK622; clear HB; have HO_5 := n0_; have HO_623003 := n1_; have HO633 := n2_; have BK601 := n3_; have BK622 := n4_; have HB := n5_; clear n0_ n1_ n2_ n3_ n4_ n5_; (try clear hb); (try clear hb2); (try clear hk); (try clear hi); (try clear ho0)) | ((with_reducible refine gate_dst (N := 14) rfl ?_); refine box_event ?hg (N := 14) ?hd (cs := #[.int .i64 0, .int .i64 0, .int .i64 0, .slice none 0 0]) (t := 32) ?hr ?_; (case hd => rfl); (case hg => rfl); (case hr => first | (go_simp; done) | (go_simp; rfl)); intro gb635 hg w61 hbox hb; have n0_ := Aside0.mk (Kd.N_below (Kd.N_elderB (by (with_reducible repeat (first | apply Kd.N_alloc | apply Kd.N_drewN | apply Kd.N_drew)); exact HO_5.out) gb635 (Nat.le_of_eq hg.symm)) hb); have n1_ := Aside0.mk (Kd.R_below (upR106 HO_623003.out) hb); have n2_ := Aside0.mk (Kd.R_below (upR106 HO633.out) hb); have n3_ := Aside0.mk (blk_below (upB106 BK601.out) hb); have n4_ := Aside0.mk (blk_below (upB106 BK622.out) hb); have n5_ := Aside0.mk (below_step (by repeat (first | (with_reducible first | exact HB.out | apply below_alloc | apply pw_below_drewN | apply below_drew1 | refine below_set ?_ GE601.out | refine below_set ?_ GE622.out) | exact HB.out)) hb); have n6_ := Aside0.mk (hbox); have n7_ := Aside0.mk ((by rw [hg]; exact (below_size (by repeat (first | (with_reducible first | exact HB.out | apply below_alloc | apply pw_below_drewN | apply below_drew1 | refine below_set ?_ GE601.out | refine below_set ?_ GE622.out) | exact HB.out))) : w.heap.size ≤ gb635)); have n8_ := Aside0.mk ((by rw [hg]; exact (below_size (by repeat (first | (with_reducible first | exact HB.out | apply below_alloc | apply pw_below_drewN | apply below_drew1 | refine below_set ?_ GE601.out | refine below_set ?_ GE622.out) | exact HB.out))) : w.heap.size ≤ gb635)); have n9_ := Aside0.mk ((by rw [hg]; exact Nat.ne_of_lt (blk_lt (g := gb601) (o := .cells #[.int .i64 a1_0, .int .i64 a1_1, .int .i64 a1_2, .slice A1_3 l1_3.length c1_3] 32 (0, 0)) (upB106 BK601.out)) : gb601 ≠ gb635)); have n10_ := Aside0.mk ((by rw [hg]; exact Nat.ne_of_gt (blk_lt (g := gb601) (o := .cells #[.int .i64 a1_0, .int .i64 a1_1, .int .i64 a1_2, .slice A1_3 l1_3.length c1_3] 32 (0, 0)) (upB106 BK601.out)) : gb635 ≠ gb601)); have n11_ := Aside0.mk ((by rw [hg]; exact Nat.ne_of_lt (blk_lt (g := gb622) (o := .cells #[.int .i64 t615, .int .i64 t616, .int .i64 t617, .slice Ao24 t618.length co24] 32 (0, 0)) (upB106 BK622.out)) : gb622 ≠ gb635)); have n12_ := Aside0.mk ((by rw [hg]; exact Nat.ne_of_gt (blk_lt (g := gb622) (o := .cells #[.int .i64 t615, .int .i64 t616, .int .i64 t617, .slice Ao24 t618.length co24] 32 (0, 0)) (upB106 BK622.out)) : gb635 ≠ gb622)); clear HO_5; clear HO_623003; clear HO633; clear BK601; clear BK622; clear HB; have HO_5 := n0_; have HO_623003 := n1_; have HO633 := n2_; have BK601 := n3_; have BK622 := n4_; have HB := n5_; have BK635 := n6_; have GW635 := n7_; have GE635 := n8_; have NB601_635 := n9_; have NB635_601 := n10_; have NB622_635 := n11_; have NB635_622 := n12_; clear n0_ n1_ n2_ n3_ n4_ n5_ n6_ n7_ n8_ n9_ n10_ n11_ n12_; clear hb hbox hg; have hnb62 := NB635_601.out; have hnc62 := NB601_635.out; have hnb63 := NB635_622.out; have hnc63 := NB622_635.out; have hcz64_0 : w61.cell? ⟨gb635, 0, none⟩ = some (.int .i64 0) := (blk_cell BK635.out 0).trans rfl; have hcz64_1 : w61.cell? ⟨gb635, 1, none⟩ = some (.int .i64 0) := (blk_cell BK635.out 1).trans rfl; have hcz64_2 : w61.cell? ⟨gb635, 2, none⟩ = some (.int .i64 0) := (blk_cell BK635.out 2).trans rfl; have hcz64_3 : w61.cell? ⟨gb635, 3, none⟩ = some (.slice none 0 0) := (blk_cell BK635.out 3).trans rfl; have hfz64_0 := blk_frozen BK635.out 0; have hfz64_1 := blk_frozen BK635.out 1; have hfz64_2 := blk_frozen BK635.out 2; have hfz64_3 := blk_frozen BK635.out 3; obtain ⟨Ao65, co65, eo65⟩ := Kd.R_slice HO633.out; subst eo65) | ((with_reducible refine gate_store (t := 32) (p := 14) rfl ?_); refine store_event (t := 32) (p := 14) (v := ?vo_w66) (w1 := ((((w61.setCell ⟨gb635, 0, none⟩ (.int .i64 t628)).setCell ⟨gb635, 1, none⟩ (.int .i64 t629)).setCell ⟨gb635, 2, none⟩ (.int .i64 t630)).setCell ⟨gb635, 3, none⟩ (.slice Ao65 t631.length co65))) ?hg ?ho ?hn ?hr ?_; (case ho => rfl); (case hg => rfl); (case hn => rfl); (case hr => first | (go_simp; done) | (go_simp; rfl)); intro w66 hw; have n0_ : Aside0 (Kd.N k32 32 w66 w.heap.size (fun k_ => some k_ ≠ (.slice Ao24 t618.length co24 : Value).ownBlock ∧ some k_ ≠ (.slice Ao65 t631.length co65 : Value).ownBlock ∧ k_ ≠ gb601 ∧ k_ ≠ gb622 ∧ k_ ≠ gb635) (.slice Ao17 t603.length co17) t603) := ⟨(by rw [hw]; exact (by (with_reducible repeat (first | apply Kd.N_alloc | apply Kd.N_drewN | apply Kd.N_drew)); exact Kd.N_mono (Kd.N_far (p := ⟨gb635, 3, none⟩) (Kd.N_far (p := ⟨gb635, 2, none⟩) (Kd.N_far (p := ⟨gb635, 1, none⟩) (Kd.N_far (p := ⟨gb635, 0, none⟩) (Kd.N_mono HO_5.out (fun k_ hk => (⟨hk, hk.2⟩ : _ ∧ k_ ≠ gb635))) (fun _ hk => hk.2) (.int .i64 t628)) (fun _ hk => hk.2) (.int .i64 t629)) (fun _ hk => hk.2) (.int .i64 t630)) (fun _ hk => hk.2) (.slice Ao65 t631.length co65)) (fun _ hk => ⟨hk.1.1.1.1, ⟨hk.1.1.2, ⟨hk.1.1.1.2.1, ⟨hk.1.1.1.2.2, hk.1.2⟩⟩⟩⟩)))⟩; have n1_ : Aside0 (Kd.R k56 56 w66 w.heap.size (fun k_ => some k_ ≠ (.slice Ao65 t631.length co65 : Value).ownBlock) (.slice Ao24 t618.length co24) t618) := ⟨(by rw [hw]; exact (by (with_reducible repeat (first | apply Kd.R_alloc | apply Kd.R_drewN | apply Kd.R_drew)); exact Kd.R_mono (Kd.R_far (p := ⟨gb635, 3, none⟩) (Kd.R_far (p := ⟨gb635, 2, none⟩) (Kd.R_far (p := ⟨gb635, 1, none⟩) (Kd.R_far (p := ⟨gb635, 0, none⟩) (Kd.R_types HO_623003.out BK635.out (by decide)) (fun _ hk => hk.2) (.int .i64 t628)) (fun _ hk => hk.2) (.int .i64 t629)) (fun _ hk => hk.2) (.int .i64 t630)) (fun _ hk => hk.2) (.slice Ao65 t631.length co65)) (fun _ hk => hk.1.2)))⟩; have n2_ : Aside0 (Kd.R k56 56 w66 w.heap.size (fun k_ => some k_ ≠ (.slice Ao24 t618.length co24 : Value).ownBlock) (.slice Ao65 t631.length co65) t631) := ⟨(by rw [hw]; exact (by (with_reducible repeat (first | apply Kd.R_alloc | apply Kd.R_drewN | apply Kd.R_drew)); exact Kd.R_mono (Kd.R_far (p := ⟨gb635, 3, none⟩) (Kd.R_far (p := ⟨gb635, 2, none⟩) (Kd.R_far (p := ⟨gb635, 1, none⟩) (Kd.R_far (p := ⟨gb635, 0, none⟩) (Kd.R_types HO633.out BK635.out (by decide)) (fun _ hk => hk.2) (.int .i64 t628)) (fun _ hk => hk.2) (.int .i64 t629)) (fun _ hk => hk.2) (.int .i64 t630)) (fun _ hk => hk.2) (.slice Ao65 t631.length co65)) (fun _ hk => hk.1.2)))⟩; have n3_ : Aside0 (w66.heap[gb601]? = some (.cells #[.int .i64 a1_0, .int .i64 a1_1, .int .i64 a1_2, .slice A1_3 l1_3.length c1_3] 32 (0, 0))) := ⟨(by rw [hw]; exact (upF106 NB601_635.out BK601.out))⟩; have n4_ : Aside0 (w66.heap[gb622]? = some (.cells #[.int .i64 t615, .int .i64 t616, .int .i64 t617, .slice Ao24 t618.length co24] 32 (0, 0))) := ⟨(by rw [hw]; exact (upF106 NB622_635.out BK622.out))⟩; have n5_ : Aside0 (w66.heap[gb635]? = some (.cells #[.int .i64 t628, .int .i64 t629, .int .i64 t630, .slice Ao65 t631.length co65] 32 (0, 0))) := ⟨(by rw [hw]; exact (by (with_reducible repeat (first | refine blk_drewN ?_ _ | refine blk_drew ?_ | refine blk_alloc ?_ _)); refine blk_put (cs := #[.int .i64 t628, .int .i64 t629, .int .i64 t630, .slice none 0 0]) ?_ 3 _ rfl; (with_reducible repeat (first | refine blk_drewN ?_ _ | refine blk_drew ?_ | refine blk_alloc ?_ _)); refine blk_put (cs := #[.int .i64 t628, .int .i64 t629, .int .i64 0, .slice none 0 0]) ?_ 2 _ rfl; (with_reducible repeat (first | refine blk_drewN ?_ _ | refine blk_drew ?_ | refine blk_alloc ?_ _)); refine blk_put (cs := #[.int .i64 t628, .int .i64 0, .int .i64 0, .slice none 0 0]) ?_ 1 _ rfl; (with_reducible repeat (first | refine blk_drewN ?_ _ | refine blk_drew ?_ | refine blk_alloc ?_ _)); refine blk_put (cs := #[.int .i64 0, .int .i64 0, .int .i64 0, .slice none 0 0]) ?_ 0 _ rfl; (with_reducible repeat (first | refine blk_drewN ?_ _ | refine blk_drew ?_ | refine blk_alloc ?_ _)); exact BK635.out))⟩; have n6_ : Aside0 (Below w.heap.size w w66) := ⟨(by rw [hw]; exact (by repeat (first | (with_reducible first | exact HB.out | apply below_alloc | apply pw_below_drewN | apply below_drew1 | refine below_set ?_ GE601.out | refine below_set ?_ GE622.out | refine below_set ?_ GE635.out) | exact HB.out)))⟩; clear hw; clear HO_5; clear HO_623003; clear HO633; clear BK601; clear BK622; clear BK635; clear HB; have HO_5 := n0_; have HO_623003 := n1_; have HO633 := n2_; have BK601 := n3_; have BK622 := n4_; have BK635 := n5_; have HB := n6_; clear n0_ n1_ n2_ n3_ n4_ n5_ n6_))
              have n0_ := Aside0.mk (Kd.N_drew HO_5.out)
              have n1_ := Aside0.mk (Kd.R_drew HO_623003.out)
              have n2_ := Aside0.mk (Kd.R_drew HO633.out)
              have n3_ := Aside0.mk (blk_drew BK601.out)
              have n4_ := Aside0.mk (blk_drew BK622.out)
              have n5_ := Aside0.mk (blk_drew BK635.out)
              have n6_ := Aside0.mk (below_drew1 HB.out)
              clear HO_5
              clear HO_623003
              clear HO633
              clear BK601
              clear BK622
              clear BK635
              clear HB
              have HO_5 := n0_
              have HO_623003 := n1_
              have HO633 := n2_
              have BK601 := n3_
              have BK622 := n4_
              have BK635 := n5_
              have HB := n6_
              clear n0_ n1_ n2_ n3_ n4_ n5_ n6_
              have p636 : 0 ≤ (x13_2 : Int) := of_decide_eq_true (by first | (with_reducible assumption) | assumption)
              have q636 : x13_2 < (l0.length : Int) := of_decide_eq_true (by first | (with_reducible assumption) | assumption)
              obtain ⟨ad636, A636_3, c636_3, e636, hx636_0, hx636_1, hx636_2, hx636_3, hl636_3, hi636_3⟩ := at_T32 HR0.out x13_2 p636 q636
              have hw636_3 := hx636_3
              have hw636_2 := hx636_2
              have hw636_1 := hx636_1
              have hw636_0 := hx636_0
              obtain rfl : ad627 = ad636 := (by injection e636)
              replace hx636_0 := (HB.out.cell (World.block_lt_of_cell? w _ hx636_0)).trans hx636_0
              replace hx636_1 := (HB.out.cell (World.block_lt_of_cell? w _ hx636_1)).trans hx636_1
              replace hx636_2 := (HB.out.cell (World.block_lt_of_cell? w _ hx636_2)).trans hx636_2
              replace hx636_3 := (HB.out.cell (World.block_lt_of_cell? w _ hx636_3)).trans hx636_3
              have HR636_3 := Aside0.mk hi636_3
              have HC636_3 := Aside0.mk hl636_3
              clear hi636_3 hl636_3
              replace p636 := eq_true p636
              replace q636 := eq_true q636
              have p637 : 0 ≤ (x13_2 : Int) := of_decide_eq_true (by first | (with_reducible assumption) | assumption)
              have q637 : x13_2 < (l0.length : Int) := of_decide_eq_true (by first | (with_reducible assumption) | assumption)
              obtain ⟨ad637, A637_3, c637_3, e637, hx637_0, hx637_1, hx637_2, hx637_3, hl637_3, hi637_3⟩ := at_T32 HR0.out x13_2 p637 q637
              have hw637_3 := hx637_3
              have hw637_2 := hx637_2
              have hw637_1 := hx637_1
              have hw637_0 := hx637_0
              obtain rfl : ad627 = ad637 := (by injection e637)
              replace hx637_0 := (HB.out.cell (World.block_lt_of_cell? w _ hx637_0)).trans hx637_0
              replace hx637_1 := (HB.out.cell (World.block_lt_of_cell? w _ hx637_1)).trans hx637_1
              replace hx637_2 := (HB.out.cell (World.block_lt_of_cell? w _ hx637_2)).trans hx637_2
              replace hx637_3 := (HB.out.cell (World.block_lt_of_cell? w _ hx637_3)).trans hx637_3
              have HR637_3 := Aside0.mk hi637_3
              have HC637_3 := Aside0.mk hl637_3
              clear hi637_3 hl637_3
              replace p637 := eq_true p637
              replace q637 := eq_true q637
              have ea_ := Option.some.inj (hx636_3.symm.trans hx637_3)
              injection ea_ with ea_ en_ ec_
              subst ea_
              subst ec_
              clear en_
              refine start_ (n := 21) (S := fun w' => w'.cell? ⟨gb601, 0, none⟩ = some (.int .i64 a1_0) ∧ w'.cell? ⟨gb601, 1, none⟩ = some (.int .i64 a1_1) ∧ w'.cell? ⟨gb601, 2, none⟩ = some (.int .i64 a1_2) ∧ w'.cell? ⟨gb601, 3, none⟩ = some (.slice A1_3 l1_3.length c1_3) ∧ w'.cell? ⟨gb635, 0, none⟩ = some (.int .i64 t628) ∧ w'.cell? ⟨gb635, 1, none⟩ = some (.int .i64 t629) ∧ w'.cell? ⟨gb635, 2, none⟩ = some (.int .i64 t630) ∧ w'.cell? ⟨gb635, 3, none⟩ = some (.slice Ao65 t631.length co65) ∧ w'.cell? (ad627.add ((x13_2).toNat * 4)) = some (.int .i64 ((rd_T32 l0 x13_2).f0)) ∧ w'.cell? ⟨(ad627.add ((x13_2).toNat * 4)).block, (ad627.add ((x13_2).toNat * 4)).off + 1, none⟩ = some (.int .i64 ((rd_T32 l0 x13_2).f1)) ∧ w'.cell? ⟨(ad627.add ((x13_2).toNat * 4)).block, (ad627.add ((x13_2).toNat * 4)).off + 2, none⟩ = some (.int .i64 ((rd_T32 l0 x13_2).f2)) ∧ w'.cell? ⟨(ad627.add ((x13_2).toNat * 4)).block, (ad627.add ((x13_2).toNat * 4)).off + 3, none⟩ = some (.slice A636_3 ((rd_T32 l0 x13_2).f3).length c636_3) ∧ w'.cell? (ad627.add ((x13_2).toNat * 4)) = some (.int .i64 ((rd_T32 l0 x13_2).f0)) ∧ w'.cell? ⟨(ad627.add ((x13_2).toNat * 4)).block, (ad627.add ((x13_2).toNat * 4)).off + 1, none⟩ = some (.int .i64 ((rd_T32 l0 x13_2).f1)) ∧ w'.cell? ⟨(ad627.add ((x13_2).toNat * 4)).block, (ad627.add ((x13_2).toNat * 4)).off + 2, none⟩ = some (.int .i64 ((rd_T32 l0 x13_2).f2)) ∧ w'.cell? ⟨(ad627.add ((x13_2).toNat * 4)).block, (ad627.add ((x13_2).toNat * 4)).off + 3, none⟩ = some (.slice A636_3 ((rd_T32 l0 x13_2).f3).length c636_3)) (ds := []) #[false, false, false, false, false, false, false, false, false, false, false, false, false, false, false, false, false, false, false, false, false] (by kernel_rfl) rfl rfl ⟨(blk_cell BK601.out 0).trans rfl, (blk_cell BK601.out 1).trans rfl, (blk_cell BK601.out 2).trans rfl, (blk_cell BK601.out 3).trans rfl, (blk_cell BK635.out 0).trans rfl, (blk_cell BK635.out 1).trans rfl, (blk_cell BK635.out 2).trans rfl, (blk_cell BK635.out 3).trans rfl, ((HB.out.cell (World.block_lt_of_cell? w _ hw636_0)).trans hw636_0), ((HB.out.cell (World.block_lt_of_cell? w _ hw636_1)).trans hw636_1), ((HB.out.cell (World.block_lt_of_cell? w _ hw636_2)).trans hw636_2), ((HB.out.cell (World.block_lt_of_cell? w _ hw636_3)).trans hw636_3), ((HB.out.cell (World.block_lt_of_cell? w _ hw637_0)).trans hw637_0), ((HB.out.cell (World.block_lt_of_cell? w _ hw637_1)).trans hw637_1), ((HB.out.cell (World.block_lt_of_cell? w _ hw637_2)).trans hw637_2), ((HB.out.cell (World.block_lt_of_cell? w _ hw637_3)).trans hw637_3)⟩ (fun hHeld => ?_); refine with_tabW watchwordlaw18_StoreNewest.tab16 watchwordlaw18_StoreNewest.bits16 (fun HT_ HW_ => ?_)
              generalize w66.drew = w67 at HO_5 HO_623003 HO633 BK601 BK622 BK635 HB HR636_3 HR637_3 hx636_0 hx636_1 hx636_2 hx636_3 hx637_0 hx637_1 hx637_2 hx637_3 hHeld ⊢
              refine pure_ (i := 0) (N := some 98) (v := ?_) (a' := ?_) #[true, false, false, false, false, false, false, false, false, false, false, false, false, false, false, false, false, false, false, false, false] rfl rfl (any_of HT_.out (by kernel_rfl)) (fun _ _ _ h => h) (Or.inl ⟨by rfl, ?_⟩) ?_ ?_
              rotate_left
              ·intro w'
               go_simp
               with_reducible rfl
              rotate_left
              ·simp only [Act.put, List.setIfInBounds_toArray, List.set_cons_zero, List.set_cons_succ, i64_w, i32_w]
               rfl
              refine pure_ (i := 1) (N := some 99) (v := ?_) (a' := ?_) #[true, true, false, false, false, false, false, false, false, false, false, false, false, false, false, false, false, false, false, false, false] rfl rfl (any_of HT_.out (by kernel_rfl)) (fun _ _ _ h => h) (Or.inl ⟨by rfl, ?_⟩) ?_ ?_
              rotate_left
              ·intro w'
               go_simp
               with_reducible rfl
              rotate_left
              ·simp only [Act.put, List.setIfInBounds_toArray, List.set_cons_zero, List.set_cons_succ, i64_w, i32_w]
               rfl
              refine pure_ (i := 2) (N := some 100) (v := ?_) (a' := ?_) #[true, true, true, false, false, false, false, false, false, false, false, false, false, false, false, false, false, false, false, false, false] rfl rfl (any_of HT_.out (by kernel_rfl)) (fun _ _ _ h => h) (Or.inl ⟨by rfl, ?_⟩) ?_ ?_
              rotate_left
              ·intro w'
               go_simp
               with_reducible rfl
              rotate_left
              ·simp only [Act.put, List.setIfInBounds_toArray, List.set_cons_zero, List.set_cons_succ, i64_w, i32_w]
               rfl
              refine pure_ (i := 3) (N := some 101) (v := ?_) (a' := ?_) #[true, true, true, true, false, false, false, false, false, false, false, false, false, false, false, false, false, false, false, false, false] rfl rfl (any_of HT_.out (by kernel_rfl)) (fun _ _ _ h => h) (Or.inl ⟨by rfl, ?_⟩) ?_ ?_
              rotate_left
              ·intro w'
               go_simp
               with_reducible rfl
              rotate_left
              ·simp only [Act.put, List.setIfInBounds_toArray, List.set_cons_zero, List.set_cons_succ, i64_w, i32_w]
               rfl
              refine pure_ (i := 5) (N := some 103) (v := ?_) (a' := ?_) #[true, true, true, true, false, true, false, false, false, false, false, false, false, false, false, false, false, false, false, false, false] rfl rfl (any_of HT_.out (by kernel_rfl)) (fun _ _ _ h => h) (Or.inl ⟨by rfl, ?_⟩) ?_ ?_
              rotate_left
              ·intro w'
               go_simp
               with_reducible rfl
              rotate_left
              ·simp only [Act.put, List.setIfInBounds_toArray, List.set_cons_zero, List.set_cons_succ, i64_w, i32_w]
               rfl
              refine take_ (i := 4) (N := some 102) (v := ?_) (a' := ?_) #[true, true, true, true, true, true, false, false, false, false, false, false, false, false, false, false, false, false, false, false, false] rfl rfl (take_ofW HT_.out HW_.out (by kernel_rfl)) (fun _ _ _ h => h) (Or.inl ⟨by rfl, ?_⟩) hHeld ?_ ?_
              rotate_left
              ·rintro w' ⟨s0, s1, s2, s3, s4, s5, s6, s7, s8, s9, s10, s11, s12, s13, s14, s15⟩
               go_simp
               with_reducible rfl
              rotate_left
              ·simp only [Act.put, List.setIfInBounds_toArray, List.set_cons_zero, List.set_cons_succ, i64_w, i32_w]
               rfl
              refine take_ (i := 6) (N := some 104) (v := ?_) (a' := ?_) #[true, true, true, true, true, true, true, false, false, false, false, false, false, false, false, false, false, false, false, false, false] rfl rfl (take_ofW HT_.out HW_.out (by kernel_rfl)) (fun _ _ _ h => h) (Or.inl ⟨by rfl, ?_⟩) hHeld ?_ ?_
              rotate_left
              ·rintro w' ⟨s0, s1, s2, s3, s4, s5, s6, s7, s8, s9, s10, s11, s12, s13, s14, s15⟩
               go_simp
               with_reducible rfl
              rotate_left
              ·simp only [Act.put, List.setIfInBounds_toArray, List.set_cons_zero, List.set_cons_succ, i64_w, i32_w]
               rfl
              refine pure_ (i := 7) (N := some 105) (v := ?_) (a' := ?_) #[true, true, true, true, true, true, true, true, false, false, false, false, false, false, false, false, false, false, false, false, false] rfl rfl (any_of HT_.out (by kernel_rfl)) (fun _ _ _ h => h) (Or.inl ⟨by rfl, ?_⟩) ?_ ?_
              rotate_left
              ·intro w'
               go_simp
               with_reducible rfl
              rotate_left
              ·simp only [Act.put, List.setIfInBounds_toArray, List.set_cons_zero, List.set_cons_succ, i64_w, i32_w]
               rfl
              refine pure_ (i := 8) (N := some 106) (v := ?_) (a' := ?_) #[true, true, true, true, true, true, true, true, true, false, false, false, false, false, false, false, false, false, false, false, false] rfl rfl (any_of HT_.out (by kernel_rfl)) (fun _ _ _ h => h) (Or.inl ⟨by rfl, ?_⟩) ?_ ?_
              rotate_left
              ·intro w'
               go_simp
               with_reducible rfl
              rotate_left
              ·simp only [Act.put, List.setIfInBounds_toArray, List.set_cons_zero, List.set_cons_succ, i64_w, i32_w]
               rfl
              refine pure_ (i := 9) (N := some 107) (v := ?_) (a' := ?_) #[true, true, true, true, true, true, true, true, true, true, false, false, false, false, false, false, false, false, false, false, false] rfl rfl (any_of HT_.out (by kernel_rfl)) (fun _ _ _ h => h) (Or.inl ⟨by rfl, ?_⟩) ?_ ?_
              rotate_left
              ·intro w'
               go_simp
               with_reducible rfl
              rotate_left
              ·simp only [Act.put, List.setIfInBounds_toArray, List.set_cons_zero, List.set_cons_succ, i64_w, i32_w]
               rfl
              refine pure_ (i := 10) (N := some 108) (v := ?_) (a' := ?_) #[true, true, true, true, true, true, true, true, true, true, true, false, false, false, false, false, false, false, false, false, false] rfl rfl (any_of HT_.out (by kernel_rfl)) (fun _ _ _ h => h) (Or.inl ⟨by rfl, ?_⟩) ?_ ?_
              rotate_left
              ·intro w'
               go_simp
               with_reducible rfl
              rotate_left
              ·simp only [Act.put, List.setIfInBounds_toArray, List.set_cons_zero, List.set_cons_succ, i64_w, i32_w]
               rfl
              refine pure_ (i := 11) (N := some 109) (v := ?_) (a' := ?_) #[true, true, true, true, true, true, true, true, true, true, true, true, false, false, false, false, false, false, false, false, false] rfl rfl (any_of HT_.out (by kernel_rfl)) (fun _ _ _ h => h) (Or.inl ⟨by rfl, ?_⟩) ?_ ?_
              rotate_left
              ·intro w'
               go_simp
               with_reducible rfl
              rotate_left
              ·simp only [Act.put, List.setIfInBounds_toArray, List.set_cons_zero, List.set_cons_succ, i64_w, i32_w]
               rfl
              refine pure_ (i := 13) (N := some 111) (v := ?_) (a' := ?_) #[true, true, true, true, true, true, true, true, true, true, true, true, false, true, false, false, false, false, false, false, false] rfl rfl (any_of HT_.out (by kernel_rfl)) (fun _ _ _ h => h) (Or.inl ⟨by rfl, ?_⟩) ?_ ?_
              rotate_left
              ·intro w'
               go_simp
               with_reducible rfl
              rotate_left
              ·simp only [Act.put, List.setIfInBounds_toArray, List.set_cons_zero, List.set_cons_succ, i64_w, i32_w]
               rfl
              refine pure_ (i := 14) (N := some 112) (v := ?_) (a' := ?_) #[true, true, true, true, true, true, true, true, true, true, true, true, false, true, true, false, false, false, false, false, false] rfl rfl (any_of HT_.out (by kernel_rfl)) (fun _ _ _ h => h) (Or.inl ⟨by rfl, ?_⟩) ?_ ?_
              rotate_left
              ·intro w'
               go_simp
               with_reducible rfl
              rotate_left
              ·simp only [Act.put, List.setIfInBounds_toArray, List.set_cons_zero, List.set_cons_succ, i64_w, i32_w]
               rfl
              refine pure_ (i := 15) (N := some 113) (v := ?_) (a' := ?_) #[true, true, true, true, true, true, true, true, true, true, true, true, false, true, true, true, false, false, false, false, false] rfl rfl (any_of HT_.out (by kernel_rfl)) (fun _ _ _ h => h) (Or.inl ⟨by rfl, ?_⟩) ?_ ?_
              rotate_left
              ·intro w'
               go_simp
               with_reducible rfl
              rotate_left
              ·simp only [Act.put, List.setIfInBounds_toArray, List.set_cons_zero, List.set_cons_succ, i64_w, i32_w]
               rfl
              refine take_ (i := 12) (N := some 110) (v := ?_) (a' := ?_) #[true, true, true, true, true, true, true, true, true, true, true, true, true, true, true, true, false, false, false, false, false] rfl rfl (take_ofW HT_.out HW_.out (by kernel_rfl)) (fun _ _ _ h => h) (Or.inl ⟨by rfl, ?_⟩) hHeld ?_ ?_
              rotate_left
              ·rintro w' ⟨s0, s1, s2, s3, s4, s5, s6, s7, s8, s9, s10, s11, s12, s13, s14, s15⟩
               go_simp
               with_reducible rfl
              rotate_left
              ·simp only [Act.put, List.setIfInBounds_toArray, List.set_cons_zero, List.set_cons_succ, i64_w, i32_w]
               rfl
              refine take_ (i := 16) (N := some 114) (v := ?_) (a' := ?_) #[true, true, true, true, true, true, true, true, true, true, true, true, true, true, true, true, true, false, false, false, false] rfl rfl (take_ofW HT_.out HW_.out (by kernel_rfl)) (fun _ _ _ h => h) (Or.inl ⟨by rfl, ?_⟩) hHeld ?_ ?_
              rotate_left
              ·rintro w' ⟨s0, s1, s2, s3, s4, s5, s6, s7, s8, s9, s10, s11, s12, s13, s14, s15⟩
               go_simp
               with_reducible rfl
              rotate_left
              ·simp only [Act.put, List.setIfInBounds_toArray, List.set_cons_zero, List.set_cons_succ, i64_w, i32_w]
               rfl
              refine one_ (i := 17) (N := some 115) #[true, true, true, true, true, true, true, true, true, true, true, true, true, true, true, true, true, true, false, false, false] rfl rfl (one_of HT_.out (by kernel_rfl)) (by decide) (fun K hK => ?_)
              refine goes_ Try.func22 (by kernel_rfl) rfl #[.agg #[.int .i64 t628, .int .i64 t629, .int .i64 t630, .slice Ao65 t631.length co65], .agg #[.int .i64 ((rd_T32 l0 x13_2).f0), .int .i64 ((rd_T32 l0 x13_2).f1), .int .i64 ((rd_T32 l0 x13_2).f2), .slice A636_3 ((rd_T32 l0 x13_2).f3).length c636_3]] (by rfl) rfl rfl (by (try simp only [List.map_toArray, List.map_cons, List.map_nil]); first | done | rfl | (simp only [List.length_drop, List.length_take]; rfl)) ?_
              with_reducible refine (watchwordlaw0_SameLsa.calls k2 t628 t629 t630 _ _ t631 ((rd_T32 l0 x13_2).f0) ((rd_T32 l0 x13_2).f1) ((rd_T32 l0 x13_2).f2) _ _ ((rd_T32 l0 x13_2).f3) true _ ?side1 ?side2 ?side3 ?side4 A58.out).mono ?_
              (case side1 => repeat (first | exact (Kd.R_reads' HO633.out).2.2 | (with_reducible refine Kd.C_alloc ?_ _) | (with_reducible refine Kd.C_drewN ?_ _) | (with_reducible refine Kd.C_drew ?_)))
              (case side2 => exact (Kd.R_reads' HO633.out).2.1)
              (case side3 => repeat (first | exact (Kd.C_below HR637_3.out HB.out) | (with_reducible refine Kd.C_alloc ?_ _) | (with_reducible refine Kd.C_drewN ?_ _) | (with_reducible refine Kd.C_drew ?_)))
              (case side4 => exact HC637_3.out)
              rintro e w68 ⟨rfl, hb⟩
              refine ⟨_, rfl, ?_⟩
              have n0_ := Aside0.mk (Kd.N_below (by (with_reducible repeat (first | apply Kd.N_alloc | apply Kd.N_drewN | apply Kd.N_drew)); exact HO_5.out) hb)
              have n1_ := Aside0.mk (Kd.R_below (upR106 HO_623003.out) hb)
              have n2_ := Aside0.mk (Kd.R_below (upR106 HO633.out) hb)
              have n3_ := Aside0.mk (blk_below (upB106 BK601.out) hb)
              have n4_ := Aside0.mk (blk_below (upB106 BK622.out) hb)
              have n5_ := Aside0.mk (blk_below (upB106 BK635.out) hb)
              have n6_ := Aside0.mk (below_step (by repeat (first | (with_reducible first | exact HB.out | apply below_alloc | apply pw_below_drewN | apply below_drew1 | refine below_set ?_ GE601.out | refine below_set ?_ GE622.out | refine below_set ?_ GE635.out) | exact HB.out)) hb)
              clear HO_5
              clear HO_623003
              clear HO633
              clear BK601
              clear BK622
              clear BK635
              clear HB
              have HO_5 := n0_
              have HO_623003 := n1_
              have HO633 := n2_
              have BK601 := n3_
              have BK622 := n4_
              have BK635 := n5_
              have HB := n6_
              clear n0_ n1_ n2_ n3_ n4_ n5_ n6_
              (try clear hb)
              (try clear hb2)
              (try clear hk)
              (try clear hi)
              refine hK.out _ _ ⟨(blk_cell BK601.out 0).trans rfl, (blk_cell BK601.out 1).trans rfl, (blk_cell BK601.out 2).trans rfl, (blk_cell BK601.out 3).trans rfl, (blk_cell BK635.out 0).trans rfl, (blk_cell BK635.out 1).trans rfl, (blk_cell BK635.out 2).trans rfl, (blk_cell BK635.out 3).trans rfl, ((HB.out.cell (World.block_lt_of_cell? w _ hw636_0)).trans hw636_0), ((HB.out.cell (World.block_lt_of_cell? w _ hw636_1)).trans hw636_1), ((HB.out.cell (World.block_lt_of_cell? w _ hw636_2)).trans hw636_2), ((HB.out.cell (World.block_lt_of_cell? w _ hw636_3)).trans hw636_3), ((HB.out.cell (World.block_lt_of_cell? w _ hw637_0)).trans hw637_0), ((HB.out.cell (World.block_lt_of_cell? w _ hw637_1)).trans hw637_1), ((HB.out.cell (World.block_lt_of_cell? w _ hw637_2)).trans hw637_2), ((HB.out.cell (World.block_lt_of_cell? w _ hw637_3)).trans hw637_3)⟩ (fun hHeld => ?_)
              clear hK K
              refine norm_ (a' := ?_) ?_ ?_
              rotate_left
              ·show Act.put _ (some 115) _ = _
               simp only [Act.put, List.setIfInBounds_toArray, List.set_cons_zero, List.set_cons_succ, i64_w, i32_w]
               rfl
              refine pure_ (i := 18) (N := some 116) (v := ?_) (a' := ?_) #[true, true, true, true, true, true, true, true, true, true, true, true, true, true, true, true, true, true, true, false, false] rfl rfl (any_of HT_.out (by kernel_rfl)) (fun _ _ _ h => h) (Or.inl ⟨by rfl, ?_⟩) ?_ ?_
              rotate_left
              ·intro w'
               go_simp
               with_reducible rfl
              rotate_left
              ·simp only [Act.put, List.setIfInBounds_toArray, List.set_cons_zero, List.set_cons_succ, i64_w, i32_w]
               rfl
              refine pure_ (i := 19) (N := some 117) (v := ?_) (a' := ?_) #[true, true, true, true, true, true, true, true, true, true, true, true, true, true, true, true, true, true, true, true, false] rfl rfl (any_of HT_.out (by kernel_rfl)) (fun _ _ _ h => h) (Or.inl ⟨by rfl, ?_⟩) ?_ ?_
              rotate_left
              ·intro w'
               go_simp
               with_reducible rfl
              rotate_left
              ·simp only [Act.put, List.setIfInBounds_toArray, List.set_cons_zero, List.set_cons_succ, i64_w, i32_w]
               rfl
              refine pure_ (i := 20) (N := some 118) (v := ?_) (a' := ?_) #[true, true, true, true, true, true, true, true, true, true, true, true, true, true, true, true, true, true, true, true, true] rfl rfl (any_of HT_.out (by kernel_rfl)) (fun _ _ _ h => h) (Or.inl ⟨by rfl, ?_⟩) ?_ ?_
              rotate_left
              ·intro w'
               go_simp
               with_reducible rfl
              rotate_left
              ·simp only [Act.put, List.setIfInBounds_toArray, List.set_cons_zero, List.set_cons_succ, i64_w, i32_w]
               rfl
              refine done_ (done_of HT_.out (by kernel_rfl)) ?_
              try go_wp2
              go_roundg k2
              case measure => have := HJ10.out; have := HK2.out; omega
              case rel => exact ⟨(wrap64 (x13_2 + 1)), (by first | rfl | (simp; done) | (simp [*]; done)), H', ⟨by have := HJ10.out; have := HK2.out; omega⟩, ⟨by (with_reducible repeat (first | apply Kd.N_alloc | apply Kd.N_drewN | apply Kd.N_drew)); exact Kd.N_mono HO_5.out (fun _ hk => ⟨hk.1, ⟨hk.2.2.1, hk.2.2.2.1⟩⟩)⟩, ⟨by (with_reducible repeat (first | apply Kd.R_alloc | apply Kd.R_drewN | apply Kd.R_drew)); exact Kd.R_mono HO_623003.out (fun _ hk => trivial)⟩, ⟨upB106 BK601.out⟩, ⟨upB106 BK622.out⟩, ⟨by repeat (first | (with_reducible first | exact HB.out | apply below_alloc | apply pw_below_drewN | apply below_drew1 | refine below_set ?_ GE601.out | refine below_set ?_ GE622.out | refine below_set ?_ GE635.out) | exact HB.out)⟩⟩
             ·replace c59 := Bool.eq_false_iff.mpr c59
              subst c59
              have H1 : (some false) = some r := by rw [if_neg (show ¬ (false = true) by decide)] at H; exact H
              clear H
              have H := H1
              clear H1
              exact absurd (Option.some.inj H) (by rw [HT.out]; decide)
            ·replace c57 := Bool.eq_false_iff.mpr c57
             subst c57
             have H1 : (some false) = some r := by rw [if_neg (show ¬ (false = true) by decide)] at H; exact H
             clear H
             have H := H1
             clear H1
             exact absurd (Option.some.inj H) (by rw [HT.out]; decide)
          ·rw [if_neg c46] at H
           exact absurd H (by simp)
         ·rw [if_neg c45] at H
          have c45b0 : decide (x13_2 < (l0.length : Int)) = false := decide_eq_false c45
          clear c45
          replace H := Option.bind_eq_some_iff.mp H
          obtain ⟨t626, A690, H⟩ := H
          replace H : (some t626) = some r := H
          have A69 := Aside0.mk A690
          clear A690
          obtain rfl := Option.some.inj H
          go_wp2_with (first | ((with_reducible refine gate_callee (f := 13) rfl ?_); refine goesL_ (some 120) rfl rfl Try.func13 (by kernel_rfl) rfl #[.slice Ao17 t603.length co17] rfl (by (try simp only [List.map_toArray, List.map_cons, List.map_nil]); first | done | rfl | (simp only [List.length_drop, List.length_take]; rfl)) ?_; (with_reducible refine (store_May.calls k2 _ _ t603 t626 _ ?side1 ?side2 A69.out).mono ?_); (case side1 => repeat (first | exact (Kd.N_reads' HO_5.out).2.2 | (with_reducible refine Kd.C_alloc ?_ _) | (with_reducible refine Kd.C_drewN ?_ _) | (with_reducible refine Kd.C_drew ?_))); (case side2 => exact (Kd.N_reads' HO_5.out).2.1); rintro e w70 ⟨rfl, hb⟩; refine ⟨_, rfl, ?_⟩; have n0_ := Aside0.mk (Kd.N_below (by (with_reducible repeat (first | apply Kd.N_alloc | apply Kd.N_drewN | apply Kd.N_drew)); exact HO_5.out) hb); have n1_ := Aside0.mk (Kd.R_below (upR106 HO_623003.out) hb); have n2_ := Aside0.mk (blk_below (upB106 BK601.out) hb); have n3_ := Aside0.mk (blk_below (upB106 BK622.out) hb); have n4_ := Aside0.mk (below_step (by repeat (first | (with_reducible first | exact HB.out | apply below_alloc | apply pw_below_drewN | apply below_drew1 | refine below_set ?_ GE601.out | refine below_set ?_ GE622.out) | exact HB.out)) hb); clear HO_5; clear HO_623003; clear BK601; clear BK622; clear HB; have HO_5 := n0_; have HO_623003 := n1_; have BK601 := n2_; have BK622 := n3_; have HB := n4_; clear n0_ n1_ n2_ n3_ n4_; (try clear hb); (try clear hb2); (try clear hk); (try clear hi)))
          go_ret
          exact ⟨by first | rfl | (simp [errW_none, errW_some] <;> rfl) | (simp [*, errW_none, errW_some] <;> rfl), by repeat (first | (with_reducible first | exact HB.out | apply below_alloc | apply pw_below_drewN | apply below_drew1 | refine below_set ?_ GE601.out | refine below_set ?_ GE622.out) | exact HB.out)⟩
   ·replace c8 := Bool.eq_false_iff.mpr c8
    subst c8
    have H1 : ((watchwordlaw0_SameLsas.f k l0 t603).bind fun t609 => (some t609)) = some r := by rw [if_neg (show ¬ (false = true) by decide)] at H; exact H
    clear H
    have H := H1
    clear H1
    replace H := Option.bind_eq_some_iff.mp H
    obtain ⟨t609, A710, H⟩ := H
    replace H : (some t609) = some r := H
    have A71 := Aside0.mk A710
    clear A710
    obtain rfl := Option.some.inj H
    go_enter Try.func6, Try.ntmps6
    go_wp2_with (first | ((with_reducible refine gate_dst (N := 3) rfl ?_); refine box_event ?hg (N := 3) ?hd (cs := #[.int .i64 a1_0, .int .i64 a1_1, .int .i64 a1_2, .slice A1_3 l1_3.length c1_3]) (t := 32) ?hr ?_; (case hd => rfl); (case hg => rfl); (case hr => first | (go_simp; done) | (go_simp; rfl)); intro gb601 hg w72 hbox hb; have n0_ := Aside0.mk (below_step (by repeat (first | (with_reducible first | exact HB.out | apply below_alloc | apply pw_below_drewN | apply below_drew1) | exact HB.out)) hb); have n1_ := Aside0.mk (hbox); have n2_ := Aside0.mk ((by rw [hg]; exact (below_size (by repeat (first | (with_reducible first | exact HB.out | apply below_alloc | apply pw_below_drewN | apply below_drew1) | exact HB.out))) : w.heap.size ≤ gb601)); have n3_ := Aside0.mk ((by rw [hg]; exact (below_size (by repeat (first | (with_reducible first | exact HB.out | apply below_alloc | apply pw_below_drewN | apply below_drew1) | exact HB.out))) : w.heap.size ≤ gb601)); clear HB; have HB := n0_; have BK601 := n1_; have GW601 := n2_; have GE601 := n3_; clear n0_ n1_ n2_ n3_; clear hb hbox hg) | ((with_reducible refine gate_callee (f := 9) rfl ?_); refine goesL_ (some 16) rfl rfl Try.func9 (by kernel_rfl) rfl #[] rfl (by (try simp only [List.map_toArray, List.map_cons, List.map_nil]); first | done | rfl | (simp only [List.length_drop, List.length_take]; rfl)) ?_; (with_reducible refine (watchwordlaw18_awake.calls k  true _ A3.out (by first | rfl | exact HT.out)).mono ?_); rintro e w73 ⟨rfl, hb⟩; refine ⟨_, rfl, ?_⟩; have n0_ := Aside0.mk (blk_below (upB106 BK601.out) hb); have n1_ := Aside0.mk (below_step (by repeat (first | (with_reducible first | exact HB.out | apply below_alloc | apply pw_below_drewN | apply below_drew1 | refine below_set ?_ GE601.out) | exact HB.out)) hb); clear BK601; clear HB; have BK601 := n0_; have HB := n1_; clear n0_ n1_; (try clear hb); (try clear hb2); (try clear hk); (try clear hi); have hcz74_0 : w73.cell? ⟨gb601, 0, none⟩ = some (.int .i64 a1_0) := (blk_cell BK601.out 0).trans rfl; have hcz74_1 : w73.cell? ⟨gb601, 1, none⟩ = some (.int .i64 a1_1) := (blk_cell BK601.out 1).trans rfl; have hcz74_2 : w73.cell? ⟨gb601, 2, none⟩ = some (.int .i64 a1_2) := (blk_cell BK601.out 2).trans rfl; have hcz74_3 : w73.cell? ⟨gb601, 3, none⟩ = some (.slice A1_3 l1_3.length c1_3) := (blk_cell BK601.out 3).trans rfl; have hfz74_0 := blk_frozen BK601.out 0; have hfz74_1 := blk_frozen BK601.out 1; have hfz74_2 := blk_frozen BK601.out 2; have hfz74_3 := blk_frozen BK601.out 3) | ((with_reducible refine gate_callee (f := 10) rfl ?_); refine goesL_ (some 21) rfl rfl Try.func10 (by kernel_rfl) rfl #[.slice A0 l0.length c0, .agg #[.int .i64 a1_0, .int .i64 a1_1, .int .i64 a1_2, .slice A1_3 l1_3.length c1_3]] rfl (by (try simp only [List.map_toArray, List.map_cons, List.map_nil]); first | done | rfl | (simp only [List.length_drop, List.length_take]; rfl)) ?_; (with_reducible refine (store_With.calls k (fun k_ => k_ < w.heap.size) _ _ l0 a1_0 a1_1 a1_2 _ _ l1_3 t603 false t607 _ ?side1 ?side2 ?side3 A5.out).mono ?_); (case side1 => exact Kd.V_mk HC0.out (Kd.F_below (Kd.C_F k32_heap HR0.out) (by repeat (first | (with_reducible first | exact HB.out | apply below_alloc | apply pw_below_drewN | apply below_drew1 | refine below_set ?_ GE601.out) | exact HB.out)))); (case side2 => repeat (first | exact (Kd.C_below HR1_3.out HB.out) | (with_reducible refine Kd.C_alloc ?_ _) | (with_reducible refine Kd.C_drewN ?_ _) | (with_reducible refine Kd.C_drew ?_))); (case side3 => exact HC1_3.out); rintro e w75 ⟨v604, rfl, ho0, hb⟩; refine ⟨_, rfl, ?_⟩; have n0_ := Aside0.mk (Kd.N_lower (Kd.N_mono (ok' := fun k_ => k_ ≠ gb601) ho0 (fun k_ hk_ => Or.elim hk_ (fun hs_ => fun e_ => Nat.not_le.2 hs_ (by rw [e_]; exact GW601.out)) (fun hn_ => (Kd.freshB (g := gb601) (o := .cells #[.int .i64 a1_0, .int .i64 a1_1, .int .i64 a1_2, .slice A1_3 l1_3.length c1_3] 32 (0, 0)) (upB106 BK601.out) k_ hn_)))) (below_size (by repeat (first | (with_reducible first | exact HB.out | apply below_alloc | apply pw_below_drewN | apply below_drew1 | refine below_set ?_ GE601.out) | exact HB.out)))); have n1_ := Aside0.mk (blk_below (upB106 BK601.out) hb); have n2_ := Aside0.mk (below_step (by repeat (first | (with_reducible first | exact HB.out | apply below_alloc | apply pw_below_drewN | apply below_drew1 | refine below_set ?_ GE601.out) | exact HB.out)) hb); clear BK601; clear HB; have HO605 := n0_; have BK601 := n1_; have HB := n2_; clear n0_ n1_ n2_; (try clear hb); (try clear hb2); (try clear hk); (try clear hi); (try clear ho0)) | ((with_reducible refine gate_callee (f := 11) rfl ?_); refine goesL_ (some 26) rfl rfl Try.func11 (by kernel_rfl) rfl #[.int .i64 t607] rfl (by (try simp only [List.map_toArray, List.map_cons, List.map_nil]); first | done | rfl | (simp only [List.length_drop, List.length_take]; rfl)) ?_; (with_reducible refine (watchwordlaw0_Num.calls t607 t608 _ A6.out).mono ?_); rintro e w' ⟨rfl, ⟨nd, rfl⟩⟩; refine ⟨_, rfl, ?_⟩; obtain ⟨Ao76, co76, eo76⟩ := Kd.N_slice HO605.out; subst eo76) | ((with_reducible refine gate_callee (f := 21) rfl ?_); refine goesL_ (some 39) rfl rfl Try.func21 (by kernel_rfl) rfl #[.slice A0 l0.length c0, .slice Ao76 t603.length co76] rfl (by (try simp only [List.map_toArray, List.map_cons, List.map_nil]); first | done | rfl | (simp only [List.length_drop, List.length_take]; rfl)) ?_; (with_reducible refine (watchwordlaw0_SameLsas.calls k _ _ l0 _ _ t603 t609 _ ?side1 ?side2 ?side3 ?side4 A71.out).mono ?_); (case side1 => repeat (first | exact (Kd.C_below HR0.out (by repeat (first | (with_reducible first | exact HB.out | apply below_alloc | apply pw_below_drewN | apply below_drew1 | refine below_set ?_ GE601.out) | exact HB.out))) | (with_reducible refine Kd.C_alloc ?_ _) | (with_reducible refine Kd.C_drewN ?_ _) | (with_reducible refine Kd.C_drew ?_))); (case side2 => exact HC0.out); (case side3 => repeat (first | exact (Kd.N_reads' HO605.out).2.2 | (with_reducible refine Kd.C_alloc ?_ _) | (with_reducible refine Kd.C_drewN ?_ _) | (with_reducible refine Kd.C_drew ?_))); (case side4 => exact (Kd.N_reads' HO605.out).2.1); rintro e w77 ⟨rfl, hb⟩; refine ⟨_, rfl, ?_⟩; have n0_ := Aside0.mk (Kd.N_below (by (with_reducible repeat (first | apply Kd.N_alloc | apply Kd.N_drewN | apply Kd.N_drew)); exact HO605.out) hb); have n1_ := Aside0.mk (blk_below (upB106 BK601.out) hb); have n2_ := Aside0.mk (below_step (by repeat (first | (with_reducible first | exact HB.out | apply below_alloc | apply pw_below_drewN | apply below_drew1 | refine below_set ?_ GE601.out) | exact HB.out)) hb); clear HO605; clear BK601; clear HB; have HO605 := n0_; have BK601 := n1_; have HB := n2_; clear n0_ n1_ n2_; (try clear hb); (try clear hb2); (try clear hk); (try clear hi)))
    go_ret
    exact ⟨by first | rfl | (simp [errW_none, errW_some] <;> rfl) | (simp [*, errW_none, errW_some] <;> rfl), by repeat (first | (with_reducible first | exact HB.out | apply below_alloc | apply pw_below_drewN | apply below_drew1 | refine below_set ?_ GE601.out) | exact HB.out)⟩
  ·rw [if_neg c7] at H
   have c7b0 : (t608 == 0) = false := beq_eq_false_iff_ne.mpr c7
   have c7b1 : (t608 != 0) = true := bne_iff_ne.mpr c7
   by_cases c78 : (t603.length : Int) = 0
   ·rw [if_pos c78] at H
    have c78b0 : ((t603.length : Int) == 0) = true := beq_iff_eq.mpr c78
    have c78b1 : ((t603.length : Int) != 0) = false := bne_eq_false_iff_eq.mpr c78
    clear c78
    obtain rfl := Option.some.inj H
    go_enter Try.func6, Try.ntmps6
    go_wp2_with (first | ((with_reducible refine gate_dst (N := 3) rfl ?_); refine box_event ?hg (N := 3) ?hd (cs := #[.int .i64 a1_0, .int .i64 a1_1, .int .i64 a1_2, .slice A1_3 l1_3.length c1_3]) (t := 32) ?hr ?_; (case hd => rfl); (case hg => rfl); (case hr => first | (go_simp; done) | (go_simp; rfl)); intro gb601 hg w79 hbox hb; have n0_ := Aside0.mk (below_step (by repeat (first | (with_reducible first | exact HB.out | apply below_alloc | apply pw_below_drewN | apply below_drew1) | exact HB.out)) hb); have n1_ := Aside0.mk (hbox); have n2_ := Aside0.mk ((by rw [hg]; exact (below_size (by repeat (first | (with_reducible first | exact HB.out | apply below_alloc | apply pw_below_drewN | apply below_drew1) | exact HB.out))) : w.heap.size ≤ gb601)); have n3_ := Aside0.mk ((by rw [hg]; exact (below_size (by repeat (first | (with_reducible first | exact HB.out | apply below_alloc | apply pw_below_drewN | apply below_drew1) | exact HB.out))) : w.heap.size ≤ gb601)); clear HB; have HB := n0_; have BK601 := n1_; have GW601 := n2_; have GE601 := n3_; clear n0_ n1_ n2_ n3_; clear hb hbox hg) | ((with_reducible refine gate_callee (f := 9) rfl ?_); refine goesL_ (some 16) rfl rfl Try.func9 (by kernel_rfl) rfl #[] rfl (by (try simp only [List.map_toArray, List.map_cons, List.map_nil]); first | done | rfl | (simp only [List.length_drop, List.length_take]; rfl)) ?_; (with_reducible refine (watchwordlaw18_awake.calls k  true _ A3.out (by first | rfl | exact HT.out)).mono ?_); rintro e w80 ⟨rfl, hb⟩; refine ⟨_, rfl, ?_⟩; have n0_ := Aside0.mk (blk_below (upB106 BK601.out) hb); have n1_ := Aside0.mk (below_step (by repeat (first | (with_reducible first | exact HB.out | apply below_alloc | apply pw_below_drewN | apply below_drew1 | refine below_set ?_ GE601.out) | exact HB.out)) hb); clear BK601; clear HB; have BK601 := n0_; have HB := n1_; clear n0_ n1_; (try clear hb); (try clear hb2); (try clear hk); (try clear hi); have hcz81_0 : w80.cell? ⟨gb601, 0, none⟩ = some (.int .i64 a1_0) := (blk_cell BK601.out 0).trans rfl; have hcz81_1 : w80.cell? ⟨gb601, 1, none⟩ = some (.int .i64 a1_1) := (blk_cell BK601.out 1).trans rfl; have hcz81_2 : w80.cell? ⟨gb601, 2, none⟩ = some (.int .i64 a1_2) := (blk_cell BK601.out 2).trans rfl; have hcz81_3 : w80.cell? ⟨gb601, 3, none⟩ = some (.slice A1_3 l1_3.length c1_3) := (blk_cell BK601.out 3).trans rfl; have hfz81_0 := blk_frozen BK601.out 0; have hfz81_1 := blk_frozen BK601.out 1; have hfz81_2 := blk_frozen BK601.out 2; have hfz81_3 := blk_frozen BK601.out 3) | ((with_reducible refine gate_callee (f := 10) rfl ?_); refine goesL_ (some 21) rfl rfl Try.func10 (by kernel_rfl) rfl #[.slice A0 l0.length c0, .agg #[.int .i64 a1_0, .int .i64 a1_1, .int .i64 a1_2, .slice A1_3 l1_3.length c1_3]] rfl (by (try simp only [List.map_toArray, List.map_cons, List.map_nil]); first | done | rfl | (simp only [List.length_drop, List.length_take]; rfl)) ?_; (with_reducible refine (store_With.calls k (fun k_ => k_ < w.heap.size) _ _ l0 a1_0 a1_1 a1_2 _ _ l1_3 t603 t606 t607 _ ?side1 ?side2 ?side3 A5.out).mono ?_); (case side1 => exact Kd.V_mk HC0.out (Kd.F_below (Kd.C_F k32_heap HR0.out) (by repeat (first | (with_reducible first | exact HB.out | apply below_alloc | apply pw_below_drewN | apply below_drew1 | refine below_set ?_ GE601.out) | exact HB.out)))); (case side2 => repeat (first | exact (Kd.C_below HR1_3.out HB.out) | (with_reducible refine Kd.C_alloc ?_ _) | (with_reducible refine Kd.C_drewN ?_ _) | (with_reducible refine Kd.C_drew ?_))); (case side3 => exact HC1_3.out); rintro e w82 ⟨v604, rfl, ho0, hb⟩; refine ⟨_, rfl, ?_⟩; have n0_ := Aside0.mk (Kd.N_lower (Kd.N_mono (ok' := fun k_ => k_ ≠ gb601) ho0 (fun k_ hk_ => Or.elim hk_ (fun hs_ => fun e_ => Nat.not_le.2 hs_ (by rw [e_]; exact GW601.out)) (fun hn_ => (Kd.freshB (g := gb601) (o := .cells #[.int .i64 a1_0, .int .i64 a1_1, .int .i64 a1_2, .slice A1_3 l1_3.length c1_3] 32 (0, 0)) (upB106 BK601.out) k_ hn_)))) (below_size (by repeat (first | (with_reducible first | exact HB.out | apply below_alloc | apply pw_below_drewN | apply below_drew1 | refine below_set ?_ GE601.out) | exact HB.out)))); have n1_ := Aside0.mk (blk_below (upB106 BK601.out) hb); have n2_ := Aside0.mk (below_step (by repeat (first | (with_reducible first | exact HB.out | apply below_alloc | apply pw_below_drewN | apply below_drew1 | refine below_set ?_ GE601.out) | exact HB.out)) hb); clear BK601; clear HB; have HO605 := n0_; have BK601 := n1_; have HB := n2_; clear n0_ n1_ n2_; (try clear hb); (try clear hb2); (try clear hk); (try clear hi); (try clear ho0)) | ((with_reducible refine gate_callee (f := 11) rfl ?_); refine goesL_ (some 26) rfl rfl Try.func11 (by kernel_rfl) rfl #[.int .i64 t607] rfl (by (try simp only [List.map_toArray, List.map_cons, List.map_nil]); first | done | rfl | (simp only [List.length_drop, List.length_take]; rfl)) ?_; (with_reducible refine (watchwordlaw0_Num.calls t607 t608 _ A6.out).mono ?_); rintro e w' ⟨rfl, ⟨nd, rfl⟩⟩; refine ⟨_, rfl, ?_⟩; obtain ⟨Ao83, co83, eo83⟩ := Kd.N_slice HO605.out; subst eo83))
    go_ret
    exact ⟨by first | rfl | (simp [errW_none, errW_some] <;> rfl) | (simp [*, errW_none, errW_some] <;> rfl), by repeat (first | (with_reducible first | exact HB.out | apply below_alloc | apply pw_below_drewN | apply below_drew1 | refine below_set ?_ GE601.out) | exact HB.out)⟩
   ·rw [if_neg c78] at H
    have c78b0 : ((t603.length : Int) == 0) = false := beq_eq_false_iff_ne.mpr c78
    have c78b1 : ((t603.length : Int) != 0) = true := bne_iff_ne.mpr c78
    have c78b2 : ¬ (t603 = []) := fun h_ => c78 (by rw [h_]; rfl)
    exact absurd (Option.some.inj H) (by rw [HT.out]; decide)
 ·replace c4 := Bool.eq_false_iff.mpr c4
  subst c4
  have H1 : (some false) = some r := by rw [if_neg (show ¬ (false = true) by decide)] at H; exact H
  clear H
  have H := H1
  clear H1
  exact absurd (Option.some.inj H) (by rw [HT.out]; decide)

end Go.Proofs.Ytbpoflicphgokaa.Q18
