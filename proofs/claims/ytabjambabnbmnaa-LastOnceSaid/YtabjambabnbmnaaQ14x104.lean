/- Written by a program of this session out of the print of the loaded functions: each Go function as a plain function, and that its call comes to it; for a law, the row out of its plain statement. -/
import Derived.Test.YtabjambabnbmnaaQ14x0
import Derived.Test.YtabjambabnbmnaaQ14x114
import Derived.Test.YtabjambabnbmnaaQ14x116
import Derived.Test.YtabjambabnbmnaaQ14x118
import Derived.Test.YtabjambabnbmnaaQ14x124
namespace Go.Proofs.Ytabjambabnbmnaa.Q14
open Go.RowKit Go.Proofs.YtabjambabnbmnaaW.PrintWords Go.Proofs.YtabjambabnbmnaaW.PrintLast Go.Proofs.YtabjambabnbmnaaW.PrintMore
attribute [local go_sem] max2_int min2_int max_two min_two max_three min_three max_four min_four   -- for this text's walks alone
set_option linter.unusedVariables false
set_option linter.unusedSimpArgs false

/-! ### watchwordlaw14_LastOnce: function 4 -/
def watchwordlaw14_LastOnce.j0 : Nat → Bool → Int → Bool → Bool → Int → Int → Int → Int → Int → Int → Int → Int → Option (Bool)
 | 0, _, _, _, _, _, _, _, _, _, _, _, _ => none
 | k + 1, x11, x12, x13, x59, x285000, x285001, x285002, x285003, x286000, x286001, x286002, x286003 => if x59 = true then (some false) else ((watchwordlaw0_Num.f x12).bind fun t301 => (if t301 = 0 then (if x286000 = x285000 then (if x286001 = x285001 then (if x286002 > x285002 then (some (x13 == true)) else (if x286002 = x285002 then (some (x13 == (decide (x286003 > x285003)))) else (some (x13 == false)))) else (some (x11 == x13))) else (some (x11 == x13))) else (some (x11 == x13))))
def watchwordlaw14_LastOnce.f (k : Nat) (l0 : List (S24)) (a1_0 : Int) (a1_1 : Int) (a1_2 : Int) (a1_3 : Int) (a2_0 : Int) (a2_1 : Int) (a2_2 : Int) (a2_3 : Int) : Option (Bool) := (watchwordlaw14_awake.f k).bind fun t286 => (if t286 = true then ((last_With.f k l0 a1_0 a1_1 a1_2 a1_3).bind fun bt287 => ((watchwordlaw0_Num.f bt287.2).bind fun t291 => (if t291 = 0 then ((last_Newer.f k bt287.1 a1_0 a1_1 a1_2 a1_3).bind fun bt292 => ((last_Newer.f k l0 a2_0 a2_1 a2_2 a2_3).bind fun bt294 => ((last_Newer.f k bt287.1 a2_0 a2_1 a2_2 a2_3).bind fun bt296 => ((watchwordlaw0_Num.f bt292.2).bind fun t298 => (if t298 = 0 then (if bt292.1 = true then (watchwordlaw14_LastOnce.j0 k bt294.1 bt294.2 bt296.1 true a1_0 a1_1 a1_2 a1_3 a2_0 a2_1 a2_2 a2_3) else ((watchwordlaw0_Num.f bt294.2).bind fun t299 => ((watchwordlaw0_Num.f bt296.2).bind fun t300 => (watchwordlaw14_LastOnce.j0 k bt294.1 bt294.2 bt296.1 (t299 != t300) a1_0 a1_1 a1_2 a1_3 a2_0 a2_1 a2_2 a2_3)))) else (watchwordlaw14_LastOnce.j0 k bt294.1 bt294.2 bt296.1 true a1_0 a1_1 a1_2 a1_3 a2_0 a2_1 a2_2 a2_3)))))) else (some ((bt287.1.length : Int) == 0))))) else (some false))
theorem watchwordlaw14_LastOnce.mono_l : ∀ k, (∀ y0 y1 y2 y3 y4 y5 y6 y7 y8 y9 y10 y11, LeO (watchwordlaw14_LastOnce.j0 k y0 y1 y2 y3 y4 y5 y6 y7 y8 y9 y10 y11) (watchwordlaw14_LastOnce.j0 (k + 1) y0 y1 y2 y3 y4 y5 y6 y7 y8 y9 y10 y11))
 | 0 => fun _ _ _ _ _ _ _ _ _ _ _ _ r h => by simp [watchwordlaw14_LastOnce.j0] at h
 | k + 1 => by
  have ih0 := watchwordlaw14_LastOnce.mono_l k
  ·intro y0 y1 y2 y3 y4 y5 y6 y7 y8 y9 y10 y11
   unfold watchwordlaw14_LastOnce.j0
   repeat' first
   | (with_reducible exact ih0 _ _ _ _ _ _ _ _ _ _ _ _)
   | (with_reducible exact last_Newer.mono _ _ _ _ _ _)
   | (with_reducible exact last_With.mono _ _ _ _ _ _)
   | (with_reducible exact watchwordlaw14_awake.mono _)
   | (with_reducible exact LeO.refl _)
   | (with_reducible exact LeO.none _)
   | (with_reducible refine LeO.ite ?_ ?_)
   | (with_reducible refine LeO.bind ?_ (fun _ => ?_))
   | exact ih0 _ _ _ _ _ _ _ _ _ _ _ _
   | exact last_Newer.mono _ _ _ _ _ _
   | exact last_With.mono _ _ _ _ _ _
   | exact watchwordlaw14_awake.mono _
   | exact LeO.none _
   | refine LeO.ite ?_ ?_
   | refine LeO.bind ?_ (fun _ => ?_)
theorem watchwordlaw14_LastOnce.mono : ∀ a0 a1 a2 a3 a4 a5 a6 a7 a8 k, LeO (watchwordlaw14_LastOnce.f k a0 a1 a2 a3 a4 a5 a6 a7 a8) (watchwordlaw14_LastOnce.f (k + 1) a0 a1 a2 a3 a4 a5 a6 a7 a8) := by
 intro a0 a1 a2 a3 a4 a5 a6 a7 a8 k
 have ih0 := watchwordlaw14_LastOnce.mono_l k
 unfold watchwordlaw14_LastOnce.f
 repeat' first
   | (with_reducible exact ih0 _ _ _ _ _ _ _ _ _ _ _ _)
   | (with_reducible exact last_Newer.mono _ _ _ _ _ _)
   | (with_reducible exact last_With.mono _ _ _ _ _ _)
   | (with_reducible exact watchwordlaw14_awake.mono _)
   | (with_reducible exact LeO.refl _)
   | (with_reducible exact LeO.none _)
   | (with_reducible refine LeO.ite ?_ ?_)
   | (with_reducible refine LeO.bind ?_ (fun _ => ?_))
   | exact ih0 _ _ _ _ _ _ _ _ _ _ _ _
   | exact last_Newer.mono _ _ _ _ _ _
   | exact last_With.mono _ _ _ _ _ _
   | exact watchwordlaw14_awake.mono _
   | exact LeO.none _
   | refine LeO.ite ?_ ?_
   | refine LeO.bind ?_ (fun _ => ?_)
set_option maxHeartbeats 8000000 in
set_option maxRecDepth 100000 in
theorem watchwordlaw14_LastOnce.calls (k : Nat) (A0 : Option Addr) (c0 : Nat) (l0 : List (S24)) (a1_0 : Int) (a1_1 : Int) (a1_2 : Int) (a1_3 : Int) (a2_0 : Int) (a2_1 : Int) (a2_2 : Int) (a2_3 : Int) (r : Bool) (w : World) (hr0 : Kd.C k24 w A0 l0.length l0) (hc0 : l0.length ≤ c0) (h : watchwordlaw14_LastOnce.f k l0 a1_0 a1_1 a1_2 a1_3 a2_0 a2_1 a2_2 a2_3 = some r) (hT : r = true) :
  Calls Try.prog 4 #[.slice A0 l0.length c0, .agg #[.int .i64 a1_0, .int .i64 a1_1, .int .i64 a1_2, .int .i64 a1_3], .agg #[.int .i64 a2_0, .int .i64 a2_1, .int .i64 a2_2, .int .i64 a2_3]] w fun e w' => e = .returned (.bool r) ∧ Below w.heap.size w w' := by
 have hu24 := Try.underlying24
 have HR0 := Aside0.mk hr0
 have HC0 := Aside0.mk hc0
 clear hr0 hc0
 have HB := Aside0.mk (Below.refl w.heap.size w)
 have HT := Aside0.mk hT
 clear hT
 have H : ((watchwordlaw14_awake.f k).bind fun t286 => (if t286 = true then ((last_With.f k l0 a1_0 a1_1 a1_2 a1_3).bind fun bt287 => ((watchwordlaw0_Num.f bt287.2).bind fun t291 => (if t291 = 0 then ((last_Newer.f k bt287.1 a1_0 a1_1 a1_2 a1_3).bind fun bt292 => ((last_Newer.f k l0 a2_0 a2_1 a2_2 a2_3).bind fun bt294 => ((last_Newer.f k bt287.1 a2_0 a2_1 a2_2 a2_3).bind fun bt296 => ((watchwordlaw0_Num.f bt292.2).bind fun t298 => (if t298 = 0 then (if bt292.1 = true then (watchwordlaw14_LastOnce.j0 k bt294.1 bt294.2 bt296.1 true a1_0 a1_1 a1_2 a1_3 a2_0 a2_1 a2_2 a2_3) else ((watchwordlaw0_Num.f bt294.2).bind fun t299 => ((watchwordlaw0_Num.f bt296.2).bind fun t300 => (watchwordlaw14_LastOnce.j0 k bt294.1 bt294.2 bt296.1 (t299 != t300) a1_0 a1_1 a1_2 a1_3 a2_0 a2_1 a2_2 a2_3)))) else (watchwordlaw14_LastOnce.j0 k bt294.1 bt294.2 bt296.1 true a1_0 a1_1 a1_2 a1_3 a2_0 a2_1 a2_2 a2_3)))))) else (some ((bt287.1.length : Int) == 0))))) else (some false))) = some r := h
 clear h
 replace H := Option.bind_eq_some_iff.mp H
 obtain ⟨t286, A40, H⟩ := H
 replace H : (if t286 = true then ((last_With.f k l0 a1_0 a1_1 a1_2 a1_3).bind fun bt287 => ((watchwordlaw0_Num.f bt287.2).bind fun t291 => (if t291 = 0 then ((last_Newer.f k bt287.1 a1_0 a1_1 a1_2 a1_3).bind fun bt292 => ((last_Newer.f k l0 a2_0 a2_1 a2_2 a2_3).bind fun bt294 => ((last_Newer.f k bt287.1 a2_0 a2_1 a2_2 a2_3).bind fun bt296 => ((watchwordlaw0_Num.f bt292.2).bind fun t298 => (if t298 = 0 then (if bt292.1 = true then (watchwordlaw14_LastOnce.j0 k bt294.1 bt294.2 bt296.1 true a1_0 a1_1 a1_2 a1_3 a2_0 a2_1 a2_2 a2_3) else ((watchwordlaw0_Num.f bt294.2).bind fun t299 => ((watchwordlaw0_Num.f bt296.2).bind fun t300 => (watchwordlaw14_LastOnce.j0 k bt294.1 bt294.2 bt296.1 (t299 != t300) a1_0 a1_1 a1_2 a1_3 a2_0 a2_1 a2_2 a2_3)))) else (watchwordlaw14_LastOnce.j0 k bt294.1 bt294.2 bt296.1 true a1_0 a1_1 a1_2 a1_3 a2_0 a2_1 a2_2 a2_3)))))) else (some ((bt287.1.length : Int) == 0))))) else (some false)) = some r := H
 have A4 := Aside0.mk A40
 clear A40
 by_cases c5 : t286 = true
 ·subst c5
  have H1 : ((last_With.f k l0 a1_0 a1_1 a1_2 a1_3).bind fun bt287 => ((watchwordlaw0_Num.f bt287.2).bind fun t291 => (if t291 = 0 then ((last_Newer.f k bt287.1 a1_0 a1_1 a1_2 a1_3).bind fun bt292 => ((last_Newer.f k l0 a2_0 a2_1 a2_2 a2_3).bind fun bt294 => ((last_Newer.f k bt287.1 a2_0 a2_1 a2_2 a2_3).bind fun bt296 => ((watchwordlaw0_Num.f bt292.2).bind fun t298 => (if t298 = 0 then (if bt292.1 = true then (watchwordlaw14_LastOnce.j0 k bt294.1 bt294.2 bt296.1 true a1_0 a1_1 a1_2 a1_3 a2_0 a2_1 a2_2 a2_3) else ((watchwordlaw0_Num.f bt294.2).bind fun t299 => ((watchwordlaw0_Num.f bt296.2).bind fun t300 => (watchwordlaw14_LastOnce.j0 k bt294.1 bt294.2 bt296.1 (t299 != t300) a1_0 a1_1 a1_2 a1_3 a2_0 a2_1 a2_2 a2_3)))) else (watchwordlaw14_LastOnce.j0 k bt294.1 bt294.2 bt296.1 true a1_0 a1_1 a1_2 a1_3 a2_0 a2_1 a2_2 a2_3)))))) else (some ((bt287.1.length : Int) == 0))))) = some r := by rw [if_pos rfl] at H; exact H
  clear H
  have H := H1
  clear H1
  replace H := Option.bind_eq_some_iff.mp H
  obtain ⟨⟨t287, t290⟩, A60, H⟩ := H
  replace H : ((watchwordlaw0_Num.f t290).bind fun t291 => (if t291 = 0 then ((last_Newer.f k t287 a1_0 a1_1 a1_2 a1_3).bind fun bt292 => ((last_Newer.f k l0 a2_0 a2_1 a2_2 a2_3).bind fun bt294 => ((last_Newer.f k t287 a2_0 a2_1 a2_2 a2_3).bind fun bt296 => ((watchwordlaw0_Num.f bt292.2).bind fun t298 => (if t298 = 0 then (if bt292.1 = true then (watchwordlaw14_LastOnce.j0 k bt294.1 bt294.2 bt296.1 true a1_0 a1_1 a1_2 a1_3 a2_0 a2_1 a2_2 a2_3) else ((watchwordlaw0_Num.f bt294.2).bind fun t299 => ((watchwordlaw0_Num.f bt296.2).bind fun t300 => (watchwordlaw14_LastOnce.j0 k bt294.1 bt294.2 bt296.1 (t299 != t300) a1_0 a1_1 a1_2 a1_3 a2_0 a2_1 a2_2 a2_3)))) else (watchwordlaw14_LastOnce.j0 k bt294.1 bt294.2 bt296.1 true a1_0 a1_1 a1_2 a1_3 a2_0 a2_1 a2_2 a2_3)))))) else (some ((t287.length : Int) == 0)))) = some r := H
  have A6 := Aside0.mk A60
  clear A60
  replace H := Option.bind_eq_some_iff.mp H
  obtain ⟨t291, A70, H⟩ := H
  replace H : (if t291 = 0 then ((last_Newer.f k t287 a1_0 a1_1 a1_2 a1_3).bind fun bt292 => ((last_Newer.f k l0 a2_0 a2_1 a2_2 a2_3).bind fun bt294 => ((last_Newer.f k t287 a2_0 a2_1 a2_2 a2_3).bind fun bt296 => ((watchwordlaw0_Num.f bt292.2).bind fun t298 => (if t298 = 0 then (if bt292.1 = true then (watchwordlaw14_LastOnce.j0 k bt294.1 bt294.2 bt296.1 true a1_0 a1_1 a1_2 a1_3 a2_0 a2_1 a2_2 a2_3) else ((watchwordlaw0_Num.f bt294.2).bind fun t299 => ((watchwordlaw0_Num.f bt296.2).bind fun t300 => (watchwordlaw14_LastOnce.j0 k bt294.1 bt294.2 bt296.1 (t299 != t300) a1_0 a1_1 a1_2 a1_3 a2_0 a2_1 a2_2 a2_3)))) else (watchwordlaw14_LastOnce.j0 k bt294.1 bt294.2 bt296.1 true a1_0 a1_1 a1_2 a1_3 a2_0 a2_1 a2_2 a2_3)))))) else (some ((t287.length : Int) == 0))) = some r := H
  have A7 := Aside0.mk A70
  clear A70
  by_cases c8 : t291 = 0
  ·rw [if_pos c8] at H
   have c8b0 : (t291 == 0) = true := beq_iff_eq.mpr c8
   have c8b1 : (t291 != 0) = false := bne_eq_false_iff_eq.mpr c8
   clear c8
   replace H := Option.bind_eq_some_iff.mp H
   obtain ⟨⟨t292, t293⟩, A90, H⟩ := H
   replace H : ((last_Newer.f k l0 a2_0 a2_1 a2_2 a2_3).bind fun bt294 => ((last_Newer.f k t287 a2_0 a2_1 a2_2 a2_3).bind fun bt296 => ((watchwordlaw0_Num.f t293).bind fun t298 => (if t298 = 0 then (if t292 = true then (watchwordlaw14_LastOnce.j0 k bt294.1 bt294.2 bt296.1 true a1_0 a1_1 a1_2 a1_3 a2_0 a2_1 a2_2 a2_3) else ((watchwordlaw0_Num.f bt294.2).bind fun t299 => ((watchwordlaw0_Num.f bt296.2).bind fun t300 => (watchwordlaw14_LastOnce.j0 k bt294.1 bt294.2 bt296.1 (t299 != t300) a1_0 a1_1 a1_2 a1_3 a2_0 a2_1 a2_2 a2_3)))) else (watchwordlaw14_LastOnce.j0 k bt294.1 bt294.2 bt296.1 true a1_0 a1_1 a1_2 a1_3 a2_0 a2_1 a2_2 a2_3))))) = some r := H
   have A9 := Aside0.mk A90
   clear A90
   replace H := Option.bind_eq_some_iff.mp H
   obtain ⟨⟨t294, t295⟩, A100, H⟩ := H
   replace H : ((last_Newer.f k t287 a2_0 a2_1 a2_2 a2_3).bind fun bt296 => ((watchwordlaw0_Num.f t293).bind fun t298 => (if t298 = 0 then (if t292 = true then (watchwordlaw14_LastOnce.j0 k t294 t295 bt296.1 true a1_0 a1_1 a1_2 a1_3 a2_0 a2_1 a2_2 a2_3) else ((watchwordlaw0_Num.f t295).bind fun t299 => ((watchwordlaw0_Num.f bt296.2).bind fun t300 => (watchwordlaw14_LastOnce.j0 k t294 t295 bt296.1 (t299 != t300) a1_0 a1_1 a1_2 a1_3 a2_0 a2_1 a2_2 a2_3)))) else (watchwordlaw14_LastOnce.j0 k t294 t295 bt296.1 true a1_0 a1_1 a1_2 a1_3 a2_0 a2_1 a2_2 a2_3)))) = some r := H
   have A10 := Aside0.mk A100
   clear A100
   replace H := Option.bind_eq_some_iff.mp H
   obtain ⟨⟨t296, t297⟩, A110, H⟩ := H
   replace H : ((watchwordlaw0_Num.f t293).bind fun t298 => (if t298 = 0 then (if t292 = true then (watchwordlaw14_LastOnce.j0 k t294 t295 t296 true a1_0 a1_1 a1_2 a1_3 a2_0 a2_1 a2_2 a2_3) else ((watchwordlaw0_Num.f t295).bind fun t299 => ((watchwordlaw0_Num.f t297).bind fun t300 => (watchwordlaw14_LastOnce.j0 k t294 t295 t296 (t299 != t300) a1_0 a1_1 a1_2 a1_3 a2_0 a2_1 a2_2 a2_3)))) else (watchwordlaw14_LastOnce.j0 k t294 t295 t296 true a1_0 a1_1 a1_2 a1_3 a2_0 a2_1 a2_2 a2_3))) = some r := H
   have A11 := Aside0.mk A110
   clear A110
   have HC12 := Aside0.mk H
   clear H
   go_enter Try.func4, Try.ntmps4
   go_upto_region 9 with (first | ((with_reducible refine gate_dst (N := 4) rfl ?_); refine box_event ?hg (N := 4) ?hd (cs := #[.int .i64 a1_0, .int .i64 a1_1, .int .i64 a1_2, .int .i64 a1_3]) (t := 24) ?hr ?_; (case hd => rfl); (case hg => rfl); (case hr => first | (go_simp; done) | (go_simp; rfl)); intro gb284 hg w13 hbox hb; have n0_ := Aside0.mk (below_step (by repeat (first | (with_reducible first | exact HB.out | apply below_alloc | apply pw_below_drewN | apply below_drew1) | exact HB.out)) hb); have n1_ := Aside0.mk (hbox); have n2_ := Aside0.mk ((by rw [hg]; exact (below_size (by repeat (first | (with_reducible first | exact HB.out | apply below_alloc | apply pw_below_drewN | apply below_drew1) | exact HB.out))) : w.heap.size ≤ gb284)); have n3_ := Aside0.mk ((by rw [hg]; exact (below_size (by repeat (first | (with_reducible first | exact HB.out | apply below_alloc | apply pw_below_drewN | apply below_drew1) | exact HB.out))) : w.heap.size ≤ gb284)); clear HB; have HB := n0_; have BK284 := n1_; have GW284 := n2_; have GE284 := n3_; clear n0_ n1_ n2_ n3_; clear hb hbox hg) | ((with_reducible refine gate_dst (N := 5) rfl ?_); refine box_event ?hg (N := 5) ?hd (cs := #[.int .i64 a2_0, .int .i64 a2_1, .int .i64 a2_2, .int .i64 a2_3]) (t := 24) ?hr ?_; (case hd => rfl); (case hg => rfl); (case hr => first | (go_simp; done) | (go_simp; rfl)); intro gb285 hg w14 hbox hb; have n0_ := Aside0.mk (blk_below (g := gb284) (o := .cells #[.int .i64 a1_0, .int .i64 a1_1, .int .i64 a1_2, .int .i64 a1_3] 24 (0, 0)) (by (with_reducible repeat (first | refine blk_drewN ?_ _ | refine blk_drew ?_ | refine blk_alloc ?_ _)); exact BK284.out) hb); have n1_ := Aside0.mk (below_step (by repeat (first | (with_reducible first | exact HB.out | apply below_alloc | apply pw_below_drewN | apply below_drew1 | refine below_set ?_ GE284.out) | exact HB.out)) hb); have n2_ := Aside0.mk (hbox); have n3_ := Aside0.mk ((by rw [hg]; exact (below_size (by repeat (first | (with_reducible first | exact HB.out | apply below_alloc | apply pw_below_drewN | apply below_drew1 | refine below_set ?_ GE284.out) | exact HB.out))) : w.heap.size ≤ gb285)); have n4_ := Aside0.mk ((by rw [hg]; exact (below_size (by repeat (first | (with_reducible first | exact HB.out | apply below_alloc | apply pw_below_drewN | apply below_drew1 | refine below_set ?_ GE284.out) | exact HB.out))) : w.heap.size ≤ gb285)); have n5_ := Aside0.mk ((by rw [hg]; exact Nat.ne_of_lt (blk_lt (g := gb284) (o := .cells #[.int .i64 a1_0, .int .i64 a1_1, .int .i64 a1_2, .int .i64 a1_3] 24 (0, 0)) (by (with_reducible repeat (first | refine blk_drewN ?_ _ | refine blk_drew ?_ | refine blk_alloc ?_ _)); exact BK284.out)) : gb284 ≠ gb285)); have n6_ := Aside0.mk ((by rw [hg]; exact Nat.ne_of_gt (blk_lt (g := gb284) (o := .cells #[.int .i64 a1_0, .int .i64 a1_1, .int .i64 a1_2, .int .i64 a1_3] 24 (0, 0)) (by (with_reducible repeat (first | refine blk_drewN ?_ _ | refine blk_drew ?_ | refine blk_alloc ?_ _)); exact BK284.out)) : gb285 ≠ gb284)); clear BK284; clear HB; have BK284 := n0_; have HB := n1_; have BK285 := n2_; have GW285 := n3_; have GE285 := n4_; have NB284_285 := n5_; have NB285_284 := n6_; clear n0_ n1_ n2_ n3_ n4_ n5_ n6_; clear hb hbox hg) | ((with_reducible refine gate_callee (f := 24) rfl ?_); refine goesL_ (some 15) rfl rfl Try.func24 (by kernel_rfl) rfl #[] rfl (by (try simp only [List.map_toArray, List.map_cons, List.map_nil]); first | done | rfl | (simp only [List.length_drop, List.length_take]; rfl)) ?_; (with_reducible refine (watchwordlaw14_awake.calls k  true _ A4.out (by first | rfl | exact HT.out)).mono ?_); rintro e w15 ⟨rfl, hb⟩; refine ⟨_, rfl, ?_⟩; have n0_ := Aside0.mk (blk_below (g := gb284) (o := .cells #[.int .i64 a1_0, .int .i64 a1_1, .int .i64 a1_2, .int .i64 a1_3] 24 (0, 0)) (by (with_reducible repeat (first | refine blk_drewN ?_ _ | refine blk_drew ?_ | refine blk_alloc ?_ _)); exact BK284.out) hb); have n1_ := Aside0.mk (blk_below (g := gb285) (o := .cells #[.int .i64 a2_0, .int .i64 a2_1, .int .i64 a2_2, .int .i64 a2_3] 24 (0, 0)) (by (with_reducible repeat (first | refine blk_drewN ?_ _ | refine blk_drew ?_ | refine blk_alloc ?_ _)); exact BK285.out) hb); have n2_ := Aside0.mk (below_step (by repeat (first | (with_reducible first | exact HB.out | apply below_alloc | apply pw_below_drewN | apply below_drew1 | refine below_set ?_ GE284.out | refine below_set ?_ GE285.out) | exact HB.out)) hb); clear BK284; clear BK285; clear HB; have BK284 := n0_; have BK285 := n1_; have HB := n2_; clear n0_ n1_ n2_; (try clear hb); (try clear hb2); (try clear hk); (try clear hi); have hnb16 := NB284_285.out; have hnc16 := NB285_284.out; have hcz17_0 : w15.cell? ⟨gb284, 0, none⟩ = some (.int .i64 a1_0) := (blk_cell BK284.out 0).trans rfl; have hcz17_1 : w15.cell? ⟨gb284, 1, none⟩ = some (.int .i64 a1_1) := (blk_cell BK284.out 1).trans rfl; have hcz17_2 : w15.cell? ⟨gb284, 2, none⟩ = some (.int .i64 a1_2) := (blk_cell BK284.out 2).trans rfl; have hcz17_3 : w15.cell? ⟨gb284, 3, none⟩ = some (.int .i64 a1_3) := (blk_cell BK284.out 3).trans rfl; have hfz17_0 := blk_frozen BK284.out 0; have hfz17_1 := blk_frozen BK284.out 1; have hfz17_2 := blk_frozen BK284.out 2; have hfz17_3 := blk_frozen BK284.out 3) | ((with_reducible refine gate_callee (f := 16) rfl ?_); refine goesL_ (some 20) rfl rfl Try.func16 (by kernel_rfl) rfl #[.slice A0 l0.length c0, .agg #[.int .i64 a1_0, .int .i64 a1_1, .int .i64 a1_2, .int .i64 a1_3]] rfl (by (try simp only [List.map_toArray, List.map_cons, List.map_nil]); first | done | rfl | (simp only [List.length_drop, List.length_take]; rfl)) ?_; (with_reducible refine (last_With.calls k _ _ l0 a1_0 a1_1 a1_2 a1_3 t287 t290 _ ?side1 ?side2 A6.out).mono ?_); (case side1 => repeat (first | exact (Kd.C_below HR0.out HB.out) | (with_reducible refine Kd.C_alloc ?_ _) | (with_reducible refine Kd.C_drewN ?_ _) | (with_reducible refine Kd.C_drew ?_))); (case side2 => exact HC0.out); rintro e w18 ⟨v288, rfl, ho0, hb⟩; refine ⟨_, rfl, ?_⟩; have n0_ := Aside0.mk (Kd.R_lower (Kd.R_newB (Kd.R_newB ho0 (g := gb284) (o := .cells #[.int .i64 a1_0, .int .i64 a1_1, .int .i64 a1_2, .int .i64 a1_3] 24 (0, 0)) (by (with_reducible repeat (first | refine blk_drewN ?_ _ | refine blk_drew ?_ | refine blk_alloc ?_ _)); exact BK284.out)) (g := gb285) (o := .cells #[.int .i64 a2_0, .int .i64 a2_1, .int .i64 a2_2, .int .i64 a2_3] 24 (0, 0)) (by (with_reducible repeat (first | refine blk_drewN ?_ _ | refine blk_drew ?_ | refine blk_alloc ?_ _)); exact BK285.out)) (below_size (by repeat (first | (with_reducible first | exact HB.out | apply below_alloc | apply pw_below_drewN | apply below_drew1 | refine below_set ?_ GE284.out | refine below_set ?_ GE285.out) | exact HB.out)))); have n1_ := Aside0.mk (blk_below (g := gb284) (o := .cells #[.int .i64 a1_0, .int .i64 a1_1, .int .i64 a1_2, .int .i64 a1_3] 24 (0, 0)) (by (with_reducible repeat (first | refine blk_drewN ?_ _ | refine blk_drew ?_ | refine blk_alloc ?_ _)); exact BK284.out) hb); have n2_ := Aside0.mk (blk_below (g := gb285) (o := .cells #[.int .i64 a2_0, .int .i64 a2_1, .int .i64 a2_2, .int .i64 a2_3] 24 (0, 0)) (by (with_reducible repeat (first | refine blk_drewN ?_ _ | refine blk_drew ?_ | refine blk_alloc ?_ _)); exact BK285.out) hb); have n3_ := Aside0.mk (below_step (by repeat (first | (with_reducible first | exact HB.out | apply below_alloc | apply pw_below_drewN | apply below_drew1 | refine below_set ?_ GE284.out | refine below_set ?_ GE285.out) | exact HB.out)) hb); clear BK284; clear BK285; clear HB; have HO289 := n0_; have BK284 := n1_; have BK285 := n2_; have HB := n3_; clear n0_ n1_ n2_ n3_; (try clear hb); (try clear hb2); (try clear hk); (try clear hi); (try clear ho0)) | ((with_reducible refine gate_callee (f := 18) rfl ?_); refine goesL_ (some 24) rfl rfl Try.func18 (by kernel_rfl) rfl #[.int .i64 t290] rfl (by (try simp only [List.map_toArray, List.map_cons, List.map_nil]); first | done | rfl | (simp only [List.length_drop, List.length_take]; rfl)) ?_; (with_reducible refine (watchwordlaw0_Num.calls t290 t291 _ A7.out).mono ?_); rintro e w' ⟨rfl, ⟨nd, rfl⟩⟩; refine ⟨_, rfl, ?_⟩; have hcz19_0 : w18.cell? ⟨gb284, 0, none⟩ = some (.int .i64 a1_0) := (blk_cell BK284.out 0).trans rfl; have hcz19_1 : w18.cell? ⟨gb284, 1, none⟩ = some (.int .i64 a1_1) := (blk_cell BK284.out 1).trans rfl; have hcz19_2 : w18.cell? ⟨gb284, 2, none⟩ = some (.int .i64 a1_2) := (blk_cell BK284.out 2).trans rfl; have hcz19_3 : w18.cell? ⟨gb284, 3, none⟩ = some (.int .i64 a1_3) := (blk_cell BK284.out 3).trans rfl; have hfz19_0 := blk_frozen BK284.out 0; have hfz19_1 := blk_frozen BK284.out 1; have hfz19_2 := blk_frozen BK284.out 2; have hfz19_3 := blk_frozen BK284.out 3; obtain ⟨Ao20, co20, eo20⟩ := Kd.R_slice HO289.out; subst eo20) | ((with_reducible refine gate_callee (f := 14) rfl ?_); refine goesL_ (some 32) rfl rfl Try.func14 (by kernel_rfl) rfl #[.slice Ao20 t287.length co20, .agg #[.int .i64 a1_0, .int .i64 a1_1, .int .i64 a1_2, .int .i64 a1_3]] rfl (by (try simp only [List.map_toArray, List.map_cons, List.map_nil]); first | done | rfl | (simp only [List.length_drop, List.length_take]; rfl)) ?_; (with_reducible refine (last_Newer.calls k _ _ t287 a1_0 a1_1 a1_2 a1_3 t292 t293 _ ?side1 ?side2 A9.out).mono ?_); (case side1 => repeat (first | exact (Kd.R_reads' HO289.out).2.2 | (with_reducible refine Kd.C_alloc ?_ _) | (with_reducible refine Kd.C_drewN ?_ _) | (with_reducible refine Kd.C_drew ?_))); (case side2 => exact (Kd.R_reads' HO289.out).2.1); rintro e w21 ⟨rfl, hb⟩; refine ⟨_, rfl, ?_⟩; have n0_ := Aside0.mk (Kd.R_below (by (with_reducible repeat (first | apply Kd.R_alloc | apply Kd.R_drewN | apply Kd.R_drew)); exact HO289.out) hb); have n1_ := Aside0.mk (blk_below (g := gb284) (o := .cells #[.int .i64 a1_0, .int .i64 a1_1, .int .i64 a1_2, .int .i64 a1_3] 24 (0, 0)) (by (with_reducible repeat (first | refine blk_drewN ?_ _ | refine blk_drew ?_ | refine blk_alloc ?_ _)); exact BK284.out) hb); have n2_ := Aside0.mk (blk_below (g := gb285) (o := .cells #[.int .i64 a2_0, .int .i64 a2_1, .int .i64 a2_2, .int .i64 a2_3] 24 (0, 0)) (by (with_reducible repeat (first | refine blk_drewN ?_ _ | refine blk_drew ?_ | refine blk_alloc ?_ _)); exact BK285.out) hb); have n3_ := Aside0.mk (below_step (by repeat (first | (with_reducible first | exact HB.out | apply below_alloc | apply pw_below_drewN | apply below_drew1 | refine below_set ?_ GE284.out | refine below_set ?_ GE285.out) | exact HB.out)) hb); clear HO289; clear BK284; clear BK285; clear HB; have HO289 := n0_; have BK284 := n1_; have BK285 := n2_; have HB := n3_; clear n0_ n1_ n2_ n3_; (try clear hb); (try clear hb2); (try clear hk); (try clear hi); have hcz22_0 : w21.cell? ⟨gb285, 0, none⟩ = some (.int .i64 a2_0) := (blk_cell BK285.out 0).trans rfl; have hcz22_1 : w21.cell? ⟨gb285, 1, none⟩ = some (.int .i64 a2_1) := (blk_cell BK285.out 1).trans rfl; have hcz22_2 : w21.cell? ⟨gb285, 2, none⟩ = some (.int .i64 a2_2) := (blk_cell BK285.out 2).trans rfl; have hcz22_3 : w21.cell? ⟨gb285, 3, none⟩ = some (.int .i64 a2_3) := (blk_cell BK285.out 3).trans rfl; have hfz22_0 := blk_frozen BK285.out 0; have hfz22_1 := blk_frozen BK285.out 1; have hfz22_2 := blk_frozen BK285.out 2; have hfz22_3 := blk_frozen BK285.out 3) | ((with_reducible refine gate_callee (f := 14) rfl ?_); refine goesL_ (some 38) rfl rfl Try.func14 (by kernel_rfl) rfl #[.slice A0 l0.length c0, .agg #[.int .i64 a2_0, .int .i64 a2_1, .int .i64 a2_2, .int .i64 a2_3]] rfl (by (try simp only [List.map_toArray, List.map_cons, List.map_nil]); first | done | rfl | (simp only [List.length_drop, List.length_take]; rfl)) ?_; (with_reducible refine (last_Newer.calls k _ _ l0 a2_0 a2_1 a2_2 a2_3 t294 t295 _ ?side1 ?side2 A10.out).mono ?_); (case side1 => repeat (first | exact (Kd.C_below HR0.out HB.out) | (with_reducible refine Kd.C_alloc ?_ _) | (with_reducible refine Kd.C_drewN ?_ _) | (with_reducible refine Kd.C_drew ?_))); (case side2 => exact HC0.out); rintro e w23 ⟨rfl, hb⟩; refine ⟨_, rfl, ?_⟩; have n0_ := Aside0.mk (Kd.R_below (by (with_reducible repeat (first | apply Kd.R_alloc | apply Kd.R_drewN | apply Kd.R_drew)); exact HO289.out) hb); have n1_ := Aside0.mk (blk_below (g := gb284) (o := .cells #[.int .i64 a1_0, .int .i64 a1_1, .int .i64 a1_2, .int .i64 a1_3] 24 (0, 0)) (by (with_reducible repeat (first | refine blk_drewN ?_ _ | refine blk_drew ?_ | refine blk_alloc ?_ _)); exact BK284.out) hb); have n2_ := Aside0.mk (blk_below (g := gb285) (o := .cells #[.int .i64 a2_0, .int .i64 a2_1, .int .i64 a2_2, .int .i64 a2_3] 24 (0, 0)) (by (with_reducible repeat (first | refine blk_drewN ?_ _ | refine blk_drew ?_ | refine blk_alloc ?_ _)); exact BK285.out) hb); have n3_ := Aside0.mk (below_step (by repeat (first | (with_reducible first | exact HB.out | apply below_alloc | apply pw_below_drewN | apply below_drew1 | refine below_set ?_ GE284.out | refine below_set ?_ GE285.out) | exact HB.out)) hb); clear HO289; clear BK284; clear BK285; clear HB; have HO289 := n0_; have BK284 := n1_; have BK285 := n2_; have HB := n3_; clear n0_ n1_ n2_ n3_; (try clear hb); (try clear hb2); (try clear hk); (try clear hi); have hcz24_0 : w23.cell? ⟨gb285, 0, none⟩ = some (.int .i64 a2_0) := (blk_cell BK285.out 0).trans rfl; have hcz24_1 : w23.cell? ⟨gb285, 1, none⟩ = some (.int .i64 a2_1) := (blk_cell BK285.out 1).trans rfl; have hcz24_2 : w23.cell? ⟨gb285, 2, none⟩ = some (.int .i64 a2_2) := (blk_cell BK285.out 2).trans rfl; have hcz24_3 : w23.cell? ⟨gb285, 3, none⟩ = some (.int .i64 a2_3) := (blk_cell BK285.out 3).trans rfl; have hfz24_0 := blk_frozen BK285.out 0; have hfz24_1 := blk_frozen BK285.out 1; have hfz24_2 := blk_frozen BK285.out 2; have hfz24_3 := blk_frozen BK285.out 3) | ((with_reducible refine gate_callee (f := 14) rfl ?_); refine goesL_ (some 44) rfl rfl Try.func14 (by kernel_rfl) rfl #[.slice Ao20 t287.length co20, .agg #[.int .i64 a2_0, .int .i64 a2_1, .int .i64 a2_2, .int .i64 a2_3]] rfl (by (try simp only [List.map_toArray, List.map_cons, List.map_nil]); first | done | rfl | (simp only [List.length_drop, List.length_take]; rfl)) ?_; (with_reducible refine (last_Newer.calls k _ _ t287 a2_0 a2_1 a2_2 a2_3 t296 t297 _ ?side1 ?side2 A11.out).mono ?_); (case side1 => repeat (first | exact (Kd.R_reads' HO289.out).2.2 | (with_reducible refine Kd.C_alloc ?_ _) | (with_reducible refine Kd.C_drewN ?_ _) | (with_reducible refine Kd.C_drew ?_))); (case side2 => exact (Kd.R_reads' HO289.out).2.1); rintro e w25 ⟨rfl, hb⟩; refine ⟨_, rfl, ?_⟩; have n0_ := Aside0.mk (Kd.R_below (by (with_reducible repeat (first | apply Kd.R_alloc | apply Kd.R_drewN | apply Kd.R_drew)); exact HO289.out) hb); have n1_ := Aside0.mk (blk_below (g := gb284) (o := .cells #[.int .i64 a1_0, .int .i64 a1_1, .int .i64 a1_2, .int .i64 a1_3] 24 (0, 0)) (by (with_reducible repeat (first | refine blk_drewN ?_ _ | refine blk_drew ?_ | refine blk_alloc ?_ _)); exact BK284.out) hb); have n2_ := Aside0.mk (blk_below (g := gb285) (o := .cells #[.int .i64 a2_0, .int .i64 a2_1, .int .i64 a2_2, .int .i64 a2_3] 24 (0, 0)) (by (with_reducible repeat (first | refine blk_drewN ?_ _ | refine blk_drew ?_ | refine blk_alloc ?_ _)); exact BK285.out) hb); have n3_ := Aside0.mk (below_step (by repeat (first | (with_reducible first | exact HB.out | apply below_alloc | apply pw_below_drewN | apply below_drew1 | refine below_set ?_ GE284.out | refine below_set ?_ GE285.out) | exact HB.out)) hb); clear HO289; clear BK284; clear BK285; clear HB; have HO289 := n0_; have BK284 := n1_; have BK285 := n2_; have HB := n3_; clear n0_ n1_ n2_ n3_; (try clear hb); (try clear hb2); (try clear hk); (try clear hi)))
   (try simp only [Act.put, List.setIfInBounds_toArray, List.set_cons_zero, List.set_cons_succ])
   go_cut [59] (fun v59 wc => ∃ (kq : Nat) (x59_11 : Bool), v59 = .bool x59_11 ∧ Aside0 (watchwordlaw14_LastOnce.j0 kq t294 t295 t296 x59_11 a1_0 a1_1 a1_2 a1_3 a2_0 a2_1 a2_2 a2_3 = some r) ∧ Aside0 (kq ≤ k) ∧ Aside0 (wc.heap[gb284]? = some (.cells #[.int .i64 a1_0, .int .i64 a1_1, .int .i64 a1_2, .int .i64 a1_3] 24 (0, 0))) ∧ Aside0 (wc.heap[gb285]? = some (.cells #[.int .i64 a2_0, .int .i64 a2_1, .int .i64 a2_2, .int .i64 a2_3] 24 (0, 0))) ∧ Aside0 (Below w.heap.size w wc))
   case first =>
    have H := HC12.out
    clear HC12
    replace H := Option.bind_eq_some_iff.mp H
    obtain ⟨t298, A260, H⟩ := H
    replace H : (if t298 = 0 then (if t292 = true then (watchwordlaw14_LastOnce.j0 k t294 t295 t296 true a1_0 a1_1 a1_2 a1_3 a2_0 a2_1 a2_2 a2_3) else ((watchwordlaw0_Num.f t295).bind fun t299 => ((watchwordlaw0_Num.f t297).bind fun t300 => (watchwordlaw14_LastOnce.j0 k t294 t295 t296 (t299 != t300) a1_0 a1_1 a1_2 a1_3 a2_0 a2_1 a2_2 a2_3)))) else (watchwordlaw14_LastOnce.j0 k t294 t295 t296 true a1_0 a1_1 a1_2 a1_3 a2_0 a2_1 a2_2 a2_3)) = some r := H
    have A26 := Aside0.mk A260
    clear A260
    by_cases c27 : t298 = 0
    ·rw [if_pos c27] at H
     have c27b0 : (t298 == 0) = true := beq_iff_eq.mpr c27
     have c27b1 : (t298 != 0) = false := bne_eq_false_iff_eq.mpr c27
     clear c27
     (first | rw [c27b0] | (simp only [i64_w, i32_w]; rw [c27b0]) | skip)
     by_cases c28 : t292 = true
     ·subst c28
      have H1 : (watchwordlaw14_LastOnce.j0 k t294 t295 t296 true a1_0 a1_1 a1_2 a1_3 a2_0 a2_1 a2_2 a2_3) = some r := by rw [if_pos rfl] at H; exact H
      clear H
      have H := H1
      clear H1
      exact absurd H (fun h_ => (by
       have hd_ : ∀ k_, watchwordlaw14_LastOnce.j0 k_ t294 t295 t296 true a1_0 a1_1 a1_2 a1_3 a2_0 a2_1 a2_2 a2_3 = some r → False := by
        intro k_ h_
        cases k_ with
        | zero => exact absurd h_ (by simp [watchwordlaw14_LastOnce.j0])
        | succ k_ =>
         simp only [watchwordlaw14_LastOnce.j0, if_true] at h_
         exact absurd (Option.some.inj h_) (by rw [HT.out]; decide)
       exact hd_ _ h_))
     ·replace c28 := Bool.eq_false_iff.mpr c28
      subst c28
      have H1 : ((watchwordlaw0_Num.f t295).bind fun t299 => ((watchwordlaw0_Num.f t297).bind fun t300 => (watchwordlaw14_LastOnce.j0 k t294 t295 t296 (t299 != t300) a1_0 a1_1 a1_2 a1_3 a2_0 a2_1 a2_2 a2_3))) = some r := by rw [if_neg (show ¬ (false = true) by decide)] at H; exact H
      clear H
      have H := H1
      clear H1
      replace H := Option.bind_eq_some_iff.mp H
      obtain ⟨t299, A290, H⟩ := H
      replace H : ((watchwordlaw0_Num.f t297).bind fun t300 => (watchwordlaw14_LastOnce.j0 k t294 t295 t296 (t299 != t300) a1_0 a1_1 a1_2 a1_3 a2_0 a2_1 a2_2 a2_3)) = some r := H
      have A29 := Aside0.mk A290
      clear A290
      replace H := Option.bind_eq_some_iff.mp H
      obtain ⟨t300, A300, H⟩ := H
      replace H : (watchwordlaw14_LastOnce.j0 k t294 t295 t296 (t299 != t300) a1_0 a1_1 a1_2 a1_3 a2_0 a2_1 a2_2 a2_3) = some r := H
      have A30 := Aside0.mk A300
      clear A300
      have H' := Aside0.mk H
      clear H
      go_wp2_with (first | ((with_reducible refine gate_callee (f := 18) rfl ?_); refine goesL_ (some 48) rfl rfl Try.func18 (by kernel_rfl) rfl #[.int .i64 t293] rfl (by (try simp only [List.map_toArray, List.map_cons, List.map_nil]); first | done | rfl | (simp only [List.length_drop, List.length_take]; rfl)) ?_; (with_reducible refine (watchwordlaw0_Num.calls t293 t298 _ A26.out).mono ?_); rintro e w' ⟨rfl, ⟨nd, rfl⟩⟩; refine ⟨_, rfl, ?_⟩) | (go_at_call 18; (with_reducible refine (watchwordlaw0_Num.calls t295 t299 _ A29.out).mono ?_); rintro e w' ⟨rfl, ⟨nd, rfl⟩⟩) | (go_at_call 18; (with_reducible refine (watchwordlaw0_Num.calls t297 t300 _ A30.out).mono ?_); rintro e w' ⟨rfl, ⟨nd, rfl⟩⟩))
      go_meet
      case rel => exact ⟨_, ((t299 != t300)), (by first | rfl | (simp; done) | (simp [*]; done)), H', ⟨by first | omega | exact Nat.le_refl _⟩, ⟨by (with_reducible repeat (first | refine blk_drewN ?_ _ | refine blk_drew ?_ | refine blk_alloc ?_ _)); exact BK284.out⟩, ⟨by (with_reducible repeat (first | refine blk_drewN ?_ _ | refine blk_drew ?_ | refine blk_alloc ?_ _)); exact BK285.out⟩, ⟨by repeat (first | (with_reducible first | exact HB.out | apply below_alloc | apply pw_below_drewN | apply below_drew1 | refine below_set ?_ GE284.out | refine below_set ?_ GE285.out) | exact HB.out)⟩⟩
    ·rw [if_neg c27] at H
     have c27b0 : (t298 == 0) = false := beq_eq_false_iff_ne.mpr c27
     have c27b1 : (t298 != 0) = true := bne_iff_ne.mpr c27
     (first | rw [c27b0] | (simp only [i64_w, i32_w]; rw [c27b0]) | skip)
     exact absurd H (fun h_ => (by
      have hd_ : ∀ k_, watchwordlaw14_LastOnce.j0 k_ t294 t295 t296 true a1_0 a1_1 a1_2 a1_3 a2_0 a2_1 a2_2 a2_3 = some r → False := by
       intro k_ h_
       cases k_ with
       | zero => exact absurd h_ (by simp [watchwordlaw14_LastOnce.j0])
       | succ k_ =>
        simp only [watchwordlaw14_LastOnce.j0, if_true] at h_
        exact absurd (Option.some.inj h_) (by rw [HT.out]; decide)
      exact hd_ _ h_))
   case rest =>
    clear HC12
    try clear c1
    try clear c2
    try clear p2
    try clear c4
    try clear c5
    try clear c8
    try clear c8b0
    try clear c8b1
    try clear c14
    try clear c16
    try clear c18
    try clear c24
    try clear c27
    try clear c27b0
    try clear c27b1
    try clear c28
    try clear hcz17_0
    try clear hcz17_1
    try clear hcz17_2
    try clear hcz17_3
    try clear hcz19_0
    try clear hcz19_1
    try clear hcz19_2
    try clear hcz19_3
    try clear hcz22_0
    try clear hcz22_1
    try clear hcz22_2
    try clear hcz22_3
    try clear hcz24_0
    try clear hcz24_1
    try clear hcz24_2
    try clear hcz24_3
    try clear hfz17_0
    try clear hfz17_1
    try clear hfz17_2
    try clear hfz17_3
    try clear hfz19_0
    try clear hfz19_1
    try clear hfz19_2
    try clear hfz19_3
    try clear hfz22_0
    try clear hfz22_1
    try clear hfz22_2
    try clear hfz22_3
    try clear hfz24_0
    try clear hfz24_1
    try clear hfz24_2
    try clear hfz24_3
    obtain ⟨kq, x59_11, rfl, HA, HJ11, BK284, BK285, HB⟩ := hcut
    cases kq with
    | zero => exact absurd HA.out (by simp [watchwordlaw14_LastOnce.j0])
    | succ kj11 =>
     have H := HA.out
     clear HA
     simp only [watchwordlaw14_LastOnce.j0] at H
     by_cases c31 : x59_11 = true
     ·subst c31
      have H1 : (some false) = some r := by rw [if_pos rfl] at H; exact H
      clear H
      have H := H1
      clear H1
      exact absurd (Option.some.inj H) (by rw [HT.out]; decide)
     ·replace c31 := Bool.eq_false_iff.mpr c31
      subst c31
      have H1 : ((watchwordlaw0_Num.f t295).bind fun t301 => (if t301 = 0 then (if a2_0 = a1_0 then (if a2_1 = a1_1 then (if a2_2 > a1_2 then (some (t296 == true)) else (if a2_2 = a1_2 then (some (t296 == (decide (a2_3 > a1_3)))) else (some (t296 == false)))) else (some (t294 == t296))) else (some (t294 == t296))) else (some (t294 == t296)))) = some r := by rw [if_neg (show ¬ (false = true) by decide)] at H; exact H
      clear H
      have H := H1
      clear H1
      replace H := Option.bind_eq_some_iff.mp H
      obtain ⟨t301, A320, H⟩ := H
      replace H : (if t301 = 0 then (if a2_0 = a1_0 then (if a2_1 = a1_1 then (if a2_2 > a1_2 then (some (t296 == true)) else (if a2_2 = a1_2 then (some (t296 == (decide (a2_3 > a1_3)))) else (some (t296 == false)))) else (some (t294 == t296))) else (some (t294 == t296))) else (some (t294 == t296))) = some r := H
      have A32 := Aside0.mk A320
      clear A320
      by_cases c33 : t301 = 0
      ·rw [if_pos c33] at H
       have c33b0 : (t301 == 0) = true := beq_iff_eq.mpr c33
       have c33b1 : (t301 != 0) = false := bne_eq_false_iff_eq.mpr c33
       clear c33
       by_cases c34 : a2_0 = a1_0
       ·rw [if_pos c34] at H
        have c34b0 : (a2_0 == a1_0) = true := beq_iff_eq.mpr c34
        have c34b1 : (a2_0 != a1_0) = false := bne_eq_false_iff_eq.mpr c34
        clear c34
        by_cases c35 : a2_1 = a1_1
        ·rw [if_pos c35] at H
         have c35b0 : (a2_1 == a1_1) = true := beq_iff_eq.mpr c35
         have c35b1 : (a2_1 != a1_1) = false := bne_eq_false_iff_eq.mpr c35
         clear c35
         by_cases c36 : a2_2 > a1_2
         ·rw [if_pos c36] at H
          have c36b0 : decide (a1_2 < a2_2) = true := decide_eq_true c36
          clear c36
          obtain rfl := Option.some.inj H
          go_wp2_with (first | ((with_reducible refine gate_callee (f := 18) rfl ?_); refine goesL_ (some 61) rfl rfl Try.func18 (by kernel_rfl) rfl #[.int .i64 t295] rfl (by (try simp only [List.map_toArray, List.map_cons, List.map_nil]); first | done | rfl | (simp only [List.length_drop, List.length_take]; rfl)) ?_; (with_reducible refine (watchwordlaw0_Num.calls t295 t301 _ A32.out).mono ?_); rintro e w' ⟨rfl, ⟨nd, rfl⟩⟩; refine ⟨_, rfl, ?_⟩; have hnb37 := NB285_284.out; have hnc37 := NB284_285.out; have hcz38_0 : wc.cell? ⟨gb285, 0, none⟩ = some (.int .i64 a2_0) := (blk_cell BK285.out 0).trans rfl; have hcz38_1 : wc.cell? ⟨gb285, 1, none⟩ = some (.int .i64 a2_1) := (blk_cell BK285.out 1).trans rfl; have hcz38_2 : wc.cell? ⟨gb285, 2, none⟩ = some (.int .i64 a2_2) := (blk_cell BK285.out 2).trans rfl; have hcz38_3 : wc.cell? ⟨gb285, 3, none⟩ = some (.int .i64 a2_3) := (blk_cell BK285.out 3).trans rfl; have hfz38_0 := blk_frozen BK285.out 0; have hfz38_1 := blk_frozen BK285.out 1; have hfz38_2 := blk_frozen BK285.out 2; have hfz38_3 := blk_frozen BK285.out 3; have hcz39_0 : wc.cell? ⟨gb284, 0, none⟩ = some (.int .i64 a1_0) := (blk_cell BK284.out 0).trans rfl; have hcz39_1 : wc.cell? ⟨gb284, 1, none⟩ = some (.int .i64 a1_1) := (blk_cell BK284.out 1).trans rfl; have hcz39_2 : wc.cell? ⟨gb284, 2, none⟩ = some (.int .i64 a1_2) := (blk_cell BK284.out 2).trans rfl; have hcz39_3 : wc.cell? ⟨gb284, 3, none⟩ = some (.int .i64 a1_3) := (blk_cell BK284.out 3).trans rfl; have hfz39_0 := blk_frozen BK284.out 0; have hfz39_1 := blk_frozen BK284.out 1; have hfz39_2 := blk_frozen BK284.out 2; have hfz39_3 := blk_frozen BK284.out 3))
          go_ret
          exact ⟨by first | rfl | (simp [errW_none, errW_some] <;> rfl) | (simp [*, errW_none, errW_some] <;> rfl), by repeat (first | (with_reducible first | exact HB.out | apply below_alloc | apply pw_below_drewN | apply below_drew1 | refine below_set ?_ GE284.out | refine below_set ?_ GE285.out) | exact HB.out)⟩
         ·rw [if_neg c36] at H
          have c36b0 : decide (a1_2 < a2_2) = false := decide_eq_false c36
          clear c36
          by_cases c40 : a2_2 = a1_2
          ·rw [if_pos c40] at H
           have c40b0 : (a2_2 == a1_2) = true := beq_iff_eq.mpr c40
           have c40b1 : (a2_2 != a1_2) = false := bne_eq_false_iff_eq.mpr c40
           clear c40
           obtain rfl := Option.some.inj H
           go_wp2_with (first | ((with_reducible refine gate_callee (f := 18) rfl ?_); refine goesL_ (some 61) rfl rfl Try.func18 (by kernel_rfl) rfl #[.int .i64 t295] rfl (by (try simp only [List.map_toArray, List.map_cons, List.map_nil]); first | done | rfl | (simp only [List.length_drop, List.length_take]; rfl)) ?_; (with_reducible refine (watchwordlaw0_Num.calls t295 t301 _ A32.out).mono ?_); rintro e w' ⟨rfl, ⟨nd, rfl⟩⟩; refine ⟨_, rfl, ?_⟩; have hnb41 := NB285_284.out; have hnc41 := NB284_285.out; have hcz42_0 : wc.cell? ⟨gb285, 0, none⟩ = some (.int .i64 a2_0) := (blk_cell BK285.out 0).trans rfl; have hcz42_1 : wc.cell? ⟨gb285, 1, none⟩ = some (.int .i64 a2_1) := (blk_cell BK285.out 1).trans rfl; have hcz42_2 : wc.cell? ⟨gb285, 2, none⟩ = some (.int .i64 a2_2) := (blk_cell BK285.out 2).trans rfl; have hcz42_3 : wc.cell? ⟨gb285, 3, none⟩ = some (.int .i64 a2_3) := (blk_cell BK285.out 3).trans rfl; have hfz42_0 := blk_frozen BK285.out 0; have hfz42_1 := blk_frozen BK285.out 1; have hfz42_2 := blk_frozen BK285.out 2; have hfz42_3 := blk_frozen BK285.out 3; have hcz43_0 : wc.cell? ⟨gb284, 0, none⟩ = some (.int .i64 a1_0) := (blk_cell BK284.out 0).trans rfl; have hcz43_1 : wc.cell? ⟨gb284, 1, none⟩ = some (.int .i64 a1_1) := (blk_cell BK284.out 1).trans rfl; have hcz43_2 : wc.cell? ⟨gb284, 2, none⟩ = some (.int .i64 a1_2) := (blk_cell BK284.out 2).trans rfl; have hcz43_3 : wc.cell? ⟨gb284, 3, none⟩ = some (.int .i64 a1_3) := (blk_cell BK284.out 3).trans rfl; have hfz43_0 := blk_frozen BK284.out 0; have hfz43_1 := blk_frozen BK284.out 1; have hfz43_2 := blk_frozen BK284.out 2; have hfz43_3 := blk_frozen BK284.out 3))
           go_ret
           exact ⟨by first | rfl | (simp [errW_none, errW_some] <;> rfl) | (simp [*, errW_none, errW_some] <;> rfl), by repeat (first | (with_reducible first | exact HB.out | apply below_alloc | apply pw_below_drewN | apply below_drew1 | refine below_set ?_ GE284.out | refine below_set ?_ GE285.out) | exact HB.out)⟩
          ·rw [if_neg c40] at H
           have c40b0 : (a2_2 == a1_2) = false := beq_eq_false_iff_ne.mpr c40
           have c40b1 : (a2_2 != a1_2) = true := bne_iff_ne.mpr c40
           obtain rfl := Option.some.inj H
           go_wp2_with (first | ((with_reducible refine gate_callee (f := 18) rfl ?_); refine goesL_ (some 61) rfl rfl Try.func18 (by kernel_rfl) rfl #[.int .i64 t295] rfl (by (try simp only [List.map_toArray, List.map_cons, List.map_nil]); first | done | rfl | (simp only [List.length_drop, List.length_take]; rfl)) ?_; (with_reducible refine (watchwordlaw0_Num.calls t295 t301 _ A32.out).mono ?_); rintro e w' ⟨rfl, ⟨nd, rfl⟩⟩; refine ⟨_, rfl, ?_⟩; have hnb44 := NB285_284.out; have hnc44 := NB284_285.out; have hcz45_0 : wc.cell? ⟨gb285, 0, none⟩ = some (.int .i64 a2_0) := (blk_cell BK285.out 0).trans rfl; have hcz45_1 : wc.cell? ⟨gb285, 1, none⟩ = some (.int .i64 a2_1) := (blk_cell BK285.out 1).trans rfl; have hcz45_2 : wc.cell? ⟨gb285, 2, none⟩ = some (.int .i64 a2_2) := (blk_cell BK285.out 2).trans rfl; have hcz45_3 : wc.cell? ⟨gb285, 3, none⟩ = some (.int .i64 a2_3) := (blk_cell BK285.out 3).trans rfl; have hfz45_0 := blk_frozen BK285.out 0; have hfz45_1 := blk_frozen BK285.out 1; have hfz45_2 := blk_frozen BK285.out 2; have hfz45_3 := blk_frozen BK285.out 3; have hcz46_0 : wc.cell? ⟨gb284, 0, none⟩ = some (.int .i64 a1_0) := (blk_cell BK284.out 0).trans rfl; have hcz46_1 : wc.cell? ⟨gb284, 1, none⟩ = some (.int .i64 a1_1) := (blk_cell BK284.out 1).trans rfl; have hcz46_2 : wc.cell? ⟨gb284, 2, none⟩ = some (.int .i64 a1_2) := (blk_cell BK284.out 2).trans rfl; have hcz46_3 : wc.cell? ⟨gb284, 3, none⟩ = some (.int .i64 a1_3) := (blk_cell BK284.out 3).trans rfl; have hfz46_0 := blk_frozen BK284.out 0; have hfz46_1 := blk_frozen BK284.out 1; have hfz46_2 := blk_frozen BK284.out 2; have hfz46_3 := blk_frozen BK284.out 3))
           go_ret
           exact ⟨by first | rfl | (simp [errW_none, errW_some] <;> rfl) | (simp [*, errW_none, errW_some] <;> rfl), by repeat (first | (with_reducible first | exact HB.out | apply below_alloc | apply pw_below_drewN | apply below_drew1 | refine below_set ?_ GE284.out | refine below_set ?_ GE285.out) | exact HB.out)⟩
        ·rw [if_neg c35] at H
         have c35b0 : (a2_1 == a1_1) = false := beq_eq_false_iff_ne.mpr c35
         have c35b1 : (a2_1 != a1_1) = true := bne_iff_ne.mpr c35
         obtain rfl := Option.some.inj H
         go_wp2_with (first | ((with_reducible refine gate_callee (f := 18) rfl ?_); refine goesL_ (some 61) rfl rfl Try.func18 (by kernel_rfl) rfl #[.int .i64 t295] rfl (by (try simp only [List.map_toArray, List.map_cons, List.map_nil]); first | done | rfl | (simp only [List.length_drop, List.length_take]; rfl)) ?_; (with_reducible refine (watchwordlaw0_Num.calls t295 t301 _ A32.out).mono ?_); rintro e w' ⟨rfl, ⟨nd, rfl⟩⟩; refine ⟨_, rfl, ?_⟩; have hnb47 := NB285_284.out; have hnc47 := NB284_285.out; have hcz48_0 : wc.cell? ⟨gb285, 0, none⟩ = some (.int .i64 a2_0) := (blk_cell BK285.out 0).trans rfl; have hcz48_1 : wc.cell? ⟨gb285, 1, none⟩ = some (.int .i64 a2_1) := (blk_cell BK285.out 1).trans rfl; have hcz48_2 : wc.cell? ⟨gb285, 2, none⟩ = some (.int .i64 a2_2) := (blk_cell BK285.out 2).trans rfl; have hcz48_3 : wc.cell? ⟨gb285, 3, none⟩ = some (.int .i64 a2_3) := (blk_cell BK285.out 3).trans rfl; have hfz48_0 := blk_frozen BK285.out 0; have hfz48_1 := blk_frozen BK285.out 1; have hfz48_2 := blk_frozen BK285.out 2; have hfz48_3 := blk_frozen BK285.out 3; have hcz49_0 : wc.cell? ⟨gb284, 0, none⟩ = some (.int .i64 a1_0) := (blk_cell BK284.out 0).trans rfl; have hcz49_1 : wc.cell? ⟨gb284, 1, none⟩ = some (.int .i64 a1_1) := (blk_cell BK284.out 1).trans rfl; have hcz49_2 : wc.cell? ⟨gb284, 2, none⟩ = some (.int .i64 a1_2) := (blk_cell BK284.out 2).trans rfl; have hcz49_3 : wc.cell? ⟨gb284, 3, none⟩ = some (.int .i64 a1_3) := (blk_cell BK284.out 3).trans rfl; have hfz49_0 := blk_frozen BK284.out 0; have hfz49_1 := blk_frozen BK284.out 1; have hfz49_2 := blk_frozen BK284.out 2; have hfz49_3 := blk_frozen BK284.out 3))
         go_ret
         exact ⟨by first | rfl | (simp [errW_none, errW_some] <;> rfl) | (simp [*, errW_none, errW_some] <;> rfl), by repeat (first | (with_reducible first | exact HB.out | apply below_alloc | apply pw_below_drewN | apply below_drew1 | refine below_set ?_ GE284.out | refine below_set ?_ GE285.out) | exact HB.out)⟩
       ·rw [if_neg c34] at H
        have c34b0 : (a2_0 == a1_0) = false := beq_eq_false_iff_ne.mpr c34
        have c34b1 : (a2_0 != a1_0) = true := bne_iff_ne.mpr c34
        obtain rfl := Option.some.inj H
        go_wp2_with (first | ((with_reducible refine gate_callee (f := 18) rfl ?_); refine goesL_ (some 61) rfl rfl Try.func18 (by kernel_rfl) rfl #[.int .i64 t295] rfl (by (try simp only [List.map_toArray, List.map_cons, List.map_nil]); first | done | rfl | (simp only [List.length_drop, List.length_take]; rfl)) ?_; (with_reducible refine (watchwordlaw0_Num.calls t295 t301 _ A32.out).mono ?_); rintro e w' ⟨rfl, ⟨nd, rfl⟩⟩; refine ⟨_, rfl, ?_⟩; have hnb50 := NB285_284.out; have hnc50 := NB284_285.out; have hcz51_0 : wc.cell? ⟨gb285, 0, none⟩ = some (.int .i64 a2_0) := (blk_cell BK285.out 0).trans rfl; have hcz51_1 : wc.cell? ⟨gb285, 1, none⟩ = some (.int .i64 a2_1) := (blk_cell BK285.out 1).trans rfl; have hcz51_2 : wc.cell? ⟨gb285, 2, none⟩ = some (.int .i64 a2_2) := (blk_cell BK285.out 2).trans rfl; have hcz51_3 : wc.cell? ⟨gb285, 3, none⟩ = some (.int .i64 a2_3) := (blk_cell BK285.out 3).trans rfl; have hfz51_0 := blk_frozen BK285.out 0; have hfz51_1 := blk_frozen BK285.out 1; have hfz51_2 := blk_frozen BK285.out 2; have hfz51_3 := blk_frozen BK285.out 3; have hcz52_0 : wc.cell? ⟨gb284, 0, none⟩ = some (.int .i64 a1_0) := (blk_cell BK284.out 0).trans rfl; have hcz52_1 : wc.cell? ⟨gb284, 1, none⟩ = some (.int .i64 a1_1) := (blk_cell BK284.out 1).trans rfl; have hcz52_2 : wc.cell? ⟨gb284, 2, none⟩ = some (.int .i64 a1_2) := (blk_cell BK284.out 2).trans rfl; have hcz52_3 : wc.cell? ⟨gb284, 3, none⟩ = some (.int .i64 a1_3) := (blk_cell BK284.out 3).trans rfl; have hfz52_0 := blk_frozen BK284.out 0; have hfz52_1 := blk_frozen BK284.out 1; have hfz52_2 := blk_frozen BK284.out 2; have hfz52_3 := blk_frozen BK284.out 3))
        go_ret
        exact ⟨by first | rfl | (simp [errW_none, errW_some] <;> rfl) | (simp [*, errW_none, errW_some] <;> rfl), by repeat (first | (with_reducible first | exact HB.out | apply below_alloc | apply pw_below_drewN | apply below_drew1 | refine below_set ?_ GE284.out | refine below_set ?_ GE285.out) | exact HB.out)⟩
      ·rw [if_neg c33] at H
       have c33b0 : (t301 == 0) = false := beq_eq_false_iff_ne.mpr c33
       have c33b1 : (t301 != 0) = true := bne_iff_ne.mpr c33
       obtain rfl := Option.some.inj H
       go_wp2_with (first | ((with_reducible refine gate_callee (f := 18) rfl ?_); refine goesL_ (some 61) rfl rfl Try.func18 (by kernel_rfl) rfl #[.int .i64 t295] rfl (by (try simp only [List.map_toArray, List.map_cons, List.map_nil]); first | done | rfl | (simp only [List.length_drop, List.length_take]; rfl)) ?_; (with_reducible refine (watchwordlaw0_Num.calls t295 t301 _ A32.out).mono ?_); rintro e w' ⟨rfl, ⟨nd, rfl⟩⟩; refine ⟨_, rfl, ?_⟩))
       go_ret
       exact ⟨by first | rfl | (simp [errW_none, errW_some] <;> rfl) | (simp [*, errW_none, errW_some] <;> rfl), by repeat (first | (with_reducible first | exact HB.out | apply below_alloc | apply pw_below_drewN | apply below_drew1 | refine below_set ?_ GE284.out | refine below_set ?_ GE285.out) | exact HB.out)⟩
  ·rw [if_neg c8] at H
   have c8b0 : (t291 == 0) = false := beq_eq_false_iff_ne.mpr c8
   have c8b1 : (t291 != 0) = true := bne_iff_ne.mpr c8
   obtain rfl := Option.some.inj H
   go_enter Try.func4, Try.ntmps4
   go_wp2_with (first | ((with_reducible refine gate_dst (N := 4) rfl ?_); refine box_event ?hg (N := 4) ?hd (cs := #[.int .i64 a1_0, .int .i64 a1_1, .int .i64 a1_2, .int .i64 a1_3]) (t := 24) ?hr ?_; (case hd => rfl); (case hg => rfl); (case hr => first | (go_simp; done) | (go_simp; rfl)); intro gb284 hg w53 hbox hb; have n0_ := Aside0.mk (below_step (by repeat (first | (with_reducible first | exact HB.out | apply below_alloc | apply pw_below_drewN | apply below_drew1) | exact HB.out)) hb); have n1_ := Aside0.mk (hbox); have n2_ := Aside0.mk ((by rw [hg]; exact (below_size (by repeat (first | (with_reducible first | exact HB.out | apply below_alloc | apply pw_below_drewN | apply below_drew1) | exact HB.out))) : w.heap.size ≤ gb284)); have n3_ := Aside0.mk ((by rw [hg]; exact (below_size (by repeat (first | (with_reducible first | exact HB.out | apply below_alloc | apply pw_below_drewN | apply below_drew1) | exact HB.out))) : w.heap.size ≤ gb284)); clear HB; have HB := n0_; have BK284 := n1_; have GW284 := n2_; have GE284 := n3_; clear n0_ n1_ n2_ n3_; clear hb hbox hg) | ((with_reducible refine gate_dst (N := 5) rfl ?_); refine box_event ?hg (N := 5) ?hd (cs := #[.int .i64 a2_0, .int .i64 a2_1, .int .i64 a2_2, .int .i64 a2_3]) (t := 24) ?hr ?_; (case hd => rfl); (case hg => rfl); (case hr => first | (go_simp; done) | (go_simp; rfl)); intro gb285 hg w54 hbox hb; have n0_ := Aside0.mk (blk_below (g := gb284) (o := .cells #[.int .i64 a1_0, .int .i64 a1_1, .int .i64 a1_2, .int .i64 a1_3] 24 (0, 0)) (by (with_reducible repeat (first | refine blk_drewN ?_ _ | refine blk_drew ?_ | refine blk_alloc ?_ _)); exact BK284.out) hb); have n1_ := Aside0.mk (below_step (by repeat (first | (with_reducible first | exact HB.out | apply below_alloc | apply pw_below_drewN | apply below_drew1 | refine below_set ?_ GE284.out) | exact HB.out)) hb); have n2_ := Aside0.mk (hbox); have n3_ := Aside0.mk ((by rw [hg]; exact (below_size (by repeat (first | (with_reducible first | exact HB.out | apply below_alloc | apply pw_below_drewN | apply below_drew1 | refine below_set ?_ GE284.out) | exact HB.out))) : w.heap.size ≤ gb285)); have n4_ := Aside0.mk ((by rw [hg]; exact (below_size (by repeat (first | (with_reducible first | exact HB.out | apply below_alloc | apply pw_below_drewN | apply below_drew1 | refine below_set ?_ GE284.out) | exact HB.out))) : w.heap.size ≤ gb285)); have n5_ := Aside0.mk ((by rw [hg]; exact Nat.ne_of_lt (blk_lt (g := gb284) (o := .cells #[.int .i64 a1_0, .int .i64 a1_1, .int .i64 a1_2, .int .i64 a1_3] 24 (0, 0)) (by (with_reducible repeat (first | refine blk_drewN ?_ _ | refine blk_drew ?_ | refine blk_alloc ?_ _)); exact BK284.out)) : gb284 ≠ gb285)); have n6_ := Aside0.mk ((by rw [hg]; exact Nat.ne_of_gt (blk_lt (g := gb284) (o := .cells #[.int .i64 a1_0, .int .i64 a1_1, .int .i64 a1_2, .int .i64 a1_3] 24 (0, 0)) (by (with_reducible repeat (first | refine blk_drewN ?_ _ | refine blk_drew ?_ | refine blk_alloc ?_ _)); exact BK284.out)) : gb285 ≠ gb284)); clear BK284; clear HB; have BK284 := n0_; have HB := n1_; have BK285 := n2_; have GW285 := n3_; have GE285 := n4_; have NB284_285 := n5_; have NB285_284 := n6_; clear n0_ n1_ n2_ n3_ n4_ n5_ n6_; clear hb hbox hg) | ((with_reducible refine gate_callee (f := 24) rfl ?_); refine goesL_ (some 15) rfl rfl Try.func24 (by kernel_rfl) rfl #[] rfl (by (try simp only [List.map_toArray, List.map_cons, List.map_nil]); first | done | rfl | (simp only [List.length_drop, List.length_take]; rfl)) ?_; (with_reducible refine (watchwordlaw14_awake.calls k  true _ A4.out (by first | rfl | exact HT.out)).mono ?_); rintro e w55 ⟨rfl, hb⟩; refine ⟨_, rfl, ?_⟩; have n0_ := Aside0.mk (blk_below (g := gb284) (o := .cells #[.int .i64 a1_0, .int .i64 a1_1, .int .i64 a1_2, .int .i64 a1_3] 24 (0, 0)) (by (with_reducible repeat (first | refine blk_drewN ?_ _ | refine blk_drew ?_ | refine blk_alloc ?_ _)); exact BK284.out) hb); have n1_ := Aside0.mk (blk_below (g := gb285) (o := .cells #[.int .i64 a2_0, .int .i64 a2_1, .int .i64 a2_2, .int .i64 a2_3] 24 (0, 0)) (by (with_reducible repeat (first | refine blk_drewN ?_ _ | refine blk_drew ?_ | refine blk_alloc ?_ _)); exact BK285.out) hb); have n2_ := Aside0.mk (below_step (by repeat (first | (with_reducible first | exact HB.out | apply below_alloc | apply pw_below_drewN | apply below_drew1 | refine below_set ?_ GE284.out | refine below_set ?_ GE285.out) | exact HB.out)) hb); clear BK284; clear BK285; clear HB; have BK284 := n0_; have BK285 := n1_; have HB := n2_; clear n0_ n1_ n2_; (try clear hb); (try clear hb2); (try clear hk); (try clear hi); have hnb56 := NB284_285.out; have hnc56 := NB285_284.out; have hcz57_0 : w55.cell? ⟨gb284, 0, none⟩ = some (.int .i64 a1_0) := (blk_cell BK284.out 0).trans rfl; have hcz57_1 : w55.cell? ⟨gb284, 1, none⟩ = some (.int .i64 a1_1) := (blk_cell BK284.out 1).trans rfl; have hcz57_2 : w55.cell? ⟨gb284, 2, none⟩ = some (.int .i64 a1_2) := (blk_cell BK284.out 2).trans rfl; have hcz57_3 : w55.cell? ⟨gb284, 3, none⟩ = some (.int .i64 a1_3) := (blk_cell BK284.out 3).trans rfl; have hfz57_0 := blk_frozen BK284.out 0; have hfz57_1 := blk_frozen BK284.out 1; have hfz57_2 := blk_frozen BK284.out 2; have hfz57_3 := blk_frozen BK284.out 3) | ((with_reducible refine gate_callee (f := 16) rfl ?_); refine goesL_ (some 20) rfl rfl Try.func16 (by kernel_rfl) rfl #[.slice A0 l0.length c0, .agg #[.int .i64 a1_0, .int .i64 a1_1, .int .i64 a1_2, .int .i64 a1_3]] rfl (by (try simp only [List.map_toArray, List.map_cons, List.map_nil]); first | done | rfl | (simp only [List.length_drop, List.length_take]; rfl)) ?_; (with_reducible refine (last_With.calls k _ _ l0 a1_0 a1_1 a1_2 a1_3 t287 t290 _ ?side1 ?side2 A6.out).mono ?_); (case side1 => repeat (first | exact (Kd.C_below HR0.out HB.out) | (with_reducible refine Kd.C_alloc ?_ _) | (with_reducible refine Kd.C_drewN ?_ _) | (with_reducible refine Kd.C_drew ?_))); (case side2 => exact HC0.out); rintro e w58 ⟨v288, rfl, ho0, hb⟩; refine ⟨_, rfl, ?_⟩; have n0_ := Aside0.mk (Kd.R_lower (Kd.R_newB (Kd.R_newB ho0 (g := gb284) (o := .cells #[.int .i64 a1_0, .int .i64 a1_1, .int .i64 a1_2, .int .i64 a1_3] 24 (0, 0)) (by (with_reducible repeat (first | refine blk_drewN ?_ _ | refine blk_drew ?_ | refine blk_alloc ?_ _)); exact BK284.out)) (g := gb285) (o := .cells #[.int .i64 a2_0, .int .i64 a2_1, .int .i64 a2_2, .int .i64 a2_3] 24 (0, 0)) (by (with_reducible repeat (first | refine blk_drewN ?_ _ | refine blk_drew ?_ | refine blk_alloc ?_ _)); exact BK285.out)) (below_size (by repeat (first | (with_reducible first | exact HB.out | apply below_alloc | apply pw_below_drewN | apply below_drew1 | refine below_set ?_ GE284.out | refine below_set ?_ GE285.out) | exact HB.out)))); have n1_ := Aside0.mk (blk_below (g := gb284) (o := .cells #[.int .i64 a1_0, .int .i64 a1_1, .int .i64 a1_2, .int .i64 a1_3] 24 (0, 0)) (by (with_reducible repeat (first | refine blk_drewN ?_ _ | refine blk_drew ?_ | refine blk_alloc ?_ _)); exact BK284.out) hb); have n2_ := Aside0.mk (blk_below (g := gb285) (o := .cells #[.int .i64 a2_0, .int .i64 a2_1, .int .i64 a2_2, .int .i64 a2_3] 24 (0, 0)) (by (with_reducible repeat (first | refine blk_drewN ?_ _ | refine blk_drew ?_ | refine blk_alloc ?_ _)); exact BK285.out) hb); have n3_ := Aside0.mk (below_step (by repeat (first | (with_reducible first | exact HB.out | apply below_alloc | apply pw_below_drewN | apply below_drew1 | refine below_set ?_ GE284.out | refine below_set ?_ GE285.out) | exact HB.out)) hb); clear BK284; clear BK285; clear HB; have HO289 := n0_; have BK284 := n1_; have BK285 := n2_; have HB := n3_; clear n0_ n1_ n2_ n3_; (try clear hb); (try clear hb2); (try clear hk); (try clear hi); (try clear ho0)) | ((with_reducible refine gate_callee (f := 18) rfl ?_); refine goesL_ (some 24) rfl rfl Try.func18 (by kernel_rfl) rfl #[.int .i64 t290] rfl (by (try simp only [List.map_toArray, List.map_cons, List.map_nil]); first | done | rfl | (simp only [List.length_drop, List.length_take]; rfl)) ?_; (with_reducible refine (watchwordlaw0_Num.calls t290 t291 _ A7.out).mono ?_); rintro e w' ⟨rfl, ⟨nd, rfl⟩⟩; refine ⟨_, rfl, ?_⟩; obtain ⟨Ao59, co59, eo59⟩ := Kd.R_slice HO289.out; subst eo59))
   go_ret
   exact ⟨by first | rfl | (simp [errW_none, errW_some] <;> rfl) | (simp [*, errW_none, errW_some] <;> rfl), by repeat (first | (with_reducible first | exact HB.out | apply below_alloc | apply pw_below_drewN | apply below_drew1 | refine below_set ?_ GE284.out | refine below_set ?_ GE285.out) | exact HB.out)⟩
 ·replace c5 := Bool.eq_false_iff.mpr c5
  subst c5
  have H1 : (some false) = some r := by rw [if_neg (show ¬ (false = true) by decide)] at H; exact H
  clear H
  have H := H1
  clear H1
  exact absurd (Option.some.inj H) (by rw [HT.out]; decide)

end Go.Proofs.Ytabjambabnbmnaa.Q14
