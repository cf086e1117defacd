/- Written by a program of this session out of the print of the loaded functions: each Go function as a plain function, and that its call comes to it; for a law, the row out of its plain statement. -/
import Derived.Test.YtabjambabnbmnaaArr
import Derived.Test.YtabjambabnbmnaaQ14x0
import Derived.Test.YtabjambabnbmnaaQ14x114
import Derived.Test.YtabjambabnbmnaaQ14x116
import Derived.Test.YtabjambabnbmnaaQ14x118
import Derived.Test.YtabjambabnbmnaaQ14x120
import Derived.Test.YtabjambabnbmnaaQ14x124
namespace Go.Proofs.Ytabjambabnbmnaa.Q14
open Go.RowKit Go.Proofs.YtabjambabnbmnaaW.PrintWords Go.Proofs.YtabjambabnbmnaaW.PrintLast Go.Proofs.YtabjambabnbmnaaW.PrintMore
attribute [local go_sem] max2_int min2_int max_two min_two max_three min_three max_four min_four   -- for this text's walks alone
set_option linter.unusedVariables false
set_option linter.unusedSimpArgs false

/-! ### watchwordlaw14_LastRow: function 6 -/
mutual
def watchwordlaw14_LastRow.l0 : Nat → List Int → List (S24) → List Int → Int → Option (Bool)
 | 0, _, _, _, _ => none
 | k + 1, x0, x3, x4, x5 => if x5 < (x0.length : Int) then (watchwordlaw14_LastRow.j1 k x0 x3 x4 x5 (decide (x5 < 40))) else (watchwordlaw14_LastRow.j1 k x0 x3 x4 x5 false)
def watchwordlaw14_LastRow.j1 : Nat → List Int → List (S24) → List Int → Int → Bool → Option (Bool)
 | 0, _, _, _, _, _ => none
 | k + 1, x0, x3, x4, x5, x23 => if x23 = true then (if 0 ≤ x5 then (if x5 < (x0.length : Int) then ((some (([1, 4, 5, 4] : List Int) : List Int)).bind fun y201 => (if 0 ≤ (Go.bits .and .i64 ((rd x0 x5) / 4) 3) then (if (Go.bits .and .i64 ((rd x0 x5) / 4) 3) < (y201.length : Int) then ((some (([0, 1, 2, 1] : List Int) : List Int)).bind fun y206 => (if (Go.bits .and .i64 ((rd x0 x5) / 4) 3) < (y206.length : Int) then ((last_Newer.f k x3 (wrap64 (1 + (Go.bits .and .i64 (rd x0 x5) 3))) (rd y201 (Go.bits .and .i64 ((rd x0 x5) / 4) 3)) (wrap64 (1 + (Go.bits .and .i64 ((rd x0 x5) / 16) 3))) (wrap64 (1 + (Go.bits .and .i64 ((rd x0 x5) / 64) 7)))).bind fun bt210 => ((watchwordlaw0_Num.f bt210.2).bind fun t212 => (if t212 = 0 then (if 0 ≤ (wrap64 ((wrap64 (4 * (Go.bits .and .i64 (rd x0 x5) 3))) + (rd y206 (Go.bits .and .i64 ((rd x0 x5) / 4) 3)))) then (if (wrap64 ((wrap64 (4 * (Go.bits .and .i64 (rd x0 x5) 3))) + (rd y206 (Go.bits .and .i64 ((rd x0 x5) / 4) 3)))) < (x4.length : Int) then (watchwordlaw14_LastRow.j2 k x0 x3 x4 x5 (wrap64 ((wrap64 (4 * (Go.bits .and .i64 (rd x0 x5) 3))) + (rd y206 (Go.bits .and .i64 ((rd x0 x5) / 4) 3)))) (wrap64 ((wrap64 (16 * (wrap64 (1 + (Go.bits .and .i64 ((rd x0 x5) / 16) 3))))) + (wrap64 (1 + (Go.bits .and .i64 ((rd x0 x5) / 64) 7))))) bt210.1 (bt210.1 != (decide ((wrap64 ((wrap64 (16 * (wrap64 (1 + (Go.bits .and .i64 ((rd x0 x5) / 16) 3))))) + (wrap64 (1 + (Go.bits .and .i64 ((rd x0 x5) / 64) 7))))) > (rd x4 (wrap64 ((wrap64 (4 * (Go.bits .and .i64 (rd x0 x5) 3))) + (rd y206 (Go.bits .and .i64 ((rd x0 x5) / 4) 3)))))))) (wrap64 (1 + (Go.bits .and .i64 (rd x0 x5) 3))) (rd y201 (Go.bits .and .i64 ((rd x0 x5) / 4) 3)) (wrap64 (1 + (Go.bits .and .i64 ((rd x0 x5) / 16) 3))) (wrap64 (1 + (Go.bits .and .i64 ((rd x0 x5) / 64) 7)))) else (none)) else (none)) else (watchwordlaw14_LastRow.j2 k x0 x3 x4 x5 (wrap64 ((wrap64 (4 * (Go.bits .and .i64 (rd x0 x5) 3))) + (rd y206 (Go.bits .and .i64 ((rd x0 x5) / 4) 3)))) (wrap64 ((wrap64 (16 * (wrap64 (1 + (Go.bits .and .i64 ((rd x0 x5) / 16) 3))))) + (wrap64 (1 + (Go.bits .and .i64 ((rd x0 x5) / 64) 7))))) bt210.1 true (wrap64 (1 + (Go.bits .and .i64 (rd x0 x5) 3))) (rd y201 (Go.bits .and .i64 ((rd x0 x5) / 4) 3)) (wrap64 (1 + (Go.bits .and .i64 ((rd x0 x5) / 16) 3))) (wrap64 (1 + (Go.bits .and .i64 ((rd x0 x5) / 64) 7))))))) else (none))) else (none)) else (none))) else (none)) else (none)) else (some true)
def watchwordlaw14_LastRow.j2 : Nat → List Int → List (S24) → List Int → Int → Int → Int → Bool → Bool → Int → Int → Int → Int → Option (Bool)
 | 0, _, _, _, _, _, _, _, _, _, _, _, _ => none
 | k + 1, x0, x3, x4, x5, x8, x9, x10, x81, x206000, x206001, x206002, x206003 => if x81 = true then (some false) else (if x10 = true then ((last_With.f k x3 x206000 x206001 x206002 x206003).bind fun bt214 => ((watchwordlaw0_Num.f bt214.2).bind fun t218 => (if t218 = 0 then ((last_May.f k bt214.1).bind fun t219 => (if t219 = true then (if 0 ≤ x8 then (if x8 < (x4.length : Int) then (watchwordlaw14_LastRow.l0 k x0 bt214.1 (x4.set (x8 : Int).toNat x9) (wrap64 (x5 + 1))) else (none)) else (none)) else (some false))) else (some false)))) else (watchwordlaw14_LastRow.l0 k x0 x3 x4 (wrap64 (x5 + 1))))
end
def watchwordlaw14_LastRow.f (k : Nat) (l0 : List Int) : Option (Bool) := (watchwordlaw14_awake.f k).bind fun t196 => (if t196 = true then (watchwordlaw14_LastRow.l0 k l0 ([] : List (S24)) (([0, 0, 0, 0, 0, 0, 0, 0, 0, 0, 0, 0, 0, 0, 0, 0] : List Int)) 0) else (some false))
theorem watchwordlaw14_LastRow.mono_l : ∀ k, (∀ y0 y1 y2 y3, LeO (watchwordlaw14_LastRow.l0 k y0 y1 y2 y3) (watchwordlaw14_LastRow.l0 (k + 1) y0 y1 y2 y3)) ∧ (∀ y0 y1 y2 y3 y4, LeO (watchwordlaw14_LastRow.j1 k y0 y1 y2 y3 y4) (watchwordlaw14_LastRow.j1 (k + 1) y0 y1 y2 y3 y4)) ∧ (∀ y0 y1 y2 y3 y4 y5 y6 y7 y8 y9 y10 y11, LeO (watchwordlaw14_LastRow.j2 k y0 y1 y2 y3 y4 y5 y6 y7 y8 y9 y10 y11) (watchwordlaw14_LastRow.j2 (k + 1) y0 y1 y2 y3 y4 y5 y6 y7 y8 y9 y10 y11))
 | 0 => ⟨fun _ _ _ _ r h => by simp [watchwordlaw14_LastRow.l0] at h, fun _ _ _ _ _ r h => by simp [watchwordlaw14_LastRow.j1] at h, fun _ _ _ _ _ _ _ _ _ _ _ _ r h => by simp [watchwordlaw14_LastRow.j2] at h⟩
 | k + 1 => by
  obtain ⟨ih0, ih1, ih2⟩ := watchwordlaw14_LastRow.mono_l k
  refine ⟨?_, ?_, ?_⟩
  ·intro y0 y1 y2 y3
   unfold watchwordlaw14_LastRow.l0
   repeat' first
   | (with_reducible exact ih0 _ _ _ _)
   | (with_reducible exact ih1 _ _ _ _ _)
   | (with_reducible exact ih2 _ _ _ _ _ _ _ _ _ _ _ _)
   | (with_reducible exact last_May.mono _ _)
   | (with_reducible exact last_Newer.mono _ _ _ _ _ _)
   | (with_reducible exact last_With.mono _ _ _ _ _ _)
   | (with_reducible exact watchwordlaw14_awake.mono _)
   | (with_reducible exact LeO.refl _)
   | (with_reducible exact LeO.none _)
   | (with_reducible refine LeO.ite ?_ ?_)
   | (with_reducible refine LeO.bind ?_ (fun _ => ?_))
   | exact ih0 _ _ _ _
   | exact ih1 _ _ _ _ _
   | exact ih2 _ _ _ _ _ _ _ _ _ _ _ _
   | exact last_May.mono _ _
   | exact last_Newer.mono _ _ _ _ _ _
   | exact last_With.mono _ _ _ _ _ _
   | exact watchwordlaw14_awake.mono _
   | exact LeO.none _
   | refine LeO.ite ?_ ?_
   | refine LeO.bind ?_ (fun _ => ?_)
  ·intro y0 y1 y2 y3 y4
   unfold watchwordlaw14_LastRow.j1
   repeat' first
   | (with_reducible exact ih0 _ _ _ _)
   | (with_reducible exact ih1 _ _ _ _ _)
   | (with_reducible exact ih2 _ _ _ _ _ _ _ _ _ _ _ _)
   | (with_reducible exact last_May.mono _ _)
   | (with_reducible exact last_Newer.mono _ _ _ _ _ _)
   | (with_reducible exact last_With.mono _ _ _ _ _ _)
   | (with_reducible exact watchwordlaw14_awake.mono _)
   | (with_reducible exact LeO.refl _)
   | (with_reducible exact LeO.none _)
   | (with_reducible refine LeO.ite ?_ ?_)
   | (with_reducible refine LeO.bind ?_ (fun _ => ?_))
   | exact ih0 _ _ _ _
   | exact ih1 _ _ _ _ _
   | exact ih2 _ _ _ _ _ _ _ _ _ _ _ _
   | exact last_May.mono _ _
   | exact last_Newer.mono _ _ _ _ _ _
   | exact last_With.mono _ _ _ _ _ _
   | exact watchwordlaw14_awake.mono _
   | exact LeO.none _
   | refine LeO.ite ?_ ?_
   | refine LeO.bind ?_ (fun _ => ?_)
  ·intro y0 y1 y2 y3 y4 y5 y6 y7 y8 y9 y10 y11
   unfold watchwordlaw14_LastRow.j2
   repeat' first
   | (with_reducible exact ih0 _ _ _ _)
   | (with_reducible exact ih1 _ _ _ _ _)
   | (with_reducible exact ih2 _ _ _ _ _ _ _ _ _ _ _ _)
   | (with_reducible exact last_May.mono _ _)
   | (with_reducible exact last_Newer.mono _ _ _ _ _ _)
   | (with_reducible exact last_With.mono _ _ _ _ _ _)
   | (with_reducible exact watchwordlaw14_awake.mono _)
   | (with_reducible exact LeO.refl _)
   | (with_reducible exact LeO.none _)
   | (with_reducible refine LeO.ite ?_ ?_)
   | (with_reducible refine LeO.bind ?_ (fun _ => ?_))
   | exact ih0 _ _ _ _
   | exact ih1 _ _ _ _ _
   | exact ih2 _ _ _ _ _ _ _ _ _ _ _ _
   | exact last_May.mono _ _
   | exact last_Newer.mono _ _ _ _ _ _
   | exact last_With.mono _ _ _ _ _ _
   | exact watchwordlaw14_awake.mono _
   | exact LeO.none _
   | refine LeO.ite ?_ ?_
   | refine LeO.bind ?_ (fun _ => ?_)
theorem watchwordlaw14_LastRow.mono : ∀ a0 k, LeO (watchwordlaw14_LastRow.f k a0) (watchwordlaw14_LastRow.f (k + 1) a0) := by
 intro a0 k
 obtain ⟨ih0, ih1, ih2⟩ := watchwordlaw14_LastRow.mono_l k
 unfold watchwordlaw14_LastRow.f
 repeat' first
   | (with_reducible exact ih0 _ _ _ _)
   | (with_reducible exact ih1 _ _ _ _ _)
   | (with_reducible exact ih2 _ _ _ _ _ _ _ _ _ _ _ _)
   | (with_reducible exact last_May.mono _ _)
   | (with_reducible exact last_Newer.mono _ _ _ _ _ _)
   | (with_reducible exact last_With.mono _ _ _ _ _ _)
   | (with_reducible exact watchwordlaw14_awake.mono _)
   | (with_reducible exact LeO.refl _)
   | (with_reducible exact LeO.none _)
   | (with_reducible refine LeO.ite ?_ ?_)
   | (with_reducible refine LeO.bind ?_ (fun _ => ?_))
   | exact ih0 _ _ _ _
   | exact ih1 _ _ _ _ _
   | exact ih2 _ _ _ _ _ _ _ _ _ _ _ _
   | exact last_May.mono _ _
   | exact last_Newer.mono _ _ _ _ _ _
   | exact last_With.mono _ _ _ _ _ _
   | exact watchwordlaw14_awake.mono _
   | exact LeO.none _
   | refine LeO.ite ?_ ?_
   | refine LeO.bind ?_ (fun _ => ?_)
set_option maxHeartbeats 8000000 in
set_option maxRecDepth 100000 in
theorem watchwordlaw14_LastRow.calls (k : Nat) (A0 : Option Addr) (c0 : Nat) (l0 : List Int) (r : Bool) (w : World) (hr0 : Kd.C (Kd.int .i64) w A0 l0.length l0) (hc0 : l0.length ≤ c0) (h : watchwordlaw14_LastRow.f k l0 = some r) (hT : r = true) :
  Calls Try.prog 6 #[.slice A0 l0.length c0] w fun e w' => e = .returned (.bool r) ∧ Below w.heap.size w w' := by
 have hu24 := Try.underlying24
 have HR0 := Aside0.mk hr0
 have HC0 := Aside0.mk hc0
 clear hr0 hc0
 have HB := Aside0.mk (Below.refl w.heap.size w)
 have HT := Aside0.mk hT
 clear hT
 have H : ((watchwordlaw14_awake.f k).bind fun t196 => (if t196 = true then (watchwordlaw14_LastRow.l0 k l0 ([] : List (S24)) (([0, 0, 0, 0, 0, 0, 0, 0, 0, 0, 0, 0, 0, 0, 0, 0] : List Int)) 0) else (some false))) = some r := h
 clear h
 replace H := Option.bind_eq_some_iff.mp H
 obtain ⟨t196, A20, H⟩ := H
 replace H : (if t196 = true then (watchwordlaw14_LastRow.l0 k l0 ([] : List (S24)) (([0, 0, 0, 0, 0, 0, 0, 0, 0, 0, 0, 0, 0, 0, 0, 0] : List Int)) 0) else (some false)) = some r := H
 have A2 := Aside0.mk A20
 clear A20
 by_cases c3 : t196 = true
 ·subst c3
  have H1 : (watchwordlaw14_LastRow.l0 k l0 ([] : List (S24)) (([0, 0, 0, 0, 0, 0, 0, 0, 0, 0, 0, 0, 0, 0, 0, 0] : List Int)) 0) = some r := by rw [if_pos rfl] at H; exact H
  clear H
  have H := H1
  clear H1
  obtain ⟨y197, hy197⟩ : ∃ y_ : List Int, y_ = (([0, 0, 0, 0, 0, 0, 0, 0, 0, 0, 0, 0, 0, 0, 0, 0] : List Int)) := ⟨_, rfl⟩
  replace H : (watchwordlaw14_LastRow.l0 k l0 ([] : List (S24)) y197 0) = some r := by first | (rw [hy197]; with_reducible exact H) | (have H2_ := (Option.bind_some _ _).symm.trans H; rw [hy197]; with_reducible exact H2_) | (have H2_ := (Option.bind_some _ _).symm.trans H; with_reducible exact H2_) | with_reducible exact H | (rw [hy197]; exact H) | exact H
  have Ny197 := Aside0.mk hy197
  clear hy197
  have H' := Aside0.mk H
  clear H
  go_enter Try.func6, Try.ntmps6
  go_wp2_with (first | ((with_reducible refine gate_callee (f := 24) rfl ?_); refine goesL_ (some 14) rfl rfl Try.func24 (by kernel_rfl) rfl #[] rfl (by (try simp only [List.map_toArray, List.map_cons, List.map_nil]); first | done | rfl | (simp only [List.length_drop, List.length_take]; rfl)) ?_; (with_reducible refine (watchwordlaw14_awake.calls k  true _ A2.out (by first | rfl | exact HT.out)).mono ?_); rintro e w4 ⟨rfl, hb⟩; refine ⟨_, rfl, ?_⟩; have n0_ := Aside0.mk (below_step (by repeat (first | (with_reducible first | exact HB.out | apply below_alloc | apply pw_below_drewN | apply below_drew1) | exact HB.out)) hb); clear HB; have HB := n0_; clear n0_; (try clear hb); (try clear hb2); (try clear hk); (try clear hi)) | ((with_reducible refine gate_dst (N := 4) rfl ?_); refine Kd.R_arr (Kd.int .i64) _ 45 ?hg (N := 4) ?hd (xs := ([0, 0, 0, 0, 0, 0, 0, 0, 0, 0, 0, 0, 0, 0, 0, 0] : List Int)) (inner := [.int .i64 0, .int .i64 0, .int .i64 0, .int .i64 0, .int .i64 0, .int .i64 0, .int .i64 0, .int .i64 0, .int .i64 0, .int .i64 0, .int .i64 0, .int .i64 0, .int .i64 0, .int .i64 0, .int .i64 0, .int .i64 0]) (ok := fun _ => True) (okp := fun _ => True) ?hr ?hp (fun _ hk => hk) trivial (Below.refl _ _) (Nat.le_refl _) (by simp) ?_; (case hd => rfl); (case hg => rfl); (case hr => first | (go_simp; done) | (go_simp; rfl)); (case hp => exact (Reps.one (show Kd.M (Kd.int .i64) _ _ _ 0 [.int .i64 0] from rfl) (Reps.one (show Kd.M (Kd.int .i64) _ _ _ 0 [.int .i64 0] from rfl) (Reps.one (show Kd.M (Kd.int .i64) _ _ _ 0 [.int .i64 0] from rfl) (Reps.one (show Kd.M (Kd.int .i64) _ _ _ 0 [.int .i64 0] from rfl) (Reps.one (show Kd.M (Kd.int .i64) _ _ _ 0 [.int .i64 0] from rfl) (Reps.one (show Kd.M (Kd.int .i64) _ _ _ 0 [.int .i64 0] from rfl) (Reps.one (show Kd.M (Kd.int .i64) _ _ _ 0 [.int .i64 0] from rfl) (Reps.one (show Kd.M (Kd.int .i64) _ _ _ 0 [.int .i64 0] from rfl) (Reps.one (show Kd.M (Kd.int .i64) _ _ _ 0 [.int .i64 0] from rfl) (Reps.one (show Kd.M (Kd.int .i64) _ _ _ 0 [.int .i64 0] from rfl) (Reps.one (show Kd.M (Kd.int .i64) _ _ _ 0 [.int .i64 0] from rfl) (Reps.one (show Kd.M (Kd.int .i64) _ _ _ 0 [.int .i64 0] from rfl) (Reps.one (show Kd.M (Kd.int .i64) _ _ _ 0 [.int .i64 0] from rfl) (Reps.one (show Kd.M (Kd.int .i64) _ _ _ 0 [.int .i64 0] from rfl) (Reps.one (show Kd.M (Kd.int .i64) _ _ _ 0 [.int .i64 0] from rfl) (Reps.one (show Kd.M (Kd.int .i64) _ _ _ 0 [.int .i64 0] from rfl) (Reps.none _ _)))))))))))))))))); intro ga198 w5 ho6 hb hg_ hnew_; obtain ⟨v198, hv_⟩ : ∃ v_ : Value, v_ = .slice (some ga198) 16 16 := ⟨_, rfl⟩; replace ho6 : Kd.R (Kd.int .i64) 45 w5 _ _ (.slice (some ga198) 16 16) _ := ho6; rw [← hv_] at ho6; have HV198 := Aside0.mk hv_; clear hv_; clear hg_ hnew_; (first | rw [← Ny197.out] at ho6 | (simp only [Int.reduceToNat] at ho6; rw [← Ny197.out] at ho6)); have n0_ := Aside0.mk (Kd.R_lower ho6 (below_size (by repeat (first | (with_reducible first | exact HB.out | apply below_alloc | apply pw_below_drewN | apply below_drew1) | exact HB.out)))); have n1_ := Aside0.mk (below_step (by repeat (first | (with_reducible first | exact HB.out | apply below_alloc | apply pw_below_drewN | apply below_drew1) | exact HB.out)) hb); clear HB; have HO199 := n0_; have HB := n1_; clear n0_ n1_; clear hb ho6))
  go_loopg [3, 5] k (fun kq v3 v5 w' => ∃ (x3_1 : List (S24)) (x4_1 : List Int) (x5_1 : Int), v5 = .int .i64 x5_1 ∧ Aside0 (watchwordlaw14_LastRow.l0 kq l0 x3_1 x4_1 x5_1 = some r) ∧ Aside0 (kq ≤ k) ∧ Aside0 (Kd.R k24 24 w' w.heap.size (fun _ => True) v3 x3_1) ∧ Aside0 (Kd.R (Kd.int .i64) 45 w' w.heap.size (fun _ => True) v198 x4_1) ∧ Aside0 (Below w.heap.size w w'))
  case atStart => exact ⟨(([] : List (S24))), (y197), (0), (by first | rfl | (simp; done) | (simp [*]; done)), H', ⟨Nat.le_refl _⟩, ⟨by first | exact Kd.R_nil _ _ _ _ _ | exact Kd.N_nil _ _ _ _ _ | exact Kd.V_nil _ _ _ _ _ | exact Kd.Q_nil _ _ _ _ _ | exact Kd.S_nil _ _ _ _ _⟩, ⟨by (with_reducible repeat (first | apply Kd.R_alloc | apply Kd.R_drewN | apply Kd.R_drew)); exact HO199.out⟩, ⟨by repeat (first | (with_reducible first | exact HB.out | apply below_alloc | apply pw_below_drewN | apply below_drew1) | exact HB.out)⟩⟩
  case round =>
   clear H'
   try clear c2
   try clear p2
   try clear c3
   try clear c6
   obtain ⟨x3_1, x4_1, x5_1, rfl, HA, HK1, HO_3, HO_4, HB⟩ := hrel
   cases gk with
   | zero => exact absurd HA.out (by simp [watchwordlaw14_LastRow.l0])
   | succ k1 =>
    have H := HA.out
    clear HA
    simp only [watchwordlaw14_LastRow.l0] at H
    have HC7 := Aside0.mk H
    clear H
    go_upto_region 6 with (fail)
    go_cut [23] (fun v23 wc => ∃ (kq : Nat) (x23_6 : Bool), v23 = .bool x23_6 ∧ Aside0 (watchwordlaw14_LastRow.j1 kq l0 x3_1 x4_1 x5_1 x23_6 = some r) ∧ Aside0 (kq ≤ k1) ∧ Aside0 (Kd.R k24 24 wc w.heap.size (fun _ => True) u3 x3_1) ∧ Aside0 (Kd.R (Kd.int .i64) 45 wc w.heap.size (fun _ => True) v198 x4_1) ∧ Aside0 (Below w.heap.size w wc))
    case first =>
     have H := HC7.out
     clear HC7
     by_cases c8 : x5_1 < (l0.length : Int)
     ·rw [if_pos c8] at H
      have c8b0 : decide (x5_1 < (l0.length : Int)) = true := decide_eq_true c8
      clear c8
      (first | rw [c8b0] | (simp only [i64_w, i32_w]; rw [c8b0]) | skip)
      have H' := Aside0.mk H
      clear H
      go_wp2
      go_meet
      case rel => exact ⟨_, (decide (x5_1 < 40)), (by first | rfl | (simp; done) | (simp [*]; done)), H', ⟨by have := HK1.out; first | omega | exact Nat.le_refl _⟩, ⟨by (with_reducible repeat (first | apply Kd.R_alloc | apply Kd.R_drewN | apply Kd.R_drew)); exact HO_3.out⟩, ⟨by (with_reducible repeat (first | apply Kd.R_alloc | apply Kd.R_drewN | apply Kd.R_drew)); exact HO_4.out⟩, ⟨by repeat (first | (with_reducible first | exact HB.out | apply below_alloc | apply pw_below_drewN | apply below_drew1) | exact HB.out)⟩⟩
     ·rw [if_neg c8] at H
      have c8b0 : decide (x5_1 < (l0.length : Int)) = false := decide_eq_false c8
      clear c8
      (first | rw [c8b0] | (simp only [i64_w, i32_w]; rw [c8b0]) | skip)
      have H' := Aside0.mk H
      clear H
      go_wp2
      go_meet
      case rel => exact ⟨_, (false), (by first | rfl | (simp; done) | (simp [*]; done)), H', ⟨by have := HK1.out; first | omega | exact Nat.le_refl _⟩, ⟨by (with_reducible repeat (first | apply Kd.R_alloc | apply Kd.R_drewN | apply Kd.R_drew)); exact HO_3.out⟩, ⟨by (with_reducible repeat (first | apply Kd.R_alloc | apply Kd.R_drewN | apply Kd.R_drew)); exact HO_4.out⟩, ⟨by repeat (first | (with_reducible first | exact HB.out | apply below_alloc | apply pw_below_drewN | apply below_drew1) | exact HB.out)⟩⟩
    case rest =>
     clear HC7
     try clear c2
     try clear p2
     try clear c3
     try clear c6
     try clear c8
     try clear c8b0
     try clear p2
     obtain ⟨kq, x23_6, rfl, HA, HJ6, HO_3, HO_4, HB⟩ := hcut
     cases kq with
     | zero => exact absurd HA.out (by simp [watchwordlaw14_LastRow.j1])
     | succ kj6 =>
      have H := HA.out
      clear HA
      simp only [watchwordlaw14_LastRow.j1] at H
      by_cases c9 : x23_6 = true
      ·subst c9
       have H1 : (if 0 ≤ x5_1 then (if x5_1 < (l0.length : Int) then ((some (([1, 4, 5, 4] : List Int) : List Int)).bind fun y201 => (if 0 ≤ (Go.bits .and .i64 ((rd l0 x5_1) / 4) 3) then (if (Go.bits .and .i64 ((rd l0 x5_1) / 4) 3) < (y201.length : Int) then ((some (([0, 1, 2, 1] : List Int) : List Int)).bind fun y206 => (if (Go.bits .and .i64 ((rd l0 x5_1) / 4) 3) < (y206.length : Int) then ((last_Newer.f kj6 x3_1 (wrap64 (1 + (Go.bits .and .i64 (rd l0 x5_1) 3))) (rd y201 (Go.bits .and .i64 ((rd l0 x5_1) / 4) 3)) (wrap64 (1 + (Go.bits .and .i64 ((rd l0 x5_1) / 16) 3))) (wrap64 (1 + (Go.bits .and .i64 ((rd l0 x5_1) / 64) 7)))).bind fun bt210 => ((watchwordlaw0_Num.f bt210.2).bind fun t212 => (if t212 = 0 then (if 0 ≤ (wrap64 ((wrap64 (4 * (Go.bits .and .i64 (rd l0 x5_1) 3))) + (rd y206 (Go.bits .and .i64 ((rd l0 x5_1) / 4) 3)))) then (if (wrap64 ((wrap64 (4 * (Go.bits .and .i64 (rd l0 x5_1) 3))) + (rd y206 (Go.bits .and .i64 ((rd l0 x5_1) / 4) 3)))) < (x4_1.length : Int) then (watchwordlaw14_LastRow.j2 kj6 l0 x3_1 x4_1 x5_1 (wrap64 ((wrap64 (4 * (Go.bits .and .i64 (rd l0 x5_1) 3))) + (rd y206 (Go.bits .and .i64 ((rd l0 x5_1) / 4) 3)))) (wrap64 ((wrap64 (16 * (wrap64 (1 + (Go.bits .and .i64 ((rd l0 x5_1) / 16) 3))))) + (wrap64 (1 + (Go.bits .and .i64 ((rd l0 x5_1) / 64) 7))))) bt210.1 (bt210.1 != (decide ((wrap64 ((wrap64 (16 * (wrap64 (1 + (Go.bits .and .i64 ((rd l0 x5_1) / 16) 3))))) + (wrap64 (1 + (Go.bits .and .i64 ((rd l0 x5_1) / 64) 7))))) > (rd x4_1 (wrap64 ((wrap64 (4 * (Go.bits .and .i64 (rd l0 x5_1) 3))) + (rd y206 (Go.bits .and .i64 ((rd l0 x5_1) / 4) 3)))))))) (wrap64 (1 + (Go.bits .and .i64 (rd l0 x5_1) 3))) (rd y201 (Go.bits .and .i64 ((rd l0 x5_1) / 4) 3)) (wrap64 (1 + (Go.bits .and .i64 ((rd l0 x5_1) / 16) 3))) (wrap64 (1 + (Go.bits .and .i64 ((rd l0 x5_1) / 64) 7)))) else (none)) else (none)) else (watchwordlaw14_LastRow.j2 kj6 l0 x3_1 x4_1 x5_1 (wrap64 ((wrap64 (4 * (Go.bits .and .i64 (rd l0 x5_1) 3))) + (rd y206 (Go.bits .and .i64 ((rd l0 x5_1) / 4) 3)))) (wrap64 ((wrap64 (16 * (wrap64 (1 + (Go.bits .and .i64 ((rd l0 x5_1) / 16) 3))))) + (wrap64 (1 + (Go.bits .and .i64 ((rd l0 x5_1) / 64) 7))))) bt210.1 true (wrap64 (1 + (Go.bits .and .i64 (rd l0 x5_1) 3))) (rd y201 (Go.bits .and .i64 ((rd l0 x5_1) / 4) 3)) (wrap64 (1 + (Go.bits .and .i64 ((rd l0 x5_1) / 16) 3))) (wrap64 (1 + (Go.bits .and .i64 ((rd l0 x5_1) / 64) 7))))))) else (none))) else (none)) else (none))) else (none)) else (none)) = some r := by rw [if_pos rfl] at H; exact H
       clear H
       have H := H1
       clear H1
       by_cases c10 : 0 ≤ x5_1
       ·rw [if_pos c10] at H
        have c10b0 : decide (0 ≤ x5_1) = true := decide_eq_true c10
        clear c10
        by_cases c11 : x5_1 < (l0.length : Int)
        ·rw [if_pos c11] at H
         have c11b0 : decide (x5_1 < (l0.length : Int)) = true := decide_eq_true c11
         clear c11
         obtain ⟨y201, hy201⟩ : ∃ y_ : List Int, y_ = (([1, 4, 5, 4] : List Int)) := ⟨_, rfl⟩
         replace H : (if 0 ≤ (Go.bits .and .i64 ((rd l0 x5_1) / 4) 3) then (if (Go.bits .and .i64 ((rd l0 x5_1) / 4) 3) < (y201.length : Int) then ((some (([0, 1, 2, 1] : List Int) : List Int)).bind fun y206 => (if (Go.bits .and .i64 ((rd l0 x5_1) / 4) 3) < (y206.length : Int) then ((last_Newer.f kj6 x3_1 (wrap64 (1 + (Go.bits .and .i64 (rd l0 x5_1) 3))) (rd y201 (Go.bits .and .i64 ((rd l0 x5_1) / 4) 3)) (wrap64 (1 + (Go.bits .and .i64 ((rd l0 x5_1) / 16) 3))) (wrap64 (1 + (Go.bits .and .i64 ((rd l0 x5_1) / 64) 7)))).bind fun bt210 => ((watchwordlaw0_Num.f bt210.2).bind fun t212 => (if t212 = 0 then (if 0 ≤ (wrap64 ((wrap64 (4 * (Go.bits .and .i64 (rd l0 x5_1) 3))) + (rd y206 (Go.bits .and .i64 ((rd l0 x5_1) / 4) 3)))) then (if (wrap64 ((wrap64 (4 * (Go.bits .and .i64 (rd l0 x5_1) 3))) + (rd y206 (Go.bits .and .i64 ((rd l0 x5_1) / 4) 3)))) < (x4_1.length : Int) then (watchwordlaw14_LastRow.j2 kj6 l0 x3_1 x4_1 x5_1 (wrap64 ((wrap64 (4 * (Go.bits .and .i64 (rd l0 x5_1) 3))) + (rd y206 (Go.bits .and .i64 ((rd l0 x5_1) / 4) 3)))) (wrap64 ((wrap64 (16 * (wrap64 (1 + (Go.bits .and .i64 ((rd l0 x5_1) / 16) 3))))) + (wrap64 (1 + (Go.bits .and .i64 ((rd l0 x5_1) / 64) 7))))) bt210.1 (bt210.1 != (decide ((wrap64 ((wrap64 (16 * (wrap64 (1 + (Go.bits .and .i64 ((rd l0 x5_1) / 16) 3))))) + (wrap64 (1 + (Go.bits .and .i64 ((rd l0 x5_1) / 64) 7))))) > (rd x4_1 (wrap64 ((wrap64 (4 * (Go.bits .and .i64 (rd l0 x5_1) 3))) + (rd y206 (Go.bits .and .i64 ((rd l0 x5_1) / 4) 3)))))))) (wrap64 (1 + (Go.bits .and .i64 (rd l0 x5_1) 3))) (rd y201 (Go.bits .and .i64 ((rd l0 x5_1) / 4) 3)) (wrap64 (1 + (Go.bits .and .i64 ((rd l0 x5_1) / 16) 3))) (wrap64 (1 + (Go.bits .and .i64 ((rd l0 x5_1) / 64) 7)))) else (none)) else (none)) else (watchwordlaw14_LastRow.j2 kj6 l0 x3_1 x4_1 x5_1 (wrap64 ((wrap64 (4 * (Go.bits .and .i64 (rd l0 x5_1) 3))) + (rd y206 (Go.bits .and .i64 ((rd l0 x5_1) / 4) 3)))) (wrap64 ((wrap64 (16 * (wrap64 (1 + (Go.bits .and .i64 ((rd l0 x5_1) / 16) 3))))) + (wrap64 (1 + (Go.bits .and .i64 ((rd l0 x5_1) / 64) 7))))) bt210.1 true (wrap64 (1 + (Go.bits .and .i64 (rd l0 x5_1) 3))) (rd y201 (Go.bits .and .i64 ((rd l0 x5_1) / 4) 3)) (wrap64 (1 + (Go.bits .and .i64 ((rd l0 x5_1) / 16) 3))) (wrap64 (1 + (Go.bits .and .i64 ((rd l0 x5_1) / 64) 7))))))) else (none))) else (none)) else (none)) = some r := by first | (rw [hy201]; with_reducible exact H) | (have H2_ := (Option.bind_some _ _).symm.trans H; rw [hy201]; with_reducible exact H2_) | (have H2_ := (Option.bind_some _ _).symm.trans H; with_reducible exact H2_) | with_reducible exact H | (rw [hy201]; exact H) | exact H
         have Ny201 := Aside0.mk hy201
         clear hy201
         obtain ⟨ji12, hji12⟩ : ∃ j_ : Int, (Go.bits .and .i64 ((rd l0 x5_1) / 4) 3) = j_ := ⟨_, rfl⟩
         replace H : (if 0 ≤ (ji12) then (if (ji12) < (y201.length : Int) then ((some (([0, 1, 2, 1] : List Int) : List Int)).bind fun y206 => (if (ji12) < (y206.length : Int) then ((last_Newer.f kj6 x3_1 (wrap64 (1 + (Go.bits .and .i64 (rd l0 x5_1) 3))) (rd y201 (ji12)) (wrap64 (1 + (Go.bits .and .i64 ((rd l0 x5_1) / 16) 3))) (wrap64 (1 + (Go.bits .and .i64 ((rd l0 x5_1) / 64) 7)))).bind fun bt210 => ((watchwordlaw0_Num.f bt210.2).bind fun t212 => (if t212 = 0 then (if 0 ≤ (wrap64 ((wrap64 (4 * (Go.bits .and .i64 (rd l0 x5_1) 3))) + (rd y206 (ji12)))) then (if (wrap64 ((wrap64 (4 * (Go.bits .and .i64 (rd l0 x5_1) 3))) + (rd y206 (ji12)))) < (x4_1.length : Int) then (watchwordlaw14_LastRow.j2 kj6 l0 x3_1 x4_1 x5_1 (wrap64 ((wrap64 (4 * (Go.bits .and .i64 (rd l0 x5_1) 3))) + (rd y206 (ji12)))) (wrap64 ((wrap64 (16 * (wrap64 (1 + (Go.bits .and .i64 ((rd l0 x5_1) / 16) 3))))) + (wrap64 (1 + (Go.bits .and .i64 ((rd l0 x5_1) / 64) 7))))) bt210.1 (bt210.1 != (decide ((wrap64 ((wrap64 (16 * (wrap64 (1 + (Go.bits .and .i64 ((rd l0 x5_1) / 16) 3))))) + (wrap64 (1 + (Go.bits .and .i64 ((rd l0 x5_1) / 64) 7))))) > (rd x4_1 (wrap64 ((wrap64 (4 * (Go.bits .and .i64 (rd l0 x5_1) 3))) + (rd y206 (ji12)))))))) (wrap64 (1 + (Go.bits .and .i64 (rd l0 x5_1) 3))) (rd y201 (ji12)) (wrap64 (1 + (Go.bits .and .i64 ((rd l0 x5_1) / 16) 3))) (wrap64 (1 + (Go.bits .and .i64 ((rd l0 x5_1) / 64) 7)))) else (none)) else (none)) else (watchwordlaw14_LastRow.j2 kj6 l0 x3_1 x4_1 x5_1 (wrap64 ((wrap64 (4 * (Go.bits .and .i64 (rd l0 x5_1) 3))) + (rd y206 (ji12)))) (wrap64 ((wrap64 (16 * (wrap64 (1 + (Go.bits .and .i64 ((rd l0 x5_1) / 16) 3))))) + (wrap64 (1 + (Go.bits .and .i64 ((rd l0 x5_1) / 64) 7))))) bt210.1 true (wrap64 (1 + (Go.bits .and .i64 (rd l0 x5_1) 3))) (rd y201 (ji12)) (wrap64 (1 + (Go.bits .and .i64 ((rd l0 x5_1) / 16) 3))) (wrap64 (1 + (Go.bits .and .i64 ((rd l0 x5_1) / 64) 7))))))) else (none))) else (none)) else (none)) = some r := by first | (rw [hji12] at H; exact H) | (simp only [hji12] at H ⊢; exact H)
         by_cases c13 : 0 ≤ (ji12)
         ·rw [if_pos c13] at H
          have c13b0 : decide (0 ≤ (ji12)) = true := decide_eq_true c13
          clear c13
          by_cases c14 : (ji12) < (y201.length : Int)
          ·rw [if_pos c14] at H
           have c14b0 : decide ((ji12) < (y201.length : Int)) = true := decide_eq_true c14
           clear c14
           obtain ⟨y206, hy206⟩ : ∃ y_ : List Int, y_ = (([0, 1, 2, 1] : List Int)) := ⟨_, rfl⟩
           replace H : (if (ji12) < (y206.length : Int) then ((last_Newer.f kj6 x3_1 (wrap64 (1 + (Go.bits .and .i64 (rd l0 x5_1) 3))) (rd y201 (ji12)) (wrap64 (1 + (Go.bits .and .i64 ((rd l0 x5_1) / 16) 3))) (wrap64 (1 + (Go.bits .and .i64 ((rd l0 x5_1) / 64) 7)))).bind fun bt210 => ((watchwordlaw0_Num.f bt210.2).bind fun t212 => (if t212 = 0 then (if 0 ≤ (wrap64 ((wrap64 (4 * (Go.bits .and .i64 (rd l0 x5_1) 3))) + (rd y206 (ji12)))) then (if (wrap64 ((wrap64 (4 * (Go.bits .and .i64 (rd l0 x5_1) 3))) + (rd y206 (ji12)))) < (x4_1.length : Int) then (watchwordlaw14_LastRow.j2 kj6 l0 x3_1 x4_1 x5_1 (wrap64 ((wrap64 (4 * (Go.bits .and .i64 (rd l0 x5_1) 3))) + (rd y206 (ji12)))) (wrap64 ((wrap64 (16 * (wrap64 (1 + (Go.bits .and .i64 ((rd l0 x5_1) / 16) 3))))) + (wrap64 (1 + (Go.bits .and .i64 ((rd l0 x5_1) / 64) 7))))) bt210.1 (bt210.1 != (decide ((wrap64 ((wrap64 (16 * (wrap64 (1 + (Go.bits .and .i64 ((rd l0 x5_1) / 16) 3))))) + (wrap64 (1 + (Go.bits .and .i64 ((rd l0 x5_1) / 64) 7))))) > (rd x4_1 (wrap64 ((wrap64 (4 * (Go.bits .and .i64 (rd l0 x5_1) 3))) + (rd y206 (ji12)))))))) (wrap64 (1 + (Go.bits .and .i64 (rd l0 x5_1) 3))) (rd y201 (ji12)) (wrap64 (1 + (Go.bits .and .i64 ((rd l0 x5_1) / 16) 3))) (wrap64 (1 + (Go.bits .and .i64 ((rd l0 x5_1) / 64) 7)))) else (none)) else (none)) else (watchwordlaw14_LastRow.j2 kj6 l0 x3_1 x4_1 x5_1 (wrap64 ((wrap64 (4 * (Go.bits .and .i64 (rd l0 x5_1) 3))) + (rd y206 (ji12)))) (wrap64 ((wrap64 (16 * (wrap64 (1 + (Go.bits .and .i64 ((rd l0 x5_1) / 16) 3))))) + (wrap64 (1 + (Go.bits .and .i64 ((rd l0 x5_1) / 64) 7))))) bt210.1 true (wrap64 (1 + (Go.bits .and .i64 (rd l0 x5_1) 3))) (rd y201 (ji12)) (wrap64 (1 + (Go.bits .and .i64 ((rd l0 x5_1) / 16) 3))) (wrap64 (1 + (Go.bits .and .i64 ((rd l0 x5_1) / 64) 7))))))) else (none)) = some r := by first | (rw [hy206]; with_reducible exact H) | (have H2_ := (Option.bind_some _ _).symm.trans H; rw [hy206]; with_reducible exact H2_) | (have H2_ := (Option.bind_some _ _).symm.trans H; with_reducible exact H2_) | with_reducible exact H | (rw [hy206]; exact H) | exact H
           have Ny206 := Aside0.mk hy206
           clear hy206
           by_cases c15 : (ji12) < (y206.length : Int)
           ·rw [if_pos c15] at H
            have c15b0 : decide ((ji12) < (y206.length : Int)) = true := decide_eq_true c15
            clear c15
            replace H := Option.bind_eq_some_iff.mp H
            obtain ⟨⟨t210, t211⟩, A160, H⟩ := H
            replace H : ((watchwordlaw0_Num.f t211).bind fun t212 => (if t212 = 0 then (if 0 ≤ (wrap64 ((wrap64 (4 * (Go.bits .and .i64 (rd l0 x5_1) 3))) + (rd y206 (ji12)))) then (if (wrap64 ((wrap64 (4 * (Go.bits .and .i64 (rd l0 x5_1) 3))) + (rd y206 (ji12)))) < (x4_1.length : Int) then (watchwordlaw14_LastRow.j2 kj6 l0 x3_1 x4_1 x5_1 (wrap64 ((wrap64 (4 * (Go.bits .and .i64 (rd l0 x5_1) 3))) + (rd y206 (ji12)))) (wrap64 ((wrap64 (16 * (wrap64 (1 + (Go.bits .and .i64 ((rd l0 x5_1) / 16) 3))))) + (wrap64 (1 + (Go.bits .and .i64 ((rd l0 x5_1) / 64) 7))))) t210 (t210 != (decide ((wrap64 ((wrap64 (16 * (wrap64 (1 + (Go.bits .and .i64 ((rd l0 x5_1) / 16) 3))))) + (wrap64 (1 + (Go.bits .and .i64 ((rd l0 x5_1) / 64) 7))))) > (rd x4_1 (wrap64 ((wrap64 (4 * (Go.bits .and .i64 (rd l0 x5_1) 3))) + (rd y206 (ji12)))))))) (wrap64 (1 + (Go.bits .and .i64 (rd l0 x5_1) 3))) (rd y201 (ji12)) (wrap64 (1 + (Go.bits .and .i64 ((rd l0 x5_1) / 16) 3))) (wrap64 (1 + (Go.bits .and .i64 ((rd l0 x5_1) / 64) 7)))) else (none)) else (none)) else (watchwordlaw14_LastRow.j2 kj6 l0 x3_1 x4_1 x5_1 (wrap64 ((wrap64 (4 * (Go.bits .and .i64 (rd l0 x5_1) 3))) + (rd y206 (ji12)))) (wrap64 ((wrap64 (16 * (wrap64 (1 + (Go.bits .and .i64 ((rd l0 x5_1) / 16) 3))))) + (wrap64 (1 + (Go.bits .and .i64 ((rd l0 x5_1) / 64) 7))))) t210 true (wrap64 (1 + (Go.bits .and .i64 (rd l0 x5_1) 3))) (rd y201 (ji12)) (wrap64 (1 + (Go.bits .and .i64 ((rd l0 x5_1) / 16) 3))) (wrap64 (1 + (Go.bits .and .i64 ((rd l0 x5_1) / 64) 7)))))) = some r := H
            have A16 := Aside0.mk A160
            clear A160
            obtain ⟨ji32, hji32⟩ : ∃ j_ : Int, (wrap64 ((wrap64 (4 * (Go.bits .and .i64 (rd l0 x5_1) 3))) + (rd y206 (ji12)))) = j_ := ⟨_, rfl⟩
            simp only [hji32] at H
            have hji32w : (IntKind.i64.wrap ((wrap64 (4 * (Go.bits .and .i64 (rd l0 x5_1) 3))) + (rd y206 (ji12)))) = ji32 := (i64_w _).trans hji32
            have HC17 := Aside0.mk H
            clear H
            have p200 : 0 ≤ (x5_1 : Int) := of_decide_eq_true (by first | (with_reducible assumption) | assumption)
            have q200 : x5_1 < (l0.length : Int) := of_decide_eq_true (by first | (with_reducible assumption) | assumption)
            obtain ⟨ad200, e200, hx200_0⟩ := Kd.at_int HR0.out x5_1 p200 q200
            cases e200; (try (injection ha_ with ha_; subst ha_))
            replace hx200_0 := (HB.out.cell (World.block_lt_of_cell? w _ hx200_0)).trans hx200_0
            replace p200 := eq_true p200
            replace q200 := eq_true q200
            go_upto_region 13 with (first | ((with_reducible refine gate_dst (N := 33) rfl ?_); refine Kd.R_lit (Kd.int .i64) _ 3 ?hg (N := 33) ?hd (xs := ([1, 4, 5, 4] : List Int)) (inner := [.int .i64 1, .int .i64 4, .int .i64 5, .int .i64 4]) (ok := fun _ => True) (okp := fun _ => True) ?hr ?hp (fun _ hk => hk) trivial (Below.refl _ _) (Nat.le_refl _) (by simp) ?_; (case hd => rfl); (case hg => rfl); (case hr => first | (go_simp; done) | (go_simp; rfl)); (case hp => exact (Reps.one (show Kd.M (Kd.int .i64) _ _ _ 1 [.int .i64 1] from rfl) (Reps.one (show Kd.M (Kd.int .i64) _ _ _ 4 [.int .i64 4] from rfl) (Reps.one (show Kd.M (Kd.int .i64) _ _ _ 5 [.int .i64 5] from rfl) (Reps.one (show Kd.M (Kd.int .i64) _ _ _ 4 [.int .i64 4] from rfl) (Reps.none _ _)))))); intro v202 w18 ho19 hb hg_ hnew_; clear hg_ hnew_; (first | rw [← Ny201.out] at ho19 | (simp only [Int.reduceToNat] at ho19; rw [← Ny201.out] at ho19)); have n0_ := Aside0.mk (Kd.R_below (by (with_reducible repeat (first | apply Kd.R_alloc | apply Kd.R_drewN | apply Kd.R_drew)); exact HO_3.out) hb); have n1_ := Aside0.mk (Kd.R_elder' (by (with_reducible repeat (first | apply Kd.R_alloc | apply Kd.R_drewN | apply Kd.R_drew)); exact HO_4.out) (Kd.R_base ho19) hb); have n2_ := Aside0.mk (Kd.R_lower (Kd.R_new' ho19 (Kd.R_lt (by (with_reducible repeat (first | apply Kd.R_alloc | apply Kd.R_drewN | apply Kd.R_drew)); exact HO_4.out))) (below_size (by repeat (first | (with_reducible first | exact HB.out | apply below_alloc | apply pw_below_drewN | apply below_drew1) | exact HB.out)))); have n3_ := Aside0.mk (below_step (by repeat (first | (with_reducible first | exact HB.out | apply below_alloc | apply pw_below_drewN | apply below_drew1) | exact HB.out)) hb); clear HO_3; clear HO_4; clear HB; have HO_3 := n0_; have HO_4 := n1_; have HO203 := n2_; have HB := n3_; clear n0_ n1_ n2_ n3_; clear hb ho19; obtain ⟨Ao20, co20, eo20⟩ := Kd.R_slice HO203.out; subst eo20; have p204 : 0 ≤ ((ji12) : Int) := of_decide_eq_true (by first | (with_reducible assumption) | assumption); have q204 : (ji12) < (y201.length : Int) := of_decide_eq_true (by first | (with_reducible assumption) | assumption); obtain ⟨ad204, e204, hx204_0⟩ := Kd.at_int (Kd.R_reads' HO203.out).2.2 (ji12) p204 q204; cases e204; (try (injection ha_ with ha_; subst ha_)); replace p204 := eq_true p204; replace q204 := eq_true q204) | ((with_reducible refine gate_dst (N := 7) rfl ?_); refine box_event ?hg (N := 7) ?hd (cs := #[.int .i64 0, .int .i64 0, .int .i64 0, .int .i64 0]) (t := 24) ?hr ?_; (case hd => rfl); (case hg => rfl); (case hr => first | (go_simp; done) | (go_simp; rfl)); intro gb205 hg w21 hbox hb; have n0_ := Aside0.mk (Kd.R_below (Kd.R_elderB (by (with_reducible repeat (first | apply Kd.R_alloc | apply Kd.R_drewN | apply Kd.R_drew)); exact HO_3.out) gb205 (Nat.le_of_eq hg.symm)) hb); have n1_ := Aside0.mk (Kd.R_below (by (with_reducible repeat (first | apply Kd.R_alloc | apply Kd.R_drewN | apply Kd.R_drew)); exact HO_4.out) hb); have n2_ := Aside0.mk (Kd.R_below (by (with_reducible repeat (first | apply Kd.R_alloc | apply Kd.R_drewN | apply Kd.R_drew)); exact HO203.out) hb); have n3_ := Aside0.mk (below_step (by repeat (first | (with_reducible first | exact HB.out | apply below_alloc | apply pw_below_drewN | apply below_drew1) | exact HB.out)) hb); have n4_ := Aside0.mk (hbox); have n5_ := Aside0.mk ((by rw [hg]; exact (below_size (by repeat (first | (with_reducible first | exact HB.out | apply below_alloc | apply pw_below_drewN | apply below_drew1) | exact HB.out))) : w.heap.size ≤ gb205)); have n6_ := Aside0.mk ((by rw [hg]; exact (below_size (by repeat (first | (with_reducible first | exact HB.out | apply below_alloc | apply pw_below_drewN | apply below_drew1) | exact HB.out))) : w.heap.size ≤ gb205)); clear HO_3; clear HO_4; clear HO203; clear HB; have HO_3 := n0_; have HO_4 := n1_; have HO203 := n2_; have HB := n3_; have BK205 := n4_; have GW205 := n5_; have GE205 := n6_; clear n0_ n1_ n2_ n3_ n4_ n5_ n6_; clear hb hbox hg; have hcz22_0 : w21.cell? ⟨gb205, 0, none⟩ = some (.int .i64 0) := (blk_cell BK205.out 0).trans rfl; have hcz22_1 : w21.cell? ⟨gb205, 1, none⟩ = some (.int .i64 0) := (blk_cell BK205.out 1).trans rfl; have hcz22_2 : w21.cell? ⟨gb205, 2, none⟩ = some (.int .i64 0) := (blk_cell BK205.out 2).trans rfl; have hcz22_3 : w21.cell? ⟨gb205, 3, none⟩ = some (.int .i64 0) := (blk_cell BK205.out 3).trans rfl; have hfz22_0 := blk_frozen BK205.out 0; have hfz22_1 := blk_frozen BK205.out 1; have hfz22_2 := blk_frozen BK205.out 2; have hfz22_3 := blk_frozen BK205.out 3) | ((with_reducible refine gate_store (t := 24) (p := 7) rfl ?_); refine store_event (t := 24) (p := 7) (v := ?vo_w23) (w1 := ((((w21.setCell ⟨gb205, 0, none⟩ (.int .i64 (wrap64 (1 + (Go.bits .and .i64 (rd l0 x5_1) 3))))).setCell ⟨gb205, 1, none⟩ (.int .i64 (rd y201 (ji12)))).setCell ⟨gb205, 2, none⟩ (.int .i64 (wrap64 (1 + (Go.bits .and .i64 ((rd l0 x5_1) / 16) 3))))).setCell ⟨gb205, 3, none⟩ (.int .i64 (wrap64 (1 + (Go.bits .and .i64 ((rd l0 x5_1) / 64) 7)))))) ?hg ?ho ?hn ?hr ?_; (case ho => rfl); (case hg => rfl); (case hn => rfl); (case hr => first | (go_simp; done) | (go_simp; rfl)); intro w23 hw; have n0_ : Aside0 (Kd.R k24 24 w23 w.heap.size (fun k_ => k_ ≠ gb205) u3 x3_1) := ⟨(by rw [hw]; exact (by (with_reducible repeat (first | apply Kd.R_alloc | apply Kd.R_drewN | apply Kd.R_drew)); exact Kd.R_mono (Kd.R_far (p := ⟨gb205, 3, none⟩) (Kd.R_far (p := ⟨gb205, 2, none⟩) (Kd.R_far (p := ⟨gb205, 1, none⟩) (Kd.R_far (p := ⟨gb205, 0, none⟩) (Kd.R_mono HO_3.out (fun k_ hk => (⟨hk, hk.2⟩ : _ ∧ k_ ≠ gb205))) (fun _ hk => hk.2) (.int .i64 (wrap64 (1 + (Go.bits .and .i64 (rd l0 x5_1) 3))))) (fun _ hk => hk.2) (.int .i64 (rd y201 (ji12)))) (fun _ hk => hk.2) (.int .i64 (wrap64 (1 + (Go.bits .and .i64 ((rd l0 x5_1) / 16) 3))))) (fun _ hk => hk.2) (.int .i64 (wrap64 (1 + (Go.bits .and .i64 ((rd l0 x5_1) / 64) 7))))) (fun _ hk => hk.1.2)))⟩; have n1_ : Aside0 (Kd.R (Kd.int .i64) 45 w23 w.heap.size (fun k_ => some k_ ≠ (.slice (some ad204) y201.length co20 : Value).ownBlock) v198 x4_1) := ⟨(by rw [hw]; exact (by (with_reducible repeat (first | apply Kd.R_alloc | apply Kd.R_drewN | apply Kd.R_drew)); exact Kd.R_mono (Kd.R_far (p := ⟨gb205, 3, none⟩) (Kd.R_far (p := ⟨gb205, 2, none⟩) (Kd.R_far (p := ⟨gb205, 1, none⟩) (Kd.R_far (p := ⟨gb205, 0, none⟩) (Kd.R_types HO_4.out BK205.out (by decide)) (fun _ hk => hk.2) (.int .i64 (wrap64 (1 + (Go.bits .and .i64 (rd l0 x5_1) 3))))) (fun _ hk => hk.2) (.int .i64 (rd y201 (ji12)))) (fun _ hk => hk.2) (.int .i64 (wrap64 (1 + (Go.bits .and .i64 ((rd l0 x5_1) / 16) 3))))) (fun _ hk => hk.2) (.int .i64 (wrap64 (1 + (Go.bits .and .i64 ((rd l0 x5_1) / 64) 7))))) (fun _ hk => hk.1.2)))⟩; have n2_ : Aside0 (Kd.R (Kd.int .i64) 3 w23 w.heap.size (fun k_ => some k_ ≠ (v198 : Value).ownBlock) (.slice (some ad204) y201.length co20) y201) := ⟨(by rw [hw]; exact (by (with_reducible repeat (first | apply Kd.R_alloc | apply Kd.R_drewN | apply Kd.R_drew)); exact Kd.R_mono (Kd.R_far (p := ⟨gb205, 3, none⟩) (Kd.R_far (p := ⟨gb205, 2, none⟩) (Kd.R_far (p := ⟨gb205, 1, none⟩) (Kd.R_far (p := ⟨gb205, 0, none⟩) (Kd.R_types HO203.out BK205.out (by decide)) (fun _ hk => hk.2) (.int .i64 (wrap64 (1 + (Go.bits .and .i64 (rd l0 x5_1) 3))))) (fun _ hk => hk.2) (.int .i64 (rd y201 (ji12)))) (fun _ hk => hk.2) (.int .i64 (wrap64 (1 + (Go.bits .and .i64 ((rd l0 x5_1) / 16) 3))))) (fun _ hk => hk.2) (.int .i64 (wrap64 (1 + (Go.bits .and .i64 ((rd l0 x5_1) / 64) 7))))) (fun _ hk => hk.1.2)))⟩; have n3_ : Aside0 (w23.heap[gb205]? = some (.cells #[.int .i64 (wrap64 (1 + (Go.bits .and .i64 (rd l0 x5_1) 3))), .int .i64 (rd y201 (ji12)), .int .i64 (wrap64 (1 + (Go.bits .and .i64 ((rd l0 x5_1) / 16) 3))), .int .i64 (wrap64 (1 + (Go.bits .and .i64 ((rd l0 x5_1) / 64) 7)))] 24 (0, 0))) := ⟨(by rw [hw]; exact (by (with_reducible repeat (first | refine blk_drewN ?_ _ | refine blk_drew ?_ | refine blk_alloc ?_ _)); refine blk_put (cs := #[.int .i64 (wrap64 (1 + (Go.bits .and .i64 (rd l0 x5_1) 3))), .int .i64 (rd y201 (ji12)), .int .i64 (wrap64 (1 + (Go.bits .and .i64 ((rd l0 x5_1) / 16) 3))), .int .i64 0]) ?_ 3 _ rfl; (with_reducible repeat (first | refine blk_drewN ?_ _ | refine blk_drew ?_ | refine blk_alloc ?_ _)); refine blk_put (cs := #[.int .i64 (wrap64 (1 + (Go.bits .and .i64 (rd l0 x5_1) 3))), .int .i64 (rd y201 (ji12)), .int .i64 0, .int .i64 0]) ?_ 2 _ rfl; (with_reducible repeat (first | refine blk_drewN ?_ _ | refine blk_drew ?_ | refine blk_alloc ?_ _)); refine blk_put (cs := #[.int .i64 (wrap64 (1 + (Go.bits .and .i64 (rd l0 x5_1) 3))), .int .i64 0, .int .i64 0, .int .i64 0]) ?_ 1 _ rfl; (with_reducible repeat (first | refine blk_drewN ?_ _ | refine blk_drew ?_ | refine blk_alloc ?_ _)); refine blk_put (cs := #[.int .i64 0, .int .i64 0, .int .i64 0, .int .i64 0]) ?_ 0 _ rfl; (with_reducible repeat (first | refine blk_drewN ?_ _ | refine blk_drew ?_ | refine blk_alloc ?_ _)); exact BK205.out))⟩; have n4_ : Aside0 (Below w.heap.size w w23) := ⟨(by rw [hw]; exact (by repeat (first | (with_reducible first | exact HB.out | apply below_alloc | apply pw_below_drewN | apply below_drew1 | refine below_set ?_ GE205.out) | exact HB.out)))⟩; clear hw; clear HO_3; clear HO_4; clear HO203; clear BK205; clear HB; have HO_3 := n0_; have HO_4 := n1_; have HO203 := n2_; have BK205 := n3_; have HB := n4_; clear n0_ n1_ n2_ n3_ n4_) | ((with_reducible refine gate_dst (N := 51) rfl ?_); refine Kd.R_lit (Kd.int .i64) _ 3 ?hg (N := 51) ?hd (xs := ([0, 1, 2, 1] : List Int)) (inner := [.int .i64 0, .int .i64 1, .int .i64 2, .int .i64 1]) (ok := fun _ => True) (okp := fun _ => True) ?hr ?hp (fun _ hk => hk) trivial (Below.refl _ _) (Nat.le_refl _) (by simp) ?_; (case hd => rfl); (case hg => rfl); (case hr => first | (go_simp; done) | (go_simp; rfl)); (case hp => exact (Reps.one (show Kd.M (Kd.int .i64) _ _ _ 0 [.int .i64 0] from rfl) (Reps.one (show Kd.M (Kd.int .i64) _ _ _ 1 [.int .i64 1] from rfl) (Reps.one (show Kd.M (Kd.int .i64) _ _ _ 2 [.int .i64 2] from rfl) (Reps.one (show Kd.M (Kd.int .i64) _ _ _ 1 [.int .i64 1] from rfl) (Reps.none _ _)))))); intro v207 w24 ho25 hb hg_ hnew_; clear hg_ hnew_; (first | rw [← Ny206.out] at ho25 | (simp only [Int.reduceToNat] at ho25; rw [← Ny206.out] at ho25)); have n0_ := Aside0.mk (Kd.R_below (by (with_reducible repeat (first | apply Kd.R_alloc | apply Kd.R_drewN | apply Kd.R_drew)); exact HO_3.out) hb); have n1_ := Aside0.mk (Kd.R_elder' (by (with_reducible repeat (first | apply Kd.R_alloc | apply Kd.R_drewN | apply Kd.R_drew)); exact HO_4.out) (Kd.R_base ho25) hb); have n2_ := Aside0.mk (Kd.R_elder' (by (with_reducible repeat (first | apply Kd.R_alloc | apply Kd.R_drewN | apply Kd.R_drew)); exact HO203.out) (Kd.R_base ho25) hb); have n3_ := Aside0.mk (Kd.R_lower (Kd.R_new' (Kd.R_new' ho25 (Kd.R_lt (by (with_reducible repeat (first | apply Kd.R_alloc | apply Kd.R_drewN | apply Kd.R_drew)); exact HO_4.out))) (Kd.R_lt (by (with_reducible repeat (first | apply Kd.R_alloc | apply Kd.R_drewN | apply Kd.R_drew)); exact HO203.out))) (below_size (by repeat (first | (with_reducible first | exact HB.out | apply below_alloc | apply pw_below_drewN | apply below_drew1 | refine below_set ?_ GE205.out) | exact HB.out)))); have n4_ := Aside0.mk (blk_below (g := gb205) (o := .cells #[.int .i64 (wrap64 (1 + (Go.bits .and .i64 (rd l0 x5_1) 3))), .int .i64 (rd y201 (ji12)), .int .i64 (wrap64 (1 + (Go.bits .and .i64 ((rd l0 x5_1) / 16) 3))), .int .i64 (wrap64 (1 + (Go.bits .and .i64 ((rd l0 x5_1) / 64) 7)))] 24 (0, 0)) (by (with_reducible repeat (first | refine blk_drewN ?_ _ | refine blk_drew ?_ | refine blk_alloc ?_ _)); exact BK205.out) hb); have n5_ := Aside0.mk (below_step (by repeat (first | (with_reducible first | exact HB.out | apply below_alloc | apply pw_below_drewN | apply below_drew1 | refine below_set ?_ GE205.out) | exact HB.out)) hb); clear HO_3; clear HO_4; clear HO203; clear BK205; clear HB; have HO_3 := n0_; have HO_4 := n1_; have HO203 := n2_; have HO208 := n3_; have BK205 := n4_; have HB := n5_; clear n0_ n1_ n2_ n3_ n4_ n5_; clear hb ho25; obtain ⟨Ao26, co26, eo26⟩ := Kd.R_slice HO208.out; subst eo26; have p209 : 0 ≤ ((ji12) : Int) := of_decide_eq_true (by first | (with_reducible assumption) | assumption); have q209 : (ji12) < (y206.length : Int) := of_decide_eq_true (by first | (with_reducible assumption) | assumption); obtain ⟨ad209, e209, hx209_0⟩ := Kd.at_int (Kd.R_reads' HO208.out).2.2 (ji12) p209 q209; cases e209; (try (injection ha_ with ha_; subst ha_)); replace p209 := eq_true p209; replace q209 := eq_true q209; have hcz27_0 : w24.cell? ⟨gb205, 0, none⟩ = some (.int .i64 (wrap64 (1 + (Go.bits .and .i64 (rd l0 x5_1) 3)))) := (blk_cell BK205.out 0).trans rfl; have hcz27_1 : w24.cell? ⟨gb205, 1, none⟩ = some (.int .i64 (rd y201 (ji12))) := (blk_cell BK205.out 1).trans rfl; have hcz27_2 : w24.cell? ⟨gb205, 2, none⟩ = some (.int .i64 (wrap64 (1 + (Go.bits .and .i64 ((rd l0 x5_1) / 16) 3)))) := (blk_cell BK205.out 2).trans rfl; have hcz27_3 : w24.cell? ⟨gb205, 3, none⟩ = some (.int .i64 (wrap64 (1 + (Go.bits .and .i64 ((rd l0 x5_1) / 64) 7)))) := (blk_cell BK205.out 3).trans rfl; have hfz27_0 := blk_frozen BK205.out 0; have hfz27_1 := blk_frozen BK205.out 1; have hfz27_2 := blk_frozen BK205.out 2; have hfz27_3 := blk_frozen BK205.out 3; obtain ⟨Ao28, co28, eo28⟩ := Kd.R_slice HO_3.out; subst eo28) | ((with_reducible refine gate_callee (f := 14) rfl ?_); refine goesL_ (some 67) rfl rfl Try.func14 (by kernel_rfl) rfl #[.slice Ao28 x3_1.length co28, .agg #[.int .i64 (wrap64 (1 + (Go.bits .and .i64 (rd l0 x5_1) 3))), .int .i64 (rd y201 (ji12)), .int .i64 (wrap64 (1 + (Go.bits .and .i64 ((rd l0 x5_1) / 16) 3))), .int .i64 (wrap64 (1 + (Go.bits .and .i64 ((rd l0 x5_1) / 64) 7)))]] rfl (by (try simp only [List.map_toArray, List.map_cons, List.map_nil]); first | done | (simp only [hji12]; rfl) | rfl | (simp only [List.length_drop, List.length_take]; rfl)) ?_; (with_reducible refine (last_Newer.calls kj6 _ _ x3_1 (wrap64 (1 + (Go.bits .and .i64 (rd l0 x5_1) 3))) (rd y201 (ji12)) (wrap64 (1 + (Go.bits .and .i64 ((rd l0 x5_1) / 16) 3))) (wrap64 (1 + (Go.bits .and .i64 ((rd l0 x5_1) / 64) 7))) t210 t211 _ ?side1 ?side2 A16.out).mono ?_); (case side1 => repeat (first | exact (Kd.R_reads' HO_3.out).2.2 | (with_reducible refine Kd.C_alloc ?_ _) | (with_reducible refine Kd.C_drewN ?_ _) | (with_reducible refine Kd.C_drew ?_))); (case side2 => exact (Kd.R_reads' HO_3.out).2.1); rintro e w29 ⟨rfl, hb⟩; refine ⟨_, rfl, ?_⟩; have n0_ := Aside0.mk (Kd.R_below (by (with_reducible repeat (first | apply Kd.R_alloc | apply Kd.R_drewN | apply Kd.R_drew)); exact HO_3.out) hb); have n1_ := Aside0.mk (Kd.R_below (by (with_reducible repeat (first | apply Kd.R_alloc | apply Kd.R_drewN | apply Kd.R_drew)); exact HO_4.out) hb); have n2_ := Aside0.mk (Kd.R_below (by (with_reducible repeat (first | apply Kd.R_alloc | apply Kd.R_drewN | apply Kd.R_drew)); exact HO203.out) hb); have n3_ := Aside0.mk (Kd.R_below (by (with_reducible repeat (first | apply Kd.R_alloc | apply Kd.R_drewN | apply Kd.R_drew)); exact HO208.out) hb); have n4_ := Aside0.mk (blk_below (g := gb205) (o := .cells #[.int .i64 (wrap64 (1 + (Go.bits .and .i64 (rd l0 x5_1) 3))), .int .i64 (rd y201 (ji12)), .int .i64 (wrap64 (1 + (Go.bits .and .i64 ((rd l0 x5_1) / 16) 3))), .int .i64 (wrap64 (1 + (Go.bits .and .i64 ((rd l0 x5_1) / 64) 7)))] 24 (0, 0)) (by (with_reducible repeat (first | refine blk_drewN ?_ _ | refine blk_drew ?_ | refine blk_alloc ?_ _)); exact BK205.out) hb); have n5_ := Aside0.mk (below_step (by repeat (first | (with_reducible first | exact HB.out | apply below_alloc | apply pw_below_drewN | apply below_drew1 | refine below_set ?_ GE205.out) | exact HB.out)) hb); clear HO_3; clear HO_4; clear HO203; clear HO208; clear BK205; clear HB; have HO_3 := n0_; have HO_4 := n1_; have HO203 := n2_; have HO208 := n3_; have BK205 := n4_; have HB := n5_; clear n0_ n1_ n2_ n3_ n4_ n5_; (try clear hb); (try clear hb2); (try clear hk); (try clear hi)))
            (try simp only [Act.put, List.setIfInBounds_toArray, List.set_cons_zero, List.set_cons_succ])
            go_cut [81] (fun v81 wc => ∃ (kq : Nat) (x81_16 : Bool), v81 = .bool x81_16 ∧ Aside0 (watchwordlaw14_LastRow.j2 kq l0 x3_1 x4_1 x5_1 ji32 (wrap64 ((wrap64 (16 * (wrap64 (1 + (Go.bits .and .i64 ((rd l0 x5_1) / 16) 3))))) + (wrap64 (1 + (Go.bits .and .i64 ((rd l0 x5_1) / 64) 7))))) t210 x81_16 (wrap64 (1 + (Go.bits .and .i64 (rd l0 x5_1) 3))) (rd y201 (ji12)) (wrap64 (1 + (Go.bits .and .i64 ((rd l0 x5_1) / 16) 3))) (wrap64 (1 + (Go.bits .and .i64 ((rd l0 x5_1) / 64) 7))) = some r) ∧ Aside0 (kq ≤ kj6) ∧ Aside0 (Kd.R k24 24 wc w.heap.size (fun k_ => k_ ≠ gb205) (.slice Ao28 x3_1.length co28) x3_1) ∧ Aside0 (Kd.R (Kd.int .i64) 45 wc w.heap.size (fun _ => True) v198 x4_1) ∧ Aside0 (wc.heap[gb205]? = some (.cells #[.int .i64 (wrap64 (1 + (Go.bits .and .i64 (rd l0 x5_1) 3))), .int .i64 (rd y201 (ji12)), .int .i64 (wrap64 (1 + (Go.bits .and .i64 ((rd l0 x5_1) / 16) 3))), .int .i64 (wrap64 (1 + (Go.bits .and .i64 ((rd l0 x5_1) / 64) 7)))] 24 (0, 0))) ∧ Aside0 (Below w.heap.size w wc))
            case first =>
             have H := HC17.out
             clear HC17
             replace H := Option.bind_eq_some_iff.mp H
             obtain ⟨t212, A300, H⟩ := H
             replace H : (if t212 = 0 then (if 0 ≤ ji32 then (if ji32 < (x4_1.length : Int) then (watchwordlaw14_LastRow.j2 kj6 l0 x3_1 x4_1 x5_1 ji32 (wrap64 ((wrap64 (16 * (wrap64 (1 + (Go.bits .and .i64 ((rd l0 x5_1) / 16) 3))))) + (wrap64 (1 + (Go.bits .and .i64 ((rd l0 x5_1) / 64) 7))))) t210 (t210 != (decide ((wrap64 ((wrap64 (16 * (wrap64 (1 + (Go.bits .and .i64 ((rd l0 x5_1) / 16) 3))))) + (wrap64 (1 + (Go.bits .and .i64 ((rd l0 x5_1) / 64) 7))))) > (rd x4_1 ji32)))) (wrap64 (1 + (Go.bits .and .i64 (rd l0 x5_1) 3))) (rd y201 (ji12)) (wrap64 (1 + (Go.bits .and .i64 ((rd l0 x5_1) / 16) 3))) (wrap64 (1 + (Go.bits .and .i64 ((rd l0 x5_1) / 64) 7)))) else (none)) else (none)) else (watchwordlaw14_LastRow.j2 kj6 l0 x3_1 x4_1 x5_1 ji32 (wrap64 ((wrap64 (16 * (wrap64 (1 + (Go.bits .and .i64 ((rd l0 x5_1) / 16) 3))))) + (wrap64 (1 + (Go.bits .and .i64 ((rd l0 x5_1) / 64) 7))))) t210 true (wrap64 (1 + (Go.bits .and .i64 (rd l0 x5_1) 3))) (rd y201 (ji12)) (wrap64 (1 + (Go.bits .and .i64 ((rd l0 x5_1) / 16) 3))) (wrap64 (1 + (Go.bits .and .i64 ((rd l0 x5_1) / 64) 7))))) = some r := H
             have A30 := Aside0.mk A300
             clear A300
             by_cases c31 : t212 = 0
             ·rw [if_pos c31] at H
              have c31b0 : (t212 == 0) = true := beq_iff_eq.mpr c31
              have c31b1 : (t212 != 0) = false := bne_eq_false_iff_eq.mpr c31
              clear c31
              (first | rw [c31b0] | (simp only [i64_w, i32_w]; rw [c31b0]) | skip)
              replace H : (if 0 ≤ (ji32) then (if (ji32) < (x4_1.length : Int) then (watchwordlaw14_LastRow.j2 kj6 l0 x3_1 x4_1 x5_1 ji32 (wrap64 ((wrap64 (16 * (wrap64 (1 + (Go.bits .and .i64 ((rd l0 x5_1) / 16) 3))))) + (wrap64 (1 + (Go.bits .and .i64 ((rd l0 x5_1) / 64) 7))))) t210 (t210 != (decide ((wrap64 ((wrap64 (16 * (wrap64 (1 + (Go.bits .and .i64 ((rd l0 x5_1) / 16) 3))))) + (wrap64 (1 + (Go.bits .and .i64 ((rd l0 x5_1) / 64) 7))))) > (rd x4_1 (ji32))))) (wrap64 (1 + (Go.bits .and .i64 (rd l0 x5_1) 3))) (rd y201 (ji12)) (wrap64 (1 + (Go.bits .and .i64 ((rd l0 x5_1) / 16) 3))) (wrap64 (1 + (Go.bits .and .i64 ((rd l0 x5_1) / 64) 7)))) else (none)) else (none)) = some r := H
              (try rw [hji32] at A30)
              by_cases c33 : 0 ≤ (ji32)
              ·rw [if_pos c33] at H
               have c33b0 : decide (0 ≤ (ji32)) = true := decide_eq_true c33
               clear c33
               by_cases c34 : (ji32) < (x4_1.length : Int)
               ·rw [if_pos c34] at H
                have c34b0 : decide ((ji32) < (x4_1.length : Int)) = true := decide_eq_true c34
                clear c34
                have H' := Aside0.mk H
                clear H
                go_wp2_with (first | ((with_reducible refine gate_callee (f := 18) rfl ?_); refine goesL_ (some 71) rfl rfl Try.func18 (by kernel_rfl) rfl #[.int .i64 t211] rfl (by (try simp only [List.map_toArray, List.map_cons, List.map_nil]); first | done | rfl | (simp only [List.length_drop, List.length_take]; rfl)) ?_; (with_reducible refine (watchwordlaw0_Num.calls t211 t212 _ A30.out).mono ?_); rintro e w' ⟨rfl, ⟨nd, rfl⟩⟩; refine ⟨_, rfl, ?_⟩; obtain ⟨Ao35, co35, eo35⟩ := Kd.R_slice HO_4.out; subst eo35; have hv_ := HV198.out; injection hv_ with ha_ hnv198_ hc_; have p213 : 0 ≤ ((ji32) : Int) := of_decide_eq_true (by first | (with_reducible assumption) | assumption); have q213 : (ji32) < (x4_1.length : Int) := of_decide_eq_true (by first | (with_reducible assumption) | assumption);have r213_ : ((ji32) < (16 : Int)) = True := eq_true (by have hq_ := q213; omega); obtain ⟨ad213, e213, hx213_0⟩ := Kd.at_int (Kd.R_reads' HO_4.out).2.2 (ji32) p213 q213; cases e213; (try (injection ha_ with ha_; subst ha_)); replace p213 := eq_true p213; replace q213 := eq_true q213))
                go_meet
                case rel => exact ⟨_, ((t210 != (decide ((wrap64 ((wrap64 (16 * (wrap64 (1 + (Go.bits .and .i64 ((rd l0 x5_1) / 16) 3))))) + (wrap64 (1 + (Go.bits .and .i64 ((rd l0 x5_1) / 64) 7))))) > (rd x4_1 (ji32)))))), (by first | rfl | (simp; done) | (simp only [← hji32] <;> (first | rfl | simp)) | (simp [*]; done)), H', ⟨by have := HK1.out; have := HJ6.out; first | omega | exact Nat.le_refl _⟩, ⟨by (with_reducible repeat (first | apply Kd.R_alloc | apply Kd.R_drewN | apply Kd.R_drew)); exact HO_3.out⟩, ⟨by (with_reducible repeat (first | apply Kd.R_alloc | apply Kd.R_drewN | apply Kd.R_drew)); exact Kd.R_mono HO_4.out (fun _ hk => trivial)⟩, ⟨by (with_reducible repeat (first | refine blk_drewN ?_ _ | refine blk_drew ?_ | refine blk_alloc ?_ _)); exact BK205.out⟩, ⟨by repeat (first | (with_reducible first | exact HB.out | apply below_alloc | apply pw_below_drewN | apply below_drew1 | refine below_set ?_ GE205.out) | exact HB.out)⟩⟩
               ·rw [if_neg c34] at H
                exact absurd H (by simp)
              ·rw [if_neg c33] at H
               exact absurd H (by simp)
             ·rw [if_neg c31] at H
              have c31b0 : (t212 == 0) = false := beq_eq_false_iff_ne.mpr c31
              have c31b1 : (t212 != 0) = true := bne_iff_ne.mpr c31
              (first | rw [c31b0] | (simp only [i64_w, i32_w]; rw [c31b0]) | skip)
              exact absurd H (fun h_ => (by
               have hd_ : ∀ k_, watchwordlaw14_LastRow.j2 k_ l0 x3_1 x4_1 x5_1 ji32 (wrap64 ((wrap64 (16 * (wrap64 (1 + (Go.bits .and .i64 ((rd l0 x5_1) / 16) 3))))) + (wrap64 (1 + (Go.bits .and .i64 ((rd l0 x5_1) / 64) 7))))) t210 true (wrap64 (1 + (Go.bits .and .i64 (rd l0 x5_1) 3))) (rd y201 (ji12)) (wrap64 (1 + (Go.bits .and .i64 ((rd l0 x5_1) / 16) 3))) (wrap64 (1 + (Go.bits .and .i64 ((rd l0 x5_1) / 64) 7))) = some r → False := by
                intro k_ h_
                cases k_ with
                | zero => exact absurd h_ (by simp [watchwordlaw14_LastRow.j2])
                | succ k_ =>
                 simp only [watchwordlaw14_LastRow.j2, if_true] at h_
                 exact absurd (Option.some.inj h_) (by rw [HT.out]; decide)
               exact hd_ _ h_))
            case rest =>
             clear HC17
             try clear c1
             try clear c2
             try clear p2
             try clear q2
             try clear hx2
             try clear c3
             try clear c6
             try clear p6
             try clear c8
             try clear c8b0
             try clear c9
             try clear c10
             try clear c10b0
             try clear c11
             try clear c11b0
             try clear c13
             try clear c13b0
             try clear c14
             try clear c14b0
             try clear c15
             try clear c15b0
             try clear c18
             try clear p20
             try clear q20
             try clear hx20
             try clear p21
             try clear q21
             try clear hx21
             try clear c24
             try clear c31
             try clear c31b0
             try clear c31b1
             try clear c33
             try clear c33b0
             try clear c34
             try clear c34b0
             try clear hcz22_0
             try clear hcz22_1
             try clear hcz22_2
             try clear hcz22_3
             try clear hcz27_0
             try clear hcz27_1
             try clear hcz27_2
             try clear hcz27_3
             try clear hfz22_0
             try clear hfz22_1
             try clear hfz22_2
             try clear hfz22_3
             try clear hfz27_0
             try clear hfz27_1
             try clear hfz27_2
             try clear hfz27_3
             try clear hx200_0
             try clear hx204_0
             try clear hx209_0
             try clear hx213_0
             try clear p2
             try clear p200
             try clear p204
             try clear p209
             try clear p213
             try clear q200
             try clear q204
             try clear q209
             try clear q213
             obtain ⟨kq, x81_16, rfl, HA, HJ16, HO_3, HO_4, BK205, HB⟩ := hcut
             cases kq with
             | zero => exact absurd HA.out (by simp [watchwordlaw14_LastRow.j2])
             | succ kj16 =>
              have H := HA.out
              clear HA
              simp only [watchwordlaw14_LastRow.j2] at H
              by_cases c36 : x81_16 = true
              ·subst c36
               have H1 : (some false) = some r := by rw [if_pos rfl] at H; exact H
               clear H
               have H := H1
               clear H1
               exact absurd (Option.some.inj H) (by rw [HT.out]; decide)
              ·replace c36 := Bool.eq_false_iff.mpr c36
               subst c36
               have H1 : (if t210 = true then ((last_With.f kj16 x3_1 (wrap64 (1 + (Go.bits .and .i64 (rd l0 x5_1) 3))) (rd y201 (ji12)) (wrap64 (1 + (Go.bits .and .i64 ((rd l0 x5_1) / 16) 3))) (wrap64 (1 + (Go.bits .and .i64 ((rd l0 x5_1) / 64) 7)))).bind fun bt214 => ((watchwordlaw0_Num.f bt214.2).bind fun t218 => (if t218 = 0 then ((last_May.f kj16 bt214.1).bind fun t219 => (if t219 = true then (if 0 ≤ ji32 then (if ji32 < (x4_1.length : Int) then (watchwordlaw14_LastRow.l0 kj16 l0 bt214.1 (x4_1.set (ji32 : Int).toNat (wrap64 ((wrap64 (16 * (wrap64 (1 + (Go.bits .and .i64 ((rd l0 x5_1) / 16) 3))))) + (wrap64 (1 + (Go.bits .and .i64 ((rd l0 x5_1) / 64) 7)))))) (wrap64 (x5_1 + 1))) else (none)) else (none)) else (some false))) else (some false)))) else (watchwordlaw14_LastRow.l0 kj16 l0 x3_1 x4_1 (wrap64 (x5_1 + 1)))) = some r := by rw [if_neg (show ¬ (false = true) by decide)] at H; exact H
               clear H
               have H := H1
               clear H1
               by_cases c37 : t210 = true
               ·subst c37
                have H1 : ((last_With.f kj16 x3_1 (wrap64 (1 + (Go.bits .and .i64 (rd l0 x5_1) 3))) (rd y201 (ji12)) (wrap64 (1 + (Go.bits .and .i64 ((rd l0 x5_1) / 16) 3))) (wrap64 (1 + (Go.bits .and .i64 ((rd l0 x5_1) / 64) 7)))).bind fun bt214 => ((watchwordlaw0_Num.f bt214.2).bind fun t218 => (if t218 = 0 then ((last_May.f kj16 bt214.1).bind fun t219 => (if t219 = true then (if 0 ≤ ji32 then (if ji32 < (x4_1.length : Int) then (watchwordlaw14_LastRow.l0 kj16 l0 bt214.1 (x4_1.set (ji32 : Int).toNat (wrap64 ((wrap64 (16 * (wrap64 (1 + (Go.bits .and .i64 ((rd l0 x5_1) / 16) 3))))) + (wrap64 (1 + (Go.bits .and .i64 ((rd l0 x5_1) / 64) 7)))))) (wrap64 (x5_1 + 1))) else (none)) else (none)) else (some false))) else (some false)))) = some r := by rw [if_pos rfl] at H; exact H
                clear H
                have H := H1
                clear H1
                replace H := Option.bind_eq_some_iff.mp H
                obtain ⟨⟨t214, t217⟩, A380, H⟩ := H
                replace H : ((watchwordlaw0_Num.f t217).bind fun t218 => (if t218 = 0 then ((last_May.f kj16 t214).bind fun t219 => (if t219 = true then (if 0 ≤ ji32 then (if ji32 < (x4_1.length : Int) then (watchwordlaw14_LastRow.l0 kj16 l0 t214 (x4_1.set (ji32 : Int).toNat (wrap64 ((wrap64 (16 * (wrap64 (1 + (Go.bits .and .i64 ((rd l0 x5_1) / 16) 3))))) + (wrap64 (1 + (Go.bits .and .i64 ((rd l0 x5_1) / 64) 7)))))) (wrap64 (x5_1 + 1))) else (none)) else (none)) else (some false))) else (some false))) = some r := H
                have A38 := Aside0.mk A380
                clear A380
                replace H := Option.bind_eq_some_iff.mp H
                obtain ⟨t218, A390, H⟩ := H
                replace H : (if t218 = 0 then ((last_May.f kj16 t214).bind fun t219 => (if t219 = true then (if 0 ≤ ji32 then (if ji32 < (x4_1.length : Int) then (watchwordlaw14_LastRow.l0 kj16 l0 t214 (x4_1.set (ji32 : Int).toNat (wrap64 ((wrap64 (16 * (wrap64 (1 + (Go.bits .and .i64 ((rd l0 x5_1) / 16) 3))))) + (wrap64 (1 + (Go.bits .and .i64 ((rd l0 x5_1) / 64) 7)))))) (wrap64 (x5_1 + 1))) else (none)) else (none)) else (some false))) else (some false)) = some r := H
                have A39 := Aside0.mk A390
                clear A390
                by_cases c40 : t218 = 0
                ·rw [if_pos c40] at H
                 have c40b0 : (t218 == 0) = true := beq_iff_eq.mpr c40
                 have c40b1 : (t218 != 0) = false := bne_eq_false_iff_eq.mpr c40
                 clear c40
                 replace H := Option.bind_eq_some_iff.mp H
                 obtain ⟨t219, A410, H⟩ := H
                 replace H : (if t219 = true then (if 0 ≤ ji32 then (if ji32 < (x4_1.length : Int) then (watchwordlaw14_LastRow.l0 kj16 l0 t214 (x4_1.set (ji32 : Int).toNat (wrap64 ((wrap64 (16 * (wrap64 (1 + (Go.bits .and .i64 ((rd l0 x5_1) / 16) 3))))) + (wrap64 (1 + (Go.bits .and .i64 ((rd l0 x5_1) / 64) 7)))))) (wrap64 (x5_1 + 1))) else (none)) else (none)) else (some false)) = some r := H
                 have A41 := Aside0.mk A410
                 clear A410
                 by_cases c42 : t219 = true
                 ·subst c42
                  have H1 : (if 0 ≤ ji32 then (if ji32 < (x4_1.length : Int) then (watchwordlaw14_LastRow.l0 kj16 l0 t214 (x4_1.set (ji32 : Int).toNat (wrap64 ((wrap64 (16 * (wrap64 (1 + (Go.bits .and .i64 ((rd l0 x5_1) / 16) 3))))) + (wrap64 (1 + (Go.bits .and .i64 ((rd l0 x5_1) / 64) 7)))))) (wrap64 (x5_1 + 1))) else (none)) else (none)) = some r := by rw [if_pos rfl] at H; exact H
                  clear H
                  have H := H1
                  clear H1
                  replace H : (if 0 ≤ (ji32) then (if (ji32) < (x4_1.length : Int) then (watchwordlaw14_LastRow.l0 kj16 l0 t214 (x4_1.set ((ji32) : Int).toNat (wrap64 ((wrap64 (16 * (wrap64 (1 + (Go.bits .and .i64 ((rd l0 x5_1) / 16) 3))))) + (wrap64 (1 + (Go.bits .and .i64 ((rd l0 x5_1) / 64) 7)))))) (wrap64 (x5_1 + 1))) else (none)) else (none)) = some r := H
                  (try rw [hji32] at A38)
                  (try rw [hji32] at A39)
                  (try rw [hji32] at A41)
                  by_cases c44 : 0 ≤ (ji32)
                  ·rw [if_pos c44] at H
                   have c44b0 : decide (0 ≤ (ji32)) = true := decide_eq_true c44
                   clear c44
                   by_cases c45 : (ji32) < (x4_1.length : Int)
                   ·rw [if_pos c45] at H
                    have c45b0 : decide ((ji32) < (x4_1.length : Int)) = true := decide_eq_true c45
                    clear c45
                    obtain ⟨y220, hy220⟩ : ∃ y_ : List Int, y_ = (x4_1.set ((ji32) : Int).toNat (wrap64 ((wrap64 (16 * (wrap64 (1 + (Go.bits .and .i64 ((rd l0 x5_1) / 16) 3))))) + (wrap64 (1 + (Go.bits .and .i64 ((rd l0 x5_1) / 64) 7)))))) := ⟨_, rfl⟩
                    replace H : (watchwordlaw14_LastRow.l0 kj16 l0 t214 y220 (wrap64 (x5_1 + 1))) = some r := by first | (rw [hy220]; with_reducible exact H) | (have H2_ := (Option.bind_some _ _).symm.trans H; rw [hy220]; with_reducible exact H2_) | (have H2_ := (Option.bind_some _ _).symm.trans H; with_reducible exact H2_) | with_reducible exact H | (rw [hy220]; exact H) | exact H
                    have Ny220 := Aside0.mk hy220
                    clear hy220
                    have H' := Aside0.mk H
                    clear H
                    have hcz47_0 : wc.cell? ⟨gb205, 0, none⟩ = some (.int .i64 (wrap64 (1 + (Go.bits .and .i64 (rd l0 x5_1) 3)))) := (blk_cell BK205.out 0).trans rfl
                    have hcz47_1 : wc.cell? ⟨gb205, 1, none⟩ = some (.int .i64 (rd y201 (ji12))) := (blk_cell BK205.out 1).trans rfl
                    have hcz47_2 : wc.cell? ⟨gb205, 2, none⟩ = some (.int .i64 (wrap64 (1 + (Go.bits .and .i64 ((rd l0 x5_1) / 16) 3)))) := (blk_cell BK205.out 2).trans rfl
                    have hcz47_3 : wc.cell? ⟨gb205, 3, none⟩ = some (.int .i64 (wrap64 (1 + (Go.bits .and .i64 ((rd l0 x5_1) / 64) 7)))) := (blk_cell BK205.out 3).trans rfl
                    have hfz47_0 := blk_frozen BK205.out 0
                    have hfz47_1 := blk_frozen BK205.out 1
                    have hfz47_2 := blk_frozen BK205.out 2
                    have hfz47_3 := blk_frozen BK205.out 3
                    go_wp2_with (first | ((with_reducible refine gate_callee (f := 16) rfl ?_); refine goesL_ (some 87) rfl rfl Try.func16 (by kernel_rfl) rfl #[.slice Ao28 x3_1.length co28, .agg #[.int .i64 (wrap64 (1 + (Go.bits .and .i64 (rd l0 x5_1) 3))), .int .i64 (rd y201 (ji12)), .int .i64 (wrap64 (1 + (Go.bits .and .i64 ((rd l0 x5_1) / 16) 3))), .int .i64 (wrap64 (1 + (Go.bits .and .i64 ((rd l0 x5_1) / 64) 7)))]] rfl (by (try simp only [List.map_toArray, List.map_cons, List.map_nil]); first | done | (simp only [hji12]; rfl) | rfl | (simp only [List.length_drop, List.length_take]; rfl)) ?_; (with_reducible refine (last_With.calls kj16 _ _ x3_1 (wrap64 (1 + (Go.bits .and .i64 (rd l0 x5_1) 3))) (rd y201 (ji12)) (wrap64 (1 + (Go.bits .and .i64 ((rd l0 x5_1) / 16) 3))) (wrap64 (1 + (Go.bits .and .i64 ((rd l0 x5_1) / 64) 7))) t214 t217 _ ?side1 ?side2 A38.out).mono ?_); (case side1 => repeat (first | exact (Kd.R_reads' HO_3.out).2.2 | (with_reducible refine Kd.C_alloc ?_ _) | (with_reducible refine Kd.C_drewN ?_ _) | (with_reducible refine Kd.C_drew ?_))); (case side2 => exact (Kd.R_reads' HO_3.out).2.1); rintro e w48 ⟨v215, rfl, ho0, hb⟩; refine ⟨_, rfl, ?_⟩; have n0_ := Aside0.mk (Kd.R_elder' (by (with_reducible repeat (first | apply Kd.R_alloc | apply Kd.R_drewN | apply Kd.R_drew)); exact HO_3.out) (Kd.R_base ho0) hb); have n1_ := Aside0.mk (Kd.R_below (by (with_reducible repeat (first | apply Kd.R_alloc | apply Kd.R_drewN | apply Kd.R_drew)); exact HO_4.out) hb); have n2_ := Aside0.mk (Kd.R_lower (Kd.R_newB (Kd.R_new' ho0 (Kd.R_lt (by (with_reducible repeat (first | apply Kd.R_alloc | apply Kd.R_drewN | apply Kd.R_drew)); exact HO_3.out))) (g := gb205) (o := .cells #[.int .i64 (wrap64 (1 + (Go.bits .and .i64 (rd l0 x5_1) 3))), .int .i64 (rd y201 (ji12)), .int .i64 (wrap64 (1 + (Go.bits .and .i64 ((rd l0 x5_1) / 16) 3))), .int .i64 (wrap64 (1 + (Go.bits .and .i64 ((rd l0 x5_1) / 64) 7)))] 24 (0, 0)) (by (with_reducible repeat (first | refine blk_drewN ?_ _ | refine blk_drew ?_ | refine blk_alloc ?_ _)); exact BK205.out)) (below_size (by repeat (first | (with_reducible first | exact HB.out | apply below_alloc | apply pw_below_drewN | apply below_drew1 | refine below_set ?_ GE205.out) | exact HB.out)))); have n3_ := Aside0.mk (blk_below (g := gb205) (o := .cells #[.int .i64 (wrap64 (1 + (Go.bits .and .i64 (rd l0 x5_1) 3))), .int .i64 (rd y201 (ji12)), .int .i64 (wrap64 (1 + (Go.bits .and .i64 ((rd l0 x5_1) / 16) 3))), .int .i64 (wrap64 (1 + (Go.bits .and .i64 ((rd l0 x5_1) / 64) 7)))] 24 (0, 0)) (by (with_reducible repeat (first | refine blk_drewN ?_ _ | refine blk_drew ?_ | refine blk_alloc ?_ _)); exact BK205.out) hb); have n4_ := Aside0.mk (below_step (by repeat (first | (with_reducible first | exact HB.out | apply below_alloc | apply pw_below_drewN | apply below_drew1 | refine below_set ?_ GE205.out) | exact HB.out)) hb); clear HO_3; clear HO_4; clear BK205; clear HB; have HO_3 := n0_; have HO_4 := n1_; have HO216 := n2_; have BK205 := n3_; have HB := n4_; clear n0_ n1_ n2_ n3_ n4_; (try clear hb); (try clear hb2); (try clear hk); (try clear hi); (try clear ho0)) | ((with_reducible refine gate_callee (f := 18) rfl ?_); refine goesL_ (some 91) rfl rfl Try.func18 (by kernel_rfl) rfl #[.int .i64 t217] rfl (by (try simp only [List.map_toArray, List.map_cons, List.map_nil]); first | done | rfl | (simp only [List.length_drop, List.length_take]; rfl)) ?_; (with_reducible refine (watchwordlaw0_Num.calls t217 t218 _ A39.out).mono ?_); rintro e w' ⟨rfl, ⟨nd, rfl⟩⟩; refine ⟨_, rfl, ?_⟩; (try (rw [drewN_self w48]; generalize hq_ : World.drewN w48 _ = w48; have n0_ : Aside0 (Kd.R k24 24 w48 w.heap.size (fun k_ => some k_ ≠ (.slice Ao28 x3_1.length co28 : Value).ownBlock ∧ k_ ≠ gb205) v215 t214) := ⟨by rw [← hq_]; exact (by (with_reducible repeat (first | apply Kd.R_alloc | apply Kd.R_drewN | apply Kd.R_drew)); exact Kd.R_mono HO216.out (fun _ hk => ⟨hk.1.2, hk.2⟩))⟩; have n1_ : Aside0 (Kd.R k24 24 w48 w.heap.size (fun k_ => some k_ ≠ (v215 : Value).ownBlock ∧ k_ ≠ gb205) (.slice Ao28 x3_1.length co28) x3_1) := ⟨by rw [← hq_]; exact (by (with_reducible repeat (first | apply Kd.R_alloc | apply Kd.R_drewN | apply Kd.R_drew)); exact Kd.R_mono HO_3.out (fun _ hk => ⟨hk.2, hk.1⟩))⟩; have n2_ : Aside0 (Kd.R (Kd.int .i64) 45 w48 w.heap.size (fun _ => True) v198 x4_1) := ⟨by rw [← hq_]; exact (by (with_reducible repeat (first | apply Kd.R_alloc | apply Kd.R_drewN | apply Kd.R_drew)); exact HO_4.out)⟩; have n3_ : Aside0 (w48.heap[gb205]? = some (.cells #[.int .i64 (wrap64 (1 + (Go.bits .and .i64 (rd l0 x5_1) 3))), .int .i64 (rd y201 (ji12)), .int .i64 (wrap64 (1 + (Go.bits .and .i64 ((rd l0 x5_1) / 16) 3))), .int .i64 (wrap64 (1 + (Go.bits .and .i64 ((rd l0 x5_1) / 64) 7)))] 24 (0, 0))) := ⟨by rw [← hq_]; exact (by (with_reducible repeat (first | refine blk_drewN ?_ _ | refine blk_drew ?_ | refine blk_alloc ?_ _)); exact BK205.out)⟩; have n4_ : Aside0 (Below w.heap.size w w48) := ⟨by rw [← hq_]; exact (by repeat (first | (with_reducible first | exact HB.out | apply below_alloc | apply pw_below_drewN | apply below_drew1 | refine below_set ?_ GE205.out) | exact HB.out))⟩; clear HO216 HO_3 HO_4 BK205 HB hq_; have HO216 := n0_; have HO_3 := n1_; have HO_4 := n2_; have BK205 := n3_; have HB := n4_; clear n0_ n1_ n2_ n3_ n4_)); obtain ⟨Ao49, co49, eo49⟩ := Kd.R_slice HO216.out; subst eo49) | (go_at_call 20; (with_reducible refine (last_May.calls kj16 _ _ t214 true _ ?side1 ?side2 A41.out).mono ?_); (case side1 => repeat (first | exact (Kd.R_reads' HO216.out).2.2 | (with_reducible refine Kd.C_alloc ?_ _) | (with_reducible refine Kd.C_drewN ?_ _) | (with_reducible refine Kd.C_drew ?_))); (case side2 => exact (Kd.R_reads' HO216.out).2.1); rintro e w50 ⟨rfl, hb⟩; have n0_ := Aside0.mk (Kd.R_below (by (with_reducible repeat (first | apply Kd.R_alloc | apply Kd.R_drewN | apply Kd.R_drew)); exact HO_3.out) hb); have n1_ := Aside0.mk (Kd.R_below (by (with_reducible repeat (first | apply Kd.R_alloc | apply Kd.R_drewN | apply Kd.R_drew)); exact HO_4.out) hb); have n2_ := Aside0.mk (Kd.R_below (by (with_reducible repeat (first | apply Kd.R_alloc | apply Kd.R_drewN | apply Kd.R_drew)); exact HO216.out) hb); have n3_ := Aside0.mk (blk_below (g := gb205) (o := .cells #[.int .i64 (wrap64 (1 + (Go.bits .and .i64 (rd l0 x5_1) 3))), .int .i64 (rd y201 (ji12)), .int .i64 (wrap64 (1 + (Go.bits .and .i64 ((rd l0 x5_1) / 16) 3))), .int .i64 (wrap64 (1 + (Go.bits .and .i64 ((rd l0 x5_1) / 64) 7)))] 24 (0, 0)) (by (with_reducible repeat (first | refine blk_drewN ?_ _ | refine blk_drew ?_ | refine blk_alloc ?_ _)); exact BK205.out) hb); have n4_ := Aside0.mk (below_step (by repeat (first | (with_reducible first | exact HB.out | apply below_alloc | apply pw_below_drewN | apply below_drew1 | refine below_set ?_ GE205.out) | exact HB.out)) hb); clear HO_3; clear HO_4; clear HO216; clear BK205; clear HB; have HO_3 := n0_; have HO_4 := n1_; have HO216 := n2_; have BK205 := n3_; have HB := n4_; clear n0_ n1_ n2_ n3_ n4_; (try clear hb); (try clear hb2); (try clear hk); (try clear hi); have p46 : 0 ≤ ((ji32) : Int) := of_decide_eq_true (by first | (with_reducible assumption) | assumption); have q46 : ((ji32) : Int) < ((x4_1.length : Int) : Int) := of_decide_eq_true (by first | (with_reducible assumption) | assumption); obtain ⟨go46, co46, eo46, gb46, gl46, cl46, HG46⟩ := Kd.R_form HO_4.out (by omega); (first | cases eo46 | (injection eo46 with ea_ en_ ec_; (first | subst ea_ | (injection ea_ with ea_; subst ea_)); subst ec_; clear en_)); have GB46 := Aside0.mk gb46; have GG46 := Aside0.mk HG46; (try (have hv_ := HV198.out; injection hv_ with ha_ hnv198_ hc_)); (try (injection ha_ with ha_; subst ha_)); clear gb46 gl46 HG46; obtain ⟨hx46_0, hf46_0⟩ := Kd.R_celln 0 HO_4.out ((ji32) : Int) p46 q46; replace p46 := eq_true p46; have r46_ : (((ji32) : Int) < (16 : Int)) = True := eq_true (by have hq_ := q46; omega); replace q46 := eq_true q46; obtain ⟨hy51_, hz51_⟩ := Kd.R_celln 0 HO_4.out ((ji32) : Int) (of_decide_eq_true (by first | (with_reducible assumption) | assumption)) (of_decide_eq_true (by first | (with_reducible assumption) | assumption)); have HP51 := Kd.R_putg HO_4.out ((ji32) : Int) (wrap64 ((wrap64 (16 * (wrap64 (1 + (Go.bits .and .i64 ((rd l0 x5_1) / 16) 3))))) + (wrap64 (1 + (Go.bits .and .i64 ((rd l0 x5_1) / 64) 7)))))) | ((with_reducible refine gate_store (t := 3) (p := 101) rfl ?_); refine store_event (t := 3) (p := 101) (v := ?vo_w52) (w1 := (w50.setCell ⟨go46, ((ji32) : Int).toNat, none⟩ (.int .i64 (wrap64 ((wrap64 (16 * (wrap64 (1 + (Go.bits .and .i64 ((rd l0 x5_1) / 16) 3))))) + (wrap64 (1 + (Go.bits .and .i64 ((rd l0 x5_1) / 64) 7)))))))) ?hg ?ho ?hn ?hr ?_; (case ho => rfl); (case hg => rfl); (case hn => rfl); (case hr => first | (go_simp; done) | (go_simp; rfl)); intro w52 hw; have hg : w50.grownBy w52 (some go46) := (by rw [hw]; exact HP51.2); have hp_ : Kd.R (Kd.int .i64) 45 w52 w.heap.size (fun _ => True) (.slice (some ⟨go46, 0, none⟩) x4_1.length co46) y220 := (by rw [hw, Ny220.out]; exact HP51.1); clear HP51; have n0_ := Aside0.mk (Kd.R_over' (v := (.slice (some ⟨go46, 0, none⟩) x4_1.length co46)) (by (with_reducible repeat (first | apply Kd.R_alloc | apply Kd.R_drewN | apply Kd.R_drew)); exact HO_3.out) (Kd.R_typed HO_4.out) (by decide) hg); have n1_ := Aside0.mk (hp_); have n2_ := Aside0.mk (blk_grown (g := gb205) (o := .cells #[.int .i64 (wrap64 (1 + (Go.bits .and .i64 (rd l0 x5_1) 3))), .int .i64 (rd y201 (ji12)), .int .i64 (wrap64 (1 + (Go.bits .and .i64 ((rd l0 x5_1) / 16) 3))), .int .i64 (wrap64 (1 + (Go.bits .and .i64 ((rd l0 x5_1) / 64) 7)))] 24 (0, 0)) (by (with_reducible repeat (first | refine blk_drewN ?_ _ | refine blk_drew ?_ | refine blk_alloc ?_ _)); exact BK205.out) hg (Kd.R_ne HO_4.out BK205.out (by decide))); have n3_ := Aside0.mk (Kd.R_over' (v := (.slice (some ⟨go46, 0, none⟩) x4_1.length co46)) (by (with_reducible repeat (first | apply Kd.R_alloc | apply Kd.R_drewN | apply Kd.R_drew)); exact HO216.out) (Kd.R_typed HO_4.out) (by decide) hg); have n4_ := Aside0.mk ((by rw [hw]; exact below_set (HB.out) GB46.out : Below w.heap.size w w52)); clear HO_3; clear HO_4; clear BK205; clear HO216; clear HB; have HO_3 := n0_; have HO_4 := n1_; have BK205 := n2_; have HO216 := n3_; have HB := n4_; clear n0_ n1_ n2_ n3_ n4_; clear hg hw hp_))
                    go_roundg kj16
                    case measure => have := HK1.out; have := HJ6.out; have := HJ16.out; omega
                    case rel => exact ⟨(t214), (y220), (wrap64 (x5_1 + 1)), (by first | rfl | (simp; done) | (simp [*]; done)), H', ⟨by have := HK1.out; have := HJ6.out; have := HJ16.out; omega⟩, ⟨by (with_reducible repeat (first | apply Kd.R_alloc | apply Kd.R_drewN | apply Kd.R_drew)); exact Kd.R_mono HO216.out (fun _ hk => trivial)⟩, ⟨by (with_reducible repeat (first | apply Kd.R_alloc | apply Kd.R_drewN | apply Kd.R_drew)); exact HO_4.out⟩, ⟨by repeat (first | (with_reducible first | exact HB.out | apply below_alloc | apply pw_below_drewN | apply below_drew1 | refine below_set ?_ GE205.out) | exact HB.out)⟩⟩
                   ·rw [if_neg c45] at H
                    exact absurd H (by simp)
                  ·rw [if_neg c44] at H
                   exact absurd H (by simp)
                 ·replace c42 := Bool.eq_false_iff.mpr c42
                  subst c42
                  have H1 : (some false) = some r := by rw [if_neg (show ¬ (false = true) by decide)] at H; exact H
                  clear H
                  have H := H1
                  clear H1
                  exact absurd (Option.some.inj H) (by rw [HT.out]; decide)
                ·rw [if_neg c40] at H
                 have c40b0 : (t218 == 0) = false := beq_eq_false_iff_ne.mpr c40
                 have c40b1 : (t218 != 0) = true := bne_iff_ne.mpr c40
                 exact absurd (Option.some.inj H) (by rw [HT.out]; decide)
               ·replace c37 := Bool.eq_false_iff.mpr c37
                subst c37
                have H1 : (watchwordlaw14_LastRow.l0 kj16 l0 x3_1 x4_1 (wrap64 (x5_1 + 1))) = some r := by rw [if_neg (show ¬ (false = true) by decide)] at H; exact H
                clear H
                have H := H1
                clear H1
                have H' := Aside0.mk H
                clear H
                go_wp2
                go_roundg kj16
                case measure => have := HK1.out; have := HJ6.out; have := HJ16.out; omega
                case rel => exact ⟨(x3_1), (x4_1), (wrap64 (x5_1 + 1)), (by first | rfl | (simp; done) | (simp [*]; done)), H', ⟨by have := HK1.out; have := HJ6.out; have := HJ16.out; omega⟩, ⟨by (with_reducible repeat (first | apply Kd.R_alloc | apply Kd.R_drewN | apply Kd.R_drew)); exact Kd.R_mono HO_3.out (fun _ hk => trivial)⟩, ⟨by (with_reducible repeat (first | apply Kd.R_alloc | apply Kd.R_drewN | apply Kd.R_drew)); exact HO_4.out⟩, ⟨by repeat (first | (with_reducible first | exact HB.out | apply below_alloc | apply pw_below_drewN | apply below_drew1 | refine below_set ?_ GE205.out) | exact HB.out)⟩⟩
           ·rw [if_neg c15] at H
            exact absurd H (by simp)
          ·rw [if_neg c14] at H
           exact absurd H (by simp)
         ·rw [if_neg c13] at H
          exact absurd H (by simp)
        ·rw [if_neg c11] at H
         exact absurd H (by simp)
       ·rw [if_neg c10] at H
        exact absurd H (by simp)
      ·replace c9 := Bool.eq_false_iff.mpr c9
       subst c9
       have H1 : (some true) = some r := by rw [if_neg (show ¬ (false = true) by decide)] at H; exact H
       clear H
       have H := H1
       clear H1
       obtain rfl := Option.some.inj H
       go_wp2
       go_ret
       exact ⟨by first | rfl | (simp [errW_none, errW_some] <;> rfl) | (simp [*, errW_none, errW_some] <;> rfl), by repeat (first | (with_reducible first | exact HB.out | apply below_alloc | apply pw_below_drewN | apply below_drew1) | exact HB.out)⟩
 ·replace c3 := Bool.eq_false_iff.mpr c3
  subst c3
  have H1 : (some false) = some r := by rw [if_neg (show ¬ (false = true) by decide)] at H; exact H
  clear H
  have H := H1
  clear H1
  exact absurd (Option.some.inj H) (by rw [HT.out]; decide)

/-- THE ONE PURE STATEMENT of watchwordlaw14_LastRow: yours. -/
def watchwordlaw14_LastRow.Pure : Prop := ∀ (l0 : List Int), l0.length ≤ maxLen → l0.length * 8 ≤ 140737488351232 → (∀ x ∈ l0, (Lit.int .i64 x).wf = true) → ∃ k, watchwordlaw14_LastRow.f k l0 = some true
theorem watchwordlaw14_LastRow.walk (P : watchwordlaw14_LastRow.Pure) (a0 : Option Addr) (len0 cap0 : Nat) (z0 : List Int) (w : World) (w0 : (a0 = none ∧ len0 = 0 ∧ cap0 = 0 ∧ z0 = []) ∨ ∃ x, a0 = some x ∧ len0 ≤ cap0 ∧ cap0 ≤ maxLen ∧ z0.length = cap0 ∧ (∀ i, i < z0.length → w.cell? (x.add i) = some (.int .i64 (z0.getD i 0))) ∧ ∀ n ∈ z0, (Lit.int .i64 n).wf = true) (y0 : len0 * 8 ≤ 140737488351232) :
  Calls Try.prog 6 #[.slice a0 len0 cap0] w fun e w' => e = .returned (.bool true) ∧ Below w.heap.size w w' := by
 obtain ⟨l0, rfl, hr0, hm0, hw0, hc0⟩ := ReadsInt.ofRowC w0
 obtain ⟨k, h⟩ := P l0 hm0 y0 hw0
 refine (watchwordlaw14_LastRow.calls k _ _ l0 true w (Kd.C_of_reads (d := (0 : Int)) (h1 := fun _ => rfl) hr0) hc0 h rfl).mono ?_
 rintro e w' ⟨rfl, hd⟩
 exact ⟨rfl, hd⟩

end Go.Proofs.Ytabjambabnbmnaa.Q14
