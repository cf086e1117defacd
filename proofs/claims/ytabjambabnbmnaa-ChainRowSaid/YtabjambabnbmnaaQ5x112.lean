/- Written by a program of this session out of the print of the loaded functions: each Go function as a plain function, and that its call comes to it; for a law, the row out of its plain statement. -/
import Derived.Test.YtabjambabnbmnaaArr
import Derived.Test.YtabjambabnbmnaaQ5x0
import Derived.Test.YtabjambabnbmnaaQ5x1
import Derived.Test.YtabjambabnbmnaaQ5x118
import Derived.Test.YtabjambabnbmnaaQ5x126
import Derived.Test.YtabjambabnbmnaaQ5x133
import Derived.Test.YtabjambabnbmnaaQ5x137
namespace Go.Proofs.Ytabjambabnbmnaa.Q5
open Go.RowKit Go.Proofs.YtabjambabnbmnaaW.PrintWords Go.Proofs.YtabjambabnbmnaaW.PrintLast Go.Proofs.YtabjambabnbmnaaW.PrintMore
attribute [local go_sem] max2_int min2_int max_two min_two max_three min_three max_four min_four   -- for this text's walks alone
set_option linter.unusedVariables false
set_option linter.unusedSimpArgs false

attribute [local go_sem high] eqA50
/-! ### watchwordlaw5_ChainRow: function 12 -/
mutual
def watchwordlaw5_ChainRow.l0 : Nat → List Int → List (S50) → List Int → Int → Option (Bool)
 | 0, _, _, _, _ => none
 | k + 1, x0, x3, x4, x5 => if x5 < (x0.length : Int) then (watchwordlaw5_ChainRow.j1 k x0 x3 x4 x5 (decide (x5 < 20))) else (watchwordlaw5_ChainRow.j1 k x0 x3 x4 x5 false)
def watchwordlaw5_ChainRow.j1 : Nat → List Int → List (S50) → List Int → Int → Bool → Option (Bool)
 | 0, _, _, _, _, _ => none
 | k + 1, x0, x3, x4, x5, x20 => if x20 = true then (if 0 ≤ x5 then (if x5 < (x0.length : Int) then ((chain_With.f k x3 (wrap64 (10 + (Go.bits .and .i64 (rd x0 x5) 3))) (⟨#[115]⟩ : ByteArray) 0 (wrap64 (x5 + 1)) 0 0).bind fun bt234 => ((watchwordlaw0_Num.f bt234.2).bind fun t238 => (if t238 = 0 then (if 0 ≤ (Go.bits .and .i64 (rd x0 x5) 3) then (if (Go.bits .and .i64 (rd x0 x5) 3) < (x4.length : Int) then (watchwordlaw5_ChainRow.l0 k x0 bt234.1 (x4.set ((Go.bits .and .i64 (rd x0 x5) 3) : Int).toNat (wrap64 (x5 + 1))) (wrap64 (x5 + 1))) else (none)) else (none)) else (some false)))) else (none)) else (none)) else (watchwordlaw5_ChainRow.l1 k x3 x4 0 0)
def watchwordlaw5_ChainRow.l1 : Nat → List (S50) → List Int → Int → Int → Option (Bool)
 | 0, _, _, _, _ => none
 | k + 1, x3, x4, x9, x10 => if x10 < 4 then (if 0 ≤ x10 then (if x10 < (x4.length : Int) then (if (rd x4 x10) = 0 then (watchwordlaw5_ChainRow.l1 k x3 x4 x9 (wrap64 (x10 + 1))) else (if x9 ≥ (x3.length : Int) then (some false) else (if 0 ≤ x9 then (if x9 < (x3.length : Int) then (if ((rd_T50 x3 x9).f0) = (wrap64 (10 + x10)) then (if ((rd_T50 x3 x9).f3) = (rd x4 x10) then (watchwordlaw5_ChainRow.l1 k x3 x4 (wrap64 (x9 + 1)) (wrap64 (x10 + 1))) else (some false)) else (some false)) else (none)) else (none)))) else (none)) else (none)) else (if x9 = (x3.length : Int) then ((chain_May.f k x3).bind fun t240 => (some t240)) else (some false))
end
def watchwordlaw5_ChainRow.f (k : Nat) (l0 : List Int) : Option (Bool) := (watchwordlaw5_awake.f k).bind fun t229 => (if t229 = true then (watchwordlaw5_ChainRow.l0 k l0 ([] : List (S50)) (([0, 0, 0, 0] : List Int)) 0) else (some false))
theorem watchwordlaw5_ChainRow.mono_l : ∀ k, (∀ y0 y1 y2 y3, LeO (watchwordlaw5_ChainRow.l0 k y0 y1 y2 y3) (watchwordlaw5_ChainRow.l0 (k + 1) y0 y1 y2 y3)) ∧ (∀ y0 y1 y2 y3 y4, LeO (watchwordlaw5_ChainRow.j1 k y0 y1 y2 y3 y4) (watchwordlaw5_ChainRow.j1 (k + 1) y0 y1 y2 y3 y4)) ∧ (∀ y0 y1 y2 y3, LeO (watchwordlaw5_ChainRow.l1 k y0 y1 y2 y3) (watchwordlaw5_ChainRow.l1 (k + 1) y0 y1 y2 y3))
 | 0 => ⟨fun _ _ _ _ r h => by simp [watchwordlaw5_ChainRow.l0] at h, fun _ _ _ _ _ r h => by simp [watchwordlaw5_ChainRow.j1] at h, fun _ _ _ _ r h => by simp [watchwordlaw5_ChainRow.l1] at h⟩
 | k + 1 => by
  obtain ⟨ih0, ih1, ih2⟩ := watchwordlaw5_ChainRow.mono_l k
  refine ⟨?_, ?_, ?_⟩
  ·intro y0 y1 y2 y3
   unfold watchwordlaw5_ChainRow.l0
   repeat' first
   | (with_reducible exact ih0 _ _ _ _)
   | (with_reducible exact ih1 _ _ _ _ _)
   | (with_reducible exact ih2 _ _ _ _)
   | (with_reducible exact chain_May.mono _ _)
   | (with_reducible exact chain_With.mono _ _ _ _ _ _ _ _)
   | (with_reducible exact watchwordlaw5_awake.mono _)
   | (with_reducible exact LeO.refl _)
   | (with_reducible exact LeO.none _)
   | (with_reducible refine LeO.ite ?_ ?_)
   | (with_reducible refine LeO.bind ?_ (fun _ => ?_))
   | exact ih0 _ _ _ _
   | exact ih1 _ _ _ _ _
   | exact ih2 _ _ _ _
   | exact chain_May.mono _ _
   | exact chain_With.mono _ _ _ _ _ _ _ _
   | exact watchwordlaw5_awake.mono _
   | exact LeO.none _
   | refine LeO.ite ?_ ?_
   | refine LeO.bind ?_ (fun _ => ?_)
  ·intro y0 y1 y2 y3 y4
   unfold watchwordlaw5_ChainRow.j1
   repeat' first
   | (with_reducible exact ih0 _ _ _ _)
   | (with_reducible exact ih1 _ _ _ _ _)
   | (with_reducible exact ih2 _ _ _ _)
   | (with_reducible exact chain_May.mono _ _)
   | (with_reducible exact chain_With.mono _ _ _ _ _ _ _ _)
   | (with_reducible exact watchwordlaw5_awake.mono _)
   | (with_reducible exact LeO.refl _)
   | (with_reducible exact LeO.none _)
   | (with_reducible refine LeO.ite ?_ ?_)
   | (with_reducible refine LeO.bind ?_ (fun _ => ?_))
   | exact ih0 _ _ _ _
   | exact ih1 _ _ _ _ _
   | exact ih2 _ _ _ _
   | exact chain_May.mono _ _
   | exact chain_With.mono _ _ _ _ _ _ _ _
   | exact watchwordlaw5_awake.mono _
   | exact LeO.none _
   | refine LeO.ite ?_ ?_
   | refine LeO.bind ?_ (fun _ => ?_)
  ·intro y0 y1 y2 y3
   unfold watchwordlaw5_ChainRow.l1
   repeat' first
   | (with_reducible exact ih0 _ _ _ _)
   | (with_reducible exact ih1 _ _ _ _ _)
   | (with_reducible exact ih2 _ _ _ _)
   | (with_reducible exact chain_May.mono _ _)
   | (with_reducible exact chain_With.mono _ _ _ _ _ _ _ _)
   | (with_reducible exact watchwordlaw5_awake.mono _)
   | (with_reducible exact LeO.refl _)
   | (with_reducible exact LeO.none _)
   | (with_reducible refine LeO.ite ?_ ?_)
   | (with_reducible refine LeO.bind ?_ (fun _ => ?_))
   | exact ih0 _ _ _ _
   | exact ih1 _ _ _ _ _
   | exact ih2 _ _ _ _
   | exact chain_May.mono _ _
   | exact chain_With.mono _ _ _ _ _ _ _ _
   | exact watchwordlaw5_awake.mono _
   | exact LeO.none _
   | refine LeO.ite ?_ ?_
   | refine LeO.bind ?_ (fun _ => ?_)
theorem watchwordlaw5_ChainRow.mono : ∀ a0 k, LeO (watchwordlaw5_ChainRow.f k a0) (watchwordlaw5_ChainRow.f (k + 1) a0) := by
 intro a0 k
 obtain ⟨ih0, ih1, ih2⟩ := watchwordlaw5_ChainRow.mono_l k
 unfold watchwordlaw5_ChainRow.f
 repeat' first
   | (with_reducible exact ih0 _ _ _ _)
   | (with_reducible exact ih1 _ _ _ _ _)
   | (with_reducible exact ih2 _ _ _ _)
   | (with_reducible exact chain_May.mono _ _)
   | (with_reducible exact chain_With.mono _ _ _ _ _ _ _ _)
   | (with_reducible exact watchwordlaw5_awake.mono _)
   | (with_reducible exact LeO.refl _)
   | (with_reducible exact LeO.none _)
   | (with_reducible refine LeO.ite ?_ ?_)
   | (with_reducible refine LeO.bind ?_ (fun _ => ?_))
   | exact ih0 _ _ _ _
   | exact ih1 _ _ _ _ _
   | exact ih2 _ _ _ _
   | exact chain_May.mono _ _
   | exact chain_With.mono _ _ _ _ _ _ _ _
   | exact watchwordlaw5_awake.mono _
   | exact LeO.none _
   | refine LeO.ite ?_ ?_
   | refine LeO.bind ?_ (fun _ => ?_)
set_option maxHeartbeats 8000000 in
set_option maxRecDepth 100000 in
theorem watchwordlaw5_ChainRow.calls (k : Nat) (A0 : Option Addr) (c0 : Nat) (l0 : List Int) (r : Bool) (w : World) (hr0 : Kd.C (Kd.int .i64) w A0 l0.length l0) (hc0 : l0.length ≤ c0) (h : watchwordlaw5_ChainRow.f k l0 = some r) (hT : r = true) :
  Calls Try.prog 12 #[.slice A0 l0.length c0] w fun e w' => e = .returned (.bool r) ∧ Below w.heap.size w w' := by
 have hu50 := Try.underlying50
 have HR0 := Aside0.mk hr0
 have HC0 := Aside0.mk hc0
 clear hr0 hc0
 have HB := Aside0.mk (Below.refl w.heap.size w)
 have HT := Aside0.mk hT
 clear hT
 have H : ((watchwordlaw5_awake.f k).bind fun t229 => (if t229 = true then (watchwordlaw5_ChainRow.l0 k l0 ([] : List (S50)) (([0, 0, 0, 0] : List Int)) 0) else (some false))) = some r := h
 clear h
 replace H := Option.bind_eq_some_iff.mp H
 obtain ⟨t229, A20, H⟩ := H
 replace H : (if t229 = true then (watchwordlaw5_ChainRow.l0 k l0 ([] : List (S50)) (([0, 0, 0, 0] : List Int)) 0) else (some false)) = some r := H
 have A2 := Aside0.mk A20
 clear A20
 by_cases c3 : t229 = true
 ·subst c3
  have H1 : (watchwordlaw5_ChainRow.l0 k l0 ([] : List (S50)) (([0, 0, 0, 0] : List Int)) 0) = some r := by rw [if_pos rfl] at H; exact H
  clear H
  have H := H1
  clear H1
  obtain ⟨y230, hy230⟩ : ∃ y_ : List Int, y_ = (([0, 0, 0, 0] : List Int)) := ⟨_, rfl⟩
  replace H : (watchwordlaw5_ChainRow.l0 k l0 ([] : List (S50)) y230 0) = some r := by first | (rw [hy230]; with_reducible exact H) | (have H2_ := (Option.bind_some _ _).symm.trans H; rw [hy230]; with_reducible exact H2_) | (have H2_ := (Option.bind_some _ _).symm.trans H; with_reducible exact H2_) | with_reducible exact H | (rw [hy230]; exact H) | exact H
  have Ny230 := Aside0.mk hy230
  clear hy230
  have H' := Aside0.mk H
  clear H
  go_enter Try.func12, Try.ntmps12
  go_wp2_with (first | (go_at_call 37; (with_reducible refine (watchwordlaw5_awake.calls k  true _ A2.out (by first | rfl | exact HT.out)).mono ?_); rintro e w4 ⟨rfl, hb⟩; have n0_ := Aside0.mk (below_step (by repeat (first | (with_reducible first | exact HB.out | apply below_alloc | apply pw_below_drewN | apply below_drew1) | exact HB.out)) hb); clear HB; have HB := n0_; clear n0_; (try clear hb); (try clear hb2); (try clear hk); (try clear hi)) | ((with_reducible refine gate_dst (N := 4) rfl ?_); refine Kd.R_arr (Kd.int .i64) _ 68 ?hg (N := 4) ?hd (xs := ([0, 0, 0, 0] : List Int)) (inner := [.int .i64 0, .int .i64 0, .int .i64 0, .int .i64 0]) (ok := fun _ => True) (okp := fun _ => True) ?hr ?hp (fun _ hk => hk) trivial (Below.refl _ _) (Nat.le_refl _) (by simp) ?_; (case hd => rfl); (case hg => rfl); (case hr => first | (go_simp; done) | (go_simp; rfl)); (case hp => exact (Reps.one (show Kd.M (Kd.int .i64) _ _ _ 0 [.int .i64 0] from rfl) (Reps.one (show Kd.M (Kd.int .i64) _ _ _ 0 [.int .i64 0] from rfl) (Reps.one (show Kd.M (Kd.int .i64) _ _ _ 0 [.int .i64 0] from rfl) (Reps.one (show Kd.M (Kd.int .i64) _ _ _ 0 [.int .i64 0] from rfl) (Reps.none _ _)))))); intro ga231 w5 ho6 hb hg_ hnew_; obtain ⟨v231, hv_⟩ : ∃ v_ : Value, v_ = .slice (some ga231) 4 4 := ⟨_, rfl⟩; replace ho6 : Kd.R (Kd.int .i64) 68 w5 _ _ (.slice (some ga231) 4 4) _ := ho6; rw [← hv_] at ho6; have HV231 := Aside0.mk hv_; clear hv_; clear hg_ hnew_; (first | rw [← Ny230.out] at ho6 | (simp only [Int.reduceToNat] at ho6; rw [← Ny230.out] at ho6)); have n0_ := Aside0.mk (Kd.R_lower ho6 (below_size (by repeat (first | (with_reducible first | exact HB.out | apply below_alloc | apply pw_below_drewN | apply below_drew1) | exact HB.out)))); have n1_ := Aside0.mk (below_step (by repeat (first | (with_reducible first | exact HB.out | apply below_alloc | apply pw_below_drewN | apply below_drew1) | exact HB.out)) hb); clear HB; have HO232 := n0_; have HB := n1_; clear n0_ n1_; clear hb ho6))
  repeat (go_quiet (first | (go_at_call 37; (with_reducible refine (watchwordlaw5_awake.calls k  true _ A2.out (by first | rfl | exact HT.out)).mono ?_); rintro e w4 ⟨rfl, hb⟩; have n0_ := Aside0.mk (below_step (by repeat (first | (with_reducible first | exact HB.out | apply below_alloc | apply pw_below_drewN | apply below_drew1) | exact HB.out)) hb); clear HB; have HB := n0_; clear n0_; (try clear hb); (try clear hb2); (try clear hk); (try clear hi)) | ((with_reducible refine gate_dst (N := 4) rfl ?_); refine Kd.R_arr (Kd.int .i64) _ 68 ?hg (N := 4) ?hd (xs := ([0, 0, 0, 0] : List Int)) (inner := [.int .i64 0, .int .i64 0, .int .i64 0, .int .i64 0]) (ok := fun _ => True) (okp := fun _ => True) ?hr ?hp (fun _ hk => hk) trivial (Below.refl _ _) (Nat.le_refl _) (by simp) ?_; (case hd => rfl); (case hg => rfl); (case hr => first | (go_simp; done) | (go_simp; rfl)); (case hp => exact (Reps.one (show Kd.M (Kd.int .i64) _ _ _ 0 [.int .i64 0] from rfl) (Reps.one (show Kd.M (Kd.int .i64) _ _ _ 0 [.int .i64 0] from rfl) (Reps.one (show Kd.M (Kd.int .i64) _ _ _ 0 [.int .i64 0] from rfl) (Reps.one (show Kd.M (Kd.int .i64) _ _ _ 0 [.int .i64 0] from rfl) (Reps.none _ _)))))); intro ga231 w5 ho6 hb hg_ hnew_; obtain ⟨v231, hv_⟩ : ∃ v_ : Value, v_ = .slice (some ga231) 4 4 := ⟨_, rfl⟩; replace ho6 : Kd.R (Kd.int .i64) 68 w5 _ _ (.slice (some ga231) 4 4) _ := ho6; rw [← hv_] at ho6; have HV231 := Aside0.mk hv_; clear hv_; clear hg_ hnew_; (first | rw [← Ny230.out] at ho6 | (simp only [Int.reduceToNat] at ho6; rw [← Ny230.out] at ho6)); have n0_ := Aside0.mk (Kd.R_lower ho6 (below_size (by repeat (first | (with_reducible first | exact HB.out | apply below_alloc | apply pw_below_drewN | apply below_drew1) | exact HB.out)))); have n1_ := Aside0.mk (below_step (by repeat (first | (with_reducible first | exact HB.out | apply below_alloc | apply pw_below_drewN | apply below_drew1) | exact HB.out)) hb); clear HB; have HO232 := n0_; have HB := n1_; clear n0_ n1_; clear hb ho6)); try go_wp2_with (first | (go_at_call 37; (with_reducible refine (watchwordlaw5_awake.calls k  true _ A2.out (by first | rfl | exact HT.out)).mono ?_); rintro e w4 ⟨rfl, hb⟩; have n0_ := Aside0.mk (below_step (by repeat (first | (with_reducible first | exact HB.out | apply below_alloc | apply pw_below_drewN | apply below_drew1) | exact HB.out)) hb); clear HB; have HB := n0_; clear n0_; (try clear hb); (try clear hb2); (try clear hk); (try clear hi)) | ((with_reducible refine gate_dst (N := 4) rfl ?_); refine Kd.R_arr (Kd.int .i64) _ 68 ?hg (N := 4) ?hd (xs := ([0, 0, 0, 0] : List Int)) (inner := [.int .i64 0, .int .i64 0, .int .i64 0, .int .i64 0]) (ok := fun _ => True) (okp := fun _ => True) ?hr ?hp (fun _ hk => hk) trivial (Below.refl _ _) (Nat.le_refl _) (by simp) ?_; (case hd => rfl); (case hg => rfl); (case hr => first | (go_simp; done) | (go_simp; rfl)); (case hp => exact (Reps.one (show Kd.M (Kd.int .i64) _ _ _ 0 [.int .i64 0] from rfl) (Reps.one (show Kd.M (Kd.int .i64) _ _ _ 0 [.int .i64 0] from rfl) (Reps.one (show Kd.M (Kd.int .i64) _ _ _ 0 [.int .i64 0] from rfl) (Reps.one (show Kd.M (Kd.int .i64) _ _ _ 0 [.int .i64 0] from rfl) (Reps.none _ _)))))); intro ga231 w5 ho6 hb hg_ hnew_; obtain ⟨v231, hv_⟩ : ∃ v_ : Value, v_ = .slice (some ga231) 4 4 := ⟨_, rfl⟩; replace ho6 : Kd.R (Kd.int .i64) 68 w5 _ _ (.slice (some ga231) 4 4) _ := ho6; rw [← hv_] at ho6; have HV231 := Aside0.mk hv_; clear hv_; clear hg_ hnew_; (first | rw [← Ny230.out] at ho6 | (simp only [Int.reduceToNat] at ho6; rw [← Ny230.out] at ho6)); have n0_ := Aside0.mk (Kd.R_lower ho6 (below_size (by repeat (first | (with_reducible first | exact HB.out | apply below_alloc | apply pw_below_drewN | apply below_drew1) | exact HB.out)))); have n1_ := Aside0.mk (below_step (by repeat (first | (with_reducible first | exact HB.out | apply below_alloc | apply pw_below_drewN | apply below_drew1) | exact HB.out)) hb); clear HB; have HO232 := n0_; have HB := n1_; clear n0_ n1_; clear hb ho6)))
  go_loopg [3, 5] k (fun kq v3 v5 w' => ∃ (x3_1 : List (S50)) (x4_1 : List Int) (x5_1 : Int), v5 = .int .i64 x5_1 ∧ Aside0 (watchwordlaw5_ChainRow.l0 kq l0 x3_1 x4_1 x5_1 = some r) ∧ Aside0 (kq ≤ k) ∧ Aside0 (Kd.R k50 50 w' w.heap.size (fun _ => True) v3 x3_1) ∧ Aside0 (Kd.R (Kd.int .i64) 68 w' w.heap.size (fun _ => True) v231 x4_1) ∧ Aside0 (Below w.heap.size w w'))
  case atStart => exact ⟨(([] : List (S50))), (y230), (0), (by first | rfl | (simp; done) | (simp [*]; done)), H', ⟨Nat.le_refl _⟩, ⟨by first | exact Kd.R_nil _ _ _ _ _ | exact Kd.N_nil _ _ _ _ _ | exact Kd.V_nil _ _ _ _ _ | exact Kd.Q_nil _ _ _ _ _ | exact Kd.S_nil _ _ _ _ _⟩, ⟨by (with_reducible repeat (first | apply Kd.R_alloc | apply Kd.R_drewN | apply Kd.R_drew)); exact HO232.out⟩, ⟨by repeat (first | (with_reducible first | exact HB.out | apply below_alloc | apply pw_below_drewN | apply below_drew1) | exact HB.out)⟩⟩
  case round =>
   clear H'
   try clear c1
   try clear p2
   try clear c3
   obtain ⟨x3_1, x4_1, x5_1, rfl, HA, HK1, HO_3, HO_4, HB⟩ := hrel
   cases gk with
   | zero => exact absurd HA.out (by simp [watchwordlaw5_ChainRow.l0])
   | succ k1 =>
    have H := HA.out
    clear HA
    simp only [watchwordlaw5_ChainRow.l0] at H
    have HC7 := Aside0.mk H
    clear H
    go_upto_region 6 with (fail)
    repeat (go_quiet (fail); go_upto_region 6 with (fail))
    go_cut [20] (fun v20 wc => ∃ (kq : Nat) (x20_6 : Bool), v20 = .bool x20_6 ∧ Aside0 (watchwordlaw5_ChainRow.j1 kq l0 x3_1 x4_1 x5_1 x20_6 = some r) ∧ Aside0 (kq ≤ k1) ∧ Aside0 (Kd.R k50 50 wc w.heap.size (fun _ => True) u3 x3_1) ∧ Aside0 (Kd.R (Kd.int .i64) 68 wc w.heap.size (fun _ => True) v231 x4_1) ∧ Aside0 (Below w.heap.size w wc))
    case first =>
     have H := HC7.out
     clear HC7
     by_cases c8 : x5_1 < (l0.length : Int)
     ·rw [if_pos c8] at H
      have c8b0 : decide (x5_1 < (l0.length : Int)) = true := decide_eq_true c8
      clear c8
      (first | rw [c8b0] | (simp only [i64_w, i32_w]; rw [c8b0]) | skip)
      have H' := Aside0.mk H
      clear H
      go_wp2
      repeat (go_quiet (fail); try go_wp2)
      go_meet
      case rel => exact ⟨_, (decide (x5_1 < 20)), (by first | rfl | (simp; done) | (simp [*]; done)), H', ⟨by have := HK1.out; first | omega | exact Nat.le_refl _⟩, ⟨by (with_reducible repeat (first | apply Kd.R_alloc | apply Kd.R_drewN | apply Kd.R_drew)); exact HO_3.out⟩, ⟨by (with_reducible repeat (first | apply Kd.R_alloc | apply Kd.R_drewN | apply Kd.R_drew)); exact HO_4.out⟩, ⟨by repeat (first | (with_reducible first | exact HB.out | apply below_alloc | apply pw_below_drewN | apply below_drew1) | exact HB.out)⟩⟩
     ·rw [if_neg c8] at H
      have c8b0 : decide (x5_1 < (l0.length : Int)) = false := decide_eq_false c8
      clear c8
      (first | rw [c8b0] | (simp only [i64_w, i32_w]; rw [c8b0]) | skip)
      have H' := Aside0.mk H
      clear H
      go_wp2
      repeat (go_quiet (fail); try go_wp2)
      go_meet
      case rel => exact ⟨_, (false), (by first | rfl | (simp; done) | (simp [*]; done)), H', ⟨by have := HK1.out; first | omega | exact Nat.le_refl _⟩, ⟨by (with_reducible repeat (first | apply Kd.R_alloc | apply Kd.R_drewN | apply Kd.R_drew)); exact HO_3.out⟩, ⟨by (with_reducible repeat (first | apply Kd.R_alloc | apply Kd.R_drewN | apply Kd.R_drew)); exact HO_4.out⟩, ⟨by repeat (first | (with_reducible first | exact HB.out | apply below_alloc | apply pw_below_drewN | apply below_drew1) | exact HB.out)⟩⟩
    case rest =>
     clear HC7
     try clear c1
     try clear p2
     try clear c3
     try clear c8
     try clear c8b0
     try clear p2
     obtain ⟨kq, x20_6, rfl, HA, HJ6, HO_3, HO_4, HB⟩ := hcut
     cases kq with
     | zero => exact absurd HA.out (by simp [watchwordlaw5_ChainRow.j1])
     | succ kj6 =>
      have H := HA.out
      clear HA
      simp only [watchwordlaw5_ChainRow.j1] at H
      by_cases c9 : x20_6 = true
      ·subst c9
       have H1 : (if 0 ≤ x5_1 then (if x5_1 < (l0.length : Int) then ((chain_With.f kj6 x3_1 (wrap64 (10 + (Go.bits .and .i64 (rd l0 x5_1) 3))) (⟨#[115]⟩ : ByteArray) 0 (wrap64 (x5_1 + 1)) 0 0).bind fun bt234 => ((watchwordlaw0_Num.f bt234.2).bind fun t238 => (if t238 = 0 then (if 0 ≤ (Go.bits .and .i64 (rd l0 x5_1) 3) then (if (Go.bits .and .i64 (rd l0 x5_1) 3) < (x4_1.length : Int) then (watchwordlaw5_ChainRow.l0 kj6 l0 bt234.1 (x4_1.set ((Go.bits .and .i64 (rd l0 x5_1) 3) : Int).toNat (wrap64 (x5_1 + 1))) (wrap64 (x5_1 + 1))) else (none)) else (none)) else (some false)))) else (none)) else (none)) = some r := by rw [if_pos rfl] at H; exact H
       clear H
       have H := H1
       clear H1
       by_cases c10 : 0 ≤ x5_1
       ·rw [if_pos c10] at H
        have c10b0 : decide (0 ≤ x5_1) = true := decide_eq_true c10
        clear c10
        by_cases c11 : x5_1 < (l0.length : Int)
        ·rw [if_pos c11] at H
         have c11b0 : decide (x5_1 < (l0.length : Int)) = true := decide_eq_true c11
         clear c11
         replace H := Option.bind_eq_some_iff.mp H
         obtain ⟨⟨t234, t237⟩, A120, H⟩ := H
         replace H : ((watchwordlaw0_Num.f t237).bind fun t238 => (if t238 = 0 then (if 0 ≤ (Go.bits .and .i64 (rd l0 x5_1) 3) then (if (Go.bits .and .i64 (rd l0 x5_1) 3) < (x4_1.length : Int) then (watchwordlaw5_ChainRow.l0 kj6 l0 t234 (x4_1.set ((Go.bits .and .i64 (rd l0 x5_1) 3) : Int).toNat (wrap64 (x5_1 + 1))) (wrap64 (x5_1 + 1))) else (none)) else (none)) else (some false))) = some r := H
         have A12 := Aside0.mk A120
         clear A120
         replace H := Option.bind_eq_some_iff.mp H
         obtain ⟨t238, A130, H⟩ := H
         replace H : (if t238 = 0 then (if 0 ≤ (Go.bits .and .i64 (rd l0 x5_1) 3) then (if (Go.bits .and .i64 (rd l0 x5_1) 3) < (x4_1.length : Int) then (watchwordlaw5_ChainRow.l0 kj6 l0 t234 (x4_1.set ((Go.bits .and .i64 (rd l0 x5_1) 3) : Int).toNat (wrap64 (x5_1 + 1))) (wrap64 (x5_1 + 1))) else (none)) else (none)) else (some false)) = some r := H
         have A13 := Aside0.mk A130
         clear A130
         by_cases c14 : t238 = 0
         ·rw [if_pos c14] at H
          have c14b0 : (t238 == 0) = true := beq_iff_eq.mpr c14
          have c14b1 : (t238 != 0) = false := bne_eq_false_iff_eq.mpr c14
          clear c14
          by_cases c15 : 0 ≤ (Go.bits .and .i64 (rd l0 x5_1) 3)
          ·rw [if_pos c15] at H
           have c15b0 : decide (0 ≤ (Go.bits .and .i64 (rd l0 x5_1) 3)) = true := decide_eq_true c15
           clear c15
           by_cases c16 : (Go.bits .and .i64 (rd l0 x5_1) 3) < (x4_1.length : Int)
           ·rw [if_pos c16] at H
            have c16b0 : decide ((Go.bits .and .i64 (rd l0 x5_1) 3) < (x4_1.length : Int)) = true := decide_eq_true c16
            clear c16
            obtain ⟨y239, hy239⟩ : ∃ y_ : List Int, y_ = (x4_1.set ((Go.bits .and .i64 (rd l0 x5_1) 3) : Int).toNat (wrap64 (x5_1 + 1))) := ⟨_, rfl⟩
            replace H : (watchwordlaw5_ChainRow.l0 kj6 l0 t234 y239 (wrap64 (x5_1 + 1))) = some r := by first | (rw [hy239]; with_reducible exact H) | (have H2_ := (Option.bind_some _ _).symm.trans H; rw [hy239]; with_reducible exact H2_) | (have H2_ := (Option.bind_some _ _).symm.trans H; with_reducible exact H2_) | with_reducible exact H | (rw [hy239]; exact H) | exact H
            have Ny239 := Aside0.mk hy239
            clear hy239
            have H' := Aside0.mk H
            clear H
            have p233 : 0 ≤ (x5_1 : Int) := of_decide_eq_true (by first | (with_reducible assumption) | assumption)
            have q233 : x5_1 < (l0.length : Int) := of_decide_eq_true (by first | (with_reducible assumption) | assumption)
            obtain ⟨ad233, e233, hx233_0⟩ := Kd.at_int HR0.out x5_1 p233 q233
            cases e233; (try (injection ha_ with ha_; subst ha_))
            replace hx233_0 := (HB.out.cell (World.block_lt_of_cell? w _ hx233_0)).trans hx233_0
            replace p233 := eq_true p233
            replace q233 := eq_true q233
            obtain ⟨Ao18, co18, eo18⟩ := Kd.R_slice HO_3.out
            subst eo18
            go_wp2_with (first | (go_at_call 26; (with_reducible refine (chain_With.calls kj6 _ _ x3_1 (wrap64 (10 + (Go.bits .and .i64 (rd l0 x5_1) 3))) (⟨#[115]⟩ : ByteArray) 0 (wrap64 (x5_1 + 1)) 0 0 t234 t237 _ ?side1 ?side2 A12.out).mono ?_); (case side1 => repeat (first | exact (Kd.R_reads' HO_3.out).2.2 | (with_reducible refine Kd.C_alloc ?_ _) | (with_reducible refine Kd.C_drewN ?_ _) | (with_reducible refine Kd.C_drew ?_))); (case side2 => exact (Kd.R_reads' HO_3.out).2.1); rintro e w19 ⟨v235, rfl, ho0, hb⟩; have n0_ := Aside0.mk (Kd.R_elder' (by (with_reducible repeat (first | apply Kd.R_alloc | apply Kd.R_drewN | apply Kd.R_drew)); exact HO_3.out) (Kd.R_base ho0) hb); have n1_ := Aside0.mk (Kd.R_below (by (with_reducible repeat (first | apply Kd.R_alloc | apply Kd.R_drewN | apply Kd.R_drew)); exact HO_4.out) hb); have n2_ := Aside0.mk (Kd.R_lower (Kd.R_new' ho0 (Kd.R_lt (by (with_reducible repeat (first | apply Kd.R_alloc | apply Kd.R_drewN | apply Kd.R_drew)); exact HO_3.out))) (below_size (by repeat (first | (with_reducible first | exact HB.out | apply below_alloc | apply pw_below_drewN | apply below_drew1) | exact HB.out)))); have n3_ := Aside0.mk (below_step (by repeat (first | (with_reducible first | exact HB.out | apply below_alloc | apply pw_below_drewN | apply below_drew1) | exact HB.out)) hb); clear HO_3; clear HO_4; clear HB; have HO_3 := n0_; have HO_4 := n1_; have HO236 := n2_; have HB := n3_; clear n0_ n1_ n2_ n3_; (try clear hb); (try clear hb2); (try clear hk); (try clear hi); (try clear ho0)) | (go_at_call 18; (with_reducible refine (watchwordlaw0_Num.calls t237 t238 _ A13.out).mono ?_); rintro e w' ⟨rfl, ⟨nd, rfl⟩⟩; (try first | exact ⟨rfl, _, World.drewN_drewN _ _ _⟩ | exact ⟨rfl, _, Eq.trans (World.drewN_drewN _ _ _) (congrArg (World.drewN _) (Nat.add_assoc _ _ _))⟩); have p17 : 0 ≤ ((Go.bits .and .i64 (rd l0 x5_1) 3) : Int) := of_decide_eq_true (by first | (with_reducible assumption) | assumption); have q17 : ((Go.bits .and .i64 (rd l0 x5_1) 3) : Int) < ((x4_1.length : Int) : Int) := of_decide_eq_true (by first | (with_reducible assumption) | assumption); obtain ⟨go17, co17, eo17, gb17, gl17, cl17, HG17⟩ := Kd.R_form HO_4.out (by omega); (first | cases eo17 | (injection eo17 with ea_ en_ ec_; (first | subst ea_ | (injection ea_ with ea_; subst ea_)); subst ec_; clear en_)); have GB17 := Aside0.mk gb17; have GG17 := Aside0.mk HG17; (try (have hv_ := HV231.out; injection hv_ with ha_ hnv231_ hc_)); (try (injection ha_ with ha_; subst ha_)); clear gb17 gl17 HG17; obtain ⟨hx17_0, hf17_0⟩ := Kd.R_celln 0 HO_4.out ((Go.bits .and .i64 (rd l0 x5_1) 3) : Int) p17 q17; replace p17 := eq_true p17; have r17_ : (((Go.bits .and .i64 (rd l0 x5_1) 3) : Int) < (4 : Int)) = True := eq_true (by have hq_ := q17; omega); replace q17 := eq_true q17; obtain ⟨hy20_, hz20_⟩ := Kd.R_celln 0 HO_4.out ((Go.bits .and .i64 (rd l0 x5_1) 3) : Int) (of_decide_eq_true (by first | (with_reducible assumption) | assumption)) (of_decide_eq_true (by first | (with_reducible assumption) | assumption)); have HP20 := Kd.R_putg HO_4.out ((Go.bits .and .i64 (rd l0 x5_1) 3) : Int) (wrap64 (x5_1 + 1))) | ((with_reducible refine gate_store (t := 3) (p := 45) rfl ?_); (try (rw [drewN_self w19]; generalize hq_ : World.drewN w19 _ = w19; have n0_ := Aside0.mk (Kd.R_at hq_ HO_3.out); have n1_ := Aside0.mk (Kd.R_at hq_ HO_4.out); have n2_ := Aside0.mk (Kd.R_at hq_ HO236.out); have n3_ := Aside0.mk (below_at hq_ HB.out); clear hq_ HO_3 HO_4 HO236 HB; have HO_3 := n0_; have HO_4 := n1_; have HO236 := n2_; have HB := n3_; clear n0_ n1_ n2_ n3_; (try (obtain ⟨hy20_, hz20_⟩ := Kd.R_celln 0 HO_4.out ((Go.bits .and .i64 (rd l0 x5_1) 3) : Int) (of_decide_eq_true (by first | (with_reducible assumption) | assumption)) (of_decide_eq_true (by first | (with_reducible assumption) | assumption)))); (try (have HP20 := Kd.R_putg HO_4.out ((Go.bits .and .i64 (rd l0 x5_1) 3) : Int) (wrap64 (x5_1 + 1)))))); refine store_event (t := 3) (p := 45) (v := ?vo_w21) (w1 := (w19.setCell ⟨go17, ((Go.bits .and .i64 (rd l0 x5_1) 3) : Int).toNat, none⟩ (.int .i64 (wrap64 (x5_1 + 1))))) ?hg ?ho ?hn ?hr ?_; (case ho => rfl); (case hg => rfl); (case hn => rfl); (case hr => first | (go_simp; done) | (go_simp; rfl)); intro w21 hw; have hg : w19.grownBy w21 (some go17) := (by rw [hw]; exact HP20.2); have hp_ : Kd.R (Kd.int .i64) 68 w21 w.heap.size (fun _ => True) (.slice (some ⟨go17, 0, none⟩) x4_1.length co17) y239 := (by rw [hw, Ny239.out]; exact HP20.1); clear HP20; have n0_ := Aside0.mk (Kd.R_over' (v := (.slice (some ⟨go17, 0, none⟩) x4_1.length co17)) (by (with_reducible repeat (first | apply Kd.R_alloc | apply Kd.R_drewN | apply Kd.R_drew)); exact HO_3.out) (Kd.R_typed HO_4.out) (by decide) hg); have n1_ := Aside0.mk (hp_); have n2_ := Aside0.mk (Kd.R_over' (v := (.slice (some ⟨go17, 0, none⟩) x4_1.length co17)) (by (with_reducible repeat (first | apply Kd.R_alloc | apply Kd.R_drewN | apply Kd.R_drew)); exact HO236.out) (Kd.R_typed HO_4.out) (by decide) hg); have n3_ := Aside0.mk ((by rw [hw]; exact below_set (HB.out) GB17.out : Below w.heap.size w w21)); clear HO_3; clear HO_4; clear HO236; clear HB; have HO_3 := n0_; have HO_4 := n1_; have HO236 := n2_; have HB := n3_; clear n0_ n1_ n2_ n3_; clear hg hw hp_))
            repeat (go_quiet (first | (go_at_call 26; (with_reducible refine (chain_With.calls kj6 _ _ x3_1 (wrap64 (10 + (Go.bits .and .i64 (rd l0 x5_1) 3))) (⟨#[115]⟩ : ByteArray) 0 (wrap64 (x5_1 + 1)) 0 0 t234 t237 _ ?side1 ?side2 A12.out).mono ?_); (case side1 => repeat (first | exact (Kd.R_reads' HO_3.out).2.2 | (with_reducible refine Kd.C_alloc ?_ _) | (with_reducible refine Kd.C_drewN ?_ _) | (with_reducible refine Kd.C_drew ?_))); (case side2 => exact (Kd.R_reads' HO_3.out).2.1); rintro e w19 ⟨v235, rfl, ho0, hb⟩; have n0_ := Aside0.mk (Kd.R_elder' (by (with_reducible repeat (first | apply Kd.R_alloc | apply Kd.R_drewN | apply Kd.R_drew)); exact HO_3.out) (Kd.R_base ho0) hb); have n1_ := Aside0.mk (Kd.R_below (by (with_reducible repeat (first | apply Kd.R_alloc | apply Kd.R_drewN | apply Kd.R_drew)); exact HO_4.out) hb); have n2_ := Aside0.mk (Kd.R_lower (Kd.R_new' ho0 (Kd.R_lt (by (with_reducible repeat (first | apply Kd.R_alloc | apply Kd.R_drewN | apply Kd.R_drew)); exact HO_3.out))) (below_size (by repeat (first | (with_reducible first | exact HB.out | apply below_alloc | apply pw_below_drewN | apply below_drew1) | exact HB.out)))); have n3_ := Aside0.mk (below_step (by repeat (first | (with_reducible first | exact HB.out | apply below_alloc | apply pw_below_drewN | apply below_drew1) | exact HB.out)) hb); clear HO_3; clear HO_4; clear HB; have HO_3 := n0_; have HO_4 := n1_; have HO236 := n2_; have HB := n3_; clear n0_ n1_ n2_ n3_; (try clear hb); (try clear hb2); (try clear hk); (try clear hi); (try clear ho0)) | (go_at_call 18; (with_reducible refine (watchwordlaw0_Num.calls t237 t238 _ A13.out).mono ?_); rintro e w' ⟨rfl, ⟨nd, rfl⟩⟩; (try first | exact ⟨rfl, _, World.drewN_drewN _ _ _⟩ | exact ⟨rfl, _, Eq.trans (World.drewN_drewN _ _ _) (congrArg (World.drewN _) (Nat.add_assoc _ _ _))⟩); have p17 : 0 ≤ ((Go.bits .and .i64 (rd l0 x5_1) 3) : Int) := of_decide_eq_true (by first | (with_reducible assumption) | assumption); have q17 : ((Go.bits .and .i64 (rd l0 x5_1) 3) : Int) < ((x4_1.length : Int) : Int) := of_decide_eq_true (by first | (with_reducible assumption) | assumption); obtain ⟨go17, co17, eo17, gb17, gl17, cl17, HG17⟩ := Kd.R_form HO_4.out (by omega); (first | cases eo17 | (injection eo17 with ea_ en_ ec_; (first | subst ea_ | (injection ea_ with ea_; subst ea_)); subst ec_; clear en_)); have GB17 := Aside0.mk gb17; have GG17 := Aside0.mk HG17; (try (have hv_ := HV231.out; injection hv_ with ha_ hnv231_ hc_)); (try (injection ha_ with ha_; subst ha_)); clear gb17 gl17 HG17; obtain ⟨hx17_0, hf17_0⟩ := Kd.R_celln 0 HO_4.out ((Go.bits .and .i64 (rd l0 x5_1) 3) : Int) p17 q17; replace p17 := eq_true p17; have r17_ : (((Go.bits .and .i64 (rd l0 x5_1) 3) : Int) < (4 : Int)) = True := eq_true (by have hq_ := q17; omega); replace q17 := eq_true q17; obtain ⟨hy20_, hz20_⟩ := Kd.R_celln 0 HO_4.out ((Go.bits .and .i64 (rd l0 x5_1) 3) : Int) (of_decide_eq_true (by first | (with_reducible assumption) | assumption)) (of_decide_eq_true (by first | (with_reducible assumption) | assumption)); have HP20 := Kd.R_putg HO_4.out ((Go.bits .and .i64 (rd l0 x5_1) 3) : Int) (wrap64 (x5_1 + 1))) | ((with_reducible refine gate_store (t := 3) (p := 45) rfl ?_); (try (rw [drewN_self w19]; generalize hq_ : World.drewN w19 _ = w19; have n0_ := Aside0.mk (Kd.R_at hq_ HO_3.out); have n1_ := Aside0.mk (Kd.R_at hq_ HO_4.out); have n2_ := Aside0.mk (Kd.R_at hq_ HO236.out); have n3_ := Aside0.mk (below_at hq_ HB.out); clear hq_ HO_3 HO_4 HO236 HB; have HO_3 := n0_; have HO_4 := n1_; have HO236 := n2_; have HB := n3_; clear n0_ n1_ n2_ n3_; (try (obtain ⟨hy20_, hz20_⟩ := Kd.R_celln 0 HO_4.out ((Go.bits .and .i64 (rd l0 x5_1) 3) : Int) (of_decide_eq_true (by first | (with_reducible assumption) | assumption)) (of_decide_eq_true (by first | (with_reducible assumption) | assumption)))); (try (have HP20 := Kd.R_putg HO_4.out ((Go.bits .and .i64 (rd l0 x5_1) 3) : Int) (wrap64 (x5_1 + 1)))))); refine store_event (t := 3) (p := 45) (v := ?vo_w21) (w1 := (w19.setCell ⟨go17, ((Go.bits .and .i64 (rd l0 x5_1) 3) : Int).toNat, none⟩ (.int .i64 (wrap64 (x5_1 + 1))))) ?hg ?ho ?hn ?hr ?_; (case ho => rfl); (case hg => rfl); (case hn => rfl); (case hr => first | (go_simp; done) | (go_simp; rfl)); intro w21 hw; have hg : w19.grownBy w21 (some go17) := (by rw [hw]; exact HP20.2); have hp_ : Kd.R (Kd.int .i64) 68 w21 w.heap.size (fun _ => True) (.slice (some ⟨go17, 0, none⟩) x4_1.length co17) y239 := (by rw [hw, Ny239.out]; exact HP20.1); clear HP20; have n0_ := Aside0.mk (Kd.R_over' (v := (.slice (some ⟨go17, 0, none⟩) x4_1.length co17)) (by (with_reducible repeat (first | apply Kd.R_alloc | apply Kd.R_drewN | apply Kd.R_drew)); exact HO_3.out) (Kd.R_typed HO_4.out) (by decide) hg); have n1_ := Aside0.mk (hp_); have n2_ := Aside0.mk (Kd.R_over' (v := (.slice (some ⟨go17, 0, none⟩) x4_1.length co17)) (by (with_reducible repeat (first | apply Kd.R_alloc | apply Kd.R_drewN | apply Kd.R_drew)); exact HO236.out) (Kd.R_typed HO_4.out) (by decide) hg); have n3_ := Aside0.mk ((by rw [hw]; exact below_set (HB.out) GB17.out : Below w.heap.size w w21)); clear HO_3; clear HO_4; clear HO236; clear HB; have HO_3 := n0_; have HO_4 := n1_; have HO236 := n2_; have HB := n3_; clear n0_ n1_ n2_ n3_; clear hg hw hp_)); try go_wp2_with (first | (go_at_call 26; (with_reducible refine (chain_With.calls kj6 _ _ x3_1 (wrap64 (10 + (Go.bits .and .i64 (rd l0 x5_1) 3))) (⟨#[115]⟩ : ByteArray) 0 (wrap64 (x5_1 + 1)) 0 0 t234 t237 _ ?side1 ?side2 A12.out).mono ?_); (case side1 => repeat (first | exact (Kd.R_reads' HO_3.out).2.2 | (with_reducible refine Kd.C_alloc ?_ _) | (with_reducible refine Kd.C_drewN ?_ _) | (with_reducible refine Kd.C_drew ?_))); (case side2 => exact (Kd.R_reads' HO_3.out).2.1); rintro e w19 ⟨v235, rfl, ho0, hb⟩; have n0_ := Aside0.mk (Kd.R_elder' (by (with_reducible repeat (first | apply Kd.R_alloc | apply Kd.R_drewN | apply Kd.R_drew)); exact HO_3.out) (Kd.R_base ho0) hb); have n1_ := Aside0.mk (Kd.R_below (by (with_reducible repeat (first | apply Kd.R_alloc | apply Kd.R_drewN | apply Kd.R_drew)); exact HO_4.out) hb); have n2_ := Aside0.mk (Kd.R_lower (Kd.R_new' ho0 (Kd.R_lt (by (with_reducible repeat (first | apply Kd.R_alloc | apply Kd.R_drewN | apply Kd.R_drew)); exact HO_3.out))) (below_size (by repeat (first | (with_reducible first | exact HB.out | apply below_alloc | apply pw_below_drewN | apply below_drew1) | exact HB.out)))); have n3_ := Aside0.mk (below_step (by repeat (first | (with_reducible first | exact HB.out | apply below_alloc | apply pw_below_drewN | apply below_drew1) | exact HB.out)) hb); clear HO_3; clear HO_4; clear HB; have HO_3 := n0_; have HO_4 := n1_; have HO236 := n2_; have HB := n3_; clear n0_ n1_ n2_ n3_; (try clear hb); (try clear hb2); (try clear hk); (try clear hi); (try clear ho0)) | (go_at_call 18; (with_reducible refine (watchwordlaw0_Num.calls t237 t238 _ A13.out).mono ?_); rintro e w' ⟨rfl, ⟨nd, rfl⟩⟩; (try first | exact ⟨rfl, _, World.drewN_drewN _ _ _⟩ | exact ⟨rfl, _, Eq.trans (World.drewN_drewN _ _ _) (congrArg (World.drewN _) (Nat.add_assoc _ _ _))⟩); have p17 : 0 ≤ ((Go.bits .and .i64 (rd l0 x5_1) 3) : Int) := of_decide_eq_true (by first | (with_reducible assumption) | assumption); have q17 : ((Go.bits .and .i64 (rd l0 x5_1) 3) : Int) < ((x4_1.length : Int) : Int) := of_decide_eq_true (by first | (with_reducible assumption) | assumption); obtain ⟨go17, co17, eo17, gb17, gl17, cl17, HG17⟩ := Kd.R_form HO_4.out (by omega); (first | cases eo17 | (injection eo17 with ea_ en_ ec_; (first | subst ea_ | (injection ea_ with ea_; subst ea_)); subst ec_; clear en_)); have GB17 := Aside0.mk gb17; have GG17 := Aside0.mk HG17; (try (have hv_ := HV231.out; injection hv_ with ha_ hnv231_ hc_)); (try (injection ha_ with ha_; subst ha_)); clear gb17 gl17 HG17; obtain ⟨hx17_0, hf17_0⟩ := Kd.R_celln 0 HO_4.out ((Go.bits .and .i64 (rd l0 x5_1) 3) : Int) p17 q17; replace p17 := eq_true p17; have r17_ : (((Go.bits .and .i64 (rd l0 x5_1) 3) : Int) < (4 : Int)) = True := eq_true (by have hq_ := q17; omega); replace q17 := eq_true q17; obtain ⟨hy20_, hz20_⟩ := Kd.R_celln 0 HO_4.out ((Go.bits .and .i64 (rd l0 x5_1) 3) : Int) (of_decide_eq_true (by first | (with_reducible assumption) | assumption)) (of_decide_eq_true (by first | (with_reducible assumption) | assumption)); have HP20 := Kd.R_putg HO_4.out ((Go.bits .and .i64 (rd l0 x5_1) 3) : Int) (wrap64 (x5_1 + 1))) | ((with_reducible refine gate_store (t := 3) (p := 45) rfl ?_); (try (rw [drewN_self w19]; generalize hq_ : World.drewN w19 _ = w19; have n0_ := Aside0.mk (Kd.R_at hq_ HO_3.out); have n1_ := Aside0.mk (Kd.R_at hq_ HO_4.out); have n2_ := Aside0.mk (Kd.R_at hq_ HO236.out); have n3_ := Aside0.mk (below_at hq_ HB.out); clear hq_ HO_3 HO_4 HO236 HB; have HO_3 := n0_; have HO_4 := n1_; have HO236 := n2_; have HB := n3_; clear n0_ n1_ n2_ n3_; (try (obtain ⟨hy20_, hz20_⟩ := Kd.R_celln 0 HO_4.out ((Go.bits .and .i64 (rd l0 x5_1) 3) : Int) (of_decide_eq_true (by first | (with_reducible assumption) | assumption)) (of_decide_eq_true (by first | (with_reducible assumption) | assumption)))); (try (have HP20 := Kd.R_putg HO_4.out ((Go.bits .and .i64 (rd l0 x5_1) 3) : Int) (wrap64 (x5_1 + 1)))))); refine store_event (t := 3) (p := 45) (v := ?vo_w21) (w1 := (w19.setCell ⟨go17, ((Go.bits .and .i64 (rd l0 x5_1) 3) : Int).toNat, none⟩ (.int .i64 (wrap64 (x5_1 + 1))))) ?hg ?ho ?hn ?hr ?_; (case ho => rfl); (case hg => rfl); (case hn => rfl); (case hr => first | (go_simp; done) | (go_simp; rfl)); intro w21 hw; have hg : w19.grownBy w21 (some go17) := (by rw [hw]; exact HP20.2); have hp_ : Kd.R (Kd.int .i64) 68 w21 w.heap.size (fun _ => True) (.slice (some ⟨go17, 0, none⟩) x4_1.length co17) y239 := (by rw [hw, Ny239.out]; exact HP20.1); clear HP20; have n0_ := Aside0.mk (Kd.R_over' (v := (.slice (some ⟨go17, 0, none⟩) x4_1.length co17)) (by (with_reducible repeat (first | apply Kd.R_alloc | apply Kd.R_drewN | apply Kd.R_drew)); exact HO_3.out) (Kd.R_typed HO_4.out) (by decide) hg); have n1_ := Aside0.mk (hp_); have n2_ := Aside0.mk (Kd.R_over' (v := (.slice (some ⟨go17, 0, none⟩) x4_1.length co17)) (by (with_reducible repeat (first | apply Kd.R_alloc | apply Kd.R_drewN | apply Kd.R_drew)); exact HO236.out) (Kd.R_typed HO_4.out) (by decide) hg); have n3_ := Aside0.mk ((by rw [hw]; exact below_set (HB.out) GB17.out : Below w.heap.size w w21)); clear HO_3; clear HO_4; clear HO236; clear HB; have HO_3 := n0_; have HO_4 := n1_; have HO236 := n2_; have HB := n3_; clear n0_ n1_ n2_ n3_; clear hg hw hp_)))
            go_roundg kj6
            case measure => have := HK1.out; have := HJ6.out; omega
            case rel => exact ⟨(t234), (y239), (wrap64 (x5_1 + 1)), (by first | rfl | (simp; done) | (simp [*]; done)), H', ⟨by have := HK1.out; have := HJ6.out; omega⟩, ⟨by (with_reducible repeat (first | apply Kd.R_alloc | apply Kd.R_drewN | apply Kd.R_drew)); exact Kd.R_mono HO236.out (fun _ hk => trivial)⟩, ⟨by (with_reducible repeat (first | apply Kd.R_alloc | apply Kd.R_drewN | apply Kd.R_drew)); exact HO_4.out⟩, ⟨by repeat (first | (with_reducible first | exact HB.out | apply below_alloc | apply pw_below_drewN | apply below_drew1) | exact HB.out)⟩⟩
           ·rw [if_neg c16] at H
            exact absurd H (by simp)
          ·rw [if_neg c15] at H
           exact absurd H (by simp)
         ·rw [if_neg c14] at H
          have c14b0 : (t238 == 0) = false := beq_eq_false_iff_ne.mpr c14
          have c14b1 : (t238 != 0) = true := bne_iff_ne.mpr c14
          exact absurd (Option.some.inj H) (by rw [HT.out]; decide)
        ·rw [if_neg c11] at H
         exact absurd H (by simp)
       ·rw [if_neg c10] at H
        exact absurd H (by simp)
      ·replace c9 := Bool.eq_false_iff.mpr c9
       subst c9
       have H1 : (watchwordlaw5_ChainRow.l1 kj6 x3_1 x4_1 0 0) = some r := by rw [if_neg (show ¬ (false = true) by decide)] at H; exact H
       clear H
       have H := H1
       clear H1
       have H' := Aside0.mk H
       clear H
       go_wp2
       repeat (go_quiet (fail); try go_wp2)
       go_loopg [9, 10] kj6 (fun kq v9 v10 w' => ∃ (x9_3 : Int) (x10_3 : Int), v9 = .int .i64 x9_3 ∧ v10 = .int .i64 x10_3 ∧ Aside0 (watchwordlaw5_ChainRow.l1 kq x3_1 x4_1 x9_3 x10_3 = some r) ∧ Aside0 (kq ≤ kj6) ∧ Aside0 (Kd.R k50 50 w' w.heap.size (fun _ => True) u3 x3_1) ∧ Aside0 (Kd.R (Kd.int .i64) 68 w' w.heap.size (fun _ => True) v231 x4_1) ∧ Aside0 (Below w.heap.size w w'))
       case atStart => exact ⟨(0), (0), (by first | rfl | (simp; done) | (simp [*]; done)), (by first | rfl | (simp; done) | (simp [*]; done)), H', ⟨Nat.le_refl _⟩, ⟨by (with_reducible repeat (first | apply Kd.R_alloc | apply Kd.R_drewN | apply Kd.R_drew)); exact HO_3.out⟩, ⟨by (with_reducible repeat (first | apply Kd.R_alloc | apply Kd.R_drewN | apply Kd.R_drew)); exact HO_4.out⟩, ⟨by repeat (first | (with_reducible first | exact HB.out | apply below_alloc | apply pw_below_drewN | apply below_drew1) | exact HB.out)⟩⟩
       case round =>
        clear H'
        try clear c1
        try clear p1
        try clear q1
        try clear hx1
        try clear hf1
        try clear p2
        try clear q2
        try clear hx2
        try clear c3
        try clear p6
        try clear c8
        try clear c8b0
        try clear c9
        try clear c10
        try clear c10b0
        try clear c11
        try clear c11b0
        try clear c12
        try clear c14
        try clear c14b0
        try clear c14b1
        try clear c15
        try clear c15b0
        try clear c16
        try clear c16b0
        try clear p17
        try clear q17
        try clear hx17
        try clear hf17
        try clear hx17_0
        try clear hx233_0
        try clear p17
        try clear p2
        try clear p233
        try clear q17
        try clear q233
        obtain ⟨x9_3, x10_3, rfl, rfl, HA, HK3, HO_3, HO_4, HB⟩ := hrel
        cases gk with
        | zero => exact absurd HA.out (by simp [watchwordlaw5_ChainRow.l1])
        | succ k3 =>
         have H := HA.out
         clear HA
         simp only [watchwordlaw5_ChainRow.l1] at H
         by_cases c22 : x10_3 < 4
         ·rw [if_pos c22] at H
          have c22b0 : decide (x10_3 < 4) = true := decide_eq_true c22
          clear c22
          by_cases c23 : 0 ≤ x10_3
          ·rw [if_pos c23] at H
           have c23b0 : decide (0 ≤ x10_3) = true := decide_eq_true c23
           clear c23
           by_cases c24 : x10_3 < (x4_1.length : Int)
           ·rw [if_pos c24] at H
            have c24b0 : decide (x10_3 < (x4_1.length : Int)) = true := decide_eq_true c24
            clear c24
            by_cases c25 : (rd x4_1 x10_3) = 0
            ·rw [if_pos c25] at H
             have c25b0 : ((rd x4_1 x10_3) == 0) = true := beq_iff_eq.mpr c25
             have c25b1 : ((rd x4_1 x10_3) != 0) = false := bne_eq_false_iff_eq.mpr c25
             clear c25
             have H' := Aside0.mk H
             clear H
             obtain ⟨Ao26, co26, eo26⟩ := Kd.R_slice HO_4.out
             subst eo26; have hv_ := HV231.out; injection hv_ with ha_ hnv231_ hc_
             have p241 : 0 ≤ (x10_3 : Int) := of_decide_eq_true (by first | (with_reducible assumption) | assumption)
             have q241 : x10_3 < (x4_1.length : Int) := of_decide_eq_true (by first | (with_reducible assumption) | assumption)
             have r241_ : (x10_3 < (4 : Int)) = True := eq_true (by have hq_ := q241; omega)
             obtain ⟨ad241, e241, hx241_0⟩ := Kd.at_int (Kd.R_reads' HO_4.out).2.2 x10_3 p241 q241
             cases e241; (try (injection ha_ with ha_; subst ha_))
             replace p241 := eq_true p241
             replace q241 := eq_true q241
             go_wp2
             repeat (go_quiet (fail); try go_wp2)
             go_roundg k3
             case measure => have := HK1.out; have := HJ6.out; have := HK3.out; omega
             case rel => exact ⟨(x9_3), (wrap64 (x10_3 + 1)), (by first | rfl | (simp; done) | (simp [*]; done)), (by first | rfl | (simp; done) | (simp [*]; done)), H', ⟨by have := HK1.out; have := HJ6.out; have := HK3.out; omega⟩, ⟨by (with_reducible repeat (first | apply Kd.R_alloc | apply Kd.R_drewN | apply Kd.R_drew)); exact HO_3.out⟩, ⟨by (with_reducible repeat (first | apply Kd.R_alloc | apply Kd.R_drewN | apply Kd.R_drew)); exact HO_4.out⟩, ⟨by repeat (first | (with_reducible first | exact HB.out | apply below_alloc | apply pw_below_drewN | apply below_drew1) | exact HB.out)⟩⟩
            ·rw [if_neg c25] at H
             have c25b0 : ((rd x4_1 x10_3) == 0) = false := beq_eq_false_iff_ne.mpr c25
             have c25b1 : ((rd x4_1 x10_3) != 0) = true := bne_iff_ne.mpr c25
             by_cases c27 : x9_3 ≥ (x3_1.length : Int)
             ·rw [if_pos c27] at H
              have c27b0 : decide ((x3_1.length : Int) ≤ x9_3) = true := decide_eq_true c27
              clear c27
              exact absurd (Option.some.inj H) (by rw [HT.out]; decide)
             ·rw [if_neg c27] at H
              have c27b0 : decide ((x3_1.length : Int) ≤ x9_3) = false := decide_eq_false c27
              clear c27
              by_cases c28 : 0 ≤ x9_3
              ·rw [if_pos c28] at H
               have c28b0 : decide (0 ≤ x9_3) = true := decide_eq_true c28
               clear c28
               by_cases c29 : x9_3 < (x3_1.length : Int)
               ·rw [if_pos c29] at H
                have c29b0 : decide (x9_3 < (x3_1.length : Int)) = true := decide_eq_true c29
                clear c29
                by_cases c30 : ((rd_T50 x3_1 x9_3).f0) = (wrap64 (10 + x10_3))
                ·rw [if_pos c30] at H
                 have c30b0 : (((rd_T50 x3_1 x9_3).f0) == (wrap64 (10 + x10_3))) = true := beq_iff_eq.mpr c30
                 have c30b1 : (((rd_T50 x3_1 x9_3).f0) != (wrap64 (10 + x10_3))) = false := bne_eq_false_iff_eq.mpr c30
                 clear c30
                 by_cases c31 : ((rd_T50 x3_1 x9_3).f3) = (rd x4_1 x10_3)
                 ·rw [if_pos c31] at H
                  have c31b0 : (((rd_T50 x3_1 x9_3).f3) == (rd x4_1 x10_3)) = true := beq_iff_eq.mpr c31
                  have c31b1 : (((rd_T50 x3_1 x9_3).f3) != (rd x4_1 x10_3)) = false := bne_eq_false_iff_eq.mpr c31
                  clear c31
                  have H' := Aside0.mk H
                  clear H
                  obtain ⟨Ao32, co32, eo32⟩ := Kd.R_slice HO_4.out
                  subst eo32; have hv_ := HV231.out; injection hv_ with ha_ hnv231_ hc_
                  have p241 : 0 ≤ (x10_3 : Int) := of_decide_eq_true (by first | (with_reducible assumption) | assumption)
                  have q241 : x10_3 < (x4_1.length : Int) := of_decide_eq_true (by first | (with_reducible assumption) | assumption)
                  have r241_ : (x10_3 < (4 : Int)) = True := eq_true (by have hq_ := q241; omega)
                  obtain ⟨ad241, e241, hx241_0⟩ := Kd.at_int (Kd.R_reads' HO_4.out).2.2 x10_3 p241 q241
                  cases e241; (try (injection ha_ with ha_; subst ha_))
                  replace p241 := eq_true p241
                  replace q241 := eq_true q241
                  obtain ⟨Ao33, co33, eo33⟩ := Kd.R_slice HO_3.out
                  subst eo33
                  have p242 : 0 ≤ (x9_3 : Int) := of_decide_eq_true (by first | (with_reducible assumption) | assumption)
                  have q242 : x9_3 < (x3_1.length : Int) := of_decide_eq_true (by first | (with_reducible assumption) | assumption)
                  obtain ⟨ad242, e242, hx242_0, hx242_1, hx242_2, hx242_3, hx242_4, hx242_5⟩ := at_T50 (Kd.R_reads' HO_3.out).2.2 x9_3 p242 q242
                  cases e242; (try (injection ha_ with ha_; subst ha_))
                  replace p242 := eq_true p242
                  replace q242 := eq_true q242
                  have p243 : 0 ≤ (x9_3 : Int) := of_decide_eq_true (by first | (with_reducible assumption) | assumption)
                  have q243 : x9_3 < (x3_1.length : Int) := of_decide_eq_true (by first | (with_reducible assumption) | assumption)
                  obtain ⟨ad243, e243, hx243_0, hx243_1, hx243_2, hx243_3, hx243_4, hx243_5⟩ := at_T50 (Kd.R_reads' HO_3.out).2.2 x9_3 p243 q243
                  obtain rfl : ad242 = ad243 := (by injection e243)
                  replace p243 := eq_true p243
                  replace q243 := eq_true q243
                  have p244 : 0 ≤ (x10_3 : Int) := of_decide_eq_true (by first | (with_reducible assumption) | assumption)
                  have q244 : x10_3 < (x4_1.length : Int) := of_decide_eq_true (by first | (with_reducible assumption) | assumption)
                  have r244_ : (x10_3 < (4 : Int)) = True := eq_true (by have hq_ := q244; omega)
                  obtain ⟨ad244, e244, hx244_0⟩ := Kd.at_int (Kd.R_reads' HO_4.out).2.2 x10_3 p244 q244
                  obtain rfl : ad241 = ad244 := (by injection e244)
                  replace p244 := eq_true p244
                  replace q244 := eq_true q244
                  go_wp2
                  repeat (go_quiet (fail); try go_wp2)
                  go_roundg k3
                  case measure => have := HK1.out; have := HJ6.out; have := HK3.out; omega
                  case rel => exact ⟨(wrap64 (x9_3 + 1)), (wrap64 (x10_3 + 1)), (by first | rfl | (simp; done) | (simp [*]; done)), (by first | rfl | (simp; done) | (simp [*]; done)), H', ⟨by have := HK1.out; have := HJ6.out; have := HK3.out; omega⟩, ⟨by (with_reducible repeat (first | apply Kd.R_alloc | apply Kd.R_drewN | apply Kd.R_drew)); exact HO_3.out⟩, ⟨by (with_reducible repeat (first | apply Kd.R_alloc | apply Kd.R_drewN | apply Kd.R_drew)); exact HO_4.out⟩, ⟨by repeat (first | (with_reducible first | exact HB.out | apply below_alloc | apply pw_below_drewN | apply below_drew1) | exact HB.out)⟩⟩
                 ·rw [if_neg c31] at H
                  have c31b0 : (((rd_T50 x3_1 x9_3).f3) == (rd x4_1 x10_3)) = false := beq_eq_false_iff_ne.mpr c31
                  have c31b1 : (((rd_T50 x3_1 x9_3).f3) != (rd x4_1 x10_3)) = true := bne_iff_ne.mpr c31
                  exact absurd (Option.some.inj H) (by rw [HT.out]; decide)
                ·rw [if_neg c30] at H
                 have c30b0 : (((rd_T50 x3_1 x9_3).f0) == (wrap64 (10 + x10_3))) = false := beq_eq_false_iff_ne.mpr c30
                 have c30b1 : (((rd_T50 x3_1 x9_3).f0) != (wrap64 (10 + x10_3))) = true := bne_iff_ne.mpr c30
                 exact absurd (Option.some.inj H) (by rw [HT.out]; decide)
               ·rw [if_neg c29] at H
                exact absurd H (by simp)
              ·rw [if_neg c28] at H
               exact absurd H (by simp)
           ·rw [if_neg c24] at H
            exact absurd H (by simp)
          ·rw [if_neg c23] at H
           exact absurd H (by simp)
         ·rw [if_neg c22] at H
          have c22b0 : decide (x10_3 < 4) = false := decide_eq_false c22
          clear c22
          by_cases c34 : x9_3 = (x3_1.length : Int)
          ·rw [if_pos c34] at H
           have c34b0 : (x9_3 == (x3_1.length : Int)) = true := beq_iff_eq.mpr c34
           have c34b1 : (x9_3 != (x3_1.length : Int)) = false := bne_eq_false_iff_eq.mpr c34
           clear c34
           replace H := Option.bind_eq_some_iff.mp H
           obtain ⟨t240, A350, H⟩ := H
           replace H : (some t240) = some r := H
           have A35 := Aside0.mk A350
           clear A350
           obtain rfl := Option.some.inj H
           obtain ⟨Ao36, co36, eo36⟩ := Kd.R_slice HO_3.out
           subst eo36
           go_wp2_with (first | (go_at_call 33; (with_reducible refine (chain_May.calls k3 _ _ x3_1 t240 _ ?side1 ?side2 A35.out).mono ?_); (case side1 => repeat (first | exact (Kd.R_reads' HO_3.out).2.2 | (with_reducible refine Kd.C_alloc ?_ _) | (with_reducible refine Kd.C_drewN ?_ _) | (with_reducible refine Kd.C_drew ?_))); (case side2 => exact (Kd.R_reads' HO_3.out).2.1); rintro e w37 ⟨rfl, hb⟩; have n0_ := Aside0.mk (Kd.R_below (by (with_reducible repeat (first | apply Kd.R_alloc | apply Kd.R_drewN | apply Kd.R_drew)); exact HO_3.out) hb); have n1_ := Aside0.mk (Kd.R_below (by (with_reducible repeat (first | apply Kd.R_alloc | apply Kd.R_drewN | apply Kd.R_drew)); exact HO_4.out) hb); have n2_ := Aside0.mk (below_step (by repeat (first | (with_reducible first | exact HB.out | apply below_alloc | apply pw_below_drewN | apply below_drew1) | exact HB.out)) hb); clear HO_3; clear HO_4; clear HB; have HO_3 := n0_; have HO_4 := n1_; have HB := n2_; clear n0_ n1_ n2_; (try clear hb); (try clear hb2); (try clear hk); (try clear hi)))
           repeat (go_quiet (first | (go_at_call 33; (with_reducible refine (chain_May.calls k3 _ _ x3_1 t240 _ ?side1 ?side2 A35.out).mono ?_); (case side1 => repeat (first | exact (Kd.R_reads' HO_3.out).2.2 | (with_reducible refine Kd.C_alloc ?_ _) | (with_reducible refine Kd.C_drewN ?_ _) | (with_reducible refine Kd.C_drew ?_))); (case side2 => exact (Kd.R_reads' HO_3.out).2.1); rintro e w37 ⟨rfl, hb⟩; have n0_ := Aside0.mk (Kd.R_below (by (with_reducible repeat (first | apply Kd.R_alloc | apply Kd.R_drewN | apply Kd.R_drew)); exact HO_3.out) hb); have n1_ := Aside0.mk (Kd.R_below (by (with_reducible repeat (first | apply Kd.R_alloc | apply Kd.R_drewN | apply Kd.R_drew)); exact HO_4.out) hb); have n2_ := Aside0.mk (below_step (by repeat (first | (with_reducible first | exact HB.out | apply below_alloc | apply pw_below_drewN | apply below_drew1) | exact HB.out)) hb); clear HO_3; clear HO_4; clear HB; have HO_3 := n0_; have HO_4 := n1_; have HB := n2_; clear n0_ n1_ n2_; (try clear hb); (try clear hb2); (try clear hk); (try clear hi))); try go_wp2_with (first | (go_at_call 33; (with_reducible refine (chain_May.calls k3 _ _ x3_1 t240 _ ?side1 ?side2 A35.out).mono ?_); (case side1 => repeat (first | exact (Kd.R_reads' HO_3.out).2.2 | (with_reducible refine Kd.C_alloc ?_ _) | (with_reducible refine Kd.C_drewN ?_ _) | (with_reducible refine Kd.C_drew ?_))); (case side2 => exact (Kd.R_reads' HO_3.out).2.1); rintro e w37 ⟨rfl, hb⟩; have n0_ := Aside0.mk (Kd.R_below (by (with_reducible repeat (first | apply Kd.R_alloc | apply Kd.R_drewN | apply Kd.R_drew)); exact HO_3.out) hb); have n1_ := Aside0.mk (Kd.R_below (by (with_reducible repeat (first | apply Kd.R_alloc | apply Kd.R_drewN | apply Kd.R_drew)); exact HO_4.out) hb); have n2_ := Aside0.mk (below_step (by repeat (first | (with_reducible first | exact HB.out | apply below_alloc | apply pw_below_drewN | apply below_drew1) | exact HB.out)) hb); clear HO_3; clear HO_4; clear HB; have HO_3 := n0_; have HO_4 := n1_; have HB := n2_; clear n0_ n1_ n2_; (try clear hb); (try clear hb2); (try clear hk); (try clear hi))))
           go_ret
           exact ⟨by first | rfl | (simp [errW_none, errW_some] <;> rfl) | (simp [*, errW_none, errW_some] <;> rfl), by repeat (first | (with_reducible first | exact HB.out | apply below_alloc | apply pw_below_drewN | apply below_drew1) | exact HB.out)⟩
          ·rw [if_neg c34] at H
           have c34b0 : (x9_3 == (x3_1.length : Int)) = false := beq_eq_false_iff_ne.mpr c34
           have c34b1 : (x9_3 != (x3_1.length : Int)) = true := bne_iff_ne.mpr c34
           exact absurd (Option.some.inj H) (by rw [HT.out]; decide)
 ·replace c3 := Bool.eq_false_iff.mpr c3
  subst c3
  have H1 : (some false) = some r := by rw [if_neg (show ¬ (false = true) by decide)] at H; exact H
  clear H
  have H := H1
  clear H1
  exact absurd (Option.some.inj H) (by rw [HT.out]; decide)

/-- THE ONE PURE STATEMENT of watchwordlaw5_ChainRow: yours. -/
def watchwordlaw5_ChainRow.Pure : Prop := ∀ (l0 : List Int), l0.length ≤ maxLen → l0.length * 8 ≤ 140737488351232 → (∀ x ∈ l0, (Lit.int .i64 x).wf = true) → ∃ k, watchwordlaw5_ChainRow.f k l0 = some true
theorem watchwordlaw5_ChainRow.walk (P : watchwordlaw5_ChainRow.Pure) (a0 : Option Addr) (len0 cap0 : Nat) (z0 : List Int) (w : World) (w0 : (a0 = none ∧ len0 = 0 ∧ cap0 = 0 ∧ z0 = []) ∨ ∃ x, a0 = some x ∧ len0 ≤ cap0 ∧ cap0 ≤ maxLen ∧ z0.length = cap0 ∧ (∀ i, i < z0.length → w.cell? (x.add i) = some (.int .i64 (z0.getD i 0))) ∧ ∀ n ∈ z0, (Lit.int .i64 n).wf = true) (y0 : len0 * 8 ≤ 140737488351232) :
  Calls Try.prog 12 #[.slice a0 len0 cap0] w fun e w' => e = .returned (.bool true) ∧ Below w.heap.size w w' := by
 obtain ⟨l0, rfl, hr0, hm0, hw0, hc0⟩ := ReadsInt.ofRowC w0
 obtain ⟨k, h⟩ := P l0 hm0 y0 hw0
 refine (watchwordlaw5_ChainRow.calls k _ _ l0 true w (Kd.C_of_reads (d := (0 : Int)) (h1 := fun _ => rfl) hr0) hc0 h rfl).mono ?_
 rintro e w' ⟨rfl, hd⟩
 exact ⟨rfl, hd⟩

end Go.Proofs.Ytabjambabnbmnaa.Q5
