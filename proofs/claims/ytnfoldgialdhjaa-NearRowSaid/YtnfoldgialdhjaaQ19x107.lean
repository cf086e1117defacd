/- Written by a program of this session out of the print of the loaded functions: each Go function as a plain function, and that its call comes to it; for a law, the row out of its plain statement. -/
import Derived.Test.YtnfoldgialdhjaaArr
import Derived.Test.YtnfoldgialdhjaaQ19x0
import Derived.Test.YtnfoldgialdhjaaQ19x109
import Derived.Test.YtnfoldgialdhjaaQ19x115
import Derived.Test.YtnfoldgialdhjaaQ19x118
import Derived.Test.YtnfoldgialdhjaaQ19x123
namespace Go.Proofs.Ytnfoldgialdhjaa.Q19
open Go.RowKit Go.Proofs.YtnfoldgialdhjaaW.PrintWords Go.Proofs.YtnfoldgialdhjaaW.PrintLast Go.Proofs.YtnfoldgialdhjaaW.PrintMore
attribute [local go_sem] max2_int min2_int max_two min_two max_three min_three max_four min_four   -- for this text's walks alone
set_option linter.unusedVariables false
set_option linter.unusedSimpArgs false

/-! ### watchwordlaw19_NearRow: function 7 -/
mutual
def watchwordlaw19_NearRow.l0 : Nat → List Int → List (S46) → List Int → Int → Option (Bool)
 | 0, _, _, _, _ => none
 | k + 1, x0, x3, x4, x5 => if x5 < (x0.length : Int) then (watchwordlaw19_NearRow.j1 k x0 x3 x4 x5 (decide (x5 < 30))) else (watchwordlaw19_NearRow.j1 k x0 x3 x4 x5 false)
def watchwordlaw19_NearRow.j1 : Nat → List Int → List (S46) → List Int → Int → Bool → Option (Bool)
 | 0, _, _, _, _, _ => none
 | k + 1, x0, x3, x4, x5, x23 => if x23 = true then (if 0 ≤ x5 then (if x5 < (x0.length : Int) then ((near_Heard.f k x3 (wrap64 (1 + (Go.bits .and .i64 (rd x0 x5) 3))) ((Go.bits .and .i64 (rd x0 x5) 4) == 4)).bind fun bt242 => (if (Go.bits .and .i64 (rd x0 x5) 4) = 4 then ((watchwordlaw0_Num.f bt242.2.2).bind fun t247 => (if t247 = 0 then (if 0 ≤ (wrap64 (1 + (Go.bits .and .i64 (rd x0 x5) 3))) then (if (wrap64 (1 + (Go.bits .and .i64 (rd x0 x5) 3))) < (x4.length : Int) then (if (bt242.2.1 != ((rd x4 (wrap64 (1 + (Go.bits .and .i64 (rd x0 x5) 3)))) != 2)) = true then (some false) else (watchwordlaw19_NearRow.l0 k x0 bt242.1 (x4.set ((wrap64 (1 + (Go.bits .and .i64 (rd x0 x5) 3))) : Int).toNat 2) (wrap64 (x5 + 1)))) else (none)) else (none)) else (some false))) else ((watchwordlaw0_Num.f bt242.2.2).bind fun t250 => (if t250 = 0 then (if 0 ≤ (wrap64 (1 + (Go.bits .and .i64 (rd x0 x5) 3))) then (if (wrap64 (1 + (Go.bits .and .i64 (rd x0 x5) 3))) < (x4.length : Int) then (if (bt242.2.1 != ((rd x4 (wrap64 (1 + (Go.bits .and .i64 (rd x0 x5) 3)))) != 1)) = true then (some false) else (watchwordlaw19_NearRow.l0 k x0 bt242.1 (x4.set ((wrap64 (1 + (Go.bits .and .i64 (rd x0 x5) 3))) : Int).toNat 1) (wrap64 (x5 + 1)))) else (none)) else (none)) else (some false))))) else (none)) else (none)) else (watchwordlaw19_NearRow.l1 k x3 x4 0 1)
def watchwordlaw19_NearRow.l1 : Nat → List (S46) → List Int → Int → Int → Option (Bool)
 | 0, _, _, _, _ => none
 | k + 1, x3, x4, x12, x13 => if x13 ≤ 4 then (if 0 ≤ x13 then (if x13 < (x4.length : Int) then (if (rd x4 x13) = 0 then (watchwordlaw19_NearRow.l1 k x3 x4 x12 (wrap64 (x13 + 1))) else (if x12 ≥ (x3.length : Int) then (some false) else (if 0 ≤ x12 then (if x12 < (x3.length : Int) then (if ((rd_T46 x3 x12).f0) = x13 then (if ((rd_T46 x3 x12).f1) = (rd x4 x13) then (watchwordlaw19_NearRow.l1 k x3 x4 (wrap64 (x12 + 1)) (wrap64 (x13 + 1))) else (some false)) else (some false)) else (none)) else (none)))) else (none)) else (none)) else (if x12 = (x3.length : Int) then ((near_May.f k x3).bind fun t253 => (some t253)) else (some false))
end
def watchwordlaw19_NearRow.f (k : Nat) (l0 : List Int) : Option (Bool) := (watchwordlaw19_awake.f k).bind fun t236 => (if t236 = true then (watchwordlaw19_NearRow.l0 k l0 ([] : List (S46)) (([0, 0, 0, 0, 0] : List Int)) 0) else (some false))
theorem watchwordlaw19_NearRow.mono_l : ∀ k, (∀ y0 y1 y2 y3, LeO (watchwordlaw19_NearRow.l0 k y0 y1 y2 y3) (watchwordlaw19_NearRow.l0 (k + 1) y0 y1 y2 y3)) ∧ (∀ y0 y1 y2 y3 y4, LeO (watchwordlaw19_NearRow.j1 k y0 y1 y2 y3 y4) (watchwordlaw19_NearRow.j1 (k + 1) y0 y1 y2 y3 y4)) ∧ (∀ y0 y1 y2 y3, LeO (watchwordlaw19_NearRow.l1 k y0 y1 y2 y3) (watchwordlaw19_NearRow.l1 (k + 1) y0 y1 y2 y3))
 | 0 => ⟨fun _ _ _ _ r h => by simp [watchwordlaw19_NearRow.l0] at h, fun _ _ _ _ _ r h => by simp [watchwordlaw19_NearRow.j1] at h, fun _ _ _ _ r h => by simp [watchwordlaw19_NearRow.l1] at h⟩
 | k + 1 => by
  obtain ⟨ih0, ih1, ih2⟩ := watchwordlaw19_NearRow.mono_l k
  refine ⟨?_, ?_, ?_⟩
  ·intro y0 y1 y2 y3
   unfold watchwordlaw19_NearRow.l0
   repeat' first
   | (with_reducible exact ih0 _ _ _ _)
   | (with_reducible exact ih1 _ _ _ _ _)
   | (with_reducible exact ih2 _ _ _ _)
   | (with_reducible exact near_Heard.mono _ _ _ _)
   | (with_reducible exact near_May.mono _ _)
   | (with_reducible exact watchwordlaw19_awake.mono _)
   | (with_reducible exact LeO.refl _)
   | (with_reducible exact LeO.none _)
   | (with_reducible refine LeO.ite ?_ ?_)
   | (with_reducible refine LeO.bind ?_ (fun _ => ?_))
   | exact ih0 _ _ _ _
   | exact ih1 _ _ _ _ _
   | exact ih2 _ _ _ _
   | exact near_Heard.mono _ _ _ _
   | exact near_May.mono _ _
   | exact watchwordlaw19_awake.mono _
   | exact LeO.none _
   | refine LeO.ite ?_ ?_
   | refine LeO.bind ?_ (fun _ => ?_)
  ·intro y0 y1 y2 y3 y4
   unfold watchwordlaw19_NearRow.j1
   repeat' first
   | (with_reducible exact ih0 _ _ _ _)
   | (with_reducible exact ih1 _ _ _ _ _)
   | (with_reducible exact ih2 _ _ _ _)
   | (with_reducible exact near_Heard.mono _ _ _ _)
   | (with_reducible exact near_May.mono _ _)
   | (with_reducible exact watchwordlaw19_awake.mono _)
   | (with_reducible exact LeO.refl _)
   | (with_reducible exact LeO.none _)
   | (with_reducible refine LeO.ite ?_ ?_)
   | (with_reducible refine LeO.bind ?_ (fun _ => ?_))
   | exact ih0 _ _ _ _
   | exact ih1 _ _ _ _ _
   | exact ih2 _ _ _ _
   | exact near_Heard.mono _ _ _ _
   | exact near_May.mono _ _
   | exact watchwordlaw19_awake.mono _
   | exact LeO.none _
   | refine LeO.ite ?_ ?_
   | refine LeO.bind ?_ (fun _ => ?_)
  ·intro y0 y1 y2 y3
   unfold watchwordlaw19_NearRow.l1
   repeat' first
   | (with_reducible exact ih0 _ _ _ _)
   | (with_reducible exact ih1 _ _ _ _ _)
   | (with_reducible exact ih2 _ _ _ _)
   | (with_reducible exact near_Heard.mono _ _ _ _)
   | (with_reducible exact near_May.mono _ _)
   | (with_reducible exact watchwordlaw19_awake.mono _)
   | (with_reducible exact LeO.refl _)
   | (with_reducible exact LeO.none _)
   | (with_reducible refine LeO.ite ?_ ?_)
   | (with_reducible refine LeO.bind ?_ (fun _ => ?_))
   | exact ih0 _ _ _ _
   | exact ih1 _ _ _ _ _
   | exact ih2 _ _ _ _
   | exact near_Heard.mono _ _ _ _
   | exact near_May.mono _ _
   | exact watchwordlaw19_awake.mono _
   | exact LeO.none _
   | refine LeO.ite ?_ ?_
   | refine LeO.bind ?_ (fun _ => ?_)
theorem watchwordlaw19_NearRow.mono : ∀ a0 k, LeO (watchwordlaw19_NearRow.f k a0) (watchwordlaw19_NearRow.f (k + 1) a0) := by
 intro a0 k
 obtain ⟨ih0, ih1, ih2⟩ := watchwordlaw19_NearRow.mono_l k
 unfold watchwordlaw19_NearRow.f
 repeat' first
   | (with_reducible exact ih0 _ _ _ _)
   | (with_reducible exact ih1 _ _ _ _ _)
   | (with_reducible exact ih2 _ _ _ _)
   | (with_reducible exact near_Heard.mono _ _ _ _)
   | (with_reducible exact near_May.mono _ _)
   | (with_reducible exact watchwordlaw19_awake.mono _)
   | (with_reducible exact LeO.refl _)
   | (with_reducible exact LeO.none _)
   | (with_reducible refine LeO.ite ?_ ?_)
   | (with_reducible refine LeO.bind ?_ (fun _ => ?_))
   | exact ih0 _ _ _ _
   | exact ih1 _ _ _ _ _
   | exact ih2 _ _ _ _
   | exact near_Heard.mono _ _ _ _
   | exact near_May.mono _ _
   | exact watchwordlaw19_awake.mono _
   | exact LeO.none _
   | refine LeO.ite ?_ ?_
   | refine LeO.bind ?_ (fun _ => ?_)
set_option maxHeartbeats 8000000 in
set_option maxRecDepth 100000 in
theorem watchwordlaw19_NearRow.calls (k : Nat) (A0 : Option Addr) (c0 : Nat) (l0 : List Int) (r : Bool) (w : World) (hr0 : Kd.C (Kd.int .i64) w A0 l0.length l0) (hc0 : l0.length ≤ c0) (h : watchwordlaw19_NearRow.f k l0 = some r) (hT : r = true) :
  Calls Try.prog 7 #[.slice A0 l0.length c0] w fun e w' => e = .returned (.bool r) ∧ Below w.heap.size w w' := by
 have HR0 := Aside0.mk hr0
 have HC0 := Aside0.mk hc0
 clear hr0 hc0
 have HB := Aside0.mk (Below.refl w.heap.size w)
 have HT := Aside0.mk hT
 clear hT
 have H : ((watchwordlaw19_awake.f k).bind fun t236 => (if t236 = true then (watchwordlaw19_NearRow.l0 k l0 ([] : List (S46)) (([0, 0, 0, 0, 0] : List Int)) 0) else (some false))) = some r := h
 clear h
 replace H := Option.bind_eq_some_iff.mp H
 obtain ⟨t236, A20, H⟩ := H
 replace H : (if t236 = true then (watchwordlaw19_NearRow.l0 k l0 ([] : List (S46)) (([0, 0, 0, 0, 0] : List Int)) 0) else (some false)) = some r := H
 have A2 := Aside0.mk A20
 clear A20
 by_cases c3 : t236 = true
 ·subst c3
  have H1 : (watchwordlaw19_NearRow.l0 k l0 ([] : List (S46)) (([0, 0, 0, 0, 0] : List Int)) 0) = some r := by rw [if_pos rfl] at H; exact H
  clear H
  have H := H1
  clear H1
  obtain ⟨y237, hy237⟩ : ∃ y_ : List Int, y_ = (([0, 0, 0, 0, 0] : List Int)) := ⟨_, rfl⟩
  replace H : (watchwordlaw19_NearRow.l0 k l0 ([] : List (S46)) y237 0) = some r := by first | (rw [hy237]; with_reducible exact H) | (have H2_ := (Option.bind_some _ _).symm.trans H; rw [hy237]; with_reducible exact H2_) | (have H2_ := (Option.bind_some _ _).symm.trans H; with_reducible exact H2_) | with_reducible exact H | (rw [hy237]; exact H) | exact H
  have Ny237 := Aside0.mk hy237
  clear hy237
  have H' := Aside0.mk H
  clear H
  go_enter Try.func7, Try.ntmps7
  go_wp2_with (first | (go_at_call 23; (with_reducible refine (watchwordlaw19_awake.calls k  true _ A2.out (by first | rfl | exact HT.out)).mono ?_); rintro e w4 ⟨rfl, hb⟩; have n0_ := Aside0.mk (below_step (by repeat (first | (with_reducible first | exact HB.out | apply below_alloc | apply pw_below_drewN | apply below_drew1) | exact HB.out)) hb); clear HB; have HB := n0_; clear n0_; (try clear hb); (try clear hb2); (try clear hk); (try clear hi)) | ((with_reducible refine gate_dst (N := 4) rfl ?_); refine Kd.R_arr (Kd.int .i64) _ 48 ?hg (N := 4) ?hd (xs := ([0, 0, 0, 0, 0] : List Int)) (inner := [.int .i64 0, .int .i64 0, .int .i64 0, .int .i64 0, .int .i64 0]) (ok := fun _ => True) (okp := fun _ => True) ?hr ?hp (fun _ hk => hk) trivial (Below.refl _ _) (Nat.le_refl _) (by simp) ?_; (case hd => rfl); (case hg => rfl); (case hr => first | (go_simp; done) | (go_simp; rfl)); (case hp => exact (Reps.one (show Kd.M (Kd.int .i64) _ _ _ 0 [.int .i64 0] from rfl) (Reps.one (show Kd.M (Kd.int .i64) _ _ _ 0 [.int .i64 0] from rfl) (Reps.one (show Kd.M (Kd.int .i64) _ _ _ 0 [.int .i64 0] from rfl) (Reps.one (show Kd.M (Kd.int .i64) _ _ _ 0 [.int .i64 0] from rfl) (Reps.one (show Kd.M (Kd.int .i64) _ _ _ 0 [.int .i64 0] from rfl) (Reps.none _ _))))))); intro ga238 w5 ho6 hb hg_ hnew_; obtain ⟨v238, hv_⟩ : ∃ v_ : Value, v_ = .slice (some ga238) 5 5 := ⟨_, rfl⟩; replace ho6 : Kd.R (Kd.int .i64) 48 w5 _ _ (.slice (some ga238) 5 5) _ := ho6; rw [← hv_] at ho6; have HV238 := Aside0.mk hv_; clear hv_; clear hg_ hnew_; (first | rw [← Ny237.out] at ho6 | (simp only [Int.reduceToNat] at ho6; rw [← Ny237.out] at ho6)); have n0_ := Aside0.mk (Kd.R_lower ho6 (below_size (by repeat (first | (with_reducible first | exact HB.out | apply below_alloc | apply pw_below_drewN | apply below_drew1) | exact HB.out)))); have n1_ := Aside0.mk (below_step (by repeat (first | (with_reducible first | exact HB.out | apply below_alloc | apply pw_below_drewN | apply below_drew1) | exact HB.out)) hb); clear HB; have HO239 := n0_; have HB := n1_; clear n0_ n1_; clear hb ho6))
  repeat (go_quiet (first | (go_at_call 23; (with_reducible refine (watchwordlaw19_awake.calls k  true _ A2.out (by first | rfl | exact HT.out)).mono ?_); rintro e w4 ⟨rfl, hb⟩; have n0_ := Aside0.mk (below_step (by repeat (first | (with_reducible first | exact HB.out | apply below_alloc | apply pw_below_drewN | apply below_drew1) | exact HB.out)) hb); clear HB; have HB := n0_; clear n0_; (try clear hb); (try clear hb2); (try clear hk); (try clear hi)) | ((with_reducible refine gate_dst (N := 4) rfl ?_); refine Kd.R_arr (Kd.int .i64) _ 48 ?hg (N := 4) ?hd (xs := ([0, 0, 0, 0, 0] : List Int)) (inner := [.int .i64 0, .int .i64 0, .int .i64 0, .int .i64 0, .int .i64 0]) (ok := fun _ => True) (okp := fun _ => True) ?hr ?hp (fun _ hk => hk) trivial (Below.refl _ _) (Nat.le_refl _) (by simp) ?_; (case hd => rfl); (case hg => rfl); (case hr => first | (go_simp; done) | (go_simp; rfl)); (case hp => exact (Reps.one (show Kd.M (Kd.int .i64) _ _ _ 0 [.int .i64 0] from rfl) (Reps.one (show Kd.M (Kd.int .i64) _ _ _ 0 [.int .i64 0] from rfl) (Reps.one (show Kd.M (Kd.int .i64) _ _ _ 0 [.int .i64 0] from rfl) (Reps.one (show Kd.M (Kd.int .i64) _ _ _ 0 [.int .i64 0] from rfl) (Reps.one (show Kd.M (Kd.int .i64) _ _ _ 0 [.int .i64 0] from rfl) (Reps.none _ _))))))); intro ga238 w5 ho6 hb hg_ hnew_; obtain ⟨v238, hv_⟩ : ∃ v_ : Value, v_ = .slice (some ga238) 5 5 := ⟨_, rfl⟩; replace ho6 : Kd.R (Kd.int .i64) 48 w5 _ _ (.slice (some ga238) 5 5) _ := ho6; rw [← hv_] at ho6; have HV238 := Aside0.mk hv_; clear hv_; clear hg_ hnew_; (first | rw [← Ny237.out] at ho6 | (simp only [Int.reduceToNat] at ho6; rw [← Ny237.out] at ho6)); have n0_ := Aside0.mk (Kd.R_lower ho6 (below_size (by repeat (first | (with_reducible first | exact HB.out | apply below_alloc | apply pw_below_drewN | apply below_drew1) | exact HB.out)))); have n1_ := Aside0.mk (below_step (by repeat (first | (with_reducible first | exact HB.out | apply below_alloc | apply pw_below_drewN | apply below_drew1) | exact HB.out)) hb); clear HB; have HO239 := n0_; have HB := n1_; clear n0_ n1_; clear hb ho6)); try go_wp2_with (first | (go_at_call 23; (with_reducible refine (watchwordlaw19_awake.calls k  true _ A2.out (by first | rfl | exact HT.out)).mono ?_); rintro e w4 ⟨rfl, hb⟩; have n0_ := Aside0.mk (below_step (by repeat (first | (with_reducible first | exact HB.out | apply below_alloc | apply pw_below_drewN | apply below_drew1) | exact HB.out)) hb); clear HB; have HB := n0_; clear n0_; (try clear hb); (try clear hb2); (try clear hk); (try clear hi)) | ((with_reducible refine gate_dst (N := 4) rfl ?_); refine Kd.R_arr (Kd.int .i64) _ 48 ?hg (N := 4) ?hd (xs := ([0, 0, 0, 0, 0] : List Int)) (inner := [.int .i64 0, .int .i64 0, .int .i64 0, .int .i64 0, .int .i64 0]) (ok := fun _ => True) (okp := fun _ => True) ?hr ?hp (fun _ hk => hk) trivial (Below.refl _ _) (Nat.le_refl _) (by simp) ?_; (case hd => rfl); (case hg => rfl); (case hr => first | (go_simp; done) | (go_simp; rfl)); (case hp => exact (Reps.one (show Kd.M (Kd.int .i64) _ _ _ 0 [.int .i64 0] from rfl) (Reps.one (show Kd.M (Kd.int .i64) _ _ _ 0 [.int .i64 0] from rfl) (Reps.one (show Kd.M (Kd.int .i64) _ _ _ 0 [.int .i64 0] from rfl) (Reps.one (show Kd.M (Kd.int .i64) _ _ _ 0 [.int .i64 0] from rfl) (Reps.one (show Kd.M (Kd.int .i64) _ _ _ 0 [.int .i64 0] from rfl) (Reps.none _ _))))))); intro ga238 w5 ho6 hb hg_ hnew_; obtain ⟨v238, hv_⟩ : ∃ v_ : Value, v_ = .slice (some ga238) 5 5 := ⟨_, rfl⟩; replace ho6 : Kd.R (Kd.int .i64) 48 w5 _ _ (.slice (some ga238) 5 5) _ := ho6; rw [← hv_] at ho6; have HV238 := Aside0.mk hv_; clear hv_; clear hg_ hnew_; (first | rw [← Ny237.out] at ho6 | (simp only [Int.reduceToNat] at ho6; rw [← Ny237.out] at ho6)); have n0_ := Aside0.mk (Kd.R_lower ho6 (below_size (by repeat (first | (with_reducible first | exact HB.out | apply below_alloc | apply pw_below_drewN | apply below_drew1) | exact HB.out)))); have n1_ := Aside0.mk (below_step (by repeat (first | (with_reducible first | exact HB.out | apply below_alloc | apply pw_below_drewN | apply below_drew1) | exact HB.out)) hb); clear HB; have HO239 := n0_; have HB := n1_; clear n0_ n1_; clear hb ho6)))
  go_loopg [3, 5] k (fun kq v3 v5 w' => ∃ (x3_1 : List (S46)) (x4_1 : List Int) (x5_1 : Int), v5 = .int .i64 x5_1 ∧ Aside0 (watchwordlaw19_NearRow.l0 kq l0 x3_1 x4_1 x5_1 = some r) ∧ Aside0 (kq ≤ k) ∧ Aside0 (Kd.R k46 46 w' w.heap.size (fun _ => True) v3 x3_1) ∧ Aside0 (Kd.R (Kd.int .i64) 48 w' w.heap.size (fun _ => True) v238 x4_1) ∧ Aside0 (Below w.heap.size w w'))
  case atStart => exact ⟨(([] : List (S46))), (y237), (0), (by first | rfl | (simp; done) | (simp [*]; done)), H', ⟨Nat.le_refl _⟩, ⟨by first | exact Kd.R_nil _ _ _ _ _ | exact Kd.N_nil _ _ _ _ _ | exact Kd.V_nil _ _ _ _ _ | exact Kd.Q_nil _ _ _ _ _ | exact Kd.S_nil _ _ _ _ _⟩, ⟨by (with_reducible repeat (first | apply Kd.R_alloc | apply Kd.R_drewN | apply Kd.R_drew)); exact HO239.out⟩, ⟨by repeat (first | (with_reducible first | exact HB.out | apply below_alloc | apply pw_below_drewN | apply below_drew1) | exact HB.out)⟩⟩
  case round =>
   clear H'
   try clear p2
   try clear c3
   obtain ⟨x3_1, x4_1, x5_1, rfl, HA, HK1, HO_3, HO_4, HB⟩ := hrel
   cases gk with
   | zero => exact absurd HA.out (by simp [watchwordlaw19_NearRow.l0])
   | succ k1 =>
    have H := HA.out
    clear HA
    simp only [watchwordlaw19_NearRow.l0] at H
    have HC7 := Aside0.mk H
    clear H
    go_upto_region 6 with (fail)
    repeat (go_quiet (fail); go_upto_region 6 with (fail))
    go_cut [23] (fun v23 wc => ∃ (kq : Nat) (x23_6 : Bool), v23 = .bool x23_6 ∧ Aside0 (watchwordlaw19_NearRow.j1 kq l0 x3_1 x4_1 x5_1 x23_6 = some r) ∧ Aside0 (kq ≤ k1) ∧ Aside0 (Kd.R k46 46 wc w.heap.size (fun _ => True) u3 x3_1) ∧ Aside0 (Kd.R (Kd.int .i64) 48 wc w.heap.size (fun _ => True) v238 x4_1) ∧ Aside0 (Below w.heap.size w wc))
    case first =>
     have H := HC7.out
     clear HC7
     by_cases c8 : x5_1 < (l0.length : Int)
     ·rw [if_pos c8] at H
      have c8b0 : decide (x5_1 < (l0.length : Int)) = true := decide_eq_true c8
      clear c8
      (first | rw [c8b0] | (simp only [i64_w, i32_w]; rw [c8b0]) | skip)
      have H' := Aside0.mk H
      clear H
      go_wp2
      repeat (go_quiet (fail); try go_wp2)
      go_meet
      case rel => exact ⟨_, (decide (x5_1 < 30)), (by first | rfl | (simp; done) | (simp [*]; done)), H', ⟨by have := HK1.out; first | omega | exact Nat.le_refl _⟩, ⟨by (with_reducible repeat (first | apply Kd.R_alloc | apply Kd.R_drewN | apply Kd.R_drew)); exact HO_3.out⟩, ⟨by (with_reducible repeat (first | apply Kd.R_alloc | apply Kd.R_drewN | apply Kd.R_drew)); exact HO_4.out⟩, ⟨by repeat (first | (with_reducible first | exact HB.out | apply below_alloc | apply pw_below_drewN | apply below_drew1) | exact HB.out)⟩⟩
     ·rw [if_neg c8] at H
      have c8b0 : decide (x5_1 < (l0.length : Int)) = false := decide_eq_false c8
      clear c8
      (first | rw [c8b0] | (simp only [i64_w, i32_w]; rw [c8b0]) | skip)
      have H' := Aside0.mk H
      clear H
      go_wp2
      repeat (go_quiet (fail); try go_wp2)
      go_meet
      case rel => exact ⟨_, (false), (by first | rfl | (simp; done) | (simp [*]; done)), H', ⟨by have := HK1.out; first | omega | exact Nat.le_refl _⟩, ⟨by (with_reducible repeat (first | apply Kd.R_alloc | apply Kd.R_drewN | apply Kd.R_drew)); exact HO_3.out⟩, ⟨by (with_reducible repeat (first | apply Kd.R_alloc | apply Kd.R_drewN | apply Kd.R_drew)); exact HO_4.out⟩, ⟨by repeat (first | (with_reducible first | exact HB.out | apply below_alloc | apply pw_below_drewN | apply below_drew1) | exact HB.out)⟩⟩
    case rest =>
     clear HC7
     try clear p2
     try clear c3
     try clear c7
     try clear c8
     try clear c8b0
     try clear p2
     obtain ⟨kq, x23_6, rfl, HA, HJ6, HO_3, HO_4, HB⟩ := hcut
     cases kq with
     | zero => exact absurd HA.out (by simp [watchwordlaw19_NearRow.j1])
     | succ kj6 =>
      have H := HA.out
      clear HA
      simp only [watchwordlaw19_NearRow.j1] at H
      by_cases c9 : x23_6 = true
      ·subst c9
       have H1 : (if 0 ≤ x5_1 then (if x5_1 < (l0.length : Int) then ((near_Heard.f kj6 x3_1 (wrap64 (1 + (Go.bits .and .i64 (rd l0 x5_1) 3))) ((Go.bits .and .i64 (rd l0 x5_1) 4) == 4)).bind fun bt242 => (if (Go.bits .and .i64 (rd l0 x5_1) 4) = 4 then ((watchwordlaw0_Num.f bt242.2.2).bind fun t247 => (if t247 = 0 then (if 0 ≤ (wrap64 (1 + (Go.bits .and .i64 (rd l0 x5_1) 3))) then (if (wrap64 (1 + (Go.bits .and .i64 (rd l0 x5_1) 3))) < (x4_1.length : Int) then (if (bt242.2.1 != ((rd x4_1 (wrap64 (1 + (Go.bits .and .i64 (rd l0 x5_1) 3)))) != 2)) = true then (some false) else (watchwordlaw19_NearRow.l0 kj6 l0 bt242.1 (x4_1.set ((wrap64 (1 + (Go.bits .and .i64 (rd l0 x5_1) 3))) : Int).toNat 2) (wrap64 (x5_1 + 1)))) else (none)) else (none)) else (some false))) else ((watchwordlaw0_Num.f bt242.2.2).bind fun t250 => (if t250 = 0 then (if 0 ≤ (wrap64 (1 + (Go.bits .and .i64 (rd l0 x5_1) 3))) then (if (wrap64 (1 + (Go.bits .and .i64 (rd l0 x5_1) 3))) < (x4_1.length : Int) then (if (bt242.2.1 != ((rd x4_1 (wrap64 (1 + (Go.bits .and .i64 (rd l0 x5_1) 3)))) != 1)) = true then (some false) else (watchwordlaw19_NearRow.l0 kj6 l0 bt242.1 (x4_1.set ((wrap64 (1 + (Go.bits .and .i64 (rd l0 x5_1) 3))) : Int).toNat 1) (wrap64 (x5_1 + 1)))) else (none)) else (none)) else (some false))))) else (none)) else (none)) = some r := by rw [if_pos rfl] at H; exact H
       clear H
       have H := H1
       clear H1
       by_cases c10 : 0 ≤ x5_1
       ·rw [if_pos c10] at H
        have c10b0 : decide (0 ≤ x5_1) = true := decide_eq_true c10
        clear c10
        by_cases c11 : x5_1 < (l0.length : Int)
        ·rw [if_pos c11] at H
         have c11b0 : decide (x5_1 < (l0.length : Int)) = true := decide_eq_true c11
         clear c11
         replace H := Option.bind_eq_some_iff.mp H
         obtain ⟨⟨t242, t243, t244⟩, A120, H⟩ := H
         replace H : (if (Go.bits .and .i64 (rd l0 x5_1) 4) = 4 then ((watchwordlaw0_Num.f t244).bind fun t247 => (if t247 = 0 then (if 0 ≤ (wrap64 (1 + (Go.bits .and .i64 (rd l0 x5_1) 3))) then (if (wrap64 (1 + (Go.bits .and .i64 (rd l0 x5_1) 3))) < (x4_1.length : Int) then (if (t243 != ((rd x4_1 (wrap64 (1 + (Go.bits .and .i64 (rd l0 x5_1) 3)))) != 2)) = true then (some false) else (watchwordlaw19_NearRow.l0 kj6 l0 t242 (x4_1.set ((wrap64 (1 + (Go.bits .and .i64 (rd l0 x5_1) 3))) : Int).toNat 2) (wrap64 (x5_1 + 1)))) else (none)) else (none)) else (some false))) else ((watchwordlaw0_Num.f t244).bind fun t250 => (if t250 = 0 then (if 0 ≤ (wrap64 (1 + (Go.bits .and .i64 (rd l0 x5_1) 3))) then (if (wrap64 (1 + (Go.bits .and .i64 (rd l0 x5_1) 3))) < (x4_1.length : Int) then (if (t243 != ((rd x4_1 (wrap64 (1 + (Go.bits .and .i64 (rd l0 x5_1) 3)))) != 1)) = true then (some false) else (watchwordlaw19_NearRow.l0 kj6 l0 t242 (x4_1.set ((wrap64 (1 + (Go.bits .and .i64 (rd l0 x5_1) 3))) : Int).toNat 1) (wrap64 (x5_1 + 1)))) else (none)) else (none)) else (some false)))) = some r := H
         have A12 := Aside0.mk A120
         clear A120
         by_cases c13 : (Go.bits .and .i64 (rd l0 x5_1) 4) = 4
         ·rw [if_pos c13] at H
          have c13b0 : ((Go.bits .and .i64 (rd l0 x5_1) 4) == 4) = true := beq_iff_eq.mpr c13
          (try rw [c13b0] at A12)
          have c13b1 : ((Go.bits .and .i64 (rd l0 x5_1) 4) != 4) = false := bne_eq_false_iff_eq.mpr c13
          clear c13
          replace H := Option.bind_eq_some_iff.mp H
          obtain ⟨t247, A140, H⟩ := H
          replace H : (if t247 = 0 then (if 0 ≤ (wrap64 (1 + (Go.bits .and .i64 (rd l0 x5_1) 3))) then (if (wrap64 (1 + (Go.bits .and .i64 (rd l0 x5_1) 3))) < (x4_1.length : Int) then (if (t243 != ((rd x4_1 (wrap64 (1 + (Go.bits .and .i64 (rd l0 x5_1) 3)))) != 2)) = true then (some false) else (watchwordlaw19_NearRow.l0 kj6 l0 t242 (x4_1.set ((wrap64 (1 + (Go.bits .and .i64 (rd l0 x5_1) 3))) : Int).toNat 2) (wrap64 (x5_1 + 1)))) else (none)) else (none)) else (some false)) = some r := H
          have A14 := Aside0.mk A140
          clear A140
          by_cases c15 : t247 = 0
          ·rw [if_pos c15] at H
           have c15b0 : (t247 == 0) = true := beq_iff_eq.mpr c15
           have c15b1 : (t247 != 0) = false := bne_eq_false_iff_eq.mpr c15
           clear c15
           obtain ⟨ji16, hji16⟩ : ∃ j_ : Int, (wrap64 (1 + (Go.bits .and .i64 (rd l0 x5_1) 3))) = j_ := ⟨_, rfl⟩
           replace H : (if 0 ≤ (ji16) then (if (ji16) < (x4_1.length : Int) then (if (t243 != ((rd x4_1 (ji16)) != 2)) = true then (some false) else (watchwordlaw19_NearRow.l0 kj6 l0 t242 (x4_1.set ((ji16) : Int).toNat 2) (wrap64 (x5_1 + 1)))) else (none)) else (none)) = some r := by first | (rw [hji16] at H; exact H) | (simp only [hji16] at H ⊢; exact H)
           (try rw [hji16] at A12)
           (try rw [hji16] at A14)
           have hji16w : (IntKind.i64.wrap (1 + (Go.bits .and .i64 (rd l0 x5_1) 3))) = ji16 := (i64_w _).trans hji16
           by_cases c17 : 0 ≤ (ji16)
           ·rw [if_pos c17] at H
            have c17b0 : decide (0 ≤ (ji16)) = true := decide_eq_true c17
            clear c17
            by_cases c18 : (ji16) < (x4_1.length : Int)
            ·rw [if_pos c18] at H
             have c18b0 : decide ((ji16) < (x4_1.length : Int)) = true := decide_eq_true c18
             clear c18
             by_cases c19 : (t243 != ((rd x4_1 (ji16)) != 2)) = true
             ·rw [if_pos c19] at H
              have c19b0 : (t243 != ((rd x4_1 (ji16)) != 2)) = true := c19
              (try (have c19b1 : decide (t243 = ((rd x4_1 (ji16)) != 2)) = false := by simpa using c19))
              (try (have c19b2 : (t243 == ((rd x4_1 (ji16)) != 2)) = false := by simpa using c19))
              (try (have c19b3 : ¬ (t243 = ((rd x4_1 (ji16)) != 2)) := by simpa using c19))
              clear c19
              exact absurd (Option.some.inj H) (by rw [HT.out]; decide)
             ·rw [if_neg c19] at H
              have c19b0 : (t243 != ((rd x4_1 (ji16)) != 2)) = false := by simpa using c19
              (try (have c19b1 : decide (t243 = ((rd x4_1 (ji16)) != 2)) = true := by simpa using c19))
              (try (have c19b2 : (t243 == ((rd x4_1 (ji16)) != 2)) = true := by simpa using c19))
              clear c19
              obtain ⟨y249, hy249⟩ : ∃ y_ : List Int, y_ = (x4_1.set ((ji16) : Int).toNat 2) := ⟨_, rfl⟩
              replace H : (watchwordlaw19_NearRow.l0 kj6 l0 t242 y249 (wrap64 (x5_1 + 1))) = some r := by first | (rw [hy249]; with_reducible exact H) | (have H2_ := (Option.bind_some _ _).symm.trans H; rw [hy249]; with_reducible exact H2_) | (have H2_ := (Option.bind_some _ _).symm.trans H; with_reducible exact H2_) | with_reducible exact H | (rw [hy249]; exact H) | exact H
              have Ny249 := Aside0.mk hy249
              clear hy249
              have H' := Aside0.mk H
              clear H
              have p240 : 0 ≤ (x5_1 : Int) := of_decide_eq_true (by first | (with_reducible assumption) | assumption)
              have q240 : x5_1 < (l0.length : Int) := of_decide_eq_true (by first | (with_reducible assumption) | assumption)
              obtain ⟨ad240, e240, hx240_0⟩ := Kd.at_int HR0.out x5_1 p240 q240
              cases e240; (try (injection ha_ with ha_; subst ha_))
              replace hx240_0 := (HB.out.cell (World.block_lt_of_cell? w _ hx240_0)).trans hx240_0
              replace p240 := eq_true p240
              replace q240 := eq_true q240
              have p241 : 0 ≤ (x5_1 : Int) := of_decide_eq_true (by first | (with_reducible assumption) | assumption)
              have q241 : x5_1 < (l0.length : Int) := of_decide_eq_true (by first | (with_reducible assumption) | assumption)
              obtain ⟨ad241, e241, hx241_0⟩ := Kd.at_int HR0.out x5_1 p241 q241
              obtain rfl : ad240 = ad241 := (by injection e241)
              replace hx241_0 := (HB.out.cell (World.block_lt_of_cell? w _ hx241_0)).trans hx241_0
              replace p241 := eq_true p241
              replace q241 := eq_true q241
              obtain ⟨Ao21, co21, eo21⟩ := Kd.R_slice HO_3.out
              subst eo21
              go_wp2_with (first | (go_at_call 9; (with_reducible refine (near_Heard.calls kj6 _ _ x3_1 ji16 _ t242 t243 t244 _ ?side1 ?side2 A12.out).mono ?_); (case side1 => repeat (first | exact (Kd.R_reads' HO_3.out).2.2 | (with_reducible refine Kd.C_alloc ?_ _) | (with_reducible refine Kd.C_drewN ?_ _) | (with_reducible refine Kd.C_drew ?_))); (case side2 => exact (Kd.R_reads' HO_3.out).2.1); rintro e w22 ⟨v245, rfl, ho0, hb⟩; have n0_ := Aside0.mk (Kd.R_elder' (by (with_reducible repeat (first | apply Kd.R_alloc | apply Kd.R_drewN | apply Kd.R_drew)); exact HO_3.out) (Kd.R_base ho0) hb); have n1_ := Aside0.mk (Kd.R_below (by (with_reducible repeat (first | apply Kd.R_alloc | apply Kd.R_drewN | apply Kd.R_drew)); exact HO_4.out) hb); have n2_ := Aside0.mk (Kd.R_lower (Kd.R_new' ho0 (Kd.R_lt (by (with_reducible repeat (first | apply Kd.R_alloc | apply Kd.R_drewN | apply Kd.R_drew)); exact HO_3.out))) (below_size (by repeat (first | (with_reducible first | exact HB.out | apply below_alloc | apply pw_below_drewN | apply below_drew1) | exact HB.out)))); have n3_ := Aside0.mk (below_step (by repeat (first | (with_reducible first | exact HB.out | apply below_alloc | apply pw_below_drewN | apply below_drew1) | exact HB.out)) hb); clear HO_3; clear HO_4; clear HB; have HO_3 := n0_; have HO_4 := n1_; have HO246 := n2_; have HB := n3_; clear n0_ n1_ n2_ n3_; (try clear hb); (try clear hb2); (try clear hk); (try clear hi); (try clear ho0)) | (go_at_call 15; (with_reducible refine (watchwordlaw0_Num.calls t244 t247 _ A14.out).mono ?_); rintro e w' ⟨rfl, ⟨nd, rfl⟩⟩; (try first | exact ⟨rfl, _, World.drewN_drewN _ _ _⟩ | exact ⟨rfl, _, Eq.trans (World.drewN_drewN _ _ _) (congrArg (World.drewN _) (Nat.add_assoc _ _ _))⟩); obtain ⟨Ao23, co23, eo23⟩ := Kd.R_slice HO_4.out; subst eo23; have hv_ := HV238.out; injection hv_ with ha_ hnv238_ hc_; have p248 : 0 ≤ ((ji16) : Int) := of_decide_eq_true (by first | (with_reducible assumption) | assumption); have q248 : (ji16) < (x4_1.length : Int) := of_decide_eq_true (by first | (with_reducible assumption) | assumption);have r248_ : ((ji16) < (5 : Int)) = True := eq_true (by have hq_ := q248; omega); obtain ⟨ad248, e248, hx248_0⟩ := Kd.at_int (Kd.R_reads' HO_4.out).2.2 (ji16) p248 q248; cases e248; (try (injection ha_ with ha_; subst ha_)); replace p248 := eq_true p248; replace q248 := eq_true q248; have p20 : 0 ≤ ((ji16) : Int) := of_decide_eq_true (by first | (with_reducible assumption) | assumption); have q20 : ((ji16) : Int) < ((x4_1.length : Int) : Int) := of_decide_eq_true (by first | (with_reducible assumption) | assumption); obtain ⟨go20, co20, eo20, gb20, gl20, cl20, HG20⟩ := Kd.R_form HO_4.out (by omega); (first | cases eo20 | (injection eo20 with ea_ en_ ec_; (first | subst ea_ | (injection ea_ with ea_; subst ea_)); subst ec_; clear en_)); have GB20 := Aside0.mk gb20; have GG20 := Aside0.mk HG20; (try (injection ha_ with ha_; subst ha_)); clear gb20 gl20 HG20; (first | simp only [add_plain] at hx248_0 | skip); obtain ⟨hx20_0, hf20_0⟩ := Kd.R_celln 0 HO_4.out ((ji16) : Int) p20 q20; replace p20 := eq_true p20; replace q20 := eq_true q20; obtain ⟨hy24_, hz24_⟩ := Kd.R_celln 0 HO_4.out ((ji16) : Int) (of_decide_eq_true (by first | (with_reducible assumption) | assumption)) (of_decide_eq_true (by first | (with_reducible assumption) | assumption)); have HP24 := Kd.R_putg HO_4.out ((ji16) : Int) 2) | ((with_reducible refine gate_store (t := 3) (p := 61) rfl ?_); (try (rw [drewN_self w22]; generalize hq_ : World.drewN w22 _ = w22; have n0_ := Aside0.mk (Kd.R_at hq_ HO_3.out); have n1_ := Aside0.mk (Kd.R_at hq_ HO_4.out); have n2_ := Aside0.mk (Kd.R_at hq_ HO246.out); have n3_ := Aside0.mk (below_at hq_ HB.out); clear hq_ HO_3 HO_4 HO246 HB; have HO_3 := n0_; have HO_4 := n1_; have HO246 := n2_; have HB := n3_; clear n0_ n1_ n2_ n3_; (try (obtain ⟨hy24_, hz24_⟩ := Kd.R_celln 0 HO_4.out ((ji16) : Int) (of_decide_eq_true (by first | (with_reducible assumption) | assumption)) (of_decide_eq_true (by first | (with_reducible assumption) | assumption)))); (try (have HP24 := Kd.R_putg HO_4.out ((ji16) : Int) 2)))); refine store_event (t := 3) (p := 61) (v := ?vo_w25) (w1 := (w22.setCell ⟨go20, ((ji16) : Int).toNat, none⟩ (.int .i64 2))) ?hg ?ho ?hn ?hr ?_; (case ho => rfl); (case hg => rfl); (case hn => rfl); (case hr => first | (go_simp; done) | (go_simp; rfl)); intro w25 hw; have hg : w22.grownBy w25 (some go20) := (by rw [hw]; exact HP24.2); have hp_ : Kd.R (Kd.int .i64) 48 w25 w.heap.size (fun _ => True) (.slice (some ⟨go20, 0, none⟩) x4_1.length co23) y249 := (by rw [hw, Ny249.out]; exact HP24.1); clear HP24; have n0_ := Aside0.mk (Kd.R_over' (v := (.slice (some ⟨go20, 0, none⟩) x4_1.length co23)) (by (with_reducible repeat (first | apply Kd.R_alloc | apply Kd.R_drewN | apply Kd.R_drew)); exact HO_3.out) (Kd.R_typed HO_4.out) (by decide) hg); have n1_ := Aside0.mk (hp_); have n2_ := Aside0.mk (Kd.R_over' (v := (.slice (some ⟨go20, 0, none⟩) x4_1.length co23)) (by (with_reducible repeat (first | apply Kd.R_alloc | apply Kd.R_drewN | apply Kd.R_drew)); exact HO246.out) (Kd.R_typed HO_4.out) (by decide) hg); have n3_ := Aside0.mk ((by rw [hw]; exact below_set (HB.out) GB20.out : Below w.heap.size w w25)); clear HO_3; clear HO_4; clear HO246; clear HB; have HO_3 := n0_; have HO_4 := n1_; have HO246 := n2_; have HB := n3_; clear n0_ n1_ n2_ n3_; clear hg hw hp_))
              repeat (go_quiet (first | (go_at_call 9; (with_reducible refine (near_Heard.calls kj6 _ _ x3_1 ji16 _ t242 t243 t244 _ ?side1 ?side2 A12.out).mono ?_); (case side1 => repeat (first | exact (Kd.R_reads' HO_3.out).2.2 | (with_reducible refine Kd.C_alloc ?_ _) | (with_reducible refine Kd.C_drewN ?_ _) | (with_reducible refine Kd.C_drew ?_))); (case side2 => exact (Kd.R_reads' HO_3.out).2.1); rintro e w22 ⟨v245, rfl, ho0, hb⟩; have n0_ := Aside0.mk (Kd.R_elder' (by (with_reducible repeat (first | apply Kd.R_alloc | apply Kd.R_drewN | apply Kd.R_drew)); exact HO_3.out) (Kd.R_base ho0) hb); have n1_ := Aside0.mk (Kd.R_below (by (with_reducible repeat (first | apply Kd.R_alloc | apply Kd.R_drewN | apply Kd.R_drew)); exact HO_4.out) hb); have n2_ := Aside0.mk (Kd.R_lower (Kd.R_new' ho0 (Kd.R_lt (by (with_reducible repeat (first | apply Kd.R_alloc | apply Kd.R_drewN | apply Kd.R_drew)); exact HO_3.out))) (below_size (by repeat (first | (with_reducible first | exact HB.out | apply below_alloc | apply pw_below_drewN | apply below_drew1) | exact HB.out)))); have n3_ := Aside0.mk (below_step (by repeat (first | (with_reducible first | exact HB.out | apply below_alloc | apply pw_below_drewN | apply below_drew1) | exact HB.out)) hb); clear HO_3; clear HO_4; clear HB; have HO_3 := n0_; have HO_4 := n1_; have HO246 := n2_; have HB := n3_; clear n0_ n1_ n2_ n3_; (try clear hb); (try clear hb2); (try clear hk); (try clear hi); (try clear ho0)) | (go_at_call 15; (with_reducible refine (watchwordlaw0_Num.calls t244 t247 _ A14.out).mono ?_); rintro e w' ⟨rfl, ⟨nd, rfl⟩⟩; (try first | exact ⟨rfl, _, World.drewN_drewN _ _ _⟩ | exact ⟨rfl, _, Eq.trans (World.drewN_drewN _ _ _) (congrArg (World.drewN _) (Nat.add_assoc _ _ _))⟩); obtain ⟨Ao23, co23, eo23⟩ := Kd.R_slice HO_4.out; subst eo23; have hv_ := HV238.out; injection hv_ with ha_ hnv238_ hc_; have p248 : 0 ≤ ((ji16) : Int) := of_decide_eq_true (by first | (with_reducible assumption) | assumption); have q248 : (ji16) < (x4_1.length : Int) := of_decide_eq_true (by first | (with_reducible assumption) | assumption);have r248_ : ((ji16) < (5 : Int)) = True := eq_true (by have hq_ := q248; omega); obtain ⟨ad248, e248, hx248_0⟩ := Kd.at_int (Kd.R_reads' HO_4.out).2.2 (ji16) p248 q248; cases e248; (try (injection ha_ with ha_; subst ha_)); replace p248 := eq_true p248; replace q248 := eq_true q248; have p20 : 0 ≤ ((ji16) : Int) := of_decide_eq_true (by first | (with_reducible assumption) | assumption); have q20 : ((ji16) : Int) < ((x4_1.length : Int) : Int) := of_decide_eq_true (by first | (with_reducible assumption) | assumption); obtain ⟨go20, co20, eo20, gb20, gl20, cl20, HG20⟩ := Kd.R_form HO_4.out (by omega); (first | cases eo20 | (injection eo20 with ea_ en_ ec_; (first | subst ea_ | (injection ea_ with ea_; subst ea_)); subst ec_; clear en_)); have GB20 := Aside0.mk gb20; have GG20 := Aside0.mk HG20; (try (injection ha_ with ha_; subst ha_)); clear gb20 gl20 HG20; (first | simp only [add_plain] at hx248_0 | skip); obtain ⟨hx20_0, hf20_0⟩ := Kd.R_celln 0 HO_4.out ((ji16) : Int) p20 q20; replace p20 := eq_true p20; replace q20 := eq_true q20; obtain ⟨hy24_, hz24_⟩ := Kd.R_celln 0 HO_4.out ((ji16) : Int) (of_decide_eq_true (by first | (with_reducible assumption) | assumption)) (of_decide_eq_true (by first | (with_reducible assumption) | assumption)); have HP24 := Kd.R_putg HO_4.out ((ji16) : Int) 2) | ((with_reducible refine gate_store (t := 3) (p := 61) rfl ?_); (try (rw [drewN_self w22]; generalize hq_ : World.drewN w22 _ = w22; have n0_ := Aside0.mk (Kd.R_at hq_ HO_3.out); have n1_ := Aside0.mk (Kd.R_at hq_ HO_4.out); have n2_ := Aside0.mk (Kd.R_at hq_ HO246.out); have n3_ := Aside0.mk (below_at hq_ HB.out); clear hq_ HO_3 HO_4 HO246 HB; have HO_3 := n0_; have HO_4 := n1_; have HO246 := n2_; have HB := n3_; clear n0_ n1_ n2_ n3_; (try (obtain ⟨hy24_, hz24_⟩ := Kd.R_celln 0 HO_4.out ((ji16) : Int) (of_decide_eq_true (by first | (with_reducible assumption) | assumption)) (of_decide_eq_true (by first | (with_reducible assumption) | assumption)))); (try (have HP24 := Kd.R_putg HO_4.out ((ji16) : Int) 2)))); refine store_event (t := 3) (p := 61) (v := ?vo_w25) (w1 := (w22.setCell ⟨go20, ((ji16) : Int).toNat, none⟩ (.int .i64 2))) ?hg ?ho ?hn ?hr ?_; (case ho => rfl); (case hg => rfl); (case hn => rfl); (case hr => first | (go_simp; done) | (go_simp; rfl)); intro w25 hw; have hg : w22.grownBy w25 (some go20) := (by rw [hw]; exact HP24.2); have hp_ : Kd.R (Kd.int .i64) 48 w25 w.heap.size (fun _ => True) (.slice (some ⟨go20, 0, none⟩) x4_1.length co23) y249 := (by rw [hw, Ny249.out]; exact HP24.1); clear HP24; have n0_ := Aside0.mk (Kd.R_over' (v := (.slice (some ⟨go20, 0, none⟩) x4_1.length co23)) (by (with_reducible repeat (first | apply Kd.R_alloc | apply Kd.R_drewN | apply Kd.R_drew)); exact HO_3.out) (Kd.R_typed HO_4.out) (by decide) hg); have n1_ := Aside0.mk (hp_); have n2_ := Aside0.mk (Kd.R_over' (v := (.slice (some ⟨go20, 0, none⟩) x4_1.length co23)) (by (with_reducible repeat (first | apply Kd.R_alloc | apply Kd.R_drewN | apply Kd.R_drew)); exact HO246.out) (Kd.R_typed HO_4.out) (by decide) hg); have n3_ := Aside0.mk ((by rw [hw]; exact below_set (HB.out) GB20.out : Below w.heap.size w w25)); clear HO_3; clear HO_4; clear HO246; clear HB; have HO_3 := n0_; have HO_4 := n1_; have HO246 := n2_; have HB := n3_; clear n0_ n1_ n2_ n3_; clear hg hw hp_)); try go_wp2_with (first | (go_at_call 9; (with_reducible refine (near_Heard.calls kj6 _ _ x3_1 ji16 _ t242 t243 t244 _ ?side1 ?side2 A12.out).mono ?_); (case side1 => repeat (first | exact (Kd.R_reads' HO_3.out).2.2 | (with_reducible refine Kd.C_alloc ?_ _) | (with_reducible refine Kd.C_drewN ?_ _) | (with_reducible refine Kd.C_drew ?_))); (case side2 => exact (Kd.R_reads' HO_3.out).2.1); rintro e w22 ⟨v245, rfl, ho0, hb⟩; have n0_ := Aside0.mk (Kd.R_elder' (by (with_reducible repeat (first | apply Kd.R_alloc | apply Kd.R_drewN | apply Kd.R_drew)); exact HO_3.out) (Kd.R_base ho0) hb); have n1_ := Aside0.mk (Kd.R_below (by (with_reducible repeat (first | apply Kd.R_alloc | apply Kd.R_drewN | apply Kd.R_drew)); exact HO_4.out) hb); have n2_ := Aside0.mk (Kd.R_lower (Kd.R_new' ho0 (Kd.R_lt (by (with_reducible repeat (first | apply Kd.R_alloc | apply Kd.R_drewN | apply Kd.R_drew)); exact HO_3.out))) (below_size (by repeat (first | (with_reducible first | exact HB.out | apply below_alloc | apply pw_below_drewN | apply below_drew1) | exact HB.out)))); have n3_ := Aside0.mk (below_step (by repeat (first | (with_reducible first | exact HB.out | apply below_alloc | apply pw_below_drewN | apply below_drew1) | exact HB.out)) hb); clear HO_3; clear HO_4; clear HB; have HO_3 := n0_; have HO_4 := n1_; have HO246 := n2_; have HB := n3_; clear n0_ n1_ n2_ n3_; (try clear hb); (try clear hb2); (try clear hk); (try clear hi); (try clear ho0)) | (go_at_call 15; (with_reducible refine (watchwordlaw0_Num.calls t244 t247 _ A14.out).mono ?_); rintro e w' ⟨rfl, ⟨nd, rfl⟩⟩; (try first | exact ⟨rfl, _, World.drewN_drewN _ _ _⟩ | exact ⟨rfl, _, Eq.trans (World.drewN_drewN _ _ _) (congrArg (World.drewN _) (Nat.add_assoc _ _ _))⟩); obtain ⟨Ao23, co23, eo23⟩ := Kd.R_slice HO_4.out; subst eo23; have hv_ := HV238.out; injection hv_ with ha_ hnv238_ hc_; have p248 : 0 ≤ ((ji16) : Int) := of_decide_eq_true (by first | (with_reducible assumption) | assumption); have q248 : (ji16) < (x4_1.length : Int) := of_decide_eq_true (by first | (with_reducible assumption) | assumption);have r248_ : ((ji16) < (5 : Int)) = True := eq_true (by have hq_ := q248; omega); obtain ⟨ad248, e248, hx248_0⟩ := Kd.at_int (Kd.R_reads' HO_4.out).2.2 (ji16) p248 q248; cases e248; (try (injection ha_ with ha_; subst ha_)); replace p248 := eq_true p248; replace q248 := eq_true q248; have p20 : 0 ≤ ((ji16) : Int) := of_decide_eq_true (by first | (with_reducible assumption) | assumption); have q20 : ((ji16) : Int) < ((x4_1.length : Int) : Int) := of_decide_eq_true (by first | (with_reducible assumption) | assumption); obtain ⟨go20, co20, eo20, gb20, gl20, cl20, HG20⟩ := Kd.R_form HO_4.out (by omega); (first | cases eo20 | (injection eo20 with ea_ en_ ec_; (first | subst ea_ | (injection ea_ with ea_; subst ea_)); subst ec_; clear en_)); have GB20 := Aside0.mk gb20; have GG20 := Aside0.mk HG20; (try (injection ha_ with ha_; subst ha_)); clear gb20 gl20 HG20; (first | simp only [add_plain] at hx248_0 | skip); obtain ⟨hx20_0, hf20_0⟩ := Kd.R_celln 0 HO_4.out ((ji16) : Int) p20 q20; replace p20 := eq_true p20; replace q20 := eq_true q20; obtain ⟨hy24_, hz24_⟩ := Kd.R_celln 0 HO_4.out ((ji16) : Int) (of_decide_eq_true (by first | (with_reducible assumption) | assumption)) (of_decide_eq_true (by first | (with_reducible assumption) | assumption)); have HP24 := Kd.R_putg HO_4.out ((ji16) : Int) 2) | ((with_reducible refine gate_store (t := 3) (p := 61) rfl ?_); (try (rw [drewN_self w22]; generalize hq_ : World.drewN w22 _ = w22; have n0_ := Aside0.mk (Kd.R_at hq_ HO_3.out); have n1_ := Aside0.mk (Kd.R_at hq_ HO_4.out); have n2_ := Aside0.mk (Kd.R_at hq_ HO246.out); have n3_ := Aside0.mk (below_at hq_ HB.out); clear hq_ HO_3 HO_4 HO246 HB; have HO_3 := n0_; have HO_4 := n1_; have HO246 := n2_; have HB := n3_; clear n0_ n1_ n2_ n3_; (try (obtain ⟨hy24_, hz24_⟩ := Kd.R_celln 0 HO_4.out ((ji16) : Int) (of_decide_eq_true (by first | (with_reducible assumption) | assumption)) (of_decide_eq_true (by first | (with_reducible assumption) | assumption)))); (try (have HP24 := Kd.R_putg HO_4.out ((ji16) : Int) 2)))); refine store_event (t := 3) (p := 61) (v := ?vo_w25) (w1 := (w22.setCell ⟨go20, ((ji16) : Int).toNat, none⟩ (.int .i64 2))) ?hg ?ho ?hn ?hr ?_; (case ho => rfl); (case hg => rfl); (case hn => rfl); (case hr => first | (go_simp; done) | (go_simp; rfl)); intro w25 hw; have hg : w22.grownBy w25 (some go20) := (by rw [hw]; exact HP24.2); have hp_ : Kd.R (Kd.int .i64) 48 w25 w.heap.size (fun _ => True) (.slice (some ⟨go20, 0, none⟩) x4_1.length co23) y249 := (by rw [hw, Ny249.out]; exact HP24.1); clear HP24; have n0_ := Aside0.mk (Kd.R_over' (v := (.slice (some ⟨go20, 0, none⟩) x4_1.length co23)) (by (with_reducible repeat (first | apply Kd.R_alloc | apply Kd.R_drewN | apply Kd.R_drew)); exact HO_3.out) (Kd.R_typed HO_4.out) (by decide) hg); have n1_ := Aside0.mk (hp_); have n2_ := Aside0.mk (Kd.R_over' (v := (.slice (some ⟨go20, 0, none⟩) x4_1.length co23)) (by (with_reducible repeat (first | apply Kd.R_alloc | apply Kd.R_drewN | apply Kd.R_drew)); exact HO246.out) (Kd.R_typed HO_4.out) (by decide) hg); have n3_ := Aside0.mk ((by rw [hw]; exact below_set (HB.out) GB20.out : Below w.heap.size w w25)); clear HO_3; clear HO_4; clear HO246; clear HB; have HO_3 := n0_; have HO_4 := n1_; have HO246 := n2_; have HB := n3_; clear n0_ n1_ n2_ n3_; clear hg hw hp_)))
              go_roundg kj6
              case measure => have := HK1.out; have := HJ6.out; omega
              case rel => exact ⟨(t242), (y249), (wrap64 (x5_1 + 1)), (by first | rfl | (simp; done) | (simp [*]; done)), H', ⟨by have := HK1.out; have := HJ6.out; omega⟩, ⟨by (with_reducible repeat (first | apply Kd.R_alloc | apply Kd.R_drewN | apply Kd.R_drew)); exact Kd.R_mono HO246.out (fun _ hk => trivial)⟩, ⟨by (with_reducible repeat (first | apply Kd.R_alloc | apply Kd.R_drewN | apply Kd.R_drew)); exact HO_4.out⟩, ⟨by repeat (first | (with_reducible first | exact HB.out | apply below_alloc | apply pw_below_drewN | apply below_drew1) | exact HB.out)⟩⟩
            ·rw [if_neg c18] at H
             exact absurd H (by simp)
           ·rw [if_neg c17] at H
            exact absurd H (by simp)
          ·rw [if_neg c15] at H
           have c15b0 : (t247 == 0) = false := beq_eq_false_iff_ne.mpr c15
           have c15b1 : (t247 != 0) = true := bne_iff_ne.mpr c15
           exact absurd (Option.some.inj H) (by rw [HT.out]; decide)
         ·rw [if_neg c13] at H
          have c13b0 : ((Go.bits .and .i64 (rd l0 x5_1) 4) == 4) = false := beq_eq_false_iff_ne.mpr c13
          (try rw [c13b0] at A12)
          have c13b1 : ((Go.bits .and .i64 (rd l0 x5_1) 4) != 4) = true := bne_iff_ne.mpr c13
          replace H := Option.bind_eq_some_iff.mp H
          obtain ⟨t250, A260, H⟩ := H
          replace H : (if t250 = 0 then (if 0 ≤ (wrap64 (1 + (Go.bits .and .i64 (rd l0 x5_1) 3))) then (if (wrap64 (1 + (Go.bits .and .i64 (rd l0 x5_1) 3))) < (x4_1.length : Int) then (if (t243 != ((rd x4_1 (wrap64 (1 + (Go.bits .and .i64 (rd l0 x5_1) 3)))) != 1)) = true then (some false) else (watchwordlaw19_NearRow.l0 kj6 l0 t242 (x4_1.set ((wrap64 (1 + (Go.bits .and .i64 (rd l0 x5_1) 3))) : Int).toNat 1) (wrap64 (x5_1 + 1)))) else (none)) else (none)) else (some false)) = some r := H
          have A26 := Aside0.mk A260
          clear A260
          by_cases c27 : t250 = 0
          ·rw [if_pos c27] at H
           have c27b0 : (t250 == 0) = true := beq_iff_eq.mpr c27
           have c27b1 : (t250 != 0) = false := bne_eq_false_iff_eq.mpr c27
           clear c27
           obtain ⟨ji28, hji28⟩ : ∃ j_ : Int, (wrap64 (1 + (Go.bits .and .i64 (rd l0 x5_1) 3))) = j_ := ⟨_, rfl⟩
           replace H : (if 0 ≤ (ji28) then (if (ji28) < (x4_1.length : Int) then (if (t243 != ((rd x4_1 (ji28)) != 1)) = true then (some false) else (watchwordlaw19_NearRow.l0 kj6 l0 t242 (x4_1.set ((ji28) : Int).toNat 1) (wrap64 (x5_1 + 1)))) else (none)) else (none)) = some r := by first | (rw [hji28] at H; exact H) | (simp only [hji28] at H ⊢; exact H)
           (try rw [hji28] at A12)
           (try rw [hji28] at A26)
           have hji28w : (IntKind.i64.wrap (1 + (Go.bits .and .i64 (rd l0 x5_1) 3))) = ji28 := (i64_w _).trans hji28
           by_cases c29 : 0 ≤ (ji28)
           ·rw [if_pos c29] at H
            have c29b0 : decide (0 ≤ (ji28)) = true := decide_eq_true c29
            clear c29
            by_cases c30 : (ji28) < (x4_1.length : Int)
            ·rw [if_pos c30] at H
             have c30b0 : decide ((ji28) < (x4_1.length : Int)) = true := decide_eq_true c30
             clear c30
             by_cases c31 : (t243 != ((rd x4_1 (ji28)) != 1)) = true
             ·rw [if_pos c31] at H
              have c31b0 : (t243 != ((rd x4_1 (ji28)) != 1)) = true := c31
              (try (have c31b1 : decide (t243 = ((rd x4_1 (ji28)) != 1)) = false := by simpa using c31))
              (try (have c31b2 : (t243 == ((rd x4_1 (ji28)) != 1)) = false := by simpa using c31))
              (try (have c31b3 : ¬ (t243 = ((rd x4_1 (ji28)) != 1)) := by simpa using c31))
              clear c31
              exact absurd (Option.some.inj H) (by rw [HT.out]; decide)
             ·rw [if_neg c31] at H
              have c31b0 : (t243 != ((rd x4_1 (ji28)) != 1)) = false := by simpa using c31
              (try (have c31b1 : decide (t243 = ((rd x4_1 (ji28)) != 1)) = true := by simpa using c31))
              (try (have c31b2 : (t243 == ((rd x4_1 (ji28)) != 1)) = true := by simpa using c31))
              clear c31
              obtain ⟨y252, hy252⟩ : ∃ y_ : List Int, y_ = (x4_1.set ((ji28) : Int).toNat 1) := ⟨_, rfl⟩
              replace H : (watchwordlaw19_NearRow.l0 kj6 l0 t242 y252 (wrap64 (x5_1 + 1))) = some r := by first | (rw [hy252]; with_reducible exact H) | (have H2_ := (Option.bind_some _ _).symm.trans H; rw [hy252]; with_reducible exact H2_) | (have H2_ := (Option.bind_some _ _).symm.trans H; with_reducible exact H2_) | with_reducible exact H | (rw [hy252]; exact H) | exact H
              have Ny252 := Aside0.mk hy252
              clear hy252
              have H' := Aside0.mk H
              clear H
              have p240 : 0 ≤ (x5_1 : Int) := of_decide_eq_true (by first | (with_reducible assumption) | assumption)
              have q240 : x5_1 < (l0.length : Int) := of_decide_eq_true (by first | (with_reducible assumption) | assumption)
              obtain ⟨ad240, e240, hx240_0⟩ := Kd.at_int HR0.out x5_1 p240 q240
              cases e240; (try (injection ha_ with ha_; subst ha_))
              replace hx240_0 := (HB.out.cell (World.block_lt_of_cell? w _ hx240_0)).trans hx240_0
              replace p240 := eq_true p240
              replace q240 := eq_true q240
              have p241 : 0 ≤ (x5_1 : Int) := of_decide_eq_true (by first | (with_reducible assumption) | assumption)
              have q241 : x5_1 < (l0.length : Int) := of_decide_eq_true (by first | (with_reducible assumption) | assumption)
              obtain ⟨ad241, e241, hx241_0⟩ := Kd.at_int HR0.out x5_1 p241 q241
              obtain rfl : ad240 = ad241 := (by injection e241)
              replace hx241_0 := (HB.out.cell (World.block_lt_of_cell? w _ hx241_0)).trans hx241_0
              replace p241 := eq_true p241
              replace q241 := eq_true q241
              obtain ⟨Ao33, co33, eo33⟩ := Kd.R_slice HO_3.out
              subst eo33
              go_wp2_with (first | (go_at_call 9; (with_reducible refine (near_Heard.calls kj6 _ _ x3_1 ji28 _ t242 t243 t244 _ ?side1 ?side2 A12.out).mono ?_); (case side1 => repeat (first | exact (Kd.R_reads' HO_3.out).2.2 | (with_reducible refine Kd.C_alloc ?_ _) | (with_reducible refine Kd.C_drewN ?_ _) | (with_reducible refine Kd.C_drew ?_))); (case side2 => exact (Kd.R_reads' HO_3.out).2.1); rintro e w34 ⟨v245, rfl, ho0, hb⟩; have n0_ := Aside0.mk (Kd.R_elder' (by (with_reducible repeat (first | apply Kd.R_alloc | apply Kd.R_drewN | apply Kd.R_drew)); exact HO_3.out) (Kd.R_base ho0) hb); have n1_ := Aside0.mk (Kd.R_below (by (with_reducible repeat (first | apply Kd.R_alloc | apply Kd.R_drewN | apply Kd.R_drew)); exact HO_4.out) hb); have n2_ := Aside0.mk (Kd.R_lower (Kd.R_new' ho0 (Kd.R_lt (by (with_reducible repeat (first | apply Kd.R_alloc | apply Kd.R_drewN | apply Kd.R_drew)); exact HO_3.out))) (below_size (by repeat (first | (with_reducible first | exact HB.out | apply below_alloc | apply pw_below_drewN | apply below_drew1) | exact HB.out)))); have n3_ := Aside0.mk (below_step (by repeat (first | (with_reducible first | exact HB.out | apply below_alloc | apply pw_below_drewN | apply below_drew1) | exact HB.out)) hb); clear HO_3; clear HO_4; clear HB; have HO_3 := n0_; have HO_4 := n1_; have HO246 := n2_; have HB := n3_; clear n0_ n1_ n2_ n3_; (try clear hb); (try clear hb2); (try clear hk); (try clear hi); (try clear ho0)) | (go_at_call 15; (with_reducible refine (watchwordlaw0_Num.calls t244 t250 _ A26.out).mono ?_); rintro e w' ⟨rfl, ⟨nd, rfl⟩⟩; (try first | exact ⟨rfl, _, World.drewN_drewN _ _ _⟩ | exact ⟨rfl, _, Eq.trans (World.drewN_drewN _ _ _) (congrArg (World.drewN _) (Nat.add_assoc _ _ _))⟩); obtain ⟨Ao35, co35, eo35⟩ := Kd.R_slice HO_4.out; subst eo35; have hv_ := HV238.out; injection hv_ with ha_ hnv238_ hc_; have p251 : 0 ≤ ((ji28) : Int) := of_decide_eq_true (by first | (with_reducible assumption) | assumption); have q251 : (ji28) < (x4_1.length : Int) := of_decide_eq_true (by first | (with_reducible assumption) | assumption);have r251_ : ((ji28) < (5 : Int)) = True := eq_true (by have hq_ := q251; omega); obtain ⟨ad251, e251, hx251_0⟩ := Kd.at_int (Kd.R_reads' HO_4.out).2.2 (ji28) p251 q251; cases e251; (try (injection ha_ with ha_; subst ha_)); replace p251 := eq_true p251; replace q251 := eq_true q251; have p32 : 0 ≤ ((ji28) : Int) := of_decide_eq_true (by first | (with_reducible assumption) | assumption); have q32 : ((ji28) : Int) < ((x4_1.length : Int) : Int) := of_decide_eq_true (by first | (with_reducible assumption) | assumption); obtain ⟨go32, co32, eo32, gb32, gl32, cl32, HG32⟩ := Kd.R_form HO_4.out (by omega); (first | cases eo32 | (injection eo32 with ea_ en_ ec_; (first | subst ea_ | (injection ea_ with ea_; subst ea_)); subst ec_; clear en_)); have GB32 := Aside0.mk gb32; have GG32 := Aside0.mk HG32; (try (injection ha_ with ha_; subst ha_)); clear gb32 gl32 HG32; (first | simp only [add_plain] at hx251_0 | skip); obtain ⟨hx32_0, hf32_0⟩ := Kd.R_celln 0 HO_4.out ((ji28) : Int) p32 q32; replace p32 := eq_true p32; replace q32 := eq_true q32; obtain ⟨hy36_, hz36_⟩ := Kd.R_celln 0 HO_4.out ((ji28) : Int) (of_decide_eq_true (by first | (with_reducible assumption) | assumption)) (of_decide_eq_true (by first | (with_reducible assumption) | assumption)); have HP36 := Kd.R_putg HO_4.out ((ji28) : Int) 1) | ((with_reducible refine gate_store (t := 3) (p := 61) rfl ?_); (try (rw [drewN_self w34]; generalize hq_ : World.drewN w34 _ = w34; have n0_ := Aside0.mk (Kd.R_at hq_ HO_3.out); have n1_ := Aside0.mk (Kd.R_at hq_ HO_4.out); have n2_ := Aside0.mk (Kd.R_at hq_ HO246.out); have n3_ := Aside0.mk (below_at hq_ HB.out); clear hq_ HO_3 HO_4 HO246 HB; have HO_3 := n0_; have HO_4 := n1_; have HO246 := n2_; have HB := n3_; clear n0_ n1_ n2_ n3_; (try (obtain ⟨hy36_, hz36_⟩ := Kd.R_celln 0 HO_4.out ((ji28) : Int) (of_decide_eq_true (by first | (with_reducible assumption) | assumption)) (of_decide_eq_true (by first | (with_reducible assumption) | assumption)))); (try (have HP36 := Kd.R_putg HO_4.out ((ji28) : Int) 1)))); refine store_event (t := 3) (p := 61) (v := ?vo_w37) (w1 := (w34.setCell ⟨go32, ((ji28) : Int).toNat, none⟩ (.int .i64 1))) ?hg ?ho ?hn ?hr ?_; (case ho => rfl); (case hg => rfl); (case hn => rfl); (case hr => first | (go_simp; done) | (go_simp; rfl)); intro w37 hw; have hg : w34.grownBy w37 (some go32) := (by rw [hw]; exact HP36.2); have hp_ : Kd.R (Kd.int .i64) 48 w37 w.heap.size (fun _ => True) (.slice (some ⟨go32, 0, none⟩) x4_1.length co35) y252 := (by rw [hw, Ny252.out]; exact HP36.1); clear HP36; have n0_ := Aside0.mk (Kd.R_over' (v := (.slice (some ⟨go32, 0, none⟩) x4_1.length co35)) (by (with_reducible repeat (first | apply Kd.R_alloc | apply Kd.R_drewN | apply Kd.R_drew)); exact HO_3.out) (Kd.R_typed HO_4.out) (by decide) hg); have n1_ := Aside0.mk (hp_); have n2_ := Aside0.mk (Kd.R_over' (v := (.slice (some ⟨go32, 0, none⟩) x4_1.length co35)) (by (with_reducible repeat (first | apply Kd.R_alloc | apply Kd.R_drewN | apply Kd.R_drew)); exact HO246.out) (Kd.R_typed HO_4.out) (by decide) hg); have n3_ := Aside0.mk ((by rw [hw]; exact below_set (HB.out) GB32.out : Below w.heap.size w w37)); clear HO_3; clear HO_4; clear HO246; clear HB; have HO_3 := n0_; have HO_4 := n1_; have HO246 := n2_; have HB := n3_; clear n0_ n1_ n2_ n3_; clear hg hw hp_))
              repeat (go_quiet (first | (go_at_call 9; (with_reducible refine (near_Heard.calls kj6 _ _ x3_1 ji28 _ t242 t243 t244 _ ?side1 ?side2 A12.out).mono ?_); (case side1 => repeat (first | exact (Kd.R_reads' HO_3.out).2.2 | (with_reducible refine Kd.C_alloc ?_ _) | (with_reducible refine Kd.C_drewN ?_ _) | (with_reducible refine Kd.C_drew ?_))); (case side2 => exact (Kd.R_reads' HO_3.out).2.1); rintro e w34 ⟨v245, rfl, ho0, hb⟩; have n0_ := Aside0.mk (Kd.R_elder' (by (with_reducible repeat (first | apply Kd.R_alloc | apply Kd.R_drewN | apply Kd.R_drew)); exact HO_3.out) (Kd.R_base ho0) hb); have n1_ := Aside0.mk (Kd.R_below (by (with_reducible repeat (first | apply Kd.R_alloc | apply Kd.R_drewN | apply Kd.R_drew)); exact HO_4.out) hb); have n2_ := Aside0.mk (Kd.R_lower (Kd.R_new' ho0 (Kd.R_lt (by (with_reducible repeat (first | apply Kd.R_alloc | apply Kd.R_drewN | apply Kd.R_drew)); exact HO_3.out))) (below_size (by repeat (first | (with_reducible first | exact HB.out | apply below_alloc | apply pw_below_drewN | apply below_drew1) | exact HB.out)))); have n3_ := Aside0.mk (below_step (by repeat (first | (with_reducible first | exact HB.out | apply below_alloc | apply pw_below_drewN | apply below_drew1) | exact HB.out)) hb); clear HO_3; clear HO_4; clear HB; have HO_3 := n0_; have HO_4 := n1_; have HO246 := n2_; have HB := n3_; clear n0_ n1_ n2_ n3_; (try clear hb); (try clear hb2); (try clear hk); (try clear hi); (try clear ho0)) | (go_at_call 15; (with_reducible refine (watchwordlaw0_Num.calls t244 t250 _ A26.out).mono ?_); rintro e w' ⟨rfl, ⟨nd, rfl⟩⟩; (try first | exact ⟨rfl, _, World.drewN_drewN _ _ _⟩ | exact ⟨rfl, _, Eq.trans (World.drewN_drewN _ _ _) (congrArg (World.drewN _) (Nat.add_assoc _ _ _))⟩); obtain ⟨Ao35, co35, eo35⟩ := Kd.R_slice HO_4.out; subst eo35; have hv_ := HV238.out; injection hv_ with ha_ hnv238_ hc_; have p251 : 0 ≤ ((ji28) : Int) := of_decide_eq_true (by first | (with_reducible assumption) | assumption); have q251 : (ji28) < (x4_1.length : Int) := of_decide_eq_true (by first | (with_reducible assumption) | assumption);have r251_ : ((ji28) < (5 : Int)) = True := eq_true (by have hq_ := q251; omega); obtain ⟨ad251, e251, hx251_0⟩ := Kd.at_int (Kd.R_reads' HO_4.out).2.2 (ji28) p251 q251; cases e251; (try (injection ha_ with ha_; subst ha_)); replace p251 := eq_true p251; replace q251 := eq_true q251; have p32 : 0 ≤ ((ji28) : Int) := of_decide_eq_true (by first | (with_reducible assumption) | assumption); have q32 : ((ji28) : Int) < ((x4_1.length : Int) : Int) := of_decide_eq_true (by first | (with_reducible assumption) | assumption); obtain ⟨go32, co32, eo32, gb32, gl32, cl32, HG32⟩ := Kd.R_form HO_4.out (by omega); (first | cases eo32 | (injection eo32 with ea_ en_ ec_; (first | subst ea_ | (injection ea_ with ea_; subst ea_)); subst ec_; clear en_)); have GB32 := Aside0.mk gb32; have GG32 := Aside0.mk HG32; (try (injection ha_ with ha_; subst ha_)); clear gb32 gl32 HG32; (first | simp only [add_plain] at hx251_0 | skip); obtain ⟨hx32_0, hf32_0⟩ := Kd.R_celln 0 HO_4.out ((ji28) : Int) p32 q32; replace p32 := eq_true p32; replace q32 := eq_true q32; obtain ⟨hy36_, hz36_⟩ := Kd.R_celln 0 HO_4.out ((ji28) : Int) (of_decide_eq_true (by first | (with_reducible assumption) | assumption)) (of_decide_eq_true (by first | (with_reducible assumption) | assumption)); have HP36 := Kd.R_putg HO_4.out ((ji28) : Int) 1) | ((with_reducible refine gate_store (t := 3) (p := 61) rfl ?_); (try (rw [drewN_self w34]; generalize hq_ : World.drewN w34 _ = w34; have n0_ := Aside0.mk (Kd.R_at hq_ HO_3.out); have n1_ := Aside0.mk (Kd.R_at hq_ HO_4.out); have n2_ := Aside0.mk (Kd.R_at hq_ HO246.out); have n3_ := Aside0.mk (below_at hq_ HB.out); clear hq_ HO_3 HO_4 HO246 HB; have HO_3 := n0_; have HO_4 := n1_; have HO246 := n2_; have HB := n3_; clear n0_ n1_ n2_ n3_; (try (obtain ⟨hy36_, hz36_⟩ := Kd.R_celln 0 HO_4.out ((ji28) : Int) (of_decide_eq_true (by first | (with_reducible assumption) | assumption)) (of_decide_eq_true (by first | (with_reducible assumption) | assumption)))); (try (have HP36 := Kd.R_putg HO_4.out ((ji28) : Int) 1)))); refine store_event (t := 3) (p := 61) (v := ?vo_w37) (w1 := (w34.setCell ⟨go32, ((ji28) : Int).toNat, none⟩ (.int .i64 1))) ?hg ?ho ?hn ?hr ?_; (case ho => rfl); (case hg => rfl); (case hn => rfl); (case hr => first | (go_simp; done) | (go_simp; rfl)); intro w37 hw; have hg : w34.grownBy w37 (some go32) := (by rw [hw]; exact HP36.2); have hp_ : Kd.R (Kd.int .i64) 48 w37 w.heap.size (fun _ => True) (.slice (some ⟨go32, 0, none⟩) x4_1.length co35) y252 := (by rw [hw, Ny252.out]; exact HP36.1); clear HP36; have n0_ := Aside0.mk (Kd.R_over' (v := (.slice (some ⟨go32, 0, none⟩) x4_1.length co35)) (by (with_reducible repeat (first | apply Kd.R_alloc | apply Kd.R_drewN | apply Kd.R_drew)); exact HO_3.out) (Kd.R_typed HO_4.out) (by decide) hg); have n1_ := Aside0.mk (hp_); have n2_ := Aside0.mk (Kd.R_over' (v := (.slice (some ⟨go32, 0, none⟩) x4_1.length co35)) (by (with_reducible repeat (first | apply Kd.R_alloc | apply Kd.R_drewN | apply Kd.R_drew)); exact HO246.out) (Kd.R_typed HO_4.out) (by decide) hg); have n3_ := Aside0.mk ((by rw [hw]; exact below_set (HB.out) GB32.out : Below w.heap.size w w37)); clear HO_3; clear HO_4; clear HO246; clear HB; have HO_3 := n0_; have HO_4 := n1_; have HO246 := n2_; have HB := n3_; clear n0_ n1_ n2_ n3_; clear hg hw hp_)); try go_wp2_with (first | (go_at_call 9; (with_reducible refine (near_Heard.calls kj6 _ _ x3_1 ji28 _ t242 t243 t244 _ ?side1 ?side2 A12.out).mono ?_); (case side1 => repeat (first | exact (Kd.R_reads' HO_3.out).2.2 | (with_reducible refine Kd.C_alloc ?_ _) | (with_reducible refine Kd.C_drewN ?_ _) | (with_reducible refine Kd.C_drew ?_))); (case side2 => exact (Kd.R_reads' HO_3.out).2.1); rintro e w34 ⟨v245, rfl, ho0, hb⟩; have n0_ := Aside0.mk (Kd.R_elder' (by (with_reducible repeat (first | apply Kd.R_alloc | apply Kd.R_drewN | apply Kd.R_drew)); exact HO_3.out) (Kd.R_base ho0) hb); have n1_ := Aside0.mk (Kd.R_below (by (with_reducible repeat (first | apply Kd.R_alloc | apply Kd.R_drewN | apply Kd.R_drew)); exact HO_4.out) hb); have n2_ := Aside0.mk (Kd.R_lower (Kd.R_new' ho0 (Kd.R_lt (by (with_reducible repeat (first | apply Kd.R_alloc | apply Kd.R_drewN | apply Kd.R_drew)); exact HO_3.out))) (below_size (by repeat (first | (with_reducible first | exact HB.out | apply below_alloc | apply pw_below_drewN | apply below_drew1) | exact HB.out)))); have n3_ := Aside0.mk (below_step (by repeat (first | (with_reducible first | exact HB.out | apply below_alloc | apply pw_below_drewN | apply below_drew1) | exact HB.out)) hb); clear HO_3; clear HO_4; clear HB; have HO_3 := n0_; have HO_4 := n1_; have HO246 := n2_; have HB := n3_; clear n0_ n1_ n2_ n3_; (try clear hb); (try clear hb2); (try clear hk); (try clear hi); (try clear ho0)) | (go_at_call 15; (with_reducible refine (watchwordlaw0_Num.calls t244 t250 _ A26.out).mono ?_); rintro e w' ⟨rfl, ⟨nd, rfl⟩⟩; (try first | exact ⟨rfl, _, World.drewN_drewN _ _ _⟩ | exact ⟨rfl, _, Eq.trans (World.drewN_drewN _ _ _) (congrArg (World.drewN _) (Nat.add_assoc _ _ _))⟩); obtain ⟨Ao35, co35, eo35⟩ := Kd.R_slice HO_4.out; subst eo35; have hv_ := HV238.out; injection hv_ with ha_ hnv238_ hc_; have p251 : 0 ≤ ((ji28) : Int) := of_decide_eq_true (by first | (with_reducible assumption) | assumption); have q251 : (ji28) < (x4_1.length : Int) := of_decide_eq_true (by first | (with_reducible assumption) | assumption);have r251_ : ((ji28) < (5 : Int)) = True := eq_true (by have hq_ := q251; omega); obtain ⟨ad251, e251, hx251_0⟩ := Kd.at_int (Kd.R_reads' HO_4.out).2.2 (ji28) p251 q251; cases e251; (try (injection ha_ with ha_; subst ha_)); replace p251 := eq_true p251; replace q251 := eq_true q251; have p32 : 0 ≤ ((ji28) : Int) := of_decide_eq_true (by first | (with_reducible assumption) | assumption); have q32 : ((ji28) : Int) < ((x4_1.length : Int) : Int) := of_decide_eq_true (by first | (with_reducible assumption) | assumption); obtain ⟨go32, co32, eo32, gb32, gl32, cl32, HG32⟩ := Kd.R_form HO_4.out (by omega); (first | cases eo32 | (injection eo32 with ea_ en_ ec_; (first | subst ea_ | (injection ea_ with ea_; subst ea_)); subst ec_; clear en_)); have GB32 := Aside0.mk gb32; have GG32 := Aside0.mk HG32; (try (injection ha_ with ha_; subst ha_)); clear gb32 gl32 HG32; (first | simp only [add_plain] at hx251_0 | skip); obtain ⟨hx32_0, hf32_0⟩ := Kd.R_celln 0 HO_4.out ((ji28) : Int) p32 q32; replace p32 := eq_true p32; replace q32 := eq_true q32; obtain ⟨hy36_, hz36_⟩ := Kd.R_celln 0 HO_4.out ((ji28) : Int) (of_decide_eq_true (by first | (with_reducible assumption) | assumption)) (of_decide_eq_true (by first | (with_reducible assumption) | assumption)); have HP36 := Kd.R_putg HO_4.out ((ji28) : Int) 1) | ((with_reducible refine gate_store (t := 3) (p := 61) rfl ?_); (try (rw [drewN_self w34]; generalize hq_ : World.drewN w34 _ = w34; have n0_ := Aside0.mk (Kd.R_at hq_ HO_3.out); have n1_ := Aside0.mk (Kd.R_at hq_ HO_4.out); have n2_ := Aside0.mk (Kd.R_at hq_ HO246.out); have n3_ := Aside0.mk (below_at hq_ HB.out); clear hq_ HO_3 HO_4 HO246 HB; have HO_3 := n0_; have HO_4 := n1_; have HO246 := n2_; have HB := n3_; clear n0_ n1_ n2_ n3_; (try (obtain ⟨hy36_, hz36_⟩ := Kd.R_celln 0 HO_4.out ((ji28) : Int) (of_decide_eq_true (by first | (with_reducible assumption) | assumption)) (of_decide_eq_true (by first | (with_reducible assumption) | assumption)))); (try (have HP36 := Kd.R_putg HO_4.out ((ji28) : Int) 1)))); refine store_event (t := 3) (p := 61) (v := ?vo_w37) (w1 := (w34.setCell ⟨go32, ((ji28) : Int).toNat, none⟩ (.int .i64 1))) ?hg ?ho ?hn ?hr ?_; (case ho => rfl); (case hg => rfl); (case hn => rfl); (case hr => first | (go_simp; done) | (go_simp; rfl)); intro w37 hw; have hg : w34.grownBy w37 (some go32) := (by rw [hw]; exact HP36.2); have hp_ : Kd.R (Kd.int .i64) 48 w37 w.heap.size (fun _ => True) (.slice (some ⟨go32, 0, none⟩) x4_1.length co35) y252 := (by rw [hw, Ny252.out]; exact HP36.1); clear HP36; have n0_ := Aside0.mk (Kd.R_over' (v := (.slice (some ⟨go32, 0, none⟩) x4_1.length co35)) (by (with_reducible repeat (first | apply Kd.R_alloc | apply Kd.R_drewN | apply Kd.R_drew)); exact HO_3.out) (Kd.R_typed HO_4.out) (by decide) hg); have n1_ := Aside0.mk (hp_); have n2_ := Aside0.mk (Kd.R_over' (v := (.slice (some ⟨go32, 0, none⟩) x4_1.length co35)) (by (with_reducible repeat (first | apply Kd.R_alloc | apply Kd.R_drewN | apply Kd.R_drew)); exact HO246.out) (Kd.R_typed HO_4.out) (by decide) hg); have n3_ := Aside0.mk ((by rw [hw]; exact below_set (HB.out) GB32.out : Below w.heap.size w w37)); clear HO_3; clear HO_4; clear HO246; clear HB; have HO_3 := n0_; have HO_4 := n1_; have HO246 := n2_; have HB := n3_; clear n0_ n1_ n2_ n3_; clear hg hw hp_)))
              go_roundg kj6
              case measure => have := HK1.out; have := HJ6.out; omega
              case rel => exact ⟨(t242), (y252), (wrap64 (x5_1 + 1)), (by first | rfl | (simp; done) | (simp [*]; done)), H', ⟨by have := HK1.out; have := HJ6.out; omega⟩, ⟨by (with_reducible repeat (first | apply Kd.R_alloc | apply Kd.R_drewN | apply Kd.R_drew)); exact Kd.R_mono HO246.out (fun _ hk => trivial)⟩, ⟨by (with_reducible repeat (first | apply Kd.R_alloc | apply Kd.R_drewN | apply Kd.R_drew)); exact HO_4.out⟩, ⟨by repeat (first | (with_reducible first | exact HB.out | apply below_alloc | apply pw_below_drewN | apply below_drew1) | exact HB.out)⟩⟩
            ·rw [if_neg c30] at H
             exact absurd H (by simp)
           ·rw [if_neg c29] at H
            exact absurd H (by simp)
          ·rw [if_neg c27] at H
           have c27b0 : (t250 == 0) = false := beq_eq_false_iff_ne.mpr c27
           have c27b1 : (t250 != 0) = true := bne_iff_ne.mpr c27
           exact absurd (Option.some.inj H) (by rw [HT.out]; decide)
        ·rw [if_neg c11] at H
         exact absurd H (by simp)
       ·rw [if_neg c10] at H
        exact absurd H (by simp)
      ·replace c9 := Bool.eq_false_iff.mpr c9
       subst c9
       have H1 : (watchwordlaw19_NearRow.l1 kj6 x3_1 x4_1 0 1) = some r := by rw [if_neg (show ¬ (false = true) by decide)] at H; exact H
       clear H
       have H := H1
       clear H1
       have H' := Aside0.mk H
       clear H
       go_wp2
       repeat (go_quiet (fail); try go_wp2)
       go_loopg [12, 13] kj6 (fun kq v12 v13 w' => ∃ (x12_3 : Int) (x13_3 : Int), v12 = .int .i64 x12_3 ∧ v13 = .int .i64 x13_3 ∧ Aside0 (watchwordlaw19_NearRow.l1 kq x3_1 x4_1 x12_3 x13_3 = some r) ∧ Aside0 (kq ≤ kj6) ∧ Aside0 (Kd.R k46 46 w' w.heap.size (fun _ => True) u3 x3_1) ∧ Aside0 (Kd.R (Kd.int .i64) 48 w' w.heap.size (fun _ => True) v238 x4_1) ∧ Aside0 (Below w.heap.size w w'))
       case atStart => exact ⟨(0), (1), (by first | rfl | (simp; done) | (simp [*]; done)), (by first | rfl | (simp; done) | (simp [*]; done)), H', ⟨Nat.le_refl _⟩, ⟨by (with_reducible repeat (first | apply Kd.R_alloc | apply Kd.R_drewN | apply Kd.R_drew)); exact HO_3.out⟩, ⟨by (with_reducible repeat (first | apply Kd.R_alloc | apply Kd.R_drewN | apply Kd.R_drew)); exact HO_4.out⟩, ⟨by repeat (first | (with_reducible first | exact HB.out | apply below_alloc | apply pw_below_drewN | apply below_drew1) | exact HB.out)⟩⟩
       case round =>
        clear H'
        try clear c1
        try clear c2
        try clear p2
        try clear q2
        try clear hx2
        try clear hf2
        try clear c3
        try clear p3
        try clear q3
        try clear hx3
        try clear hf3
        try clear p6
        try clear c7
        try clear c8
        try clear c8b0
        try clear c9
        try clear c10
        try clear c10b0
        try clear c11
        try clear c11b0
        try clear c13
        try clear c13b0
        try clear c13b1
        try clear c15
        try clear c15b0
        try clear c15b1
        try clear c17
        try clear c17b0
        try clear c18
        try clear c18b0
        try clear c19
        try clear c19b0
        try clear c19b1
        try clear c19b2
        try clear p20
        try clear q20
        try clear hx20
        try clear hf20
        try clear p24
        try clear q24
        try clear hx24
        try clear p25
        try clear q25
        try clear hx25
        try clear c27
        try clear c27b0
        try clear c27b1
        try clear c29
        try clear c29b0
        try clear c30
        try clear c30b0
        try clear c31
        try clear c31b0
        try clear c31b1
        try clear c31b2
        try clear p32
        try clear q32
        try clear hx32
        try clear hf32
        try clear hx20_0
        try clear hx240_0
        try clear hx241_0
        try clear hx248_0
        try clear hx251_0
        try clear hx32_0
        try clear p2
        try clear p20
        try clear p240
        try clear p241
        try clear p248
        try clear p251
        try clear p32
        try clear q20
        try clear q240
        try clear q241
        try clear q248
        try clear q251
        try clear q32
        obtain ⟨x12_3, x13_3, rfl, rfl, HA, HK3, HO_3, HO_4, HB⟩ := hrel
        cases gk with
        | zero => exact absurd HA.out (by simp [watchwordlaw19_NearRow.l1])
        | succ k3 =>
         have H := HA.out
         clear HA
         simp only [watchwordlaw19_NearRow.l1] at H
         by_cases c38 : x13_3 ≤ 4
         ·rw [if_pos c38] at H
          have c38b0 : decide (x13_3 ≤ 4) = true := decide_eq_true c38
          clear c38
          by_cases c39 : 0 ≤ x13_3
          ·rw [if_pos c39] at H
           have c39b0 : decide (0 ≤ x13_3) = true := decide_eq_true c39
           clear c39
           by_cases c40 : x13_3 < (x4_1.length : Int)
           ·rw [if_pos c40] at H
            have c40b0 : decide (x13_3 < (x4_1.length : Int)) = true := decide_eq_true c40
            clear c40
            by_cases c41 : (rd x4_1 x13_3) = 0
            ·rw [if_pos c41] at H
             have c41b0 : ((rd x4_1 x13_3) == 0) = true := beq_iff_eq.mpr c41
             have c41b1 : ((rd x4_1 x13_3) != 0) = false := bne_eq_false_iff_eq.mpr c41
             clear c41
             have H' := Aside0.mk H
             clear H
             obtain ⟨Ao42, co42, eo42⟩ := Kd.R_slice HO_4.out
             subst eo42; have hv_ := HV238.out; injection hv_ with ha_ hnv238_ hc_
             have p254 : 0 ≤ (x13_3 : Int) := of_decide_eq_true (by first | (with_reducible assumption) | assumption)
             have q254 : x13_3 < (x4_1.length : Int) := of_decide_eq_true (by first | (with_reducible assumption) | assumption)
             have r254_ : (x13_3 < (5 : Int)) = True := eq_true (by have hq_ := q254; omega)
             obtain ⟨ad254, e254, hx254_0⟩ := Kd.at_int (Kd.R_reads' HO_4.out).2.2 x13_3 p254 q254
             cases e254; (try (injection ha_ with ha_; subst ha_))
             replace p254 := eq_true p254
             replace q254 := eq_true q254
             go_wp2
             repeat (go_quiet (fail); try go_wp2)
             go_roundg k3
             case measure => have := HK1.out; have := HJ6.out; have := HK3.out; omega
             case rel => exact ⟨(x12_3), (wrap64 (x13_3 + 1)), (by first | rfl | (simp; done) | (simp [*]; done)), (by first | rfl | (simp; done) | (simp [*]; done)), H', ⟨by have := HK1.out; have := HJ6.out; have := HK3.out; omega⟩, ⟨by (with_reducible repeat (first | apply Kd.R_alloc | apply Kd.R_drewN | apply Kd.R_drew)); exact HO_3.out⟩, ⟨by (with_reducible repeat (first | apply Kd.R_alloc | apply Kd.R_drewN | apply Kd.R_drew)); exact HO_4.out⟩, ⟨by repeat (first | (with_reducible first | exact HB.out | apply below_alloc | apply pw_below_drewN | apply below_drew1) | exact HB.out)⟩⟩
            ·rw [if_neg c41] at H
             have c41b0 : ((rd x4_1 x13_3) == 0) = false := beq_eq_false_iff_ne.mpr c41
             have c41b1 : ((rd x4_1 x13_3) != 0) = true := bne_iff_ne.mpr c41
             by_cases c43 : x12_3 ≥ (x3_1.length : Int)
             ·rw [if_pos c43] at H
              have c43b0 : decide ((x3_1.length : Int) ≤ x12_3) = true := decide_eq_true c43
              clear c43
              exact absurd (Option.some.inj H) (by rw [HT.out]; decide)
             ·rw [if_neg c43] at H
              have c43b0 : decide ((x3_1.length : Int) ≤ x12_3) = false := decide_eq_false c43
              clear c43
              by_cases c44 : 0 ≤ x12_3
              ·rw [if_pos c44] at H
               have c44b0 : decide (0 ≤ x12_3) = true := decide_eq_true c44
               clear c44
               by_cases c45 : x12_3 < (x3_1.length : Int)
               ·rw [if_pos c45] at H
                have c45b0 : decide (x12_3 < (x3_1.length : Int)) = true := decide_eq_true c45
                clear c45
                by_cases c46 : ((rd_T46 x3_1 x12_3).f0) = x13_3
                ·rw [if_pos c46] at H
                 have c46b0 : (((rd_T46 x3_1 x12_3).f0) == x13_3) = true := beq_iff_eq.mpr c46
                 have c46b1 : (((rd_T46 x3_1 x12_3).f0) != x13_3) = false := bne_eq_false_iff_eq.mpr c46
                 clear c46
                 by_cases c47 : ((rd_T46 x3_1 x12_3).f1) = (rd x4_1 x13_3)
                 ·rw [if_pos c47] at H
                  have c47b0 : (((rd_T46 x3_1 x12_3).f1) == (rd x4_1 x13_3)) = true := beq_iff_eq.mpr c47
                  have c47b1 : (((rd_T46 x3_1 x12_3).f1) != (rd x4_1 x13_3)) = false := bne_eq_false_iff_eq.mpr c47
                  clear c47
                  have H' := Aside0.mk H
                  clear H
                  obtain ⟨Ao48, co48, eo48⟩ := Kd.R_slice HO_4.out
                  subst eo48; have hv_ := HV238.out; injection hv_ with ha_ hnv238_ hc_
                  have p254 : 0 ≤ (x13_3 : Int) := of_decide_eq_true (by first | (with_reducible assumption) | assumption)
                  have q254 : x13_3 < (x4_1.length : Int) := of_decide_eq_true (by first | (with_reducible assumption) | assumption)
                  have r254_ : (x13_3 < (5 : Int)) = True := eq_true (by have hq_ := q254; omega)
                  obtain ⟨ad254, e254, hx254_0⟩ := Kd.at_int (Kd.R_reads' HO_4.out).2.2 x13_3 p254 q254
                  cases e254; (try (injection ha_ with ha_; subst ha_))
                  replace p254 := eq_true p254
                  replace q254 := eq_true q254
                  obtain ⟨Ao49, co49, eo49⟩ := Kd.R_slice HO_3.out
                  subst eo49
                  have p255 : 0 ≤ (x12_3 : Int) := of_decide_eq_true (by first | (with_reducible assumption) | assumption)
                  have q255 : x12_3 < (x3_1.length : Int) := of_decide_eq_true (by first | (with_reducible assumption) | assumption)
                  obtain ⟨ad255, e255, hx255_0, hx255_1, hx255_2⟩ := at_T46 (Kd.R_reads' HO_3.out).2.2 x12_3 p255 q255
                  cases e255; (try (injection ha_ with ha_; subst ha_))
                  replace p255 := eq_true p255
                  replace q255 := eq_true q255
                  have p256 : 0 ≤ (x12_3 : Int) := of_decide_eq_true (by first | (with_reducible assumption) | assumption)
                  have q256 : x12_3 < (x3_1.length : Int) := of_decide_eq_true (by first | (with_reducible assumption) | assumption)
                  obtain ⟨ad256, e256, hx256_0, hx256_1, hx256_2⟩ := at_T46 (Kd.R_reads' HO_3.out).2.2 x12_3 p256 q256
                  obtain rfl : ad255 = ad256 := (by injection e256)
                  replace p256 := eq_true p256
                  replace q256 := eq_true q256
                  have p257 : 0 ≤ (x13_3 : Int) := of_decide_eq_true (by first | (with_reducible assumption) | assumption)
                  have q257 : x13_3 < (x4_1.length : Int) := of_decide_eq_true (by first | (with_reducible assumption) | assumption)
                  have r257_ : (x13_3 < (5 : Int)) = True := eq_true (by have hq_ := q257; omega)
                  obtain ⟨ad257, e257, hx257_0⟩ := Kd.at_int (Kd.R_reads' HO_4.out).2.2 x13_3 p257 q257
                  obtain rfl : ad254 = ad257 := (by injection e257)
                  replace p257 := eq_true p257
                  replace q257 := eq_true q257
                  go_wp2
                  repeat (go_quiet (fail); try go_wp2)
                  go_roundg k3
                  case measure => have := HK1.out; have := HJ6.out; have := HK3.out; omega
                  case rel => exact ⟨(wrap64 (x12_3 + 1)), (wrap64 (x13_3 + 1)), (by first | rfl | (simp; done) | (simp [*]; done)), (by first | rfl | (simp; done) | (simp [*]; done)), H', ⟨by have := HK1.out; have := HJ6.out; have := HK3.out; omega⟩, ⟨by (with_reducible repeat (first | apply Kd.R_alloc | apply Kd.R_drewN | apply Kd.R_drew)); exact HO_3.out⟩, ⟨by (with_reducible repeat (first | apply Kd.R_alloc | apply Kd.R_drewN | apply Kd.R_drew)); exact HO_4.out⟩, ⟨by repeat (first | (with_reducible first | exact HB.out | apply below_alloc | apply pw_below_drewN | apply below_drew1) | exact HB.out)⟩⟩
                 ·rw [if_neg c47] at H
                  have c47b0 : (((rd_T46 x3_1 x12_3).f1) == (rd x4_1 x13_3)) = false := beq_eq_false_iff_ne.mpr c47
                  have c47b1 : (((rd_T46 x3_1 x12_3).f1) != (rd x4_1 x13_3)) = true := bne_iff_ne.mpr c47
                  exact absurd (Option.some.inj H) (by rw [HT.out]; decide)
                ·rw [if_neg c46] at H
                 have c46b0 : (((rd_T46 x3_1 x12_3).f0) == x13_3) = false := beq_eq_false_iff_ne.mpr c46
                 have c46b1 : (((rd_T46 x3_1 x12_3).f0) != x13_3) = true := bne_iff_ne.mpr c46
                 exact absurd (Option.some.inj H) (by rw [HT.out]; decide)
               ·rw [if_neg c45] at H
                exact absurd H (by simp)
              ·rw [if_neg c44] at H
               exact absurd H (by simp)
           ·rw [if_neg c40] at H
            exact absurd H (by simp)
          ·rw [if_neg c39] at H
           exact absurd H (by simp)
         ·rw [if_neg c38] at H
          have c38b0 : decide (x13_3 ≤ 4) = false := decide_eq_false c38
          clear c38
          by_cases c50 : x12_3 = (x3_1.length : Int)
          ·rw [if_pos c50] at H
           have c50b0 : (x12_3 == (x3_1.length : Int)) = true := beq_iff_eq.mpr c50
           have c50b1 : (x12_3 != (x3_1.length : Int)) = false := bne_eq_false_iff_eq.mpr c50
           clear c50
           replace H := Option.bind_eq_some_iff.mp H
           obtain ⟨t253, A510, H⟩ := H
           replace H : (some t253) = some r := H
           have A51 := Aside0.mk A510
           clear A510
           obtain rfl := Option.some.inj H
           obtain ⟨Ao52, co52, eo52⟩ := Kd.R_slice HO_3.out
           subst eo52
           go_wp2_with (first | (go_at_call 18; (with_reducible refine (near_May.calls k3 _ _ x3_1 t253 _ ?side1 ?side2 A51.out).mono ?_); (case side1 => repeat (first | exact (Kd.R_reads' HO_3.out).2.2 | (with_reducible refine Kd.C_alloc ?_ _) | (with_reducible refine Kd.C_drewN ?_ _) | (with_reducible refine Kd.C_drew ?_))); (case side2 => exact (Kd.R_reads' HO_3.out).2.1); rintro e w53 ⟨rfl, hb⟩; have n0_ := Aside0.mk (Kd.R_below (by (with_reducible repeat (first | apply Kd.R_alloc | apply Kd.R_drewN | apply Kd.R_drew)); exact HO_3.out) hb); have n1_ := Aside0.mk (Kd.R_below (by (with_reducible repeat (first | apply Kd.R_alloc | apply Kd.R_drewN | apply Kd.R_drew)); exact HO_4.out) hb); have n2_ := Aside0.mk (below_step (by repeat (first | (with_reducible first | exact HB.out | apply below_alloc | apply pw_below_drewN | apply below_drew1) | exact HB.out)) hb); clear HO_3; clear HO_4; clear HB; have HO_3 := n0_; have HO_4 := n1_; have HB := n2_; clear n0_ n1_ n2_; (try clear hb); (try clear hb2); (try clear hk); (try clear hi)))
           repeat (go_quiet (first | (go_at_call 18; (with_reducible refine (near_May.calls k3 _ _ x3_1 t253 _ ?side1 ?side2 A51.out).mono ?_); (case side1 => repeat (first | exact (Kd.R_reads' HO_3.out).2.2 | (with_reducible refine Kd.C_alloc ?_ _) | (with_reducible refine Kd.C_drewN ?_ _) | (with_reducible refine Kd.C_drew ?_))); (case side2 => exact (Kd.R_reads' HO_3.out).2.1); rintro e w53 ⟨rfl, hb⟩; have n0_ := Aside0.mk (Kd.R_below (by (with_reducible repeat (first | apply Kd.R_alloc | apply Kd.R_drewN | apply Kd.R_drew)); exact HO_3.out) hb); have n1_ := Aside0.mk (Kd.R_below (by (with_reducible repeat (first | apply Kd.R_alloc | apply Kd.R_drewN | apply Kd.R_drew)); exact HO_4.out) hb); have n2_ := Aside0.mk (below_step (by repeat (first | (with_reducible first | exact HB.out | apply below_alloc | apply pw_below_drewN | apply below_drew1) | exact HB.out)) hb); clear HO_3; clear HO_4; clear HB; have HO_3 := n0_; have HO_4 := n1_; have HB := n2_; clear n0_ n1_ n2_; (try clear hb); (try clear hb2); (try clear hk); (try clear hi))); try go_wp2_with (first | (go_at_call 18; (with_reducible refine (near_May.calls k3 _ _ x3_1 t253 _ ?side1 ?side2 A51.out).mono ?_); (case side1 => repeat (first | exact (Kd.R_reads' HO_3.out).2.2 | (with_reducible refine Kd.C_alloc ?_ _) | (with_reducible refine Kd.C_drewN ?_ _) | (with_reducible refine Kd.C_drew ?_))); (case side2 => exact (Kd.R_reads' HO_3.out).2.1); rintro e w53 ⟨rfl, hb⟩; have n0_ := Aside0.mk (Kd.R_below (by (with_reducible repeat (first | apply Kd.R_alloc | apply Kd.R_drewN | apply Kd.R_drew)); exact HO_3.out) hb); have n1_ := Aside0.mk (Kd.R_below (by (with_reducible repeat (first | apply Kd.R_alloc | apply Kd.R_drewN | apply Kd.R_drew)); exact HO_4.out) hb); have n2_ := Aside0.mk (below_step (by repeat (first | (with_reducible first | exact HB.out | apply below_alloc | apply pw_below_drewN | apply below_drew1) | exact HB.out)) hb); clear HO_3; clear HO_4; clear HB; have HO_3 := n0_; have HO_4 := n1_; have HB := n2_; clear n0_ n1_ n2_; (try clear hb); (try clear hb2); (try clear hk); (try clear hi))))
           go_ret
           exact ⟨by first | rfl | (simp [errW_none, errW_some] <;> rfl) | (simp [*, errW_none, errW_some] <;> rfl), by repeat (first | (with_reducible first | exact HB.out | apply below_alloc | apply pw_below_drewN | apply below_drew1) | exact HB.out)⟩
          ·rw [if_neg c50] at H
           have c50b0 : (x12_3 == (x3_1.length : Int)) = false := beq_eq_false_iff_ne.mpr c50
           have c50b1 : (x12_3 != (x3_1.length : Int)) = true := bne_iff_ne.mpr c50
           exact absurd (Option.some.inj H) (by rw [HT.out]; decide)
 ·replace c3 := Bool.eq_false_iff.mpr c3
  subst c3
  have H1 : (some false) = some r := by rw [if_neg (show ¬ (false = true) by decide)] at H; exact H
  clear H
  have H := H1
  clear H1
  exact absurd (Option.some.inj H) (by rw [HT.out]; decide)

/-- THE ONE PURE STATEMENT of watchwordlaw19_NearRow: yours. -/
def watchwordlaw19_NearRow.Pure : Prop := ∀ (l0 : List Int), l0.length ≤ maxLen → l0.length * 8 ≤ 140737488351232 → (∀ x ∈ l0, (Lit.int .i64 x).wf = true) → ∃ k, watchwordlaw19_NearRow.f k l0 = some true
theorem watchwordlaw19_NearRow.walk (P : watchwordlaw19_NearRow.Pure) (a0 : Option Addr) (len0 cap0 : Nat) (z0 : List Int) (w : World) (w0 : (a0 = none ∧ len0 = 0 ∧ cap0 = 0 ∧ z0 = []) ∨ ∃ x, a0 = some x ∧ len0 ≤ cap0 ∧ cap0 ≤ maxLen ∧ z0.length = cap0 ∧ (∀ i, i < z0.length → w.cell? (x.add i) = some (.int .i64 (z0.getD i 0))) ∧ ∀ n ∈ z0, (Lit.int .i64 n).wf = true) (y0 : len0 * 8 ≤ 140737488351232) :
  Calls Try.prog 7 #[.slice a0 len0 cap0] w fun e w' => e = .returned (.bool true) ∧ Below w.heap.size w w' := by
 obtain ⟨l0, rfl, hr0, hm0, hw0, hc0⟩ := ReadsInt.ofRowC w0
 obtain ⟨k, h⟩ := P l0 hm0 y0 hw0
 refine (watchwordlaw19_NearRow.calls k _ _ l0 true w (Kd.C_of_reads (d := (0 : Int)) (h1 := fun _ => rfl) hr0) hc0 h rfl).mono ?_
 rintro e w' ⟨rfl, hd⟩
 exact ⟨rfl, hd⟩

end Go.Proofs.Ytnfoldgialdhjaa.Q19
