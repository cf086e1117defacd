/- Written by a program of this session (out of what the print wrote for this seat): the functions' walks, packed. -/
import Derived.Test.YtabjambabnbmnaaZ14x1
namespace Go.Proofs.Ytabjambabnbmnaa.Q14
open Go.RowKit Go.Proofs.YtabjambabnbmnaaW.PrintWords Go.Proofs.YtabjambabnbmnaaW.PrintLast Go.Proofs.YtabjambabnbmnaaW.PrintMore
attribute [local go_sem] max2_int min2_int max_two min_two max_three min_three max_four min_four   -- for this text's walks alone
set_option linter.unusedVariables false
set_option linter.unusedSimpArgs false

attribute [local go_sem high] eqA24
/-! ### watchwordref9_WithLast: function 17 -/
mutual
def watchwordref9_WithLast.j0 : Nat → List (S24) → Bool → Int → Int → Int → Int → Option ((List (S24)) × Int)
 | 0, _, _, _, _, _, _ => none
 | k + 1, x0, x18, x200000, x200001, x200002, x200003 => if x18 = true then (some (([] : List (S24)), 1400)) else (watchwordref9_WithLast.l0 k x0 ([] : List (S24)) false 0 x200000 x200001 x200002 x200003)
def watchwordref9_WithLast.l0 : Nat → List (S24) → List (S24) → Bool → Int → Int → Int → Int → Int → Option ((List (S24)) × Int)
 | 0, _, _, _, _, _, _, _, _ => none
 | k + 1, x0, x6, x7, x8, x200000, x200001, x200002, x200003 => if x8 < (x0.length : Int) then (if 0 ≤ x8 then (if x7 = true then (watchwordref9_WithLast.j2 k x0 x6 x7 x8 (wrap64 ((wrap64 (8 * ((rd_T24 x0 x8).f0))) + ((rd_T24 x0 x8).f1))) (wrap64 ((wrap64 (8 * x200000)) + x200001)) false x200000 x200001 x200002 x200003) else (watchwordref9_WithLast.j2 k x0 x6 x7 x8 (wrap64 ((wrap64 (8 * ((rd_T24 x0 x8).f0))) + ((rd_T24 x0 x8).f1))) (wrap64 ((wrap64 (8 * x200000)) + x200001)) (decide ((wrap64 ((wrap64 (8 * ((rd_T24 x0 x8).f0))) + ((rd_T24 x0 x8).f1))) ≥ (wrap64 ((wrap64 (8 * x200000)) + x200001)))) x200000 x200001 x200002 x200003)) else (none)) else (if x7 = true then (some (x6, 0)) else (if x6.length < 4398046511104 then (some ((x6 ++ [(⟨x200000, x200001, x200002, x200003⟩ : S24)]), 0)) else (none)))
def watchwordref9_WithLast.j2 : Nat → List (S24) → List (S24) → Bool → Int → Int → Int → Bool → Int → Int → Int → Int → Option ((List (S24)) × Int)
 | 0, _, _, _, _, _, _, _, _, _, _, _ => none
 | k + 1, x0, x6, x7, x8, x9, x10, x49, x200000, x200001, x200002, x200003 => if x49 = true then (if x6.length < 4398046511104 then ((some (x6 ++ [(⟨x200000, x200001, x200002, x200003⟩ : S24)] : List (S24))).bind fun y207 => (if x9 = x10 then (watchwordref9_WithLast.l0 k x0 y207 true (wrap64 (x8 + 1)) x200000 x200001 x200002 x200003) else (if 0 ≤ x8 then (if x8 < (x0.length : Int) then (if y207.length < 4398046511104 then (watchwordref9_WithLast.l0 k x0 (y207 ++ [(⟨(rd_T24 x0 x8).f0, (rd_T24 x0 x8).f1, (rd_T24 x0 x8).f2, (rd_T24 x0 x8).f3⟩ : S24)]) true (wrap64 (x8 + 1)) x200000 x200001 x200002 x200003) else (none)) else (none)) else (none)))) else (none)) else (if x9 = x10 then (watchwordref9_WithLast.l0 k x0 x6 x7 (wrap64 (x8 + 1)) x200000 x200001 x200002 x200003) else (if 0 ≤ x8 then (if x8 < (x0.length : Int) then (if x6.length < 4398046511104 then (watchwordref9_WithLast.l0 k x0 (x6 ++ [(⟨(rd_T24 x0 x8).f0, (rd_T24 x0 x8).f1, (rd_T24 x0 x8).f2, (rd_T24 x0 x8).f3⟩ : S24)]) x7 (wrap64 (x8 + 1)) x200000 x200001 x200002 x200003) else (none)) else (none)) else (none)))
end
def watchwordref9_WithLast.f (k : Nat) (l0 : List (S24)) (a1_0 : Int) (a1_1 : Int) (a1_2 : Int) (a1_3 : Int) : Option ((List (S24)) × Int) := (watchwordref9_LastsMay.f k l0).bind fun t200 => (if t200 = true then ((watchwordref9_LastMay.f a1_0 a1_1 a1_2 a1_3).bind fun t201 => (watchwordref9_WithLast.j0 k l0 (!t201) a1_0 a1_1 a1_2 a1_3)) else (watchwordref9_WithLast.j0 k l0 true a1_0 a1_1 a1_2 a1_3))
theorem watchwordref9_WithLast.mono_l : ∀ k, (∀ y0 y1 y2 y3 y4 y5, LeO (watchwordref9_WithLast.j0 k y0 y1 y2 y3 y4 y5) (watchwordref9_WithLast.j0 (k + 1) y0 y1 y2 y3 y4 y5)) ∧ (∀ y0 y1 y2 y3 y4 y5 y6 y7, LeO (watchwordref9_WithLast.l0 k y0 y1 y2 y3 y4 y5 y6 y7) (watchwordref9_WithLast.l0 (k + 1) y0 y1 y2 y3 y4 y5 y6 y7)) ∧ (∀ y0 y1 y2 y3 y4 y5 y6 y7 y8 y9 y10, LeO (watchwordref9_WithLast.j2 k y0 y1 y2 y3 y4 y5 y6 y7 y8 y9 y10) (watchwordref9_WithLast.j2 (k + 1) y0 y1 y2 y3 y4 y5 y6 y7 y8 y9 y10))
 | 0 => ⟨fun _ _ _ _ _ _ r h => by simp [watchwordref9_WithLast.j0] at h, fun _ _ _ _ _ _ _ _ r h => by simp [watchwordref9_WithLast.l0] at h, fun _ _ _ _ _ _ _ _ _ _ _ r h => by simp [watchwordref9_WithLast.j2] at h⟩
 | k + 1 => by
  obtain ⟨ih0, ih1, ih2⟩ := watchwordref9_WithLast.mono_l k
  refine ⟨?_, ?_, ?_⟩
  ·intro y0 y1 y2 y3 y4 y5
   unfold watchwordref9_WithLast.j0
   repeat' first
   | (with_reducible exact ih0 _ _ _ _ _ _)
   | (with_reducible exact ih1 _ _ _ _ _ _ _ _)
   | (with_reducible exact ih2 _ _ _ _ _ _ _ _ _ _ _)
   | (with_reducible exact watchwordref9_LastsMay.mono _ _)
   | (with_reducible exact LeO.refl _)
   | (with_reducible exact LeO.none _)
   | (with_reducible refine LeO.ite ?_ ?_)
   | (with_reducible refine LeO.bind ?_ (fun _ => ?_))
   | exact ih0 _ _ _ _ _ _
   | exact ih1 _ _ _ _ _ _ _ _
   | exact ih2 _ _ _ _ _ _ _ _ _ _ _
   | exact watchwordref9_LastsMay.mono _ _
   | exact LeO.none _
   | refine LeO.ite ?_ ?_
   | refine LeO.bind ?_ (fun _ => ?_)
  ·intro y0 y1 y2 y3 y4 y5 y6 y7
   unfold watchwordref9_WithLast.l0
   repeat' first
   | (with_reducible exact ih0 _ _ _ _ _ _)
   | (with_reducible exact ih1 _ _ _ _ _ _ _ _)
   | (with_reducible exact ih2 _ _ _ _ _ _ _ _ _ _ _)
   | (with_reducible exact watchwordref9_LastsMay.mono _ _)
   | (with_reducible exact LeO.refl _)
   | (with_reducible exact LeO.none _)
   | (with_reducible refine LeO.ite ?_ ?_)
   | (with_reducible refine LeO.bind ?_ (fun _ => ?_))
   | exact ih0 _ _ _ _ _ _
   | exact ih1 _ _ _ _ _ _ _ _
   | exact ih2 _ _ _ _ _ _ _ _ _ _ _
   | exact watchwordref9_LastsMay.mono _ _
   | exact LeO.none _
   | refine LeO.ite ?_ ?_
   | refine LeO.bind ?_ (fun _ => ?_)
  ·intro y0 y1 y2 y3 y4 y5 y6 y7 y8 y9 y10
   unfold watchwordref9_WithLast.j2
   repeat' first
   | (with_reducible exact ih0 _ _ _ _ _ _)
   | (with_reducible exact ih1 _ _ _ _ _ _ _ _)
   | (with_reducible exact ih2 _ _ _ _ _ _ _ _ _ _ _)
   | (with_reducible exact watchwordref9_LastsMay.mono _ _)
   | (with_reducible exact LeO.refl _)
   | (with_reducible exact LeO.none _)
   | (with_reducible refine LeO.ite ?_ ?_)
   | (with_reducible refine LeO.bind ?_ (fun _ => ?_))
   | exact ih0 _ _ _ _ _ _
   | exact ih1 _ _ _ _ _ _ _ _
   | exact ih2 _ _ _ _ _ _ _ _ _ _ _
   | exact watchwordref9_LastsMay.mono _ _
   | exact LeO.none _
   | refine LeO.ite ?_ ?_
   | refine LeO.bind ?_ (fun _ => ?_)
theorem watchwordref9_WithLast.mono : ∀ a0 a1 a2 a3 a4 k, LeO (watchwordref9_WithLast.f k a0 a1 a2 a3 a4) (watchwordref9_WithLast.f (k + 1) a0 a1 a2 a3 a4) := by
 intro a0 a1 a2 a3 a4 k
 obtain ⟨ih0, ih1, ih2⟩ := watchwordref9_WithLast.mono_l k
 unfold watchwordref9_WithLast.f
 repeat' first
   | (with_reducible exact ih0 _ _ _ _ _ _)
   | (with_reducible exact ih1 _ _ _ _ _ _ _ _)
   | (with_reducible exact ih2 _ _ _ _ _ _ _ _ _ _ _)
   | (with_reducible exact watchwordref9_LastsMay.mono _ _)
   | (with_reducible exact LeO.refl _)
   | (with_reducible exact LeO.none _)
   | (with_reducible refine LeO.ite ?_ ?_)
   | (with_reducible refine LeO.bind ?_ (fun _ => ?_))
   | exact ih0 _ _ _ _ _ _
   | exact ih1 _ _ _ _ _ _ _ _
   | exact ih2 _ _ _ _ _ _ _ _ _ _ _
   | exact watchwordref9_LastsMay.mono _ _
   | exact LeO.none _
   | refine LeO.ite ?_ ?_
   | refine LeO.bind ?_ (fun _ => ?_)
set_option maxHeartbeats 8000000 in
set_option maxRecDepth 100000 in
theorem watchwordref9_WithLast.calls (k : Nat) (A0 : Option Addr) (c0 : Nat) (l0 : List (S24)) (a1_0 : Int) (a1_1 : Int) (a1_2 : Int) (a1_3 : Int) (r1 : List (S24)) (r2 : Int) (w : World) (hr0 : Kd.C k24 w A0 l0.length l0) (hc0 : l0.length ≤ c0) (h : watchwordref9_WithLast.f k l0 a1_0 a1_1 a1_2 a1_3 = some (r1, r2)) :
  Calls Try.prog 17 #[.slice A0 l0.length c0, .agg #[.int .i64 a1_0, .int .i64 a1_1, .int .i64 a1_2, .int .i64 a1_3]] w fun e w' => ∃ v0_ : Value, e = .returned (.tuple #[v0_, .int .i64 r2]) ∧ Kd.R k24 24 w' w.heap.size (fun _ => True) v0_ r1 ∧ Below w.heap.size w w' := by
 have hu24 := Try.underlying24
 have HR0 := Aside0.mk hr0
 have HC0 := Aside0.mk hc0
 clear hr0 hc0
 have HB := Aside0.mk (Below.refl w.heap.size w)
 have H : ((watchwordref9_LastsMay.f k l0).bind fun t200 => (if t200 = true then ((watchwordref9_LastMay.f a1_0 a1_1 a1_2 a1_3).bind fun t201 => (watchwordref9_WithLast.j0 k l0 (!t201) a1_0 a1_1 a1_2 a1_3)) else (watchwordref9_WithLast.j0 k l0 true a1_0 a1_1 a1_2 a1_3))) = some (r1, r2) := h
 clear h
 have HC3 := Aside0.mk H
 clear H
 go_enter Try.func17, Try.ntmps17
 go_upto_region 1 with (first | ((with_reducible refine gate_dst (N := 3) rfl ?_); refine box_event ?hg (N := 3) ?hd (cs := #[.int .i64 a1_0, .int .i64 a1_1, .int .i64 a1_2, .int .i64 a1_3]) (t := 24) ?hr ?_; (case hd => rfl); (case hg => rfl); (case hr => first | (go_simp; done) | (go_simp; rfl)); intro gb199 hg w4 hbox hb; have n0_ := Aside0.mk (below_step (by repeat (first | (with_reducible first | exact HB.out | apply below_alloc | apply pw_below_drewN | apply below_drew1) | exact HB.out)) hb); have n1_ := Aside0.mk (hbox); have n2_ := Aside0.mk ((by rw [hg]; exact (below_size (by repeat (first | (with_reducible first | exact HB.out | apply below_alloc | apply pw_below_drewN | apply below_drew1) | exact HB.out))) : w.heap.size ≤ gb199)); have n3_ := Aside0.mk ((by rw [hg]; exact (below_size (by repeat (first | (with_reducible first | exact HB.out | apply below_alloc | apply pw_below_drewN | apply below_drew1) | exact HB.out))) : w.heap.size ≤ gb199)); clear HB; have HB := n0_; have BK199 := n1_; have GW199 := n2_; have GE199 := n3_; clear n0_ n1_ n2_ n3_; clear hb hbox hg))
 repeat (go_quiet (first | ((with_reducible refine gate_dst (N := 3) rfl ?_); refine box_event ?hg (N := 3) ?hd (cs := #[.int .i64 a1_0, .int .i64 a1_1, .int .i64 a1_2, .int .i64 a1_3]) (t := 24) ?hr ?_; (case hd => rfl); (case hg => rfl); (case hr => first | (go_simp; done) | (go_simp; rfl)); intro gb199 hg w4 hbox hb; have n0_ := Aside0.mk (below_step (by repeat (first | (with_reducible first | exact HB.out | apply below_alloc | apply pw_below_drewN | apply below_drew1) | exact HB.out)) hb); have n1_ := Aside0.mk (hbox); have n2_ := Aside0.mk ((by rw [hg]; exact (below_size (by repeat (first | (with_reducible first | exact HB.out | apply below_alloc | apply pw_below_drewN | apply below_drew1) | exact HB.out))) : w.heap.size ≤ gb199)); have n3_ := Aside0.mk ((by rw [hg]; exact (below_size (by repeat (first | (with_reducible first | exact HB.out | apply below_alloc | apply pw_below_drewN | apply below_drew1) | exact HB.out))) : w.heap.size ≤ gb199)); clear HB; have HB := n0_; have BK199 := n1_; have GW199 := n2_; have GE199 := n3_; clear n0_ n1_ n2_ n3_; clear hb hbox hg)); go_upto_region 1 with (first | ((with_reducible refine gate_dst (N := 3) rfl ?_); refine box_event ?hg (N := 3) ?hd (cs := #[.int .i64 a1_0, .int .i64 a1_1, .int .i64 a1_2, .int .i64 a1_3]) (t := 24) ?hr ?_; (case hd => rfl); (case hg => rfl); (case hr => first | (go_simp; done) | (go_simp; rfl)); intro gb199 hg w4 hbox hb; have n0_ := Aside0.mk (below_step (by repeat (first | (with_reducible first | exact HB.out | apply below_alloc | apply pw_below_drewN | apply below_drew1) | exact HB.out)) hb); have n1_ := Aside0.mk (hbox); have n2_ := Aside0.mk ((by rw [hg]; exact (below_size (by repeat (first | (with_reducible first | exact HB.out | apply below_alloc | apply pw_below_drewN | apply below_drew1) | exact HB.out))) : w.heap.size ≤ gb199)); have n3_ := Aside0.mk ((by rw [hg]; exact (below_size (by repeat (first | (with_reducible first | exact HB.out | apply below_alloc | apply pw_below_drewN | apply below_drew1) | exact HB.out))) : w.heap.size ≤ gb199)); clear HB; have HB := n0_; have BK199 := n1_; have GW199 := n2_; have GE199 := n3_; clear n0_ n1_ n2_ n3_; clear hb hbox hg)))
 (try simp only [Act.put, List.setIfInBounds_toArray, List.set_cons_zero, List.set_cons_succ])
 go_cut [18] (fun v18 wc => ∃ (kq : Nat) (x18_2 : Bool), v18 = .bool x18_2 ∧ Aside0 (watchwordref9_WithLast.j0 kq l0 x18_2 a1_0 a1_1 a1_2 a1_3 = some (r1, r2)) ∧ Aside0 (kq ≤ k) ∧ Aside0 (wc.heap[gb199]? = some (.cells #[.int .i64 a1_0, .int .i64 a1_1, .int .i64 a1_2, .int .i64 a1_3] 24 (0, 0))) ∧ Aside0 (Below w.heap.size w wc))
 case first =>
  have H := HC3.out
  clear HC3
  replace H := Option.bind_eq_some_iff.mp H
  obtain ⟨t200, A50, H⟩ := H
  replace H : (if t200 = true then ((watchwordref9_LastMay.f a1_0 a1_1 a1_2 a1_3).bind fun t201 => (watchwordref9_WithLast.j0 k l0 (!t201) a1_0 a1_1 a1_2 a1_3)) else (watchwordref9_WithLast.j0 k l0 true a1_0 a1_1 a1_2 a1_3)) = some (r1, r2) := H
  have A5 := Aside0.mk A50
  clear A50
  by_cases c6 : t200 = true
  ·subst c6
   have H1 : ((watchwordref9_LastMay.f a1_0 a1_1 a1_2 a1_3).bind fun t201 => (watchwordref9_WithLast.j0 k l0 (!t201) a1_0 a1_1 a1_2 a1_3)) = some (r1, r2) := by rw [if_pos rfl] at H; exact H
   clear H
   have H := H1
   clear H1
   replace H := Option.bind_eq_some_iff.mp H
   obtain ⟨t201, A70, H⟩ := H
   replace H : (watchwordref9_WithLast.j0 k l0 (!t201) a1_0 a1_1 a1_2 a1_3) = some (r1, r2) := H
   have A7 := Aside0.mk A70
   clear A70
   have H' := Aside0.mk H
   clear H
   go_wp2_with (first | (go_at_call 21; (with_reducible refine (watchwordref9_LastsMay.calls k _ _ l0 true _ ?side1 ?side2 A5.out).mono ?_); (case side1 => repeat (first | exact (Kd.C_below HR0.out HB.out) | (with_reducible refine Kd.C_alloc ?_ _) | (with_reducible refine Kd.C_drewN ?_ _) | (with_reducible refine Kd.C_drew ?_))); (case side2 => exact HC0.out); rintro e w8 ⟨rfl, hb⟩; have n0_ := Aside0.mk (blk_below (g := gb199) (o := .cells #[.int .i64 a1_0, .int .i64 a1_1, .int .i64 a1_2, .int .i64 a1_3] 24 (0, 0)) (by (with_reducible repeat (first | refine blk_drewN ?_ _ | refine blk_drew ?_ | refine blk_alloc ?_ _)); exact BK199.out) hb); have n1_ := Aside0.mk (below_step (by repeat (first | (with_reducible first | exact HB.out | apply below_alloc | apply pw_below_drewN | apply below_drew1 | refine below_set ?_ GE199.out) | exact HB.out)) hb); clear BK199; clear HB; have BK199 := n0_; have HB := n1_; clear n0_ n1_; (try clear hb); (try clear hb2); (try clear hk); (try clear hi); have hcz9_0 : w8.cell? ⟨gb199, 0, none⟩ = some (.int .i64 a1_0) := (blk_cell BK199.out 0).trans rfl; have hcz9_1 : w8.cell? ⟨gb199, 1, none⟩ = some (.int .i64 a1_1) := (blk_cell BK199.out 1).trans rfl; have hcz9_2 : w8.cell? ⟨gb199, 2, none⟩ = some (.int .i64 a1_2) := (blk_cell BK199.out 2).trans rfl; have hcz9_3 : w8.cell? ⟨gb199, 3, none⟩ = some (.int .i64 a1_3) := (blk_cell BK199.out 3).trans rfl; have hfz9_0 := blk_frozen BK199.out 0; have hfz9_1 := blk_frozen BK199.out 1; have hfz9_2 := blk_frozen BK199.out 2; have hfz9_3 := blk_frozen BK199.out 3) | (go_at_call 43; (with_reducible refine (watchwordref9_LastMay.calls a1_0 a1_1 a1_2 a1_3 t201 _ A7.out).mono ?_); rintro e w10 ⟨rfl, hb⟩; have n0_ := Aside0.mk (blk_below (g := gb199) (o := .cells #[.int .i64 a1_0, .int .i64 a1_1, .int .i64 a1_2, .int .i64 a1_3] 24 (0, 0)) (by (with_reducible repeat (first | refine blk_drewN ?_ _ | refine blk_drew ?_ | refine blk_alloc ?_ _)); exact BK199.out) hb); have n1_ := Aside0.mk (below_step (by repeat (first | (with_reducible first | exact HB.out | apply below_alloc | apply pw_below_drewN | apply below_drew1 | refine below_set ?_ GE199.out) | exact HB.out)) hb); clear BK199; clear HB; have BK199 := n0_; have HB := n1_; clear n0_ n1_; (try clear hb); (try clear hb2); (try clear hk); (try clear hi)))
   repeat (go_quiet (first | (go_at_call 21; (with_reducible refine (watchwordref9_LastsMay.calls k _ _ l0 true _ ?side1 ?side2 A5.out).mono ?_); (case side1 => repeat (first | exact (Kd.C_below HR0.out HB.out) | (with_reducible refine Kd.C_alloc ?_ _) | (with_reducible refine Kd.C_drewN ?_ _) | (with_reducible refine Kd.C_drew ?_))); (case side2 => exact HC0.out); rintro e w8 ⟨rfl, hb⟩; have n0_ := Aside0.mk (blk_below (g := gb199) (o := .cells #[.int .i64 a1_0, .int .i64 a1_1, .int .i64 a1_2, .int .i64 a1_3] 24 (0, 0)) (by (with_reducible repeat (first | refine blk_drewN ?_ _ | refine blk_drew ?_ | refine blk_alloc ?_ _)); exact BK199.out) hb); have n1_ := Aside0.mk (below_step (by repeat (first | (with_reducible first | exact HB.out | apply below_alloc | apply pw_below_drewN | apply below_drew1 | refine below_set ?_ GE199.out) | exact HB.out)) hb); clear BK199; clear HB; have BK199 := n0_; have HB := n1_; clear n0_ n1_; (try clear hb); (try clear hb2); (try clear hk); (try clear hi); have hcz9_0 : w8.cell? ⟨gb199, 0, none⟩ = some (.int .i64 a1_0) := (blk_cell BK199.out 0).trans rfl; have hcz9_1 : w8.cell? ⟨gb199, 1, none⟩ = some (.int .i64 a1_1) := (blk_cell BK199.out 1).trans rfl; have hcz9_2 : w8.cell? ⟨gb199, 2, none⟩ = some (.int .i64 a1_2) := (blk_cell BK199.out 2).trans rfl; have hcz9_3 : w8.cell? ⟨gb199, 3, none⟩ = some (.int .i64 a1_3) := (blk_cell BK199.out 3).trans rfl; have hfz9_0 := blk_frozen BK199.out 0; have hfz9_1 := blk_frozen BK199.out 1; have hfz9_2 := blk_frozen BK199.out 2; have hfz9_3 := blk_frozen BK199.out 3) | (go_at_call 43; (with_reducible refine (watchwordref9_LastMay.calls a1_0 a1_1 a1_2 a1_3 t201 _ A7.out).mono ?_); rintro e w10 ⟨rfl, hb⟩; have n0_ := Aside0.mk (blk_below (g := gb199) (o := .cells #[.int .i64 a1_0, .int .i64 a1_1, .int .i64 a1_2, .int .i64 a1_3] 24 (0, 0)) (by (with_reducible repeat (first | refine blk_drewN ?_ _ | refine blk_drew ?_ | refine blk_alloc ?_ _)); exact BK199.out) hb); have n1_ := Aside0.mk (below_step (by repeat (first | (with_reducible first | exact HB.out | apply below_alloc | apply pw_below_drewN | apply below_drew1 | refine below_set ?_ GE199.out) | exact HB.out)) hb); clear BK199; clear HB; have BK199 := n0_; have HB := n1_; clear n0_ n1_; (try clear hb); (try clear hb2); (try clear hk); (try clear hi))); try go_wp2_with (first | (go_at_call 21; (with_reducible refine (watchwordref9_LastsMay.calls k _ _ l0 true _ ?side1 ?side2 A5.out).mono ?_); (case side1 => repeat (first | exact (Kd.C_below HR0.out HB.out) | (with_reducible refine Kd.C_alloc ?_ _) | (with_reducible refine Kd.C_drewN ?_ _) | (with_reducible refine Kd.C_drew ?_))); (case side2 => exact HC0.out); rintro e w8 ⟨rfl, hb⟩; have n0_ := Aside0.mk (blk_below (g := gb199) (o := .cells #[.int .i64 a1_0, .int .i64 a1_1, .int .i64 a1_2, .int .i64 a1_3] 24 (0, 0)) (by (with_reducible repeat (first | refine blk_drewN ?_ _ | refine blk_drew ?_ | refine blk_alloc ?_ _)); exact BK199.out) hb); have n1_ := Aside0.mk (below_step (by repeat (first | (with_reducible first | exact HB.out | apply below_alloc | apply pw_below_drewN | apply below_drew1 | refine below_set ?_ GE199.out) | exact HB.out)) hb); clear BK199; clear HB; have BK199 := n0_; have HB := n1_; clear n0_ n1_; (try clear hb); (try clear hb2); (try clear hk); (try clear hi); have hcz9_0 : w8.cell? ⟨gb199, 0, none⟩ = some (.int .i64 a1_0) := (blk_cell BK199.out 0).trans rfl; have hcz9_1 : w8.cell? ⟨gb199, 1, none⟩ = some (.int .i64 a1_1) := (blk_cell BK199.out 1).trans rfl; have hcz9_2 : w8.cell? ⟨gb199, 2, none⟩ = some (.int .i64 a1_2) := (blk_cell BK199.out 2).trans rfl; have hcz9_3 : w8.cell? ⟨gb199, 3, none⟩ = some (.int .i64 a1_3) := (blk_cell BK199.out 3).trans rfl; have hfz9_0 := blk_frozen BK199.out 0; have hfz9_1 := blk_frozen BK199.out 1; have hfz9_2 := blk_frozen BK199.out 2; have hfz9_3 := blk_frozen BK199.out 3) | (go_at_call 43; (with_reducible refine (watchwordref9_LastMay.calls a1_0 a1_1 a1_2 a1_3 t201 _ A7.out).mono ?_); rintro e w10 ⟨rfl, hb⟩; have n0_ := Aside0.mk (blk_below (g := gb199) (o := .cells #[.int .i64 a1_0, .int .i64 a1_1, .int .i64 a1_2, .int .i64 a1_3] 24 (0, 0)) (by (with_reducible repeat (first | refine blk_drewN ?_ _ | refine blk_drew ?_ | refine blk_alloc ?_ _)); exact BK199.out) hb); have n1_ := Aside0.mk (below_step (by repeat (first | (with_reducible first | exact HB.out | apply below_alloc | apply pw_below_drewN | apply below_drew1 | refine below_set ?_ GE199.out) | exact HB.out)) hb); clear BK199; clear HB; have BK199 := n0_; have HB := n1_; clear n0_ n1_; (try clear hb); (try clear hb2); (try clear hk); (try clear hi))))
   go_meet
   case rel => exact ⟨_, (!t201), (by first | rfl | (simp; done) | (simp [*]; done)), H', ⟨by first | omega | exact Nat.le_refl _⟩, ⟨by (with_reducible repeat (first | refine blk_drewN ?_ _ | refine blk_drew ?_ | refine blk_alloc ?_ _)); exact BK199.out⟩, ⟨by repeat (first | (with_reducible first | exact HB.out | apply below_alloc | apply pw_below_drewN | apply below_drew1 | refine below_set ?_ GE199.out) | exact HB.out)⟩⟩
  ·replace c6 := Bool.eq_false_iff.mpr c6
   subst c6
   have H1 : (watchwordref9_WithLast.j0 k l0 true a1_0 a1_1 a1_2 a1_3) = some (r1, r2) := by rw [if_neg (show ¬ (false = true) by decide)] at H; exact H
   clear H
   have H := H1
   clear H1
   have H' := Aside0.mk H
   clear H
   go_wp2_with (first | (go_at_call 21; (with_reducible refine (watchwordref9_LastsMay.calls k _ _ l0 false _ ?side1 ?side2 A5.out).mono ?_); (case side1 => repeat (first | exact (Kd.C_below HR0.out HB.out) | (with_reducible refine Kd.C_alloc ?_ _) | (with_reducible refine Kd.C_drewN ?_ _) | (with_reducible refine Kd.C_drew ?_))); (case side2 => exact HC0.out); rintro e w11 ⟨rfl, hb⟩; have n0_ := Aside0.mk (blk_below (g := gb199) (o := .cells #[.int .i64 a1_0, .int .i64 a1_1, .int .i64 a1_2, .int .i64 a1_3] 24 (0, 0)) (by (with_reducible repeat (first | refine blk_drewN ?_ _ | refine blk_drew ?_ | refine blk_alloc ?_ _)); exact BK199.out) hb); have n1_ := Aside0.mk (below_step (by repeat (first | (with_reducible first | exact HB.out | apply below_alloc | apply pw_below_drewN | apply below_drew1 | refine below_set ?_ GE199.out) | exact HB.out)) hb); clear BK199; clear HB; have BK199 := n0_; have HB := n1_; clear n0_ n1_; (try clear hb); (try clear hb2); (try clear hk); (try clear hi)))
   repeat (go_quiet (first | (go_at_call 21; (with_reducible refine (watchwordref9_LastsMay.calls k _ _ l0 false _ ?side1 ?side2 A5.out).mono ?_); (case side1 => repeat (first | exact (Kd.C_below HR0.out HB.out) | (with_reducible refine Kd.C_alloc ?_ _) | (with_reducible refine Kd.C_drewN ?_ _) | (with_reducible refine Kd.C_drew ?_))); (case side2 => exact HC0.out); rintro e w11 ⟨rfl, hb⟩; have n0_ := Aside0.mk (blk_below (g := gb199) (o := .cells #[.int .i64 a1_0, .int .i64 a1_1, .int .i64 a1_2, .int .i64 a1_3] 24 (0, 0)) (by (with_reducible repeat (first | refine blk_drewN ?_ _ | refine blk_drew ?_ | refine blk_alloc ?_ _)); exact BK199.out) hb); have n1_ := Aside0.mk (below_step (by repeat (first | (with_reducible first | exact HB.out | apply below_alloc | apply pw_below_drewN | apply below_drew1 | refine below_set ?_ GE199.out) | exact HB.out)) hb); clear BK199; clear HB; have BK199 := n0_; have HB := n1_; clear n0_ n1_; (try clear hb); (try clear hb2); (try clear hk); (try clear hi))); try go_wp2_with (first | (go_at_call 21; (with_reducible refine (watchwordref9_LastsMay.calls k _ _ l0 false _ ?side1 ?side2 A5.out).mono ?_); (case side1 => repeat (first | exact (Kd.C_below HR0.out HB.out) | (with_reducible refine Kd.C_alloc ?_ _) | (with_reducible refine Kd.C_drewN ?_ _) | (with_reducible refine Kd.C_drew ?_))); (case side2 => exact HC0.out); rintro e w11 ⟨rfl, hb⟩; have n0_ := Aside0.mk (blk_below (g := gb199) (o := .cells #[.int .i64 a1_0, .int .i64 a1_1, .int .i64 a1_2, .int .i64 a1_3] 24 (0, 0)) (by (with_reducible repeat (first | refine blk_drewN ?_ _ | refine blk_drew ?_ | refine blk_alloc ?_ _)); exact BK199.out) hb); have n1_ := Aside0.mk (below_step (by repeat (first | (with_reducible first | exact HB.out | apply below_alloc | apply pw_below_drewN | apply below_drew1 | refine below_set ?_ GE199.out) | exact HB.out)) hb); clear BK199; clear HB; have BK199 := n0_; have HB := n1_; clear n0_ n1_; (try clear hb); (try clear hb2); (try clear hk); (try clear hi))))
   go_meet
   case rel => exact ⟨_, (true), (by first | rfl | (simp; done) | (simp [*]; done)), H', ⟨by first | omega | exact Nat.le_refl _⟩, ⟨by (with_reducible repeat (first | refine blk_drewN ?_ _ | refine blk_drew ?_ | refine blk_alloc ?_ _)); exact BK199.out⟩, ⟨by repeat (first | (with_reducible first | exact HB.out | apply below_alloc | apply pw_below_drewN | apply below_drew1 | refine below_set ?_ GE199.out) | exact HB.out)⟩⟩
 case rest =>
  clear HC3
  try clear c1
  try clear p2
  try clear c6
  try clear hcz9_0
  try clear hcz9_1
  try clear hcz9_2
  try clear hcz9_3
  try clear hfz9_0
  try clear hfz9_1
  try clear hfz9_2
  try clear hfz9_3
  obtain ⟨kq, x18_2, rfl, HA, HJ2, BK199, HB⟩ := hcut
  cases kq with
  | zero => exact absurd HA.out (by simp [watchwordref9_WithLast.j0])
  | succ kj2 =>
   have H := HA.out
   clear HA
   simp only [watchwordref9_WithLast.j0] at H
   by_cases c12 : x18_2 = true
   ·subst c12
    have H1 : (some (([] : List (S24)), 1400)) = some (r1, r2) := by rw [if_pos rfl] at H; exact H
    clear H
    have H := H1
    clear H1
    simp only [Option.some.injEq, Prod.mk.injEq] at H
    obtain ⟨rfl, rfl⟩ := H
    go_wp2
    repeat (go_quiet (fail); try go_wp2)
    go_ret2
    exact ⟨_, by first | rfl | (simp [errW_none, errW_some] <;> rfl) | (simp [*, errW_none, errW_some] <;> rfl), by first | exact Kd.R_nil _ _ _ _ _ | exact Kd.N_nil _ _ _ _ _ | exact Kd.V_nil _ _ _ _ _ | exact Kd.Q_nil _ _ _ _ _ | exact Kd.S_nil _ _ _ _ _, by repeat (first | (with_reducible first | exact HB.out | apply below_alloc | apply pw_below_drewN | apply below_drew1 | refine below_set ?_ GE199.out) | exact HB.out)⟩
   ·replace c12 := Bool.eq_false_iff.mpr c12
    subst c12
    have H1 : (watchwordref9_WithLast.l0 kj2 l0 ([] : List (S24)) false 0 a1_0 a1_1 a1_2 a1_3) = some (r1, r2) := by rw [if_neg (show ¬ (false = true) by decide)] at H; exact H
    clear H
    have H := H1
    clear H1
    have H' := Aside0.mk H
    clear H
    go_wp2
    repeat (go_quiet (fail); try go_wp2)
    go_loopg [6, 7, 8] kj2 (fun kq v6 v7 v8 w' => ∃ (x6_2 : List (S24)) (x7_2 : Bool) (x8_2 : Int), v7 = .bool x7_2 ∧ v8 = .int .i64 x8_2 ∧ Aside0 (watchwordref9_WithLast.l0 kq l0 x6_2 x7_2 x8_2 a1_0 a1_1 a1_2 a1_3 = some (r1, r2)) ∧ Aside0 (kq ≤ kj2) ∧ Aside0 (Kd.R k24 24 w' w.heap.size (fun k_ => k_ ≠ gb199) v6 x6_2) ∧ Aside0 (w'.heap[gb199]? = some (.cells #[.int .i64 a1_0, .int .i64 a1_1, .int .i64 a1_2, .int .i64 a1_3] 24 (0, 0))) ∧ Aside0 (Below w.heap.size w w'))
    case atStart => exact ⟨(([] : List (S24))), (false), (0), (by first | rfl | (simp; done) | (simp [*]; done)), (by first | rfl | (simp; done) | (simp [*]; done)), H', ⟨Nat.le_refl _⟩, ⟨by first | exact Kd.R_nil _ _ _ _ _ | exact Kd.N_nil _ _ _ _ _ | exact Kd.V_nil _ _ _ _ _ | exact Kd.Q_nil _ _ _ _ _ | exact Kd.S_nil _ _ _ _ _⟩, ⟨by (with_reducible repeat (first | refine blk_drewN ?_ _ | refine blk_drew ?_ | refine blk_alloc ?_ _)); exact BK199.out⟩, ⟨by repeat (first | (with_reducible first | exact HB.out | apply below_alloc | apply pw_below_drewN | apply below_drew1 | refine below_set ?_ GE199.out) | exact HB.out)⟩⟩
    case round =>
     clear H'
     try clear c1
     try clear p2
     try clear c6
     try clear c12
     try clear hcz9_0
     try clear hcz9_1
     try clear hcz9_2
     try clear hcz9_3
     try clear hfz9_0
     try clear hfz9_1
     try clear hfz9_2
     try clear hfz9_3
     try clear p2
     obtain ⟨x6_2, x7_2, x8_2, rfl, rfl, HA, HK2, HO_6, BK199, HB⟩ := hrel
     cases gk with
     | zero => exact absurd HA.out (by simp [watchwordref9_WithLast.l0])
     | succ k2 =>
      have H := HA.out
      clear HA
      simp only [watchwordref9_WithLast.l0] at H
      by_cases c13 : x8_2 < (l0.length : Int)
      ·rw [if_pos c13] at H
       have c13b0 : decide (x8_2 < (l0.length : Int)) = true := decide_eq_true c13
       clear c13
       by_cases c14 : 0 ≤ x8_2
       ·rw [if_pos c14] at H
        have c14b0 : decide (0 ≤ x8_2) = true := decide_eq_true c14
        clear c14
        have HC15 := Aside0.mk H
        clear H
        have p205 : 0 ≤ (x8_2 : Int) := of_decide_eq_true (by first | (with_reducible assumption) | assumption)
        have q205 : x8_2 < (l0.length : Int) := of_decide_eq_true (by first | (with_reducible assumption) | assumption)
        obtain ⟨ad205, e205, hx205_0, hx205_1, hx205_2, hx205_3⟩ := at_T24 HR0.out x8_2 p205 q205
        cases e205
        replace hx205_0 := (HB.out.cell (World.block_lt_of_cell? w _ hx205_0)).trans hx205_0
        replace hx205_1 := (HB.out.cell (World.block_lt_of_cell? w _ hx205_1)).trans hx205_1
        replace hx205_2 := (HB.out.cell (World.block_lt_of_cell? w _ hx205_2)).trans hx205_2
        replace hx205_3 := (HB.out.cell (World.block_lt_of_cell? w _ hx205_3)).trans hx205_3
        replace p205 := eq_true p205
        replace q205 := eq_true q205
        have p206 : 0 ≤ (x8_2 : Int) := of_decide_eq_true (by first | (with_reducible assumption) | assumption)
        have q206 : x8_2 < (l0.length : Int) := of_decide_eq_true (by first | (with_reducible assumption) | assumption)
        obtain ⟨ad206, e206, hx206_0, hx206_1, hx206_2, hx206_3⟩ := at_T24 HR0.out x8_2 p206 q206
        obtain rfl : ad205 = ad206 := (by injection e206)
        replace hx206_0 := (HB.out.cell (World.block_lt_of_cell? w _ hx206_0)).trans hx206_0
        replace hx206_1 := (HB.out.cell (World.block_lt_of_cell? w _ hx206_1)).trans hx206_1
        replace hx206_2 := (HB.out.cell (World.block_lt_of_cell? w _ hx206_2)).trans hx206_2
        replace hx206_3 := (HB.out.cell (World.block_lt_of_cell? w _ hx206_3)).trans hx206_3
        replace p206 := eq_true p206
        replace q206 := eq_true q206
        have hcz16_0 : wr.cell? ⟨gb199, 0, none⟩ = some (.int .i64 a1_0) := (blk_cell BK199.out 0).trans rfl
        have hcz16_1 : wr.cell? ⟨gb199, 1, none⟩ = some (.int .i64 a1_1) := (blk_cell BK199.out 1).trans rfl
        have hcz16_2 : wr.cell? ⟨gb199, 2, none⟩ = some (.int .i64 a1_2) := (blk_cell BK199.out 2).trans rfl
        have hcz16_3 : wr.cell? ⟨gb199, 3, none⟩ = some (.int .i64 a1_3) := (blk_cell BK199.out 3).trans rfl
        have hfz16_0 := blk_frozen BK199.out 0
        have hfz16_1 := blk_frozen BK199.out 1
        have hfz16_2 := blk_frozen BK199.out 2
        have hfz16_3 := blk_frozen BK199.out 3
        go_upto_region 9 with (fail)
        repeat (go_quiet (fail); go_upto_region 9 with (fail))
        go_cut [49] (fun v49 wc => ∃ (kq : Nat) (x49_14 : Bool), v49 = .bool x49_14 ∧ Aside0 (watchwordref9_WithLast.j2 kq l0 x6_2 x7_2 x8_2 (wrap64 ((wrap64 (8 * ((rd_T24 l0 x8_2).f0))) + ((rd_T24 l0 x8_2).f1))) (wrap64 ((wrap64 (8 * a1_0)) + a1_1)) x49_14 a1_0 a1_1 a1_2 a1_3 = some (r1, r2)) ∧ Aside0 (kq ≤ k2) ∧ Aside0 (Kd.R k24 24 wc w.heap.size (fun k_ => k_ ≠ gb199) u6 x6_2) ∧ Aside0 (wc.heap[gb199]? = some (.cells #[.int .i64 a1_0, .int .i64 a1_1, .int .i64 a1_2, .int .i64 a1_3] 24 (0, 0))) ∧ Aside0 (Below w.heap.size w wc))
        case first =>
         have H := HC15.out
         clear HC15
         by_cases c17 : x7_2 = true
         ·subst c17
          have H1 : (watchwordref9_WithLast.j2 k2 l0 x6_2 true x8_2 (wrap64 ((wrap64 (8 * ((rd_T24 l0 x8_2).f0))) + ((rd_T24 l0 x8_2).f1))) (wrap64 ((wrap64 (8 * a1_0)) + a1_1)) false a1_0 a1_1 a1_2 a1_3) = some (r1, r2) := by rw [if_pos rfl] at H; exact H
          clear H
          have H := H1
          clear H1
          have H' := Aside0.mk H
          clear H
          go_wp2
          repeat (go_quiet (fail); try go_wp2)
          go_meet
          case rel => exact ⟨_, (false), (by first | rfl | (simp; done) | (simp [*]; done)), H', ⟨by have := HJ2.out; have := HK2.out; first | omega | exact Nat.le_refl _⟩, ⟨by (with_reducible repeat (first | apply Kd.R_alloc | apply Kd.R_drewN | apply Kd.R_drew)); exact HO_6.out⟩, ⟨by (with_reducible repeat (first | refine blk_drewN ?_ _ | refine blk_drew ?_ | refine blk_alloc ?_ _)); exact BK199.out⟩, ⟨by repeat (first | (with_reducible first | exact HB.out | apply below_alloc | apply pw_below_drewN | apply below_drew1 | refine below_set ?_ GE199.out) | exact HB.out)⟩⟩
         ·replace c17 := Bool.eq_false_iff.mpr c17
          subst c17
          have H1 : (watchwordref9_WithLast.j2 k2 l0 x6_2 false x8_2 (wrap64 ((wrap64 (8 * ((rd_T24 l0 x8_2).f0))) + ((rd_T24 l0 x8_2).f1))) (wrap64 ((wrap64 (8 * a1_0)) + a1_1)) (decide ((wrap64 ((wrap64 (8 * ((rd_T24 l0 x8_2).f0))) + ((rd_T24 l0 x8_2).f1))) ≥ (wrap64 ((wrap64 (8 * a1_0)) + a1_1)))) a1_0 a1_1 a1_2 a1_3) = some (r1, r2) := by rw [if_neg (show ¬ (false = true) by decide)] at H; exact H
          clear H
          have H := H1
          clear H1
          have H' := Aside0.mk H
          clear H
          go_wp2
          repeat (go_quiet (fail); try go_wp2)
          go_meet
          case rel => exact ⟨_, (decide ((wrap64 ((wrap64 (8 * ((rd_T24 l0 x8_2).f0))) + ((rd_T24 l0 x8_2).f1))) ≥ (wrap64 ((wrap64 (8 * a1_0)) + a1_1)))), (by first | rfl | (simp; done) | (simp [*]; done)), H', ⟨by have := HJ2.out; have := HK2.out; first | omega | exact Nat.le_refl _⟩, ⟨by (with_reducible repeat (first | apply Kd.R_alloc | apply Kd.R_drewN | apply Kd.R_drew)); exact HO_6.out⟩, ⟨by (with_reducible repeat (first | refine blk_drewN ?_ _ | refine blk_drew ?_ | refine blk_alloc ?_ _)); exact BK199.out⟩, ⟨by repeat (first | (with_reducible first | exact HB.out | apply below_alloc | apply pw_below_drewN | apply below_drew1 | refine below_set ?_ GE199.out) | exact HB.out)⟩⟩
        case rest =>
         clear HC15
         try clear c1
         try clear p2
         try clear q2
         try clear hx2
         try clear c6
         try clear p6
         try clear c12
         try clear c13
         try clear c13b0
         try clear c14
         try clear c14b0
         try clear c17
         try clear hcz16_0
         try clear hcz16_1
         try clear hcz16_2
         try clear hcz16_3
         try clear hcz9_0
         try clear hcz9_1
         try clear hcz9_2
         try clear hcz9_3
         try clear hfz16_0
         try clear hfz16_1
         try clear hfz16_2
         try clear hfz16_3
         try clear hfz9_0
         try clear hfz9_1
         try clear hfz9_2
         try clear hfz9_3
         try clear hx205_0
         try clear hx205_1
         try clear hx205_2
         try clear hx205_3
         try clear hx206_0
         try clear hx206_1
         try clear hx206_2
         try clear hx206_3
         try clear p2
         try clear p205
         try clear p206
         try clear q205
         try clear q206
         obtain ⟨kq, x49_14, rfl, HA, HJ14, HO_6, BK199, HB⟩ := hcut
         cases kq with
         | zero => exact absurd HA.out (by simp [watchwordref9_WithLast.j2])
         | succ kj14 =>
          have H := HA.out
          clear HA
          simp only [watchwordref9_WithLast.j2] at H
          by_cases c18 : x49_14 = true
          ·subst c18
           have H1 : (if x6_2.length < 4398046511104 then ((some (x6_2 ++ [(⟨a1_0, a1_1, a1_2, a1_3⟩ : S24)] : List (S24))).bind fun y207 => (if (wrap64 ((wrap64 (8 * ((rd_T24 l0 x8_2).f0))) + ((rd_T24 l0 x8_2).f1))) = (wrap64 ((wrap64 (8 * a1_0)) + a1_1)) then (watchwordref9_WithLast.l0 kj14 l0 y207 true (wrap64 (x8_2 + 1)) a1_0 a1_1 a1_2 a1_3) else (if 0 ≤ x8_2 then (if x8_2 < (l0.length : Int) then (if y207.length < 4398046511104 then (watchwordref9_WithLast.l0 kj14 l0 (y207 ++ [(⟨(rd_T24 l0 x8_2).f0, (rd_T24 l0 x8_2).f1, (rd_T24 l0 x8_2).f2, (rd_T24 l0 x8_2).f3⟩ : S24)]) true (wrap64 (x8_2 + 1)) a1_0 a1_1 a1_2 a1_3) else (none)) else (none)) else (none)))) else (none)) = some (r1, r2) := by rw [if_pos rfl] at H; exact H
           clear H
           have H := H1
           clear H1
           by_cases c19 : x6_2.length < 4398046511104
           ·rw [if_pos c19] at H
            have LMc19 := Aside0.mk c19
            clear c19
            obtain ⟨y207, hy207⟩ : ∃ y_ : List (S24), y_ = (x6_2 ++ [(⟨a1_0, a1_1, a1_2, a1_3⟩ : S24)]) := ⟨_, rfl⟩
            replace H : (if (wrap64 ((wrap64 (8 * ((rd_T24 l0 x8_2).f0))) + ((rd_T24 l0 x8_2).f1))) = (wrap64 ((wrap64 (8 * a1_0)) + a1_1)) then (watchwordref9_WithLast.l0 kj14 l0 y207 true (wrap64 (x8_2 + 1)) a1_0 a1_1 a1_2 a1_3) else (if 0 ≤ x8_2 then (if x8_2 < (l0.length : Int) then (if y207.length < 4398046511104 then (watchwordref9_WithLast.l0 kj14 l0 (y207 ++ [(⟨(rd_T24 l0 x8_2).f0, (rd_T24 l0 x8_2).f1, (rd_T24 l0 x8_2).f2, (rd_T24 l0 x8_2).f3⟩ : S24)]) true (wrap64 (x8_2 + 1)) a1_0 a1_1 a1_2 a1_3) else (none)) else (none)) else (none))) = some (r1, r2) := by first | (rw [hy207]; with_reducible exact H) | (have H2_ := (Option.bind_some _ _).symm.trans H; rw [hy207]; with_reducible exact H2_) | (have H2_ := (Option.bind_some _ _).symm.trans H; with_reducible exact H2_) | with_reducible exact H | (rw [hy207]; exact H) | exact H
            have Ny207 := Aside0.mk hy207
            clear hy207
            by_cases c20 : (wrap64 ((wrap64 (8 * ((rd_T24 l0 x8_2).f0))) + ((rd_T24 l0 x8_2).f1))) = (wrap64 ((wrap64 (8 * a1_0)) + a1_1))
            ·rw [if_pos c20] at H
             have c20b0 : ((wrap64 ((wrap64 (8 * ((rd_T24 l0 x8_2).f0))) + ((rd_T24 l0 x8_2).f1))) == (wrap64 ((wrap64 (8 * a1_0)) + a1_1))) = true := beq_iff_eq.mpr c20
             have c20b1 : ((wrap64 ((wrap64 (8 * ((rd_T24 l0 x8_2).f0))) + ((rd_T24 l0 x8_2).f1))) != (wrap64 ((wrap64 (8 * a1_0)) + a1_1))) = false := bne_eq_false_iff_eq.mpr c20
             clear c20
             have H' := Aside0.mk H
             clear H
             have hcz21_0 : wc.cell? ⟨gb199, 0, none⟩ = some (.int .i64 a1_0) := (blk_cell BK199.out 0).trans rfl
             have hcz21_1 : wc.cell? ⟨gb199, 1, none⟩ = some (.int .i64 a1_1) := (blk_cell BK199.out 1).trans rfl
             have hcz21_2 : wc.cell? ⟨gb199, 2, none⟩ = some (.int .i64 a1_2) := (blk_cell BK199.out 2).trans rfl
             have hcz21_3 : wc.cell? ⟨gb199, 3, none⟩ = some (.int .i64 a1_3) := (blk_cell BK199.out 3).trans rfl
             have hfz21_0 := blk_frozen BK199.out 0
             have hfz21_1 := blk_frozen BK199.out 1
             have hfz21_2 := blk_frozen BK199.out 2
             have hfz21_3 := blk_frozen BK199.out 3
             go_wp2_with (first | ((with_reducible refine gate_builtin (b := .append) (xs := #[.tmp 50, .tmp 52]) rfl ?_); at_builtin; refine Kd.R_append k24 (w0 := w) w.heap.size rfl (.tmp 50) (.tmp 52) 22 24 (.agg #[(.int .i64 0), (.int .i64 0), (.int .i64 0), (.int .i64 0)]) 32 rfl Try.underlying22 info24 rfl (by decide) (by omega) u6 x6_2 (⟨a1_0, a1_1, a1_2, a1_3⟩ : S24) [.int .i64 a1_0, .int .i64 a1_1, .int .i64 a1_2, .int .i64 a1_3] (fun k_ => k_ ≠ gb199) (fun _ => False) rfl rfl ?aP (fun _ hk => hk.elim) ?aF ?aO ?aB ?aS ?aL ?_; (case aP => exact k24_mkM _ _ _ (⟨a1_0, a1_1, a1_2, a1_3⟩ : S24)); (case aB => exact (by repeat (first | (with_reducible first | exact HB.out | apply below_alloc | apply pw_below_drewN | apply below_drew1 | refine below_set ?_ GE199.out) | exact HB.out))); (case aF => exact (fun k_ hk => Kd.freshB (g := gb199) (o := .cells #[.int .i64 a1_0, .int .i64 a1_1, .int .i64 a1_2, .int .i64 a1_3] 24 (0, 0)) (by (with_reducible repeat (first | refine blk_drewN ?_ _ | refine blk_drew ?_ | refine blk_alloc ?_ _)); exact BK199.out) k_ hk)); (case aO => exact (by (with_reducible repeat (first | apply Kd.R_alloc | apply Kd.R_drewN | apply Kd.R_drew)); exact HO_6.out)); (case aS => exact (below_size (by repeat (first | (with_reducible first | exact HB.out | apply below_alloc | apply pw_below_drewN | apply below_drew1 | refine below_set ?_ GE199.out) | exact HB.out)))); (case aL => have := LMc19.out; omega); intro v208 w22 ho hb hg hat; rw [← Ny207.out] at ho; have n0_ := Aside0.mk (blk_grown (g := gb199) (o := .cells #[.int .i64 a1_0, .int .i64 a1_1, .int .i64 a1_2, .int .i64 a1_3] 24 (0, 0)) (by (with_reducible repeat (first | refine blk_drewN ?_ _ | refine blk_drew ?_ | refine blk_alloc ?_ _)); exact BK199.out) hg (Kd.R_away HO_6.out (fun _ hk => hk))); have n1_ := Aside0.mk (hb); have n2_ := Aside0.mk (ho); clear BK199; clear HB; clear HO_6; have BK199 := n0_; have HB := n1_; have HO209 := n2_; clear n0_ n1_ n2_; clear ho hb hg hat))
             repeat (go_quiet (first | ((with_reducible refine gate_builtin (b := .append) (xs := #[.tmp 50, .tmp 52]) rfl ?_); at_builtin; refine Kd.R_append k24 (w0 := w) w.heap.size rfl (.tmp 50) (.tmp 52) 22 24 (.agg #[(.int .i64 0), (.int .i64 0), (.int .i64 0), (.int .i64 0)]) 32 rfl Try.underlying22 info24 rfl (by decide) (by omega) u6 x6_2 (⟨a1_0, a1_1, a1_2, a1_3⟩ : S24) [.int .i64 a1_0, .int .i64 a1_1, .int .i64 a1_2, .int .i64 a1_3] (fun k_ => k_ ≠ gb199) (fun _ => False) rfl rfl ?aP (fun _ hk => hk.elim) ?aF ?aO ?aB ?aS ?aL ?_; (case aP => exact k24_mkM _ _ _ (⟨a1_0, a1_1, a1_2, a1_3⟩ : S24)); (case aB => exact (by repeat (first | (with_reducible first | exact HB.out | apply below_alloc | apply pw_below_drewN | apply below_drew1 | refine below_set ?_ GE199.out) | exact HB.out))); (case aF => exact (fun k_ hk => Kd.freshB (g := gb199) (o := .cells #[.int .i64 a1_0, .int .i64 a1_1, .int .i64 a1_2, .int .i64 a1_3] 24 (0, 0)) (by (with_reducible repeat (first | refine blk_drewN ?_ _ | refine blk_drew ?_ | refine blk_alloc ?_ _)); exact BK199.out) k_ hk)); (case aO => exact (by (with_reducible repeat (first | apply Kd.R_alloc | apply Kd.R_drewN | apply Kd.R_drew)); exact HO_6.out)); (case aS => exact (below_size (by repeat (first | (with_reducible first | exact HB.out | apply below_alloc | apply pw_below_drewN | apply below_drew1 | refine below_set ?_ GE199.out) | exact HB.out)))); (case aL => have := LMc19.out; omega); intro v208 w22 ho hb hg hat; rw [← Ny207.out] at ho; have n0_ := Aside0.mk (blk_grown (g := gb199) (o := .cells #[.int .i64 a1_0, .int .i64 a1_1, .int .i64 a1_2, .int .i64 a1_3] 24 (0, 0)) (by (with_reducible repeat (first | refine blk_drewN ?_ _ | refine blk_drew ?_ | refine blk_alloc ?_ _)); exact BK199.out) hg (Kd.R_away HO_6.out (fun _ hk => hk))); have n1_ := Aside0.mk (hb); have n2_ := Aside0.mk (ho); clear BK199; clear HB; clear HO_6; have BK199 := n0_; have HB := n1_; have HO209 := n2_; clear n0_ n1_ n2_; clear ho hb hg hat)); try go_wp2_with (first | ((with_reducible refine gate_builtin (b := .append) (xs := #[.tmp 50, .tmp 52]) rfl ?_); at_builtin; refine Kd.R_append k24 (w0 := w) w.heap.size rfl (.tmp 50) (.tmp 52) 22 24 (.agg #[(.int .i64 0), (.int .i64 0), (.int .i64 0), (.int .i64 0)]) 32 rfl Try.underlying22 info24 rfl (by decide) (by omega) u6 x6_2 (⟨a1_0, a1_1, a1_2, a1_3⟩ : S24) [.int .i64 a1_0, .int .i64 a1_1, .int .i64 a1_2, .int .i64 a1_3] (fun k_ => k_ ≠ gb199) (fun _ => False) rfl rfl ?aP (fun _ hk => hk.elim) ?aF ?aO ?aB ?aS ?aL ?_; (case aP => exact k24_mkM _ _ _ (⟨a1_0, a1_1, a1_2, a1_3⟩ : S24)); (case aB => exact (by repeat (first | (with_reducible first | exact HB.out | apply below_alloc | apply pw_below_drewN | apply below_drew1 | refine below_set ?_ GE199.out) | exact HB.out))); (case aF => exact (fun k_ hk => Kd.freshB (g := gb199) (o := .cells #[.int .i64 a1_0, .int .i64 a1_1, .int .i64 a1_2, .int .i64 a1_3] 24 (0, 0)) (by (with_reducible repeat (first | refine blk_drewN ?_ _ | refine blk_drew ?_ | refine blk_alloc ?_ _)); exact BK199.out) k_ hk)); (case aO => exact (by (with_reducible repeat (first | apply Kd.R_alloc | apply Kd.R_drewN | apply Kd.R_drew)); exact HO_6.out)); (case aS => exact (below_size (by repeat (first | (with_reducible first | exact HB.out | apply below_alloc | apply pw_below_drewN | apply below_drew1 | refine below_set ?_ GE199.out) | exact HB.out)))); (case aL => have := LMc19.out; omega); intro v208 w22 ho hb hg hat; rw [← Ny207.out] at ho; have n0_ := Aside0.mk (blk_grown (g := gb199) (o := .cells #[.int .i64 a1_0, .int .i64 a1_1, .int .i64 a1_2, .int .i64 a1_3] 24 (0, 0)) (by (with_reducible repeat (first | refine blk_drewN ?_ _ | refine blk_drew ?_ | refine blk_alloc ?_ _)); exact BK199.out) hg (Kd.R_away HO_6.out (fun _ hk => hk))); have n1_ := Aside0.mk (hb); have n2_ := Aside0.mk (ho); clear BK199; clear HB; clear HO_6; have BK199 := n0_; have HB := n1_; have HO209 := n2_; clear n0_ n1_ n2_; clear ho hb hg hat)))
             go_roundg kj14
             case measure => have := HJ2.out; have := HK2.out; have := HJ14.out; omega
             case rel => exact ⟨(y207), (true), (wrap64 (x8_2 + 1)), (by first | rfl | (simp; done) | (simp [*]; done)), (by first | rfl | (simp; done) | (simp [*]; done)), H', ⟨by have := HJ2.out; have := HK2.out; have := HJ14.out; omega⟩, ⟨by (with_reducible repeat (first | apply Kd.R_alloc | apply Kd.R_drewN | apply Kd.R_drew)); exact HO209.out⟩, ⟨by (with_reducible repeat (first | refine blk_drewN ?_ _ | refine blk_drew ?_ | refine blk_alloc ?_ _)); exact BK199.out⟩, ⟨by repeat (first | (with_reducible first | exact HB.out | apply below_alloc | apply pw_below_drewN | apply below_drew1 | refine below_set ?_ GE199.out) | exact HB.out)⟩⟩
            ·rw [if_neg c20] at H
             have c20b0 : ((wrap64 ((wrap64 (8 * ((rd_T24 l0 x8_2).f0))) + ((rd_T24 l0 x8_2).f1))) == (wrap64 ((wrap64 (8 * a1_0)) + a1_1))) = false := beq_eq_false_iff_ne.mpr c20
             have c20b1 : ((wrap64 ((wrap64 (8 * ((rd_T24 l0 x8_2).f0))) + ((rd_T24 l0 x8_2).f1))) != (wrap64 ((wrap64 (8 * a1_0)) + a1_1))) = true := bne_iff_ne.mpr c20
             by_cases c23 : 0 ≤ x8_2
             ·rw [if_pos c23] at H
              have c23b0 : decide (0 ≤ x8_2) = true := decide_eq_true c23
              clear c23
              by_cases c24 : x8_2 < (l0.length : Int)
              ·rw [if_pos c24] at H
               have c24b0 : decide (x8_2 < (l0.length : Int)) = true := decide_eq_true c24
               clear c24
               by_cases c25 : y207.length < 4398046511104
               ·rw [if_pos c25] at H
                have LMc25 := Aside0.mk c25
                clear c25
                obtain ⟨y211, hy211⟩ : ∃ y_ : List (S24), y_ = (y207 ++ [(⟨(rd_T24 l0 x8_2).f0, (rd_T24 l0 x8_2).f1, (rd_T24 l0 x8_2).f2, (rd_T24 l0 x8_2).f3⟩ : S24)]) := ⟨_, rfl⟩
                replace H : (watchwordref9_WithLast.l0 kj14 l0 y211 true (wrap64 (x8_2 + 1)) a1_0 a1_1 a1_2 a1_3) = some (r1, r2) := by first | (rw [hy211]; with_reducible exact H) | (have H2_ := (Option.bind_some _ _).symm.trans H; rw [hy211]; with_reducible exact H2_) | (have H2_ := (Option.bind_some _ _).symm.trans H; with_reducible exact H2_) | with_reducible exact H | (rw [hy211]; exact H) | exact H
                have Ny211 := Aside0.mk hy211
                clear hy211
                have H' := Aside0.mk H
                clear H
                have hcz26_0 : wc.cell? ⟨gb199, 0, none⟩ = some (.int .i64 a1_0) := (blk_cell BK199.out 0).trans rfl
                have hcz26_1 : wc.cell? ⟨gb199, 1, none⟩ = some (.int .i64 a1_1) := (blk_cell BK199.out 1).trans rfl
                have hcz26_2 : wc.cell? ⟨gb199, 2, none⟩ = some (.int .i64 a1_2) := (blk_cell BK199.out 2).trans rfl
                have hcz26_3 : wc.cell? ⟨gb199, 3, none⟩ = some (.int .i64 a1_3) := (blk_cell BK199.out 3).trans rfl
                have hfz26_0 := blk_frozen BK199.out 0
                have hfz26_1 := blk_frozen BK199.out 1
                have hfz26_2 := blk_frozen BK199.out 2
                have hfz26_3 := blk_frozen BK199.out 3
                go_wp2_with (first | ((with_reducible refine gate_builtin (b := .append) (xs := #[.tmp 50, .tmp 52]) rfl ?_); at_builtin; refine Kd.R_append k24 (w0 := w) w.heap.size rfl (.tmp 50) (.tmp 52) 22 24 (.agg #[(.int .i64 0), (.int .i64 0), (.int .i64 0), (.int .i64 0)]) 32 rfl Try.underlying22 info24 rfl (by decide) (by omega) u6 x6_2 (⟨a1_0, a1_1, a1_2, a1_3⟩ : S24) [.int .i64 a1_0, .int .i64 a1_1, .int .i64 a1_2, .int .i64 a1_3] (fun k_ => k_ ≠ gb199) (fun _ => False) rfl rfl ?aP (fun _ hk => hk.elim) ?aF ?aO ?aB ?aS ?aL ?_; (case aP => exact k24_mkM _ _ _ (⟨a1_0, a1_1, a1_2, a1_3⟩ : S24)); (case aB => exact (by repeat (first | (with_reducible first | exact HB.out | apply below_alloc | apply pw_below_drewN | apply below_drew1 | refine below_set ?_ GE199.out) | exact HB.out))); (case aF => exact (fun k_ hk => Kd.freshB (g := gb199) (o := .cells #[.int .i64 a1_0, .int .i64 a1_1, .int .i64 a1_2, .int .i64 a1_3] 24 (0, 0)) (by (with_reducible repeat (first | refine blk_drewN ?_ _ | refine blk_drew ?_ | refine blk_alloc ?_ _)); exact BK199.out) k_ hk)); (case aO => exact (by (with_reducible repeat (first | apply Kd.R_alloc | apply Kd.R_drewN | apply Kd.R_drew)); exact HO_6.out)); (case aS => exact (below_size (by repeat (first | (with_reducible first | exact HB.out | apply below_alloc | apply pw_below_drewN | apply below_drew1 | refine below_set ?_ GE199.out) | exact HB.out)))); (case aL => have := LMc19.out; omega); intro v208 w27 ho hb hg hat; rw [← Ny207.out] at ho; have n0_ := Aside0.mk (blk_grown (g := gb199) (o := .cells #[.int .i64 a1_0, .int .i64 a1_1, .int .i64 a1_2, .int .i64 a1_3] 24 (0, 0)) (by (with_reducible repeat (first | refine blk_drewN ?_ _ | refine blk_drew ?_ | refine blk_alloc ?_ _)); exact BK199.out) hg (Kd.R_away HO_6.out (fun _ hk => hk))); have n1_ := Aside0.mk (hb); have n2_ := Aside0.mk (ho); clear BK199; clear HB; clear HO_6; have BK199 := n0_; have HB := n1_; have HO209 := n2_; clear n0_ n1_ n2_; clear ho hb hg hat; have p210 : 0 ≤ (x8_2 : Int) := of_decide_eq_true (by first | (with_reducible assumption) | assumption); have q210 : x8_2 < (l0.length : Int) := of_decide_eq_true (by first | (with_reducible assumption) | assumption); obtain ⟨ad210, e210, hx210_0, hx210_1, hx210_2, hx210_3⟩ := at_T24 HR0.out x8_2 p210 q210; obtain rfl : ad205 = ad210 := (by injection e210); replace hx210_0 := (HB.out.cell (World.block_lt_of_cell? w _ hx210_0)).trans hx210_0; replace hx210_1 := (HB.out.cell (World.block_lt_of_cell? w _ hx210_1)).trans hx210_1; replace hx210_2 := (HB.out.cell (World.block_lt_of_cell? w _ hx210_2)).trans hx210_2; replace hx210_3 := (HB.out.cell (World.block_lt_of_cell? w _ hx210_3)).trans hx210_3; replace p210 := eq_true p210; replace q210 := eq_true q210) | ((with_reducible refine gate_builtin (b := .append) (xs := #[.tmp 57, .tmp 62]) rfl ?_); at_builtin; refine Kd.R_append k24 (w0 := w) w.heap.size rfl (.tmp 57) (.tmp 62) 22 24 (.agg #[(.int .i64 0), (.int .i64 0), (.int .i64 0), (.int .i64 0)]) 32 rfl Try.underlying22 info24 rfl (by decide) (by omega) v208 y207 (⟨(rd_T24 l0 x8_2).f0, (rd_T24 l0 x8_2).f1, (rd_T24 l0 x8_2).f2, (rd_T24 l0 x8_2).f3⟩ : S24) [.int .i64 ((rd_T24 l0 x8_2).f0), .int .i64 ((rd_T24 l0 x8_2).f1), .int .i64 ((rd_T24 l0 x8_2).f2), .int .i64 ((rd_T24 l0 x8_2).f3)] (fun k_ => k_ ≠ gb199) (fun _ => False) rfl rfl ?aP (fun _ hk => hk.elim) ?aF ?aO ?aB ?aS ?aL ?_; (case aP => exact k24_mkM _ _ _ (⟨(rd_T24 l0 x8_2).f0, (rd_T24 l0 x8_2).f1, (rd_T24 l0 x8_2).f2, (rd_T24 l0 x8_2).f3⟩ : S24)); (case aB => exact (by repeat (first | (with_reducible first | exact HB.out | apply below_alloc | apply pw_below_drewN | apply below_drew1 | refine below_set ?_ GE199.out) | exact HB.out))); (case aF => exact (fun k_ hk => Kd.freshB (g := gb199) (o := .cells #[.int .i64 a1_0, .int .i64 a1_1, .int .i64 a1_2, .int .i64 a1_3] 24 (0, 0)) (by (with_reducible repeat (first | refine blk_drewN ?_ _ | refine blk_drew ?_ | refine blk_alloc ?_ _)); exact BK199.out) k_ hk)); (case aO => exact (by (with_reducible repeat (first | apply Kd.R_alloc | apply Kd.R_drewN | apply Kd.R_drew)); exact HO209.out)); (case aS => exact (below_size (by repeat (first | (with_reducible first | exact HB.out | apply below_alloc | apply pw_below_drewN | apply below_drew1 | refine below_set ?_ GE199.out) | exact HB.out)))); (case aL => have := LMc25.out; omega); intro v212 w28 ho hb hg hat; rw [← Ny211.out] at ho; have n0_ := Aside0.mk (blk_grown (g := gb199) (o := .cells #[.int .i64 a1_0, .int .i64 a1_1, .int .i64 a1_2, .int .i64 a1_3] 24 (0, 0)) (by (with_reducible repeat (first | refine blk_drewN ?_ _ | refine blk_drew ?_ | refine blk_alloc ?_ _)); exact BK199.out) hg (Kd.R_away HO209.out (fun _ hk => hk))); have n1_ := Aside0.mk (hb); have n2_ := Aside0.mk (ho); clear BK199; clear HB; clear HO209; have BK199 := n0_; have HB := n1_; have HO213 := n2_; clear n0_ n1_ n2_; clear ho hb hg hat))
                repeat (go_quiet (first | ((with_reducible refine gate_builtin (b := .append) (xs := #[.tmp 50, .tmp 52]) rfl ?_); at_builtin; refine Kd.R_append k24 (w0 := w) w.heap.size rfl (.tmp 50) (.tmp 52) 22 24 (.agg #[(.int .i64 0), (.int .i64 0), (.int .i64 0), (.int .i64 0)]) 32 rfl Try.underlying22 info24 rfl (by decide) (by omega) u6 x6_2 (⟨a1_0, a1_1, a1_2, a1_3⟩ : S24) [.int .i64 a1_0, .int .i64 a1_1, .int .i64 a1_2, .int .i64 a1_3] (fun k_ => k_ ≠ gb199) (fun _ => False) rfl rfl ?aP (fun _ hk => hk.elim) ?aF ?aO ?aB ?aS ?aL ?_; (case aP => exact k24_mkM _ _ _ (⟨a1_0, a1_1, a1_2, a1_3⟩ : S24)); (case aB => exact (by repeat (first | (with_reducible first | exact HB.out | apply below_alloc | apply pw_below_drewN | apply below_drew1 | refine below_set ?_ GE199.out) | exact HB.out))); (case aF => exact (fun k_ hk => Kd.freshB (g := gb199) (o := .cells #[.int .i64 a1_0, .int .i64 a1_1, .int .i64 a1_2, .int .i64 a1_3] 24 (0, 0)) (by (with_reducible repeat (first | refine blk_drewN ?_ _ | refine blk_drew ?_ | refine blk_alloc ?_ _)); exact BK199.out) k_ hk)); (case aO => exact (by (with_reducible repeat (first | apply Kd.R_alloc | apply Kd.R_drewN | apply Kd.R_drew)); exact HO_6.out)); (case aS => exact (below_size (by repeat (first | (with_reducible first | exact HB.out | apply below_alloc | apply pw_below_drewN | apply below_drew1 | refine below_set ?_ GE199.out) | exact HB.out)))); (case aL => have := LMc19.out; omega); intro v208 w27 ho hb hg hat; rw [← Ny207.out] at ho; have n0_ := Aside0.mk (blk_grown (g := gb199) (o := .cells #[.int .i64 a1_0, .int .i64 a1_1, .int .i64 a1_2, .int .i64 a1_3] 24 (0, 0)) (by (with_reducible repeat (first | refine blk_drewN ?_ _ | refine blk_drew ?_ | refine blk_alloc ?_ _)); exact BK199.out) hg (Kd.R_away HO_6.out (fun _ hk => hk))); have n1_ := Aside0.mk (hb); have n2_ := Aside0.mk (ho); clear BK199; clear HB; clear HO_6; have BK199 := n0_; have HB := n1_; have HO209 := n2_; clear n0_ n1_ n2_; clear ho hb hg hat; have p210 : 0 ≤ (x8_2 : Int) := of_decide_eq_true (by first | (with_reducible assumption) | assumption); have q210 : x8_2 < (l0.length : Int) := of_decide_eq_true (by first | (with_reducible assumption) | assumption); obtain ⟨ad210, e210, hx210_0, hx210_1, hx210_2, hx210_3⟩ := at_T24 HR0.out x8_2 p210 q210; obtain rfl : ad205 = ad210 := (by injection e210); replace hx210_0 := (HB.out.cell (World.block_lt_of_cell? w _ hx210_0)).trans hx210_0; replace hx210_1 := (HB.out.cell (World.block_lt_of_cell? w _ hx210_1)).trans hx210_1; replace hx210_2 := (HB.out.cell (World.block_lt_of_cell? w _ hx210_2)).trans hx210_2; replace hx210_3 := (HB.out.cell (World.block_lt_of_cell? w _ hx210_3)).trans hx210_3; replace p210 := eq_true p210; replace q210 := eq_true q210) | ((with_reducible refine gate_builtin (b := .append) (xs := #[.tmp 57, .tmp 62]) rfl ?_); at_builtin; refine Kd.R_append k24 (w0 := w) w.heap.size rfl (.tmp 57) (.tmp 62) 22 24 (.agg #[(.int .i64 0), (.int .i64 0), (.int .i64 0), (.int .i64 0)]) 32 rfl Try.underlying22 info24 rfl (by decide) (by omega) v208 y207 (⟨(rd_T24 l0 x8_2).f0, (rd_T24 l0 x8_2).f1, (rd_T24 l0 x8_2).f2, (rd_T24 l0 x8_2).f3⟩ : S24) [.int .i64 ((rd_T24 l0 x8_2).f0), .int .i64 ((rd_T24 l0 x8_2).f1), .int .i64 ((rd_T24 l0 x8_2).f2), .int .i64 ((rd_T24 l0 x8_2).f3)] (fun k_ => k_ ≠ gb199) (fun _ => False) rfl rfl ?aP (fun _ hk => hk.elim) ?aF ?aO ?aB ?aS ?aL ?_; (case aP => exact k24_mkM _ _ _ (⟨(rd_T24 l0 x8_2).f0, (rd_T24 l0 x8_2).f1, (rd_T24 l0 x8_2).f2, (rd_T24 l0 x8_2).f3⟩ : S24)); (case aB => exact (by repeat (first | (with_reducible first | exact HB.out | apply below_alloc | apply pw_below_drewN | apply below_drew1 | refine below_set ?_ GE199.out) | exact HB.out))); (case aF => exact (fun k_ hk => Kd.freshB (g := gb199) (o := .cells #[.int .i64 a1_0, .int .i64 a1_1, .int .i64 a1_2, .int .i64 a1_3] 24 (0, 0)) (by (with_reducible repeat (first | refine blk_drewN ?_ _ | refine blk_drew ?_ | refine blk_alloc ?_ _)); exact BK199.out) k_ hk)); (case aO => exact (by (with_reducible repeat (first | apply Kd.R_alloc | apply Kd.R_drewN | apply Kd.R_drew)); exact HO209.out)); (case aS => exact (below_size (by repeat (first | (with_reducible first | exact HB.out | apply below_alloc | apply pw_below_drewN | apply below_drew1 | refine below_set ?_ GE199.out) | exact HB.out)))); (case aL => have := LMc25.out; omega); intro v212 w28 ho hb hg hat; rw [← Ny211.out] at ho; have n0_ := Aside0.mk (blk_grown (g := gb199) (o := .cells #[.int .i64 a1_0, .int .i64 a1_1, .int .i64 a1_2, .int .i64 a1_3] 24 (0, 0)) (by (with_reducible repeat (first | refine blk_drewN ?_ _ | refine blk_drew ?_ | refine blk_alloc ?_ _)); exact BK199.out) hg (Kd.R_away HO209.out (fun _ hk => hk))); have n1_ := Aside0.mk (hb); have n2_ := Aside0.mk (ho); clear BK199; clear HB; clear HO209; have BK199 := n0_; have HB := n1_; have HO213 := n2_; clear n0_ n1_ n2_; clear ho hb hg hat)); try go_wp2_with (first | ((with_reducible refine gate_builtin (b := .append) (xs := #[.tmp 50, .tmp 52]) rfl ?_); at_builtin; refine Kd.R_append k24 (w0 := w) w.heap.size rfl (.tmp 50) (.tmp 52) 22 24 (.agg #[(.int .i64 0), (.int .i64 0), (.int .i64 0), (.int .i64 0)]) 32 rfl Try.underlying22 info24 rfl (by decide) (by omega) u6 x6_2 (⟨a1_0, a1_1, a1_2, a1_3⟩ : S24) [.int .i64 a1_0, .int .i64 a1_1, .int .i64 a1_2, .int .i64 a1_3] (fun k_ => k_ ≠ gb199) (fun _ => False) rfl rfl ?aP (fun _ hk => hk.elim) ?aF ?aO ?aB ?aS ?aL ?_; (case aP => exact k24_mkM _ _ _ (⟨a1_0, a1_1, a1_2, a1_3⟩ : S24)); (case aB => exact (by repeat (first | (with_reducible first | exact HB.out | apply below_alloc | apply pw_below_drewN | apply below_drew1 | refine below_set ?_ GE199.out) | exact HB.out))); (case aF => exact (fun k_ hk => Kd.freshB (g := gb199) (o := .cells #[.int .i64 a1_0, .int .i64 a1_1, .int .i64 a1_2, .int .i64 a1_3] 24 (0, 0)) (by (with_reducible repeat (first | refine blk_drewN ?_ _ | refine blk_drew ?_ | refine blk_alloc ?_ _)); exact BK199.out) k_ hk)); (case aO => exact (by (with_reducible repeat (first | apply Kd.R_alloc | apply Kd.R_drewN | apply Kd.R_drew)); exact HO_6.out)); (case aS => exact (below_size (by repeat (first | (with_reducible first | exact HB.out | apply below_alloc | apply pw_below_drewN | apply below_drew1 | refine below_set ?_ GE199.out) | exact HB.out)))); (case aL => have := LMc19.out; omega); intro v208 w27 ho hb hg hat; rw [← Ny207.out] at ho; have n0_ := Aside0.mk (blk_grown (g := gb199) (o := .cells #[.int .i64 a1_0, .int .i64 a1_1, .int .i64 a1_2, .int .i64 a1_3] 24 (0, 0)) (by (with_reducible repeat (first | refine blk_drewN ?_ _ | refine blk_drew ?_ | refine blk_alloc ?_ _)); exact BK199.out) hg (Kd.R_away HO_6.out (fun _ hk => hk))); have n1_ := Aside0.mk (hb); have n2_ := Aside0.mk (ho); clear BK199; clear HB; clear HO_6; have BK199 := n0_; have HB := n1_; have HO209 := n2_; clear n0_ n1_ n2_; clear ho hb hg hat; have p210 : 0 ≤ (x8_2 : Int) := of_decide_eq_true (by first | (with_reducible assumption) | assumption); have q210 : x8_2 < (l0.length : Int) := of_decide_eq_true (by first | (with_reducible assumption) | assumption); obtain ⟨ad210, e210, hx210_0, hx210_1, hx210_2, hx210_3⟩ := at_T24 HR0.out x8_2 p210 q210; obtain rfl : ad205 = ad210 := (by injection e210); replace hx210_0 := (HB.out.cell (World.block_lt_of_cell? w _ hx210_0)).trans hx210_0; replace hx210_1 := (HB.out.cell (World.block_lt_of_cell? w _ hx210_1)).trans hx210_1; replace hx210_2 := (HB.out.cell (World.block_lt_of_cell? w _ hx210_2)).trans hx210_2; replace hx210_3 := (HB.out.cell (World.block_lt_of_cell? w _ hx210_3)).trans hx210_3; replace p210 := eq_true p210; replace q210 := eq_true q210) | ((with_reducible refine gate_builtin (b := .append) (xs := #[.tmp 57, .tmp 62]) rfl ?_); at_builtin; refine Kd.R_append k24 (w0 := w) w.heap.size rfl (.tmp 57) (.tmp 62) 22 24 (.agg #[(.int .i64 0), (.int .i64 0), (.int .i64 0), (.int .i64 0)]) 32 rfl Try.underlying22 info24 rfl (by decide) (by omega) v208 y207 (⟨(rd_T24 l0 x8_2).f0, (rd_T24 l0 x8_2).f1, (rd_T24 l0 x8_2).f2, (rd_T24 l0 x8_2).f3⟩ : S24) [.int .i64 ((rd_T24 l0 x8_2).f0), .int .i64 ((rd_T24 l0 x8_2).f1), .int .i64 ((rd_T24 l0 x8_2).f2), .int .i64 ((rd_T24 l0 x8_2).f3)] (fun k_ => k_ ≠ gb199) (fun _ => False) rfl rfl ?aP (fun _ hk => hk.elim) ?aF ?aO ?aB ?aS ?aL ?_; (case aP => exact k24_mkM _ _ _ (⟨(rd_T24 l0 x8_2).f0, (rd_T24 l0 x8_2).f1, (rd_T24 l0 x8_2).f2, (rd_T24 l0 x8_2).f3⟩ : S24)); (case aB => exact (by repeat (first | (with_reducible first | exact HB.out | apply below_alloc | apply pw_below_drewN | apply below_drew1 | refine below_set ?_ GE199.out) | exact HB.out))); (case aF => exact (fun k_ hk => Kd.freshB (g := gb199) (o := .cells #[.int .i64 a1_0, .int .i64 a1_1, .int .i64 a1_2, .int .i64 a1_3] 24 (0, 0)) (by (with_reducible repeat (first | refine blk_drewN ?_ _ | refine blk_drew ?_ | refine blk_alloc ?_ _)); exact BK199.out) k_ hk)); (case aO => exact (by (with_reducible repeat (first | apply Kd.R_alloc | apply Kd.R_drewN | apply Kd.R_drew)); exact HO209.out)); (case aS => exact (below_size (by repeat (first | (with_reducible first | exact HB.out | apply below_alloc | apply pw_below_drewN | apply below_drew1 | refine below_set ?_ GE199.out) | exact HB.out)))); (case aL => have := LMc25.out; omega); intro v212 w28 ho hb hg hat; rw [← Ny211.out] at ho; have n0_ := Aside0.mk (blk_grown (g := gb199) (o := .cells #[.int .i64 a1_0, .int .i64 a1_1, .int .i64 a1_2, .int .i64 a1_3] 24 (0, 0)) (by (with_reducible repeat (first | refine blk_drewN ?_ _ | refine blk_drew ?_ | refine blk_alloc ?_ _)); exact BK199.out) hg (Kd.R_away HO209.out (fun _ hk => hk))); have n1_ := Aside0.mk (hb); have n2_ := Aside0.mk (ho); clear BK199; clear HB; clear HO209; have BK199 := n0_; have HB := n1_; have HO213 := n2_; clear n0_ n1_ n2_; clear ho hb hg hat)))
                go_roundg kj14
                case measure => have := HJ2.out; have := HK2.out; have := HJ14.out; omega
                case rel => exact ⟨(y211), (true), (wrap64 (x8_2 + 1)), (by first | rfl | (simp; done) | (simp [*]; done)), (by first | rfl | (simp; done) | (simp [*]; done)), H', ⟨by have := HJ2.out; have := HK2.out; have := HJ14.out; omega⟩, ⟨by (with_reducible repeat (first | apply Kd.R_alloc | apply Kd.R_drewN | apply Kd.R_drew)); exact HO213.out⟩, ⟨by (with_reducible repeat (first | refine blk_drewN ?_ _ | refine blk_drew ?_ | refine blk_alloc ?_ _)); exact BK199.out⟩, ⟨by repeat (first | (with_reducible first | exact HB.out | apply below_alloc | apply pw_below_drewN | apply below_drew1 | refine below_set ?_ GE199.out) | exact HB.out)⟩⟩
               ·rw [if_neg c25] at H
                exact absurd H (by simp)
              ·rw [if_neg c24] at H
               exact absurd H (by simp)
             ·rw [if_neg c23] at H
              exact absurd H (by simp)
           ·rw [if_neg c19] at H
            exact absurd H (by simp)
          ·replace c18 := Bool.eq_false_iff.mpr c18
           subst c18
           have H1 : (if (wrap64 ((wrap64 (8 * ((rd_T24 l0 x8_2).f0))) + ((rd_T24 l0 x8_2).f1))) = (wrap64 ((wrap64 (8 * a1_0)) + a1_1)) then (watchwordref9_WithLast.l0 kj14 l0 x6_2 x7_2 (wrap64 (x8_2 + 1)) a1_0 a1_1 a1_2 a1_3) else (if 0 ≤ x8_2 then (if x8_2 < (l0.length : Int) then (if x6_2.length < 4398046511104 then (watchwordref9_WithLast.l0 kj14 l0 (x6_2 ++ [(⟨(rd_T24 l0 x8_2).f0, (rd_T24 l0 x8_2).f1, (rd_T24 l0 x8_2).f2, (rd_T24 l0 x8_2).f3⟩ : S24)]) x7_2 (wrap64 (x8_2 + 1)) a1_0 a1_1 a1_2 a1_3) else (none)) else (none)) else (none))) = some (r1, r2) := by rw [if_neg (show ¬ (false = true) by decide)] at H; exact H
           clear H
           have H := H1
           clear H1
           by_cases c29 : (wrap64 ((wrap64 (8 * ((rd_T24 l0 x8_2).f0))) + ((rd_T24 l0 x8_2).f1))) = (wrap64 ((wrap64 (8 * a1_0)) + a1_1))
           ·rw [if_pos c29] at H
            have c29b0 : ((wrap64 ((wrap64 (8 * ((rd_T24 l0 x8_2).f0))) + ((rd_T24 l0 x8_2).f1))) == (wrap64 ((wrap64 (8 * a1_0)) + a1_1))) = true := beq_iff_eq.mpr c29
            have c29b1 : ((wrap64 ((wrap64 (8 * ((rd_T24 l0 x8_2).f0))) + ((rd_T24 l0 x8_2).f1))) != (wrap64 ((wrap64 (8 * a1_0)) + a1_1))) = false := bne_eq_false_iff_eq.mpr c29
            clear c29
            have H' := Aside0.mk H
            clear H
            go_wp2
            repeat (go_quiet (fail); try go_wp2)
            go_roundg kj14
            case measure => have := HJ2.out; have := HK2.out; have := HJ14.out; omega
            case rel => exact ⟨(x6_2), (x7_2), (wrap64 (x8_2 + 1)), (by first | rfl | (simp; done) | (simp [*]; done)), (by first | rfl | (simp; done) | (simp [*]; done)), H', ⟨by have := HJ2.out; have := HK2.out; have := HJ14.out; omega⟩, ⟨by (with_reducible repeat (first | apply Kd.R_alloc | apply Kd.R_drewN | apply Kd.R_drew)); exact HO_6.out⟩, ⟨by (with_reducible repeat (first | refine blk_drewN ?_ _ | refine blk_drew ?_ | refine blk_alloc ?_ _)); exact BK199.out⟩, ⟨by repeat (first | (with_reducible first | exact HB.out | apply below_alloc | apply pw_below_drewN | apply below_drew1 | refine below_set ?_ GE199.out) | exact HB.out)⟩⟩
           ·rw [if_neg c29] at H
            have c29b0 : ((wrap64 ((wrap64 (8 * ((rd_T24 l0 x8_2).f0))) + ((rd_T24 l0 x8_2).f1))) == (wrap64 ((wrap64 (8 * a1_0)) + a1_1))) = false := beq_eq_false_iff_ne.mpr c29
            have c29b1 : ((wrap64 ((wrap64 (8 * ((rd_T24 l0 x8_2).f0))) + ((rd_T24 l0 x8_2).f1))) != (wrap64 ((wrap64 (8 * a1_0)) + a1_1))) = true := bne_iff_ne.mpr c29
            by_cases c30 : 0 ≤ x8_2
            ·rw [if_pos c30] at H
             have c30b0 : decide (0 ≤ x8_2) = true := decide_eq_true c30
             clear c30
             by_cases c31 : x8_2 < (l0.length : Int)
             ·rw [if_pos c31] at H
              have c31b0 : decide (x8_2 < (l0.length : Int)) = true := decide_eq_true c31
              clear c31
              by_cases c32 : x6_2.length < 4398046511104
              ·rw [if_pos c32] at H
               have LMc32 := Aside0.mk c32
               clear c32
               obtain ⟨y215, hy215⟩ : ∃ y_ : List (S24), y_ = (x6_2 ++ [(⟨(rd_T24 l0 x8_2).f0, (rd_T24 l0 x8_2).f1, (rd_T24 l0 x8_2).f2, (rd_T24 l0 x8_2).f3⟩ : S24)]) := ⟨_, rfl⟩
               replace H : (watchwordref9_WithLast.l0 kj14 l0 y215 x7_2 (wrap64 (x8_2 + 1)) a1_0 a1_1 a1_2 a1_3) = some (r1, r2) := by first | (rw [hy215]; with_reducible exact H) | (have H2_ := (Option.bind_some _ _).symm.trans H; rw [hy215]; with_reducible exact H2_) | (have H2_ := (Option.bind_some _ _).symm.trans H; with_reducible exact H2_) | with_reducible exact H | (rw [hy215]; exact H) | exact H
               have Ny215 := Aside0.mk hy215
               clear hy215
               have H' := Aside0.mk H
               clear H
               have p214 : 0 ≤ (x8_2 : Int) := of_decide_eq_true (by first | (with_reducible assumption) | assumption)
               have q214 : x8_2 < (l0.length : Int) := of_decide_eq_true (by first | (with_reducible assumption) | assumption)
               obtain ⟨ad214, e214, hx214_0, hx214_1, hx214_2, hx214_3⟩ := at_T24 HR0.out x8_2 p214 q214
               obtain rfl : ad205 = ad214 := (by injection e214)
               replace hx214_0 := (HB.out.cell (World.block_lt_of_cell? w _ hx214_0)).trans hx214_0
               replace hx214_1 := (HB.out.cell (World.block_lt_of_cell? w _ hx214_1)).trans hx214_1
               replace hx214_2 := (HB.out.cell (World.block_lt_of_cell? w _ hx214_2)).trans hx214_2
               replace hx214_3 := (HB.out.cell (World.block_lt_of_cell? w _ hx214_3)).trans hx214_3
               replace p214 := eq_true p214
               replace q214 := eq_true q214
               go_wp2_with (first | ((with_reducible refine gate_builtin (b := .append) (xs := #[.tmp 57, .tmp 62]) rfl ?_); at_builtin; refine Kd.R_append k24 (w0 := w) w.heap.size rfl (.tmp 57) (.tmp 62) 22 24 (.agg #[(.int .i64 0), (.int .i64 0), (.int .i64 0), (.int .i64 0)]) 32 rfl Try.underlying22 info24 rfl (by decide) (by omega) u6 x6_2 (⟨(rd_T24 l0 x8_2).f0, (rd_T24 l0 x8_2).f1, (rd_T24 l0 x8_2).f2, (rd_T24 l0 x8_2).f3⟩ : S24) [.int .i64 ((rd_T24 l0 x8_2).f0), .int .i64 ((rd_T24 l0 x8_2).f1), .int .i64 ((rd_T24 l0 x8_2).f2), .int .i64 ((rd_T24 l0 x8_2).f3)] (fun k_ => k_ ≠ gb199) (fun _ => False) rfl rfl ?aP (fun _ hk => hk.elim) ?aF ?aO ?aB ?aS ?aL ?_; (case aP => exact k24_mkM _ _ _ (⟨(rd_T24 l0 x8_2).f0, (rd_T24 l0 x8_2).f1, (rd_T24 l0 x8_2).f2, (rd_T24 l0 x8_2).f3⟩ : S24)); (case aB => exact (by repeat (first | (with_reducible first | exact HB.out | apply below_alloc | apply pw_below_drewN | apply below_drew1 | refine below_set ?_ GE199.out) | exact HB.out))); (case aF => exact (fun k_ hk => Kd.freshB (g := gb199) (o := .cells #[.int .i64 a1_0, .int .i64 a1_1, .int .i64 a1_2, .int .i64 a1_3] 24 (0, 0)) (by (with_reducible repeat (first | refine blk_drewN ?_ _ | refine blk_drew ?_ | refine blk_alloc ?_ _)); exact BK199.out) k_ hk)); (case aO => exact (by (with_reducible repeat (first | apply Kd.R_alloc | apply Kd.R_drewN | apply Kd.R_drew)); exact HO_6.out)); (case aS => exact (below_size (by repeat (first | (with_reducible first | exact HB.out | apply below_alloc | apply pw_below_drewN | apply below_drew1 | refine below_set ?_ GE199.out) | exact HB.out)))); (case aL => have := LMc32.out; omega); intro v216 w33 ho hb hg hat; rw [← Ny215.out] at ho; have n0_ := Aside0.mk (blk_grown (g := gb199) (o := .cells #[.int .i64 a1_0, .int .i64 a1_1, .int .i64 a1_2, .int .i64 a1_3] 24 (0, 0)) (by (with_reducible repeat (first | refine blk_drewN ?_ _ | refine blk_drew ?_ | refine blk_alloc ?_ _)); exact BK199.out) hg (Kd.R_away HO_6.out (fun _ hk => hk))); have n1_ := Aside0.mk (hb); have n2_ := Aside0.mk (ho); clear BK199; clear HB; clear HO_6; have BK199 := n0_; have HB := n1_; have HO217 := n2_; clear n0_ n1_ n2_; clear ho hb hg hat))
               repeat (go_quiet (first | ((with_reducible refine gate_builtin (b := .append) (xs := #[.tmp 57, .tmp 62]) rfl ?_); at_builtin; refine Kd.R_append k24 (w0 := w) w.heap.size rfl (.tmp 57) (.tmp 62) 22 24 (.agg #[(.int .i64 0), (.int .i64 0), (.int .i64 0), (.int .i64 0)]) 32 rfl Try.underlying22 info24 rfl (by decide) (by omega) u6 x6_2 (⟨(rd_T24 l0 x8_2).f0, (rd_T24 l0 x8_2).f1, (rd_T24 l0 x8_2).f2, (rd_T24 l0 x8_2).f3⟩ : S24) [.int .i64 ((rd_T24 l0 x8_2).f0), .int .i64 ((rd_T24 l0 x8_2).f1), .int .i64 ((rd_T24 l0 x8_2).f2), .int .i64 ((rd_T24 l0 x8_2).f3)] (fun k_ => k_ ≠ gb199) (fun _ => False) rfl rfl ?aP (fun _ hk => hk.elim) ?aF ?aO ?aB ?aS ?aL ?_; (case aP => exact k24_mkM _ _ _ (⟨(rd_T24 l0 x8_2).f0, (rd_T24 l0 x8_2).f1, (rd_T24 l0 x8_2).f2, (rd_T24 l0 x8_2).f3⟩ : S24)); (case aB => exact (by repeat (first | (with_reducible first | exact HB.out | apply below_alloc | apply pw_below_drewN | apply below_drew1 | refine below_set ?_ GE199.out) | exact HB.out))); (case aF => exact (fun k_ hk => Kd.freshB (g := gb199) (o := .cells #[.int .i64 a1_0, .int .i64 a1_1, .int .i64 a1_2, .int .i64 a1_3] 24 (0, 0)) (by (with_reducible repeat (first | refine blk_drewN ?_ _ | refine blk_drew ?_ | refine blk_alloc ?_ _)); exact BK199.out) k_ hk)); (case aO => exact (by (with_reducible repeat (first | apply Kd.R_alloc | apply Kd.R_drewN | apply Kd.R_drew)); exact HO_6.out)); (case aS => exact (below_size (by repeat (first | (with_reducible first | exact HB.out | apply below_alloc | apply pw_below_drewN | apply below_drew1 | refine below_set ?_ GE199.out) | exact HB.out)))); (case aL => have := LMc32.out; omega); intro v216 w33 ho hb hg hat; rw [← Ny215.out] at ho; have n0_ := Aside0.mk (blk_grown (g := gb199) (o := .cells #[.int .i64 a1_0, .int .i64 a1_1, .int .i64 a1_2, .int .i64 a1_3] 24 (0, 0)) (by (with_reducible repeat (first | refine blk_drewN ?_ _ | refine blk_drew ?_ | refine blk_alloc ?_ _)); exact BK199.out) hg (Kd.R_away HO_6.out (fun _ hk => hk))); have n1_ := Aside0.mk (hb); have n2_ := Aside0.mk (ho); clear BK199; clear HB; clear HO_6; have BK199 := n0_; have HB := n1_; have HO217 := n2_; clear n0_ n1_ n2_; clear ho hb hg hat)); try go_wp2_with (first | ((with_reducible refine gate_builtin (b := .append) (xs := #[.tmp 57, .tmp 62]) rfl ?_); at_builtin; refine Kd.R_append k24 (w0 := w) w.heap.size rfl (.tmp 57) (.tmp 62) 22 24 (.agg #[(.int .i64 0), (.int .i64 0), (.int .i64 0), (.int .i64 0)]) 32 rfl Try.underlying22 info24 rfl (by decide) (by omega) u6 x6_2 (⟨(rd_T24 l0 x8_2).f0, (rd_T24 l0 x8_2).f1, (rd_T24 l0 x8_2).f2, (rd_T24 l0 x8_2).f3⟩ : S24) [.int .i64 ((rd_T24 l0 x8_2).f0), .int .i64 ((rd_T24 l0 x8_2).f1), .int .i64 ((rd_T24 l0 x8_2).f2), .int .i64 ((rd_T24 l0 x8_2).f3)] (fun k_ => k_ ≠ gb199) (fun _ => False) rfl rfl ?aP (fun _ hk => hk.elim) ?aF ?aO ?aB ?aS ?aL ?_; (case aP => exact k24_mkM _ _ _ (⟨(rd_T24 l0 x8_2).f0, (rd_T24 l0 x8_2).f1, (rd_T24 l0 x8_2).f2, (rd_T24 l0 x8_2).f3⟩ : S24)); (case aB => exact (by repeat (first | (with_reducible first | exact HB.out | apply below_alloc | apply pw_below_drewN | apply below_drew1 | refine below_set ?_ GE199.out) | exact HB.out))); (case aF => exact (fun k_ hk => Kd.freshB (g := gb199) (o := .cells #[.int .i64 a1_0, .int .i64 a1_1, .int .i64 a1_2, .int .i64 a1_3] 24 (0, 0)) (by (with_reducible repeat (first | refine blk_drewN ?_ _ | refine blk_drew ?_ | refine blk_alloc ?_ _)); exact BK199.out) k_ hk)); (case aO => exact (by (with_reducible repeat (first | apply Kd.R_alloc | apply Kd.R_drewN | apply Kd.R_drew)); exact HO_6.out)); (case aS => exact (below_size (by repeat (first | (with_reducible first | exact HB.out | apply below_alloc | apply pw_below_drewN | apply below_drew1 | refine below_set ?_ GE199.out) | exact HB.out)))); (case aL => have := LMc32.out; omega); intro v216 w33 ho hb hg hat; rw [← Ny215.out] at ho; have n0_ := Aside0.mk (blk_grown (g := gb199) (o := .cells #[.int .i64 a1_0, .int .i64 a1_1, .int .i64 a1_2, .int .i64 a1_3] 24 (0, 0)) (by (with_reducible repeat (first | refine blk_drewN ?_ _ | refine blk_drew ?_ | refine blk_alloc ?_ _)); exact BK199.out) hg (Kd.R_away HO_6.out (fun _ hk => hk))); have n1_ := Aside0.mk (hb); have n2_ := Aside0.mk (ho); clear BK199; clear HB; clear HO_6; have BK199 := n0_; have HB := n1_; have HO217 := n2_; clear n0_ n1_ n2_; clear ho hb hg hat)))
               go_roundg kj14
               case measure => have := HJ2.out; have := HK2.out; have := HJ14.out; omega
               case rel => exact ⟨(y215), (x7_2), (wrap64 (x8_2 + 1)), (by first | rfl | (simp; done) | (simp [*]; done)), (by first | rfl | (simp; done) | (simp [*]; done)), H', ⟨by have := HJ2.out; have := HK2.out; have := HJ14.out; omega⟩, ⟨by (with_reducible repeat (first | apply Kd.R_alloc | apply Kd.R_drewN | apply Kd.R_drew)); exact HO217.out⟩, ⟨by (with_reducible repeat (first | refine blk_drewN ?_ _ | refine blk_drew ?_ | refine blk_alloc ?_ _)); exact BK199.out⟩, ⟨by repeat (first | (with_reducible first | exact HB.out | apply below_alloc | apply pw_below_drewN | apply below_drew1 | refine below_set ?_ GE199.out) | exact HB.out)⟩⟩
              ·rw [if_neg c32] at H
               exact absurd H (by simp)
             ·rw [if_neg c31] at H
              exact absurd H (by simp)
            ·rw [if_neg c30] at H
             exact absurd H (by simp)
       ·rw [if_neg c14] at H
        exact absurd H (by simp)
      ·rw [if_neg c13] at H
       have c13b0 : decide (x8_2 < (l0.length : Int)) = false := decide_eq_false c13
       clear c13
       by_cases c34 : x7_2 = true
       ·subst c34
        have H1 : (some (x6_2, 0)) = some (r1, r2) := by rw [if_pos rfl] at H; exact H
        clear H
        have H := H1
        clear H1
        simp only [Option.some.injEq, Prod.mk.injEq] at H
        obtain ⟨rfl, rfl⟩ := H
        go_wp2
        repeat (go_quiet (fail); try go_wp2)
        go_ret2
        exact ⟨_, by first | rfl | (simp [errW_none, errW_some] <;> rfl) | (simp [*, errW_none, errW_some] <;> rfl), by (with_reducible repeat (first | apply Kd.R_alloc | apply Kd.R_drewN | apply Kd.R_drew)); exact Kd.R_mono HO_6.out (fun _ hk => trivial), by repeat (first | (with_reducible first | exact HB.out | apply below_alloc | apply pw_below_drewN | apply below_drew1 | refine below_set ?_ GE199.out) | exact HB.out)⟩
       ·replace c34 := Bool.eq_false_iff.mpr c34
        subst c34
        have H1 : (if x6_2.length < 4398046511104 then (some ((x6_2 ++ [(⟨a1_0, a1_1, a1_2, a1_3⟩ : S24)]), 0)) else (none)) = some (r1, r2) := by rw [if_neg (show ¬ (false = true) by decide)] at H; exact H
        clear H
        have H := H1
        clear H1
        by_cases c35 : x6_2.length < 4398046511104
        ·rw [if_pos c35] at H
         have LMc35 := Aside0.mk c35
         clear c35
         obtain ⟨y202, hy202⟩ : ∃ y_ : List (S24), y_ = (x6_2 ++ [(⟨a1_0, a1_1, a1_2, a1_3⟩ : S24)]) := ⟨_, rfl⟩
         replace H : (some (y202, 0)) = some (r1, r2) := by first | (rw [hy202]; with_reducible exact H) | (have H2_ := (Option.bind_some _ _).symm.trans H; rw [hy202]; with_reducible exact H2_) | (have H2_ := (Option.bind_some _ _).symm.trans H; with_reducible exact H2_) | with_reducible exact H | (rw [hy202]; exact H) | exact H
         have Ny202 := Aside0.mk hy202
         clear hy202
         simp only [Option.some.injEq, Prod.mk.injEq] at H
         obtain ⟨rfl, rfl⟩ := H
         have hcz36_0 : wr.cell? ⟨gb199, 0, none⟩ = some (.int .i64 a1_0) := (blk_cell BK199.out 0).trans rfl
         have hcz36_1 : wr.cell? ⟨gb199, 1, none⟩ = some (.int .i64 a1_1) := (blk_cell BK199.out 1).trans rfl
         have hcz36_2 : wr.cell? ⟨gb199, 2, none⟩ = some (.int .i64 a1_2) := (blk_cell BK199.out 2).trans rfl
         have hcz36_3 : wr.cell? ⟨gb199, 3, none⟩ = some (.int .i64 a1_3) := (blk_cell BK199.out 3).trans rfl
         have hfz36_0 := blk_frozen BK199.out 0
         have hfz36_1 := blk_frozen BK199.out 1
         have hfz36_2 := blk_frozen BK199.out 2
         have hfz36_3 := blk_frozen BK199.out 3
         go_wp2_with (first | ((with_reducible refine gate_builtin (b := .append) (xs := #[.tmp 66, .tmp 68]) rfl ?_); at_builtin; refine Kd.R_append k24 (w0 := w) w.heap.size rfl (.tmp 66) (.tmp 68) 22 24 (.agg #[(.int .i64 0), (.int .i64 0), (.int .i64 0), (.int .i64 0)]) 32 rfl Try.underlying22 info24 rfl (by decide) (by omega) u6 x6_2 (⟨a1_0, a1_1, a1_2, a1_3⟩ : S24) [.int .i64 a1_0, .int .i64 a1_1, .int .i64 a1_2, .int .i64 a1_3] (fun k_ => k_ ≠ gb199) (fun _ => False) rfl rfl ?aP (fun _ hk => hk.elim) ?aF ?aO ?aB ?aS ?aL ?_; (case aP => exact k24_mkM _ _ _ (⟨a1_0, a1_1, a1_2, a1_3⟩ : S24)); (case aB => exact (by repeat (first | (with_reducible first | exact HB.out | apply below_alloc | apply pw_below_drewN | apply below_drew1 | refine below_set ?_ GE199.out) | exact HB.out))); (case aF => exact (fun k_ hk => Kd.freshB (g := gb199) (o := .cells #[.int .i64 a1_0, .int .i64 a1_1, .int .i64 a1_2, .int .i64 a1_3] 24 (0, 0)) (by (with_reducible repeat (first | refine blk_drewN ?_ _ | refine blk_drew ?_ | refine blk_alloc ?_ _)); exact BK199.out) k_ hk)); (case aO => exact (by (with_reducible repeat (first | apply Kd.R_alloc | apply Kd.R_drewN | apply Kd.R_drew)); exact HO_6.out)); (case aS => exact (below_size (by repeat (first | (with_reducible first | exact HB.out | apply below_alloc | apply pw_below_drewN | apply below_drew1 | refine below_set ?_ GE199.out) | exact HB.out)))); (case aL => have := LMc35.out; omega); intro v203 w37 ho hb hg hat; rw [← Ny202.out] at ho; have n0_ := Aside0.mk (blk_grown (g := gb199) (o := .cells #[.int .i64 a1_0, .int .i64 a1_1, .int .i64 a1_2, .int .i64 a1_3] 24 (0, 0)) (by (with_reducible repeat (first | refine blk_drewN ?_ _ | refine blk_drew ?_ | refine blk_alloc ?_ _)); exact BK199.out) hg (Kd.R_away HO_6.out (fun _ hk => hk))); have n1_ := Aside0.mk (hb); have n2_ := Aside0.mk (ho); clear BK199; clear HB; clear HO_6; have BK199 := n0_; have HB := n1_; have HO204 := n2_; clear n0_ n1_ n2_; clear ho hb hg hat))
         repeat (go_quiet (first | ((with_reducible refine gate_builtin (b := .append) (xs := #[.tmp 66, .tmp 68]) rfl ?_); at_builtin; refine Kd.R_append k24 (w0 := w) w.heap.size rfl (.tmp 66) (.tmp 68) 22 24 (.agg #[(.int .i64 0), (.int .i64 0), (.int .i64 0), (.int .i64 0)]) 32 rfl Try.underlying22 info24 rfl (by decide) (by omega) u6 x6_2 (⟨a1_0, a1_1, a1_2, a1_3⟩ : S24) [.int .i64 a1_0, .int .i64 a1_1, .int .i64 a1_2, .int .i64 a1_3] (fun k_ => k_ ≠ gb199) (fun _ => False) rfl rfl ?aP (fun _ hk => hk.elim) ?aF ?aO ?aB ?aS ?aL ?_; (case aP => exact k24_mkM _ _ _ (⟨a1_0, a1_1, a1_2, a1_3⟩ : S24)); (case aB => exact (by repeat (first | (with_reducible first | exact HB.out | apply below_alloc | apply pw_below_drewN | apply below_drew1 | refine below_set ?_ GE199.out) | exact HB.out))); (case aF => exact (fun k_ hk => Kd.freshB (g := gb199) (o := .cells #[.int .i64 a1_0, .int .i64 a1_1, .int .i64 a1_2, .int .i64 a1_3] 24 (0, 0)) (by (with_reducible repeat (first | refine blk_drewN ?_ _ | refine blk_drew ?_ | refine blk_alloc ?_ _)); exact BK199.out) k_ hk)); (case aO => exact (by (with_reducible repeat (first | apply Kd.R_alloc | apply Kd.R_drewN | apply Kd.R_drew)); exact HO_6.out)); (case aS => exact (below_size (by repeat (first | (with_reducible first | exact HB.out | apply below_alloc | apply pw_below_drewN | apply below_drew1 | refine below_set ?_ GE199.out) | exact HB.out)))); (case aL => have := LMc35.out; omega); intro v203 w37 ho hb hg hat; rw [← Ny202.out] at ho; have n0_ := Aside0.mk (blk_grown (g := gb199) (o := .cells #[.int .i64 a1_0, .int .i64 a1_1, .int .i64 a1_2, .int .i64 a1_3] 24 (0, 0)) (by (with_reducible repeat (first | refine blk_drewN ?_ _ | refine blk_drew ?_ | refine blk_alloc ?_ _)); exact BK199.out) hg (Kd.R_away HO_6.out (fun _ hk => hk))); have n1_ := Aside0.mk (hb); have n2_ := Aside0.mk (ho); clear BK199; clear HB; clear HO_6; have BK199 := n0_; have HB := n1_; have HO204 := n2_; clear n0_ n1_ n2_; clear ho hb hg hat)); try go_wp2_with (first | ((with_reducible refine gate_builtin (b := .append) (xs := #[.tmp 66, .tmp 68]) rfl ?_); at_builtin; refine Kd.R_append k24 (w0 := w) w.heap.size rfl (.tmp 66) (.tmp 68) 22 24 (.agg #[(.int .i64 0), (.int .i64 0), (.int .i64 0), (.int .i64 0)]) 32 rfl Try.underlying22 info24 rfl (by decide) (by omega) u6 x6_2 (⟨a1_0, a1_1, a1_2, a1_3⟩ : S24) [.int .i64 a1_0, .int .i64 a1_1, .int .i64 a1_2, .int .i64 a1_3] (fun k_ => k_ ≠ gb199) (fun _ => False) rfl rfl ?aP (fun _ hk => hk.elim) ?aF ?aO ?aB ?aS ?aL ?_; (case aP => exact k24_mkM _ _ _ (⟨a1_0, a1_1, a1_2, a1_3⟩ : S24)); (case aB => exact (by repeat (first | (with_reducible first | exact HB.out | apply below_alloc | apply pw_below_drewN | apply below_drew1 | refine below_set ?_ GE199.out) | exact HB.out))); (case aF => exact (fun k_ hk => Kd.freshB (g := gb199) (o := .cells #[.int .i64 a1_0, .int .i64 a1_1, .int .i64 a1_2, .int .i64 a1_3] 24 (0, 0)) (by (with_reducible repeat (first | refine blk_drewN ?_ _ | refine blk_drew ?_ | refine blk_alloc ?_ _)); exact BK199.out) k_ hk)); (case aO => exact (by (with_reducible repeat (first | apply Kd.R_alloc | apply Kd.R_drewN | apply Kd.R_drew)); exact HO_6.out)); (case aS => exact (below_size (by repeat (first | (with_reducible first | exact HB.out | apply below_alloc | apply pw_below_drewN | apply below_drew1 | refine below_set ?_ GE199.out) | exact HB.out)))); (case aL => have := LMc35.out; omega); intro v203 w37 ho hb hg hat; rw [← Ny202.out] at ho; have n0_ := Aside0.mk (blk_grown (g := gb199) (o := .cells #[.int .i64 a1_0, .int .i64 a1_1, .int .i64 a1_2, .int .i64 a1_3] 24 (0, 0)) (by (with_reducible repeat (first | refine blk_drewN ?_ _ | refine blk_drew ?_ | refine blk_alloc ?_ _)); exact BK199.out) hg (Kd.R_away HO_6.out (fun _ hk => hk))); have n1_ := Aside0.mk (hb); have n2_ := Aside0.mk (ho); clear BK199; clear HB; clear HO_6; have BK199 := n0_; have HB := n1_; have HO204 := n2_; clear n0_ n1_ n2_; clear ho hb hg hat)))
         go_ret2
         exact ⟨_, by first | rfl | (simp [errW_none, errW_some] <;> rfl) | (simp [*, errW_none, errW_some] <;> rfl), by (with_reducible repeat (first | apply Kd.R_alloc | apply Kd.R_drewN | apply Kd.R_drew)); exact Kd.R_mono HO204.out (fun _ hk => trivial), by repeat (first | (with_reducible first | exact HB.out | apply below_alloc | apply pw_below_drewN | apply below_drew1 | refine below_set ?_ GE199.out) | exact HB.out)⟩
        ·rw [if_neg c35] at H
         exact absurd H (by simp)

end Go.Proofs.Ytabjambabnbmnaa.Q14
namespace Go.Proofs.Ytabjambabnbmnaa.Q14
open Go.RowKit Go.Proofs.YtabjambabnbmnaaW.PrintWords Go.Proofs.YtabjambabnbmnaaW.PrintLast Go.Proofs.YtabjambabnbmnaaW.PrintMore
attribute [local go_sem] max2_int min2_int max_two min_two max_three min_three max_four min_four   -- for this text's walks alone
set_option linter.unusedVariables false
set_option linter.unusedSimpArgs false

attribute [local go_sem high] eqA24
/-! ### watchwordlaw0_Num: function 18 -/
def watchwordlaw0_Num.f (a0 : Int) : Option (Int) := some a0
set_option maxHeartbeats 8000000 in
set_option maxRecDepth 100000 in
theorem watchwordlaw0_Num.calls (a0 : Int) (r : Int) (w : World) (h : watchwordlaw0_Num.f a0 = some r) :
  Calls Try.prog 18 #[.int .i64 a0] w fun e w' => e = .returned (.int .i64 r) ∧ Drawn0 w w' := by
 have H : (some a0) = some r := h
 clear h
 obtain rfl := Option.some.inj H
 go_enter Try.func18, Try.ntmps18
 go_wp2
 go_ret
 exact ⟨by first | rfl | (simp; done) | (simp [*]; done), by repeat (first | exact Drawn0.refl _ | apply Drawn0.step)⟩

end Go.Proofs.Ytabjambabnbmnaa.Q14
namespace Go.Proofs.Ytabjambabnbmnaa.Q14
open Go.RowKit Go.Proofs.YtabjambabnbmnaaW.PrintWords Go.Proofs.YtabjambabnbmnaaW.PrintLast Go.Proofs.YtabjambabnbmnaaW.PrintMore
attribute [local go_sem] max2_int min2_int max_two min_two max_three min_three max_four min_four   -- for this text's walks alone
set_option linter.unusedVariables false
set_option linter.unusedSimpArgs false

attribute [local go_sem high] eqA24
/-! ### watchwordlaw0_SameLasts: function 19 -/
def watchwordlaw0_SameLasts.l0 : Nat → List (S24) → List (S24) → Int → Option (Bool)
 | 0, _, _, _ => none
 | k + 1, x0, x1, x5 => if x5 < (x0.length : Int) then (if 0 ≤ x5 then (if x5 < (x1.length : Int) then (if (!(((rd_T24 x0 x5).f0) == ((rd_T24 x1 x5).f0)) || (!(((rd_T24 x0 x5).f1) == ((rd_T24 x1 x5).f1)) || (!(((rd_T24 x0 x5).f2) == ((rd_T24 x1 x5).f2)) || (!(((rd_T24 x0 x5).f3) == ((rd_T24 x1 x5).f3)))))) = true then (some false) else (watchwordlaw0_SameLasts.l0 k x0 x1 (wrap64 (x5 + 1)))) else (none)) else (none)) else (some true)
def watchwordlaw0_SameLasts.f (k : Nat) (l0 : List (S24)) (l1 : List (S24)) : Option (Bool) := if (l0.length : Int) = (l1.length : Int) then (watchwordlaw0_SameLasts.l0 k l0 l1 0) else (some false)
theorem watchwordlaw0_SameLasts.mono_l : ∀ k, (∀ y0 y1 y2, LeO (watchwordlaw0_SameLasts.l0 k y0 y1 y2) (watchwordlaw0_SameLasts.l0 (k + 1) y0 y1 y2))
 | 0 => fun _ _ _ r h => by simp [watchwordlaw0_SameLasts.l0] at h
 | k + 1 => by
  have ih0 := watchwordlaw0_SameLasts.mono_l k
  ·intro y0 y1 y2
   unfold watchwordlaw0_SameLasts.l0
   repeat' first
   | (with_reducible exact ih0 _ _ _)
   | (with_reducible exact LeO.refl _)
   | (with_reducible exact LeO.none _)
   | (with_reducible refine LeO.ite ?_ ?_)
   | (with_reducible refine LeO.bind ?_ (fun _ => ?_))
   | exact ih0 _ _ _
   | exact LeO.none _
   | refine LeO.ite ?_ ?_
   | refine LeO.bind ?_ (fun _ => ?_)
theorem watchwordlaw0_SameLasts.mono : ∀ a0 a1 k, LeO (watchwordlaw0_SameLasts.f k a0 a1) (watchwordlaw0_SameLasts.f (k + 1) a0 a1) := by
 intro a0 a1 k
 have ih0 := watchwordlaw0_SameLasts.mono_l k
 unfold watchwordlaw0_SameLasts.f
 repeat' first
   | (with_reducible exact ih0 _ _ _)
   | (with_reducible exact LeO.refl _)
   | (with_reducible exact LeO.none _)
   | (with_reducible refine LeO.ite ?_ ?_)
   | (with_reducible refine LeO.bind ?_ (fun _ => ?_))
   | exact ih0 _ _ _
   | exact LeO.none _
   | refine LeO.ite ?_ ?_
   | refine LeO.bind ?_ (fun _ => ?_)
set_option maxHeartbeats 8000000 in
set_option maxRecDepth 100000 in
theorem watchwordlaw0_SameLasts.calls (k : Nat) (A0 : Option Addr) (c0 : Nat) (l0 : List (S24)) (A1 : Option Addr) (c1 : Nat) (l1 : List (S24)) (r : Bool) (w : World) (hr0 : Kd.C k24 w A0 l0.length l0) (hc0 : l0.length ≤ c0) (hr1 : Kd.C k24 w A1 l1.length l1) (hc1 : l1.length ≤ c1) (h : watchwordlaw0_SameLasts.f k l0 l1 = some r) :
  Calls Try.prog 19 #[.slice A0 l0.length c0, .slice A1 l1.length c1] w fun e w' => e = .returned (.bool r) ∧ Drawn0 w w' := by
 have hu24 := Try.underlying24
 have HR0 := Aside0.mk hr0
 have HC0 := Aside0.mk hc0
 clear hr0 hc0
 have HR1 := Aside0.mk hr1
 have HC1 := Aside0.mk hc1
 clear hr1 hc1
 have H : (if (l0.length : Int) = (l1.length : Int) then (watchwordlaw0_SameLasts.l0 k l0 l1 0) else (some false)) = some r := h
 clear h
 by_cases c3 : (l0.length : Int) = (l1.length : Int)
 ·rw [if_pos c3] at H
  have c3b0 : ((l0.length : Int) == (l1.length : Int)) = true := beq_iff_eq.mpr c3
  have c3b1 : ((l0.length : Int) != (l1.length : Int)) = false := bne_eq_false_iff_eq.mpr c3
  have c3b2 : (l0.length == l1.length) = true := by first | simpa using c3 | (simp at c3 ⊢; omega)
  clear c3
  have H' := Aside0.mk H
  clear H
  go_enter Try.func19, Try.ntmps19
  go_wp2
  repeat (go_quiet (fail); try go_wp2)
  go_loopg [5] k (fun kq v5 w' => ∃ (x5_1 : Int), v5 = .int .i64 x5_1 ∧ Aside0 (watchwordlaw0_SameLasts.l0 kq l0 l1 x5_1 = some r) ∧ Aside0 (kq ≤ k) ∧ Drawn0 w w')
  case atStart => exact ⟨(0), (by first | rfl | (simp; done) | (simp [*]; done)), H', ⟨Nat.le_refl _⟩, by repeat (first | exact Drawn0.refl _ | apply Drawn0.step)⟩
  case round =>
   clear H'
   try clear c1
   try clear p2
   try clear c3
   try clear c3b0
   try clear c3b1
   try clear c3b2
   obtain ⟨x5_1, rfl, HA, HK1, ⟨m1, rfl⟩⟩ := hrel
   cases gk with
   | zero => exact absurd HA.out (by simp [watchwordlaw0_SameLasts.l0])
   | succ k1 =>
    have H := HA.out
    clear HA
    simp only [watchwordlaw0_SameLasts.l0] at H
    by_cases c4 : x5_1 < (l0.length : Int)
    ·rw [if_pos c4] at H
     have c4b0 : decide (x5_1 < (l0.length : Int)) = true := decide_eq_true c4
     clear c4
     by_cases c5 : 0 ≤ x5_1
     ·rw [if_pos c5] at H
      have c5b0 : decide (0 ≤ x5_1) = true := decide_eq_true c5
      clear c5
      by_cases c6 : x5_1 < (l1.length : Int)
      ·rw [if_pos c6] at H
       have c6b0 : decide (x5_1 < (l1.length : Int)) = true := decide_eq_true c6
       clear c6
       by_cases c7 : (!(((rd_T24 l0 x5_1).f0) == ((rd_T24 l1 x5_1).f0)) || (!(((rd_T24 l0 x5_1).f1) == ((rd_T24 l1 x5_1).f1)) || (!(((rd_T24 l0 x5_1).f2) == ((rd_T24 l1 x5_1).f2)) || (!(((rd_T24 l0 x5_1).f3) == ((rd_T24 l1 x5_1).f3)))))) = true
       ·rw [if_pos c7] at H
        have c7b0 : (!(((rd_T24 l0 x5_1).f0) == ((rd_T24 l1 x5_1).f0)) || (!(((rd_T24 l0 x5_1).f1) == ((rd_T24 l1 x5_1).f1)) || (!(((rd_T24 l0 x5_1).f2) == ((rd_T24 l1 x5_1).f2)) || (!(((rd_T24 l0 x5_1).f3) == ((rd_T24 l1 x5_1).f3)))))) = true := c7
        clear c7
        obtain rfl := Option.some.inj H
        have p218 : 0 ≤ (x5_1 : Int) := of_decide_eq_true (by first | (with_reducible assumption) | assumption)
        have q218 : x5_1 < (l0.length : Int) := of_decide_eq_true (by first | (with_reducible assumption) | assumption)
        obtain ⟨ad218, e218, hx218_0, hx218_1, hx218_2, hx218_3⟩ := at_T24 HR0.out x5_1 p218 q218
        cases e218
        replace p218 := eq_true p218
        replace q218 := eq_true q218
        have p219 : 0 ≤ (x5_1 : Int) := of_decide_eq_true (by first | (with_reducible assumption) | assumption)
        have q219 : x5_1 < (l1.length : Int) := of_decide_eq_true (by first | (with_reducible assumption) | assumption)
        obtain ⟨ad219, e219, hx219_0, hx219_1, hx219_2, hx219_3⟩ := at_T24 HR1.out x5_1 p219 q219
        cases e219
        replace p219 := eq_true p219
        replace q219 := eq_true q219
        go_wp2
        repeat (go_quiet (fail); try go_wp2)
        go_ret
        exact ⟨by first | rfl | (simp; done) | (simp [*]; done), by repeat (first | exact Drawn0.refl _ | apply Drawn0.step)⟩
       ·rw [if_neg c7] at H
        have c7b0 : (!(((rd_T24 l0 x5_1).f0) == ((rd_T24 l1 x5_1).f0)) || (!(((rd_T24 l0 x5_1).f1) == ((rd_T24 l1 x5_1).f1)) || (!(((rd_T24 l0 x5_1).f2) == ((rd_T24 l1 x5_1).f2)) || (!(((rd_T24 l0 x5_1).f3) == ((rd_T24 l1 x5_1).f3)))))) = false := by simpa using c7
        clear c7
        have H' := Aside0.mk H
        clear H
        have p218 : 0 ≤ (x5_1 : Int) := of_decide_eq_true (by first | (with_reducible assumption) | assumption)
        have q218 : x5_1 < (l0.length : Int) := of_decide_eq_true (by first | (with_reducible assumption) | assumption)
        obtain ⟨ad218, e218, hx218_0, hx218_1, hx218_2, hx218_3⟩ := at_T24 HR0.out x5_1 p218 q218
        cases e218
        replace p218 := eq_true p218
        replace q218 := eq_true q218
        have p219 : 0 ≤ (x5_1 : Int) := of_decide_eq_true (by first | (with_reducible assumption) | assumption)
        have q219 : x5_1 < (l1.length : Int) := of_decide_eq_true (by first | (with_reducible assumption) | assumption)
        obtain ⟨ad219, e219, hx219_0, hx219_1, hx219_2, hx219_3⟩ := at_T24 HR1.out x5_1 p219 q219
        cases e219
        replace p219 := eq_true p219
        replace q219 := eq_true q219
        go_wp2
        repeat (go_quiet (fail); try go_wp2)
        go_roundg k1
        case measure => have := HK1.out; omega
        case rel => exact ⟨(wrap64 (x5_1 + 1)), (by first | rfl | (simp; done) | (simp [*]; done)), H', ⟨by have := HK1.out; omega⟩, by repeat (first | exact Drawn0.refl _ | apply Drawn0.step)⟩
      ·rw [if_neg c6] at H
       exact absurd H (by simp)
     ·rw [if_neg c5] at H
      exact absurd H (by simp)
    ·rw [if_neg c4] at H
     have c4b0 : decide (x5_1 < (l0.length : Int)) = false := decide_eq_false c4
     clear c4
     obtain rfl := Option.some.inj H
     go_wp2
     repeat (go_quiet (fail); try go_wp2)
     go_ret
     exact ⟨by first | rfl | (simp; done) | (simp [*]; done), by repeat (first | exact Drawn0.refl _ | apply Drawn0.step)⟩
 ·rw [if_neg c3] at H
  have c3b0 : ((l0.length : Int) == (l1.length : Int)) = false := beq_eq_false_iff_ne.mpr c3
  have c3b1 : ((l0.length : Int) != (l1.length : Int)) = true := bne_iff_ne.mpr c3
  have c3b2 : (l0.length == l1.length) = false := by first | simpa using c3 | (simp at c3 ⊢; omega)
  obtain rfl := Option.some.inj H
  go_enter Try.func19, Try.ntmps19
  go_wp2
  repeat (go_quiet (fail); try go_wp2)
  go_ret
  exact ⟨by first | rfl | (simp; done) | (simp [*]; done), by repeat (first | exact Drawn0.refl _ | apply Drawn0.step)⟩

end Go.Proofs.Ytabjambabnbmnaa.Q14
namespace Go.Proofs.Ytabjambabnbmnaa.Q14
open Go.RowKit Go.Proofs.YtabjambabnbmnaaW.PrintWords Go.Proofs.YtabjambabnbmnaaW.PrintLast Go.Proofs.YtabjambabnbmnaaW.PrintMore
attribute [local go_sem] max2_int min2_int max_two min_two max_three min_three max_four min_four   -- for this text's walks alone
set_option linter.unusedVariables false
set_option linter.unusedSimpArgs false

attribute [local go_sem high] eqA24
/-! ### watchwordlaw0_SpoilLasts: function 22 -/
def watchwordlaw0_SpoilLasts.l0 : Nat → List (S24) → Int → Option ((List (S24)))
 | 0, _, _ => none
 | k + 1, x0, x2 => if x2 < (x0.length : Int) then (if 0 ≤ x2 then (watchwordlaw0_SpoilLasts.l0 k (x0.set (x2 : Int).toNat (⟨Go.bits .xor .i64 ((rd_T24 x0 x2).f0) 90, (rd_T24 x0 x2).f1, (rd_T24 x0 x2).f2, (rd_T24 x0 x2).f3⟩ : S24)) (wrap64 (x2 + 1))) else (none)) else (some x0)
def watchwordlaw0_SpoilLasts.f (k : Nat) (l0 : List (S24)) : Option ((List (S24))) := watchwordlaw0_SpoilLasts.l0 k l0 0
theorem watchwordlaw0_SpoilLasts.mono_l : ∀ k, (∀ y0 y1, LeO (watchwordlaw0_SpoilLasts.l0 k y0 y1) (watchwordlaw0_SpoilLasts.l0 (k + 1) y0 y1))
 | 0 => fun _ _ r h => by simp [watchwordlaw0_SpoilLasts.l0] at h
 | k + 1 => by
  have ih0 := watchwordlaw0_SpoilLasts.mono_l k
  ·intro y0 y1
   unfold watchwordlaw0_SpoilLasts.l0
   repeat' first
   | (with_reducible exact ih0 _ _)
   | (with_reducible exact LeO.refl _)
   | (with_reducible exact LeO.none _)
   | (with_reducible refine LeO.ite ?_ ?_)
   | (with_reducible refine LeO.bind ?_ (fun _ => ?_))
   | exact ih0 _ _
   | exact LeO.none _
   | refine LeO.ite ?_ ?_
   | refine LeO.bind ?_ (fun _ => ?_)
theorem watchwordlaw0_SpoilLasts.mono : ∀ a0 k, LeO (watchwordlaw0_SpoilLasts.f k a0) (watchwordlaw0_SpoilLasts.f (k + 1) a0) := by
 intro a0 k
 have ih0 := watchwordlaw0_SpoilLasts.mono_l k
 unfold watchwordlaw0_SpoilLasts.f
 repeat' first
   | (with_reducible exact ih0 _ _)
   | (with_reducible exact LeO.refl _)
   | (with_reducible exact LeO.none _)
   | (with_reducible refine LeO.ite ?_ ?_)
   | (with_reducible refine LeO.bind ?_ (fun _ => ?_))
   | exact ih0 _ _
   | exact LeO.none _
   | refine LeO.ite ?_ ?_
   | refine LeO.bind ?_ (fun _ => ?_)
set_option maxHeartbeats 8000000 in
set_option maxRecDepth 100000 in
theorem watchwordlaw0_SpoilLasts.calls (k : Nat) (P0_ : Nat → Prop) (u9000_ : Value) (l0 : List (S24)) (r : List (S24)) (w0 w : World) (hB : Below w0.heap.size w0 w) (ho0 : Kd.R k24 24 w w0.heap.size P0_ u9000_ l0) (h : watchwordlaw0_SpoilLasts.f k l0 = some r) :
  Calls Try.prog 22 #[u9000_] w fun e w' => e = .returned (.tuple #[]) ∧ Kd.R k24 24 w' w0.heap.size (fun k_ => (P0_ k_ ∨ w.heap.size ≤ k_)) u9000_ r ∧ Below w0.heap.size w0 w' ∧ Kept w w' (fun k_ => P0_ k_) := by
 have HO0 := Aside0.mk (show Kd.R k24 24 w w0.heap.size (fun k_ => (P0_ k_ ∨ w.heap.size ≤ k_)) u9000_ l0 from Kd.R_mono ho0 (fun k_ hk => (.inl hk)))
 have HK := Aside0.mk (Kept.refl w (fun k_ => P0_ k_))
 have HW0 := Aside0.mk hB.size
 have HB := Aside0.mk hB
 clear hB
 have H : (watchwordlaw0_SpoilLasts.l0 k l0 0) = some r := h
 clear h
 have H' := Aside0.mk H
 clear H
 go_enter Try.func22, Try.ntmps22
 go_wp2
 go_loopg [2] k (fun kq v2 w' => ∃ (x0_1 : List (S24)) (x2_1 : Int), v2 = .int .i64 x2_1 ∧ Aside0 (watchwordlaw0_SpoilLasts.l0 kq x0_1 x2_1 = some r) ∧ Aside0 (kq ≤ k) ∧ Aside0 (Kd.R k24 24 w' w0.heap.size (fun k_ => (P0_ k_ ∨ w.heap.size ≤ k_)) u9000_ x0_1) ∧ Aside0 (Kept w w' (fun k_ => P0_ k_)) ∧ Aside0 (Below w0.heap.size w0 w'))
 case atStart => exact ⟨(l0), (0), (by first | rfl | (simp; done) | (simp [*]; done)), H', ⟨Nat.le_refl _⟩, ⟨by (with_reducible repeat (first | apply Kd.R_alloc | apply Kd.R_drewN | apply Kd.R_drew)); exact HO0.out⟩, ⟨by repeat (first | (with_reducible first | exact HK.out | apply Kept.alloc | apply Kept.drewN | apply Kept.drew) | exact HK.out)⟩, ⟨by repeat (first | (with_reducible first | exact HB.out | apply below_alloc | apply pw_below_drewN | apply below_drew1) | exact HB.out)⟩⟩
 case round =>
  clear H'
  obtain ⟨x0_1, x2_1, rfl, HA, HK1, HO_0, HK, HB⟩ := hrel
  cases gk with
  | zero => exact absurd HA.out (by simp [watchwordlaw0_SpoilLasts.l0])
  | succ k1 =>
   have H := HA.out
   clear HA
   simp only [watchwordlaw0_SpoilLasts.l0] at H
   by_cases c2 : x2_1 < (x0_1.length : Int)
   ·rw [if_pos c2] at H
    have c2b0 : decide (x2_1 < (x0_1.length : Int)) = true := decide_eq_true c2
    clear c2
    by_cases c3 : 0 ≤ x2_1
    ·rw [if_pos c3] at H
     have c3b0 : decide (0 ≤ x2_1) = true := decide_eq_true c3
     clear c3
     obtain ⟨y221, hy221⟩ : ∃ y_ : List (S24), y_ = (x0_1.set (x2_1 : Int).toNat (⟨Go.bits .xor .i64 ((rd_T24 x0_1 x2_1).f0) 90, (rd_T24 x0_1 x2_1).f1, (rd_T24 x0_1 x2_1).f2, (rd_T24 x0_1 x2_1).f3⟩ : S24)) := ⟨_, rfl⟩
     replace H : (watchwordlaw0_SpoilLasts.l0 k1 y221 (wrap64 (x2_1 + 1))) = some r := by first | (rw [hy221]; with_reducible exact H) | (have H2_ := (Option.bind_some _ _).symm.trans H; rw [hy221]; with_reducible exact H2_) | (have H2_ := (Option.bind_some _ _).symm.trans H; with_reducible exact H2_) | with_reducible exact H | (rw [hy221]; exact H) | exact H
     have Ny221 := Aside0.mk hy221
     clear hy221
     have H' := Aside0.mk H
     clear H
     obtain ⟨Ao5, co5, eo5⟩ := Kd.R_slice HO_0.out
     subst eo5
     have p220 : 0 ≤ (x2_1 : Int) := of_decide_eq_true (by first | (with_reducible assumption) | assumption)
     have q220 : x2_1 < (x0_1.length : Int) := of_decide_eq_true (by first | (with_reducible assumption) | assumption)
     obtain ⟨ad220, e220, hx220_0, hx220_1, hx220_2, hx220_3⟩ := at_T24 (Kd.R_reads' HO_0.out).2.2 x2_1 p220 q220
     cases e220
     replace p220 := eq_true p220
     replace q220 := eq_true q220
     have p4 : 0 ≤ (x2_1 : Int) := of_decide_eq_true (by first | (with_reducible assumption) | assumption)
     have q4 : (x2_1 : Int) < ((x0_1.length : Int) : Int) := of_decide_eq_true (by first | (with_reducible assumption) | assumption)
     obtain ⟨go4, co4, eo4, gb4, gl4, cl4, HG4⟩ := Kd.R_form HO_0.out (by omega)
     (first | cases eo4 | (injection eo4 with ea_ en_ ec_; (first | subst ea_ | (injection ea_ with ea_; subst ea_)); subst ec_; clear en_))
     have GB4 := Aside0.mk gb4
     have GG4 := Aside0.mk HG4
     clear gb4 gl4 HG4
     have HMgo4 := Aside0.mk (show (P0_ go4 ∨ w.heap.size ≤ go4) from (HO_0.out.1 _ rfl))
     (first | simp only [add_plain] at hx220_0 | skip)
     (first | simp only [add_plain] at hx220_1 | skip)
     (first | simp only [add_plain] at hx220_2 | skip)
     (first | simp only [add_plain] at hx220_3 | skip)
     obtain ⟨ce4, hcl4, hM4, hcc4, hfr4⟩ := Kd.R_elem HO_0.out z24 (x2_1 : Int) p4 q4
     obtain rfl := k24_openM hM4
     have hx4_0 : wr.cell? ⟨go4, (x2_1 : Int).toNat * 4, none⟩ = some (.int .i64 ((rd_T24 x0_1 x2_1).f0)) := hcc4 0 _ rfl
     have hx4_1 : wr.cell? ⟨go4, (x2_1 : Int).toNat * 4 + 1, none⟩ = some (.int .i64 ((rd_T24 x0_1 x2_1).f1)) := hcc4 1 _ rfl
     have hx4_2 : wr.cell? ⟨go4, (x2_1 : Int).toNat * 4 + 2, none⟩ = some (.int .i64 ((rd_T24 x0_1 x2_1).f2)) := hcc4 2 _ rfl
     have hx4_3 : wr.cell? ⟨go4, (x2_1 : Int).toNat * 4 + 3, none⟩ = some (.int .i64 ((rd_T24 x0_1 x2_1).f3)) := hcc4 3 _ rfl
     have hf4_0 : wr.frozen? ⟨go4, (x2_1 : Int).toNat * 4, none⟩ = false := hfr4 0
     have hf4_1 : wr.frozen? ⟨go4, (x2_1 : Int).toNat * 4 + 1, none⟩ = false := hfr4 1
     have hf4_2 : wr.frozen? ⟨go4, (x2_1 : Int).toNat * 4 + 2, none⟩ = false := hfr4 2
     have hf4_3 : wr.frozen? ⟨go4, (x2_1 : Int).toNat * 4 + 3, none⟩ = false := hfr4 3
     clear hcl4 hcc4 hfr4 hM4
     replace p4 := eq_true p4
     replace q4 := eq_true q4
     have HX6 := Aside0.mk (show Kd.R k24 24 wr w0.heap.size (fun k_ => (P0_ k_ ∨ w.heap.size ≤ k_)) (.slice (some ⟨go4, 0, none⟩) x0_1.length co5) x0_1 from (by (with_reducible repeat (first | apply Kd.R_alloc | apply Kd.R_drewN | apply Kd.R_drew)); exact HO_0.out))
     obtain ⟨ce6, hcl6, hM6, hcc6, hfr6⟩ := Kd.R_elem HX6.out z24 (x2_1 : Int) (of_decide_eq_true (by first | (with_reducible assumption) | assumption)) (by have h_ : (x2_1 : Int) < ((x0_1.length : Int) : Int) := of_decide_eq_true (by first | (with_reducible assumption) | assumption); first | exact h_ | (have e_ := (Kd.R_reads' HO_0.out).1; omega) | simpa using h_)
     obtain rfl := k24_openM hM6
     have HP6 := Kd.R_seg HX6.out (x2_1 : Int) (of_decide_eq_true (by first | (with_reducible assumption) | assumption)) (by have h_ : (x2_1 : Int) < ((x0_1.length : Int) : Int) := of_decide_eq_true (by first | (with_reducible assumption) | assumption); first | exact h_ | (have e_ := (Kd.R_reads' HO_0.out).1; omega) | simpa using h_) (seg := [.int .i64 (Go.bits .xor .i64 ((rd_T24 x0_1 x2_1).f0) 90)]) (j := 0) hcl6 hcc6 (show 1 ≤ 4 from by decide) (x' := (⟨Go.bits .xor .i64 ((rd_T24 x0_1 x2_1).f0) 90, (rd_T24 x0_1 x2_1).f1, (rd_T24 x0_1 x2_1).f2, (rd_T24 x0_1 x2_1).f3⟩ : S24)) (k24_mkM _ _ _ (⟨Go.bits .xor .i64 ((rd_T24 x0_1 x2_1).f0) 90, (rd_T24 x0_1 x2_1).f1, (rd_T24 x0_1 x2_1).f2, (rd_T24 x0_1 x2_1).f3⟩ : S24) ) (fun _ hk => hk)
     have hx6_0 := hcc6 0 _ rfl
     (try simp only [show (k24).sz = 4 from rfl, Nat.mul_one, Nat.add_zero] at hx6_0)
     have hf6_0 := hfr6 0
     (try simp only [show (k24).sz = 4 from rfl, Nat.mul_one, Nat.add_zero] at hf6_0)
     clear hcl6 hcc6 hfr6 hM6
     go_wp2_with (first | ((with_reducible refine gate_store (t := 3) (p := 18) rfl ?_); refine store_event (t := 3) (p := 18) (v := ?vo_w7) (w1 := (wr.setCell ⟨go4, (x2_1 : Int).toNat * 4, none⟩ (.int .i64 (Go.bits .xor .i64 ((rd_T24 x0_1 x2_1).f0) 90)))) ?hg ?ho ?hn ?hr ?_; (case ho => rfl); (case hg => rfl); (case hn => rfl); (case hr => first | (go_simp; done) | (go_simp; rfl)); intro w7 hw; have hg : wr.grownBy w7 (some go4) := (by rw [hw]; exact HP6.2); have hp_ : Kd.R k24 24 w7 w0.heap.size (fun k_ => (P0_ k_ ∨ w.heap.size ≤ k_)) (.slice (some ⟨go4, 0, none⟩) x0_1.length co5) y221 := (by rw [hw, Ny221.out]; exact HP6.1); clear HP6; have n0_ := Aside0.mk (hp_); have n1_ := Aside0.mk ((by rw [hw]; exact below_set (HB.out) GB4.out : Below w0.heap.size w0 w7)); have n2_ := Aside0.mk (Kept.of_grown (S := (fun k_ => P0_ k_)) hg (by repeat (first | (with_reducible first | exact HK.out | apply Kept.alloc | apply Kept.drewN | apply Kept.drew) | exact HK.out)) (fun k_ e_ => (HO_0.out.1 k_ e_))); clear HO_0; clear HB; clear HK; have HO_0 := n0_; have HB := n1_; have HK := n2_; clear n0_ n1_ n2_; clear hg hw hp_))
     go_roundg k1
     case measure => have := HK1.out; omega
     case rel => exact ⟨(y221), (wrap64 (x2_1 + 1)), (by first | rfl | (simp; done) | (simp [*]; done)), H', ⟨by have := HK1.out; omega⟩, ⟨by (with_reducible repeat (first | apply Kd.R_alloc | apply Kd.R_drewN | apply Kd.R_drew)); exact HO_0.out⟩, ⟨by repeat (first | (with_reducible first | exact HK.out | apply Kept.alloc | apply Kept.drewN | apply Kept.drew) | exact HK.out)⟩, ⟨by repeat (first | (with_reducible first | exact HB.out | apply below_alloc | apply pw_below_drewN | apply below_drew1) | exact HB.out)⟩⟩
    ·rw [if_neg c3] at H
     exact absurd H (by simp)
   ·rw [if_neg c2] at H
    have c2b0 : decide (x2_1 < (x0_1.length : Int)) = false := decide_eq_false c2
    clear c2
    obtain rfl := Option.some.inj H
    obtain ⟨Ao8, co8, eo8⟩ := Kd.R_slice HO_0.out
    subst eo8
    go_wp2
    first | go_end0 | ((try simp only [Exit.inBlock, Exit.then]); refine bodyPost_ret (results_none rfl _ _ _) rfl ?_)
    exact ⟨by first | rfl | (simp [errW_none, errW_some] <;> rfl) | (simp [*, errW_none, errW_some] <;> rfl), by (with_reducible repeat (first | apply Kd.R_alloc | apply Kd.R_drewN | apply Kd.R_drew)); exact HO_0.out, by repeat (first | (with_reducible first | exact HB.out | apply below_alloc | apply pw_below_drewN | apply below_drew1) | exact HB.out), by repeat (first | (with_reducible first | exact HK.out | apply Kept.alloc | apply Kept.drewN | apply Kept.drew) | exact HK.out)⟩

end Go.Proofs.Ytabjambabnbmnaa.Q14
namespace Go.Proofs.Ytabjambabnbmnaa.Q14
open Go.RowKit Go.Proofs.YtabjambabnbmnaaW.PrintWords Go.Proofs.YtabjambabnbmnaaW.PrintLast Go.Proofs.YtabjambabnbmnaaW.PrintMore
attribute [local go_sem] max2_int min2_int max_two min_two max_three min_three max_four min_four   -- for this text's walks alone
set_option linter.unusedVariables false
set_option linter.unusedSimpArgs false

attribute [local go_sem high] eqA24
/-! ### watchwordlaw0_KeptLasts: function 23 -/
def watchwordlaw0_KeptLasts.f (k : Nat) (l0 : List (S24)) (l1 : List (S24)) (l2 : List (S24)) : Option (Bool) := (watchwordlaw0_SameLasts.f k l0 l1).bind fun t222 => (if t222 = true then (if 0 ≤ (l1.length : Int) then (if (l1.length : Int) < (l2.length : Int) then (if (((rd_T24 l2 (l1.length : Int)).f0) == 77777 && (((rd_T24 l2 (l1.length : Int)).f1) == 0 && (((rd_T24 l2 (l1.length : Int)).f2) == 0 && (((rd_T24 l2 (l1.length : Int)).f3) == 0)))) = true then (if 0 ≤ (wrap64 ((l1.length : Int) + 1)) then (if (wrap64 ((l1.length : Int) + 1)) < (l2.length : Int) then (some (((rd_T24 l2 (wrap64 ((l1.length : Int) + 1))).f0) == 77777 && (((rd_T24 l2 (wrap64 ((l1.length : Int) + 1))).f1) == 0 && (((rd_T24 l2 (wrap64 ((l1.length : Int) + 1))).f2) == 0 && (((rd_T24 l2 (wrap64 ((l1.length : Int) + 1))).f3) == 0))))) else (none)) else (none)) else (some false)) else (none)) else (none)) else (some false))
theorem watchwordlaw0_KeptLasts.mono : ∀ a0 a1 a2 k, LeO (watchwordlaw0_KeptLasts.f k a0 a1 a2) (watchwordlaw0_KeptLasts.f (k + 1) a0 a1 a2) := by
 intro a0 a1 a2 k
 unfold watchwordlaw0_KeptLasts.f
 repeat' first
   | (with_reducible exact watchwordlaw0_SameLasts.mono _ _ _)
   | (with_reducible exact LeO.refl _)
   | (with_reducible exact LeO.none _)
   | (with_reducible refine LeO.ite ?_ ?_)
   | (with_reducible refine LeO.bind ?_ (fun _ => ?_))
   | exact watchwordlaw0_SameLasts.mono _ _ _
   | exact LeO.none _
   | refine LeO.ite ?_ ?_
   | refine LeO.bind ?_ (fun _ => ?_)
theorem watchwordlaw0_KeptLasts.cut {P : Program} (t e : TypeId) (kh : IntKind) {i : TypeInfo} (ht : P.underlying t = some (.slice e)) (hi : P.info? e = some i) (A : Option Addr) (n c : Nat) (j : Int) (h0 : 0 ≤ j) (hm : j ≤ c) :
    ∀ W : World, (Instr.slice t (.slice A n c) none (some (.int kh j)) none).run P W = .ok (.slice A j.toNat c) W := by
  intro W
  have hel : P.elem t = e := by simp [Program.elem, ht]
  have hu : P.underlying t = some (.slice (P.elem t)) := by rw [hel]; exact ht
  have ha : (A.map fun x => x.add 0) = A := by cases A <;> simp [Addr.add]
  rw [run_slice_h W t A n c hu kh j h0 (by omega), hel]
  simp [sizeOf, typeInfo, hi, sliced, Result.andThen, ha]
set_option maxHeartbeats 8000000 in
set_option maxRecDepth 100000 in
theorem watchwordlaw0_KeptLasts.kept (k : Nat) (A0 : Option Addr) (c0 : Nat) (l0 : List (S24)) (A1 : Option Addr) (c1 : Nat) (l1 : List (S24)) (A2 : Option Addr) (c2 : Nat) (l2 : List (S24)) (r : Bool) (w : World) (hr0 : Kd.C k24 w A0 l0.length l0) (hc0 : l0.length ≤ c0) (hr1 : Kd.C k24 w A1 l1.length l1) (hc1 : l1.length ≤ c1) (hr2 : Kd.C k24 w A2 l2.length l2) (hc2 : l2.length ≤ c2) (h : watchwordlaw0_KeptLasts.f k l0 l1 l2 = some r) (hA : A2 = A0) (hcc : c2 = c0) (hlen : l2.length = l0.length + 2) (hsz : l0.length ≤ 1000000000000000) :
  Calls Try.prog 23 #[.slice A0 l0.length c0, .slice A1 l1.length c1] w fun e w' => e = .returned (.bool r) ∧ Drawn0 w w' := by
 have hu24 := Try.underlying24
 have HR0 := Aside0.mk hr0
 have HC0 := Aside0.mk hc0
 clear hr0 hc0
 have HR1 := Aside0.mk hr1
 have HC1 := Aside0.mk hc1
 clear hr1 hc1
 have HR2 := Aside0.mk hr2
 have HC2 := Aside0.mk hc2
 clear hr2 hc2
 have H : ((watchwordlaw0_SameLasts.f k l0 l1).bind fun t222 => (if t222 = true then (if 0 ≤ (l1.length : Int) then (if (l1.length : Int) < (l2.length : Int) then (if (((rd_T24 l2 (l1.length : Int)).f0) == 77777 && (((rd_T24 l2 (l1.length : Int)).f1) == 0 && (((rd_T24 l2 (l1.length : Int)).f2) == 0 && (((rd_T24 l2 (l1.length : Int)).f3) == 0)))) = true then (if 0 ≤ (wrap64 ((l1.length : Int) + 1)) then (if (wrap64 ((l1.length : Int) + 1)) < (l2.length : Int) then (some (((rd_T24 l2 (wrap64 ((l1.length : Int) + 1))).f0) == 77777 && (((rd_T24 l2 (wrap64 ((l1.length : Int) + 1))).f1) == 0 && (((rd_T24 l2 (wrap64 ((l1.length : Int) + 1))).f2) == 0 && (((rd_T24 l2 (wrap64 ((l1.length : Int) + 1))).f3) == 0))))) else (none)) else (none)) else (some false)) else (none)) else (none)) else (some false))) = some r := h
 clear h
 replace H := Option.bind_eq_some_iff.mp H
 obtain ⟨t222, A40, H⟩ := H
 replace H : (if t222 = true then (if 0 ≤ (l1.length : Int) then (if (l1.length : Int) < (l2.length : Int) then (if (((rd_T24 l2 (l1.length : Int)).f0) == 77777 && (((rd_T24 l2 (l1.length : Int)).f1) == 0 && (((rd_T24 l2 (l1.length : Int)).f2) == 0 && (((rd_T24 l2 (l1.length : Int)).f3) == 0)))) = true then (if 0 ≤ (wrap64 ((l1.length : Int) + 1)) then (if (wrap64 ((l1.length : Int) + 1)) < (l2.length : Int) then (some (((rd_T24 l2 (wrap64 ((l1.length : Int) + 1))).f0) == 77777 && (((rd_T24 l2 (wrap64 ((l1.length : Int) + 1))).f1) == 0 && (((rd_T24 l2 (wrap64 ((l1.length : Int) + 1))).f2) == 0 && (((rd_T24 l2 (wrap64 ((l1.length : Int) + 1))).f3) == 0))))) else (none)) else (none)) else (some false)) else (none)) else (none)) else (some false)) = some r := H
 have A4 := Aside0.mk A40
 clear A40
 by_cases c5 : t222 = true
 ·subst c5
  have H1 : (if 0 ≤ (l1.length : Int) then (if (l1.length : Int) < (l2.length : Int) then (if (((rd_T24 l2 (l1.length : Int)).f0) == 77777 && (((rd_T24 l2 (l1.length : Int)).f1) == 0 && (((rd_T24 l2 (l1.length : Int)).f2) == 0 && (((rd_T24 l2 (l1.length : Int)).f3) == 0)))) = true then (if 0 ≤ (wrap64 ((l1.length : Int) + 1)) then (if (wrap64 ((l1.length : Int) + 1)) < (l2.length : Int) then (some (((rd_T24 l2 (wrap64 ((l1.length : Int) + 1))).f0) == 77777 && (((rd_T24 l2 (wrap64 ((l1.length : Int) + 1))).f1) == 0 && (((rd_T24 l2 (wrap64 ((l1.length : Int) + 1))).f2) == 0 && (((rd_T24 l2 (wrap64 ((l1.length : Int) + 1))).f3) == 0))))) else (none)) else (none)) else (some false)) else (none)) else (none)) = some r := by rw [if_pos rfl] at H; exact H
  clear H
  have H := H1
  clear H1
  by_cases c6 : 0 ≤ (l1.length : Int)
  ·rw [if_pos c6] at H
   have c6b0 : decide (0 ≤ (l1.length : Int)) = true := decide_eq_true c6
   have c6b1 : decide (0 ≤ l1.length) = true := decide_eq_true (by omega)
   clear c6
   by_cases c7 : (l1.length : Int) < (l2.length : Int)
   ·rw [if_pos c7] at H
    have c7b0 : decide ((l1.length : Int) < (l2.length : Int)) = true := decide_eq_true c7
    have c7b1 : decide (l1.length < l2.length) = true := decide_eq_true (Int.ofNat_lt.mp c7)
    clear c7
    by_cases c8 : (((rd_T24 l2 (l1.length : Int)).f0) == 77777 && (((rd_T24 l2 (l1.length : Int)).f1) == 0 && (((rd_T24 l2 (l1.length : Int)).f2) == 0 && (((rd_T24 l2 (l1.length : Int)).f3) == 0)))) = true
    ·rw [if_pos c8] at H
     have c8b0 : (((rd_T24 l2 (l1.length : Int)).f0) == 77777 && (((rd_T24 l2 (l1.length : Int)).f1) == 0 && (((rd_T24 l2 (l1.length : Int)).f2) == 0 && (((rd_T24 l2 (l1.length : Int)).f3) == 0)))) = true := c8
     (try (have c8b1 : decide (((rd_T24 l2 (l1.length : Int)).f0) = 77777 && (((rd_T24 l2 (l1.length : Int)).f1) == 0 && (((rd_T24 l2 (l1.length : Int)).f2) == 0 && (((rd_T24 l2 (l1.length : Int)).f3) == 0)))) = true := by simpa using c8))
     (try (have c8b2 : (((rd_T24 l2 (l1.length : Int)).f0) == 77777 && (((rd_T24 l2 (l1.length : Int)).f1) == 0 && (((rd_T24 l2 (l1.length : Int)).f2) == 0 && (((rd_T24 l2 (l1.length : Int)).f3) == 0)))) = true := by simpa using c8))
     clear c8
     obtain ⟨ji9, hji9⟩ : ∃ j_ : Int, (wrap64 ((l1.length : Int) + 1)) = j_ := ⟨_, rfl⟩
     replace H : (if 0 ≤ (ji9) then (if (ji9) < (l2.length : Int) then (some (((rd_T24 l2 (ji9)).f0) == 77777 && (((rd_T24 l2 (ji9)).f1) == 0 && (((rd_T24 l2 (ji9)).f2) == 0 && (((rd_T24 l2 (ji9)).f3) == 0))))) else (none)) else (none)) = some r := by first | (rw [hji9] at H; exact H) | (simp only [hji9] at H ⊢; exact H)
     (try rw [hji9] at A4)
     have hji9w : (IntKind.i64.wrap ((l1.length : Int) + 1)) = ji9 := (i64_w _).trans hji9
     by_cases c10 : 0 ≤ (ji9)
     ·rw [if_pos c10] at H
      have c10b0 : decide (0 ≤ (ji9)) = true := decide_eq_true c10
      clear c10
      by_cases c11 : (ji9) < (l2.length : Int)
      ·rw [if_pos c11] at H
       have c11b0 : decide ((ji9) < (l2.length : Int)) = true := decide_eq_true c11
       clear c11
       obtain rfl := Option.some.inj H
       have hwk : wrap64 ((l0.length : Int) + 2) = (l2.length : Int) := by rw [IntWalk.wrap64_in _ ⟨by omega, by omega⟩, hlen]; omega
       have hwk2 : IntKind.i64.wrap ((l0.length : Int) + 2) = (l2.length : Int) := (i64_w _).trans hwk
       obtain ⟨i0k, hi0k, _, _, _⟩ := info_parts info24
       have hcutk : ∀ W : World, (Instr.slice 22 (.slice A0 l0.length c0) none (some (.int .i64 (l2.length : Int))) none).run Try.prog W = .ok (.slice A2 l2.length c2) W := by
         have h_ := watchwordlaw0_KeptLasts.cut (P := Try.prog) 22 24 .i64 Try.underlying22 hi0k A0 l0.length c0 (l2.length : Int) (Int.natCast_nonneg _) (by have := HC2.out; rw [hcc] at this; omega)
         rw [Int.toNat_natCast] at h_; rw [hA, hcc]; exact h_
       have hcutk2 : ∀ W : World, (Instr.slice 22 (.slice A0 l0.length c0) none (some (.int .i64 ((l0.length : Int) + 2))) none).run Try.prog W = .ok (.slice A2 l2.length c2) W := by
         rw [show (l0.length : Int) + 2 = (l2.length : Int) by omega]; exact hcutk
       clear hi0k hsz hlen hA hcc
       go_enter Try.func23, Try.ntmps23
       go_wp2_with (first | ((with_reducible refine gate_callee (f := 19) rfl ?_); refine goesL_ (some 13) rfl rfl Try.func19 (by kernel_rfl) rfl #[.slice A0 l0.length c0, .slice A1 l1.length c1] rfl (by (try simp only [List.map_toArray, List.map_cons, List.map_nil]); first | done | rfl | (simp only [List.length_drop, List.length_take]; rfl)) ?_; (with_reducible refine (watchwordlaw0_SameLasts.calls k _ _ l0 _ _ l1 true _ ?side1 ?side2 ?side3 ?side4 A4.out).mono ?_); (case side1 => repeat (first | exact HR0.out | (with_reducible refine Kd.C_alloc ?_ _) | (with_reducible refine Kd.C_drewN ?_ _) | (with_reducible refine Kd.C_drew ?_))); (case side2 => exact HC0.out); (case side3 => repeat (first | exact HR1.out | (with_reducible refine Kd.C_alloc ?_ _) | (with_reducible refine Kd.C_drewN ?_ _) | (with_reducible refine Kd.C_drew ?_))); (case side4 => exact HC1.out); rintro e w' ⟨rfl, ⟨nd, rfl⟩⟩; refine ⟨_, rfl, ?_⟩; have p223 : 0 ≤ ((l1.length : Int) : Int) := of_decide_eq_true (by first | (with_reducible assumption) | assumption); have q223 : (l1.length : Int) < (l2.length : Int) := of_decide_eq_true (by first | (with_reducible assumption) | assumption); obtain ⟨ad223, e223, hx223_0, hx223_1, hx223_2, hx223_3⟩ := at_T24 HR2.out (l1.length : Int) p223 q223; cases e223; (try simp only [Go.IntWalk.toNatUp] at hx223_0); (try simp only [Go.IntWalk.toNatUp] at hx223_1); (try simp only [Go.IntWalk.toNatUp] at hx223_2); (try simp only [Go.IntWalk.toNatUp] at hx223_3); replace p223 := eq_true p223; replace q223 := eq_true q223; have p224 : 0 ≤ ((ji9) : Int) := of_decide_eq_true (by first | (with_reducible assumption) | assumption); have q224 : (ji9) < (l2.length : Int) := of_decide_eq_true (by first | (with_reducible assumption) | assumption); obtain ⟨ad224, e224, hx224_0, hx224_1, hx224_2, hx224_3⟩ := at_T24 HR2.out (ji9) p224 q224; obtain rfl : ad223 = ad224 := (by injection e224); replace p224 := eq_true p224; replace q224 := eq_true q224))
       go_ret
       exact ⟨by first | rfl | (simp; done) | (simp only [← hji9] <;> (first | rfl | simp)) | (simp [*]; done), by repeat (first | exact Drawn0.refl _ | apply Drawn0.step)⟩
      ·rw [if_neg c11] at H
       exact absurd H (by simp)
     ·rw [if_neg c10] at H
      exact absurd H (by simp)
    ·rw [if_neg c8] at H
     have c8b0 : (((rd_T24 l2 (l1.length : Int)).f0) == 77777 && (((rd_T24 l2 (l1.length : Int)).f1) == 0 && (((rd_T24 l2 (l1.length : Int)).f2) == 0 && (((rd_T24 l2 (l1.length : Int)).f3) == 0)))) = false := by simpa using c8
     (try (have c8b1 : decide (((rd_T24 l2 (l1.length : Int)).f0) = 77777 && (((rd_T24 l2 (l1.length : Int)).f1) == 0 && (((rd_T24 l2 (l1.length : Int)).f2) == 0 && (((rd_T24 l2 (l1.length : Int)).f3) == 0)))) = false := by simpa using c8))
     (try (have c8b2 : (((rd_T24 l2 (l1.length : Int)).f0) == 77777 && (((rd_T24 l2 (l1.length : Int)).f1) == 0 && (((rd_T24 l2 (l1.length : Int)).f2) == 0 && (((rd_T24 l2 (l1.length : Int)).f3) == 0)))) = false := by simpa using c8))
     (try (have c8b3 : ¬ (((rd_T24 l2 (l1.length : Int)).f0) = 77777 && (((rd_T24 l2 (l1.length : Int)).f1) == 0 && (((rd_T24 l2 (l1.length : Int)).f2) == 0 && (((rd_T24 l2 (l1.length : Int)).f3) == 0)))) := by simpa using c8))
     clear c8
     obtain rfl := Option.some.inj H
     have hwk : wrap64 ((l0.length : Int) + 2) = (l2.length : Int) := by rw [IntWalk.wrap64_in _ ⟨by omega, by omega⟩, hlen]; omega
     have hwk2 : IntKind.i64.wrap ((l0.length : Int) + 2) = (l2.length : Int) := (i64_w _).trans hwk
     obtain ⟨i0k, hi0k, _, _, _⟩ := info_parts info24
     have hcutk : ∀ W : World, (Instr.slice 22 (.slice A0 l0.length c0) none (some (.int .i64 (l2.length : Int))) none).run Try.prog W = .ok (.slice A2 l2.length c2) W := by
       have h_ := watchwordlaw0_KeptLasts.cut (P := Try.prog) 22 24 .i64 Try.underlying22 hi0k A0 l0.length c0 (l2.length : Int) (Int.natCast_nonneg _) (by have := HC2.out; rw [hcc] at this; omega)
       rw [Int.toNat_natCast] at h_; rw [hA, hcc]; exact h_
     have hcutk2 : ∀ W : World, (Instr.slice 22 (.slice A0 l0.length c0) none (some (.int .i64 ((l0.length : Int) + 2))) none).run Try.prog W = .ok (.slice A2 l2.length c2) W := by
       rw [show (l0.length : Int) + 2 = (l2.length : Int) by omega]; exact hcutk
     clear hi0k hsz hlen hA hcc
     go_enter Try.func23, Try.ntmps23
     go_wp2_with (first | ((with_reducible refine gate_callee (f := 19) rfl ?_); refine goesL_ (some 13) rfl rfl Try.func19 (by kernel_rfl) rfl #[.slice A0 l0.length c0, .slice A1 l1.length c1] rfl (by (try simp only [List.map_toArray, List.map_cons, List.map_nil]); first | done | rfl | (simp only [List.length_drop, List.length_take]; rfl)) ?_; (with_reducible refine (watchwordlaw0_SameLasts.calls k _ _ l0 _ _ l1 true _ ?side1 ?side2 ?side3 ?side4 A4.out).mono ?_); (case side1 => repeat (first | exact HR0.out | (with_reducible refine Kd.C_alloc ?_ _) | (with_reducible refine Kd.C_drewN ?_ _) | (with_reducible refine Kd.C_drew ?_))); (case side2 => exact HC0.out); (case side3 => repeat (first | exact HR1.out | (with_reducible refine Kd.C_alloc ?_ _) | (with_reducible refine Kd.C_drewN ?_ _) | (with_reducible refine Kd.C_drew ?_))); (case side4 => exact HC1.out); rintro e w' ⟨rfl, ⟨nd, rfl⟩⟩; refine ⟨_, rfl, ?_⟩; have p223 : 0 ≤ ((l1.length : Int) : Int) := of_decide_eq_true (by first | (with_reducible assumption) | assumption); have q223 : (l1.length : Int) < (l2.length : Int) := of_decide_eq_true (by first | (with_reducible assumption) | assumption); obtain ⟨ad223, e223, hx223_0, hx223_1, hx223_2, hx223_3⟩ := at_T24 HR2.out (l1.length : Int) p223 q223; cases e223; (try simp only [Go.IntWalk.toNatUp] at hx223_0); (try simp only [Go.IntWalk.toNatUp] at hx223_1); (try simp only [Go.IntWalk.toNatUp] at hx223_2); (try simp only [Go.IntWalk.toNatUp] at hx223_3); replace p223 := eq_true p223; replace q223 := eq_true q223))
     go_ret
     exact ⟨by first | rfl | (simp; done) | (simp [*]; done), by repeat (first | exact Drawn0.refl _ | apply Drawn0.step)⟩
   ·rw [if_neg c7] at H
    exact absurd H (by simp)
  ·rw [if_neg c6] at H
   exact absurd H (by simp)
 ·replace c5 := Bool.eq_false_iff.mpr c5
  subst c5
  have H1 : (some false) = some r := by rw [if_neg (show ¬ (false = true) by decide)] at H; exact H
  clear H
  have H := H1
  clear H1
  obtain rfl := Option.some.inj H
  have hwk : wrap64 ((l0.length : Int) + 2) = (l2.length : Int) := by rw [IntWalk.wrap64_in _ ⟨by omega, by omega⟩, hlen]; omega
  have hwk2 : IntKind.i64.wrap ((l0.length : Int) + 2) = (l2.length : Int) := (i64_w _).trans hwk
  obtain ⟨i0k, hi0k, _, _, _⟩ := info_parts info24
  have hcutk : ∀ W : World, (Instr.slice 22 (.slice A0 l0.length c0) none (some (.int .i64 (l2.length : Int))) none).run Try.prog W = .ok (.slice A2 l2.length c2) W := by
    have h_ := watchwordlaw0_KeptLasts.cut (P := Try.prog) 22 24 .i64 Try.underlying22 hi0k A0 l0.length c0 (l2.length : Int) (Int.natCast_nonneg _) (by have := HC2.out; rw [hcc] at this; omega)
    rw [Int.toNat_natCast] at h_; rw [hA, hcc]; exact h_
  have hcutk2 : ∀ W : World, (Instr.slice 22 (.slice A0 l0.length c0) none (some (.int .i64 ((l0.length : Int) + 2))) none).run Try.prog W = .ok (.slice A2 l2.length c2) W := by
    rw [show (l0.length : Int) + 2 = (l2.length : Int) by omega]; exact hcutk
  clear hi0k hsz hlen hA hcc
  go_enter Try.func23, Try.ntmps23
  go_wp2_with (first | ((with_reducible refine gate_callee (f := 19) rfl ?_); refine goesL_ (some 13) rfl rfl Try.func19 (by kernel_rfl) rfl #[.slice A0 l0.length c0, .slice A1 l1.length c1] rfl (by (try simp only [List.map_toArray, List.map_cons, List.map_nil]); first | done | rfl | (simp only [List.length_drop, List.length_take]; rfl)) ?_; (with_reducible refine (watchwordlaw0_SameLasts.calls k _ _ l0 _ _ l1 false _ ?side1 ?side2 ?side3 ?side4 A4.out).mono ?_); (case side1 => repeat (first | exact HR0.out | (with_reducible refine Kd.C_alloc ?_ _) | (with_reducible refine Kd.C_drewN ?_ _) | (with_reducible refine Kd.C_drew ?_))); (case side2 => exact HC0.out); (case side3 => repeat (first | exact HR1.out | (with_reducible refine Kd.C_alloc ?_ _) | (with_reducible refine Kd.C_drewN ?_ _) | (with_reducible refine Kd.C_drew ?_))); (case side4 => exact HC1.out); rintro e w' ⟨rfl, ⟨nd, rfl⟩⟩; refine ⟨_, rfl, ?_⟩))
  go_ret
  exact ⟨by first | rfl | (simp; done) | (simp [*]; done), by repeat (first | exact Drawn0.refl _ | apply Drawn0.step)⟩

end Go.Proofs.Ytabjambabnbmnaa.Q14
namespace Go.Proofs.Ytabjambabnbmnaa.Q14
open Go.RowKit Go.Proofs.YtabjambabnbmnaaW.PrintWords Go.Proofs.YtabjambabnbmnaaW.PrintLast Go.Proofs.YtabjambabnbmnaaW.PrintMore
attribute [local go_sem] max2_int min2_int max_two min_two max_three min_three max_four min_four   -- for this text's walks alone
set_option linter.unusedVariables false
set_option linter.unusedSimpArgs false

attribute [local go_sem high] eqA24
/-! ### watchwordlaw14_awake: function 24 -/
def watchwordlaw14_awake.f (k : Nat)  : Option (Bool) := (last_With.f k ([] : List (S24)) 2 1 3 9).bind fun bt230 => ((last_Newer.f k bt230.1 2 1 4 1).bind fun bt235 => ((last_Newer.f k bt230.1 2 1 3 9).bind fun bt237 => ((last_With.f k bt230.1 2 5 3 9).bind fun bt240 => ((last_Newer.f k bt230.1 0 0 0 0).bind fun bt244 => ((watchwordlaw0_SameLasts.f k bt230.1 (([(⟨2, 1, 3, 9⟩ : S24)] : List (S24)))).bind fun t249 => (if t249 = true then ((watchwordlaw0_Num.f bt230.2).bind fun t250 => (if t250 = 0 then (if bt235.1 = true then ((watchwordlaw0_Num.f bt235.2).bind fun t251 => (if t251 = 0 then (if bt237.1 = true then (some false) else ((watchwordlaw0_Num.f bt237.2).bind fun t252 => (if t252 = 0 then ((watchwordlaw0_SameLasts.f k bt240.1 (([(⟨2, 1, 3, 9⟩ : S24), (⟨2, 5, 3, 9⟩ : S24)] : List (S24)))).bind fun t256 => (if t256 = true then ((watchwordlaw0_Num.f bt240.2).bind fun t257 => (if t257 = 0 then ((watchwordlaw0_Num.f bt244.2).bind fun t258 => (if t258 = 1400 then ((last_May.f k bt240.1).bind fun t259 => (some t259)) else (some false))) else (some false))) else (some false))) else (some false)))) else (some false))) else (some false)) else (some false))) else (some false)))))))
theorem watchwordlaw14_awake.mono : ∀ k, LeO (watchwordlaw14_awake.f k ) (watchwordlaw14_awake.f (k + 1) ) := by
 intro  k
 unfold watchwordlaw14_awake.f
 repeat' first
   | (with_reducible exact last_May.mono _ _)
   | (with_reducible exact last_Newer.mono _ _ _ _ _ _)
   | (with_reducible exact last_With.mono _ _ _ _ _ _)
   | (with_reducible exact watchwordlaw0_SameLasts.mono _ _ _)
   | (with_reducible exact LeO.refl _)
   | (with_reducible exact LeO.none _)
   | (with_reducible refine LeO.ite ?_ ?_)
   | (with_reducible refine LeO.bind ?_ (fun _ => ?_))
   | exact last_May.mono _ _
   | exact last_Newer.mono _ _ _ _ _ _
   | exact last_With.mono _ _ _ _ _ _
   | exact watchwordlaw0_SameLasts.mono _ _ _
   | exact LeO.none _
   | refine LeO.ite ?_ ?_
   | refine LeO.bind ?_ (fun _ => ?_)
set_option maxHeartbeats 8000000 in
set_option maxRecDepth 100000 in
theorem watchwordlaw14_awake.calls (k : Nat)  (r : Bool) (w : World) (h : watchwordlaw14_awake.f k  = some r) (hT : r = true) :
  Calls Try.prog 24 #[] w fun e w' => e = .returned (.bool r) ∧ Below w.heap.size w w' := by
 have hu24 := Try.underlying24
 have HB := Aside0.mk (Below.refl w.heap.size w)
 have HT := Aside0.mk hT
 clear hT
 have H : ((last_With.f k ([] : List (S24)) 2 1 3 9).bind fun bt230 => ((last_Newer.f k bt230.1 2 1 4 1).bind fun bt235 => ((last_Newer.f k bt230.1 2 1 3 9).bind fun bt237 => ((last_With.f k bt230.1 2 5 3 9).bind fun bt240 => ((last_Newer.f k bt230.1 0 0 0 0).bind fun bt244 => ((watchwordlaw0_SameLasts.f k bt230.1 (([(⟨2, 1, 3, 9⟩ : S24)] : List (S24)))).bind fun t249 => (if t249 = true then ((watchwordlaw0_Num.f bt230.2).bind fun t250 => (if t250 = 0 then (if bt235.1 = true then ((watchwordlaw0_Num.f bt235.2).bind fun t251 => (if t251 = 0 then (if bt237.1 = true then (some false) else ((watchwordlaw0_Num.f bt237.2).bind fun t252 => (if t252 = 0 then ((watchwordlaw0_SameLasts.f k bt240.1 (([(⟨2, 1, 3, 9⟩ : S24), (⟨2, 5, 3, 9⟩ : S24)] : List (S24)))).bind fun t256 => (if t256 = true then ((watchwordlaw0_Num.f bt240.2).bind fun t257 => (if t257 = 0 then ((watchwordlaw0_Num.f bt244.2).bind fun t258 => (if t258 = 1400 then ((last_May.f k bt240.1).bind fun t259 => (some t259)) else (some false))) else (some false))) else (some false))) else (some false)))) else (some false))) else (some false)) else (some false))) else (some false)))))))) = some r := h
 clear h
 replace H := Option.bind_eq_some_iff.mp H
 obtain ⟨⟨t230, t233⟩, A10, H⟩ := H
 replace H : ((last_Newer.f k t230 2 1 4 1).bind fun bt235 => ((last_Newer.f k t230 2 1 3 9).bind fun bt237 => ((last_With.f k t230 2 5 3 9).bind fun bt240 => ((last_Newer.f k t230 0 0 0 0).bind fun bt244 => ((watchwordlaw0_SameLasts.f k t230 (([(⟨2, 1, 3, 9⟩ : S24)] : List (S24)))).bind fun t249 => (if t249 = true then ((watchwordlaw0_Num.f t233).bind fun t250 => (if t250 = 0 then (if bt235.1 = true then ((watchwordlaw0_Num.f bt235.2).bind fun t251 => (if t251 = 0 then (if bt237.1 = true then (some false) else ((watchwordlaw0_Num.f bt237.2).bind fun t252 => (if t252 = 0 then ((watchwordlaw0_SameLasts.f k bt240.1 (([(⟨2, 1, 3, 9⟩ : S24), (⟨2, 5, 3, 9⟩ : S24)] : List (S24)))).bind fun t256 => (if t256 = true then ((watchwordlaw0_Num.f bt240.2).bind fun t257 => (if t257 = 0 then ((watchwordlaw0_Num.f bt244.2).bind fun t258 => (if t258 = 1400 then ((last_May.f k bt240.1).bind fun t259 => (some t259)) else (some false))) else (some false))) else (some false))) else (some false)))) else (some false))) else (some false)) else (some false))) else (some false))))))) = some r := H
 have A1 := Aside0.mk A10
 clear A10
 replace H := Option.bind_eq_some_iff.mp H
 obtain ⟨⟨t235, t236⟩, A20, H⟩ := H
 replace H : ((last_Newer.f k t230 2 1 3 9).bind fun bt237 => ((last_With.f k t230 2 5 3 9).bind fun bt240 => ((last_Newer.f k t230 0 0 0 0).bind fun bt244 => ((watchwordlaw0_SameLasts.f k t230 (([(⟨2, 1, 3, 9⟩ : S24)] : List (S24)))).bind fun t249 => (if t249 = true then ((watchwordlaw0_Num.f t233).bind fun t250 => (if t250 = 0 then (if t235 = true then ((watchwordlaw0_Num.f t236).bind fun t251 => (if t251 = 0 then (if bt237.1 = true then (some false) else ((watchwordlaw0_Num.f bt237.2).bind fun t252 => (if t252 = 0 then ((watchwordlaw0_SameLasts.f k bt240.1 (([(⟨2, 1, 3, 9⟩ : S24), (⟨2, 5, 3, 9⟩ : S24)] : List (S24)))).bind fun t256 => (if t256 = true then ((watchwordlaw0_Num.f bt240.2).bind fun t257 => (if t257 = 0 then ((watchwordlaw0_Num.f bt244.2).bind fun t258 => (if t258 = 1400 then ((last_May.f k bt240.1).bind fun t259 => (some t259)) else (some false))) else (some false))) else (some false))) else (some false)))) else (some false))) else (some false)) else (some false))) else (some false)))))) = some r := H
 have A2 := Aside0.mk A20
 clear A20
 replace H := Option.bind_eq_some_iff.mp H
 obtain ⟨⟨t237, t238⟩, A30, H⟩ := H
 replace H : ((last_With.f k t230 2 5 3 9).bind fun bt240 => ((last_Newer.f k t230 0 0 0 0).bind fun bt244 => ((watchwordlaw0_SameLasts.f k t230 (([(⟨2, 1, 3, 9⟩ : S24)] : List (S24)))).bind fun t249 => (if t249 = true then ((watchwordlaw0_Num.f t233).bind fun t250 => (if t250 = 0 then (if t235 = true then ((watchwordlaw0_Num.f t236).bind fun t251 => (if t251 = 0 then (if t237 = true then (some false) else ((watchwordlaw0_Num.f t238).bind fun t252 => (if t252 = 0 then ((watchwordlaw0_SameLasts.f k bt240.1 (([(⟨2, 1, 3, 9⟩ : S24), (⟨2, 5, 3, 9⟩ : S24)] : List (S24)))).bind fun t256 => (if t256 = true then ((watchwordlaw0_Num.f bt240.2).bind fun t257 => (if t257 = 0 then ((watchwordlaw0_Num.f bt244.2).bind fun t258 => (if t258 = 1400 then ((last_May.f k bt240.1).bind fun t259 => (some t259)) else (some false))) else (some false))) else (some false))) else (some false)))) else (some false))) else (some false)) else (some false))) else (some false))))) = some r := H
 have A3 := Aside0.mk A30
 clear A30
 replace H := Option.bind_eq_some_iff.mp H
 obtain ⟨⟨t240, t243⟩, A40, H⟩ := H
 replace H : ((last_Newer.f k t230 0 0 0 0).bind fun bt244 => ((watchwordlaw0_SameLasts.f k t230 (([(⟨2, 1, 3, 9⟩ : S24)] : List (S24)))).bind fun t249 => (if t249 = true then ((watchwordlaw0_Num.f t233).bind fun t250 => (if t250 = 0 then (if t235 = true then ((watchwordlaw0_Num.f t236).bind fun t251 => (if t251 = 0 then (if t237 = true then (some false) else ((watchwordlaw0_Num.f t238).bind fun t252 => (if t252 = 0 then ((watchwordlaw0_SameLasts.f k t240 (([(⟨2, 1, 3, 9⟩ : S24), (⟨2, 5, 3, 9⟩ : S24)] : List (S24)))).bind fun t256 => (if t256 = true then ((watchwordlaw0_Num.f t243).bind fun t257 => (if t257 = 0 then ((watchwordlaw0_Num.f bt244.2).bind fun t258 => (if t258 = 1400 then ((last_May.f k t240).bind fun t259 => (some t259)) else (some false))) else (some false))) else (some false))) else (some false)))) else (some false))) else (some false)) else (some false))) else (some false)))) = some r := H
 have A4 := Aside0.mk A40
 clear A40
 replace H := Option.bind_eq_some_iff.mp H
 obtain ⟨⟨t244, t245⟩, A50, H⟩ := H
 replace H : ((watchwordlaw0_SameLasts.f k t230 (([(⟨2, 1, 3, 9⟩ : S24)] : List (S24)))).bind fun t249 => (if t249 = true then ((watchwordlaw0_Num.f t233).bind fun t250 => (if t250 = 0 then (if t235 = true then ((watchwordlaw0_Num.f t236).bind fun t251 => (if t251 = 0 then (if t237 = true then (some false) else ((watchwordlaw0_Num.f t238).bind fun t252 => (if t252 = 0 then ((watchwordlaw0_SameLasts.f k t240 (([(⟨2, 1, 3, 9⟩ : S24), (⟨2, 5, 3, 9⟩ : S24)] : List (S24)))).bind fun t256 => (if t256 = true then ((watchwordlaw0_Num.f t243).bind fun t257 => (if t257 = 0 then ((watchwordlaw0_Num.f t245).bind fun t258 => (if t258 = 1400 then ((last_May.f k t240).bind fun t259 => (some t259)) else (some false))) else (some false))) else (some false))) else (some false)))) else (some false))) else (some false)) else (some false))) else (some false))) = some r := H
 have A5 := Aside0.mk A50
 clear A50
 obtain ⟨y246, hy246⟩ : ∃ y_ : List (S24), y_ = (([(⟨2, 1, 3, 9⟩ : S24)] : List (S24))) := ⟨_, rfl⟩
 replace H : ((watchwordlaw0_SameLasts.f k t230 y246).bind fun t249 => (if t249 = true then ((watchwordlaw0_Num.f t233).bind fun t250 => (if t250 = 0 then (if t235 = true then ((watchwordlaw0_Num.f t236).bind fun t251 => (if t251 = 0 then (if t237 = true then (some false) else ((watchwordlaw0_Num.f t238).bind fun t252 => (if t252 = 0 then ((watchwordlaw0_SameLasts.f k t240 (([(⟨2, 1, 3, 9⟩ : S24), (⟨2, 5, 3, 9⟩ : S24)] : List (S24)))).bind fun t256 => (if t256 = true then ((watchwordlaw0_Num.f t243).bind fun t257 => (if t257 = 0 then ((watchwordlaw0_Num.f t245).bind fun t258 => (if t258 = 1400 then ((last_May.f k t240).bind fun t259 => (some t259)) else (some false))) else (some false))) else (some false))) else (some false)))) else (some false))) else (some false)) else (some false))) else (some false))) = some r := by first | (rw [hy246]; with_reducible exact H) | (have H2_ := (Option.bind_some _ _).symm.trans H; rw [hy246]; with_reducible exact H2_) | (have H2_ := (Option.bind_some _ _).symm.trans H; with_reducible exact H2_) | with_reducible exact H | (rw [hy246]; exact H) | exact H
 have Ny246 := Aside0.mk hy246
 clear hy246
 replace H := Option.bind_eq_some_iff.mp H
 obtain ⟨t249, A60, H⟩ := H
 replace H : (if t249 = true then ((watchwordlaw0_Num.f t233).bind fun t250 => (if t250 = 0 then (if t235 = true then ((watchwordlaw0_Num.f t236).bind fun t251 => (if t251 = 0 then (if t237 = true then (some false) else ((watchwordlaw0_Num.f t238).bind fun t252 => (if t252 = 0 then ((watchwordlaw0_SameLasts.f k t240 (([(⟨2, 1, 3, 9⟩ : S24), (⟨2, 5, 3, 9⟩ : S24)] : List (S24)))).bind fun t256 => (if t256 = true then ((watchwordlaw0_Num.f t243).bind fun t257 => (if t257 = 0 then ((watchwordlaw0_Num.f t245).bind fun t258 => (if t258 = 1400 then ((last_May.f k t240).bind fun t259 => (some t259)) else (some false))) else (some false))) else (some false))) else (some false)))) else (some false))) else (some false)) else (some false))) else (some false)) = some r := H
 have A6 := Aside0.mk A60
 clear A60
 by_cases c7 : t249 = true
 ·subst c7
  have H1 : ((watchwordlaw0_Num.f t233).bind fun t250 => (if t250 = 0 then (if t235 = true then ((watchwordlaw0_Num.f t236).bind fun t251 => (if t251 = 0 then (if t237 = true then (some false) else ((watchwordlaw0_Num.f t238).bind fun t252 => (if t252 = 0 then ((watchwordlaw0_SameLasts.f k t240 (([(⟨2, 1, 3, 9⟩ : S24), (⟨2, 5, 3, 9⟩ : S24)] : List (S24)))).bind fun t256 => (if t256 = true then ((watchwordlaw0_Num.f t243).bind fun t257 => (if t257 = 0 then ((watchwordlaw0_Num.f t245).bind fun t258 => (if t258 = 1400 then ((last_May.f k t240).bind fun t259 => (some t259)) else (some false))) else (some false))) else (some false))) else (some false)))) else (some false))) else (some false)) else (some false))) = some r := by rw [if_pos rfl] at H; exact H
  clear H
  have H := H1
  clear H1
  replace H := Option.bind_eq_some_iff.mp H
  obtain ⟨t250, A80, H⟩ := H
  replace H : (if t250 = 0 then (if t235 = true then ((watchwordlaw0_Num.f t236).bind fun t251 => (if t251 = 0 then (if t237 = true then (some false) else ((watchwordlaw0_Num.f t238).bind fun t252 => (if t252 = 0 then ((watchwordlaw0_SameLasts.f k t240 (([(⟨2, 1, 3, 9⟩ : S24), (⟨2, 5, 3, 9⟩ : S24)] : List (S24)))).bind fun t256 => (if t256 = true then ((watchwordlaw0_Num.f t243).bind fun t257 => (if t257 = 0 then ((watchwordlaw0_Num.f t245).bind fun t258 => (if t258 = 1400 then ((last_May.f k t240).bind fun t259 => (some t259)) else (some false))) else (some false))) else (some false))) else (some false)))) else (some false))) else (some false)) else (some false)) = some r := H
  have A8 := Aside0.mk A80
  clear A80
  by_cases c9 : t250 = 0
  ·rw [if_pos c9] at H
   have c9b0 : (t250 == 0) = true := beq_iff_eq.mpr c9
   have c9b1 : (t250 != 0) = false := bne_eq_false_iff_eq.mpr c9
   clear c9
   by_cases c10 : t235 = true
   ·subst c10
    have H1 : ((watchwordlaw0_Num.f t236).bind fun t251 => (if t251 = 0 then (if t237 = true then (some false) else ((watchwordlaw0_Num.f t238).bind fun t252 => (if t252 = 0 then ((watchwordlaw0_SameLasts.f k t240 (([(⟨2, 1, 3, 9⟩ : S24), (⟨2, 5, 3, 9⟩ : S24)] : List (S24)))).bind fun t256 => (if t256 = true then ((watchwordlaw0_Num.f t243).bind fun t257 => (if t257 = 0 then ((watchwordlaw0_Num.f t245).bind fun t258 => (if t258 = 1400 then ((last_May.f k t240).bind fun t259 => (some t259)) else (some false))) else (some false))) else (some false))) else (some false)))) else (some false))) = some r := by rw [if_pos rfl] at H; exact H
    clear H
    have H := H1
    clear H1
    replace H := Option.bind_eq_some_iff.mp H
    obtain ⟨t251, A110, H⟩ := H
    replace H : (if t251 = 0 then (if t237 = true then (some false) else ((watchwordlaw0_Num.f t238).bind fun t252 => (if t252 = 0 then ((watchwordlaw0_SameLasts.f k t240 (([(⟨2, 1, 3, 9⟩ : S24), (⟨2, 5, 3, 9⟩ : S24)] : List (S24)))).bind fun t256 => (if t256 = true then ((watchwordlaw0_Num.f t243).bind fun t257 => (if t257 = 0 then ((watchwordlaw0_Num.f t245).bind fun t258 => (if t258 = 1400 then ((last_May.f k t240).bind fun t259 => (some t259)) else (some false))) else (some false))) else (some false))) else (some false)))) else (some false)) = some r := H
    have A11 := Aside0.mk A110
    clear A110
    by_cases c12 : t251 = 0
    ·rw [if_pos c12] at H
     have c12b0 : (t251 == 0) = true := beq_iff_eq.mpr c12
     have c12b1 : (t251 != 0) = false := bne_eq_false_iff_eq.mpr c12
     clear c12
     by_cases c13 : t237 = true
     ·subst c13
      have H1 : (some false) = some r := by rw [if_pos rfl] at H; exact H
      clear H
      have H := H1
      clear H1
      exact absurd (Option.some.inj H) (by rw [HT.out]; decide)
     ·replace c13 := Bool.eq_false_iff.mpr c13
      subst c13
      have H1 : ((watchwordlaw0_Num.f t238).bind fun t252 => (if t252 = 0 then ((watchwordlaw0_SameLasts.f k t240 (([(⟨2, 1, 3, 9⟩ : S24), (⟨2, 5, 3, 9⟩ : S24)] : List (S24)))).bind fun t256 => (if t256 = true then ((watchwordlaw0_Num.f t243).bind fun t257 => (if t257 = 0 then ((watchwordlaw0_Num.f t245).bind fun t258 => (if t258 = 1400 then ((last_May.f k t240).bind fun t259 => (some t259)) else (some false))) else (some false))) else (some false))) else (some false))) = some r := by rw [if_neg (show ¬ (false = true) by decide)] at H; exact H
      clear H
      have H := H1
      clear H1
      replace H := Option.bind_eq_some_iff.mp H
      obtain ⟨t252, A140, H⟩ := H
      replace H : (if t252 = 0 then ((watchwordlaw0_SameLasts.f k t240 (([(⟨2, 1, 3, 9⟩ : S24), (⟨2, 5, 3, 9⟩ : S24)] : List (S24)))).bind fun t256 => (if t256 = true then ((watchwordlaw0_Num.f t243).bind fun t257 => (if t257 = 0 then ((watchwordlaw0_Num.f t245).bind fun t258 => (if t258 = 1400 then ((last_May.f k t240).bind fun t259 => (some t259)) else (some false))) else (some false))) else (some false))) else (some false)) = some r := H
      have A14 := Aside0.mk A140
      clear A140
      by_cases c15 : t252 = 0
      ·rw [if_pos c15] at H
       have c15b0 : (t252 == 0) = true := beq_iff_eq.mpr c15
       have c15b1 : (t252 != 0) = false := bne_eq_false_iff_eq.mpr c15
       clear c15
       obtain ⟨y253, hy253⟩ : ∃ y_ : List (S24), y_ = (([(⟨2, 1, 3, 9⟩ : S24), (⟨2, 5, 3, 9⟩ : S24)] : List (S24))) := ⟨_, rfl⟩
       replace H : ((watchwordlaw0_SameLasts.f k t240 y253).bind fun t256 => (if t256 = true then ((watchwordlaw0_Num.f t243).bind fun t257 => (if t257 = 0 then ((watchwordlaw0_Num.f t245).bind fun t258 => (if t258 = 1400 then ((last_May.f k t240).bind fun t259 => (some t259)) else (some false))) else (some false))) else (some false))) = some r := by first | (rw [hy253]; with_reducible exact H) | (have H2_ := (Option.bind_some _ _).symm.trans H; rw [hy253]; with_reducible exact H2_) | (have H2_ := (Option.bind_some _ _).symm.trans H; with_reducible exact H2_) | with_reducible exact H | (rw [hy253]; exact H) | exact H
       have Ny253 := Aside0.mk hy253
       clear hy253
       replace H := Option.bind_eq_some_iff.mp H
       obtain ⟨t256, A160, H⟩ := H
       replace H : (if t256 = true then ((watchwordlaw0_Num.f t243).bind fun t257 => (if t257 = 0 then ((watchwordlaw0_Num.f t245).bind fun t258 => (if t258 = 1400 then ((last_May.f k t240).bind fun t259 => (some t259)) else (some false))) else (some false))) else (some false)) = some r := H
       have A16 := Aside0.mk A160
       clear A160
       by_cases c17 : t256 = true
       ·subst c17
        have H1 : ((watchwordlaw0_Num.f t243).bind fun t257 => (if t257 = 0 then ((watchwordlaw0_Num.f t245).bind fun t258 => (if t258 = 1400 then ((last_May.f k t240).bind fun t259 => (some t259)) else (some false))) else (some false))) = some r := by rw [if_pos rfl] at H; exact H
        clear H
        have H := H1
        clear H1
        replace H := Option.bind_eq_some_iff.mp H
        obtain ⟨t257, A180, H⟩ := H
        replace H : (if t257 = 0 then ((watchwordlaw0_Num.f t245).bind fun t258 => (if t258 = 1400 then ((last_May.f k t240).bind fun t259 => (some t259)) else (some false))) else (some false)) = some r := H
        have A18 := Aside0.mk A180
        clear A180
        by_cases c19 : t257 = 0
        ·rw [if_pos c19] at H
         have c19b0 : (t257 == 0) = true := beq_iff_eq.mpr c19
         have c19b1 : (t257 != 0) = false := bne_eq_false_iff_eq.mpr c19
         clear c19
         replace H := Option.bind_eq_some_iff.mp H
         obtain ⟨t258, A200, H⟩ := H
         replace H : (if t258 = 1400 then ((last_May.f k t240).bind fun t259 => (some t259)) else (some false)) = some r := H
         have A20 := Aside0.mk A200
         clear A200
         by_cases c21 : t258 = 1400
         ·rw [if_pos c21] at H
          have c21b0 : (t258 == 1400) = true := beq_iff_eq.mpr c21
          have c21b1 : (t258 != 1400) = false := bne_eq_false_iff_eq.mpr c21
          clear c21
          replace H := Option.bind_eq_some_iff.mp H
          obtain ⟨t259, A220, H⟩ := H
          replace H : (some t259) = some r := H
          have A22 := Aside0.mk A220
          clear A220
          obtain rfl := Option.some.inj H
          go_enter Try.func24, Try.ntmps24
          go_wp2_with (first | ((with_reducible refine gate_dst (N := 1) rfl ?_); (try (refine gate_guard (by rfl) ?_; dsimp only)); refine box_event ?hg (N := 1) ?hd (cs := #[.int .i64 0, .int .i64 0, .int .i64 0, .int .i64 0]) (t := 24) ?hr ?_; (case hd => rfl); (case hg => rfl); (case hr => first | (go_simp; done) | (go_simp; rfl)); intro gb229 hg w23 hbox hb; have n0_ := Aside0.mk (below_step (by repeat (first | (with_reducible first | exact HB.out | apply below_alloc | apply pw_below_drewN | apply below_drew1) | exact HB.out)) hb); have n1_ := Aside0.mk (hbox); have n2_ := Aside0.mk ((by rw [hg]; exact (below_size (by repeat (first | (with_reducible first | exact HB.out | apply below_alloc | apply pw_below_drewN | apply below_drew1) | exact HB.out))) : w.heap.size ≤ gb229)); have n3_ := Aside0.mk ((by rw [hg]; exact (below_size (by repeat (first | (with_reducible first | exact HB.out | apply below_alloc | apply pw_below_drewN | apply below_drew1) | exact HB.out))) : w.heap.size ≤ gb229)); clear HB; have HB := n0_; have BK229 := n1_; have GW229 := n2_; have GE229 := n3_; clear n0_ n1_ n2_ n3_; clear hb hbox hg; have hcz24_0 : w23.cell? ⟨gb229, 0, none⟩ = some (.int .i64 0) := (blk_cell BK229.out 0).trans rfl; have hcz24_1 : w23.cell? ⟨gb229, 1, none⟩ = some (.int .i64 0) := (blk_cell BK229.out 1).trans rfl; have hcz24_2 : w23.cell? ⟨gb229, 2, none⟩ = some (.int .i64 0) := (blk_cell BK229.out 2).trans rfl; have hcz24_3 : w23.cell? ⟨gb229, 3, none⟩ = some (.int .i64 0) := (blk_cell BK229.out 3).trans rfl; have hfz24_0 := blk_frozen BK229.out 0; have hfz24_1 := blk_frozen BK229.out 1; have hfz24_2 := blk_frozen BK229.out 2; have hfz24_3 := blk_frozen BK229.out 3) | ((with_reducible refine gate_store (t := 24) (p := 1) rfl ?_); refine store_event (t := 24) (p := 1) (v := ?vo_w25) (w1 := ((((w23.setCell ⟨gb229, 0, none⟩ (.int .i64 2)).setCell ⟨gb229, 1, none⟩ (.int .i64 1)).setCell ⟨gb229, 2, none⟩ (.int .i64 3)).setCell ⟨gb229, 3, none⟩ (.int .i64 9))) ?hg ?ho ?hn ?hr ?_; (case ho => rfl); (case hg => rfl); (case hn => rfl); (case hr => first | (go_simp; done) | (go_simp; rfl)); intro w25 hw; have n0_ : Aside0 (w25.heap[gb229]? = some (.cells #[.int .i64 2, .int .i64 1, .int .i64 3, .int .i64 9] 24 (0, 0))) := ⟨(by rw [hw]; exact (by (with_reducible repeat (first | refine blk_drewN ?_ _ | refine blk_drew ?_ | refine blk_alloc ?_ _)); refine blk_put (cs := #[.int .i64 2, .int .i64 1, .int .i64 3, .int .i64 0]) ?_ 3 _ rfl; (with_reducible repeat (first | refine blk_drewN ?_ _ | refine blk_drew ?_ | refine blk_alloc ?_ _)); refine blk_put (cs := #[.int .i64 2, .int .i64 1, .int .i64 0, .int .i64 0]) ?_ 2 _ rfl; (with_reducible repeat (first | refine blk_drewN ?_ _ | refine blk_drew ?_ | refine blk_alloc ?_ _)); refine blk_put (cs := #[.int .i64 2, .int .i64 0, .int .i64 0, .int .i64 0]) ?_ 1 _ rfl; (with_reducible repeat (first | refine blk_drewN ?_ _ | refine blk_drew ?_ | refine blk_alloc ?_ _)); refine blk_put (cs := #[.int .i64 0, .int .i64 0, .int .i64 0, .int .i64 0]) ?_ 0 _ rfl; (with_reducible repeat (first | refine blk_drewN ?_ _ | refine blk_drew ?_ | refine blk_alloc ?_ _)); exact BK229.out))⟩; have n1_ : Aside0 (Below w.heap.size w w25) := ⟨(by rw [hw]; exact (by repeat (first | (with_reducible first | exact HB.out | apply below_alloc | apply pw_below_drewN | apply below_drew1 | refine below_set ?_ GE229.out) | exact HB.out)))⟩; clear hw; clear BK229; clear HB; have BK229 := n0_; have HB := n1_; clear n0_ n1_; have hcz26_0 : w25.cell? ⟨gb229, 0, none⟩ = some (.int .i64 2) := (blk_cell BK229.out 0).trans rfl; have hcz26_1 : w25.cell? ⟨gb229, 1, none⟩ = some (.int .i64 1) := (blk_cell BK229.out 1).trans rfl; have hcz26_2 : w25.cell? ⟨gb229, 2, none⟩ = some (.int .i64 3) := (blk_cell BK229.out 2).trans rfl; have hcz26_3 : w25.cell? ⟨gb229, 3, none⟩ = some (.int .i64 9) := (blk_cell BK229.out 3).trans rfl; have hfz26_0 := blk_frozen BK229.out 0; have hfz26_1 := blk_frozen BK229.out 1; have hfz26_2 := blk_frozen BK229.out 2; have hfz26_3 := blk_frozen BK229.out 3) | ((with_reducible refine gate_callee (f := 16) rfl ?_); refine goesL_ (some 17) rfl rfl Try.func16 (by kernel_rfl) rfl #[.slice none 0 0, .agg #[.int .i64 2, .int .i64 1, .int .i64 3, .int .i64 9]] rfl (by (try simp only [List.map_toArray, List.map_cons, List.map_nil]); first | done | rfl | (simp only [List.length_drop, List.length_take]; rfl)) ?_; (refine (last_With.calls k _ _ ([] : List (S24)) 2 1 3 9 t230 t233 _ ?side1 ?side2 A1.out).mono ?_); (case side1 => exact Kd.C_nil _ _); (case side2 => exact Nat.le_refl _); rintro e w27 ⟨v231, rfl, ho0, hb⟩; refine ⟨_, rfl, ?_⟩; have n0_ := Aside0.mk (Kd.R_lower (Kd.R_newB ho0 (g := gb229) (o := .cells #[.int .i64 2, .int .i64 1, .int .i64 3, .int .i64 9] 24 (0, 0)) (by (with_reducible repeat (first | refine blk_drewN ?_ _ | refine blk_drew ?_ | refine blk_alloc ?_ _)); exact BK229.out)) (below_size (by repeat (first | (with_reducible first | exact HB.out | apply below_alloc | apply pw_below_drewN | apply below_drew1 | refine below_set ?_ GE229.out) | exact HB.out)))); have n1_ := Aside0.mk (blk_below (g := gb229) (o := .cells #[.int .i64 2, .int .i64 1, .int .i64 3, .int .i64 9] 24 (0, 0)) (by (with_reducible repeat (first | refine blk_drewN ?_ _ | refine blk_drew ?_ | refine blk_alloc ?_ _)); exact BK229.out) hb); have n2_ := Aside0.mk (below_step (by repeat (first | (with_reducible first | exact HB.out | apply below_alloc | apply pw_below_drewN | apply below_drew1 | refine below_set ?_ GE229.out) | exact HB.out)) hb); clear BK229; clear HB; have HO232 := n0_; have BK229 := n1_; have HB := n2_; clear n0_ n1_ n2_; (try clear hb); (try clear hb2); (try clear hk); (try clear hi); (try clear ho0); have hcz28_0 : w27.cell? ⟨gb229, 0, none⟩ = some (.int .i64 2) := (blk_cell BK229.out 0).trans rfl; have hcz28_1 : w27.cell? ⟨gb229, 1, none⟩ = some (.int .i64 1) := (blk_cell BK229.out 1).trans rfl; have hcz28_2 : w27.cell? ⟨gb229, 2, none⟩ = some (.int .i64 3) := (blk_cell BK229.out 2).trans rfl; have hcz28_3 : w27.cell? ⟨gb229, 3, none⟩ = some (.int .i64 9) := (blk_cell BK229.out 3).trans rfl; have hfz28_0 := blk_frozen BK229.out 0; have hfz28_1 := blk_frozen BK229.out 1; have hfz28_2 := blk_frozen BK229.out 2; have hfz28_3 := blk_frozen BK229.out 3) | ((with_reducible refine gate_dst (N := 4) rfl ?_); (try (refine gate_guard (by rfl) ?_; dsimp only)); refine box_event ?hg (N := 4) ?hd (cs := #[.int .i64 0, .int .i64 0, .int .i64 0, .int .i64 0]) (t := 24) ?hr ?_; (case hd => rfl); (case hg => rfl); (case hr => first | (go_simp; done) | (go_simp; rfl)); intro gb234 hg w29 hbox hb; have n0_ := Aside0.mk (Kd.R_below (Kd.R_elderB (by (with_reducible repeat (first | apply Kd.R_alloc | apply Kd.R_drewN | apply Kd.R_drew)); exact HO232.out) gb234 (Nat.le_of_eq hg.symm)) hb); have n1_ := Aside0.mk (blk_below (g := gb229) (o := .cells #[.int .i64 2, .int .i64 1, .int .i64 3, .int .i64 9] 24 (0, 0)) (by (with_reducible repeat (first | refine blk_drewN ?_ _ | refine blk_drew ?_ | refine blk_alloc ?_ _)); exact BK229.out) hb); have n2_ := Aside0.mk (below_step (by repeat (first | (with_reducible first | exact HB.out | apply below_alloc | apply pw_below_drewN | apply below_drew1 | refine below_set ?_ GE229.out) | exact HB.out)) hb); have n3_ := Aside0.mk (hbox); have n4_ := Aside0.mk ((by rw [hg]; exact (below_size (by repeat (first | (with_reducible first | exact HB.out | apply below_alloc | apply pw_below_drewN | apply below_drew1 | refine below_set ?_ GE229.out) | exact HB.out))) : w.heap.size ≤ gb234)); have n5_ := Aside0.mk ((by rw [hg]; exact (below_size (by repeat (first | (with_reducible first | exact HB.out | apply below_alloc | apply pw_below_drewN | apply below_drew1 | refine below_set ?_ GE229.out) | exact HB.out))) : w.heap.size ≤ gb234)); have n6_ := Aside0.mk ((by rw [hg]; exact Nat.ne_of_lt (blk_lt (g := gb229) (o := .cells #[.int .i64 2, .int .i64 1, .int .i64 3, .int .i64 9] 24 (0, 0)) (by (with_reducible repeat (first | refine blk_drewN ?_ _ | refine blk_drew ?_ | refine blk_alloc ?_ _)); exact BK229.out)) : gb229 ≠ gb234)); have n7_ := Aside0.mk ((by rw [hg]; exact Nat.ne_of_gt (blk_lt (g := gb229) (o := .cells #[.int .i64 2, .int .i64 1, .int .i64 3, .int .i64 9] 24 (0, 0)) (by (with_reducible repeat (first | refine blk_drewN ?_ _ | refine blk_drew ?_ | refine blk_alloc ?_ _)); exact BK229.out)) : gb234 ≠ gb229)); clear HO232; clear BK229; clear HB; have HO232 := n0_; have BK229 := n1_; have HB := n2_; have BK234 := n3_; have GW234 := n4_; have GE234 := n5_; have NB229_234 := n6_; have NB234_229 := n7_; clear n0_ n1_ n2_ n3_ n4_ n5_ n6_ n7_; clear hb hbox hg; have hnb30 := NB234_229.out; have hnc30 := NB229_234.out; have hcz31_0 : w29.cell? ⟨gb234, 0, none⟩ = some (.int .i64 0) := (blk_cell BK234.out 0).trans rfl; have hcz31_1 : w29.cell? ⟨gb234, 1, none⟩ = some (.int .i64 0) := (blk_cell BK234.out 1).trans rfl; have hcz31_2 : w29.cell? ⟨gb234, 2, none⟩ = some (.int .i64 0) := (blk_cell BK234.out 2).trans rfl; have hcz31_3 : w29.cell? ⟨gb234, 3, none⟩ = some (.int .i64 0) := (blk_cell BK234.out 3).trans rfl; have hfz31_0 := blk_frozen BK234.out 0; have hfz31_1 := blk_frozen BK234.out 1; have hfz31_2 := blk_frozen BK234.out 2; have hfz31_3 := blk_frozen BK234.out 3) | ((with_reducible refine gate_store (t := 24) (p := 4) rfl ?_); refine store_event (t := 24) (p := 4) (v := ?vo_w32) (w1 := ((((w29.setCell ⟨gb234, 0, none⟩ (.int .i64 2)).setCell ⟨gb234, 1, none⟩ (.int .i64 1)).setCell ⟨gb234, 2, none⟩ (.int .i64 3)).setCell ⟨gb234, 3, none⟩ (.int .i64 9))) ?hg ?ho ?hn ?hr ?_; (case ho => rfl); (case hg => rfl); (case hn => rfl); (case hr => first | (go_simp; done) | (go_simp; rfl)); intro w32 hw; have n0_ : Aside0 (Kd.R k24 24 w32 w.heap.size (fun k_ => k_ ≠ gb229 ∧ k_ ≠ gb234) v231 t230) := ⟨(by rw [hw]; exact (by (with_reducible repeat (first | apply Kd.R_alloc | apply Kd.R_drewN | apply Kd.R_drew)); exact Kd.R_mono (Kd.R_far (p := ⟨gb234, 3, none⟩) (Kd.R_far (p := ⟨gb234, 2, none⟩) (Kd.R_far (p := ⟨gb234, 1, none⟩) (Kd.R_far (p := ⟨gb234, 0, none⟩) (Kd.R_mono HO232.out (fun k_ hk => (⟨hk, hk.2⟩ : _ ∧ k_ ≠ gb234))) (fun _ hk => hk.2) (.int .i64 2)) (fun _ hk => hk.2) (.int .i64 1)) (fun _ hk => hk.2) (.int .i64 3)) (fun _ hk => hk.2) (.int .i64 9)) (fun _ hk => ⟨hk.1.1.2, hk.1.2⟩)))⟩; have n1_ : Aside0 (w32.heap[gb229]? = some (.cells #[.int .i64 2, .int .i64 1, .int .i64 3, .int .i64 9] 24 (0, 0))) := ⟨(by rw [hw]; exact (by (with_reducible repeat (first | refine blk_drewN ?_ _ | refine blk_drew ?_ | refine blk_alloc ?_ _)); refine blk_far ?_ NB229_234.out _; (with_reducible repeat (first | refine blk_drewN ?_ _ | refine blk_drew ?_ | refine blk_alloc ?_ _)); refine blk_far ?_ NB229_234.out _; (with_reducible repeat (first | refine blk_drewN ?_ _ | refine blk_drew ?_ | refine blk_alloc ?_ _)); refine blk_far ?_ NB229_234.out _; (with_reducible repeat (first | refine blk_drewN ?_ _ | refine blk_drew ?_ | refine blk_alloc ?_ _)); refine blk_far ?_ NB229_234.out _; (with_reducible repeat (first | refine blk_drewN ?_ _ | refine blk_drew ?_ | refine blk_alloc ?_ _)); exact BK229.out))⟩; have n2_ : Aside0 (w32.heap[gb234]? = some (.cells #[.int .i64 2, .int .i64 1, .int .i64 3, .int .i64 9] 24 (0, 0))) := ⟨(by rw [hw]; exact (by (with_reducible repeat (first | refine blk_drewN ?_ _ | refine blk_drew ?_ | refine blk_alloc ?_ _)); refine blk_put (cs := #[.int .i64 2, .int .i64 1, .int .i64 3, .int .i64 0]) ?_ 3 _ rfl; (with_reducible repeat (first | refine blk_drewN ?_ _ | refine blk_drew ?_ | refine blk_alloc ?_ _)); refine blk_put (cs := #[.int .i64 2, .int .i64 1, .int .i64 0, .int .i64 0]) ?_ 2 _ rfl; (with_reducible repeat (first | refine blk_drewN ?_ _ | refine blk_drew ?_ | refine blk_alloc ?_ _)); refine blk_put (cs := #[.int .i64 2, .int .i64 0, .int .i64 0, .int .i64 0]) ?_ 1 _ rfl; (with_reducible repeat (first | refine blk_drewN ?_ _ | refine blk_drew ?_ | refine blk_alloc ?_ _)); refine blk_put (cs := #[.int .i64 0, .int .i64 0, .int .i64 0, .int .i64 0]) ?_ 0 _ rfl; (with_reducible repeat (first | refine blk_drewN ?_ _ | refine blk_drew ?_ | refine blk_alloc ?_ _)); exact BK234.out))⟩; have n3_ : Aside0 (Below w.heap.size w w32) := ⟨(by rw [hw]; exact (by repeat (first | (with_reducible first | exact HB.out | apply below_alloc | apply pw_below_drewN | apply below_drew1 | refine below_set ?_ GE229.out | refine below_set ?_ GE234.out) | exact HB.out)))⟩; clear hw; clear HO232; clear BK229; clear BK234; clear HB; have HO232 := n0_; have BK229 := n1_; have BK234 := n2_; have HB := n3_; clear n0_ n1_ n2_ n3_; have hcz33_0 : w32.cell? ⟨gb234, 0, none⟩ = some (.int .i64 2) := (blk_cell BK234.out 0).trans rfl; have hcz33_1 : w32.cell? ⟨gb234, 1, none⟩ = some (.int .i64 1) := (blk_cell BK234.out 1).trans rfl; have hcz33_2 : w32.cell? ⟨gb234, 2, none⟩ = some (.int .i64 3) := (blk_cell BK234.out 2).trans rfl; have hcz33_3 : w32.cell? ⟨gb234, 3, none⟩ = some (.int .i64 9) := (blk_cell BK234.out 3).trans rfl; have hfz33_0 := blk_frozen BK234.out 0; have hfz33_1 := blk_frozen BK234.out 1; have hfz33_2 := blk_frozen BK234.out 2; have hfz33_3 := blk_frozen BK234.out 3) | ((with_reducible refine gate_store (t := 3) (p := 21) rfl ?_); refine store_event (t := 3) (p := 21) (v := ?vo_w34) (w1 := (w32.setCell ⟨gb234, 2, none⟩ (.int .i64 4))) ?hg ?ho ?hn ?hr ?_; (case ho => rfl); (case hg => rfl); (case hn => rfl); (case hr => first | (go_simp; done) | (go_simp; rfl)); intro w34 hw; have n0_ : Aside0 (Kd.R k24 24 w34 w.heap.size (fun k_ => k_ ≠ gb229 ∧ k_ ≠ gb234) v231 t230) := ⟨(by rw [hw]; exact (by (with_reducible repeat (first | apply Kd.R_alloc | apply Kd.R_drewN | apply Kd.R_drew)); exact Kd.R_mono (Kd.R_far (p := ⟨gb234, 2, none⟩) (Kd.R_mono HO232.out (fun k_ hk => (⟨hk, hk.2⟩ : _ ∧ k_ ≠ gb234))) (fun _ hk => hk.2) (.int .i64 4)) (fun _ hk => ⟨hk.1.1, hk.1.2⟩)))⟩; have n1_ : Aside0 (w34.heap[gb229]? = some (.cells #[.int .i64 2, .int .i64 1, .int .i64 3, .int .i64 9] 24 (0, 0))) := ⟨(by rw [hw]; exact (by (with_reducible repeat (first | refine blk_drewN ?_ _ | refine blk_drew ?_ | refine blk_alloc ?_ _)); refine blk_far ?_ NB229_234.out _; (with_reducible repeat (first | refine blk_drewN ?_ _ | refine blk_drew ?_ | refine blk_alloc ?_ _)); exact BK229.out))⟩; have n2_ : Aside0 (w34.heap[gb234]? = some (.cells #[.int .i64 2, .int .i64 1, .int .i64 4, .int .i64 9] 24 (0, 0))) := ⟨(by rw [hw]; exact (by (with_reducible repeat (first | refine blk_drewN ?_ _ | refine blk_drew ?_ | refine blk_alloc ?_ _)); refine blk_put (cs := #[.int .i64 2, .int .i64 1, .int .i64 3, .int .i64 9]) ?_ 2 _ rfl; (with_reducible repeat (first | refine blk_drewN ?_ _ | refine blk_drew ?_ | refine blk_alloc ?_ _)); exact BK234.out))⟩; have n3_ : Aside0 (Below w.heap.size w w34) := ⟨(by rw [hw]; exact (by repeat (first | (with_reducible first | exact HB.out | apply below_alloc | apply pw_below_drewN | apply below_drew1 | refine below_set ?_ GE229.out | refine below_set ?_ GE234.out) | exact HB.out)))⟩; clear hw; clear HO232; clear BK229; clear BK234; clear HB; have HO232 := n0_; have BK229 := n1_; have BK234 := n2_; have HB := n3_; clear n0_ n1_ n2_ n3_; have hcz35_0 : w34.cell? ⟨gb234, 0, none⟩ = some (.int .i64 2) := (blk_cell BK234.out 0).trans rfl; have hcz35_1 : w34.cell? ⟨gb234, 1, none⟩ = some (.int .i64 1) := (blk_cell BK234.out 1).trans rfl; have hcz35_2 : w34.cell? ⟨gb234, 2, none⟩ = some (.int .i64 4) := (blk_cell BK234.out 2).trans rfl; have hcz35_3 : w34.cell? ⟨gb234, 3, none⟩ = some (.int .i64 9) := (blk_cell BK234.out 3).trans rfl; have hfz35_0 := blk_frozen BK234.out 0; have hfz35_1 := blk_frozen BK234.out 1; have hfz35_2 := blk_frozen BK234.out 2; have hfz35_3 := blk_frozen BK234.out 3) | ((with_reducible refine gate_store (t := 3) (p := 22) rfl ?_); refine store_event (t := 3) (p := 22) (v := ?vo_w36) (w1 := (w34.setCell ⟨gb234, 3, none⟩ (.int .i64 1))) ?hg ?ho ?hn ?hr ?_; (case ho => rfl); (case hg => rfl); (case hn => rfl); (case hr => first | (go_simp; done) | (go_simp; rfl)); intro w36 hw; have n0_ : Aside0 (Kd.R k24 24 w36 w.heap.size (fun k_ => k_ ≠ gb229 ∧ k_ ≠ gb234) v231 t230) := ⟨(by rw [hw]; exact (by (with_reducible repeat (first | apply Kd.R_alloc | apply Kd.R_drewN | apply Kd.R_drew)); exact Kd.R_mono (Kd.R_far (p := ⟨gb234, 3, none⟩) (Kd.R_mono HO232.out (fun k_ hk => (⟨hk, hk.2⟩ : _ ∧ k_ ≠ gb234))) (fun _ hk => hk.2) (.int .i64 1)) (fun _ hk => ⟨hk.1.1, hk.1.2⟩)))⟩; have n1_ : Aside0 (w36.heap[gb229]? = some (.cells #[.int .i64 2, .int .i64 1, .int .i64 3, .int .i64 9] 24 (0, 0))) := ⟨(by rw [hw]; exact (by (with_reducible repeat (first | refine blk_drewN ?_ _ | refine blk_drew ?_ | refine blk_alloc ?_ _)); refine blk_far ?_ NB229_234.out _; (with_reducible repeat (first | refine blk_drewN ?_ _ | refine blk_drew ?_ | refine blk_alloc ?_ _)); exact BK229.out))⟩; have n2_ : Aside0 (w36.heap[gb234]? = some (.cells #[.int .i64 2, .int .i64 1, .int .i64 4, .int .i64 1] 24 (0, 0))) := ⟨(by rw [hw]; exact (by (with_reducible repeat (first | refine blk_drewN ?_ _ | refine blk_drew ?_ | refine blk_alloc ?_ _)); refine blk_put (cs := #[.int .i64 2, .int .i64 1, .int .i64 4, .int .i64 9]) ?_ 3 _ rfl; (with_reducible repeat (first | refine blk_drewN ?_ _ | refine blk_drew ?_ | refine blk_alloc ?_ _)); exact BK234.out))⟩; have n3_ : Aside0 (Below w.heap.size w w36) := ⟨(by rw [hw]; exact (by repeat (first | (with_reducible first | exact HB.out | apply below_alloc | apply pw_below_drewN | apply below_drew1 | refine below_set ?_ GE229.out | refine below_set ?_ GE234.out) | exact HB.out)))⟩; clear hw; clear HO232; clear BK229; clear BK234; clear HB; have HO232 := n0_; have BK229 := n1_; have BK234 := n2_; have HB := n3_; clear n0_ n1_ n2_ n3_; have hcz37_0 : w36.cell? ⟨gb234, 0, none⟩ = some (.int .i64 2) := (blk_cell BK234.out 0).trans rfl; have hcz37_1 : w36.cell? ⟨gb234, 1, none⟩ = some (.int .i64 1) := (blk_cell BK234.out 1).trans rfl; have hcz37_2 : w36.cell? ⟨gb234, 2, none⟩ = some (.int .i64 4) := (blk_cell BK234.out 2).trans rfl; have hcz37_3 : w36.cell? ⟨gb234, 3, none⟩ = some (.int .i64 1) := (blk_cell BK234.out 3).trans rfl; have hfz37_0 := blk_frozen BK234.out 0; have hfz37_1 := blk_frozen BK234.out 1; have hfz37_2 := blk_frozen BK234.out 2; have hfz37_3 := blk_frozen BK234.out 3; obtain ⟨Ao38, co38, eo38⟩ := Kd.R_slice HO232.out; subst eo38) | ((with_reducible refine gate_callee (f := 14) rfl ?_); refine goesL_ (some 26) rfl rfl Try.func14 (by kernel_rfl) rfl #[.slice Ao38 t230.length co38, .agg #[.int .i64 2, .int .i64 1, .int .i64 4, .int .i64 1]] rfl (by (try simp only [List.map_toArray, List.map_cons, List.map_nil]); first | done | rfl | (simp only [List.length_drop, List.length_take]; rfl)) ?_; (with_reducible refine (last_Newer.calls k _ _ t230 2 1 4 1 true t236 _ ?side1 ?side2 A2.out).mono ?_); (case side1 => repeat (first | exact (Kd.R_reads' HO232.out).2.2 | (with_reducible refine Kd.C_alloc ?_ _) | (with_reducible refine Kd.C_drewN ?_ _) | (with_reducible refine Kd.C_drew ?_))); (case side2 => exact (Kd.R_reads' HO232.out).2.1); rintro e w39 ⟨rfl, hb⟩; refine ⟨_, rfl, ?_⟩; have n0_ := Aside0.mk (Kd.R_below (by (with_reducible repeat (first | apply Kd.R_alloc | apply Kd.R_drewN | apply Kd.R_drew)); exact HO232.out) hb); have n1_ := Aside0.mk (blk_below (g := gb229) (o := .cells #[.int .i64 2, .int .i64 1, .int .i64 3, .int .i64 9] 24 (0, 0)) (by (with_reducible repeat (first | refine blk_drewN ?_ _ | refine blk_drew ?_ | refine blk_alloc ?_ _)); exact BK229.out) hb); have n2_ := Aside0.mk (blk_below (g := gb234) (o := .cells #[.int .i64 2, .int .i64 1, .int .i64 4, .int .i64 1] 24 (0, 0)) (by (with_reducible repeat (first | refine blk_drewN ?_ _ | refine blk_drew ?_ | refine blk_alloc ?_ _)); exact BK234.out) hb); have n3_ := Aside0.mk (below_step (by repeat (first | (with_reducible first | exact HB.out | apply below_alloc | apply pw_below_drewN | apply below_drew1 | refine below_set ?_ GE229.out | refine below_set ?_ GE234.out) | exact HB.out)) hb); clear HO232; clear BK229; clear BK234; clear HB; have HO232 := n0_; have BK229 := n1_; have BK234 := n2_; have HB := n3_; clear n0_ n1_ n2_ n3_; (try clear hb); (try clear hb2); (try clear hk); (try clear hi); have hcz40_0 : w39.cell? ⟨gb229, 0, none⟩ = some (.int .i64 2) := (blk_cell BK229.out 0).trans rfl; have hcz40_1 : w39.cell? ⟨gb229, 1, none⟩ = some (.int .i64 1) := (blk_cell BK229.out 1).trans rfl; have hcz40_2 : w39.cell? ⟨gb229, 2, none⟩ = some (.int .i64 3) := (blk_cell BK229.out 2).trans rfl; have hcz40_3 : w39.cell? ⟨gb229, 3, none⟩ = some (.int .i64 9) := (blk_cell BK229.out 3).trans rfl; have hfz40_0 := blk_frozen BK229.out 0; have hfz40_1 := blk_frozen BK229.out 1; have hfz40_2 := blk_frozen BK229.out 2; have hfz40_3 := blk_frozen BK229.out 3) | ((with_reducible refine gate_callee (f := 14) rfl ?_); refine goesL_ (some 32) rfl rfl Try.func14 (by kernel_rfl) rfl #[.slice Ao38 t230.length co38, .agg #[.int .i64 2, .int .i64 1, .int .i64 3, .int .i64 9]] rfl (by (try simp only [List.map_toArray, List.map_cons, List.map_nil]); first | done | rfl | (simp only [List.length_drop, List.length_take]; rfl)) ?_; (with_reducible refine (last_Newer.calls k _ _ t230 2 1 3 9 false t238 _ ?side1 ?side2 A3.out).mono ?_); (case side1 => repeat (first | exact (Kd.R_reads' HO232.out).2.2 | (with_reducible refine Kd.C_alloc ?_ _) | (with_reducible refine Kd.C_drewN ?_ _) | (with_reducible refine Kd.C_drew ?_))); (case side2 => exact (Kd.R_reads' HO232.out).2.1); rintro e w41 ⟨rfl, hb⟩; refine ⟨_, rfl, ?_⟩; have n0_ := Aside0.mk (Kd.R_below (by (with_reducible repeat (first | apply Kd.R_alloc | apply Kd.R_drewN | apply Kd.R_drew)); exact HO232.out) hb); have n1_ := Aside0.mk (blk_below (g := gb229) (o := .cells #[.int .i64 2, .int .i64 1, .int .i64 3, .int .i64 9] 24 (0, 0)) (by (with_reducible repeat (first | refine blk_drewN ?_ _ | refine blk_drew ?_ | refine blk_alloc ?_ _)); exact BK229.out) hb); have n2_ := Aside0.mk (blk_below (g := gb234) (o := .cells #[.int .i64 2, .int .i64 1, .int .i64 4, .int .i64 1] 24 (0, 0)) (by (with_reducible repeat (first | refine blk_drewN ?_ _ | refine blk_drew ?_ | refine blk_alloc ?_ _)); exact BK234.out) hb); have n3_ := Aside0.mk (below_step (by repeat (first | (with_reducible first | exact HB.out | apply below_alloc | apply pw_below_drewN | apply below_drew1 | refine below_set ?_ GE229.out | refine below_set ?_ GE234.out) | exact HB.out)) hb); clear HO232; clear BK229; clear BK234; clear HB; have HO232 := n0_; have BK229 := n1_; have BK234 := n2_; have HB := n3_; clear n0_ n1_ n2_ n3_; (try clear hb); (try clear hb2); (try clear hk); (try clear hi); have hcz42_0 : w41.cell? ⟨gb229, 0, none⟩ = some (.int .i64 2) := (blk_cell BK229.out 0).trans rfl; have hcz42_1 : w41.cell? ⟨gb229, 1, none⟩ = some (.int .i64 1) := (blk_cell BK229.out 1).trans rfl; have hcz42_2 : w41.cell? ⟨gb229, 2, none⟩ = some (.int .i64 3) := (blk_cell BK229.out 2).trans rfl; have hcz42_3 : w41.cell? ⟨gb229, 3, none⟩ = some (.int .i64 9) := (blk_cell BK229.out 3).trans rfl; have hfz42_0 := blk_frozen BK229.out 0; have hfz42_1 := blk_frozen BK229.out 1; have hfz42_2 := blk_frozen BK229.out 2; have hfz42_3 := blk_frozen BK229.out 3) | ((with_reducible refine gate_dst (N := 9) rfl ?_); (try (refine gate_guard (by rfl) ?_; dsimp only)); refine box_event ?hg (N := 9) ?hd (cs := #[.int .i64 0, .int .i64 0, .int .i64 0, .int .i64 0]) (t := 24) ?hr ?_; (case hd => rfl); (case hg => rfl); (case hr => first | (go_simp; done) | (go_simp; rfl)); intro gb239 hg w43 hbox hb; have n0_ := Aside0.mk (Kd.R_below (Kd.R_elderB (by (with_reducible repeat (first | apply Kd.R_alloc | apply Kd.R_drewN | apply Kd.R_drew)); exact HO232.out) gb239 (Nat.le_of_eq hg.symm)) hb); have n1_ := Aside0.mk (blk_below (g := gb229) (o := .cells #[.int .i64 2, .int .i64 1, .int .i64 3, .int .i64 9] 24 (0, 0)) (by (with_reducible repeat (first | refine blk_drewN ?_ _ | refine blk_drew ?_ | refine blk_alloc ?_ _)); exact BK229.out) hb); have n2_ := Aside0.mk (blk_below (g := gb234) (o := .cells #[.int .i64 2, .int .i64 1, .int .i64 4, .int .i64 1] 24 (0, 0)) (by (with_reducible repeat (first | refine blk_drewN ?_ _ | refine blk_drew ?_ | refine blk_alloc ?_ _)); exact BK234.out) hb); have n3_ := Aside0.mk (below_step (by repeat (first | (with_reducible first | exact HB.out | apply below_alloc | apply pw_below_drewN | apply below_drew1 | refine below_set ?_ GE229.out | refine below_set ?_ GE234.out) | exact HB.out)) hb); have n4_ := Aside0.mk (hbox); have n5_ := Aside0.mk ((by rw [hg]; exact (below_size (by repeat (first | (with_reducible first | exact HB.out | apply below_alloc | apply pw_below_drewN | apply below_drew1 | refine below_set ?_ GE229.out | refine below_set ?_ GE234.out) | exact HB.out))) : w.heap.size ≤ gb239)); have n6_ := Aside0.mk ((by rw [hg]; exact (below_size (by repeat (first | (with_reducible first | exact HB.out | apply below_alloc | apply pw_below_drewN | apply below_drew1 | refine below_set ?_ GE229.out | refine below_set ?_ GE234.out) | exact HB.out))) : w.heap.size ≤ gb239)); have n7_ := Aside0.mk ((by rw [hg]; exact Nat.ne_of_lt (blk_lt (g := gb229) (o := .cells #[.int .i64 2, .int .i64 1, .int .i64 3, .int .i64 9] 24 (0, 0)) (by (with_reducible repeat (first | refine blk_drewN ?_ _ | refine blk_drew ?_ | refine blk_alloc ?_ _)); exact BK229.out)) : gb229 ≠ gb239)); have n8_ := Aside0.mk ((by rw [hg]; exact Nat.ne_of_gt (blk_lt (g := gb229) (o := .cells #[.int .i64 2, .int .i64 1, .int .i64 3, .int .i64 9] 24 (0, 0)) (by (with_reducible repeat (first | refine blk_drewN ?_ _ | refine blk_drew ?_ | refine blk_alloc ?_ _)); exact BK229.out)) : gb239 ≠ gb229)); have n9_ := Aside0.mk ((by rw [hg]; exact Nat.ne_of_lt (blk_lt (g := gb234) (o := .cells #[.int .i64 2, .int .i64 1, .int .i64 4, .int .i64 1] 24 (0, 0)) (by (with_reducible repeat (first | refine blk_drewN ?_ _ | refine blk_drew ?_ | refine blk_alloc ?_ _)); exact BK234.out)) : gb234 ≠ gb239)); have n10_ := Aside0.mk ((by rw [hg]; exact Nat.ne_of_gt (blk_lt (g := gb234) (o := .cells #[.int .i64 2, .int .i64 1, .int .i64 4, .int .i64 1] 24 (0, 0)) (by (with_reducible repeat (first | refine blk_drewN ?_ _ | refine blk_drew ?_ | refine blk_alloc ?_ _)); exact BK234.out)) : gb239 ≠ gb234)); clear HO232; clear BK229; clear BK234; clear HB; have HO232 := n0_; have BK229 := n1_; have BK234 := n2_; have HB := n3_; have BK239 := n4_; have GW239 := n5_; have GE239 := n6_; have NB229_239 := n7_; have NB239_229 := n8_; have NB234_239 := n9_; have NB239_234 := n10_; clear n0_ n1_ n2_ n3_ n4_ n5_ n6_ n7_ n8_ n9_ n10_; clear hb hbox hg; have hnb44 := NB239_229.out; have hnc44 := NB229_239.out; have hnb45 := NB239_234.out; have hnc45 := NB234_239.out; have hcz46_0 : w43.cell? ⟨gb239, 0, none⟩ = some (.int .i64 0) := (blk_cell BK239.out 0).trans rfl; have hcz46_1 : w43.cell? ⟨gb239, 1, none⟩ = some (.int .i64 0) := (blk_cell BK239.out 1).trans rfl; have hcz46_2 : w43.cell? ⟨gb239, 2, none⟩ = some (.int .i64 0) := (blk_cell BK239.out 2).trans rfl; have hcz46_3 : w43.cell? ⟨gb239, 3, none⟩ = some (.int .i64 0) := (blk_cell BK239.out 3).trans rfl; have hfz46_0 := blk_frozen BK239.out 0; have hfz46_1 := blk_frozen BK239.out 1; have hfz46_2 := blk_frozen BK239.out 2; have hfz46_3 := blk_frozen BK239.out 3) | ((with_reducible refine gate_store (t := 24) (p := 9) rfl ?_); refine store_event (t := 24) (p := 9) (v := ?vo_w47) (w1 := ((((w43.setCell ⟨gb239, 0, none⟩ (.int .i64 2)).setCell ⟨gb239, 1, none⟩ (.int .i64 1)).setCell ⟨gb239, 2, none⟩ (.int .i64 3)).setCell ⟨gb239, 3, none⟩ (.int .i64 9))) ?hg ?ho ?hn ?hr ?_; (case ho => rfl); (case hg => rfl); (case hn => rfl); (case hr => first | (go_simp; done) | (go_simp; rfl)); intro w47 hw; have n0_ : Aside0 (Kd.R k24 24 w47 w.heap.size (fun k_ => k_ ≠ gb229 ∧ k_ ≠ gb234 ∧ k_ ≠ gb239) (.slice Ao38 t230.length co38) t230) := ⟨(by rw [hw]; exact (by (with_reducible repeat (first | apply Kd.R_alloc | apply Kd.R_drewN | apply Kd.R_drew)); exact Kd.R_mono (Kd.R_far (p := ⟨gb239, 3, none⟩) (Kd.R_far (p := ⟨gb239, 2, none⟩) (Kd.R_far (p := ⟨gb239, 1, none⟩) (Kd.R_far (p := ⟨gb239, 0, none⟩) (Kd.R_mono HO232.out (fun k_ hk => (⟨hk, hk.2⟩ : _ ∧ k_ ≠ gb239))) (fun _ hk => hk.2) (.int .i64 2)) (fun _ hk => hk.2) (.int .i64 1)) (fun _ hk => hk.2) (.int .i64 3)) (fun _ hk => hk.2) (.int .i64 9)) (fun _ hk => ⟨hk.1.1.1, ⟨hk.1.1.2, hk.1.2⟩⟩)))⟩; have n1_ : Aside0 (w47.heap[gb229]? = some (.cells #[.int .i64 2, .int .i64 1, .int .i64 3, .int .i64 9] 24 (0, 0))) := ⟨(by rw [hw]; exact (by (with_reducible repeat (first | refine blk_drewN ?_ _ | refine blk_drew ?_ | refine blk_alloc ?_ _)); refine blk_far ?_ NB229_239.out _; (with_reducible repeat (first | refine blk_drewN ?_ _ | refine blk_drew ?_ | refine blk_alloc ?_ _)); refine blk_far ?_ NB229_239.out _; (with_reducible repeat (first | refine blk_drewN ?_ _ | refine blk_drew ?_ | refine blk_alloc ?_ _)); refine blk_far ?_ NB229_239.out _; (with_reducible repeat (first | refine blk_drewN ?_ _ | refine blk_drew ?_ | refine blk_alloc ?_ _)); refine blk_far ?_ NB229_239.out _; (with_reducible repeat (first | refine blk_drewN ?_ _ | refine blk_drew ?_ | refine blk_alloc ?_ _)); exact BK229.out))⟩; have n2_ : Aside0 (w47.heap[gb234]? = some (.cells #[.int .i64 2, .int .i64 1, .int .i64 4, .int .i64 1] 24 (0, 0))) := ⟨(by rw [hw]; exact (by (with_reducible repeat (first | refine blk_drewN ?_ _ | refine blk_drew ?_ | refine blk_alloc ?_ _)); refine blk_far ?_ NB234_239.out _; (with_reducible repeat (first | refine blk_drewN ?_ _ | refine blk_drew ?_ | refine blk_alloc ?_ _)); refine blk_far ?_ NB234_239.out _; (with_reducible repeat (first | refine blk_drewN ?_ _ | refine blk_drew ?_ | refine blk_alloc ?_ _)); refine blk_far ?_ NB234_239.out _; (with_reducible repeat (first | refine blk_drewN ?_ _ | refine blk_drew ?_ | refine blk_alloc ?_ _)); refine blk_far ?_ NB234_239.out _; (with_reducible repeat (first | refine blk_drewN ?_ _ | refine blk_drew ?_ | refine blk_alloc ?_ _)); exact BK234.out))⟩; have n3_ : Aside0 (w47.heap[gb239]? = some (.cells #[.int .i64 2, .int .i64 1, .int .i64 3, .int .i64 9] 24 (0, 0))) := ⟨(by rw [hw]; exact (by (with_reducible repeat (first | refine blk_drewN ?_ _ | refine blk_drew ?_ | refine blk_alloc ?_ _)); refine blk_put (cs := #[.int .i64 2, .int .i64 1, .int .i64 3, .int .i64 0]) ?_ 3 _ rfl; (with_reducible repeat (first | refine blk_drewN ?_ _ | refine blk_drew ?_ | refine blk_alloc ?_ _)); refine blk_put (cs := #[.int .i64 2, .int .i64 1, .int .i64 0, .int .i64 0]) ?_ 2 _ rfl; (with_reducible repeat (first | refine blk_drewN ?_ _ | refine blk_drew ?_ | refine blk_alloc ?_ _)); refine blk_put (cs := #[.int .i64 2, .int .i64 0, .int .i64 0, .int .i64 0]) ?_ 1 _ rfl; (with_reducible repeat (first | refine blk_drewN ?_ _ | refine blk_drew ?_ | refine blk_alloc ?_ _)); refine blk_put (cs := #[.int .i64 0, .int .i64 0, .int .i64 0, .int .i64 0]) ?_ 0 _ rfl; (with_reducible repeat (first | refine blk_drewN ?_ _ | refine blk_drew ?_ | refine blk_alloc ?_ _)); exact BK239.out))⟩; have n4_ : Aside0 (Below w.heap.size w w47) := ⟨(by rw [hw]; exact (by repeat (first | (with_reducible first | exact HB.out | apply below_alloc | apply pw_below_drewN | apply below_drew1 | refine below_set ?_ GE229.out | refine below_set ?_ GE234.out | refine below_set ?_ GE239.out) | exact HB.out)))⟩; clear hw; clear HO232; clear BK229; clear BK234; clear BK239; clear HB; have HO232 := n0_; have BK229 := n1_; have BK234 := n2_; have BK239 := n3_; have HB := n4_; clear n0_ n1_ n2_ n3_ n4_; have hcz48_0 : w47.cell? ⟨gb239, 0, none⟩ = some (.int .i64 2) := (blk_cell BK239.out 0).trans rfl; have hcz48_1 : w47.cell? ⟨gb239, 1, none⟩ = some (.int .i64 1) := (blk_cell BK239.out 1).trans rfl; have hcz48_2 : w47.cell? ⟨gb239, 2, none⟩ = some (.int .i64 3) := (blk_cell BK239.out 2).trans rfl; have hcz48_3 : w47.cell? ⟨gb239, 3, none⟩ = some (.int .i64 9) := (blk_cell BK239.out 3).trans rfl; have hfz48_0 := blk_frozen BK239.out 0; have hfz48_1 := blk_frozen BK239.out 1; have hfz48_2 := blk_frozen BK239.out 2; have hfz48_3 := blk_frozen BK239.out 3) | ((with_reducible refine gate_store (t := 3) (p := 36) rfl ?_); refine store_event (t := 3) (p := 36) (v := ?vo_w49) (w1 := (w47.setCell ⟨gb239, 1, none⟩ (.int .i64 5))) ?hg ?ho ?hn ?hr ?_; (case ho => rfl); (case hg => rfl); (case hn => rfl); (case hr => first | (go_simp; done) | (go_simp; rfl)); intro w49 hw; have n0_ : Aside0 (Kd.R k24 24 w49 w.heap.size (fun k_ => k_ ≠ gb229 ∧ k_ ≠ gb234 ∧ k_ ≠ gb239) (.slice Ao38 t230.length co38) t230) := ⟨(by rw [hw]; exact (by (with_reducible repeat (first | apply Kd.R_alloc | apply Kd.R_drewN | apply Kd.R_drew)); exact Kd.R_mono (Kd.R_far (p := ⟨gb239, 1, none⟩) (Kd.R_mono HO232.out (fun k_ hk => (⟨hk, hk.2.2⟩ : _ ∧ k_ ≠ gb239))) (fun _ hk => hk.2) (.int .i64 5)) (fun _ hk => ⟨hk.1.1, ⟨hk.1.2.1, hk.1.2.2⟩⟩)))⟩; have n1_ : Aside0 (w49.heap[gb229]? = some (.cells #[.int .i64 2, .int .i64 1, .int .i64 3, .int .i64 9] 24 (0, 0))) := ⟨(by rw [hw]; exact (by (with_reducible repeat (first | refine blk_drewN ?_ _ | refine blk_drew ?_ | refine blk_alloc ?_ _)); refine blk_far ?_ NB229_239.out _; (with_reducible repeat (first | refine blk_drewN ?_ _ | refine blk_drew ?_ | refine blk_alloc ?_ _)); exact BK229.out))⟩; have n2_ : Aside0 (w49.heap[gb234]? = some (.cells #[.int .i64 2, .int .i64 1, .int .i64 4, .int .i64 1] 24 (0, 0))) := ⟨(by rw [hw]; exact (by (with_reducible repeat (first | refine blk_drewN ?_ _ | refine blk_drew ?_ | refine blk_alloc ?_ _)); refine blk_far ?_ NB234_239.out _; (with_reducible repeat (first | refine blk_drewN ?_ _ | refine blk_drew ?_ | refine blk_alloc ?_ _)); exact BK234.out))⟩; have n3_ : Aside0 (w49.heap[gb239]? = some (.cells #[.int .i64 2, .int .i64 5, .int .i64 3, .int .i64 9] 24 (0, 0))) := ⟨(by rw [hw]; exact (by (with_reducible repeat (first | refine blk_drewN ?_ _ | refine blk_drew ?_ | refine blk_alloc ?_ _)); refine blk_put (cs := #[.int .i64 2, .int .i64 1, .int .i64 3, .int .i64 9]) ?_ 1 _ rfl; (with_reducible repeat (first | refine blk_drewN ?_ _ | refine blk_drew ?_ | refine blk_alloc ?_ _)); exact BK239.out))⟩; have n4_ : Aside0 (Below w.heap.size w w49) := ⟨(by rw [hw]; exact (by repeat (first | (with_reducible first | exact HB.out | apply below_alloc | apply pw_below_drewN | apply below_drew1 | refine below_set ?_ GE229.out | refine below_set ?_ GE234.out | refine below_set ?_ GE239.out) | exact HB.out)))⟩; clear hw; clear HO232; clear BK229; clear BK234; clear BK239; clear HB; have HO232 := n0_; have BK229 := n1_; have BK234 := n2_; have BK239 := n3_; have HB := n4_; clear n0_ n1_ n2_ n3_ n4_; have hcz50_0 : w49.cell? ⟨gb239, 0, none⟩ = some (.int .i64 2) := (blk_cell BK239.out 0).trans rfl; have hcz50_1 : w49.cell? ⟨gb239, 1, none⟩ = some (.int .i64 5) := (blk_cell BK239.out 1).trans rfl; have hcz50_2 : w49.cell? ⟨gb239, 2, none⟩ = some (.int .i64 3) := (blk_cell BK239.out 2).trans rfl; have hcz50_3 : w49.cell? ⟨gb239, 3, none⟩ = some (.int .i64 9) := (blk_cell BK239.out 3).trans rfl; have hfz50_0 := blk_frozen BK239.out 0; have hfz50_1 := blk_frozen BK239.out 1; have hfz50_2 := blk_frozen BK239.out 2; have hfz50_3 := blk_frozen BK239.out 3) | ((with_reducible refine gate_callee (f := 16) rfl ?_); refine goesL_ (some 40) rfl rfl Try.func16 (by kernel_rfl) rfl #[.slice Ao38 t230.length co38, .agg #[.int .i64 2, .int .i64 5, .int .i64 3, .int .i64 9]] rfl (by (try simp only [List.map_toArray, List.map_cons, List.map_nil]); first | done | rfl | (simp only [List.length_drop, List.length_take]; rfl)) ?_; (with_reducible refine (last_With.calls k _ _ t230 2 5 3 9 t240 t243 _ ?side1 ?side2 A4.out).mono ?_); (case side1 => repeat (first | exact (Kd.R_reads' HO232.out).2.2 | (with_reducible refine Kd.C_alloc ?_ _) | (with_reducible refine Kd.C_drewN ?_ _) | (with_reducible refine Kd.C_drew ?_))); (case side2 => exact (Kd.R_reads' HO232.out).2.1); rintro e w51 ⟨v241, rfl, ho0, hb⟩; refine ⟨_, rfl, ?_⟩; have n0_ := Aside0.mk (Kd.R_elder' (by (with_reducible repeat (first | apply Kd.R_alloc | apply Kd.R_drewN | apply Kd.R_drew)); exact HO232.out) (Kd.R_base ho0) hb); have n1_ := Aside0.mk (Kd.R_lower (Kd.R_newB (Kd.R_newB (Kd.R_newB (Kd.R_new' ho0 (Kd.R_lt (by (with_reducible repeat (first | apply Kd.R_alloc | apply Kd.R_drewN | apply Kd.R_drew)); exact HO232.out))) (g := gb229) (o := .cells #[.int .i64 2, .int .i64 1, .int .i64 3, .int .i64 9] 24 (0, 0)) (by (with_reducible repeat (first | refine blk_drewN ?_ _ | refine blk_drew ?_ | refine blk_alloc ?_ _)); exact BK229.out)) (g := gb234) (o := .cells #[.int .i64 2, .int .i64 1, .int .i64 4, .int .i64 1] 24 (0, 0)) (by (with_reducible repeat (first | refine blk_drewN ?_ _ | refine blk_drew ?_ | refine blk_alloc ?_ _)); exact BK234.out)) (g := gb239) (o := .cells #[.int .i64 2, .int .i64 5, .int .i64 3, .int .i64 9] 24 (0, 0)) (by (with_reducible repeat (first | refine blk_drewN ?_ _ | refine blk_drew ?_ | refine blk_alloc ?_ _)); exact BK239.out)) (below_size (by repeat (first | (with_reducible first | exact HB.out | apply below_alloc | apply pw_below_drewN | apply below_drew1 | refine below_set ?_ GE229.out | refine below_set ?_ GE234.out | refine below_set ?_ GE239.out) | exact HB.out)))); have n2_ := Aside0.mk (blk_below (g := gb229) (o := .cells #[.int .i64 2, .int .i64 1, .int .i64 3, .int .i64 9] 24 (0, 0)) (by (with_reducible repeat (first | refine blk_drewN ?_ _ | refine blk_drew ?_ | refine blk_alloc ?_ _)); exact BK229.out) hb); have n3_ := Aside0.mk (blk_below (g := gb234) (o := .cells #[.int .i64 2, .int .i64 1, .int .i64 4, .int .i64 1] 24 (0, 0)) (by (with_reducible repeat (first | refine blk_drewN ?_ _ | refine blk_drew ?_ | refine blk_alloc ?_ _)); exact BK234.out) hb); have n4_ := Aside0.mk (blk_below (g := gb239) (o := .cells #[.int .i64 2, .int .i64 5, .int .i64 3, .int .i64 9] 24 (0, 0)) (by (with_reducible repeat (first | refine blk_drewN ?_ _ | refine blk_drew ?_ | refine blk_alloc ?_ _)); exact BK239.out) hb); have n5_ := Aside0.mk (below_step (by repeat (first | (with_reducible first | exact HB.out | apply below_alloc | apply pw_below_drewN | apply below_drew1 | refine below_set ?_ GE229.out | refine below_set ?_ GE234.out | refine below_set ?_ GE239.out) | exact HB.out)) hb); clear HO232; clear BK229; clear BK234; clear BK239; clear HB; have HO232 := n0_; have HO242 := n1_; have BK229 := n2_; have BK234 := n3_; have BK239 := n4_; have HB := n5_; clear n0_ n1_ n2_ n3_ n4_ n5_; (try clear hb); (try clear hb2); (try clear hk); (try clear hi); (try clear ho0)) | ((with_reducible refine gate_callee (f := 14) rfl ?_); refine goesL_ (some 46) rfl rfl Try.func14 (by kernel_rfl) rfl #[.slice Ao38 t230.length co38, .agg #[.int .i64 0, .int .i64 0, .int .i64 0, .int .i64 0]] rfl (by (try simp only [List.map_toArray, List.map_cons, List.map_nil]); first | done | rfl | (simp only [List.length_drop, List.length_take]; rfl)) ?_; (with_reducible refine (last_Newer.calls k _ _ t230 0 0 0 0 t244 t245 _ ?side1 ?side2 A5.out).mono ?_); (case side1 => repeat (first | exact (Kd.R_reads' HO232.out).2.2 | (with_reducible refine Kd.C_alloc ?_ _) | (with_reducible refine Kd.C_drewN ?_ _) | (with_reducible refine Kd.C_drew ?_))); (case side2 => exact (Kd.R_reads' HO232.out).2.1); rintro e w52 ⟨rfl, hb⟩; refine ⟨_, rfl, ?_⟩; have n0_ := Aside0.mk (Kd.R_below (by (with_reducible repeat (first | apply Kd.R_alloc | apply Kd.R_drewN | apply Kd.R_drew)); exact HO232.out) hb); have n1_ := Aside0.mk (Kd.R_below (by (with_reducible repeat (first | apply Kd.R_alloc | apply Kd.R_drewN | apply Kd.R_drew)); exact HO242.out) hb); have n2_ := Aside0.mk (blk_below (g := gb229) (o := .cells #[.int .i64 2, .int .i64 1, .int .i64 3, .int .i64 9] 24 (0, 0)) (by (with_reducible repeat (first | refine blk_drewN ?_ _ | refine blk_drew ?_ | refine blk_alloc ?_ _)); exact BK229.out) hb); have n3_ := Aside0.mk (blk_below (g := gb234) (o := .cells #[.int .i64 2, .int .i64 1, .int .i64 4, .int .i64 1] 24 (0, 0)) (by (with_reducible repeat (first | refine blk_drewN ?_ _ | refine blk_drew ?_ | refine blk_alloc ?_ _)); exact BK234.out) hb); have n4_ := Aside0.mk (blk_below (g := gb239) (o := .cells #[.int .i64 2, .int .i64 5, .int .i64 3, .int .i64 9] 24 (0, 0)) (by (with_reducible repeat (first | refine blk_drewN ?_ _ | refine blk_drew ?_ | refine blk_alloc ?_ _)); exact BK239.out) hb); have n5_ := Aside0.mk (below_step (by repeat (first | (with_reducible first | exact HB.out | apply below_alloc | apply pw_below_drewN | apply below_drew1 | refine below_set ?_ GE229.out | refine below_set ?_ GE234.out | refine below_set ?_ GE239.out) | exact HB.out)) hb); clear HO232; clear HO242; clear BK229; clear BK234; clear BK239; clear HB; have HO232 := n0_; have HO242 := n1_; have BK229 := n2_; have BK234 := n3_; have BK239 := n4_; have HB := n5_; clear n0_ n1_ n2_ n3_ n4_ n5_; (try clear hb); (try clear hb2); (try clear hk); (try clear hi); have hcz53_0 : w52.cell? ⟨gb229, 0, none⟩ = some (.int .i64 2) := (blk_cell BK229.out 0).trans rfl; have hcz53_1 : w52.cell? ⟨gb229, 1, none⟩ = some (.int .i64 1) := (blk_cell BK229.out 1).trans rfl; have hcz53_2 : w52.cell? ⟨gb229, 2, none⟩ = some (.int .i64 3) := (blk_cell BK229.out 2).trans rfl; have hcz53_3 : w52.cell? ⟨gb229, 3, none⟩ = some (.int .i64 9) := (blk_cell BK229.out 3).trans rfl; have hfz53_0 := blk_frozen BK229.out 0; have hfz53_1 := blk_frozen BK229.out 1; have hfz53_2 := blk_frozen BK229.out 2; have hfz53_3 := blk_frozen BK229.out 3) | ((with_reducible refine gate_dst (N := 51) rfl ?_); (try (refine gate_guard (by rfl) ?_; dsimp only)); refine Kd.R_lit k24 _ 24 ?hg (N := 51) ?hd (xs := ([(⟨2, 1, 3, 9⟩ : S24)] : List (S24))) (inner := [.int .i64 2, .int .i64 1, .int .i64 3, .int .i64 9]) (ok := fun _ => True) (okp := fun _ => True) ?hr ?hp (fun _ hk => hk) trivial (Below.refl _ _) (Nat.le_refl _) (by simp) ?_; (case hd => rfl); (case hg => rfl); (case hr => first | (go_simp; done) | (go_simp; rfl)); (case hp => exact (Reps.c4 (show Kd.M k24 _ _ _ (⟨2, 1, 3, 9⟩ : S24) [.int .i64 2, .int .i64 1, .int .i64 3, .int .i64 9] from (k24_mkM _ _ _ (⟨2, 1, 3, 9⟩ : S24) )) (Reps.none _ _))); intro v247 w54 ho55 hb hg_ hnew_; clear hg_ hnew_; (first | rw [← Ny246.out] at ho55 | (simp only [Int.reduceToNat] at ho55; rw [← Ny246.out] at ho55)); have n0_ := Aside0.mk (Kd.R_elder' (by (with_reducible repeat (first | apply Kd.R_alloc | apply Kd.R_drewN | apply Kd.R_drew)); exact HO232.out) (Kd.R_base ho55) hb); have n1_ := Aside0.mk (Kd.R_elder' (by (with_reducible repeat (first | apply Kd.R_alloc | apply Kd.R_drewN | apply Kd.R_drew)); exact HO242.out) (Kd.R_base ho55) hb); have n2_ := Aside0.mk (Kd.R_lower (Kd.R_newB (Kd.R_newB (Kd.R_newB (Kd.R_new' (Kd.R_new' ho55 (Kd.R_lt (by (with_reducible repeat (first | apply Kd.R_alloc | apply Kd.R_drewN | apply Kd.R_drew)); exact HO232.out))) (Kd.R_lt (by (with_reducible repeat (first | apply Kd.R_alloc | apply Kd.R_drewN | apply Kd.R_drew)); exact HO242.out))) (g := gb229) (o := .cells #[.int .i64 2, .int .i64 1, .int .i64 3, .int .i64 9] 24 (0, 0)) (by (with_reducible repeat (first | refine blk_drewN ?_ _ | refine blk_drew ?_ | refine blk_alloc ?_ _)); exact BK229.out)) (g := gb234) (o := .cells #[.int .i64 2, .int .i64 1, .int .i64 4, .int .i64 1] 24 (0, 0)) (by (with_reducible repeat (first | refine blk_drewN ?_ _ | refine blk_drew ?_ | refine blk_alloc ?_ _)); exact BK234.out)) (g := gb239) (o := .cells #[.int .i64 2, .int .i64 5, .int .i64 3, .int .i64 9] 24 (0, 0)) (by (with_reducible repeat (first | refine blk_drewN ?_ _ | refine blk_drew ?_ | refine blk_alloc ?_ _)); exact BK239.out)) (below_size (by repeat (first | (with_reducible first | exact HB.out | apply below_alloc | apply pw_below_drewN | apply below_drew1 | refine below_set ?_ GE229.out | refine below_set ?_ GE234.out | refine below_set ?_ GE239.out) | exact HB.out)))); have n3_ := Aside0.mk (blk_below (g := gb229) (o := .cells #[.int .i64 2, .int .i64 1, .int .i64 3, .int .i64 9] 24 (0, 0)) (by (with_reducible repeat (first | refine blk_drewN ?_ _ | refine blk_drew ?_ | refine blk_alloc ?_ _)); exact BK229.out) hb); have n4_ := Aside0.mk (blk_below (g := gb234) (o := .cells #[.int .i64 2, .int .i64 1, .int .i64 4, .int .i64 1] 24 (0, 0)) (by (with_reducible repeat (first | refine blk_drewN ?_ _ | refine blk_drew ?_ | refine blk_alloc ?_ _)); exact BK234.out) hb); have n5_ := Aside0.mk (blk_below (g := gb239) (o := .cells #[.int .i64 2, .int .i64 5, .int .i64 3, .int .i64 9] 24 (0, 0)) (by (with_reducible repeat (first | refine blk_drewN ?_ _ | refine blk_drew ?_ | refine blk_alloc ?_ _)); exact BK239.out) hb); have n6_ := Aside0.mk (below_step (by repeat (first | (with_reducible first | exact HB.out | apply below_alloc | apply pw_below_drewN | apply below_drew1 | refine below_set ?_ GE229.out | refine below_set ?_ GE234.out | refine below_set ?_ GE239.out) | exact HB.out)) hb); clear HO232; clear HO242; clear BK229; clear BK234; clear BK239; clear HB; have HO232 := n0_; have HO242 := n1_; have HO248 := n2_; have BK229 := n3_; have BK234 := n4_; have BK239 := n5_; have HB := n6_; clear n0_ n1_ n2_ n3_ n4_ n5_ n6_; clear hb ho55; obtain ⟨Ao56, co56, eo56⟩ := Kd.R_slice HO248.out; subst eo56) | ((with_reducible refine gate_callee (f := 19) rfl ?_); refine goesL_ (some 52) rfl rfl Try.func19 (by kernel_rfl) rfl #[.slice Ao38 t230.length co38, .slice Ao56 y246.length co56] rfl (by (try simp only [List.map_toArray, List.map_cons, List.map_nil]); first | done | rfl | (simp only [List.length_drop, List.length_take]; rfl)) ?_; (with_reducible refine (watchwordlaw0_SameLasts.calls k _ _ t230 _ _ y246 true _ ?side1 ?side2 ?side3 ?side4 A6.out).mono ?_); (case side1 => repeat (first | exact (Kd.R_reads' HO232.out).2.2 | (with_reducible refine Kd.C_alloc ?_ _) | (with_reducible refine Kd.C_drewN ?_ _) | (with_reducible refine Kd.C_drew ?_))); (case side2 => exact (Kd.R_reads' HO232.out).2.1); (case side3 => repeat (first | exact (Kd.R_reads' HO248.out).2.2 | (with_reducible refine Kd.C_alloc ?_ _) | (with_reducible refine Kd.C_drewN ?_ _) | (with_reducible refine Kd.C_drew ?_))); (case side4 => exact (Kd.R_reads' HO248.out).2.1); rintro e w' ⟨rfl, ⟨nd, rfl⟩⟩; refine ⟨_, rfl, ?_⟩) | (go_at_call 18; (with_reducible refine (watchwordlaw0_Num.calls t233 t250 _ A8.out).mono ?_); rintro e w' ⟨rfl, ⟨nd, rfl⟩⟩) | (go_at_call 18; (with_reducible refine (watchwordlaw0_Num.calls t236 t251 _ A11.out).mono ?_); rintro e w' ⟨rfl, ⟨nd, rfl⟩⟩) | (go_at_call 18; (with_reducible refine (watchwordlaw0_Num.calls t238 t252 _ A14.out).mono ?_); rintro e w' ⟨rfl, ⟨nd, rfl⟩⟩; have hcz57_0 : w54.cell? ⟨gb229, 0, none⟩ = some (.int .i64 2) := (blk_cell BK229.out 0).trans rfl; have hcz57_1 : w54.cell? ⟨gb229, 1, none⟩ = some (.int .i64 1) := (blk_cell BK229.out 1).trans rfl; have hcz57_2 : w54.cell? ⟨gb229, 2, none⟩ = some (.int .i64 3) := (blk_cell BK229.out 2).trans rfl; have hcz57_3 : w54.cell? ⟨gb229, 3, none⟩ = some (.int .i64 9) := (blk_cell BK229.out 3).trans rfl; have hfz57_0 := blk_frozen BK229.out 0; have hfz57_1 := blk_frozen BK229.out 1; have hfz57_2 := blk_frozen BK229.out 2; have hfz57_3 := blk_frozen BK229.out 3; have hcz58_0 : w54.cell? ⟨gb239, 0, none⟩ = some (.int .i64 2) := (blk_cell BK239.out 0).trans rfl; have hcz58_1 : w54.cell? ⟨gb239, 1, none⟩ = some (.int .i64 5) := (blk_cell BK239.out 1).trans rfl; have hcz58_2 : w54.cell? ⟨gb239, 2, none⟩ = some (.int .i64 3) := (blk_cell BK239.out 2).trans rfl; have hcz58_3 : w54.cell? ⟨gb239, 3, none⟩ = some (.int .i64 9) := (blk_cell BK239.out 3).trans rfl; have hfz58_0 := blk_frozen BK239.out 0; have hfz58_1 := blk_frozen BK239.out 1; have hfz58_2 := blk_frozen BK239.out 2; have hfz58_3 := blk_frozen BK239.out 3) | ((with_reducible refine gate_dst (N := 79) rfl ?_); (try (refine gate_guard (by rfl) ?_; dsimp only)); refine Kd.R_lit k24 _ 24 ?hg (N := 79) ?hd (xs := ([(⟨2, 1, 3, 9⟩ : S24), (⟨2, 5, 3, 9⟩ : S24)] : List (S24))) (inner := [.int .i64 2, .int .i64 1, .int .i64 3, .int .i64 9, .int .i64 2, .int .i64 5, .int .i64 3, .int .i64 9]) (ok := fun _ => True) (okp := fun _ => True) ?hr ?hp (fun _ hk => hk) trivial (Below.refl _ _) (Nat.le_refl _) (by simp) ?_; (case hd => rfl); (case hg => rfl); (case hr => first | (go_simp; done) | (go_simp; rfl)); (case hp => exact (Reps.c4 (show Kd.M k24 _ _ _ (⟨2, 1, 3, 9⟩ : S24) [.int .i64 2, .int .i64 1, .int .i64 3, .int .i64 9] from (k24_mkM _ _ _ (⟨2, 1, 3, 9⟩ : S24) )) (Reps.c4 (show Kd.M k24 _ _ _ (⟨2, 5, 3, 9⟩ : S24) [.int .i64 2, .int .i64 5, .int .i64 3, .int .i64 9] from (k24_mkM _ _ _ (⟨2, 5, 3, 9⟩ : S24) )) (Reps.none _ _)))); intro v254 w59 ho60 hb hg_ hnew_; clear hg_ hnew_; (first | rw [← Ny253.out] at ho60 | (simp only [Int.reduceToNat] at ho60; rw [← Ny253.out] at ho60)); have n0_ := Aside0.mk (Kd.R_elder' (by (with_reducible repeat (first | apply Kd.R_alloc | apply Kd.R_drewN | apply Kd.R_drew)); exact HO232.out) (Kd.R_base ho60) hb); have n1_ := Aside0.mk (Kd.R_elder' (by (with_reducible repeat (first | apply Kd.R_alloc | apply Kd.R_drewN | apply Kd.R_drew)); exact HO242.out) (Kd.R_base ho60) hb); have n2_ := Aside0.mk (Kd.R_elder' (by (with_reducible repeat (first | apply Kd.R_alloc | apply Kd.R_drewN | apply Kd.R_drew)); exact HO248.out) (Kd.R_base ho60) hb); have n3_ := Aside0.mk (Kd.R_lower (Kd.R_newB (Kd.R_newB (Kd.R_newB (Kd.R_new' (Kd.R_new' (Kd.R_new' ho60 (Kd.R_lt (by (with_reducible repeat (first | apply Kd.R_alloc | apply Kd.R_drewN | apply Kd.R_drew)); exact HO232.out))) (Kd.R_lt (by (with_reducible repeat (first | apply Kd.R_alloc | apply Kd.R_drewN | apply Kd.R_drew)); exact HO242.out))) (Kd.R_lt (by (with_reducible repeat (first | apply Kd.R_alloc | apply Kd.R_drewN | apply Kd.R_drew)); exact HO248.out))) (g := gb229) (o := .cells #[.int .i64 2, .int .i64 1, .int .i64 3, .int .i64 9] 24 (0, 0)) (by (with_reducible repeat (first | refine blk_drewN ?_ _ | refine blk_drew ?_ | refine blk_alloc ?_ _)); exact BK229.out)) (g := gb234) (o := .cells #[.int .i64 2, .int .i64 1, .int .i64 4, .int .i64 1] 24 (0, 0)) (by (with_reducible repeat (first | refine blk_drewN ?_ _ | refine blk_drew ?_ | refine blk_alloc ?_ _)); exact BK234.out)) (g := gb239) (o := .cells #[.int .i64 2, .int .i64 5, .int .i64 3, .int .i64 9] 24 (0, 0)) (by (with_reducible repeat (first | refine blk_drewN ?_ _ | refine blk_drew ?_ | refine blk_alloc ?_ _)); exact BK239.out)) (below_size (by repeat (first | (with_reducible first | exact HB.out | apply below_alloc | apply pw_below_drewN | apply below_drew1 | refine below_set ?_ GE229.out | refine below_set ?_ GE234.out | refine below_set ?_ GE239.out) | exact HB.out)))); have n4_ := Aside0.mk (blk_below (g := gb229) (o := .cells #[.int .i64 2, .int .i64 1, .int .i64 3, .int .i64 9] 24 (0, 0)) (by (with_reducible repeat (first | refine blk_drewN ?_ _ | refine blk_drew ?_ | refine blk_alloc ?_ _)); exact BK229.out) hb); have n5_ := Aside0.mk (blk_below (g := gb234) (o := .cells #[.int .i64 2, .int .i64 1, .int .i64 4, .int .i64 1] 24 (0, 0)) (by (with_reducible repeat (first | refine blk_drewN ?_ _ | refine blk_drew ?_ | refine blk_alloc ?_ _)); exact BK234.out) hb); have n6_ := Aside0.mk (blk_below (g := gb239) (o := .cells #[.int .i64 2, .int .i64 5, .int .i64 3, .int .i64 9] 24 (0, 0)) (by (with_reducible repeat (first | refine blk_drewN ?_ _ | refine blk_drew ?_ | refine blk_alloc ?_ _)); exact BK239.out) hb); have n7_ := Aside0.mk (below_step (by repeat (first | (with_reducible first | exact HB.out | apply below_alloc | apply pw_below_drewN | apply below_drew1 | refine below_set ?_ GE229.out | refine below_set ?_ GE234.out | refine below_set ?_ GE239.out) | exact HB.out)) hb); clear HO232; clear HO242; clear HO248; clear BK229; clear BK234; clear BK239; clear HB; have HO232 := n0_; have HO242 := n1_; have HO248 := n2_; have HO255 := n3_; have BK229 := n4_; have BK234 := n5_; have BK239 := n6_; have HB := n7_; clear n0_ n1_ n2_ n3_ n4_ n5_ n6_ n7_; clear hb ho60; obtain ⟨Ao61, co61, eo61⟩ := Kd.R_slice HO242.out; subst eo61; obtain ⟨Ao62, co62, eo62⟩ := Kd.R_slice HO255.out; subst eo62) | (go_at_call 19; (with_reducible refine (watchwordlaw0_SameLasts.calls k _ _ t240 _ _ y253 true _ ?side1 ?side2 ?side3 ?side4 A16.out).mono ?_); (case side1 => repeat (first | exact (Kd.R_reads' HO242.out).2.2 | (with_reducible refine Kd.C_alloc ?_ _) | (with_reducible refine Kd.C_drewN ?_ _) | (with_reducible refine Kd.C_drew ?_))); (case side2 => exact (Kd.R_reads' HO242.out).2.1); (case side3 => repeat (first | exact (Kd.R_reads' HO255.out).2.2 | (with_reducible refine Kd.C_alloc ?_ _) | (with_reducible refine Kd.C_drewN ?_ _) | (with_reducible refine Kd.C_drew ?_))); (case side4 => exact (Kd.R_reads' HO255.out).2.1); rintro e w' ⟨rfl, ⟨nd, rfl⟩⟩) | (go_at_call 18; (with_reducible refine (watchwordlaw0_Num.calls t243 t257 _ A18.out).mono ?_); rintro e w' ⟨rfl, ⟨nd, rfl⟩⟩) | (go_at_call 18; (with_reducible refine (watchwordlaw0_Num.calls t245 t258 _ A20.out).mono ?_); rintro e w' ⟨rfl, ⟨nd, rfl⟩⟩) | (go_at_call 20; (with_reducible refine (last_May.calls k _ _ t240 t259 _ ?side1 ?side2 A22.out).mono ?_); (case side1 => repeat (first | exact (Kd.R_reads' HO242.out).2.2 | (with_reducible refine Kd.C_alloc ?_ _) | (with_reducible refine Kd.C_drewN ?_ _) | (with_reducible refine Kd.C_drew ?_))); (case side2 => exact (Kd.R_reads' HO242.out).2.1); rintro e w63 ⟨rfl, hb⟩; have n0_ := Aside0.mk (Kd.R_below (by (with_reducible repeat (first | apply Kd.R_alloc | apply Kd.R_drewN | apply Kd.R_drew)); exact HO232.out) hb); have n1_ := Aside0.mk (Kd.R_below (by (with_reducible repeat (first | apply Kd.R_alloc | apply Kd.R_drewN | apply Kd.R_drew)); exact HO242.out) hb); have n2_ := Aside0.mk (Kd.R_below (by (with_reducible repeat (first | apply Kd.R_alloc | apply Kd.R_drewN | apply Kd.R_drew)); exact HO248.out) hb); have n3_ := Aside0.mk (Kd.R_below (by (with_reducible repeat (first | apply Kd.R_alloc | apply Kd.R_drewN | apply Kd.R_drew)); exact HO255.out) hb); have n4_ := Aside0.mk (blk_below (g := gb229) (o := .cells #[.int .i64 2, .int .i64 1, .int .i64 3, .int .i64 9] 24 (0, 0)) (by (with_reducible repeat (first | refine blk_drewN ?_ _ | refine blk_drew ?_ | refine blk_alloc ?_ _)); exact BK229.out) hb); have n5_ := Aside0.mk (blk_below (g := gb234) (o := .cells #[.int .i64 2, .int .i64 1, .int .i64 4, .int .i64 1] 24 (0, 0)) (by (with_reducible repeat (first | refine blk_drewN ?_ _ | refine blk_drew ?_ | refine blk_alloc ?_ _)); exact BK234.out) hb); have n6_ := Aside0.mk (blk_below (g := gb239) (o := .cells #[.int .i64 2, .int .i64 5, .int .i64 3, .int .i64 9] 24 (0, 0)) (by (with_reducible repeat (first | refine blk_drewN ?_ _ | refine blk_drew ?_ | refine blk_alloc ?_ _)); exact BK239.out) hb); have n7_ := Aside0.mk (below_step (by repeat (first | (with_reducible first | exact HB.out | apply below_alloc | apply pw_below_drewN | apply below_drew1 | refine below_set ?_ GE229.out | refine below_set ?_ GE234.out | refine below_set ?_ GE239.out) | exact HB.out)) hb); clear HO232; clear HO242; clear HO248; clear HO255; clear BK229; clear BK234; clear BK239; clear HB; have HO232 := n0_; have HO242 := n1_; have HO248 := n2_; have HO255 := n3_; have BK229 := n4_; have BK234 := n5_; have BK239 := n6_; have HB := n7_; clear n0_ n1_ n2_ n3_ n4_ n5_ n6_ n7_; (try clear hb); (try clear hb2); (try clear hk); (try clear hi)))
          go_ret
          exact ⟨by first | rfl | (simp [errW_none, errW_some] <;> rfl) | (simp [*, errW_none, errW_some] <;> rfl), by repeat (first | (with_reducible first | exact HB.out | apply below_alloc | apply pw_below_drewN | apply below_drew1 | refine below_set ?_ GE229.out | refine below_set ?_ GE234.out | refine below_set ?_ GE239.out) | exact HB.out)⟩
         ·rw [if_neg c21] at H
          have c21b0 : (t258 == 1400) = false := beq_eq_false_iff_ne.mpr c21
          have c21b1 : (t258 != 1400) = true := bne_iff_ne.mpr c21
          exact absurd (Option.some.inj H) (by rw [HT.out]; decide)
        ·rw [if_neg c19] at H
         have c19b0 : (t257 == 0) = false := beq_eq_false_iff_ne.mpr c19
         have c19b1 : (t257 != 0) = true := bne_iff_ne.mpr c19
         exact absurd (Option.some.inj H) (by rw [HT.out]; decide)
       ·replace c17 := Bool.eq_false_iff.mpr c17
        subst c17
        have H1 : (some false) = some r := by rw [if_neg (show ¬ (false = true) by decide)] at H; exact H
        clear H
        have H := H1
        clear H1
        exact absurd (Option.some.inj H) (by rw [HT.out]; decide)
      ·rw [if_neg c15] at H
       have c15b0 : (t252 == 0) = false := beq_eq_false_iff_ne.mpr c15
       have c15b1 : (t252 != 0) = true := bne_iff_ne.mpr c15
       exact absurd (Option.some.inj H) (by rw [HT.out]; decide)
    ·rw [if_neg c12] at H
     have c12b0 : (t251 == 0) = false := beq_eq_false_iff_ne.mpr c12
     have c12b1 : (t251 != 0) = true := bne_iff_ne.mpr c12
     exact absurd (Option.some.inj H) (by rw [HT.out]; decide)
   ·replace c10 := Bool.eq_false_iff.mpr c10
    subst c10
    have H1 : (some false) = some r := by rw [if_neg (show ¬ (false = true) by decide)] at H; exact H
    clear H
    have H := H1
    clear H1
    exact absurd (Option.some.inj H) (by rw [HT.out]; decide)
  ·rw [if_neg c9] at H
   have c9b0 : (t250 == 0) = false := beq_eq_false_iff_ne.mpr c9
   have c9b1 : (t250 != 0) = true := bne_iff_ne.mpr c9
   exact absurd (Option.some.inj H) (by rw [HT.out]; decide)
 ·replace c7 := Bool.eq_false_iff.mpr c7
  subst c7
  have H1 : (some false) = some r := by rw [if_neg (show ¬ (false = true) by decide)] at H; exact H
  clear H
  have H := H1
  clear H1
  exact absurd (Option.some.inj H) (by rw [HT.out]; decide)

end Go.Proofs.Ytabjambabnbmnaa.Q14
namespace Go.Proofs.Ytabjambabnbmnaa.Q14
open Go.RowKit Go.Proofs.YtabjambabnbmnaaW.PrintWords Go.Proofs.YtabjambabnbmnaaW.PrintLast Go.Proofs.YtabjambabnbmnaaW.PrintMore
attribute [local go_sem] max2_int min2_int max_two min_two max_three min_three max_four min_four   -- for this text's walks alone
set_option linter.unusedVariables false
set_option linter.unusedSimpArgs false

attribute [local go_sem high] eqA24
/-! ### watchwordlaw14_Lasts: function 3 -/
def watchwordlaw14_Lasts.j0 : Nat → List (S24) → List (S24) → List (S24) → List (S24) → Bool → Option (Bool)
 | 0, _, _, _, _, _ => none
 | k + 1, x0, x3, x5, x10, x67 => if x67 = true then (some false) else ((watchwordlaw0_SpoilLasts.f k x10).bind fun t274 => ((watchwordlaw0_KeptLasts.f k x5 x0 x3).bind fun t275 => (if t275 = true then ((watchwordlaw14_awake.f k).bind fun t276 => (some t276)) else (some false))))
def watchwordlaw14_Lasts.g (k : Nat) (l0 : List (S24)) (a1_0 : Int) (a1_1 : Int) (a1_2 : Int) (a1_3 : Int) (l2 : List (S24)) (l3 : List (S24)) : Option (Bool) := (last_Newer.f k l2 a1_0 a1_1 a1_2 a1_3).bind fun bt257 => ((watchwordref9_NewerLast.f k l0 a1_0 a1_1 a1_2 a1_3).bind fun bt259 => ((last_With.f k l2 a1_0 a1_1 a1_2 a1_3).bind fun bt261 => ((watchwordref9_WithLast.f k l0 a1_0 a1_1 a1_2 a1_3).bind fun bt265 => (if (bt257.1 != bt259.1) = true then (watchwordlaw14_Lasts.j0 k l0 l3 l2 bt261.1 true) else ((watchwordlaw0_Num.f bt257.2).bind fun t269 => (if t269 = bt259.2 then ((watchwordlaw0_SameLasts.f k bt261.1 bt265.1).bind fun t270 => (if t270 = true then ((watchwordlaw0_Num.f bt261.2).bind fun t271 => (if t271 = bt265.2 then ((last_May.f k l2).bind fun t272 => ((watchwordref9_LastsMay.f k l0).bind fun t273 => (watchwordlaw14_Lasts.j0 k l0 l3 l2 bt261.1 (t272 != t273)))) else (watchwordlaw14_Lasts.j0 k l0 l3 l2 bt261.1 true))) else (watchwordlaw14_Lasts.j0 k l0 l3 l2 bt261.1 true))) else (watchwordlaw14_Lasts.j0 k l0 l3 l2 bt261.1 true)))))))
theorem watchwordlaw14_Lasts.mono_l : ∀ k, (∀ y0 y1 y2 y3 y4, LeO (watchwordlaw14_Lasts.j0 k y0 y1 y2 y3 y4) (watchwordlaw14_Lasts.j0 (k + 1) y0 y1 y2 y3 y4))
 | 0 => fun _ _ _ _ _ r h => by simp [watchwordlaw14_Lasts.j0] at h
 | k + 1 => by
  have ih0 := watchwordlaw14_Lasts.mono_l k
  ·intro y0 y1 y2 y3 y4
   unfold watchwordlaw14_Lasts.j0
   repeat' first
   | (with_reducible exact ih0 _ _ _ _ _)
   | (with_reducible exact last_May.mono _ _)
   | (with_reducible exact last_Newer.mono _ _ _ _ _ _)
   | (with_reducible exact last_With.mono _ _ _ _ _ _)
   | (with_reducible exact watchwordlaw0_KeptLasts.mono _ _ _ _)
   | (with_reducible exact watchwordlaw0_SameLasts.mono _ _ _)
   | (with_reducible exact watchwordlaw0_SpoilLasts.mono _ _)
   | (with_reducible exact watchwordlaw14_awake.mono _)
   | (with_reducible exact watchwordref9_LastsMay.mono _ _)
   | (with_reducible exact watchwordref9_NewerLast.mono _ _ _ _ _ _)
   | (with_reducible exact watchwordref9_WithLast.mono _ _ _ _ _ _)
   | (with_reducible exact LeO.refl _)
   | (with_reducible exact LeO.none _)
   | (with_reducible refine LeO.ite ?_ ?_)
   | (with_reducible refine LeO.bind ?_ (fun _ => ?_))
   | exact ih0 _ _ _ _ _
   | exact last_May.mono _ _
   | exact last_Newer.mono _ _ _ _ _ _
   | exact last_With.mono _ _ _ _ _ _
   | exact watchwordlaw0_KeptLasts.mono _ _ _ _
   | exact watchwordlaw0_SameLasts.mono _ _ _
   | exact watchwordlaw0_SpoilLasts.mono _ _
   | exact watchwordlaw14_awake.mono _
   | exact watchwordref9_LastsMay.mono _ _
   | exact watchwordref9_NewerLast.mono _ _ _ _ _ _
   | exact watchwordref9_WithLast.mono _ _ _ _ _ _
   | exact LeO.none _
   | refine LeO.ite ?_ ?_
   | refine LeO.bind ?_ (fun _ => ?_)
theorem watchwordlaw14_Lasts.mono : ∀ a0 a1 a2 a3 a4 a5 a6 k, LeO (watchwordlaw14_Lasts.g k a0 a1 a2 a3 a4 a5 a6) (watchwordlaw14_Lasts.g (k + 1) a0 a1 a2 a3 a4 a5 a6) := by
 intro a0 a1 a2 a3 a4 a5 a6 k
 have ih0 := watchwordlaw14_Lasts.mono_l k
 unfold watchwordlaw14_Lasts.g
 repeat' first
   | (with_reducible exact ih0 _ _ _ _ _)
   | (with_reducible exact last_May.mono _ _)
   | (with_reducible exact last_Newer.mono _ _ _ _ _ _)
   | (with_reducible exact last_With.mono _ _ _ _ _ _)
   | (with_reducible exact watchwordlaw0_KeptLasts.mono _ _ _ _)
   | (with_reducible exact watchwordlaw0_SameLasts.mono _ _ _)
   | (with_reducible exact watchwordlaw0_SpoilLasts.mono _ _)
   | (with_reducible exact watchwordlaw14_awake.mono _)
   | (with_reducible exact watchwordref9_LastsMay.mono _ _)
   | (with_reducible exact watchwordref9_NewerLast.mono _ _ _ _ _ _)
   | (with_reducible exact watchwordref9_WithLast.mono _ _ _ _ _ _)
   | (with_reducible exact LeO.refl _)
   | (with_reducible exact LeO.none _)
   | (with_reducible refine LeO.ite ?_ ?_)
   | (with_reducible refine LeO.bind ?_ (fun _ => ?_))
   | exact ih0 _ _ _ _ _
   | exact last_May.mono _ _
   | exact last_Newer.mono _ _ _ _ _ _
   | exact last_With.mono _ _ _ _ _ _
   | exact watchwordlaw0_KeptLasts.mono _ _ _ _
   | exact watchwordlaw0_SameLasts.mono _ _ _
   | exact watchwordlaw0_SpoilLasts.mono _ _
   | exact watchwordlaw14_awake.mono _
   | exact watchwordref9_LastsMay.mono _ _
   | exact watchwordref9_NewerLast.mono _ _ _ _ _ _
   | exact watchwordref9_WithLast.mono _ _ _ _ _ _
   | exact LeO.none _
   | refine LeO.ite ?_ ?_
   | refine LeO.bind ?_ (fun _ => ?_)
set_option maxHeartbeats 8000000 in
set_option maxRecDepth 100000 in
theorem watchwordlaw14_Lasts.walk (k : Nat) (A0 : Option Addr) (c0 : Nat) (l0 : List (S24)) (a1_0 : Int) (a1_1 : Int) (a1_2 : Int) (a1_3 : Int) (l2 : List (S24)) (l3 : List (S24)) (r : Bool) (w : World) (hr0 : Kd.C k24 w A0 l0.length l0) (hc0 : l0.length ≤ c0) (hL : watchwordlaw0_LendLasts.f l0 = some l2) (h3 : ∀ t_, watchwordlaw0_CopyLasts.f l0 = some t_ → t_ ++ ([(⟨77777, 0, 0, 0⟩ : S24), (⟨77777, 0, 0, 0⟩ : S24)] : List S24) = l3) (hlen : l3.length = l2.length + 2) (hsz : l2.length ≤ 1000000000000000) (hle : l0.length ≤ l3.length) (h : watchwordlaw14_Lasts.g k l0 a1_0 a1_1 a1_2 a1_3 l2 l3 = some r) (hT : r = true) :
  Calls Try.prog 3 #[.slice A0 l0.length c0, .agg #[.int .i64 a1_0, .int .i64 a1_1, .int .i64 a1_2, .int .i64 a1_3]] w fun e w' => e = .returned (.bool r) ∧ Below w.heap.size w w' := by
 have HL_ := Aside0.mk hL
 have H3_ := Aside0.mk h3
 have HN_ := Aside0.mk hlen
 have HS_ := Aside0.mk hsz
 have HE_ := Aside0.mk hle
 clear hL h3 hlen hsz hle
 have hu24 := Try.underlying24
 have HR0 := Aside0.mk hr0
 have HC0 := Aside0.mk hc0
 clear hr0 hc0
 have HB := Aside0.mk (Below.refl w.heap.size w)
 have HT := Aside0.mk hT
 clear hT
 have H : ((last_Newer.f k l2 a1_0 a1_1 a1_2 a1_3).bind fun bt257 => ((watchwordref9_NewerLast.f k l0 a1_0 a1_1 a1_2 a1_3).bind fun bt259 => ((last_With.f k l2 a1_0 a1_1 a1_2 a1_3).bind fun bt261 => ((watchwordref9_WithLast.f k l0 a1_0 a1_1 a1_2 a1_3).bind fun bt265 => (if (bt257.1 != bt259.1) = true then (watchwordlaw14_Lasts.j0 k l0 l3 l2 bt261.1 true) else ((watchwordlaw0_Num.f bt257.2).bind fun t269 => (if t269 = bt259.2 then ((watchwordlaw0_SameLasts.f k bt261.1 bt265.1).bind fun t270 => (if t270 = true then ((watchwordlaw0_Num.f bt261.2).bind fun t271 => (if t271 = bt265.2 then ((last_May.f k l2).bind fun t272 => ((watchwordref9_LastsMay.f k l0).bind fun t273 => (watchwordlaw14_Lasts.j0 k l0 l3 l2 bt261.1 (t272 != t273)))) else (watchwordlaw14_Lasts.j0 k l0 l3 l2 bt261.1 true))) else (watchwordlaw14_Lasts.j0 k l0 l3 l2 bt261.1 true))) else (watchwordlaw14_Lasts.j0 k l0 l3 l2 bt261.1 true)))))))) = some r := h
 clear h
 replace H := Option.bind_eq_some_iff.mp H
 obtain ⟨⟨t257, t258⟩, A50, H⟩ := H
 replace H : ((watchwordref9_NewerLast.f k l0 a1_0 a1_1 a1_2 a1_3).bind fun bt259 => ((last_With.f k l2 a1_0 a1_1 a1_2 a1_3).bind fun bt261 => ((watchwordref9_WithLast.f k l0 a1_0 a1_1 a1_2 a1_3).bind fun bt265 => (if (t257 != bt259.1) = true then (watchwordlaw14_Lasts.j0 k l0 l3 l2 bt261.1 true) else ((watchwordlaw0_Num.f t258).bind fun t269 => (if t269 = bt259.2 then ((watchwordlaw0_SameLasts.f k bt261.1 bt265.1).bind fun t270 => (if t270 = true then ((watchwordlaw0_Num.f bt261.2).bind fun t271 => (if t271 = bt265.2 then ((last_May.f k l2).bind fun t272 => ((watchwordref9_LastsMay.f k l0).bind fun t273 => (watchwordlaw14_Lasts.j0 k l0 l3 l2 bt261.1 (t272 != t273)))) else (watchwordlaw14_Lasts.j0 k l0 l3 l2 bt261.1 true))) else (watchwordlaw14_Lasts.j0 k l0 l3 l2 bt261.1 true))) else (watchwordlaw14_Lasts.j0 k l0 l3 l2 bt261.1 true))))))) = some r := H
 have A5 := Aside0.mk A50
 clear A50
 replace H := Option.bind_eq_some_iff.mp H
 obtain ⟨⟨t259, t260⟩, A60, H⟩ := H
 replace H : ((last_With.f k l2 a1_0 a1_1 a1_2 a1_3).bind fun bt261 => ((watchwordref9_WithLast.f k l0 a1_0 a1_1 a1_2 a1_3).bind fun bt265 => (if (t257 != t259) = true then (watchwordlaw14_Lasts.j0 k l0 l3 l2 bt261.1 true) else ((watchwordlaw0_Num.f t258).bind fun t269 => (if t269 = t260 then ((watchwordlaw0_SameLasts.f k bt261.1 bt265.1).bind fun t270 => (if t270 = true then ((watchwordlaw0_Num.f bt261.2).bind fun t271 => (if t271 = bt265.2 then ((last_May.f k l2).bind fun t272 => ((watchwordref9_LastsMay.f k l0).bind fun t273 => (watchwordlaw14_Lasts.j0 k l0 l3 l2 bt261.1 (t272 != t273)))) else (watchwordlaw14_Lasts.j0 k l0 l3 l2 bt261.1 true))) else (watchwordlaw14_Lasts.j0 k l0 l3 l2 bt261.1 true))) else (watchwordlaw14_Lasts.j0 k l0 l3 l2 bt261.1 true)))))) = some r := H
 have A6 := Aside0.mk A60
 clear A60
 replace H := Option.bind_eq_some_iff.mp H
 obtain ⟨⟨t261, t264⟩, A70, H⟩ := H
 replace H : ((watchwordref9_WithLast.f k l0 a1_0 a1_1 a1_2 a1_3).bind fun bt265 => (if (t257 != t259) = true then (watchwordlaw14_Lasts.j0 k l0 l3 l2 t261 true) else ((watchwordlaw0_Num.f t258).bind fun t269 => (if t269 = t260 then ((watchwordlaw0_SameLasts.f k t261 bt265.1).bind fun t270 => (if t270 = true then ((watchwordlaw0_Num.f t264).bind fun t271 => (if t271 = bt265.2 then ((last_May.f k l2).bind fun t272 => ((watchwordref9_LastsMay.f k l0).bind fun t273 => (watchwordlaw14_Lasts.j0 k l0 l3 l2 t261 (t272 != t273)))) else (watchwordlaw14_Lasts.j0 k l0 l3 l2 t261 true))) else (watchwordlaw14_Lasts.j0 k l0 l3 l2 t261 true))) else (watchwordlaw14_Lasts.j0 k l0 l3 l2 t261 true))))) = some r := H
 have A7 := Aside0.mk A70
 clear A70
 replace H := Option.bind_eq_some_iff.mp H
 obtain ⟨⟨t265, t268⟩, A80, H⟩ := H
 replace H : (if (t257 != t259) = true then (watchwordlaw14_Lasts.j0 k l0 l3 l2 t261 true) else ((watchwordlaw0_Num.f t258).bind fun t269 => (if t269 = t260 then ((watchwordlaw0_SameLasts.f k t261 t265).bind fun t270 => (if t270 = true then ((watchwordlaw0_Num.f t264).bind fun t271 => (if t271 = t268 then ((last_May.f k l2).bind fun t272 => ((watchwordref9_LastsMay.f k l0).bind fun t273 => (watchwordlaw14_Lasts.j0 k l0 l3 l2 t261 (t272 != t273)))) else (watchwordlaw14_Lasts.j0 k l0 l3 l2 t261 true))) else (watchwordlaw14_Lasts.j0 k l0 l3 l2 t261 true))) else (watchwordlaw14_Lasts.j0 k l0 l3 l2 t261 true)))) = some r := H
 have A8 := Aside0.mk A80
 clear A80
 have HC9 := Aside0.mk H
 clear H
 go_enter Try.func3, Try.ntmps3
 go_upto_region 2 with (first | ((with_reducible refine gate_dst (N := 3) rfl ?_); refine box_event ?hg (N := 3) ?hd (cs := #[.int .i64 a1_0, .int .i64 a1_1, .int .i64 a1_2, .int .i64 a1_3]) (t := 24) ?hr ?_; (case hd => rfl); (case hg => rfl); (case hr => first | (go_simp; done) | (go_simp; rfl)); intro gb256 hg w10 hbox hb; have n0_ := Aside0.mk (below_step (by repeat (first | (with_reducible first | exact HB.out | apply below_alloc | apply pw_below_drewN | apply below_drew1) | exact HB.out)) hb); have n1_ := Aside0.mk (hbox); have n2_ := Aside0.mk ((by rw [hg]; exact (below_size (by repeat (first | (with_reducible first | exact HB.out | apply below_alloc | apply pw_below_drewN | apply below_drew1) | exact HB.out))) : w.heap.size ≤ gb256)); have n3_ := Aside0.mk ((by rw [hg]; exact (below_size (by repeat (first | (with_reducible first | exact HB.out | apply below_alloc | apply pw_below_drewN | apply below_drew1) | exact HB.out))) : w.heap.size ≤ gb256)); clear HB; have HB := n0_; have BK256 := n1_; have GW256 := n2_; have GE256 := n3_; clear n0_ n1_ n2_ n3_; clear hb hbox hg; have hcz11_0 : w10.cell? ⟨gb256, 0, none⟩ = some (.int .i64 a1_0) := (blk_cell BK256.out 0).trans rfl; have hcz11_1 : w10.cell? ⟨gb256, 1, none⟩ = some (.int .i64 a1_1) := (blk_cell BK256.out 1).trans rfl; have hcz11_2 : w10.cell? ⟨gb256, 2, none⟩ = some (.int .i64 a1_2) := (blk_cell BK256.out 2).trans rfl; have hcz11_3 : w10.cell? ⟨gb256, 3, none⟩ = some (.int .i64 a1_3) := (blk_cell BK256.out 3).trans rfl; have hfz11_0 := blk_frozen BK256.out 0; have hfz11_1 := blk_frozen BK256.out 1; have hfz11_2 := blk_frozen BK256.out 2; have hfz11_3 := blk_frozen BK256.out 3) | ((with_reducible refine gate_callee (f := 13) rfl ?_); refine goesL_ (some 15) rfl rfl Try.func13 (by kernel_rfl) rfl #[.slice A0 l0.length c0] rfl (by (try simp only [List.map_toArray, List.map_cons, List.map_nil]); first | done | rfl) ?_; (with_reducible refine (watchwordlaw0_LendLasts.lent _ _ l0 l2 _ ?side1 ?side2 HL_.out).mono ?_); (case side1 => repeat (first | exact (Kd.C_below HR0.out HB.out) | (with_reducible refine Kd.C_alloc ?_ _) | (with_reducible refine Kd.C_drewN ?_ _) | (with_reducible refine Kd.C_drew ?_))); (case side2 => exact HC0.out); rintro e w1 ⟨A2, c2, y_, t_, rfl, hc1_, hy_, hr_, hk_, hn_, hb⟩; refine ⟨_, rfl, ?_⟩; have HB0 := Aside0.mk (below_step (by repeat (first | (with_reducible first | exact HB.out | apply below_alloc | apply pw_below_drewN | apply below_drew1) | exact HB.out)) hb); have nbk_ := Aside0.mk (blk_below (g := gb256) (o := .cells #[.int .i64 a1_0, .int .i64 a1_1, .int .i64 a1_2, .int .i64 a1_3] 24 (0, 0)) BK256.out hb); clear hcz11_0 hcz11_1 hcz11_2 hcz11_3 hfz11_0 hfz11_1 hfz11_2 hfz11_3; clear GW256 GE256 BK256; have BK256 := nbk_; clear nbk_; have hcz11_0 : w1.cell? ⟨gb256, 0, none⟩ = some (.int .i64 a1_0) := (blk_cell BK256.out 0).trans rfl; have hcz11_1 : w1.cell? ⟨gb256, 1, none⟩ = some (.int .i64 a1_1) := (blk_cell BK256.out 1).trans rfl; have hcz11_2 : w1.cell? ⟨gb256, 2, none⟩ = some (.int .i64 a1_2) := (blk_cell BK256.out 2).trans rfl; have hcz11_3 : w1.cell? ⟨gb256, 3, none⟩ = some (.int .i64 a1_3) := (blk_cell BK256.out 3).trans rfl; have hfz11_0 := blk_frozen BK256.out 0; have hfz11_1 := blk_frozen BK256.out 1; have hfz11_2 := blk_frozen BK256.out 2; have hfz11_3 := blk_frozen BK256.out 3; have HY1 := Aside0.mk hc1_; have HY2 := Aside0.mk hy_; have HY3 := Aside0.mk hr_; have HY4 := Aside0.mk hk_; have HY5 := Aside0.mk hn_; clear hb hc1_ hy_ hr_ hk_ hn_))
 have hye_ : y_ = l3 := HY2.out.trans (H3_.out _ HY1.out)
 have HC2 := Aside0.mk (show l2.length ≤ c2 by have hn_ := HY5.out; rw [hye_, HN_.out] at hn_; omega)
 have HC3 := Aside0.mk (show l3.length ≤ c2 by have hn_ := HY5.out; rw [hye_] at hn_; exact hn_)
 have HR2 := Aside0.mk (show Kd.C k24 w1 A2 l2.length l2 by rw [HY3.out]; exact Kd.C_take HY4.out (by rw [hye_]; exact HE_.out))
 have HR3 := Aside0.mk (show Kd.C k24 w1 A2 l3.length l3 by rw [← hye_]; exact HY4.out)
 have hr0_ := Kd.C_below HR0.out HB0.out
 clear HR0 HB HY1 HY2 HY3 HY4 HY5 hye_
 have HR0 := Aside0.mk hr0_
 clear hr0_
 have HB := Aside0.mk (Below.refl w1.heap.size w1)
 go_upto_region 6 with (first | ((with_reducible refine gate_callee (f := 14) rfl ?_); refine goesL_ (some 19) rfl rfl Try.func14 (by kernel_rfl) rfl #[.slice A2 l2.length c2, .agg #[.int .i64 a1_0, .int .i64 a1_1, .int .i64 a1_2, .int .i64 a1_3]] rfl (by (try simp only [List.map_toArray, List.map_cons, List.map_nil]); first | done | rfl | (simp only [List.length_drop, List.length_take]; rfl)) ?_; (with_reducible refine (last_Newer.calls k _ _ l2 a1_0 a1_1 a1_2 a1_3 t257 t258 _ ?side1 ?side2 A5.out).mono ?_); (case side1 => repeat (first | exact (Kd.C_below HR2.out HB.out) | (with_reducible refine Kd.C_alloc ?_ _) | (with_reducible refine Kd.C_drewN ?_ _) | (with_reducible refine Kd.C_drew ?_))); (case side2 => exact HC2.out); rintro e w12 ⟨rfl, hb⟩; refine ⟨_, rfl, ?_⟩; have n0_ := Aside0.mk (blk_below (g := gb256) (o := .cells #[.int .i64 a1_0, .int .i64 a1_1, .int .i64 a1_2, .int .i64 a1_3] 24 (0, 0)) (by (with_reducible repeat (first | refine blk_drewN ?_ _ | refine blk_drew ?_ | refine blk_alloc ?_ _)); exact BK256.out) hb); have n1_ := Aside0.mk (below_step (by repeat (first | (with_reducible first | exact HB.out | apply below_alloc | apply pw_below_drewN | apply below_drew1 | refine below_set ?_ GE256.out) | exact HB.out)) hb); clear BK256; clear HB; have BK256 := n0_; have HB := n1_; clear n0_ n1_; (try clear hb); (try clear hb2); (try clear hk); (try clear hi); have hcz13_0 : w12.cell? ⟨gb256, 0, none⟩ = some (.int .i64 a1_0) := (blk_cell BK256.out 0).trans rfl; have hcz13_1 : w12.cell? ⟨gb256, 1, none⟩ = some (.int .i64 a1_1) := (blk_cell BK256.out 1).trans rfl; have hcz13_2 : w12.cell? ⟨gb256, 2, none⟩ = some (.int .i64 a1_2) := (blk_cell BK256.out 2).trans rfl; have hcz13_3 : w12.cell? ⟨gb256, 3, none⟩ = some (.int .i64 a1_3) := (blk_cell BK256.out 3).trans rfl; have hfz13_0 := blk_frozen BK256.out 0; have hfz13_1 := blk_frozen BK256.out 1; have hfz13_2 := blk_frozen BK256.out 2; have hfz13_3 := blk_frozen BK256.out 3) | ((with_reducible refine gate_callee (f := 15) rfl ?_); refine goesL_ (some 25) rfl rfl Try.func15 (by kernel_rfl) rfl #[.slice A0 l0.length c0, .agg #[.int .i64 a1_0, .int .i64 a1_1, .int .i64 a1_2, .int .i64 a1_3]] rfl (by (try simp only [List.map_toArray, List.map_cons, List.map_nil]); first | done | rfl | (simp only [List.length_drop, List.length_take]; rfl)) ?_; (with_reducible refine (watchwordref9_NewerLast.calls k _ _ l0 a1_0 a1_1 a1_2 a1_3 t259 t260 _ ?side1 ?side2 A6.out).mono ?_); (case side1 => repeat (first | exact (Kd.C_below HR0.out HB.out) | (with_reducible refine Kd.C_alloc ?_ _) | (with_reducible refine Kd.C_drewN ?_ _) | (with_reducible refine Kd.C_drew ?_))); (case side2 => exact HC0.out); rintro e w14 ⟨rfl, hb⟩; refine ⟨_, rfl, ?_⟩; have n0_ := Aside0.mk (blk_below (g := gb256) (o := .cells #[.int .i64 a1_0, .int .i64 a1_1, .int .i64 a1_2, .int .i64 a1_3] 24 (0, 0)) (by (with_reducible repeat (first | refine blk_drewN ?_ _ | refine blk_drew ?_ | refine blk_alloc ?_ _)); exact BK256.out) hb); have n1_ := Aside0.mk (below_step (by repeat (first | (with_reducible first | exact HB.out | apply below_alloc | apply pw_below_drewN | apply below_drew1 | refine below_set ?_ GE256.out) | exact HB.out)) hb); clear BK256; clear HB; have BK256 := n0_; have HB := n1_; clear n0_ n1_; (try clear hb); (try clear hb2); (try clear hk); (try clear hi); have hcz15_0 : w14.cell? ⟨gb256, 0, none⟩ = some (.int .i64 a1_0) := (blk_cell BK256.out 0).trans rfl; have hcz15_1 : w14.cell? ⟨gb256, 1, none⟩ = some (.int .i64 a1_1) := (blk_cell BK256.out 1).trans rfl; have hcz15_2 : w14.cell? ⟨gb256, 2, none⟩ = some (.int .i64 a1_2) := (blk_cell BK256.out 2).trans rfl; have hcz15_3 : w14.cell? ⟨gb256, 3, none⟩ = some (.int .i64 a1_3) := (blk_cell BK256.out 3).trans rfl; have hfz15_0 := blk_frozen BK256.out 0; have hfz15_1 := blk_frozen BK256.out 1; have hfz15_2 := blk_frozen BK256.out 2; have hfz15_3 := blk_frozen BK256.out 3) | ((with_reducible refine gate_callee (f := 16) rfl ?_); refine goesL_ (some 31) rfl rfl Try.func16 (by kernel_rfl) rfl #[.slice A2 l2.length c2, .agg #[.int .i64 a1_0, .int .i64 a1_1, .int .i64 a1_2, .int .i64 a1_3]] rfl (by (try simp only [List.map_toArray, List.map_cons, List.map_nil]); first | done | rfl | (simp only [List.length_drop, List.length_take]; rfl)) ?_; (with_reducible refine (last_With.calls k _ _ l2 a1_0 a1_1 a1_2 a1_3 t261 t264 _ ?side1 ?side2 A7.out).mono ?_); (case side1 => repeat (first | exact (Kd.C_below HR2.out HB.out) | (with_reducible refine Kd.C_alloc ?_ _) | (with_reducible refine Kd.C_drewN ?_ _) | (with_reducible refine Kd.C_drew ?_))); (case side2 => exact HC2.out); rintro e w16 ⟨v262, rfl, ho0, hb⟩; refine ⟨_, rfl, ?_⟩; have n0_ := Aside0.mk (Kd.R_lower (Kd.R_newB ho0 (g := gb256) (o := .cells #[.int .i64 a1_0, .int .i64 a1_1, .int .i64 a1_2, .int .i64 a1_3] 24 (0, 0)) (by (with_reducible repeat (first | refine blk_drewN ?_ _ | refine blk_drew ?_ | refine blk_alloc ?_ _)); exact BK256.out)) (below_size (by repeat (first | (with_reducible first | exact HB.out | apply below_alloc | apply pw_below_drewN | apply below_drew1 | refine below_set ?_ GE256.out) | exact HB.out)))); have n1_ := Aside0.mk (blk_below (g := gb256) (o := .cells #[.int .i64 a1_0, .int .i64 a1_1, .int .i64 a1_2, .int .i64 a1_3] 24 (0, 0)) (by (with_reducible repeat (first | refine blk_drewN ?_ _ | refine blk_drew ?_ | refine blk_alloc ?_ _)); exact BK256.out) hb); have n2_ := Aside0.mk (below_step (by repeat (first | (with_reducible first | exact HB.out | apply below_alloc | apply pw_below_drewN | apply below_drew1 | refine below_set ?_ GE256.out) | exact HB.out)) hb); clear BK256; clear HB; have HO263 := n0_; have BK256 := n1_; have HB := n2_; clear n0_ n1_ n2_; (try clear hb); (try clear hb2); (try clear hk); (try clear hi); (try clear ho0); have hcz17_0 : w16.cell? ⟨gb256, 0, none⟩ = some (.int .i64 a1_0) := (blk_cell BK256.out 0).trans rfl; have hcz17_1 : w16.cell? ⟨gb256, 1, none⟩ = some (.int .i64 a1_1) := (blk_cell BK256.out 1).trans rfl; have hcz17_2 : w16.cell? ⟨gb256, 2, none⟩ = some (.int .i64 a1_2) := (blk_cell BK256.out 2).trans rfl; have hcz17_3 : w16.cell? ⟨gb256, 3, none⟩ = some (.int .i64 a1_3) := (blk_cell BK256.out 3).trans rfl; have hfz17_0 := blk_frozen BK256.out 0; have hfz17_1 := blk_frozen BK256.out 1; have hfz17_2 := blk_frozen BK256.out 2; have hfz17_3 := blk_frozen BK256.out 3) | ((with_reducible refine gate_callee (f := 17) rfl ?_); refine goesL_ (some 37) rfl rfl Try.func17 (by kernel_rfl) rfl #[.slice A0 l0.length c0, .agg #[.int .i64 a1_0, .int .i64 a1_1, .int .i64 a1_2, .int .i64 a1_3]] rfl (by (try simp only [List.map_toArray, List.map_cons, List.map_nil]); first | done | rfl | (simp only [List.length_drop, List.length_take]; rfl)) ?_; (with_reducible refine (watchwordref9_WithLast.calls k _ _ l0 a1_0 a1_1 a1_2 a1_3 t265 t268 _ ?side1 ?side2 A8.out).mono ?_); (case side1 => repeat (first | exact (Kd.C_below HR0.out HB.out) | (with_reducible refine Kd.C_alloc ?_ _) | (with_reducible refine Kd.C_drewN ?_ _) | (with_reducible refine Kd.C_drew ?_))); (case side2 => exact HC0.out); rintro e w18 ⟨v266, rfl, ho0, hb⟩; refine ⟨_, rfl, ?_⟩; have n0_ := Aside0.mk (Kd.R_elder' (by (with_reducible repeat (first | apply Kd.R_alloc | apply Kd.R_drewN | apply Kd.R_drew)); exact HO263.out) (Kd.R_base ho0) hb); have n1_ := Aside0.mk (Kd.R_lower (Kd.R_newB (Kd.R_new' ho0 (Kd.R_lt (by (with_reducible repeat (first | apply Kd.R_alloc | apply Kd.R_drewN | apply Kd.R_drew)); exact HO263.out))) (g := gb256) (o := .cells #[.int .i64 a1_0, .int .i64 a1_1, .int .i64 a1_2, .int .i64 a1_3] 24 (0, 0)) (by (with_reducible repeat (first | refine blk_drewN ?_ _ | refine blk_drew ?_ | refine blk_alloc ?_ _)); exact BK256.out)) (below_size (by repeat (first | (with_reducible first | exact HB.out | apply below_alloc | apply pw_below_drewN | apply below_drew1 | refine below_set ?_ GE256.out) | exact HB.out)))); have n2_ := Aside0.mk (blk_below (g := gb256) (o := .cells #[.int .i64 a1_0, .int .i64 a1_1, .int .i64 a1_2, .int .i64 a1_3] 24 (0, 0)) (by (with_reducible repeat (first | refine blk_drewN ?_ _ | refine blk_drew ?_ | refine blk_alloc ?_ _)); exact BK256.out) hb); have n3_ := Aside0.mk (below_step (by repeat (first | (with_reducible first | exact HB.out | apply below_alloc | apply pw_below_drewN | apply below_drew1 | refine below_set ?_ GE256.out) | exact HB.out)) hb); clear HO263; clear BK256; clear HB; have HO263 := n0_; have HO267 := n1_; have BK256 := n2_; have HB := n3_; clear n0_ n1_ n2_ n3_; (try clear hb); (try clear hb2); (try clear hk); (try clear hi); (try clear ho0)))
 (try simp only [Act.put, List.setIfInBounds_toArray, List.set_cons_zero, List.set_cons_succ])
 go_cut [67] (fun v67 wc => ∃ (kq : Nat) (x67_8 : Bool), v67 = .bool x67_8 ∧ Aside0 (watchwordlaw14_Lasts.j0 kq l0 l3 l2 t261 x67_8 = some r) ∧ Aside0 (kq ≤ k) ∧ Aside0 (Kd.R k24 24 wc w1.heap.size (fun k_ => k_ ≠ gb256) v262 t261) ∧ Aside0 (wc.heap[gb256]? = some (.cells #[.int .i64 a1_0, .int .i64 a1_1, .int .i64 a1_2, .int .i64 a1_3] 24 (0, 0))) ∧ Aside0 (Below w1.heap.size w1 wc))
 case first =>
  have H := HC9.out
  clear HC9
  by_cases c19 : (t257 != t259) = true
  ·rw [if_pos c19] at H
   have c19b0 : (t257 != t259) = true := c19
   (try (have c19b1 : decide (t257 = t259) = false := by simpa using c19))
   (try (have c19b2 : (t257 == t259) = false := by simpa using c19))
   (try (have c19b3 : ¬ (t257 = t259) := by simpa using c19))
   clear c19
   (first | rw [c19b0] | (simp only [i64_w, i32_w]; rw [c19b0]) | skip)
   exact absurd H (fun h_ => (by
    have hd_ : ∀ k_, watchwordlaw14_Lasts.j0 k_ l0 l3 l2 t261 true = some r → False := by
     intro k_ h_
     cases k_ with
     | zero => exact absurd h_ (by simp [watchwordlaw14_Lasts.j0])
     | succ k_ =>
      simp only [watchwordlaw14_Lasts.j0, if_true] at h_
      exact absurd (Option.some.inj h_) (by rw [HT.out]; decide)
    exact hd_ _ h_))
  ·rw [if_neg c19] at H
   have c19b0 : (t257 != t259) = false := by simpa using c19
   (try (have c19b1 : decide (t257 = t259) = true := by simpa using c19))
   (try (have c19b2 : (t257 == t259) = true := by simpa using c19))
   clear c19
   (first | rw [c19b0] | (simp only [i64_w, i32_w]; rw [c19b0]) | skip)
   replace H := Option.bind_eq_some_iff.mp H
   obtain ⟨t269, A200, H⟩ := H
   replace H : (if t269 = t260 then ((watchwordlaw0_SameLasts.f k t261 t265).bind fun t270 => (if t270 = true then ((watchwordlaw0_Num.f t264).bind fun t271 => (if t271 = t268 then ((last_May.f k l2).bind fun t272 => ((watchwordref9_LastsMay.f k l0).bind fun t273 => (watchwordlaw14_Lasts.j0 k l0 l3 l2 t261 (t272 != t273)))) else (watchwordlaw14_Lasts.j0 k l0 l3 l2 t261 true))) else (watchwordlaw14_Lasts.j0 k l0 l3 l2 t261 true))) else (watchwordlaw14_Lasts.j0 k l0 l3 l2 t261 true)) = some r := H
   have A20 := Aside0.mk A200
   clear A200
   by_cases c21 : t269 = t260
   ·rw [if_pos c21] at H
    have c21b0 : (t269 == t260) = true := beq_iff_eq.mpr c21
    have c21b1 : (t269 != t260) = false := bne_eq_false_iff_eq.mpr c21
    clear c21
    replace H := Option.bind_eq_some_iff.mp H
    obtain ⟨t270, A220, H⟩ := H
    replace H : (if t270 = true then ((watchwordlaw0_Num.f t264).bind fun t271 => (if t271 = t268 then ((last_May.f k l2).bind fun t272 => ((watchwordref9_LastsMay.f k l0).bind fun t273 => (watchwordlaw14_Lasts.j0 k l0 l3 l2 t261 (t272 != t273)))) else (watchwordlaw14_Lasts.j0 k l0 l3 l2 t261 true))) else (watchwordlaw14_Lasts.j0 k l0 l3 l2 t261 true)) = some r := H
    have A22 := Aside0.mk A220
    clear A220
    by_cases c23 : t270 = true
    ·subst c23
     have H1 : ((watchwordlaw0_Num.f t264).bind fun t271 => (if t271 = t268 then ((last_May.f k l2).bind fun t272 => ((watchwordref9_LastsMay.f k l0).bind fun t273 => (watchwordlaw14_Lasts.j0 k l0 l3 l2 t261 (t272 != t273)))) else (watchwordlaw14_Lasts.j0 k l0 l3 l2 t261 true))) = some r := by rw [if_pos rfl] at H; exact H
     clear H
     have H := H1
     clear H1
     replace H := Option.bind_eq_some_iff.mp H
     obtain ⟨t271, A240, H⟩ := H
     replace H : (if t271 = t268 then ((last_May.f k l2).bind fun t272 => ((watchwordref9_LastsMay.f k l0).bind fun t273 => (watchwordlaw14_Lasts.j0 k l0 l3 l2 t261 (t272 != t273)))) else (watchwordlaw14_Lasts.j0 k l0 l3 l2 t261 true)) = some r := H
     have A24 := Aside0.mk A240
     clear A240
     by_cases c25 : t271 = t268
     ·rw [if_pos c25] at H
      have c25b0 : (t271 == t268) = true := beq_iff_eq.mpr c25
      have c25b1 : (t271 != t268) = false := bne_eq_false_iff_eq.mpr c25
      clear c25
      replace H := Option.bind_eq_some_iff.mp H
      obtain ⟨t272, A260, H⟩ := H
      replace H : ((watchwordref9_LastsMay.f k l0).bind fun t273 => (watchwordlaw14_Lasts.j0 k l0 l3 l2 t261 (t272 != t273))) = some r := H
      have A26 := Aside0.mk A260
      clear A260
      replace H := Option.bind_eq_some_iff.mp H
      obtain ⟨t273, A270, H⟩ := H
      replace H : (watchwordlaw14_Lasts.j0 k l0 l3 l2 t261 (t272 != t273)) = some r := H
      have A27 := Aside0.mk A270
      clear A270
      have H' := Aside0.mk H
      clear H
      go_wp2_with (first | (go_at_call 18; (with_reducible refine (watchwordlaw0_Num.calls t258 t269 _ A20.out).mono ?_); rintro e w' ⟨rfl, ⟨nd, rfl⟩⟩; obtain ⟨Ao28, co28, eo28⟩ := Kd.R_slice HO263.out; subst eo28; obtain ⟨Ao29, co29, eo29⟩ := Kd.R_slice HO267.out; subst eo29) | (go_at_call 19; (with_reducible refine (watchwordlaw0_SameLasts.calls k _ _ t261 _ _ t265 true _ ?side1 ?side2 ?side3 ?side4 A22.out).mono ?_); (case side1 => repeat (first | exact (Kd.R_reads' HO263.out).2.2 | (with_reducible refine Kd.C_alloc ?_ _) | (with_reducible refine Kd.C_drewN ?_ _) | (with_reducible refine Kd.C_drew ?_))); (case side2 => exact (Kd.R_reads' HO263.out).2.1); (case side3 => repeat (first | exact (Kd.R_reads' HO267.out).2.2 | (with_reducible refine Kd.C_alloc ?_ _) | (with_reducible refine Kd.C_drewN ?_ _) | (with_reducible refine Kd.C_drew ?_))); (case side4 => exact (Kd.R_reads' HO267.out).2.1); rintro e w' ⟨rfl, ⟨nd, rfl⟩⟩) | (go_at_call 18; (with_reducible refine (watchwordlaw0_Num.calls t264 t271 _ A24.out).mono ?_); rintro e w' ⟨rfl, ⟨nd, rfl⟩⟩) | (go_at_call 20; (with_reducible refine (last_May.calls k _ _ l2 t272 _ ?side1 ?side2 A26.out).mono ?_); (case side1 => repeat (first | exact (Kd.C_below HR2.out (by repeat (first | (with_reducible first | exact HB.out | apply below_alloc | apply pw_below_drewN | apply below_drew1 | refine below_set ?_ GE256.out) | exact HB.out))) | (with_reducible refine Kd.C_alloc ?_ _) | (with_reducible refine Kd.C_drewN ?_ _) | (with_reducible refine Kd.C_drew ?_))); (case side2 => exact HC2.out); rintro e w30 ⟨rfl, hb⟩; have n0_ := Aside0.mk (Kd.R_below (by (with_reducible repeat (first | apply Kd.R_alloc | apply Kd.R_drewN | apply Kd.R_drew)); exact HO263.out) hb); have n1_ := Aside0.mk (Kd.R_below (by (with_reducible repeat (first | apply Kd.R_alloc | apply Kd.R_drewN | apply Kd.R_drew)); exact HO267.out) hb); have n2_ := Aside0.mk (blk_below (g := gb256) (o := .cells #[.int .i64 a1_0, .int .i64 a1_1, .int .i64 a1_2, .int .i64 a1_3] 24 (0, 0)) (by (with_reducible repeat (first | refine blk_drewN ?_ _ | refine blk_drew ?_ | refine blk_alloc ?_ _)); exact BK256.out) hb); have n3_ := Aside0.mk (below_step (by repeat (first | (with_reducible first | exact HB.out | apply below_alloc | apply pw_below_drewN | apply below_drew1 | refine below_set ?_ GE256.out) | exact HB.out)) hb); clear HO263; clear HO267; clear BK256; clear HB; have HO263 := n0_; have HO267 := n1_; have BK256 := n2_; have HB := n3_; clear n0_ n1_ n2_ n3_; (try clear hb); (try clear hb2); (try clear hk); (try clear hi)) | (go_at_call 21; (with_reducible refine (watchwordref9_LastsMay.calls k _ _ l0 t273 _ ?side1 ?side2 A27.out).mono ?_); (case side1 => repeat (first | exact (Kd.C_below HR0.out HB.out) | (with_reducible refine Kd.C_alloc ?_ _) | (with_reducible refine Kd.C_drewN ?_ _) | (with_reducible refine Kd.C_drew ?_))); (case side2 => exact HC0.out); rintro e w31 ⟨rfl, hb⟩; have n0_ := Aside0.mk (Kd.R_below (by (with_reducible repeat (first | apply Kd.R_alloc | apply Kd.R_drewN | apply Kd.R_drew)); exact HO263.out) hb); have n1_ := Aside0.mk (Kd.R_below (by (with_reducible repeat (first | apply Kd.R_alloc | apply Kd.R_drewN | apply Kd.R_drew)); exact HO267.out) hb); have n2_ := Aside0.mk (blk_below (g := gb256) (o := .cells #[.int .i64 a1_0, .int .i64 a1_1, .int .i64 a1_2, .int .i64 a1_3] 24 (0, 0)) (by (with_reducible repeat (first | refine blk_drewN ?_ _ | refine blk_drew ?_ | refine blk_alloc ?_ _)); exact BK256.out) hb); have n3_ := Aside0.mk (below_step (by repeat (first | (with_reducible first | exact HB.out | apply below_alloc | apply pw_below_drewN | apply below_drew1 | refine below_set ?_ GE256.out) | exact HB.out)) hb); clear HO263; clear HO267; clear BK256; clear HB; have HO263 := n0_; have HO267 := n1_; have BK256 := n2_; have HB := n3_; clear n0_ n1_ n2_ n3_; (try clear hb); (try clear hb2); (try clear hk); (try clear hi)))
      go_meet
      case rel => exact ⟨_, ((t272 != t273)), (by first | rfl | (simp; done) | (simp [*]; done)), H', ⟨by first | omega | exact Nat.le_refl _⟩, ⟨by (with_reducible repeat (first | apply Kd.R_alloc | apply Kd.R_drewN | apply Kd.R_drew)); exact Kd.R_mono HO263.out (fun _ hk => hk.1.2)⟩, ⟨by (with_reducible repeat (first | refine blk_drewN ?_ _ | refine blk_drew ?_ | refine blk_alloc ?_ _)); exact BK256.out⟩, ⟨by repeat (first | (with_reducible first | exact HB.out | apply below_alloc | apply pw_below_drewN | apply below_drew1 | refine below_set ?_ GE256.out) | exact HB.out)⟩⟩
     ·rw [if_neg c25] at H
      have c25b0 : (t271 == t268) = false := beq_eq_false_iff_ne.mpr c25
      have c25b1 : (t271 != t268) = true := bne_iff_ne.mpr c25
      exact absurd H (fun h_ => (by
       have hd_ : ∀ k_, watchwordlaw14_Lasts.j0 k_ l0 l3 l2 t261 true = some r → False := by
        intro k_ h_
        cases k_ with
        | zero => exact absurd h_ (by simp [watchwordlaw14_Lasts.j0])
        | succ k_ =>
         simp only [watchwordlaw14_Lasts.j0, if_true] at h_
         exact absurd (Option.some.inj h_) (by rw [HT.out]; decide)
       exact hd_ _ h_))
    ·replace c23 := Bool.eq_false_iff.mpr c23
     subst c23
     have H1 : (watchwordlaw14_Lasts.j0 k l0 l3 l2 t261 true) = some r := by rw [if_neg (show ¬ (false = true) by decide)] at H; exact H
     clear H
     have H := H1
     clear H1
     exact absurd H (fun h_ => (by
      have hd_ : ∀ k_, watchwordlaw14_Lasts.j0 k_ l0 l3 l2 t261 true = some r → False := by
       intro k_ h_
       cases k_ with
       | zero => exact absurd h_ (by simp [watchwordlaw14_Lasts.j0])
       | succ k_ =>
        simp only [watchwordlaw14_Lasts.j0, if_true] at h_
        exact absurd (Option.some.inj h_) (by rw [HT.out]; decide)
      exact hd_ _ h_))
   ·rw [if_neg c21] at H
    have c21b0 : (t269 == t260) = false := beq_eq_false_iff_ne.mpr c21
    have c21b1 : (t269 != t260) = true := bne_iff_ne.mpr c21
    exact absurd H (fun h_ => (by
     have hd_ : ∀ k_, watchwordlaw14_Lasts.j0 k_ l0 l3 l2 t261 true = some r → False := by
      intro k_ h_
      cases k_ with
      | zero => exact absurd h_ (by simp [watchwordlaw14_Lasts.j0])
      | succ k_ =>
       simp only [watchwordlaw14_Lasts.j0, if_true] at h_
       exact absurd (Option.some.inj h_) (by rw [HT.out]; decide)
     exact hd_ _ h_))
 case rest =>
  clear HC9
  try clear c1
  try clear p2
  try clear c14
  try clear c15
  try clear c16
  try clear c17
  try clear c19
  try clear c19b0
  try clear c19b1
  try clear c19b2
  try clear c21
  try clear c21b0
  try clear c21b1
  try clear c23
  try clear c25
  try clear c25b0
  try clear c25b1
  try clear hcz11_0
  try clear hcz11_1
  try clear hcz11_2
  try clear hcz11_3
  try clear hcz13_0
  try clear hcz13_1
  try clear hcz13_2
  try clear hcz13_3
  try clear hcz15_0
  try clear hcz15_1
  try clear hcz15_2
  try clear hcz15_3
  try clear hcz17_0
  try clear hcz17_1
  try clear hcz17_2
  try clear hcz17_3
  try clear hfz11_0
  try clear hfz11_1
  try clear hfz11_2
  try clear hfz11_3
  try clear hfz13_0
  try clear hfz13_1
  try clear hfz13_2
  try clear hfz13_3
  try clear hfz15_0
  try clear hfz15_1
  try clear hfz15_2
  try clear hfz15_3
  try clear hfz17_0
  try clear hfz17_1
  try clear hfz17_2
  try clear hfz17_3
  obtain ⟨kq, x67_8, rfl, HA, HJ8, HO_10, BK256, HB⟩ := hcut
  cases kq with
  | zero => exact absurd HA.out (by simp [watchwordlaw14_Lasts.j0])
  | succ kj8 =>
   have H := HA.out
   clear HA
   simp only [watchwordlaw14_Lasts.j0] at H
   by_cases c32 : x67_8 = true
   ·subst c32
    have H1 : (some false) = some r := by rw [if_pos rfl] at H; exact H
    clear H
    have H := H1
    clear H1
    exact absurd (Option.some.inj H) (by rw [HT.out]; decide)
   ·replace c32 := Bool.eq_false_iff.mpr c32
    subst c32
    have H1 : ((watchwordlaw0_SpoilLasts.f kj8 t261).bind fun t274 => ((watchwordlaw0_KeptLasts.f kj8 l2 l0 l3).bind fun t275 => (if t275 = true then ((watchwordlaw14_awake.f kj8).bind fun t276 => (some t276)) else (some false)))) = some r := by rw [if_neg (show ¬ (false = true) by decide)] at H; exact H
    clear H
    have H := H1
    clear H1
    replace H := Option.bind_eq_some_iff.mp H
    obtain ⟨t274, A330, H⟩ := H
    replace H : ((watchwordlaw0_KeptLasts.f kj8 l2 l0 l3).bind fun t275 => (if t275 = true then ((watchwordlaw14_awake.f kj8).bind fun t276 => (some t276)) else (some false))) = some r := H
    have A33 := Aside0.mk A330
    clear A330
    replace H := Option.bind_eq_some_iff.mp H
    obtain ⟨t275, A340, H⟩ := H
    replace H : (if t275 = true then ((watchwordlaw14_awake.f kj8).bind fun t276 => (some t276)) else (some false)) = some r := H
    have A34 := Aside0.mk A340
    clear A340
    by_cases c35 : t275 = true
    ·subst c35
     have H1 : ((watchwordlaw14_awake.f kj8).bind fun t276 => (some t276)) = some r := by rw [if_pos rfl] at H; exact H
     clear H
     have H := H1
     clear H1
     replace H := Option.bind_eq_some_iff.mp H
     obtain ⟨t276, A360, H⟩ := H
     replace H : (some t276) = some r := H
     have A36 := Aside0.mk A360
     clear A360
     obtain rfl := Option.some.inj H
     obtain ⟨Ao37, co37, eo37⟩ := Kd.R_slice HO_10.out
     subst eo37
     go_wp2_with (first | ((with_reducible refine gate_callee (f := 22) rfl ?_); refine goesL_ (some 69) rfl rfl Try.func22 (by kernel_rfl) rfl #[.slice Ao37 t261.length co37] rfl (by (try simp only [List.map_toArray, List.map_cons, List.map_nil]); first | done | rfl | (simp only [List.length_drop, List.length_take]; rfl)) ?_; (with_reducible refine (watchwordlaw0_SpoilLasts.calls kj8 (fun k_ => some k_ = (.slice Ao37 t261.length co37 : Value).ownBlock) (.slice Ao37 t261.length co37) t261 t274 w1 _ ?side1 ?side2 A33.out).mono ?_); (case side1 => repeat (first | (with_reducible first | exact HB.out | apply below_alloc | apply pw_below_drewN | apply below_drew1 | refine below_set ?_ GE256.out) | exact HB.out)); (case side2 => exact Kd.R_tight rfl HO_10.out); rintro e w38 ⟨rfl, hy0, hb, hkp⟩; refine ⟨_, rfl, ?_⟩; have n0_ := Aside0.mk (Kd.R_reok rfl hy0 (fun k_ e_ => HO_10.out.1 k_ e_)); have n1_ := Aside0.mk (blk_kept (by (with_reducible repeat (first | refine blk_drewN ?_ _ | refine blk_drew ?_ | refine blk_alloc ?_ _)); exact BK256.out) hkp (fun hs_ => (fun e_ => (Kd.R_away HO_10.out (fun _ hk => hk)) e_) hs_)); have n2_ := Aside0.mk (hb); clear HO_10; clear BK256; clear HB; have HO_10 := n0_; have BK256 := n1_; have HB := n2_; clear n0_ n1_ n2_; (try clear hb); (try clear hkp); (try clear hy0)) | ((with_reducible refine gate_callee (f := 23) rfl ?_); refine goesL_ (some 72) rfl rfl Try.func23 (by kernel_rfl) rfl #[.slice A2 l2.length c2, .slice A0 l0.length c0] rfl (by (try simp only [List.map_toArray, List.map_cons, List.map_nil]); first | done | rfl | (simp only [List.length_drop, List.length_take]; rfl)) ?_; (with_reducible refine (watchwordlaw0_KeptLasts.kept kj8 _ _ l2 _ _ l0 _ _ l3 true _ ?side1 ?side2 ?side3 ?side4 ?side5 ?side6 A34.out rfl rfl HN_.out HS_.out).mono ?_); (case side1 => repeat (first | exact (Kd.C_below HR2.out HB.out) | (with_reducible refine Kd.C_alloc ?_ _) | (with_reducible refine Kd.C_drewN ?_ _) | (with_reducible refine Kd.C_drew ?_))); (case side2 => exact HC2.out); (case side3 => repeat (first | exact (Kd.C_below HR0.out HB.out) | (with_reducible refine Kd.C_alloc ?_ _) | (with_reducible refine Kd.C_drewN ?_ _) | (with_reducible refine Kd.C_drew ?_))); (case side4 => exact HC0.out); (case side5 => repeat (first | exact (Kd.C_below HR3.out HB.out) | (with_reducible refine Kd.C_alloc ?_ _) | (with_reducible refine Kd.C_drewN ?_ _) | (with_reducible refine Kd.C_drew ?_))); (case side6 => exact HC3.out); rintro e w' ⟨rfl, ⟨nd, rfl⟩⟩; refine ⟨_, rfl, ?_⟩) | (go_at_call 24; (with_reducible refine (watchwordlaw14_awake.calls kj8  t276 _ A36.out (by first | rfl | exact HT.out)).mono ?_); rintro e w39 ⟨rfl, hb⟩; have n0_ := Aside0.mk (Kd.R_below (by (with_reducible repeat (first | apply Kd.R_alloc | apply Kd.R_drewN | apply Kd.R_drew)); exact HO_10.out) hb); have n1_ := Aside0.mk (blk_below (g := gb256) (o := .cells #[.int .i64 a1_0, .int .i64 a1_1, .int .i64 a1_2, .int .i64 a1_3] 24 (0, 0)) (by (with_reducible repeat (first | refine blk_drewN ?_ _ | refine blk_drew ?_ | refine blk_alloc ?_ _)); exact BK256.out) hb); have n2_ := Aside0.mk (below_step (by repeat (first | (with_reducible first | exact HB.out | apply below_alloc | apply pw_below_drewN | apply below_drew1 | refine below_set ?_ GE256.out) | exact HB.out)) hb); clear HO_10; clear BK256; clear HB; have HO_10 := n0_; have BK256 := n1_; have HB := n2_; clear n0_ n1_ n2_; (try clear hb); (try clear hb2); (try clear hk); (try clear hi)))
     go_ret
     exact ⟨by first | rfl | (simp [errW_none, errW_some] <;> rfl) | (simp [*, errW_none, errW_some] <;> rfl), below_step HB0.out (by repeat (first | (with_reducible first | exact HB.out | apply below_alloc | apply pw_below_drewN | apply below_drew1 | refine below_set ?_ GE256.out) | exact HB.out))⟩
    ·replace c35 := Bool.eq_false_iff.mpr c35
     subst c35
     have H1 : (some false) = some r := by rw [if_neg (show ¬ (false = true) by decide)] at H; exact H
     clear H
     have H := H1
     clear H1
     exact absurd (Option.some.inj H) (by rw [HT.out]; decide)

/-- What the law comes to. -/
def watchwordlaw14_Lasts.f (k : Nat) (l0 : List (S24)) (a1_0 : Int) (a1_1 : Int) (a1_2 : Int) (a1_3 : Int) : Option Bool := if l0.length ≤ 4398046511000 then watchwordlaw14_Lasts.g k l0 a1_0 a1_1 a1_2 a1_3 l0 (l0 ++ [(⟨77777, 0, 0, 0⟩ : S24), (⟨77777, 0, 0, 0⟩ : S24)]) else none
theorem watchwordlaw14_Lasts.copy {l0 : List S24} (hs : l0.length ≤ 4398046511000) : watchwordlaw0_CopyLasts.f l0 = some l0 := by
  unfold watchwordlaw0_CopyLasts.f
  simp only [Option.bind_some, List.length_nil, List.nil_append]
  rw [if_pos (by omega)]
theorem watchwordlaw14_Lasts.lend {l0 : List S24} (hs : l0.length ≤ 4398046511000) : watchwordlaw0_LendLasts.f l0 = some l0 := by
  unfold watchwordlaw0_LendLasts.f
  simp only [watchwordlaw14_Lasts.copy hs, Option.bind_some]
  rw [if_pos (by simp only [List.length_cons, List.length_nil]; omega), if_pos (by omega), if_pos (by rw [List.length_append]; omega), Int.toNat_natCast, List.take_left]
theorem watchwordlaw14_Lasts.calls (k : Nat) (A0 : Option Addr) (c0 : Nat) (l0 : List (S24)) (a1_0 : Int) (a1_1 : Int) (a1_2 : Int) (a1_3 : Int) (r : Bool) (w : World) (hr0 : Kd.C k24 w A0 l0.length l0) (hc0 : l0.length ≤ c0) (h : watchwordlaw14_Lasts.f k l0 a1_0 a1_1 a1_2 a1_3 = some r) (hT : r = true) :
    Calls Try.prog 3 #[.slice A0 l0.length c0, .agg #[.int .i64 a1_0, .int .i64 a1_1, .int .i64 a1_2, .int .i64 a1_3]] w fun e w' => e = .returned (.bool r) ∧ Below w.heap.size w w' := by
  unfold watchwordlaw14_Lasts.f at h
  by_cases hs : l0.length ≤ 4398046511000
  · rw [if_pos hs] at h
    exact watchwordlaw14_Lasts.walk k A0 c0 l0 a1_0 a1_1 a1_2 a1_3 l0 (l0 ++ [(⟨77777, 0, 0, 0⟩ : S24), (⟨77777, 0, 0, 0⟩ : S24)]) r w hr0 hc0 (watchwordlaw14_Lasts.lend hs) (fun t_ h_ => by rw [watchwordlaw14_Lasts.copy hs] at h_; rw [Option.some.inj h_]) (by rw [List.length_append]; rfl) (by omega) (by rw [List.length_append]; omega) h hT
  · rw [if_neg hs] at h; cases h

end Go.Proofs.Ytabjambabnbmnaa.Q14
namespace Go.Proofs.Ytabjambabnbmnaa.Base
open Go.RowKit Go.Proofs.YtabjambabnbmnaaW.PrintWords Go.Proofs.YtabjambabnbmnaaW.PrintLast Go.Proofs.YtabjambabnbmnaaW.PrintMore
set_option linter.unusedVariables false

/-! ### Texts as_ lists of numbers -/
def B (s : ByteArray) : List Int := s.data.toList.map fun b => (b.toNat : Int)
def Byt (l : List Int) : Prop := ∀ x ∈ l, 0 ≤ x ∧ x < 256
theorem B_len (s : ByteArray) : (B s).length = s.size := by simp [B]
theorem B_byt (s : ByteArray) : Byt (B s) := by
  intro x hx
  simp only [B, List.mem_map] at hx
  obtain ⟨b, _, rfl⟩ := hx
  have := b.toNat_lt
  omega
theorem map_toNat_inj : ∀ {l l' : List UInt8}, l.map (fun b => (b.toNat : Int)) = l'.map (fun b => (b.toNat : Int)) → l = l'
  | [], [], _ => rfl
  | [], _ :: _, h => by simp at h
  | _ :: _, [], h => by simp at h
  | a :: l, b :: l', h => by
    simp only [List.map_cons, List.cons.injEq] at h
    obtain ⟨h1, h2⟩ := h
    have : a = b := UInt8.toNat_inj.mp (by exact_mod_cast h1)
    rw [this, map_toNat_inj h2]
theorem B_inj {s t : ByteArray} (h : B s = B t) : s = t := by
  have := map_toNat_inj h
  cases s; cases t
  simp only [ByteArray.mk.injEq]
  exact Array.toList_inj.mp this
theorem toList_iff (s t : ByteArray) : s.toList = t.toList ↔ B s = B t := by
  rw [Lib.toList_data, Lib.toList_data]
  constructor
  · intro h; simp only [B, h]
  · exact map_toNat_inj
theorem toList_iff_lit (s : ByteArray) (l : List UInt8) : s.toList = l ↔ B s = l.map (fun b => (b.toNat : Int)) := by
  rw [Lib.toList_data]
  constructor
  · intro h; simp only [B, h]
  · exact map_toNat_inj
theorem B_append (s t : ByteArray) : B (s ++ t) = B s ++ B t := by simp [B, ByteArray.data_append]
theorem B_mk (a : Array UInt8) : B ⟨a⟩ = a.toList.map (fun b => (b.toNat : Int)) := rfl
theorem B_strOf {l : List Int} (h : Byt l) : B (strOfNums l) = l := by
  unfold B strOfNums
  simp only [List.map_map]
  conv => rhs; rw [← List.map_id l]
  apply List.map_congr_left
  intro x hx
  obtain ⟨h0, h1⟩ := h x hx
  simp only [Function.comp, id, UInt8.toNat_ofNat']
  omega
theorem strOf_B (s : ByteArray) : strOfNums (B s) = s := B_inj (B_strOf (B_byt s))
theorem strOf_size (l : List Int) : (strOfNums l).size = l.length := by show (Array.size _) = _; simp
theorem strOf_append (l l' : List Int) : strOfNums l ++ strOfNums l' = strOfNums (l ++ l') := by
  have : (strOfNums l ++ strOfNums l').data = (strOfNums (l ++ l')).data := by simp [strOfNums, ByteArray.data_append]
  exact ByteArray.ext this
theorem B_extract (s : ByteArray) (a b : Nat) : B (s.extract a b) = ((B s).drop a).take (b - a) := by
  unfold B
  rw [Lib.extract_data, List.map_take, List.map_drop]
theorem bt_B (s : ByteArray) (i : Int) : bt s i = (B s).getD i.toNat 0 := by
  unfold bt B
  split
  · rename_i h
    rw [List.getD_eq_getElem?_getD, List.getElem?_map]
    have : i.toNat < s.data.toList.length := by simpa using h
    rw [List.getElem?_eq_getElem this]
    rfl
  · rename_i h
    rw [List.getD_eq_getElem?_getD, List.getElem?_map]
    have : s.data.toList.length ≤ i.toNat := by simp only [Array.length_toList]; have : s.size = s.data.size := rfl; omega
    rw [List.getElem?_eq_none this]
    rfl
theorem byt_mod (x : Int) : 0 ≤ x % 256 ∧ x % 256 < 256 := by omega
theorem byt_nil : Byt [] := fun _ h => by cases h
theorem byt_cons {x : Int} {l : List Int} (h : 0 ≤ x ∧ x < 256) (hl : Byt l) : Byt (x :: l) := by
  intro y hy
  rcases List.mem_cons.mp hy with rfl | hy
  · exact h
  · exact hl y hy
theorem byt_append {l l' : List Int} (h : Byt l) (h' : Byt l') : Byt (l ++ l') := by
  intro y hy
  rcases List.mem_append.mp hy with hy | hy
  · exact h y hy
  · exact h' y hy
theorem byt_take {l : List Int} (n : Nat) (h : Byt l) : Byt (l.take n) := fun y hy => h y (List.mem_of_mem_take hy)
theorem byt_drop {l : List Int} (n : Nat) (h : Byt l) : Byt (l.drop n) := fun y hy => h y (List.mem_of_mem_drop hy)

/-! ### Numbers in bytes -/
def e1 (x : Int) : List Int := [x % 256]
def e2 (x : Int) : List Int := [x / 256 % 256, x % 256]
def e4 (x : Int) : List Int := [x / 16777216 % 256, x / 65536 % 256, x / 256 % 256, x % 256]
theorem e1_byt (x : Int) : Byt (e1 x) := byt_cons (byt_mod _) byt_nil
theorem e2_byt (x : Int) : Byt (e2 x) := byt_cons (byt_mod _) (byt_cons (byt_mod _) byt_nil)
theorem e4_byt (x : Int) : Byt (e4 x) := byt_cons (byt_mod _) (byt_cons (byt_mod _) (byt_cons (byt_mod _) (byt_cons (byt_mod _) byt_nil)))
theorem e1_len (x : Int) : (e1 x).length = 1 := rfl
theorem e2_len (x : Int) : (e2 x).length = 2 := rfl
theorem e4_len (x : Int) : (e4 x).length = 4 := rfl
def num (l : List Int) : Int := l.foldl (fun a b => a * 256 + b) 0
theorem num_two (a b : Int) : num [a, b] = a * 256 + b := by simp [num]
theorem num_four (a b c d : Int) : num [a, b, c, d] = a * 16777216 + b * 65536 + c * 256 + d := by simp [num]; omega
theorem num_e2 {x : Int} (h0 : 0 ≤ x) (h1 : x < 65536) : num (e2 x) = x := by unfold e2; rw [num_two]; omega
theorem num_e4 {x : Int} (h0 : 0 ≤ x) (h1 : x < 4294967296) : num (e4 x) = x := by unfold e4; rw [num_four]; omega
theorem e2_num {a b : Int} (ha : 0 ≤ a ∧ a < 256) (hb : 0 ≤ b ∧ b < 256) : e2 (num [a, b]) = [a, b] := by
  rw [num_two]; unfold e2
  simp only [List.cons.injEq, and_true]
  omega
theorem e4_num {a b c d : Int} (ha : 0 ≤ a ∧ a < 256) (hb : 0 ≤ b ∧ b < 256) (hc : 0 ≤ c ∧ c < 256) (hd : 0 ≤ d ∧ d < 256) : e4 (num [a, b, c, d]) = [a, b, c, d] := by
  rw [num_four]; unfold e4
  simp only [List.cons.injEq, and_true]
  omega
theorem num_two_range {a b : Int} (ha : 0 ≤ a ∧ a < 256) (hb : 0 ≤ b ∧ b < 256) : 0 ≤ num [a, b] ∧ num [a, b] < 65536 := by rw [num_two]; omega
theorem num_four_range {a b c d : Int} (ha : 0 ≤ a ∧ a < 256) (hb : 0 ≤ b ∧ b < 256) (hc : 0 ≤ c ∧ c < 256) (hd : 0 ≤ d ∧ d < 256) : 0 ≤ num [a, b, c, d] ∧ num [a, b, c, d] < 4294967296 := by rw [num_four]; omega
theorem e2_inj {x y : Int} (hx : 0 ≤ x ∧ x < 65536) (hy : 0 ≤ y ∧ y < 65536) (h : e2 x = e2 y) : x = y := by
  have := congrArg num h
  rwa [num_e2 hx.1 hx.2, num_e2 hy.1 hy.2] at this
theorem e4_inj {x y : Int} (hx : 0 ≤ x ∧ x < 4294967296) (hy : 0 ≤ y ∧ y < 4294967296) (h : e4 x = e4 y) : x = y := by
  have := congrArg num h
  rwa [num_e4 hx.1 hx.2, num_e4 hy.1 hy.2] at this

/-! ### Bits -/
theorem wrap_id {x : Int} (h0 : -9223372036854775808 ≤ x) (h1 : x ≤ 9223372036854775807) : wrap64 x = x := by unfold wrap64; omega
theorem wraps_i64 (n : Int) (h₀ : 0 ≤ n) (h₁ : n < 2 ^ 63) : IntKind.i64.wrap n = n := by rw [IntKind.wrap_i64]; omega
theorem or_byte {x y : Int} (hx₀ : 0 ≤ x) (hx₁ : x < 9223372036854775808) (hx : x % 256 = 0) (h₀ : 0 ≤ y) (h₁ : y < 256) : Go.bits .or .i64 x y = x + y :=
  bits_join .i64 63 (by decide) wraps_i64 8 x y hx₀ hx hx₁ h₀ h₁ (by omega)
theorem and_mask (i : Nat) (hi : i ≤ 62) (n : Int) : Go.bits .and .i64 n ((2 ^ i - 1 : Nat) : Int) = n % ((2 ^ i : Nat) : Int) := by
  have hp : 2 ^ i ≤ 2 ^ 62 := Nat.pow_le_pow_right (by decide) hi
  have hpos : 0 < 2 ^ i := Nat.two_pow_pos i
  have hm : (BitVec.ofInt 64 ((2 ^ i - 1 : Nat) : Int)).toNat = 2 ^ i - 1 := by
    rw [BitVec.ofInt_natCast, BitVec.toNat_ofNat]
    apply Nat.mod_eq_of_lt
    omega
  have key : (BitVec.ofInt 64 n &&& BitVec.ofInt 64 ((2 ^ i - 1 : Nat) : Int)).toNat = (n % ((2 ^ 64 : Nat) : Int)).toNat % 2 ^ i := by
    rw [BitVec.toNat_and, BitVec.toNat_ofInt, hm, Nat.and_two_pow_sub_one_eq_mod]
  show IntKind.i64.wrap ((BitVec.ofInt 64 n &&& BitVec.ofInt 64 ((2 ^ i - 1 : Nat) : Int)).toNat : Nat) = _
  rw [key]
  have hd : ((2 ^ i : Nat) : Int) ∣ ((2 ^ 64 : Nat) : Int) := by
    have : (2 ^ i) ∣ (2 ^ 64) := Nat.pow_dvd_pow 2 (by omega)
    exact_mod_cast this
  have h2 : (((n % ((2 ^ 64 : Nat) : Int)).toNat % 2 ^ i : Nat) : Int) = n % ((2 ^ i : Nat) : Int) := by
    rw [Int.natCast_emod, Int.toNat_of_nonneg (by omega), Int.emod_emod_of_dvd _ hd]
  rw [h2]
  have hlt : n % ((2 ^ i : Nat) : Int) < ((2 ^ i : Nat) : Int) := Int.emod_lt_of_pos _ (by exact_mod_cast hpos)
  have h0 : 0 ≤ n % ((2 ^ i : Nat) : Int) := Int.emod_nonneg _ (by have : ((2 ^ i : Nat) : Int) ≠ 0 := by exact_mod_cast Nat.pos_iff_ne_zero.mp hpos
                                                                   exact this)
  have hle : ((2 ^ i : Nat) : Int) ≤ ((2 ^ 62 : Nat) : Int) := by exact_mod_cast hp
  exact wraps_i64 _ h0 (by have : ((2 ^ 62 : Nat) : Int) < 2 ^ 63 := by decide
                           omega)
theorem and1 (n : Int) : Go.bits .and .i64 n 1 = n % 2 := and_mask 1 (by decide) n
theorem and3 (n : Int) : Go.bits .and .i64 n 3 = n % 4 := and_mask 2 (by decide) n
theorem and15 (n : Int) : Go.bits .and .i64 n 15 = n % 16 := and_mask 4 (by decide) n
theorem and127 (n : Int) : Go.bits .and .i64 n 127 = n % 128 := and_mask 7 (by decide) n
theorem and255 (n : Int) : Go.bits .and .i64 n 255 = n % 256 := and_mask 8 (by decide) n
theorem and1023 (n : Int) : Go.bits .and .i64 n 1023 = n % 1024 := and_mask 10 (by decide) n

theorem empty_list : (⟨#[]⟩ : ByteArray).toList = ([] : List UInt8) := by rw [Lib.toList_data]
def lim : Nat → Int
  | 0 => 1
  | i + 1 => lim i * 256
theorem lim_succ (i : Nat) : lim (i + 1) = lim i * 256 := rfl
theorem lim_le6 {i : Nat} (h : i ≤ 6) : lim i ≤ 281474976710656 := by
  have : i = 0 ∨ i = 1 ∨ i = 2 ∨ i = 3 ∨ i = 4 ∨ i = 5 ∨ i = 6 := by omega
  rcases this with rfl | rfl | rfl | rfl | rfl | rfl | rfl <;> decide
theorem byt_getD {l : List Int} (h : Byt l) (i : Nat) : 0 ≤ l.getD i 0 ∧ l.getD i 0 < 256 := by
  rw [List.getD_eq_getElem?_getD]
  by_cases hi : i < l.length
  · rw [List.getElem?_eq_getElem hi]; exact h _ (List.getElem_mem hi)
  · rw [List.getElem?_eq_none (by omega)]; simp

end Go.Proofs.Ytabjambabnbmnaa.Base
namespace Go.Proofs.Ytabjambabnbmnaa.L14
open Go.RowKit Go.Proofs.YtabjambabnbmnaaW.PrintWords Go.Proofs.YtabjambabnbmnaaW.PrintLast Go.Proofs.YtabjambabnbmnaaW.PrintMore Go.Proofs.Ytabjambabnbmnaa.Base Go.Proofs.Ytabjambabnbmnaa.Q14
set_option linter.unusedVariables false
set_option linter.unusedSimpArgs false
/-! ### Rising rows: lists whose elements are sound and whose keys rise; one put in its place -/
section
variable {α : Type}
def rises (ok : α → Bool) (key : α → Int) : Int → List α → Bool
  | _, [] => true
  | p, x :: l => if ok x = true ∧ p < key x then rises ok key (key x) l else false
def ins (key : α → Int) (x : α) : List α → List α
  | [] => [x]
  | y :: l => if key y < key x then y :: ins key x l else if key y = key x then x :: l else x :: y :: l
def look (key : α → Int) (q : Int) : List α → Option α
  | [] => none
  | y :: l => if key y = q then some y else look key q l
variable {ok : α → Bool} {key : α → Int}
theorem rises_cons {p : Int} {x : α} {l : List α} : rises ok key p (x :: l) = true ↔ (ok x = true ∧ p < key x) ∧ rises ok key (key x) l = true := by
  show (if ok x = true ∧ p < key x then rises ok key (key x) l else false) = true ↔ _
  by_cases h : ok x = true ∧ p < key x
  · rw [if_pos h]; exact ⟨fun h' => ⟨h, h'⟩, fun h' => h'.2⟩
  · rw [if_neg h]; constructor
    · intro h'; cases h'
    · intro h'; exact absurd h'.1 h
theorem rises_lower : ∀ {l : List α} {p q : Int}, rises ok key p l = true → q ≤ p → rises ok key q l = true
  | [], _, _, _, _ => rfl
  | x :: l, p, q, h, hq => by
    obtain ⟨⟨h1, h2⟩, h3⟩ := rises_cons.mp h
    exact rises_cons.mpr ⟨⟨h1, by omega⟩, h3⟩
theorem rises_mem : ∀ {l : List α} {p : Int}, rises ok key p l = true → ∀ x ∈ l, ok x = true ∧ p < key x
  | [], _, _, _, hx => by cases hx
  | y :: l, p, h, x, hx => by
    obtain ⟨⟨h1, h2⟩, h3⟩ := rises_cons.mp h
    rcases List.mem_cons.mp hx with rfl | hx
    · exact ⟨h1, h2⟩
    · have := rises_mem h3 x hx
      exact ⟨this.1, by omega⟩
theorem rises_length : ∀ {l : List α} {p : Int} (b : Int), rises ok key p l = true → (∀ x, ok x = true → key x ≤ b) → p ≤ b → (l.length : Int) ≤ b - p
  | [], p, b, _, _, hp => by simp; omega
  | x :: l, p, b, h, hb, hp => by
    obtain ⟨⟨h1, h2⟩, h3⟩ := rises_cons.mp h
    have := rises_length b h3 hb (hb x h1)
    simp only [List.length_cons]; omega
theorem rises_get : ∀ {l : List α} {p : Int}, rises ok key p l = true → ∀ {i j : Nat} (hi : i < j) (hj : j < l.length), key (l[i]'(by omega)) < key l[j]
  | [], _, _, _, _, _, hj => by simp at hj
  | x :: l, p, h, i, j, hi, hj => by
    obtain ⟨⟨h1, h2⟩, h3⟩ := rises_cons.mp h
    obtain ⟨j, rfl⟩ : ∃ m, j = m + 1 := ⟨j - 1, by omega⟩
    cases i with
    | zero =>
      simp only [List.getElem_cons_zero, List.getElem_cons_succ]
      exact (rises_mem h3 _ (List.getElem_mem _)).2
    | succ i =>
      simp only [List.getElem_cons_succ]
      exact rises_get h3 (by omega) (by simpa using hj)
theorem rises_ok {l : List α} {p : Int} (h : rises ok key p l = true) {i : Nat} (hi : i < l.length) : ok l[i] = true := (rises_mem h _ (List.getElem_mem hi)).1
theorem ins_rises : ∀ {l : List α} {p : Int} {x : α}, rises ok key p l = true → ok x = true → p < key x → rises ok key p (ins key x l) = true
  | [], p, x, _, h1, h2 => rises_cons.mpr ⟨⟨h1, h2⟩, rfl⟩
  | y :: l, p, x, h, h1, h2 => by
    obtain ⟨⟨a1, a2⟩, a3⟩ := rises_cons.mp h
    show rises ok key p (if key y < key x then y :: ins key x l else if key y = key x then x :: l else x :: y :: l) = true
    by_cases c1 : key y < key x
    · rw [if_pos c1]; exact rises_cons.mpr ⟨⟨a1, a2⟩, ins_rises a3 h1 c1⟩
    · rw [if_neg c1]
      by_cases c2 : key y = key x
      · rw [if_pos c2]; exact rises_cons.mpr ⟨⟨h1, h2⟩, rises_lower a3 (by omega)⟩
      · rw [if_neg c2]; exact rises_cons.mpr ⟨⟨h1, h2⟩, rises_cons.mpr ⟨⟨a1, by omega⟩, a3⟩⟩
theorem ins_length : ∀ (l : List α) (x : α), (ins key x l).length ≤ l.length + 1 ∧ 1 ≤ (ins key x l).length
  | [], x => by simp [ins]
  | y :: l, x => by
    have := ins_length l x
    unfold ins
    split
    · simp only [List.length_cons]; omega
    · split <;> simp only [List.length_cons] <;> omega
theorem look_lt : ∀ {l : List α} {p q : Int}, rises ok key p l = true → q ≤ p → look key q l = none
  | [], _, _, _, _ => rfl
  | x :: l, p, q, h, hq => by
    obtain ⟨⟨h1, h2⟩, h3⟩ := rises_cons.mp h
    unfold look
    rw [if_neg (by omega)]
    exact look_lt h3 (by omega)
theorem look_ins_self : ∀ {l : List α} {p : Int} {x : α}, rises ok key p l = true → look key (key x) (ins key x l) = some x
  | [], _, x, _ => by simp [ins, look]
  | y :: l, p, x, h => by
    obtain ⟨⟨h1, h2⟩, h3⟩ := rises_cons.mp h
    unfold ins
    by_cases c1 : key y < key x
    · rw [if_pos c1]; unfold look; rw [if_neg (by omega)]; exact look_ins_self h3
    · rw [if_neg c1]
      by_cases c2 : key y = key x
      · rw [if_pos c2]; unfold look; rw [if_pos rfl]
      · rw [if_neg c2]; unfold look; rw [if_pos rfl]
theorem look_ins_other : ∀ {l : List α} {x : α} {q : Int}, q ≠ key x → look key q (ins key x l) = look key q l
  | [], x, q, hq => by show (if key x = q then some x else look key q []) = _; rw [if_neg (by omega)]
  | y :: l, x, q, hq => by
    unfold ins
    by_cases c1 : key y < key x
    · rw [if_pos c1]; unfold look; rw [look_ins_other hq]
    · rw [if_neg c1]
      by_cases c2 : key y = key x
      · rw [if_pos c2]; unfold look; rw [if_neg (by omega), if_neg (by omega)]
      · rw [if_neg c2]; conv => lhs; unfold look
        rw [if_neg (by omega)]
theorem look_mem : ∀ {l : List α} {q : Int} {x : α}, look key q l = some x → x ∈ l ∧ key x = q
  | [], _, _, h => by cases h
  | y :: l, q, x, h => by
    unfold look at h
    by_cases c : key y = q
    · rw [if_pos c] at h; obtain rfl := Option.some.inj h; exact ⟨List.mem_cons_self, c⟩
    · rw [if_neg c] at h; have := look_mem h; exact ⟨List.mem_cons_of_mem _ this.1, this.2⟩
theorem look_none : ∀ {l : List α} {q : Int}, look key q l = none → ∀ x ∈ l, key x ≠ q
  | [], _, _, x, hx => by cases hx
  | y :: l, q, h, x, hx => by
    unfold look at h
    by_cases c : key y = q
    · rw [if_pos c] at h; cases h
    · rw [if_neg c] at h
      rcases List.mem_cons.mp hx with rfl | hx
      · exact c
      · exact look_none h x hx
/-- Where a key is, or would be. -/
structure Place (key : α → Int) (l : List α) (q : Int) (p : Nat) : Prop where
  le : p ≤ l.length
  lo : ∀ j (h : j < l.length), j < p → key l[j] < q
  hi : ∀ j (h : j < l.length), p ≤ j → q ≤ key l[j]
theorem place_of : ∀ {l : List α} {p : Int}, rises ok key p l = true → ∀ q, ∃ m, Place key l q m
  | [], _, _, q => ⟨0, by simp, fun _ h => by simp at h, fun _ h => by simp at h⟩
  | x :: l, p, h, q => by
    obtain ⟨⟨h1, h2⟩, h3⟩ := rises_cons.mp h
    by_cases c : key x < q
    · obtain ⟨m, hm⟩ := place_of h3 q
      refine ⟨m + 1, by simpa using hm.le, fun j hj h => ?_, fun j hj h => ?_⟩
      · cases j with
        | zero => exact c
        | succ j => exact hm.lo j (by simpa using hj) (by omega)
      · obtain ⟨j, rfl⟩ : ∃ m, j = m + 1 := ⟨j - 1, by omega⟩
        exact hm.hi j (by simpa using hj) (by omega)
    · refine ⟨0, Nat.zero_le _, fun j _ h => by omega, fun j hj _ => ?_⟩
      cases j with
      | zero => show q ≤ key x; omega
      | succ j =>
        have hj' : j < l.length := by simpa using hj
        have := (rises_mem h3 _ (List.getElem_mem hj')).2
        simp only [List.getElem_cons_succ]; omega
/-- Put in at its place. -/
theorem ins_place : ∀ {l : List α} {b : Int} {x : α} {m : Nat}, rises ok key b l = true → Place key l (key x) m →
    (∀ h : m < l.length, key l[m] = key x → ins key x l = l.set m x) ∧ ((∀ h : m < l.length, key l[m] ≠ key x) → ins key x l = l.take m ++ [x] ++ l.drop m)
  | [], _, x, m, _, P => by
    have := P.le
    obtain rfl : m = 0 := by simpa using this
    exact ⟨fun h => by simp at h, fun _ => rfl⟩
  | y :: l, b, x, m, h, P => by
    obtain ⟨⟨h1, h2⟩, h3⟩ := rises_cons.mp h
    cases m with
    | zero =>
      have c1 := P.hi 0 (by simp) (Nat.le_refl _)
      simp only [List.getElem_cons_zero] at c1
      refine ⟨fun _ e => ?_, fun e => ?_⟩
      · simp only [List.getElem_cons_zero] at e
        unfold ins; rw [if_neg (by omega), if_pos e]; rfl
      · have e := e (by simp)
        simp only [List.getElem_cons_zero] at e
        unfold ins; rw [if_neg (by omega), if_neg e]; rfl
    | succ m =>
      have c1 := P.lo 0 (by simp) (by omega)
      simp only [List.getElem_cons_zero] at c1
      have P' : Place key l (key x) m := ⟨by have := P.le; simpa using this, fun j hj hm => P.lo (j + 1) (by simpa using hj) (by omega), fun j hj hm => P.hi (j + 1) (by simpa using hj) (by omega)⟩
      have ih := ins_place h3 P'
      refine ⟨fun hl e => ?_, fun e => ?_⟩
      · simp only [List.getElem_cons_succ] at e
        unfold ins; rw [if_pos c1, ih.1 (by simpa using hl) e]; rfl
      · unfold ins; rw [if_pos c1, ih.2 (fun hl => by have := e (by simpa using hl); simpa using this)]; rfl
theorem look_place : ∀ {l : List α} {b q : Int} {m : Nat}, rises ok key b l = true → Place key l q m →
    (∀ h : m < l.length, key l[m] = q → look key q l = some l[m]) ∧ ((∀ h : m < l.length, key l[m] ≠ q) → look key q l = none)
  | [], _, q, m, _, P => ⟨fun h => by simp at h, fun _ => rfl⟩
  | y :: l, b, q, m, h, P => by
    obtain ⟨⟨h1, h2⟩, h3⟩ := rises_cons.mp h
    cases m with
    | zero =>
      have c1 := P.hi 0 (by simp) (Nat.le_refl _)
      simp only [List.getElem_cons_zero] at c1
      refine ⟨fun _ e => ?_, fun e => ?_⟩
      · simp only [List.getElem_cons_zero] at e
        unfold look; rw [if_pos e]; rfl
      · have e := e (by simp)
        simp only [List.getElem_cons_zero] at e
        unfold look; rw [if_neg e]
        exact look_lt h3 (by omega)
    | succ m =>
      have c1 := P.lo 0 (by simp) (by omega)
      simp only [List.getElem_cons_zero] at c1
      have P' : Place key l q m := ⟨by have := P.le; simpa using this, fun j hj hm => P.lo (j + 1) (by simpa using hj) (by omega), fun j hj hm => P.hi (j + 1) (by simpa using hj) (by omega)⟩
      have ih := look_place h3 P'
      refine ⟨fun hl e => ?_, fun e => ?_⟩
      · simp only [List.getElem_cons_succ] at e
        unfold look; rw [if_neg (by omega), ih.1 (by simpa using hl) e]; rfl
      · unfold look; rw [if_neg (by omega)]; exact ih.2 (fun hl => by have := e (by simpa using hl); simpa using this)
end
/-! ### last: one, row, May, Newer, With (S24: the struct Last) -/
instance : DecidableEq S24 := fun a b => decidable_of_iff (a.f0 = b.f0 ∧ a.f1 = b.f1 ∧ a.f2 = b.f2 ∧ a.f3 = b.f3) (by cases a; cases b; simp)
def LastOk (x : S24) : Prop := (1 ≤ x.f0 ∧ x.f0 ≤ 4) ∧ (x.f1 = 1 ∨ x.f1 = 4 ∨ x.f1 = 5) ∧ (1 ≤ x.f2 ∧ x.f2 ≤ 4294967295) ∧ 1 ≤ x.f3 ∧ x.f3 ≤ 4294967295
instance (x : S24) : Decidable (LastOk x) := by unfold LastOk; infer_instance
def lok (x : S24) : Bool := decide (LastOk x)
def lkey (x : S24) : Int := 8 * x.f0 + x.f1
theorem lok_iff {x : S24} : lok x = true ↔ LastOk x := by unfold lok; exact decide_eq_true_iff
theorem lkey_range {x : S24} (h : lok x = true) : 0 < lkey x ∧ lkey x ≤ 37 := by
  have := lok_iff.mp h
  unfold LastOk at this; unfold lkey; omega
theorem router_f (x : Int) : lsa_Router.f x = some (decide (1 ≤ x ∧ x ≤ 4)) := by
  unfold lsa_Router.f
  by_cases h1 : x ≥ 1
  · rw [if_pos h1]; simp only [h1, true_and]
  · rw [if_neg h1]; have : ¬ (1 ≤ x ∧ x ≤ 4) := by omega
    simp [this]
theorem type_f (x : Int) : head_Type.f x = some (decide (x = 1 ∨ x = 4 ∨ x = 5)) := by
  unfold head_Type.f
  by_cases h1 : x = 1
  · simp [h1]
  · by_cases h4 : x = 4
    · simp [h4]
    · simp only [if_neg h1, if_neg h4, h1, h4, false_or]; rfl
theorem boot_f (x : Int) : trailer_Boot.f x = some (decide (1 ≤ x ∧ x ≤ 4294967295)) := by
  unfold trailer_Boot.f
  by_cases h1 : x ≥ 1
  · rw [if_pos h1]; simp only [h1, true_and]
  · rw [if_neg h1]; have : ¬ (1 ≤ x ∧ x ≤ 4294967295) := by omega
    simp [this]
theorem count_f (x : Int) : trailer_Count.f x = some (decide (1 ≤ x ∧ x ≤ 4294967295)) := by
  unfold trailer_Count.f
  by_cases h1 : x ≥ 1
  · rw [if_pos h1]; simp only [h1, true_and]
  · rw [if_neg h1]; have : ¬ (1 ≤ x ∧ x ≤ 4294967295) := by omega
    simp [this]
theorem last_one_f (a b c d : Int) : last_one.f a b c d = some (lok ⟨a, b, c, d⟩) := by
  simp only [last_one.f, router_f, type_f, boot_f, count_f, Option.bind_some, decide_eq_true_eq]
  unfold lok LastOk
  by_cases h1 : 1 ≤ a ∧ a ≤ 4
  · by_cases h2 : b = 1 ∨ b = 4 ∨ b = 5
    · by_cases h3 : 1 ≤ c ∧ c ≤ 4294967295
      · simp [h1, h2, h3]
      · simp [h1, h2, h3]
    · simp [h1, h2]
  · simp [h1]
theorem or2_f {k : Nat} (hk : 3 ≤ k) (x y : Int) : cmp_Or_int.f k [x, y] = some (if x ≠ 0 then x else y) := by
  obtain ⟨k, rfl⟩ : ∃ m, k = m + 3 := ⟨k - 3, by omega⟩
  have w0 : wrap64 (0 + 1) = 1 := wrap_id (by omega) (by omega)
  have w1 : wrap64 (1 + 1) = 2 := wrap_id (by omega) (by omega)
  have r0 : rd [x, y] 0 = x := rfl
  have r1 : rd [x, y] 1 = y := rfl
  unfold cmp_Or_int.f
  simp only [cmp_Or_int.l0, List.length_cons, List.length_nil, r0, w0, r1, w1]
  by_cases hx : x = 0
  · by_cases hy : y = 0
    · simp [hx, hy]
    · simp [hx, hy]
  · simp [hx]
def rowv (a b : S24) : Int := if a.f0 - b.f0 ≠ 0 then a.f0 - b.f0 else a.f1 - b.f1
theorem last_row_f {k : Nat} (hk : 3 ≤ k) {a b : S24} (ha : lok a = true) (hb : lok b = true) : last_row.f k a.f0 a.f1 a.f2 a.f3 b.f0 b.f1 b.f2 b.f3 = some (rowv a b) := by
  have h1 := lok_iff.mp ha
  have h2 := lok_iff.mp hb
  unfold LastOk at h1 h2
  have w0 : wrap64 (a.f0 - b.f0) = a.f0 - b.f0 := wrap_id (by omega) (by omega)
  have w1 : wrap64 (a.f1 - b.f1) = a.f1 - b.f1 := wrap_id (by omega) (by omega)
  simp only [last_row.f, or2_f hk, Option.bind_some, w0, w1]
  rfl
theorem rowv_lt {a b : S24} (ha : lok a = true) (hb : lok b = true) : (rowv a b < 0 ↔ lkey a < lkey b) ∧ (rowv a b = 0 ↔ lkey a = lkey b) := by
  have h1 := lok_iff.mp ha
  have h2 := lok_iff.mp hb
  unfold LastOk at h1 h2
  unfold rowv lkey
  split <;> omega
theorem rdL_at {l : List S24} {i : Nat} (h : i < l.length) : rd_T24 l (i : Int) = l[i] := by
  unfold rd_T24; rw [Int.toNat_natCast, List.getD_eq_getElem?_getD, List.getElem?_eq_getElem h]; rfl
def prevL (l : List S24) (i : Nat) : Int := if h : 0 < i ∧ i - 1 < l.length then lkey l[i - 1] else 0
theorem last_May_l {l : List S24} (hn : l.length ≤ 9223372036854775800) : ∀ (d k i : Nat), i + d = l.length → d + 3 < k → (∀ h : 0 < i ∧ i - 1 < l.length, lok l[i - 1] = true) →
    last_May.l0 k l l (l.length : Int) (i : Int) = some (rises lok lkey (prevL l i) (l.drop i)) := by
  intro d
  induction d with
  | zero =>
    intro k i hi hk _
    obtain ⟨k, rfl⟩ : ∃ m, k = m + 1 := ⟨k - 1, by omega⟩
    simp only [last_May.l0]
    rw [if_neg (by omega), List.drop_of_length_le (by omega)]
    rfl
  | succ d ih =>
    intro k i hi hk hp
    obtain ⟨k, rfl⟩ : ∃ m, k = m + 1 := ⟨k - 1, by omega⟩
    have hlt : i < l.length := by omega
    have h4 : wrap64 ((i : Int) + 1) = ((i + 1 : Nat) : Int) := by rw [wrap_id (by omega) (by omega)]; omega
    have ih' := ih k (i + 1) (by omega) (by omega)
    simp only [last_May.l0, last_one_f, Option.bind_some, rdL_at hlt]
    rw [if_pos (by omega), if_pos (by omega), if_pos (by omega), h4, List.drop_eq_getElem_cons hlt]
    have hpn : prevL l (i + 1) = lkey l[i] := by unfold prevL; rw [dif_pos ⟨by omega, by omega⟩]; rfl
    rw [hpn] at ih'
    show (if lok l[i] = true then _ else _) = some (if lok l[i] = true ∧ prevL l i < lkey l[i] then rises lok lkey (lkey l[i]) (l.drop (i + 1)) else false)
    by_cases hc : lok l[i] = true
    · rw [if_pos hc]
      have hr := lkey_range hc
      have ihc := ih' (fun _ => hc)
      by_cases h0 : (i : Int) > 0
      · have h5 : wrap64 ((i : Int) - 1) = ((i - 1 : Nat) : Int) := by rw [wrap_id (by omega) (by omega)]; omega
        have hl1 : i - 1 < l.length := by omega
        have hq := hp ⟨by omega, hl1⟩
        rw [if_pos h0, h5, if_pos (by omega), if_pos (by omega)]
        simp only [rdL_at hl1, last_row_f (show 3 ≤ k by omega) hq hc, Option.bind_some]
        have hpv : prevL l i = lkey l[i - 1] := by unfold prevL; rw [dif_pos ⟨by omega, hl1⟩]
        have hs := rowv_lt hq hc
        rw [hpv]
        by_cases hg : rowv l[i - 1] l[i] ≥ 0
        · rw [if_pos hg, if_neg (by rintro ⟨_, h⟩; have := hs.1.mpr h; omega)]
        · rw [if_neg hg, if_pos ⟨hc, hs.1.mp (by omega)⟩, ihc]
      · rw [if_neg h0]
        have hpv : prevL l i = 0 := by unfold prevL; rw [dif_neg (by omega)]
        rw [hpv, if_pos ⟨hc, by omega⟩, ihc]
    · rw [if_neg hc, if_neg (fun h => hc h.1)]
theorem last_May_f {l : List S24} (hn : l.length ≤ 9223372036854775800) {k : Nat} (hk : l.length + 3 < k) : last_May.f k l = some (rises lok lkey 0 l) := by
  have := last_May_l hn l.length k 0 (by omega) hk (fun h => by omega)
  exact this
theorem bs_l {l : List S24} {x : S24} {p : Int} {m : Nat} (hr : rises lok lkey p l = true) (hx : lok x = true) (P : Place lkey l (lkey x) m) (hn : l.length ≤ 1000) :
    ∀ (d k i j : Nat), i + d = j → d + 4 < k → i ≤ m → m ≤ j → j ≤ l.length →
    api_Last_40.l0 k l (l.length : Int) (i : Int) (j : Int) x.f0 x.f1 x.f2 x.f3 = some ((m : Int), if h : m < l.length then decide (lkey l[m] = lkey x) else false) := by
  intro d
  induction d using Nat.strongRecOn with
  | _ d ih =>
    intro k i j hij hk him hmj hjn
    obtain ⟨k, rfl⟩ : ∃ q, k = q + 1 := ⟨k - 1, by omega⟩
    simp only [api_Last_40.l0]
    by_cases h0 : i < j
    · have e1 : wrap64 ((i : Int) + (j : Int)) = ((i + j : Nat) : Int) := by rw [wrap_id (by omega) (by omega)]; omega
      have e2 : IntKind.u64.wrap (((i + j : Nat) : Int)) = ((i + j : Nat) : Int) := IntWalk.u64_in _ ⟨by omega, by omega⟩
      have e3 : (((i + j : Nat) : Int)) / 2 = (((i + j) / 2 : Nat) : Int) := by omega
      have e4 : wrap64 ((((i + j) / 2 : Nat) : Int)) = (((i + j) / 2 : Nat) : Int) := wrap_id (by omega) (by omega)
      have hh : (i + j) / 2 < l.length := by omega
      have e5 : wrap64 ((((i + j) / 2 : Nat) : Int) + 1) = (((i + j) / 2 + 1 : Nat) : Int) := by rw [wrap_id (by omega) (by omega)]; omega
      have hok := rises_ok hr hh
      simp only [e1, e2, e3, e4, e5, rdL_at hh]
      clear e1 e2 e3 e4 e5
      rw [if_pos (by omega), if_pos (by omega), if_pos (by omega)]
      simp only [last_row_f (show 3 ≤ k by omega) hok hx, Option.bind_some]
      have hs := rowv_lt hok hx
      by_cases hc : rowv l[(i + j) / 2] x < 0
      · rw [if_pos hc]
        have hk' := hs.1.mp hc
        have hm : (i + j) / 2 < m := by
          apply Nat.lt_of_not_le; intro hle
          have := P.hi _ hh hle; omega
        exact ih (j - ((i + j) / 2 + 1)) (by omega) k ((i + j) / 2 + 1) j (by omega) (by omega) (by omega) hmj hjn
      · rw [if_neg hc]
        have hm : m ≤ (i + j) / 2 := by
          apply Nat.le_of_not_lt; intro hlt
          exact hc (hs.1.mpr (P.lo _ hh hlt))
        exact ih ((i + j) / 2 - i) (by omega) k i ((i + j) / 2) (by omega) (by omega) him hm (by omega)
    · obtain rfl : i = m := by omega
      rw [if_neg (by omega)]
      by_cases hl : i < l.length
      · have hok := rises_ok hr hl
        rw [if_pos (by omega), if_pos (by omega), if_pos (by omega)]
        simp only [rdL_at hl, last_row_f (show 3 ≤ k by omega) hok hx, Option.bind_some, dif_pos hl]
        have hs := (rowv_lt hok hx).2
        congr 2
        by_cases hc : lkey l[i] = lkey x
        · rw [hs.mpr hc]; simp [hc]
        · have : rowv l[i] x ≠ 0 := fun h => hc (hs.mp h)
          simp [this, hc]
      · rw [if_neg (by omega), dif_neg hl]
theorem bs_f {l : List S24} {x : S24} {p : Int} {m k : Nat} (hr : rises lok lkey p l = true) (hx : lok x = true) (P : Place lkey l (lkey x) m) (hn : l.length ≤ 1000) (hk : l.length + 4 < k) :
    api_Last_40.f k l x.f0 x.f1 x.f2 x.f3 = some ((m : Int), if h : m < l.length then decide (lkey l[m] = lkey x) else false) :=
  bs_l hr hx P hn l.length k 0 l.length (by omega) hk (by omega) P.le (Nat.le_refl _)
/-- Is x's number newer than y's? -/
def newerThan (x y : S24) : Bool := decide (x.f2 > y.f2 ∨ x.f2 = y.f2 ∧ x.f3 > y.f3)
def newerOf (l : List S24) (x : S24) : Bool := match look lkey (lkey x) l with | none => true | some y => newerThan x y
theorem rises_short {l : List S24} (h : rises lok lkey 0 l = true) : l.length ≤ 37 := by
  have := rises_length 37 h (fun x hx => (lkey_range hx).2) (by omega)
  omega
theorem last_Newer_f {l : List S24} (hn : l.length ≤ 9223372036854775800) {k : Nat} (hk : l.length + 60 < k) (x : S24) :
    last_Newer.f k l x.f0 x.f1 x.f2 x.f3 = some (if rises lok lkey 0 l = true ∧ lok x = true then (newerOf l x, 0) else (false, 1400)) := by
  obtain ⟨k, rfl⟩ : ∃ q, k = q + 1 := ⟨k - 1, by omega⟩
  have ht : last_Newer.j0 (k + 1) l true x.f0 x.f1 x.f2 x.f3 = some (false, 1400) := by simp [last_Newer.j0]
  simp only [last_Newer.f, last_May_f hn (show l.length + 3 < k + 1 by omega), last_one_f, Option.bind_some]
  by_cases h1 : rises lok lkey 0 l = true
  · rw [if_pos h1]
    have hs := rises_short h1
    by_cases h2 : lok x = true
    · rw [if_pos ⟨h1, h2⟩, h2]
      obtain ⟨m, P⟩ := place_of h1 (lkey x)
      simp only [last_Newer.j0, Bool.not_true, Bool.false_eq_true, if_false, bs_f h1 h2 P (by omega) (show l.length + 4 < k by omega), Option.bind_some]
      have hL := look_place h1 P
      unfold newerOf
      by_cases hm : ∃ h : m < l.length, lkey l[m] = lkey x
      · obtain ⟨hl, he⟩ := hm
        rw [dif_pos hl, decide_eq_true he, if_pos rfl, if_pos (by omega), if_pos (by omega), hL.1 hl he]
        have o1 := lok_iff.mp h2
        have o2 := lok_iff.mp (rises_ok h1 hl)
        unfold LastOk at o1 o2
        have w0 : wrap64 (x.f2 - l[m].f2) = x.f2 - l[m].f2 := wrap_id (by omega) (by omega)
        have w1 : wrap64 (x.f3 - l[m].f3) = x.f3 - l[m].f3 := wrap_id (by omega) (by omega)
        simp only [rdL_at hl, or2_f (show 3 ≤ k by omega), Option.bind_some, w0, w1]
        congr 2
        unfold newerThan
        apply decide_eq_decide.mpr
        split <;> omega
      · have hno : ∀ h : m < l.length, lkey l[m] ≠ lkey x := fun h he => hm ⟨h, he⟩
        rw [hL.2 hno]
        have : (if h : m < l.length then decide (lkey l[m] = lkey x) else false) = false := by
          by_cases h : m < l.length
          · rw [dif_pos h]; exact decide_eq_false (hno h)
          · rw [dif_neg h]
        rw [this, if_neg (by decide)]
    · have h2' : lok x = false := by simpa using h2
      rw [if_neg (fun h => h2 h.2), h2']; exact ht
  · rw [if_neg h1, if_neg (fun h => h1 h.1)]; exact ht
theorem clone_f {l : List S24} (hn : l.length < 4398046511104) : api_Last_44.f l = some l := by
  simp [api_Last_44.f, hn]
theorem last_With_f {l : List S24} (hn : l.length ≤ 9223372036854775800) {k : Nat} (hk : l.length + 60 < k) (x : S24) :
    last_With.f k l x.f0 x.f1 x.f2 x.f3 = some (if rises lok lkey 0 l = true ∧ lok x = true then (ins lkey x l, 0) else ([], 1400)) := by
  obtain ⟨k, rfl⟩ : ∃ q, k = q + 1 := ⟨k - 1, by omega⟩
  have ht : last_With.j0 (k + 1) l true x.f0 x.f1 x.f2 x.f3 = some ([], 1400) := by simp [last_With.j0]
  simp only [last_With.f, last_May_f hn (show l.length + 3 < k + 1 by omega), last_one_f, Option.bind_some]
  by_cases h1 : rises lok lkey 0 l = true
  · rw [if_pos h1]
    have hs := rises_short h1
    by_cases h2 : lok x = true
    · rw [if_pos ⟨h1, h2⟩, h2]
      obtain ⟨m, P⟩ := place_of h1 (lkey x)
      simp only [last_With.j0, Bool.not_true, Bool.false_eq_true, if_false, clone_f (show l.length < 4398046511104 by omega), bs_f h1 h2 P (by omega) (show l.length + 4 < k by omega), Option.bind_some]
      have hI := ins_place h1 P
      have hx : (⟨x.f0, x.f1, x.f2, x.f3⟩ : S24) = x := rfl
      by_cases hm : ∃ h : m < l.length, lkey l[m] = lkey x
      · obtain ⟨hl, he⟩ := hm
        rw [dif_pos hl, decide_eq_true he, if_pos rfl, if_pos (by omega), if_pos (by omega), hI.1 hl he, Int.toNat_natCast, hx]
      · have hno : ∀ h : m < l.length, lkey l[m] ≠ lkey x := fun h he => hm ⟨h, he⟩
        have : (if h : m < l.length then decide (lkey l[m] = lkey x) else false) = false := by
          by_cases h : m < l.length
          · rw [dif_pos h]; exact decide_eq_false (hno h)
          · rw [dif_neg h]
        have hmn := P.le
        rw [this, if_neg (by decide), hI.2 hno]
        simp only [api_Last_45.f, Int.toNat_natCast, hx]
        rw [if_pos ⟨by omega, by omega, by omega⟩]
        rfl
    · have h2' : lok x = false := by simpa using h2
      rw [if_neg (fun h => h2 h.2), h2']; exact ht
  · rw [if_neg h1, if_neg (fun h => h1 h.1)]; exact ht

end Go.Proofs.Ytabjambabnbmnaa.L14
namespace Go.Proofs.Ytabjambabnbmnaa.L14
open Go.RowKit Go.Proofs.YtabjambabnbmnaaW.PrintWords Go.Proofs.YtabjambabnbmnaaW.PrintLast Go.Proofs.YtabjambabnbmnaaW.PrintMore Go.Proofs.Ytabjambabnbmnaa.Base Go.Proofs.Ytabjambabnbmnaa.Q14
theorem lastOk_mk {a b c d : Int} (h : (1 ≤ a ∧ a ≤ 4) ∧ (b = 1 ∨ b = 4 ∨ b = 5) ∧ (1 ≤ c ∧ c ≤ 4294967295) ∧ 1 ≤ d ∧ d ≤ 4294967295) : LastOk (⟨a, b, c, d⟩ : S24) := h
theorem lastNo_mk {a b c d : Int} (h : ¬ ((1 ≤ a ∧ a ≤ 4) ∧ (b = 1 ∨ b = 4 ∨ b = 5) ∧ (1 ≤ c ∧ c ≤ 4294967295) ∧ 1 ≤ d ∧ d ≤ 4294967295)) : ¬ LastOk (⟨a, b, c, d⟩ : S24) := h
theorem and4095 (n : Int) : Go.bits .and .i64 n 4095 = n % 4096 := and_mask 12 (by decide) n
/-- The layer is awake. -/
theorem awake_ok {k : Nat} (hk : 100 ≤ k) : watchwordlaw14_awake.f k = some true :=
  at_rounds (g := fun k => watchwordlaw14_awake.f k) watchwordlaw14_awake.mono hk (by decide +kernel)
theorem with_nil {k : Nat} (hk : 60 < k) {x : S24} (h : LastOk x) : last_With.f k [] x.f0 x.f1 x.f2 x.f3 = some ([x], 0) := by
  rw [last_With_f (Nat.zero_le _) (by simpa using hk) x, if_pos ⟨rfl, lok_iff.mpr h⟩]; rfl
theorem newer_one_f {k : Nat} (hk : 61 < k) {x y : S24} (hy : LastOk y) (hx : LastOk x) : last_Newer.f k [y] x.f0 x.f1 x.f2 x.f3 = some (if lkey y = lkey x then newerThan x y else true, 0) := by
  have hy' := lok_iff.mpr hy
  rw [last_Newer_f (by simp) (by simp; omega) x, if_pos ⟨rises_cons.mpr ⟨⟨hy', (lkey_range hy').1⟩, rfl⟩, lok_iff.mpr hx⟩]
  unfold newerOf look
  by_cases h : lkey y = lkey x
  · rw [if_pos h, if_pos h]
  · rw [if_neg h, if_neg h]; rfl

end Go.Proofs.Ytabjambabnbmnaa.L14
