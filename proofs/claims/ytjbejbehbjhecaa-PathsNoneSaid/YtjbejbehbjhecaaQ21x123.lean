/- Written by a program of this session out of the print of the loaded functions: each Go function as a plain function, and that its call comes to it; for a law, the row out of its plain statement. -/
import Derived.Test.YtjbejbehbjhecaaQ21x0
namespace Go.Proofs.Ytjbejbehbjhecaa.Q21
open Go.RowKit Go.Proofs.YtjbejbehbjhecaaW.PrintWords Go.Proofs.YtjbejbehbjhecaaW.PrintLast Go.Proofs.YtjbejbehbjhecaaW.PrintMore
attribute [local go_sem] max2_int min2_int max_two min_two max_three min_three max_four min_four   -- for this text's walks alone
set_option linter.unusedVariables false
set_option linter.unusedSimpArgs false

/-! ### graph_May: function 23 -/
mutual
def graph_May.l0 : Nat → Int → Int → Int → Int → Int → Int → Int → Int → Int → Int → Int → Int → Int → Int → Int → Int → Int → Option (Bool)
 | 0, _, _, _, _, _, _, _, _, _, _, _, _, _, _, _, _, _ => none
 | k + 1, x8, x500008000, x500008001, x500008002, x500008003, x500008004, x500008005, x500008006, x500008007, x500008008, x500008009, x500008010, x500008011, x500008012, x500008013, x500008014, x500008015 => if x8 < 4 then (if 0 ≤ x8 then (graph_May.l1 k x8 x8 0 x500008000 x500008001 x500008002 x500008003 x500008004 x500008005 x500008006 x500008007 x500008008 x500008009 x500008010 x500008011 x500008012 x500008013 x500008014 x500008015 (ix4 x500008000 x500008004 x500008008 x500008012 x8) (ix4 x500008001 x500008005 x500008009 x500008013 x8) (ix4 x500008002 x500008006 x500008010 x500008014 x8) (ix4 x500008003 x500008007 x500008011 x500008015 x8)) else (none)) else (some true)
def graph_May.l1 : Nat → Int → Int → Int → Int → Int → Int → Int → Int → Int → Int → Int → Int → Int → Int → Int → Int → Int → Int → Int → Int → Int → Int → Int → Option (Bool)
 | 0, _, _, _, _, _, _, _, _, _, _, _, _, _, _, _, _, _, _, _, _, _, _, _ => none
 | k + 1, x3, x8, x13, x500008000, x500008001, x500008002, x500008003, x500008004, x500008005, x500008006, x500008007, x500008008, x500008009, x500008010, x500008011, x500008012, x500008013, x500008014, x500008015, x500013000, x500013001, x500013002, x500013003 => if x13 < 4 then (if 0 ≤ x13 then (if (ix4 x500013000 x500013001 x500013002 x500013003 x13) < 0 then (some false) else (if (ix4 x500013000 x500013001 x500013002 x500013003 x13) > 65535 then (some false) else (if x3 = x13 then (if (ix4 x500013000 x500013001 x500013002 x500013003 x13) = 0 then (graph_May.l1 k x3 x8 (wrap64 (x13 + 1)) x500008000 x500008001 x500008002 x500008003 x500008004 x500008005 x500008006 x500008007 x500008008 x500008009 x500008010 x500008011 x500008012 x500008013 x500008014 x500008015 x500013000 x500013001 x500013002 x500013003) else (some false)) else (graph_May.l1 k x3 x8 (wrap64 (x13 + 1)) x500008000 x500008001 x500008002 x500008003 x500008004 x500008005 x500008006 x500008007 x500008008 x500008009 x500008010 x500008011 x500008012 x500008013 x500008014 x500008015 x500013000 x500013001 x500013002 x500013003)))) else (none)) else (graph_May.l0 k (wrap64 (x8 + 1)) x500008000 x500008001 x500008002 x500008003 x500008004 x500008005 x500008006 x500008007 x500008008 x500008009 x500008010 x500008011 x500008012 x500008013 x500008014 x500008015)
end
def graph_May.f (k : Nat) (a0_0 : Int) (a0_1 : Int) (a0_2 : Int) (a0_3 : Int) (a0_4 : Int) (a0_5 : Int) (a0_6 : Int) (a0_7 : Int) (a0_8 : Int) (a0_9 : Int) (a0_10 : Int) (a0_11 : Int) (a0_12 : Int) (a0_13 : Int) (a0_14 : Int) (a0_15 : Int) : Option (Bool) := graph_May.l0 k 0 a0_0 a0_1 a0_2 a0_3 a0_4 a0_5 a0_6 a0_7 a0_8 a0_9 a0_10 a0_11 a0_12 a0_13 a0_14 a0_15
theorem graph_May.mono_l : ∀ k, (∀ y0 y1 y2 y3 y4 y5 y6 y7 y8 y9 y10 y11 y12 y13 y14 y15 y16, LeO (graph_May.l0 k y0 y1 y2 y3 y4 y5 y6 y7 y8 y9 y10 y11 y12 y13 y14 y15 y16) (graph_May.l0 (k + 1) y0 y1 y2 y3 y4 y5 y6 y7 y8 y9 y10 y11 y12 y13 y14 y15 y16)) ∧ (∀ y0 y1 y2 y3 y4 y5 y6 y7 y8 y9 y10 y11 y12 y13 y14 y15 y16 y17 y18 y19 y20 y21 y22, LeO (graph_May.l1 k y0 y1 y2 y3 y4 y5 y6 y7 y8 y9 y10 y11 y12 y13 y14 y15 y16 y17 y18 y19 y20 y21 y22) (graph_May.l1 (k + 1) y0 y1 y2 y3 y4 y5 y6 y7 y8 y9 y10 y11 y12 y13 y14 y15 y16 y17 y18 y19 y20 y21 y22))
 | 0 => ⟨fun _ _ _ _ _ _ _ _ _ _ _ _ _ _ _ _ _ r h => by simp [graph_May.l0] at h, fun _ _ _ _ _ _ _ _ _ _ _ _ _ _ _ _ _ _ _ _ _ _ _ r h => by simp [graph_May.l1] at h⟩
 | k + 1 => by
  obtain ⟨ih0, ih1⟩ := graph_May.mono_l k
  refine ⟨?_, ?_⟩
  ·intro y0 y1 y2 y3 y4 y5 y6 y7 y8 y9 y10 y11 y12 y13 y14 y15 y16
   unfold graph_May.l0
   repeat' first
   | (with_reducible exact ih0 _ _ _ _ _ _ _ _ _ _ _ _ _ _ _ _ _)
   | (with_reducible exact ih1 _ _ _ _ _ _ _ _ _ _ _ _ _ _ _ _ _ _ _ _ _ _ _)
   | (with_reducible exact LeO.refl _)
   | (with_reducible exact LeO.none _)
   | (with_reducible refine LeO.ite ?_ ?_)
   | (with_reducible refine LeO.bind ?_ (fun _ => ?_))
   | exact ih0 _ _ _ _ _ _ _ _ _ _ _ _ _ _ _ _ _
   | exact ih1 _ _ _ _ _ _ _ _ _ _ _ _ _ _ _ _ _ _ _ _ _ _ _
   | exact LeO.none _
   | refine LeO.ite ?_ ?_
   | refine LeO.bind ?_ (fun _ => ?_)
  ·intro y0 y1 y2 y3 y4 y5 y6 y7 y8 y9 y10 y11 y12 y13 y14 y15 y16 y17 y18 y19 y20 y21 y22
   unfold graph_May.l1
   repeat' first
   | (with_reducible exact ih0 _ _ _ _ _ _ _ _ _ _ _ _ _ _ _ _ _)
   | (with_reducible exact ih1 _ _ _ _ _ _ _ _ _ _ _ _ _ _ _ _ _ _ _ _ _ _ _)
   | (with_reducible exact LeO.refl _)
   | (with_reducible exact LeO.none _)
   | (with_reducible refine LeO.ite ?_ ?_)
   | (with_reducible refine LeO.bind ?_ (fun _ => ?_))
   | exact ih0 _ _ _ _ _ _ _ _ _ _ _ _ _ _ _ _ _
   | exact ih1 _ _ _ _ _ _ _ _ _ _ _ _ _ _ _ _ _ _ _ _ _ _ _
   | exact LeO.none _
   | refine LeO.ite ?_ ?_
   | refine LeO.bind ?_ (fun _ => ?_)
theorem graph_May.mono : ∀ a0 a1 a2 a3 a4 a5 a6 a7 a8 a9 a10 a11 a12 a13 a14 a15 k, LeO (graph_May.f k a0 a1 a2 a3 a4 a5 a6 a7 a8 a9 a10 a11 a12 a13 a14 a15) (graph_May.f (k + 1) a0 a1 a2 a3 a4 a5 a6 a7 a8 a9 a10 a11 a12 a13 a14 a15) := by
 intro a0 a1 a2 a3 a4 a5 a6 a7 a8 a9 a10 a11 a12 a13 a14 a15 k
 obtain ⟨ih0, ih1⟩ := graph_May.mono_l k
 unfold graph_May.f
 repeat' first
   | (with_reducible exact ih0 _ _ _ _ _ _ _ _ _ _ _ _ _ _ _ _ _)
   | (with_reducible exact ih1 _ _ _ _ _ _ _ _ _ _ _ _ _ _ _ _ _ _ _ _ _ _ _)
   | (with_reducible exact LeO.refl _)
   | (with_reducible exact LeO.none _)
   | (with_reducible refine LeO.ite ?_ ?_)
   | (with_reducible refine LeO.bind ?_ (fun _ => ?_))
   | exact ih0 _ _ _ _ _ _ _ _ _ _ _ _ _ _ _ _ _
   | exact ih1 _ _ _ _ _ _ _ _ _ _ _ _ _ _ _ _ _ _ _ _ _ _ _
   | exact LeO.none _
   | refine LeO.ite ?_ ?_
   | refine LeO.bind ?_ (fun _ => ?_)
set_option maxHeartbeats 8000000 in
set_option maxRecDepth 100000 in
theorem graph_May.calls (k : Nat) (a0_0 : Int) (a0_1 : Int) (a0_2 : Int) (a0_3 : Int) (a0_4 : Int) (a0_5 : Int) (a0_6 : Int) (a0_7 : Int) (a0_8 : Int) (a0_9 : Int) (a0_10 : Int) (a0_11 : Int) (a0_12 : Int) (a0_13 : Int) (a0_14 : Int) (a0_15 : Int) (r : Bool) (w : World) (h : graph_May.f k a0_0 a0_1 a0_2 a0_3 a0_4 a0_5 a0_6 a0_7 a0_8 a0_9 a0_10 a0_11 a0_12 a0_13 a0_14 a0_15 = some r) :
  Calls Try.prog 23 #[.agg #[.int .i64 a0_0, .int .i64 a0_1, .int .i64 a0_2, .int .i64 a0_3, .int .i64 a0_4, .int .i64 a0_5, .int .i64 a0_6, .int .i64 a0_7, .int .i64 a0_8, .int .i64 a0_9, .int .i64 a0_10, .int .i64 a0_11, .int .i64 a0_12, .int .i64 a0_13, .int .i64 a0_14, .int .i64 a0_15]] w fun e w' => e = .returned (.bool r) ∧ Below w.heap.size w w' := by
 have hu23 := Try.underlying23
 have hu22 := Try.underlying22
 have HB := Aside0.mk (Below.refl w.heap.size w)
 have H : (graph_May.l0 k 0 a0_0 a0_1 a0_2 a0_3 a0_4 a0_5 a0_6 a0_7 a0_8 a0_9 a0_10 a0_11 a0_12 a0_13 a0_14 a0_15) = some r := h
 clear h
 have H' := Aside0.mk H
 clear H
 go_enter Try.func23, Try.ntmps23
 go_wp2_with (first | ((with_reducible refine gate_dst (N := 1) rfl ?_); refine box_event ?hg (N := 1) ?hd (cs := #[.int .i64 a0_0, .int .i64 a0_1, .int .i64 a0_2, .int .i64 a0_3, .int .i64 a0_4, .int .i64 a0_5, .int .i64 a0_6, .int .i64 a0_7, .int .i64 a0_8, .int .i64 a0_9, .int .i64 a0_10, .int .i64 a0_11, .int .i64 a0_12, .int .i64 a0_13, .int .i64 a0_14, .int .i64 a0_15]) (t := 23) ?hr ?_; (case hd => rfl); (case hg => rfl); (case hr => first | (go_simp; done) | (go_simp; rfl)); intro gb101 hg w2 hbox hb; have n0_ := Aside0.mk (below_step (by repeat (first | (with_reducible first | exact HB.out | apply below_alloc | apply pw_below_drewN | apply below_drew1) | exact HB.out)) hb); have n1_ := Aside0.mk (hbox); have n2_ := Aside0.mk ((by rw [hg]; exact (below_size (by repeat (first | (with_reducible first | exact HB.out | apply below_alloc | apply pw_below_drewN | apply below_drew1) | exact HB.out))) : w.heap.size ≤ gb101)); have n3_ := Aside0.mk ((by rw [hg]; exact (below_size (by repeat (first | (with_reducible first | exact HB.out | apply below_alloc | apply pw_below_drewN | apply below_drew1) | exact HB.out))) : w.heap.size ≤ gb101)); clear HB; have HB := n0_; have BK101 := n1_; have GW101 := n2_; have GE101 := n3_; clear n0_ n1_ n2_ n3_; clear hb hbox hg; have hcz3_0 : w2.cell? ⟨gb101, 0, none⟩ = some (.int .i64 a0_0) := (blk_cell BK101.out 0).trans rfl; have hcz3_1 : w2.cell? ⟨gb101, 1, none⟩ = some (.int .i64 a0_1) := (blk_cell BK101.out 1).trans rfl; have hcz3_2 : w2.cell? ⟨gb101, 2, none⟩ = some (.int .i64 a0_2) := (blk_cell BK101.out 2).trans rfl; have hcz3_3 : w2.cell? ⟨gb101, 3, none⟩ = some (.int .i64 a0_3) := (blk_cell BK101.out 3).trans rfl; have hcz3_4 : w2.cell? ⟨gb101, 4, none⟩ = some (.int .i64 a0_4) := (blk_cell BK101.out 4).trans rfl; have hcz3_5 : w2.cell? ⟨gb101, 5, none⟩ = some (.int .i64 a0_5) := (blk_cell BK101.out 5).trans rfl; have hcz3_6 : w2.cell? ⟨gb101, 6, none⟩ = some (.int .i64 a0_6) := (blk_cell BK101.out 6).trans rfl; have hcz3_7 : w2.cell? ⟨gb101, 7, none⟩ = some (.int .i64 a0_7) := (blk_cell BK101.out 7).trans rfl; have hcz3_8 : w2.cell? ⟨gb101, 8, none⟩ = some (.int .i64 a0_8) := (blk_cell BK101.out 8).trans rfl; have hcz3_9 : w2.cell? ⟨gb101, 9, none⟩ = some (.int .i64 a0_9) := (blk_cell BK101.out 9).trans rfl; have hcz3_10 : w2.cell? ⟨gb101, 10, none⟩ = some (.int .i64 a0_10) := (blk_cell BK101.out 10).trans rfl; have hcz3_11 : w2.cell? ⟨gb101, 11, none⟩ = some (.int .i64 a0_11) := (blk_cell BK101.out 11).trans rfl; have hcz3_12 : w2.cell? ⟨gb101, 12, none⟩ = some (.int .i64 a0_12) := (blk_cell BK101.out 12).trans rfl; have hcz3_13 : w2.cell? ⟨gb101, 13, none⟩ = some (.int .i64 a0_13) := (blk_cell BK101.out 13).trans rfl; have hcz3_14 : w2.cell? ⟨gb101, 14, none⟩ = some (.int .i64 a0_14) := (blk_cell BK101.out 14).trans rfl; have hcz3_15 : w2.cell? ⟨gb101, 15, none⟩ = some (.int .i64 a0_15) := (blk_cell BK101.out 15).trans rfl; have hfz3_0 := blk_frozen BK101.out 0; have hfz3_1 := blk_frozen BK101.out 1; have hfz3_2 := blk_frozen BK101.out 2; have hfz3_3 := blk_frozen BK101.out 3; have hfz3_4 := blk_frozen BK101.out 4; have hfz3_5 := blk_frozen BK101.out 5; have hfz3_6 := blk_frozen BK101.out 6; have hfz3_7 := blk_frozen BK101.out 7; have hfz3_8 := blk_frozen BK101.out 8; have hfz3_9 := blk_frozen BK101.out 9; have hfz3_10 := blk_frozen BK101.out 10; have hfz3_11 := blk_frozen BK101.out 11; have hfz3_12 := blk_frozen BK101.out 12; have hfz3_13 := blk_frozen BK101.out 13; have hfz3_14 := blk_frozen BK101.out 14; have hfz3_15 := blk_frozen BK101.out 15))
 go_loopg [8] k (fun kq v8 w' => ∃ (x8_1 : Int), v8 = .int .i64 x8_1 ∧ Aside0 (graph_May.l0 kq x8_1 a0_0 a0_1 a0_2 a0_3 a0_4 a0_5 a0_6 a0_7 a0_8 a0_9 a0_10 a0_11 a0_12 a0_13 a0_14 a0_15 = some r) ∧ Aside0 (kq ≤ k) ∧ Aside0 (w'.heap[gb101]? = some (.cells #[.int .i64 a0_0, .int .i64 a0_1, .int .i64 a0_2, .int .i64 a0_3, .int .i64 a0_4, .int .i64 a0_5, .int .i64 a0_6, .int .i64 a0_7, .int .i64 a0_8, .int .i64 a0_9, .int .i64 a0_10, .int .i64 a0_11, .int .i64 a0_12, .int .i64 a0_13, .int .i64 a0_14, .int .i64 a0_15] 23 (0, 0))) ∧ Aside0 (Below w.heap.size w w'))
 case atStart => exact ⟨(0), (by first | rfl | (simp; done) | (simp [*]; done)), H', ⟨Nat.le_refl _⟩, ⟨by (with_reducible repeat (first | refine blk_drewN ?_ _ | refine blk_drew ?_ | refine blk_alloc ?_ _)); exact BK101.out⟩, ⟨by repeat (first | (with_reducible first | exact HB.out | apply below_alloc | apply pw_below_drewN | apply below_drew1 | refine below_set ?_ GE101.out) | exact HB.out)⟩⟩
 case round =>
  clear H'
  try clear c2
  try clear p2
  try clear hcz3_0
  try clear hcz3_1
  try clear hcz3_10
  try clear hcz3_11
  try clear hcz3_12
  try clear hcz3_13
  try clear hcz3_14
  try clear hcz3_15
  try clear hcz3_2
  try clear hcz3_3
  try clear hcz3_4
  try clear hcz3_5
  try clear hcz3_6
  try clear hcz3_7
  try clear hcz3_8
  try clear hcz3_9
  try clear hfz3_0
  try clear hfz3_1
  try clear hfz3_10
  try clear hfz3_11
  try clear hfz3_12
  try clear hfz3_13
  try clear hfz3_14
  try clear hfz3_15
  try clear hfz3_2
  try clear hfz3_3
  try clear hfz3_4
  try clear hfz3_5
  try clear hfz3_6
  try clear hfz3_7
  try clear hfz3_8
  try clear hfz3_9
  obtain ⟨x8_1, rfl, HA, HK1, BK101, HB⟩ := hrel
  cases gk with
  | zero => exact absurd HA.out (by simp [graph_May.l0])
  | succ k1 =>
   have H := HA.out
   clear HA
   simp only [graph_May.l0] at H
   by_cases c4 : x8_1 < 4
   ·rw [if_pos c4] at H
    have c4b0 : decide (x8_1 < 4) = true := decide_eq_true c4
    clear c4
    by_cases c5 : 0 ≤ x8_1
    ·rw [if_pos c5] at H
     have c5b0 : decide (0 ≤ x8_1) = true := decide_eq_true c5
     clear c5
     have H' := Aside0.mk H
     clear H
     have p6 : (0 ≤ (x8_1 : Int)) = True := eq_true (of_decide_eq_true (by first | (with_reducible assumption) | assumption))
     have q6 : ((x8_1 : Int) < 4) = True := eq_true (of_decide_eq_true (by first | (with_reducible assumption) | assumption))
     have hv7 : ∀ w_ : World, (Instr.index 23 (.agg (#[.int .i64 a0_0, .int .i64 a0_1, .int .i64 a0_2, .int .i64 a0_3, .int .i64 a0_4, .int .i64 a0_5, .int .i64 a0_6, .int .i64 a0_7, .int .i64 a0_8, .int .i64 a0_9, .int .i64 a0_10, .int .i64 a0_11, .int .i64 a0_12, .int .i64 a0_13, .int .i64 a0_14, .int .i64 a0_15] : Array Value)) (.int .i64 x8_1)).run Try.prog w_ = .ok (.agg #[.int .i64 (ix4 a0_0 a0_4 a0_8 a0_12 x8_1), .int .i64 (ix4 a0_1 a0_5 a0_9 a0_13 x8_1), .int .i64 (ix4 a0_2 a0_6 a0_10 a0_14 x8_1), .int .i64 (ix4 a0_3 a0_7 a0_11 a0_15 x8_1)]) w_ := fun w_ => index_row Try.underlying23 (by kernel_rfl) Try.underlying22 (by kernel_rfl) (of_decide_eq_true (by first | (with_reducible assumption) | assumption)) (of_decide_eq_true (by first | (with_reducible assumption) | assumption)) (row_44 (Value.int .i64) _ _ _ _ _ _ _ _ _ _ _ _ _ _ _ _ x8_1 (of_decide_eq_true (by first | (with_reducible assumption) | assumption)) (of_decide_eq_true (by first | (with_reducible assumption) | assumption))) w_
     go_wp2_with (first | ((with_reducible refine gate_dst (N := 4) rfl ?_); refine box_event ?hg (N := 4) ?hd (cs := #[.int .i64 0, .int .i64 0, .int .i64 0, .int .i64 0]) (t := 22) ?hr ?_; (case hd => rfl); (case hg => rfl); (case hr => first | (go_simp; done) | (go_simp; rfl)); intro gb102 hg w8 hbox hb; have n0_ := Aside0.mk (blk_below (g := gb101) (o := .cells #[.int .i64 a0_0, .int .i64 a0_1, .int .i64 a0_2, .int .i64 a0_3, .int .i64 a0_4, .int .i64 a0_5, .int .i64 a0_6, .int .i64 a0_7, .int .i64 a0_8, .int .i64 a0_9, .int .i64 a0_10, .int .i64 a0_11, .int .i64 a0_12, .int .i64 a0_13, .int .i64 a0_14, .int .i64 a0_15] 23 (0, 0)) (by (with_reducible repeat (first | refine blk_drewN ?_ _ | refine blk_drew ?_ | refine blk_alloc ?_ _)); exact BK101.out) hb); have n1_ := Aside0.mk (below_step (by repeat (first | (with_reducible first | exact HB.out | apply below_alloc | apply pw_below_drewN | apply below_drew1 | refine below_set ?_ GE101.out) | exact HB.out)) hb); have n2_ := Aside0.mk (hbox); have n3_ := Aside0.mk ((by rw [hg]; exact (below_size (by repeat (first | (with_reducible first | exact HB.out | apply below_alloc | apply pw_below_drewN | apply below_drew1 | refine below_set ?_ GE101.out) | exact HB.out))) : w.heap.size ≤ gb102)); have n4_ := Aside0.mk ((by rw [hg]; exact (below_size (by repeat (first | (with_reducible first | exact HB.out | apply below_alloc | apply pw_below_drewN | apply below_drew1 | refine below_set ?_ GE101.out) | exact HB.out))) : w.heap.size ≤ gb102)); have n5_ := Aside0.mk ((by rw [hg]; exact Nat.ne_of_lt (blk_lt (g := gb101) (o := .cells #[.int .i64 a0_0, .int .i64 a0_1, .int .i64 a0_2, .int .i64 a0_3, .int .i64 a0_4, .int .i64 a0_5, .int .i64 a0_6, .int .i64 a0_7, .int .i64 a0_8, .int .i64 a0_9, .int .i64 a0_10, .int .i64 a0_11, .int .i64 a0_12, .int .i64 a0_13, .int .i64 a0_14, .int .i64 a0_15] 23 (0, 0)) (by (with_reducible repeat (first | refine blk_drewN ?_ _ | refine blk_drew ?_ | refine blk_alloc ?_ _)); exact BK101.out)) : gb101 ≠ gb102)); have n6_ := Aside0.mk ((by rw [hg]; exact Nat.ne_of_gt (blk_lt (g := gb101) (o := .cells #[.int .i64 a0_0, .int .i64 a0_1, .int .i64 a0_2, .int .i64 a0_3, .int .i64 a0_4, .int .i64 a0_5, .int .i64 a0_6, .int .i64 a0_7, .int .i64 a0_8, .int .i64 a0_9, .int .i64 a0_10, .int .i64 a0_11, .int .i64 a0_12, .int .i64 a0_13, .int .i64 a0_14, .int .i64 a0_15] 23 (0, 0)) (by (with_reducible repeat (first | refine blk_drewN ?_ _ | refine blk_drew ?_ | refine blk_alloc ?_ _)); exact BK101.out)) : gb102 ≠ gb101)); clear BK101; clear HB; have BK101 := n0_; have HB := n1_; have BK102 := n2_; have GW102 := n3_; have GE102 := n4_; have NB101_102 := n5_; have NB102_101 := n6_; clear n0_ n1_ n2_ n3_ n4_ n5_ n6_; clear hb hbox hg; have hnb9 := NB102_101.out; have hnc9 := NB101_102.out; have hcz10_0 : w8.cell? ⟨gb102, 0, none⟩ = some (.int .i64 0) := (blk_cell BK102.out 0).trans rfl; have hcz10_1 : w8.cell? ⟨gb102, 1, none⟩ = some (.int .i64 0) := (blk_cell BK102.out 1).trans rfl; have hcz10_2 : w8.cell? ⟨gb102, 2, none⟩ = some (.int .i64 0) := (blk_cell BK102.out 2).trans rfl; have hcz10_3 : w8.cell? ⟨gb102, 3, none⟩ = some (.int .i64 0) := (blk_cell BK102.out 3).trans rfl; have hfz10_0 := blk_frozen BK102.out 0; have hfz10_1 := blk_frozen BK102.out 1; have hfz10_2 := blk_frozen BK102.out 2; have hfz10_3 := blk_frozen BK102.out 3) | ((with_reducible refine gate_store (t := 22) (p := 4) rfl ?_); refine store_event (t := 22) (p := 4) (v := ?vo_w11) (w1 := ((((w8.setCell ⟨gb102, 0, none⟩ (.int .i64 (ix4 a0_0 a0_4 a0_8 a0_12 x8_1))).setCell ⟨gb102, 1, none⟩ (.int .i64 (ix4 a0_1 a0_5 a0_9 a0_13 x8_1))).setCell ⟨gb102, 2, none⟩ (.int .i64 (ix4 a0_2 a0_6 a0_10 a0_14 x8_1))).setCell ⟨gb102, 3, none⟩ (.int .i64 (ix4 a0_3 a0_7 a0_11 a0_15 x8_1)))) ?hg ?ho ?hn ?hr ?_; (case ho => rfl); (case hg => rfl); (case hn => rfl); (case hr => first | (go_simp; done) | (go_simp; rfl)); intro w11 hw; have n0_ : Aside0 (w11.heap[gb101]? = some (.cells #[.int .i64 a0_0, .int .i64 a0_1, .int .i64 a0_2, .int .i64 a0_3, .int .i64 a0_4, .int .i64 a0_5, .int .i64 a0_6, .int .i64 a0_7, .int .i64 a0_8, .int .i64 a0_9, .int .i64 a0_10, .int .i64 a0_11, .int .i64 a0_12, .int .i64 a0_13, .int .i64 a0_14, .int .i64 a0_15] 23 (0, 0))) := ⟨(by rw [hw]; exact (by (with_reducible repeat (first | refine blk_drewN ?_ _ | refine blk_drew ?_ | refine blk_alloc ?_ _)); refine blk_far ?_ NB101_102.out _; (with_reducible repeat (first | refine blk_drewN ?_ _ | refine blk_drew ?_ | refine blk_alloc ?_ _)); refine blk_far ?_ NB101_102.out _; (with_reducible repeat (first | refine blk_drewN ?_ _ | refine blk_drew ?_ | refine blk_alloc ?_ _)); refine blk_far ?_ NB101_102.out _; (with_reducible repeat (first | refine blk_drewN ?_ _ | refine blk_drew ?_ | refine blk_alloc ?_ _)); refine blk_far ?_ NB101_102.out _; (with_reducible repeat (first | refine blk_drewN ?_ _ | refine blk_drew ?_ | refine blk_alloc ?_ _)); exact BK101.out))⟩; have n1_ : Aside0 (w11.heap[gb102]? = some (.cells #[.int .i64 (ix4 a0_0 a0_4 a0_8 a0_12 x8_1), .int .i64 (ix4 a0_1 a0_5 a0_9 a0_13 x8_1), .int .i64 (ix4 a0_2 a0_6 a0_10 a0_14 x8_1), .int .i64 (ix4 a0_3 a0_7 a0_11 a0_15 x8_1)] 22 (0, 0))) := ⟨(by rw [hw]; exact (by (with_reducible repeat (first | refine blk_drewN ?_ _ | refine blk_drew ?_ | refine blk_alloc ?_ _)); refine blk_put (cs := #[.int .i64 (ix4 a0_0 a0_4 a0_8 a0_12 x8_1), .int .i64 (ix4 a0_1 a0_5 a0_9 a0_13 x8_1), .int .i64 (ix4 a0_2 a0_6 a0_10 a0_14 x8_1), .int .i64 0]) ?_ 3 _ rfl; (with_reducible repeat (first | refine blk_drewN ?_ _ | refine blk_drew ?_ | refine blk_alloc ?_ _)); refine blk_put (cs := #[.int .i64 (ix4 a0_0 a0_4 a0_8 a0_12 x8_1), .int .i64 (ix4 a0_1 a0_5 a0_9 a0_13 x8_1), .int .i64 0, .int .i64 0]) ?_ 2 _ rfl; (with_reducible repeat (first | refine blk_drewN ?_ _ | refine blk_drew ?_ | refine blk_alloc ?_ _)); refine blk_put (cs := #[.int .i64 (ix4 a0_0 a0_4 a0_8 a0_12 x8_1), .int .i64 0, .int .i64 0, .int .i64 0]) ?_ 1 _ rfl; (with_reducible repeat (first | refine blk_drewN ?_ _ | refine blk_drew ?_ | refine blk_alloc ?_ _)); refine blk_put (cs := #[.int .i64 0, .int .i64 0, .int .i64 0, .int .i64 0]) ?_ 0 _ rfl; (with_reducible repeat (first | refine blk_drewN ?_ _ | refine blk_drew ?_ | refine blk_alloc ?_ _)); exact BK102.out))⟩; have n2_ : Aside0 (Below w.heap.size w w11) := ⟨(by rw [hw]; exact (by repeat (first | (with_reducible first | exact HB.out | apply below_alloc | apply pw_below_drewN | apply below_drew1 | refine below_set ?_ GE101.out | refine below_set ?_ GE102.out) | exact HB.out)))⟩; clear hw; clear BK101; clear BK102; clear HB; have BK101 := n0_; have BK102 := n1_; have HB := n2_; clear n0_ n1_ n2_; have hcz12_0 : w11.cell? ⟨gb102, 0, none⟩ = some (.int .i64 (ix4 a0_0 a0_4 a0_8 a0_12 x8_1)) := (blk_cell BK102.out 0).trans rfl; have hcz12_1 : w11.cell? ⟨gb102, 1, none⟩ = some (.int .i64 (ix4 a0_1 a0_5 a0_9 a0_13 x8_1)) := (blk_cell BK102.out 1).trans rfl; have hcz12_2 : w11.cell? ⟨gb102, 2, none⟩ = some (.int .i64 (ix4 a0_2 a0_6 a0_10 a0_14 x8_1)) := (blk_cell BK102.out 2).trans rfl; have hcz12_3 : w11.cell? ⟨gb102, 3, none⟩ = some (.int .i64 (ix4 a0_3 a0_7 a0_11 a0_15 x8_1)) := (blk_cell BK102.out 3).trans rfl; have hfz12_0 := blk_frozen BK102.out 0; have hfz12_1 := blk_frozen BK102.out 1; have hfz12_2 := blk_frozen BK102.out 2; have hfz12_3 := blk_frozen BK102.out 3))
     go_loopg [13] k1 (fun kq v13 w' => ∃ (x13_2 : Int), v13 = .int .i64 x13_2 ∧ Aside0 (graph_May.l1 kq x8_1 x8_1 x13_2 a0_0 a0_1 a0_2 a0_3 a0_4 a0_5 a0_6 a0_7 a0_8 a0_9 a0_10 a0_11 a0_12 a0_13 a0_14 a0_15 (ix4 a0_0 a0_4 a0_8 a0_12 x8_1) (ix4 a0_1 a0_5 a0_9 a0_13 x8_1) (ix4 a0_2 a0_6 a0_10 a0_14 x8_1) (ix4 a0_3 a0_7 a0_11 a0_15 x8_1) = some r) ∧ Aside0 (kq ≤ k1) ∧ Aside0 (w'.heap[gb101]? = some (.cells #[.int .i64 a0_0, .int .i64 a0_1, .int .i64 a0_2, .int .i64 a0_3, .int .i64 a0_4, .int .i64 a0_5, .int .i64 a0_6, .int .i64 a0_7, .int .i64 a0_8, .int .i64 a0_9, .int .i64 a0_10, .int .i64 a0_11, .int .i64 a0_12, .int .i64 a0_13, .int .i64 a0_14, .int .i64 a0_15] 23 (0, 0))) ∧ Aside0 (w'.heap[gb102]? = some (.cells #[.int .i64 (ix4 a0_0 a0_4 a0_8 a0_12 x8_1), .int .i64 (ix4 a0_1 a0_5 a0_9 a0_13 x8_1), .int .i64 (ix4 a0_2 a0_6 a0_10 a0_14 x8_1), .int .i64 (ix4 a0_3 a0_7 a0_11 a0_15 x8_1)] 22 (0, 0))) ∧ Aside0 (Below w.heap.size w w'))
     case atStart => exact ⟨(0), (by first | rfl | (simp; done) | (simp [*]; done)), H', ⟨Nat.le_refl _⟩, ⟨by (with_reducible repeat (first | refine blk_drewN ?_ _ | refine blk_drew ?_ | refine blk_alloc ?_ _)); exact BK101.out⟩, ⟨by (with_reducible repeat (first | refine blk_drewN ?_ _ | refine blk_drew ?_ | refine blk_alloc ?_ _)); exact BK102.out⟩, ⟨by repeat (first | (with_reducible first | exact HB.out | apply below_alloc | apply pw_below_drewN | apply below_drew1 | refine below_set ?_ GE101.out | refine below_set ?_ GE102.out) | exact HB.out)⟩⟩
     case round =>
      clear H'
      try clear c2
      try clear p2
      try clear c4
      try clear c4b0
      try clear c5
      try clear c5b0
      try clear p6
      try clear q6
      try clear c9
      try clear hcz10_0
      try clear hcz10_1
      try clear hcz10_2
      try clear hcz10_3
      try clear hcz12_0
      try clear hcz12_1
      try clear hcz12_2
      try clear hcz12_3
      try clear hcz3_0
      try clear hcz3_1
      try clear hcz3_10
      try clear hcz3_11
      try clear hcz3_12
      try clear hcz3_13
      try clear hcz3_14
      try clear hcz3_15
      try clear hcz3_2
      try clear hcz3_3
      try clear hcz3_4
      try clear hcz3_5
      try clear hcz3_6
      try clear hcz3_7
      try clear hcz3_8
      try clear hcz3_9
      try clear hfz10_0
      try clear hfz10_1
      try clear hfz10_2
      try clear hfz10_3
      try clear hfz12_0
      try clear hfz12_1
      try clear hfz12_2
      try clear hfz12_3
      try clear hfz3_0
      try clear hfz3_1
      try clear hfz3_10
      try clear hfz3_11
      try clear hfz3_12
      try clear hfz3_13
      try clear hfz3_14
      try clear hfz3_15
      try clear hfz3_2
      try clear hfz3_3
      try clear hfz3_4
      try clear hfz3_5
      try clear hfz3_6
      try clear hfz3_7
      try clear hfz3_8
      try clear hfz3_9
      try clear p2
      try clear p6
      try clear q6
      obtain ⟨x13_2, rfl, HA, HK2, BK101, BK102, HB⟩ := hrel
      cases gk with
      | zero => exact absurd HA.out (by simp [graph_May.l1])
      | succ k2 =>
       have H := HA.out
       clear HA
       simp only [graph_May.l1] at H
       by_cases c13 : x13_2 < 4
       ·rw [if_pos c13] at H
        have c13b0 : decide (x13_2 < 4) = true := decide_eq_true c13
        clear c13
        by_cases c14 : 0 ≤ x13_2
        ·rw [if_pos c14] at H
         have c14b0 : decide (0 ≤ x13_2) = true := decide_eq_true c14
         clear c14
         by_cases c15 : (ix4 (ix4 a0_0 a0_4 a0_8 a0_12 x8_1) (ix4 a0_1 a0_5 a0_9 a0_13 x8_1) (ix4 a0_2 a0_6 a0_10 a0_14 x8_1) (ix4 a0_3 a0_7 a0_11 a0_15 x8_1) x13_2) < 0
         ·rw [if_pos c15] at H
          have c15b0 : decide ((ix4 (ix4 a0_0 a0_4 a0_8 a0_12 x8_1) (ix4 a0_1 a0_5 a0_9 a0_13 x8_1) (ix4 a0_2 a0_6 a0_10 a0_14 x8_1) (ix4 a0_3 a0_7 a0_11 a0_15 x8_1) x13_2) < 0) = true := decide_eq_true c15
          clear c15
          obtain rfl := Option.some.inj H
          have p16 : (0 ≤ (x13_2 : Int)) = True := eq_true (of_decide_eq_true (by first | (with_reducible assumption) | assumption))
          have q16 : ((x13_2 : Int) < 4) = True := eq_true (of_decide_eq_true (by first | (with_reducible assumption) | assumption))
          have hv17 : ∀ w_ : World, (Instr.index 22 (.agg (#[.int .i64 (ix4 a0_0 a0_4 a0_8 a0_12 x8_1), .int .i64 (ix4 a0_1 a0_5 a0_9 a0_13 x8_1), .int .i64 (ix4 a0_2 a0_6 a0_10 a0_14 x8_1), .int .i64 (ix4 a0_3 a0_7 a0_11 a0_15 x8_1)] : Array Value)) (.int .i64 x13_2)).run Try.prog w_ = .ok (.int .i64 (ix4 (ix4 a0_0 a0_4 a0_8 a0_12 x8_1) (ix4 a0_1 a0_5 a0_9 a0_13 x8_1) (ix4 a0_2 a0_6 a0_10 a0_14 x8_1) (ix4 a0_3 a0_7 a0_11 a0_15 x8_1) x13_2)) w_ := fun w_ => index_cell Try.underlying22 (by kernel_rfl) (by kernel_rfl) (by kernel_rfl) (of_decide_eq_true (by first | (with_reducible assumption) | assumption)) (of_decide_eq_true (by first | (with_reducible assumption) | assumption)) (ix_4 (Value.int .i64) _ _ _ _ x13_2 (of_decide_eq_true (by first | (with_reducible assumption) | assumption)) (of_decide_eq_true (by first | (with_reducible assumption) | assumption))) w_
          go_wp2
          go_ret
          exact ⟨by first | rfl | (simp [errW_none, errW_some] <;> rfl) | (simp [*, errW_none, errW_some] <;> rfl), by repeat (first | (with_reducible first | exact HB.out | apply below_alloc | apply pw_below_drewN | apply below_drew1 | refine below_set ?_ GE101.out | refine below_set ?_ GE102.out) | exact HB.out)⟩
         ·rw [if_neg c15] at H
          have c15b0 : decide ((ix4 (ix4 a0_0 a0_4 a0_8 a0_12 x8_1) (ix4 a0_1 a0_5 a0_9 a0_13 x8_1) (ix4 a0_2 a0_6 a0_10 a0_14 x8_1) (ix4 a0_3 a0_7 a0_11 a0_15 x8_1) x13_2) < 0) = false := decide_eq_false c15
          clear c15
          by_cases c18 : (ix4 (ix4 a0_0 a0_4 a0_8 a0_12 x8_1) (ix4 a0_1 a0_5 a0_9 a0_13 x8_1) (ix4 a0_2 a0_6 a0_10 a0_14 x8_1) (ix4 a0_3 a0_7 a0_11 a0_15 x8_1) x13_2) > 65535
          ·rw [if_pos c18] at H
           have c18b0 : decide (65535 < (ix4 (ix4 a0_0 a0_4 a0_8 a0_12 x8_1) (ix4 a0_1 a0_5 a0_9 a0_13 x8_1) (ix4 a0_2 a0_6 a0_10 a0_14 x8_1) (ix4 a0_3 a0_7 a0_11 a0_15 x8_1) x13_2)) = true := decide_eq_true c18
           clear c18
           obtain rfl := Option.some.inj H
           have p19 : (0 ≤ (x13_2 : Int)) = True := eq_true (of_decide_eq_true (by first | (with_reducible assumption) | assumption))
           have q19 : ((x13_2 : Int) < 4) = True := eq_true (of_decide_eq_true (by first | (with_reducible assumption) | assumption))
           have hv20 : ∀ w_ : World, (Instr.index 22 (.agg (#[.int .i64 (ix4 a0_0 a0_4 a0_8 a0_12 x8_1), .int .i64 (ix4 a0_1 a0_5 a0_9 a0_13 x8_1), .int .i64 (ix4 a0_2 a0_6 a0_10 a0_14 x8_1), .int .i64 (ix4 a0_3 a0_7 a0_11 a0_15 x8_1)] : Array Value)) (.int .i64 x13_2)).run Try.prog w_ = .ok (.int .i64 (ix4 (ix4 a0_0 a0_4 a0_8 a0_12 x8_1) (ix4 a0_1 a0_5 a0_9 a0_13 x8_1) (ix4 a0_2 a0_6 a0_10 a0_14 x8_1) (ix4 a0_3 a0_7 a0_11 a0_15 x8_1) x13_2)) w_ := fun w_ => index_cell Try.underlying22 (by kernel_rfl) (by kernel_rfl) (by kernel_rfl) (of_decide_eq_true (by first | (with_reducible assumption) | assumption)) (of_decide_eq_true (by first | (with_reducible assumption) | assumption)) (ix_4 (Value.int .i64) _ _ _ _ x13_2 (of_decide_eq_true (by first | (with_reducible assumption) | assumption)) (of_decide_eq_true (by first | (with_reducible assumption) | assumption))) w_
           go_wp2
           go_ret
           exact ⟨by first | rfl | (simp [errW_none, errW_some] <;> rfl) | (simp [*, errW_none, errW_some] <;> rfl), by repeat (first | (with_reducible first | exact HB.out | apply below_alloc | apply pw_below_drewN | apply below_drew1 | refine below_set ?_ GE101.out | refine below_set ?_ GE102.out) | exact HB.out)⟩
          ·rw [if_neg c18] at H
           have c18b0 : decide (65535 < (ix4 (ix4 a0_0 a0_4 a0_8 a0_12 x8_1) (ix4 a0_1 a0_5 a0_9 a0_13 x8_1) (ix4 a0_2 a0_6 a0_10 a0_14 x8_1) (ix4 a0_3 a0_7 a0_11 a0_15 x8_1) x13_2)) = false := decide_eq_false c18
           clear c18
           by_cases c21 : x8_1 = x13_2
           ·rw [if_pos c21] at H
            have c21b0 : (x8_1 == x13_2) = true := beq_iff_eq.mpr c21
            have c21b1 : (x8_1 != x13_2) = false := bne_eq_false_iff_eq.mpr c21
            clear c21
            by_cases c22 : (ix4 (ix4 a0_0 a0_4 a0_8 a0_12 x8_1) (ix4 a0_1 a0_5 a0_9 a0_13 x8_1) (ix4 a0_2 a0_6 a0_10 a0_14 x8_1) (ix4 a0_3 a0_7 a0_11 a0_15 x8_1) x13_2) = 0
            ·rw [if_pos c22] at H
             have c22b0 : ((ix4 (ix4 a0_0 a0_4 a0_8 a0_12 x8_1) (ix4 a0_1 a0_5 a0_9 a0_13 x8_1) (ix4 a0_2 a0_6 a0_10 a0_14 x8_1) (ix4 a0_3 a0_7 a0_11 a0_15 x8_1) x13_2) == 0) = true := beq_iff_eq.mpr c22
             have c22b1 : ((ix4 (ix4 a0_0 a0_4 a0_8 a0_12 x8_1) (ix4 a0_1 a0_5 a0_9 a0_13 x8_1) (ix4 a0_2 a0_6 a0_10 a0_14 x8_1) (ix4 a0_3 a0_7 a0_11 a0_15 x8_1) x13_2) != 0) = false := bne_eq_false_iff_eq.mpr c22
             clear c22
             have H' := Aside0.mk H
             clear H
             have p23 : (0 ≤ (x13_2 : Int)) = True := eq_true (of_decide_eq_true (by first | (with_reducible assumption) | assumption))
             have q23 : ((x13_2 : Int) < 4) = True := eq_true (of_decide_eq_true (by first | (with_reducible assumption) | assumption))
             have hv24 : ∀ w_ : World, (Instr.index 22 (.agg (#[.int .i64 (ix4 a0_0 a0_4 a0_8 a0_12 x8_1), .int .i64 (ix4 a0_1 a0_5 a0_9 a0_13 x8_1), .int .i64 (ix4 a0_2 a0_6 a0_10 a0_14 x8_1), .int .i64 (ix4 a0_3 a0_7 a0_11 a0_15 x8_1)] : Array Value)) (.int .i64 x13_2)).run Try.prog w_ = .ok (.int .i64 (ix4 (ix4 a0_0 a0_4 a0_8 a0_12 x8_1) (ix4 a0_1 a0_5 a0_9 a0_13 x8_1) (ix4 a0_2 a0_6 a0_10 a0_14 x8_1) (ix4 a0_3 a0_7 a0_11 a0_15 x8_1) x13_2)) w_ := fun w_ => index_cell Try.underlying22 (by kernel_rfl) (by kernel_rfl) (by kernel_rfl) (of_decide_eq_true (by first | (with_reducible assumption) | assumption)) (of_decide_eq_true (by first | (with_reducible assumption) | assumption)) (ix_4 (Value.int .i64) _ _ _ _ x13_2 (of_decide_eq_true (by first | (with_reducible assumption) | assumption)) (of_decide_eq_true (by first | (with_reducible assumption) | assumption))) w_
             go_wp2
             go_roundg k2
             case measure => have := HK1.out; have := HK2.out; omega
             case rel => exact ⟨(wrap64 (x13_2 + 1)), (by first | rfl | (simp; done) | (simp [*]; done)), H', ⟨by have := HK1.out; have := HK2.out; omega⟩, ⟨by (with_reducible repeat (first | refine blk_drewN ?_ _ | refine blk_drew ?_ | refine blk_alloc ?_ _)); exact BK101.out⟩, ⟨by (with_reducible repeat (first | refine blk_drewN ?_ _ | refine blk_drew ?_ | refine blk_alloc ?_ _)); exact BK102.out⟩, ⟨by repeat (first | (with_reducible first | exact HB.out | apply below_alloc | apply pw_below_drewN | apply below_drew1 | refine below_set ?_ GE101.out | refine below_set ?_ GE102.out) | exact HB.out)⟩⟩
            ·rw [if_neg c22] at H
             have c22b0 : ((ix4 (ix4 a0_0 a0_4 a0_8 a0_12 x8_1) (ix4 a0_1 a0_5 a0_9 a0_13 x8_1) (ix4 a0_2 a0_6 a0_10 a0_14 x8_1) (ix4 a0_3 a0_7 a0_11 a0_15 x8_1) x13_2) == 0) = false := beq_eq_false_iff_ne.mpr c22
             have c22b1 : ((ix4 (ix4 a0_0 a0_4 a0_8 a0_12 x8_1) (ix4 a0_1 a0_5 a0_9 a0_13 x8_1) (ix4 a0_2 a0_6 a0_10 a0_14 x8_1) (ix4 a0_3 a0_7 a0_11 a0_15 x8_1) x13_2) != 0) = true := bne_iff_ne.mpr c22
             obtain rfl := Option.some.inj H
             have p25 : (0 ≤ (x13_2 : Int)) = True := eq_true (of_decide_eq_true (by first | (with_reducible assumption) | assumption))
             have q25 : ((x13_2 : Int) < 4) = True := eq_true (of_decide_eq_true (by first | (with_reducible assumption) | assumption))
             have hv26 : ∀ w_ : World, (Instr.index 22 (.agg (#[.int .i64 (ix4 a0_0 a0_4 a0_8 a0_12 x8_1), .int .i64 (ix4 a0_1 a0_5 a0_9 a0_13 x8_1), .int .i64 (ix4 a0_2 a0_6 a0_10 a0_14 x8_1), .int .i64 (ix4 a0_3 a0_7 a0_11 a0_15 x8_1)] : Array Value)) (.int .i64 x13_2)).run Try.prog w_ = .ok (.int .i64 (ix4 (ix4 a0_0 a0_4 a0_8 a0_12 x8_1) (ix4 a0_1 a0_5 a0_9 a0_13 x8_1) (ix4 a0_2 a0_6 a0_10 a0_14 x8_1) (ix4 a0_3 a0_7 a0_11 a0_15 x8_1) x13_2)) w_ := fun w_ => index_cell Try.underlying22 (by kernel_rfl) (by kernel_rfl) (by kernel_rfl) (of_decide_eq_true (by first | (with_reducible assumption) | assumption)) (of_decide_eq_true (by first | (with_reducible assumption) | assumption)) (ix_4 (Value.int .i64) _ _ _ _ x13_2 (of_decide_eq_true (by first | (with_reducible assumption) | assumption)) (of_decide_eq_true (by first | (with_reducible assumption) | assumption))) w_
             go_wp2
             go_ret
             exact ⟨by first | rfl | (simp [errW_none, errW_some] <;> rfl) | (simp [*, errW_none, errW_some] <;> rfl), by repeat (first | (with_reducible first | exact HB.out | apply below_alloc | apply pw_below_drewN | apply below_drew1 | refine below_set ?_ GE101.out | refine below_set ?_ GE102.out) | exact HB.out)⟩
           ·rw [if_neg c21] at H
            have c21b0 : (x8_1 == x13_2) = false := beq_eq_false_iff_ne.mpr c21
            have c21b1 : (x8_1 != x13_2) = true := bne_iff_ne.mpr c21
            have H' := Aside0.mk H
            clear H
            have p27 : (0 ≤ (x13_2 : Int)) = True := eq_true (of_decide_eq_true (by first | (with_reducible assumption) | assumption))
            have q27 : ((x13_2 : Int) < 4) = True := eq_true (of_decide_eq_true (by first | (with_reducible assumption) | assumption))
            have hv28 : ∀ w_ : World, (Instr.index 22 (.agg (#[.int .i64 (ix4 a0_0 a0_4 a0_8 a0_12 x8_1), .int .i64 (ix4 a0_1 a0_5 a0_9 a0_13 x8_1), .int .i64 (ix4 a0_2 a0_6 a0_10 a0_14 x8_1), .int .i64 (ix4 a0_3 a0_7 a0_11 a0_15 x8_1)] : Array Value)) (.int .i64 x13_2)).run Try.prog w_ = .ok (.int .i64 (ix4 (ix4 a0_0 a0_4 a0_8 a0_12 x8_1) (ix4 a0_1 a0_5 a0_9 a0_13 x8_1) (ix4 a0_2 a0_6 a0_10 a0_14 x8_1) (ix4 a0_3 a0_7 a0_11 a0_15 x8_1) x13_2)) w_ := fun w_ => index_cell Try.underlying22 (by kernel_rfl) (by kernel_rfl) (by kernel_rfl) (of_decide_eq_true (by first | (with_reducible assumption) | assumption)) (of_decide_eq_true (by first | (with_reducible assumption) | assumption)) (ix_4 (Value.int .i64) _ _ _ _ x13_2 (of_decide_eq_true (by first | (with_reducible assumption) | assumption)) (of_decide_eq_true (by first | (with_reducible assumption) | assumption))) w_
            go_wp2
            go_roundg k2
            case measure => have := HK1.out; have := HK2.out; omega
            case rel => exact ⟨(wrap64 (x13_2 + 1)), (by first | rfl | (simp; done) | (simp [*]; done)), H', ⟨by have := HK1.out; have := HK2.out; omega⟩, ⟨by (with_reducible repeat (first | refine blk_drewN ?_ _ | refine blk_drew ?_ | refine blk_alloc ?_ _)); exact BK101.out⟩, ⟨by (with_reducible repeat (first | refine blk_drewN ?_ _ | refine blk_drew ?_ | refine blk_alloc ?_ _)); exact BK102.out⟩, ⟨by repeat (first | (with_reducible first | exact HB.out | apply below_alloc | apply pw_below_drewN | apply below_drew1 | refine below_set ?_ GE101.out | refine below_set ?_ GE102.out) | exact HB.out)⟩⟩
        ·rw [if_neg c14] at H
         exact absurd H (by simp)
       ·rw [if_neg c13] at H
        have c13b0 : decide (x13_2 < 4) = false := decide_eq_false c13
        clear c13
        have H' := Aside0.mk H
        clear H
        go_wp2
        go_roundg k2
        case measure => have := HK1.out; have := HK2.out; omega
        case rel => exact ⟨(wrap64 (x8_1 + 1)), (by first | rfl | (simp; done) | (simp [*]; done)), H', ⟨by have := HK1.out; have := HK2.out; omega⟩, ⟨by (with_reducible repeat (first | refine blk_drewN ?_ _ | refine blk_drew ?_ | refine blk_alloc ?_ _)); exact BK101.out⟩, ⟨by repeat (first | (with_reducible first | exact HB.out | apply below_alloc | apply pw_below_drewN | apply below_drew1 | refine below_set ?_ GE101.out | refine below_set ?_ GE102.out) | exact HB.out)⟩⟩
    ·rw [if_neg c5] at H
     exact absurd H (by simp)
   ·rw [if_neg c4] at H
    have c4b0 : decide (x8_1 < 4) = false := decide_eq_false c4
    clear c4
    obtain rfl := Option.some.inj H
    go_wp2
    go_ret
    exact ⟨by first | rfl | (simp [errW_none, errW_some] <;> rfl) | (simp [*, errW_none, errW_some] <;> rfl), by repeat (first | (with_reducible first | exact HB.out | apply below_alloc | apply pw_below_drewN | apply below_drew1 | refine below_set ?_ GE101.out) | exact HB.out)⟩

end Go.Proofs.Ytjbejbehbjhecaa.Q21
