/- Written by a program of this session out of the print of the loaded functions: each Go function as a plain function, and that its call comes to it; for a law, the row out of its plain statement. -/
import Derived.Test.YtmcajcomoegkdaaQ7x0
import Derived.Test.YtmcajcomoegkdaaQ7x113
import Derived.Test.YtmcajcomoegkdaaQ7x142
namespace Go.Proofs.Ytmcajcomoegkdaa.Q7
open Go.RowKit Go.Proofs.YtmcajcomoegkdaaW.PrintWords Go.Proofs.YtmcajcomoegkdaaW.PrintLast Go.Proofs.YtmcajcomoegkdaaW.PrintMore
attribute [local go_sem] max2_int min2_int max_two min_two max_three min_three max_four min_four   -- for this text's walks alone
set_option linter.unusedVariables false
set_option linter.unusedSimpArgs false

/-! ### lsa_Get: function 15 -/
mutual
def lsa_Get.j0 : Nat → ByteArray → Int → Bool → Option (Int × Int × Int × (List (S49)) × Int × Int)
 | 0, _, _, _ => none
 | k + 1, x0, x1, x29 => if x29 = true then (some (0, 0, 0, ([] : List (S49)), 0, 700)) else (if 0 ≤ x1 then (if x1 ≤ (x0.size : Int) then (if 0 < ((x0.extract (x1 : Int).toNat x0.size).size : Int) then (if 1 < ((x0.extract (x1 : Int).toNat x0.size).size : Int) then (if 2 ≤ 6 then (if 6 ≤ ((x0.extract (x1 : Int).toNat x0.size).size : Int) then ((lsa_Number.f k ((x0.extract (x1 : Int).toNat x0.size).extract 2 6)).bind fun t141 => (if 6 < ((x0.extract (x1 : Int).toNat x0.size).size : Int) then (if (wrap64 ((wrap64 (7 + (wrap64 (3 * (wrap64 (bt (x0.extract (x1 : Int).toNat x0.size) 6)))))) + 2)) > ((x0.extract (x1 : Int).toNat x0.size).size : Int) then (some (0, 0, 0, ([] : List (S49)), 0, 700)) else (lsa_Get.l0 k x1 (x0.extract (x1 : Int).toNat x0.size) (wrap64 ((wrap64 (7 + (wrap64 (3 * (wrap64 (bt (x0.extract (x1 : Int).toNat x0.size) 6)))))) + 2)) (wrap64 (bt (x0.extract (x1 : Int).toNat x0.size) 6)) 0 (wrap64 (bt (x0.extract (x1 : Int).toNat x0.size) 1)) t141 (wrap64 (bt (x0.extract (x1 : Int).toNat x0.size) 0)) ([] : List (S49)))) else (none))) else (none)) else (none)) else (none)) else (none)) else (none)) else (none))
def lsa_Get.l0 : Nat → Int → ByteArray → Int → Int → Int → Int → Int → Int → List (S49) → Option (Int × Int × Int × (List (S49)) × Int × Int)
 | 0, _, _, _, _, _, _, _, _, _ => none
 | k + 1, x1, x7, x10, x56, x57, x143000, x143001, x143002, x143003 => if x57 < x56 then (if 0 ≤ (wrap64 (7 + (wrap64 (3 * x57)))) then (if (wrap64 (7 + (wrap64 (3 * x57)))) ≤ (x7.size : Int) then (if 0 < ((x7.extract ((wrap64 (7 + (wrap64 (3 * x57)))) : Int).toNat x7.size).size : Int) then (if 1 ≤ 3 then (if 3 ≤ ((x7.extract ((wrap64 (7 + (wrap64 (3 * x57)))) : Int).toNat x7.size).size : Int) then ((lsa_Number.f k ((x7.extract ((wrap64 (7 + (wrap64 (3 * x57)))) : Int).toNat x7.size).extract 1 3)).bind fun t143 => (if x143003.length < 8796093022208 then (lsa_Get.l0 k x1 x7 x10 x56 (wrap64 (x57 + 1)) x143000 x143001 x143002 (x143003 ++ [(⟨wrap64 (bt (x7.extract ((wrap64 (7 + (wrap64 (3 * x57)))) : Int).toNat x7.size) 0), t143⟩ : S49)])) else (none))) else (none)) else (none)) else (none)) else (none)) else (none)) else ((lsa_Put.f k x143000 x143001 x143002 x143003).bind fun bt147 => (if bt147.2 = 0 then (if 0 ≤ x10 then (if x10 ≤ (x7.size : Int) then (if bt147.1.toList = (x7.extract 0 (x10 : Int).toNat).toList then (some (x143000, x143001, x143002, x143003, wrap64 (x1 + x10), 0)) else (some (0, 0, 0, ([] : List (S49)), 0, 700))) else (none)) else (none)) else (some (0, 0, 0, ([] : List (S49)), 0, 700))))
end
def lsa_Get.f (k : Nat) (a0 : ByteArray) (a1 : Int) : Option (Int × Int × Int × (List (S49)) × Int × Int) := if a1 < 0 then (lsa_Get.j0 k a0 a1 true) else (if a1 > (a0.size : Int) then (lsa_Get.j0 k a0 a1 true) else (lsa_Get.j0 k a0 a1 (decide ((wrap64 ((a0.size : Int) - a1)) < 7))))
theorem lsa_Get.mono_l : ∀ k, (∀ y0 y1 y2, LeO (lsa_Get.j0 k y0 y1 y2) (lsa_Get.j0 (k + 1) y0 y1 y2)) ∧ (∀ y0 y1 y2 y3 y4 y5 y6 y7 y8, LeO (lsa_Get.l0 k y0 y1 y2 y3 y4 y5 y6 y7 y8) (lsa_Get.l0 (k + 1) y0 y1 y2 y3 y4 y5 y6 y7 y8))
 | 0 => ⟨fun _ _ _ r h => by simp [lsa_Get.j0] at h, fun _ _ _ _ _ _ _ _ _ r h => by simp [lsa_Get.l0] at h⟩
 | k + 1 => by
  obtain ⟨ih0, ih1⟩ := lsa_Get.mono_l k
  refine ⟨?_, ?_⟩
  ·intro y0 y1 y2
   unfold lsa_Get.j0
   repeat' first
   | (with_reducible exact ih0 _ _ _)
   | (with_reducible exact ih1 _ _ _ _ _ _ _ _ _)
   | (with_reducible exact lsa_Number.mono _ _)
   | (with_reducible exact lsa_Put.mono _ _ _ _ _)
   | (with_reducible exact LeO.refl _)
   | (with_reducible exact LeO.none _)
   | (with_reducible refine LeO.ite ?_ ?_)
   | (with_reducible refine LeO.bind ?_ (fun _ => ?_))
   | exact ih0 _ _ _
   | exact ih1 _ _ _ _ _ _ _ _ _
   | exact lsa_Number.mono _ _
   | exact lsa_Put.mono _ _ _ _ _
   | exact LeO.none _
   | refine LeO.ite ?_ ?_
   | refine LeO.bind ?_ (fun _ => ?_)
  ·intro y0 y1 y2 y3 y4 y5 y6 y7 y8
   unfold lsa_Get.l0
   repeat' first
   | (with_reducible exact ih0 _ _ _)
   | (with_reducible exact ih1 _ _ _ _ _ _ _ _ _)
   | (with_reducible exact lsa_Number.mono _ _)
   | (with_reducible exact lsa_Put.mono _ _ _ _ _)
   | (with_reducible exact LeO.refl _)
   | (with_reducible exact LeO.none _)
   | (with_reducible refine LeO.ite ?_ ?_)
   | (with_reducible refine LeO.bind ?_ (fun _ => ?_))
   | exact ih0 _ _ _
   | exact ih1 _ _ _ _ _ _ _ _ _
   | exact lsa_Number.mono _ _
   | exact lsa_Put.mono _ _ _ _ _
   | exact LeO.none _
   | refine LeO.ite ?_ ?_
   | refine LeO.bind ?_ (fun _ => ?_)
theorem lsa_Get.mono : ∀ a0 a1 k, LeO (lsa_Get.f k a0 a1) (lsa_Get.f (k + 1) a0 a1) := by
 intro a0 a1 k
 obtain ⟨ih0, ih1⟩ := lsa_Get.mono_l k
 unfold lsa_Get.f
 repeat' first
   | (with_reducible exact ih0 _ _ _)
   | (with_reducible exact ih1 _ _ _ _ _ _ _ _ _)
   | (with_reducible exact lsa_Number.mono _ _)
   | (with_reducible exact lsa_Put.mono _ _ _ _ _)
   | (with_reducible exact LeO.refl _)
   | (with_reducible exact LeO.none _)
   | (with_reducible refine LeO.ite ?_ ?_)
   | (with_reducible refine LeO.bind ?_ (fun _ => ?_))
   | exact ih0 _ _ _
   | exact ih1 _ _ _ _ _ _ _ _ _
   | exact lsa_Number.mono _ _
   | exact lsa_Put.mono _ _ _ _ _
   | exact LeO.none _
   | refine LeO.ite ?_ ?_
   | refine LeO.bind ?_ (fun _ => ?_)
def lsa_Get.T4 : Bool × List (List Nat × List Nat) := (true, [([], []), ([0], [0]), ([1], [1]), ([], []), ([3], [3]), ([4], [4]), ([], []), ([6], [6]), ([7], [7]), ([2, 5, 8], [2, 5, 8]), ([], []), ([10, 9, 8, 0, 1, 2, 3, 4, 5, 6, 7, 8, 9, 10], [9, 10])])
def lsa_Get.B4 : List Nat := [0, 1, 3, 0, 8, 24, 0, 64, 192, 511, 0, 2047]
theorem lsa_Get.tab4 : rtab .any (opsOf Try.f15 4) = lsa_Get.T4 := by kernel_rfl
theorem lsa_Get.bits4 : waitsOk lsa_Get.T4.2 lsa_Get.B4 = true := by kernel_rfl
def lsa_Get.T13 : Bool × List (List Nat × List Nat) := (true, [([], []), ([0], [0]), ([], []), ([2], [2]), ([3], [3]), ([], []), ([5], [5]), ([6], [6]), ([4, 7], [4, 7]), ([8], [8]), ([1, 9, 7], [1, 9]), ([0, 1, 2, 3, 4, 5, 6, 7, 8, 9, 10], []), ([11, 10, 10, 0, 1, 2, 3, 4, 5, 6, 7, 8, 9, 10], [10, 11])])
def lsa_Get.B13 : List Nat := [0, 1, 0, 4, 12, 0, 32, 96, 252, 508, 1023, 2047, 4095]
theorem lsa_Get.tab13 : rtab .any (opsOf Try.f15 13) = lsa_Get.T13 := by kernel_rfl
theorem lsa_Get.bits13 : waitsOk lsa_Get.T13.2 lsa_Get.B13 = true := by kernel_rfl
set_option maxHeartbeats 8000000 in
set_option maxRecDepth 100000 in
theorem lsa_Get.calls (k : Nat) (a0 : ByteArray) (a1 : Int) (r1 : Int) (r2 : Int) (r3 : Int) (r4 : List (S49)) (r5 : Int) (r6 : Int) (w : World) (h : lsa_Get.f k a0 a1 = some (r1, r2, r3, r4, r5, r6)) :
  Calls Try.prog 15 #[.string a0, .int .i64 a1] w fun e w' => ∃ v3_ : Value, e = .returned (.tuple #[.agg #[.int .i64 r1, .int .i64 r2, .int .i64 r3, v3_], .int .i64 r5, .int .i64 r6]) ∧ Kd.R k49 49 w' w.heap.size (fun _ => True) v3_ r4 ∧ Below w.heap.size w w' := by
 have hu24 := Try.underlying24
 have hu49 := Try.underlying49
 have HB := Aside0.mk (Below.refl w.heap.size w)
 have H : (if a1 < 0 then (lsa_Get.j0 k a0 a1 true) else (if a1 > (a0.size : Int) then (lsa_Get.j0 k a0 a1 true) else (lsa_Get.j0 k a0 a1 (decide ((wrap64 ((a0.size : Int) - a1)) < 7))))) = some (r1, r2, r3, r4, r5, r6) := h
 clear h
 have HC3 := Aside0.mk H
 clear H
 go_enter Try.func15, Try.ntmps15
 go_upto_region 1 with (first | ((with_reducible refine gate_dst (N := 4) rfl ?_); (try (refine gate_guard (by rfl) ?_; dsimp only)); refine box_event ?hg (N := 4) ?hd (cs := #[.int .i64 0, .int .i64 0, .int .i64 0, .slice none 0 0]) (t := 24) ?hr ?_; (case hd => rfl); (case hg => rfl); (case hr => first | (go_simp; done) | (go_simp; rfl)); intro gb140 hg w4 hbox hb; have n0_ := Aside0.mk (below_step (by repeat (first | (with_reducible first | exact HB.out | apply below_alloc | apply pw_below_drewN | apply below_drew1) | exact HB.out)) hb); have n1_ := Aside0.mk (hbox); have n2_ := Aside0.mk ((by rw [hg]; exact (below_size (by repeat (first | (with_reducible first | exact HB.out | apply below_alloc | apply pw_below_drewN | apply below_drew1) | exact HB.out))) : w.heap.size ≤ gb140)); have n3_ := Aside0.mk ((by rw [hg]; exact (below_size (by repeat (first | (with_reducible first | exact HB.out | apply below_alloc | apply pw_below_drewN | apply below_drew1) | exact HB.out))) : w.heap.size ≤ gb140)); clear HB; have HB := n0_; have BK140 := n1_; have GW140 := n2_; have GE140 := n3_; clear n0_ n1_ n2_ n3_; clear hb hbox hg))
 (try simp only [Act.put, List.setIfInBounds_toArray, List.set_cons_zero, List.set_cons_succ])
 go_cut [29] (fun v29 wc => ∃ (kq : Nat) (x29_2 : Bool), v29 = .bool x29_2 ∧ Aside0 (lsa_Get.j0 kq a0 a1 x29_2 = some (r1, r2, r3, r4, r5, r6)) ∧ Aside0 (kq ≤ k) ∧ Aside0 (wc.heap[gb140]? = some (.cells #[.int .i64 0, .int .i64 0, .int .i64 0, (.slice none 0 0)] 24 (0, 0))) ∧ Aside0 (Below w.heap.size w wc))
 case first =>
  have H := HC3.out
  clear HC3
  by_cases c5 : a1 < 0
  ·rw [if_pos c5] at H
   have c5b0 : decide (a1 < 0) = true := decide_eq_true c5
   clear c5
   (first | rw [c5b0] | (simp only [i64_w, i32_w]; rw [c5b0]) | skip)
   have H' := Aside0.mk H
   clear H
   go_wp2
   go_meet
   case rel => exact ⟨_, (true), (by first | rfl | (simp; done) | (simp [*]; done)), H', ⟨by first | omega | exact Nat.le_refl _⟩, ⟨by (with_reducible repeat (first | refine blk_drewN ?_ _ | refine blk_drew ?_ | refine blk_alloc ?_ _)); exact BK140.out⟩, ⟨by repeat (first | (with_reducible first | exact HB.out | apply below_alloc | apply pw_below_drewN | apply below_drew1 | refine below_set ?_ GE140.out) | exact HB.out)⟩⟩
  ·rw [if_neg c5] at H
   have c5b0 : decide (a1 < 0) = false := decide_eq_false c5
   clear c5
   (first | rw [c5b0] | (simp only [i64_w, i32_w]; rw [c5b0]) | skip)
   by_cases c6 : a1 > (a0.size : Int)
   ·rw [if_pos c6] at H
    have c6b0 : decide ((a0.size : Int) < a1) = true := decide_eq_true c6
    clear c6
    have H' := Aside0.mk H
    clear H
    go_wp2
    go_meet
    case rel => exact ⟨_, (true), (by first | rfl | (simp; done) | (simp [*]; done)), H', ⟨by first | omega | exact Nat.le_refl _⟩, ⟨by (with_reducible repeat (first | refine blk_drewN ?_ _ | refine blk_drew ?_ | refine blk_alloc ?_ _)); exact BK140.out⟩, ⟨by repeat (first | (with_reducible first | exact HB.out | apply below_alloc | apply pw_below_drewN | apply below_drew1 | refine below_set ?_ GE140.out) | exact HB.out)⟩⟩
   ·rw [if_neg c6] at H
    have c6b0 : decide ((a0.size : Int) < a1) = false := decide_eq_false c6
    clear c6
    have H' := Aside0.mk H
    clear H
    go_wp2
    go_meet
    case rel => exact ⟨_, (decide ((wrap64 ((a0.size : Int) - a1)) < 7)), (by first | rfl | (simp; done) | (simp [*]; done)), H', ⟨by first | omega | exact Nat.le_refl _⟩, ⟨by (with_reducible repeat (first | refine blk_drewN ?_ _ | refine blk_drew ?_ | refine blk_alloc ?_ _)); exact BK140.out⟩, ⟨by repeat (first | (with_reducible first | exact HB.out | apply below_alloc | apply pw_below_drewN | apply below_drew1 | refine below_set ?_ GE140.out) | exact HB.out)⟩⟩
 case rest =>
  clear HC3
  try clear c1
  try clear p2
  try clear c5
  try clear c5b0
  try clear c6
  try clear c6b0
  try clear p6
  obtain ⟨kq, x29_2, rfl, HA, HJ2, BK140, HB⟩ := hcut
  cases kq with
  | zero => exact absurd HA.out (by simp [lsa_Get.j0])
  | succ kj2 =>
   have H := HA.out
   clear HA
   simp only [lsa_Get.j0] at H
   by_cases c7 : x29_2 = true
   ·subst c7
    have H1 : (some (0, 0, 0, ([] : List (S49)), 0, 700)) = some (r1, r2, r3, r4, r5, r6) := by rw [if_pos rfl] at H; exact H
    clear H
    have H := H1
    clear H1
    simp only [Option.some.injEq, Prod.mk.injEq] at H
    obtain ⟨rfl, rfl, rfl, rfl, rfl, rfl⟩ := H
    have hcz8_0 : wc.cell? ⟨gb140, 0, none⟩ = some (.int .i64 0) := (blk_cell BK140.out 0).trans rfl
    have hcz8_1 : wc.cell? ⟨gb140, 1, none⟩ = some (.int .i64 0) := (blk_cell BK140.out 1).trans rfl
    have hcz8_2 : wc.cell? ⟨gb140, 2, none⟩ = some (.int .i64 0) := (blk_cell BK140.out 2).trans rfl
    have hcz8_3 : wc.cell? ⟨gb140, 3, none⟩ = some (.slice none 0 0) := (blk_cell BK140.out 3).trans rfl
    have hfz8_0 := blk_frozen BK140.out 0
    have hfz8_1 := blk_frozen BK140.out 1
    have hfz8_2 := blk_frozen BK140.out 2
    have hfz8_3 := blk_frozen BK140.out 3
    go_wp2
    refine bodyPost_ret (results_ctt rfl _ _ gb140 24 #[.int .i64 0, .int .i64 0, .int .i64 0, .slice none 0 0] (0, 0) _ rfl (by (with_reducible repeat (first | refine blk_drewN ?_ _ | refine blk_drew ?_ | refine blk_alloc ?_ _)); refine blk_put (cs := #[.int .i64 0, .int .i64 0, .int .i64 0, .slice none 0 0]) ?_ 3 _ rfl; (with_reducible repeat (first | refine blk_drewN ?_ _ | refine blk_drew ?_ | refine blk_alloc ?_ _)); refine blk_put (cs := #[.int .i64 0, .int .i64 0, .int .i64 0, .slice none 0 0]) ?_ 2 _ rfl; (with_reducible repeat (first | refine blk_drewN ?_ _ | refine blk_drew ?_ | refine blk_alloc ?_ _)); refine blk_put (cs := #[.int .i64 0, .int .i64 0, .int .i64 0, .slice none 0 0]) ?_ 1 _ rfl; (with_reducible repeat (first | refine blk_drewN ?_ _ | refine blk_drew ?_ | refine blk_alloc ?_ _)); refine blk_put (cs := #[.int .i64 0, .int .i64 0, .int .i64 0, .slice none 0 0]) ?_ 0 _ rfl; (with_reducible repeat (first | refine blk_drewN ?_ _ | refine blk_drew ?_ | refine blk_alloc ?_ _)); exact BK140.out) Try.underlying24 rfl (by kernel_rfl)) rfl ?_
    exact ⟨_, by first | rfl | (simp [errW_none, errW_some] <;> rfl) | (simp [*, errW_none, errW_some] <;> rfl), by first | exact Kd.R_nil _ _ _ _ _ | exact Kd.N_nil _ _ _ _ _ | exact Kd.V_nil _ _ _ _ _ | exact Kd.Q_nil _ _ _ _ _ | exact Kd.S_nil _ _ _ _ _, by repeat (first | (with_reducible first | exact HB.out | apply below_alloc | apply pw_below_drewN | apply below_drew1 | refine below_set ?_ GE140.out) | exact HB.out)⟩
   ·replace c7 := Bool.eq_false_iff.mpr c7
    subst c7
    have H1 : (if 0 ≤ a1 then (if a1 ≤ (a0.size : Int) then (if 0 < ((a0.extract (a1 : Int).toNat a0.size).size : Int) then (if 1 < ((a0.extract (a1 : Int).toNat a0.size).size : Int) then (if 2 ≤ 6 then (if 6 ≤ ((a0.extract (a1 : Int).toNat a0.size).size : Int) then ((lsa_Number.f kj2 ((a0.extract (a1 : Int).toNat a0.size).extract 2 6)).bind fun t141 => (if 6 < ((a0.extract (a1 : Int).toNat a0.size).size : Int) then (if (wrap64 ((wrap64 (7 + (wrap64 (3 * (wrap64 (bt (a0.extract (a1 : Int).toNat a0.size) 6)))))) + 2)) > ((a0.extract (a1 : Int).toNat a0.size).size : Int) then (some (0, 0, 0, ([] : List (S49)), 0, 700)) else (lsa_Get.l0 kj2 a1 (a0.extract (a1 : Int).toNat a0.size) (wrap64 ((wrap64 (7 + (wrap64 (3 * (wrap64 (bt (a0.extract (a1 : Int).toNat a0.size) 6)))))) + 2)) (wrap64 (bt (a0.extract (a1 : Int).toNat a0.size) 6)) 0 (wrap64 (bt (a0.extract (a1 : Int).toNat a0.size) 1)) t141 (wrap64 (bt (a0.extract (a1 : Int).toNat a0.size) 0)) ([] : List (S49)))) else (none))) else (none)) else (none)) else (none)) else (none)) else (none)) else (none)) = some (r1, r2, r3, r4, r5, r6) := by rw [if_neg (show ¬ (false = true) by decide)] at H; exact H
    clear H
    have H := H1
    clear H1
    by_cases c9 : 0 ≤ a1
    ·rw [if_pos c9] at H
     have c9b0 := eq_true c9
     have c9b1 : decide (0 ≤ a1) = true := decide_eq_true c9
     clear c9
     by_cases c10 : a1 ≤ (a0.size : Int)
     ·rw [if_pos c10] at H
      have c10b0 := eq_true c10
      have c10b1 : decide (a1 ≤ (a0.size : Int)) = true := decide_eq_true c10
      clear c10
      by_cases c11 : 0 < ((a0.extract (a1 : Int).toNat a0.size).size : Int)
      ·rw [if_pos c11] at H
       have c11b0 : decide (0 < ((a0.extract (a1 : Int).toNat a0.size).size : Int)) = true := decide_eq_true c11
       (try (have c11f0 := c11b0; simp only [ByteArray.size_extract, Nat.min_self] at c11f0))
       have c11b1 : decide (0 < (a0.extract (a1 : Int).toNat a0.size).size) = true := decide_eq_true (by omega)
       (try (have c11f1 := c11b1; simp only [ByteArray.size_extract, Nat.min_self] at c11f1))
       clear c11
       by_cases c13 : 1 < ((a0.extract (a1 : Int).toNat a0.size).size : Int)
       ·rw [if_pos c13] at H
        have c13b0 : decide (1 < ((a0.extract (a1 : Int).toNat a0.size).size : Int)) = true := decide_eq_true c13
        (try (have c13f0 := c13b0; simp only [ByteArray.size_extract, Nat.min_self] at c13f0))
        have c13b1 : decide (1 < (a0.extract (a1 : Int).toNat a0.size).size) = true := decide_eq_true (by omega)
        (try (have c13f1 := c13b1; simp only [ByteArray.size_extract, Nat.min_self] at c13f1))
        clear c13
        by_cases c15 : 2 ≤ 6
        ·rw [if_pos c15] at H
         have c15b0 := eq_true c15
         have c15b1 : decide (2 ≤ 6) = true := decide_eq_true c15
         clear c15
         by_cases c16 : 6 ≤ ((a0.extract (a1 : Int).toNat a0.size).size : Int)
         ·rw [if_pos c16] at H
          (try (have c16p := c16; simp only [ByteArray.size_extract] at c16p))
          (try (have c16o := c16; simp only [ByteArray.size_extract, Nat.min_self] at c16o))
          have c16b0 := eq_true c16
          have c16b1 : decide (6 ≤ ((a0.extract (a1 : Int).toNat a0.size).size : Int)) = true := decide_eq_true c16
          (try (have c16f1 := c16b1; simp only [ByteArray.size_extract, Nat.min_self] at c16f1))
          clear c16
          replace H := Option.bind_eq_some_iff.mp H
          obtain ⟨t141, A170, H⟩ := H
          replace H : (if 6 < ((a0.extract (a1 : Int).toNat a0.size).size : Int) then (if (wrap64 ((wrap64 (7 + (wrap64 (3 * (wrap64 (bt (a0.extract (a1 : Int).toNat a0.size) 6)))))) + 2)) > ((a0.extract (a1 : Int).toNat a0.size).size : Int) then (some (0, 0, 0, ([] : List (S49)), 0, 700)) else (lsa_Get.l0 kj2 a1 (a0.extract (a1 : Int).toNat a0.size) (wrap64 ((wrap64 (7 + (wrap64 (3 * (wrap64 (bt (a0.extract (a1 : Int).toNat a0.size) 6)))))) + 2)) (wrap64 (bt (a0.extract (a1 : Int).toNat a0.size) 6)) 0 (wrap64 (bt (a0.extract (a1 : Int).toNat a0.size) 1)) t141 (wrap64 (bt (a0.extract (a1 : Int).toNat a0.size) 0)) ([] : List (S49)))) else (none)) = some (r1, r2, r3, r4, r5, r6) := H
          have A17 := Aside0.mk A170
          clear A170
          by_cases c18 : 6 < ((a0.extract (a1 : Int).toNat a0.size).size : Int)
          ·rw [if_pos c18] at H
           have c18b0 : decide (6 < ((a0.extract (a1 : Int).toNat a0.size).size : Int)) = true := decide_eq_true c18
           (try (have c18f0 := c18b0; simp only [ByteArray.size_extract, Nat.min_self] at c18f0))
           have c18b1 : decide (6 < (a0.extract (a1 : Int).toNat a0.size).size) = true := decide_eq_true (by omega)
           (try (have c18f1 := c18b1; simp only [ByteArray.size_extract, Nat.min_self] at c18f1))
           clear c18
           by_cases c20 : (wrap64 ((wrap64 (7 + (wrap64 (3 * (wrap64 (bt (a0.extract (a1 : Int).toNat a0.size) 6)))))) + 2)) > ((a0.extract (a1 : Int).toNat a0.size).size : Int)
           ·rw [if_pos c20] at H
            have c20b0 : decide (((a0.extract (a1 : Int).toNat a0.size).size : Int) < (wrap64 ((wrap64 (7 + (wrap64 (3 * (wrap64 (bt (a0.extract (a1 : Int).toNat a0.size) 6)))))) + 2))) = true := decide_eq_true c20
            (try (have c20f0 := c20b0; simp only [ByteArray.size_extract, Nat.min_self] at c20f0))
            clear c20
            simp only [Option.some.injEq, Prod.mk.injEq] at H
            obtain ⟨rfl, rfl, rfl, rfl, rfl, rfl⟩ := H
            try go_wp2
            have n0_ := Aside0.mk (blk_drew BK140.out)
            have n1_ := Aside0.mk (below_drew1 HB.out)
            clear BK140
            clear HB
            have BK140 := n0_
            have HB := n1_
            clear n0_ n1_
            have p12 : 0 ≤ (0 : Int) := (by omega)
            have q12 : 0 < (a0.extract (a1 : Int).toNat a0.size).size := (by have : (0 : Int) < ((a0.extract (a1 : Int).toNat a0.size).size : Int) := of_decide_eq_true (by first | (with_reducible assumption) | assumption); omega)
            have hx12 : ∀ h : 0 < (a0.extract (a1 : Int).toNat a0.size).size, (((a0.extract (a1 : Int).toNat a0.size)[0]'h).toNat : Int) = bt (a0.extract (a1 : Int).toNat a0.size) 0 := bt_at (a0.extract (a1 : Int).toNat a0.size) 0
            clear p12
            have qi12 : (0 < ((a0.extract (a1 : Int).toNat a0.size).size : Int)) = True := eq_true (of_decide_eq_true (by first | (with_reducible assumption) | assumption))
            replace q12 := eq_true q12
            (try (have qo12 := of_eq_true q12; simp only [ByteArray.size_extract, Nat.min_self] at qo12))
            (try (have qj12 := of_eq_true qi12; simp only [ByteArray.size_extract, Nat.min_self] at qj12))
            have p14 : 0 ≤ (1 : Int) := (by omega)
            have q14 : 1 < (a0.extract (a1 : Int).toNat a0.size).size := (by have : (1 : Int) < ((a0.extract (a1 : Int).toNat a0.size).size : Int) := of_decide_eq_true (by first | (with_reducible assumption) | assumption); omega)
            have hx14 : ∀ h : 1 < (a0.extract (a1 : Int).toNat a0.size).size, (((a0.extract (a1 : Int).toNat a0.size)[1]'h).toNat : Int) = bt (a0.extract (a1 : Int).toNat a0.size) 1 := bt_at (a0.extract (a1 : Int).toNat a0.size) 1
            clear p14
            have qi14 : (1 < ((a0.extract (a1 : Int).toNat a0.size).size : Int)) = True := eq_true (of_decide_eq_true (by first | (with_reducible assumption) | assumption))
            replace q14 := eq_true q14
            (try (have qo14 := of_eq_true q14; simp only [ByteArray.size_extract, Nat.min_self] at qo14))
            (try (have qj14 := of_eq_true qi14; simp only [ByteArray.size_extract, Nat.min_self] at qj14))
            refine start_ (n := 12) (S := fun w' => True) (ds := []) #[false, false, false, false, false, false, false, false, false, false, false, false] (by kernel_rfl) rfl rfl trivial (fun hHeld => ?_); refine with_tabW lsa_Get.tab4 lsa_Get.bits4 (fun HT_ HW_ => ?_)
            generalize wc.drew = w21 at BK140 HB hHeld ⊢
            refine pure_ (i := 0) (N := some 34) (v := ?_) (a' := ?_) #[true, false, false, false, false, false, false, false, false, false, false, false] rfl rfl (any_of HT_.out (by kernel_rfl)) (fun _ _ _ h => h) (Or.inl ⟨by rfl, ?_⟩) ?_ ?_
            rotate_left
            ·intro w'
             go_simp
             with_reducible rfl
            rotate_left
            ·simp only [Act.put, List.setIfInBounds_toArray, List.set_cons_zero, List.set_cons_succ, i64_w, i32_w]
             rfl
            refine pure_ (i := 3) (N := some 37) (v := ?_) (a' := ?_) #[true, false, false, true, false, false, false, false, false, false, false, false] rfl rfl (any_of HT_.out (by kernel_rfl)) (fun _ _ _ h => h) (Or.inl ⟨by rfl, ?_⟩) ?_ ?_
            rotate_left
            ·intro w'
             go_simp
             with_reducible rfl
            rotate_left
            ·simp only [Act.put, List.setIfInBounds_toArray, List.set_cons_zero, List.set_cons_succ, i64_w, i32_w]
             rfl
            refine pure_ (i := 6) (N := some 40) (v := ?_) (a' := ?_) #[true, false, false, true, false, false, true, false, false, false, false, false] rfl rfl (any_of HT_.out (by kernel_rfl)) (fun _ _ _ h => h) (Or.inl ⟨by rfl, ?_⟩) ?_ ?_
            rotate_left
            ·intro w'
             go_simp
             with_reducible rfl
            rotate_left
            ·simp only [Act.put, List.setIfInBounds_toArray, List.set_cons_zero, List.set_cons_succ, i64_w, i32_w]
             rfl
            refine pure_ (i := 7) (N := some 41) (v := ?_) (a' := ?_) #[true, false, false, true, false, false, true, true, false, false, false, false] rfl rfl (any_of HT_.out (by kernel_rfl)) (fun _ _ _ h => h) (Or.inl ⟨by rfl, ?_⟩) ?_ ?_
            rotate_left
            ·intro w'
             go_simp
             with_reducible rfl
            rotate_left
            ·simp only [Act.put, List.setIfInBounds_toArray, List.set_cons_zero, List.set_cons_succ, i64_w, i32_w]
             rfl
            refine take_ (i := 1) (N := some 35) (v := ?_) (a' := ?_) #[true, true, false, true, false, false, true, true, false, false, false, false] rfl rfl (take_ofW HT_.out HW_.out (by kernel_rfl)) (fun _ _ _ h => h) (Or.inl ⟨by rfl, ?_⟩) hHeld ?_ ?_
            rotate_left
            ·intro w' _
             go_simp
             with_reducible rfl
            rotate_left
            ·simp only [Act.put, List.setIfInBounds_toArray, List.set_cons_zero, List.set_cons_succ, i64_w, i32_w]
             rfl
            refine pure_ (i := 2) (N := some 36) (v := ?_) (a' := ?_) #[true, true, true, true, false, false, true, true, false, false, false, false] rfl rfl (any_of HT_.out (by kernel_rfl)) (fun _ _ _ h => h) (Or.inl ⟨by rfl, ?_⟩) ?_ ?_
            rotate_left
            ·intro w'
             go_simp
             with_reducible rfl
            rotate_left
            ·simp only [Act.put, List.setIfInBounds_toArray, List.set_cons_zero, List.set_cons_succ, i64_w, i32_w]
             rfl
            refine take_ (i := 4) (N := some 38) (v := ?_) (a' := ?_) #[true, true, true, true, true, false, true, true, false, false, false, false] rfl rfl (take_ofW HT_.out HW_.out (by kernel_rfl)) (fun _ _ _ h => h) (Or.inl ⟨by rfl, ?_⟩) hHeld ?_ ?_
            rotate_left
            ·intro w' _
             go_simp
             with_reducible rfl
            rotate_left
            ·simp only [Act.put, List.setIfInBounds_toArray, List.set_cons_zero, List.set_cons_succ, i64_w, i32_w]
             rfl
            refine pure_ (i := 5) (N := some 39) (v := ?_) (a' := ?_) #[true, true, true, true, true, true, true, true, false, false, false, false] rfl rfl (any_of HT_.out (by kernel_rfl)) (fun _ _ _ h => h) (Or.inl ⟨by rfl, ?_⟩) ?_ ?_
            rotate_left
            ·intro w'
             go_simp
             with_reducible rfl
            rotate_left
            ·simp only [Act.put, List.setIfInBounds_toArray, List.set_cons_zero, List.set_cons_succ, i64_w, i32_w]
             rfl
            refine join_ (σ := Nat) 1 #[true, true, true, true, true, true, true, true, true, true, true, false] (fun s_ => [(42, .int .i64 t141), (8, .pointer (some ⟨s_, 0, none⟩)), (43, .agg #[.int .i64 (wrap64 (bt (a0.extract (a1 : Int).toNat a0.size) 1)), .int .i64 t141, .int .i64 (wrap64 (bt (a0.extract (a1 : Int).toNat a0.size) 0)), .slice none 0 0])]) (fun s_ w' => (w'.heap[gb140]? = some (.cells #[.int .i64 0, .int .i64 0, .int .i64 0, .slice none 0 0] 24 (0, 0))) ∧ (w'.heap[s_]? = some (.cells #[.int .i64 0, .int .i64 0, .int .i64 0, .slice none 0 0] 24 (0, 0))) ∧ (w.heap.size ≤ s_) ∧ (w.heap.size ≤ s_) ∧ (gb140 ≠ s_) ∧ (s_ ≠ gb140) ∧ (Below w.heap.size w w')) ?_ ?_
            rotate_left
            ·intro hCont
             refine two_ (i := 8) (j := 10) (Ni := some 42) (Nj := some 8) #[true, true, true, true, true, true, true, true, true, false, false, false] #[true, true, true, true, true, true, true, true, false, false, true, false] rfl rfl rfl rfl (two_of HT_.out (by kernel_rfl)) (by decide) (by decide) (fun K hK => ?_) (fun K hK => ?_)
             ·skip
              refine goes_ Try.func42 (by kernel_rfl) rfl #[.string ((a0.extract (a1 : Int).toNat a0.size).extract 2 6)] (by rfl) rfl rfl (by (try simp only [List.map_toArray, List.map_cons, List.map_nil]); first | done | rfl | (simp only [List.length_drop, List.length_take]; rfl)) ?_
              with_reducible refine (lsa_Number.calls kj2 ((a0.extract (a1 : Int).toNat a0.size).extract 2 6) t141 _ A17.out).mono ?_
              rintro e w' ⟨rfl, ⟨nd, rfl⟩⟩
              refine ⟨_, rfl, ?_⟩
              refine hK.out _ _ trivial (fun hHeld => ?_)
              clear hK K
              refine norm_ (a' := ?_) ?_ ?_
              rotate_left
              ·show Act.put _ (some 42) _ = _
               simp only [Act.put, List.setIfInBounds_toArray, List.set_cons_zero, List.set_cons_succ, i64_w, i32_w]
               rfl
              refine pure_ (i := 9) (N := some 43) (v := ?_) (a' := ?_) #[true, true, true, true, true, true, true, true, true, true, false, false] rfl rfl (any_of HT_.out (by kernel_rfl)) (fun _ _ _ h => h) (Or.inl ⟨by rfl, ?_⟩) ?_ ?_
              rotate_left
              ·intro w'
               go_simp
               with_reducible rfl
              rotate_left
              ·simp only [Act.put, List.setIfInBounds_toArray, List.set_cons_zero, List.set_cons_succ, i64_w, i32_w]
               rfl
              refine one_ (i := 10) (N := some 8) #[true, true, true, true, true, true, true, true, true, true, true, false] rfl rfl (one_of HT_.out (by kernel_rfl)) (by decide) (fun K hK => ?_)
              refine box_step ?hg (N := 8) ?hd (cs := #[.int .i64 0, .int .i64 0, .int .i64 0, .slice none 0 0]) (t := 24) ?hr ?_; (case hd => rfl); (case hg => rfl); (case hr => first | (go_simp; done) | (go_simp; rfl))
              intro gb142 hg w22 hbox hb
              have n0_ := Aside0.mk (blk_below (g := gb140) (o := .cells #[.int .i64 0, .int .i64 0, .int .i64 0, .slice none 0 0] 24 (0, 0)) (by (with_reducible repeat (first | refine blk_drewN ?_ _ | refine blk_drew ?_ | refine blk_alloc ?_ _)); exact BK140.out) hb)
              have n1_ := Aside0.mk (below_step (by repeat (first | (with_reducible first | exact HB.out | apply below_alloc | apply pw_below_drewN | apply below_drew1 | refine below_set ?_ GE140.out) | exact HB.out)) hb)
              have n2_ := Aside0.mk (hbox)
              have n3_ := Aside0.mk ((by rw [hg]; exact (below_size (by repeat (first | (with_reducible first | exact HB.out | apply below_alloc | apply pw_below_drewN | apply below_drew1 | refine below_set ?_ GE140.out) | exact HB.out))) : w.heap.size ≤ gb142))
              have n4_ := Aside0.mk ((by rw [hg]; exact (below_size (by repeat (first | (with_reducible first | exact HB.out | apply below_alloc | apply pw_below_drewN | apply below_drew1 | refine below_set ?_ GE140.out) | exact HB.out))) : w.heap.size ≤ gb142))
              have n5_ := Aside0.mk ((by rw [hg]; exact Nat.ne_of_lt (blk_lt (g := gb140) (o := .cells #[.int .i64 0, .int .i64 0, .int .i64 0, .slice none 0 0] 24 (0, 0)) (by (with_reducible repeat (first | refine blk_drewN ?_ _ | refine blk_drew ?_ | refine blk_alloc ?_ _)); exact BK140.out)) : gb140 ≠ gb142))
              have n6_ := Aside0.mk ((by rw [hg]; exact Nat.ne_of_gt (blk_lt (g := gb140) (o := .cells #[.int .i64 0, .int .i64 0, .int .i64 0, .slice none 0 0] 24 (0, 0)) (by (with_reducible repeat (first | refine blk_drewN ?_ _ | refine blk_drew ?_ | refine blk_alloc ?_ _)); exact BK140.out)) : gb142 ≠ gb140))
              clear BK140
              clear HB
              have BK140 := n0_
              have HB := n1_
              have BK142 := n2_
              have GW142 := n3_
              have GE142 := n4_
              have NB140_142 := n5_
              have NB142_140 := n6_
              clear n0_ n1_ n2_ n3_ n4_ n5_ n6_
              clear hb hbox hg
              refine hK.out _ _ trivial (fun hHeld => ?_)
              clear hK K
              refine norm_ (a' := ?_) ?_ ?_
              rotate_left
              ·show Act.put _ (some 8) _ = _
               simp only [Act.put, List.setIfInBounds_toArray, List.set_cons_zero, List.set_cons_succ, i64_w, i32_w]
               rfl
              exact norm_ (by simp only [putAll, Act.put, List.setIfInBounds_toArray, List.set_cons_zero, List.set_cons_succ]) (hCont (gb142) _ ⟨(by (with_reducible repeat (first | refine blk_drewN ?_ _ | refine blk_drew ?_ | refine blk_alloc ?_ _)); exact BK140.out), (by (with_reducible repeat (first | refine blk_drewN ?_ _ | refine blk_drew ?_ | refine blk_alloc ?_ _)); exact BK142.out), GW142.out, GE142.out, NB140_142.out, NB142_140.out, (by repeat (first | (with_reducible first | exact HB.out | apply below_alloc | apply pw_below_drewN | apply below_drew1 | refine below_set ?_ GE140.out | refine below_set ?_ GE142.out) | exact HB.out))⟩)
             ·skip
              refine box_step ?hg (N := 8) ?hd (cs := #[.int .i64 0, .int .i64 0, .int .i64 0, .slice none 0 0]) (t := 24) ?hr ?_; (case hd => rfl); (case hg => rfl); (case hr => first | (go_simp; done) | (go_simp; rfl))
              intro gb142 hg w22 hbox hb
              have n0_ := Aside0.mk (blk_below (g := gb140) (o := .cells #[.int .i64 0, .int .i64 0, .int .i64 0, .slice none 0 0] 24 (0, 0)) (by (with_reducible repeat (first | refine blk_drewN ?_ _ | refine blk_drew ?_ | refine blk_alloc ?_ _)); exact BK140.out) hb)
              have n1_ := Aside0.mk (below_step (by repeat (first | (with_reducible first | exact HB.out | apply below_alloc | apply pw_below_drewN | apply below_drew1 | refine below_set ?_ GE140.out) | exact HB.out)) hb)
              have n2_ := Aside0.mk (hbox)
              have n3_ := Aside0.mk ((by rw [hg]; exact (below_size (by repeat (first | (with_reducible first | exact HB.out | apply below_alloc | apply pw_below_drewN | apply below_drew1 | refine below_set ?_ GE140.out) | exact HB.out))) : w.heap.size ≤ gb142))
              have n4_ := Aside0.mk ((by rw [hg]; exact (below_size (by repeat (first | (with_reducible first | exact HB.out | apply below_alloc | apply pw_below_drewN | apply below_drew1 | refine below_set ?_ GE140.out) | exact HB.out))) : w.heap.size ≤ gb142))
              have n5_ := Aside0.mk ((by rw [hg]; exact Nat.ne_of_lt (blk_lt (g := gb140) (o := .cells #[.int .i64 0, .int .i64 0, .int .i64 0, .slice none 0 0] 24 (0, 0)) (by (with_reducible repeat (first | refine blk_drewN ?_ _ | refine blk_drew ?_ | refine blk_alloc ?_ _)); exact BK140.out)) : gb140 ≠ gb142))
              have n6_ := Aside0.mk ((by rw [hg]; exact Nat.ne_of_gt (blk_lt (g := gb140) (o := .cells #[.int .i64 0, .int .i64 0, .int .i64 0, .slice none 0 0] 24 (0, 0)) (by (with_reducible repeat (first | refine blk_drewN ?_ _ | refine blk_drew ?_ | refine blk_alloc ?_ _)); exact BK140.out)) : gb142 ≠ gb140))
              clear BK140
              clear HB
              have BK140 := n0_
              have HB := n1_
              have BK142 := n2_
              have GW142 := n3_
              have GE142 := n4_
              have NB140_142 := n5_
              have NB142_140 := n6_
              clear n0_ n1_ n2_ n3_ n4_ n5_ n6_
              clear hb hbox hg
              refine hK.out _ _ trivial (fun hHeld => ?_)
              clear hK K
              refine norm_ (a' := ?_) ?_ ?_
              rotate_left
              ·show Act.put _ (some 8) _ = _
               simp only [Act.put, List.setIfInBounds_toArray, List.set_cons_zero, List.set_cons_succ, i64_w, i32_w]
               rfl
              refine one_ (i := 8) (N := some 42) #[true, true, true, true, true, true, true, true, true, false, true, false] rfl rfl (one_of HT_.out (by kernel_rfl)) (by decide) (fun K hK => ?_)
              refine goes_ Try.func42 (by kernel_rfl) rfl #[.string ((a0.extract (a1 : Int).toNat a0.size).extract 2 6)] (by rfl) rfl rfl (by (try simp only [List.map_toArray, List.map_cons, List.map_nil]); first | done | rfl | (simp only [List.length_drop, List.length_take]; rfl)) ?_
              with_reducible refine (lsa_Number.calls kj2 ((a0.extract (a1 : Int).toNat a0.size).extract 2 6) t141 _ A17.out).mono ?_
              rintro e w' ⟨rfl, ⟨nd, rfl⟩⟩
              refine ⟨_, rfl, ?_⟩
              refine hK.out _ _ trivial (fun hHeld => ?_)
              clear hK K
              refine norm_ (a' := ?_) ?_ ?_
              rotate_left
              ·show Act.put _ (some 42) _ = _
               simp only [Act.put, List.setIfInBounds_toArray, List.set_cons_zero, List.set_cons_succ, i64_w, i32_w]
               rfl
              refine pure_ (i := 9) (N := some 43) (v := ?_) (a' := ?_) #[true, true, true, true, true, true, true, true, true, true, true, false] rfl rfl (any_of HT_.out (by kernel_rfl)) (fun _ _ _ h => h) (Or.inl ⟨by rfl, ?_⟩) ?_ ?_
              rotate_left
              ·intro w'
               go_simp
               with_reducible rfl
              rotate_left
              ·simp only [Act.put, List.setIfInBounds_toArray, List.set_cons_zero, List.set_cons_succ, i64_w, i32_w]
               rfl
              exact norm_ (by simp only [putAll, Act.put, List.setIfInBounds_toArray, List.set_cons_zero, List.set_cons_succ]) (hCont (gb142) _ ⟨(by (with_reducible repeat (first | refine blk_drewN ?_ _ | refine blk_drew ?_ | refine blk_alloc ?_ _)); exact BK140.out), (by (with_reducible repeat (first | refine blk_drewN ?_ _ | refine blk_drew ?_ | refine blk_alloc ?_ _)); exact BK142.out), GW142.out, GE142.out, NB140_142.out, NB142_140.out, (by repeat (first | (with_reducible first | exact HB.out | apply below_alloc | apply pw_below_drewN | apply below_drew1 | refine below_set ?_ GE140.out | refine below_set ?_ GE142.out) | exact HB.out))⟩)
            rintro gb142 w23 ⟨h0_, h1_, h2_, h3_, h4_, h5_, h6_⟩
            have n0_ : Aside0 (w23.heap[gb140]? = some (.cells #[.int .i64 0, .int .i64 0, .int .i64 0, .slice none 0 0] 24 (0, 0))) := ⟨h0_⟩
            have n1_ : Aside0 (w23.heap[gb142]? = some (.cells #[.int .i64 0, .int .i64 0, .int .i64 0, .slice none 0 0] 24 (0, 0))) := ⟨h1_⟩
            have n2_ : Aside0 (w.heap.size ≤ gb142) := ⟨h2_⟩
            have n3_ : Aside0 (w.heap.size ≤ gb142) := ⟨h3_⟩
            have n4_ : Aside0 (gb140 ≠ gb142) := ⟨h4_⟩
            have n5_ : Aside0 (gb142 ≠ gb140) := ⟨h5_⟩
            have n6_ : Aside0 (Below w.heap.size w w23) := ⟨h6_⟩
            clear BK140
            clear HB
            clear h0_ h1_ h2_ h3_ h4_ h5_ h6_
            have BK140 := n0_
            have BK142 := n1_
            have GW142 := n2_
            have GE142 := n3_
            have NB140_142 := n4_
            have NB142_140 := n5_
            have HB := n6_
            clear n0_ n1_ n2_ n3_ n4_ n5_ n6_
            have hHeld := trivial
            refine norm_ (a' := ?_) ?_ ?_
            rotate_left
            ·simp only [putAll, Act.put, List.setIfInBounds_toArray, List.set_cons_zero, List.set_cons_succ]
             rfl
            refine one_ (i := 11) (N := none) #[true, true, true, true, true, true, true, true, true, true, true, true] rfl rfl (one_of HT_.out (by kernel_rfl)) (by decide) (fun K hK => ?_)
            have hs24 : w23.cell? ⟨gb142, 0, none⟩ = some (.int .i64 0) := (blk_cell BK142.out 0).trans rfl
            have hfs24 := blk_frozen BK142.out 0
            have hns24_0 := NB140_142.out
            have hms24_0 := NB142_140.out
            have hs25 : w23.cell? ⟨gb142, 1, none⟩ = some (.int .i64 0) := (blk_cell BK142.out 1).trans rfl
            have hfs25 := blk_frozen BK142.out 1
            have hns25_0 := NB140_142.out
            have hms25_0 := NB142_140.out
            have hs26 : w23.cell? ⟨gb142, 2, none⟩ = some (.int .i64 0) := (blk_cell BK142.out 2).trans rfl
            have hfs26 := blk_frozen BK142.out 2
            have hns26_0 := NB140_142.out
            have hms26_0 := NB142_140.out
            have hs27 : w23.cell? ⟨gb142, 3, none⟩ = some (.slice none 0 0) := (blk_cell BK142.out 3).trans rfl
            have hfs27 := blk_frozen BK142.out 3
            have hns27_0 := NB140_142.out
            have hms27_0 := NB142_140.out
            refine skip_ (w1 := ?_) (by rfl) rfl ?_ ?_
            rotate_left
            ·go_simp
             rfl
            refine hK.out _ _ trivial (fun hHeld => ?_)
            clear hK K
            refine done_ (done_of HT_.out (by kernel_rfl)) ?_
            have p19 : 0 ≤ (6 : Int) := (by omega)
            have q19 : 6 < (a0.extract (a1 : Int).toNat a0.size).size := (by have : (6 : Int) < ((a0.extract (a1 : Int).toNat a0.size).size : Int) := of_decide_eq_true (by first | (with_reducible assumption) | assumption); omega)
            have hx19 : ∀ h : 6 < (a0.extract (a1 : Int).toNat a0.size).size, (((a0.extract (a1 : Int).toNat a0.size)[6]'h).toNat : Int) = bt (a0.extract (a1 : Int).toNat a0.size) 6 := bt_at (a0.extract (a1 : Int).toNat a0.size) 6
            clear p19
            have qi19 : (6 < ((a0.extract (a1 : Int).toNat a0.size).size : Int)) = True := eq_true (of_decide_eq_true (by first | (with_reducible assumption) | assumption))
            replace q19 := eq_true q19
            (try (have qo19 := of_eq_true q19; simp only [ByteArray.size_extract, Nat.min_self] at qo19))
            (try (have qj19 := of_eq_true qi19; simp only [ByteArray.size_extract, Nat.min_self] at qj19))
            have hnb28 := NB140_142.out
            have hnc28 := NB142_140.out
            have hcz29_0 : w23.cell? ⟨gb140, 0, none⟩ = some (.int .i64 0) := (blk_cell BK140.out 0).trans rfl
            have hcz29_1 : w23.cell? ⟨gb140, 1, none⟩ = some (.int .i64 0) := (blk_cell BK140.out 1).trans rfl
            have hcz29_2 : w23.cell? ⟨gb140, 2, none⟩ = some (.int .i64 0) := (blk_cell BK140.out 2).trans rfl
            have hcz29_3 : w23.cell? ⟨gb140, 3, none⟩ = some (.slice none 0 0) := (blk_cell BK140.out 3).trans rfl
            have hfz29_0 := blk_frozen BK140.out 0
            have hfz29_1 := blk_frozen BK140.out 1
            have hfz29_2 := blk_frozen BK140.out 2
            have hfz29_3 := blk_frozen BK140.out 3
            try go_wp2
            refine bodyPost_ret (results_ctt rfl _ _ gb140 24 #[.int .i64 0, .int .i64 0, .int .i64 0, .slice none 0 0] (0, 0) _ rfl (by (with_reducible repeat (first | refine blk_drewN ?_ _ | refine blk_drew ?_ | refine blk_alloc ?_ _)); refine blk_put (cs := #[.int .i64 0, .int .i64 0, .int .i64 0, .slice none 0 0]) ?_ 3 _ rfl; (with_reducible repeat (first | refine blk_drewN ?_ _ | refine blk_drew ?_ | refine blk_alloc ?_ _)); refine blk_put (cs := #[.int .i64 0, .int .i64 0, .int .i64 0, .slice none 0 0]) ?_ 2 _ rfl; (with_reducible repeat (first | refine blk_drewN ?_ _ | refine blk_drew ?_ | refine blk_alloc ?_ _)); refine blk_put (cs := #[.int .i64 0, .int .i64 0, .int .i64 0, .slice none 0 0]) ?_ 1 _ rfl; (with_reducible repeat (first | refine blk_drewN ?_ _ | refine blk_drew ?_ | refine blk_alloc ?_ _)); refine blk_put (cs := #[.int .i64 0, .int .i64 0, .int .i64 0, .slice none 0 0]) ?_ 0 _ rfl; (with_reducible repeat (first | refine blk_drewN ?_ _ | refine blk_drew ?_ | refine blk_alloc ?_ _)); refine blk_far ?_ NB140_142.out _; (with_reducible repeat (first | refine blk_drewN ?_ _ | refine blk_drew ?_ | refine blk_alloc ?_ _)); refine blk_far ?_ NB140_142.out _; (with_reducible repeat (first | refine blk_drewN ?_ _ | refine blk_drew ?_ | refine blk_alloc ?_ _)); refine blk_far ?_ NB140_142.out _; (with_reducible repeat (first | refine blk_drewN ?_ _ | refine blk_drew ?_ | refine blk_alloc ?_ _)); refine blk_far ?_ NB140_142.out _; (with_reducible repeat (first | refine blk_drewN ?_ _ | refine blk_drew ?_ | refine blk_alloc ?_ _)); exact BK140.out) Try.underlying24 rfl (by kernel_rfl)) rfl ?_
            exact ⟨_, by first | rfl | (simp [errW_none, errW_some] <;> rfl) | (simp [*, errW_none, errW_some] <;> rfl), by first | exact Kd.R_nil _ _ _ _ _ | exact Kd.N_nil _ _ _ _ _ | exact Kd.V_nil _ _ _ _ _ | exact Kd.Q_nil _ _ _ _ _ | exact Kd.S_nil _ _ _ _ _, by repeat (first | (with_reducible first | exact HB.out | apply below_alloc | apply pw_below_drewN | apply below_drew1 | refine below_set ?_ GE140.out | refine below_set ?_ GE142.out) | exact HB.out)⟩
           ·rw [if_neg c20] at H
            have c20b0 : decide (((a0.extract (a1 : Int).toNat a0.size).size : Int) < (wrap64 ((wrap64 (7 + (wrap64 (3 * (wrap64 (bt (a0.extract (a1 : Int).toNat a0.size) 6)))))) + 2))) = false := decide_eq_false c20
            (try (have c20f0 := c20b0; simp only [ByteArray.size_extract, Nat.min_self] at c20f0))
            clear c20
            have H' := Aside0.mk H
            clear H
            try go_wp2
            have n0_ := Aside0.mk (blk_drew BK140.out)
            have n1_ := Aside0.mk (below_drew1 HB.out)
            clear BK140
            clear HB
            have BK140 := n0_
            have HB := n1_
            clear n0_ n1_
            have p12 : 0 ≤ (0 : Int) := (by omega)
            have q12 : 0 < (a0.extract (a1 : Int).toNat a0.size).size := (by have : (0 : Int) < ((a0.extract (a1 : Int).toNat a0.size).size : Int) := of_decide_eq_true (by first | (with_reducible assumption) | assumption); omega)
            have hx12 : ∀ h : 0 < (a0.extract (a1 : Int).toNat a0.size).size, (((a0.extract (a1 : Int).toNat a0.size)[0]'h).toNat : Int) = bt (a0.extract (a1 : Int).toNat a0.size) 0 := bt_at (a0.extract (a1 : Int).toNat a0.size) 0
            clear p12
            have qi12 : (0 < ((a0.extract (a1 : Int).toNat a0.size).size : Int)) = True := eq_true (of_decide_eq_true (by first | (with_reducible assumption) | assumption))
            replace q12 := eq_true q12
            (try (have qo12 := of_eq_true q12; simp only [ByteArray.size_extract, Nat.min_self] at qo12))
            (try (have qj12 := of_eq_true qi12; simp only [ByteArray.size_extract, Nat.min_self] at qj12))
            have p14 : 0 ≤ (1 : Int) := (by omega)
            have q14 : 1 < (a0.extract (a1 : Int).toNat a0.size).size := (by have : (1 : Int) < ((a0.extract (a1 : Int).toNat a0.size).size : Int) := of_decide_eq_true (by first | (with_reducible assumption) | assumption); omega)
            have hx14 : ∀ h : 1 < (a0.extract (a1 : Int).toNat a0.size).size, (((a0.extract (a1 : Int).toNat a0.size)[1]'h).toNat : Int) = bt (a0.extract (a1 : Int).toNat a0.size) 1 := bt_at (a0.extract (a1 : Int).toNat a0.size) 1
            clear p14
            have qi14 : (1 < ((a0.extract (a1 : Int).toNat a0.size).size : Int)) = True := eq_true (of_decide_eq_true (by first | (with_reducible assumption) | assumption))
            replace q14 := eq_true q14
            (try (have qo14 := of_eq_true q14; simp only [ByteArray.size_extract, Nat.min_self] at qo14))
            (try (have qj14 := of_eq_true qi14; simp only [ByteArray.size_extract, Nat.min_self] at qj14))
            refine start_ (n := 12) (S := fun w' => True) (ds := []) #[false, false, false, false, false, false, false, false, false, false, false, false] (by kernel_rfl) rfl rfl trivial (fun hHeld => ?_); refine with_tabW lsa_Get.tab4 lsa_Get.bits4 (fun HT_ HW_ => ?_)
            generalize wc.drew = w30 at BK140 HB hHeld ⊢
            refine pure_ (i := 0) (N := some 34) (v := ?_) (a' := ?_) #[true, false, false, false, false, false, false, false, false, false, false, false] rfl rfl (any_of HT_.out (by kernel_rfl)) (fun _ _ _ h => h) (Or.inl ⟨by rfl, ?_⟩) ?_ ?_
            rotate_left
            ·intro w'
             go_simp
             with_reducible rfl
            rotate_left
            ·simp only [Act.put, List.setIfInBounds_toArray, List.set_cons_zero, List.set_cons_succ, i64_w, i32_w]
             rfl
            refine pure_ (i := 3) (N := some 37) (v := ?_) (a' := ?_) #[true, false, false, true, false, false, false, false, false, false, false, false] rfl rfl (any_of HT_.out (by kernel_rfl)) (fun _ _ _ h => h) (Or.inl ⟨by rfl, ?_⟩) ?_ ?_
            rotate_left
            ·intro w'
             go_simp
             with_reducible rfl
            rotate_left
            ·simp only [Act.put, List.setIfInBounds_toArray, List.set_cons_zero, List.set_cons_succ, i64_w, i32_w]
             rfl
            refine pure_ (i := 6) (N := some 40) (v := ?_) (a' := ?_) #[true, false, false, true, false, false, true, false, false, false, false, false] rfl rfl (any_of HT_.out (by kernel_rfl)) (fun _ _ _ h => h) (Or.inl ⟨by rfl, ?_⟩) ?_ ?_
            rotate_left
            ·intro w'
             go_simp
             with_reducible rfl
            rotate_left
            ·simp only [Act.put, List.setIfInBounds_toArray, List.set_cons_zero, List.set_cons_succ, i64_w, i32_w]
             rfl
            refine pure_ (i := 7) (N := some 41) (v := ?_) (a' := ?_) #[true, false, false, true, false, false, true, true, false, false, false, false] rfl rfl (any_of HT_.out (by kernel_rfl)) (fun _ _ _ h => h) (Or.inl ⟨by rfl, ?_⟩) ?_ ?_
            rotate_left
            ·intro w'
             go_simp
             with_reducible rfl
            rotate_left
            ·simp only [Act.put, List.setIfInBounds_toArray, List.set_cons_zero, List.set_cons_succ, i64_w, i32_w]
             rfl
            refine take_ (i := 1) (N := some 35) (v := ?_) (a' := ?_) #[true, true, false, true, false, false, true, true, false, false, false, false] rfl rfl (take_ofW HT_.out HW_.out (by kernel_rfl)) (fun _ _ _ h => h) (Or.inl ⟨by rfl, ?_⟩) hHeld ?_ ?_
            rotate_left
            ·intro w' _
             go_simp
             with_reducible rfl
            rotate_left
            ·simp only [Act.put, List.setIfInBounds_toArray, List.set_cons_zero, List.set_cons_succ, i64_w, i32_w]
             rfl
            refine pure_ (i := 2) (N := some 36) (v := ?_) (a' := ?_) #[true, true, true, true, false, false, true, true, false, false, false, false] rfl rfl (any_of HT_.out (by kernel_rfl)) (fun _ _ _ h => h) (Or.inl ⟨by rfl, ?_⟩) ?_ ?_
            rotate_left
            ·intro w'
             go_simp
             with_reducible rfl
            rotate_left
            ·simp only [Act.put, List.setIfInBounds_toArray, List.set_cons_zero, List.set_cons_succ, i64_w, i32_w]
             rfl
            refine take_ (i := 4) (N := some 38) (v := ?_) (a' := ?_) #[true, true, true, true, true, false, true, true, false, false, false, false] rfl rfl (take_ofW HT_.out HW_.out (by kernel_rfl)) (fun _ _ _ h => h) (Or.inl ⟨by rfl, ?_⟩) hHeld ?_ ?_
            rotate_left
            ·intro w' _
             go_simp
             with_reducible rfl
            rotate_left
            ·simp only [Act.put, List.setIfInBounds_toArray, List.set_cons_zero, List.set_cons_succ, i64_w, i32_w]
             rfl
            refine pure_ (i := 5) (N := some 39) (v := ?_) (a' := ?_) #[true, true, true, true, true, true, true, true, false, false, false, false] rfl rfl (any_of HT_.out (by kernel_rfl)) (fun _ _ _ h => h) (Or.inl ⟨by rfl, ?_⟩) ?_ ?_
            rotate_left
            ·intro w'
             go_simp
             with_reducible rfl
            rotate_left
            ·simp only [Act.put, List.setIfInBounds_toArray, List.set_cons_zero, List.set_cons_succ, i64_w, i32_w]
             rfl
            refine join_ (σ := Nat) 1 #[true, true, true, true, true, true, true, true, true, true, true, false] (fun s_ => [(42, .int .i64 t141), (8, .pointer (some ⟨s_, 0, none⟩)), (43, .agg #[.int .i64 (wrap64 (bt (a0.extract (a1 : Int).toNat a0.size) 1)), .int .i64 t141, .int .i64 (wrap64 (bt (a0.extract (a1 : Int).toNat a0.size) 0)), .slice none 0 0])]) (fun s_ w' => (w'.heap[gb140]? = some (.cells #[.int .i64 0, .int .i64 0, .int .i64 0, .slice none 0 0] 24 (0, 0))) ∧ (w'.heap[s_]? = some (.cells #[.int .i64 0, .int .i64 0, .int .i64 0, .slice none 0 0] 24 (0, 0))) ∧ (w.heap.size ≤ s_) ∧ (w.heap.size ≤ s_) ∧ (gb140 ≠ s_) ∧ (s_ ≠ gb140) ∧ (Below w.heap.size w w')) ?_ ?_
            rotate_left
            ·intro hCont
             refine two_ (i := 8) (j := 10) (Ni := some 42) (Nj := some 8) #[true, true, true, true, true, true, true, true, true, false, false, false] #[true, true, true, true, true, true, true, true, false, false, true, false] rfl rfl rfl rfl (two_of HT_.out (by kernel_rfl)) (by decide) (by decide) (fun K hK => ?_) (fun K hK => ?_)
             ·skip
              refine goes_ Try.func42 (by kernel_rfl) rfl #[.string ((a0.extract (a1 : Int).toNat a0.size).extract 2 6)] (by rfl) rfl rfl (by (try simp only [List.map_toArray, List.map_cons, List.map_nil]); first | done | rfl | (simp only [List.length_drop, List.length_take]; rfl)) ?_
              with_reducible refine (lsa_Number.calls kj2 ((a0.extract (a1 : Int).toNat a0.size).extract 2 6) t141 _ A17.out).mono ?_
              rintro e w' ⟨rfl, ⟨nd, rfl⟩⟩
              refine ⟨_, rfl, ?_⟩
              refine hK.out _ _ trivial (fun hHeld => ?_)
              clear hK K
              refine norm_ (a' := ?_) ?_ ?_
              rotate_left
              ·show Act.put _ (some 42) _ = _
               simp only [Act.put, List.setIfInBounds_toArray, List.set_cons_zero, List.set_cons_succ, i64_w, i32_w]
               rfl
              refine pure_ (i := 9) (N := some 43) (v := ?_) (a' := ?_) #[true, true, true, true, true, true, true, true, true, true, false, false] rfl rfl (any_of HT_.out (by kernel_rfl)) (fun _ _ _ h => h) (Or.inl ⟨by rfl, ?_⟩) ?_ ?_
              rotate_left
              ·intro w'
               go_simp
               with_reducible rfl
              rotate_left
              ·simp only [Act.put, List.setIfInBounds_toArray, List.set_cons_zero, List.set_cons_succ, i64_w, i32_w]
               rfl
              refine one_ (i := 10) (N := some 8) #[true, true, true, true, true, true, true, true, true, true, true, false] rfl rfl (one_of HT_.out (by kernel_rfl)) (by decide) (fun K hK => ?_)
              refine box_step ?hg (N := 8) ?hd (cs := #[.int .i64 0, .int .i64 0, .int .i64 0, .slice none 0 0]) (t := 24) ?hr ?_; (case hd => rfl); (case hg => rfl); (case hr => first | (go_simp; done) | (go_simp; rfl))
              intro gb142 hg w31 hbox hb
              have n0_ := Aside0.mk (blk_below (g := gb140) (o := .cells #[.int .i64 0, .int .i64 0, .int .i64 0, .slice none 0 0] 24 (0, 0)) (by (with_reducible repeat (first | refine blk_drewN ?_ _ | refine blk_drew ?_ | refine blk_alloc ?_ _)); exact BK140.out) hb)
              have n1_ := Aside0.mk (below_step (by repeat (first | (with_reducible first | exact HB.out | apply below_alloc | apply pw_below_drewN | apply below_drew1 | refine below_set ?_ GE140.out) | exact HB.out)) hb)
              have n2_ := Aside0.mk (hbox)
              have n3_ := Aside0.mk ((by rw [hg]; exact (below_size (by repeat (first | (with_reducible first | exact HB.out | apply below_alloc | apply pw_below_drewN | apply below_drew1 | refine below_set ?_ GE140.out) | exact HB.out))) : w.heap.size ≤ gb142))
              have n4_ := Aside0.mk ((by rw [hg]; exact (below_size (by repeat (first | (with_reducible first | exact HB.out | apply below_alloc | apply pw_below_drewN | apply below_drew1 | refine below_set ?_ GE140.out) | exact HB.out))) : w.heap.size ≤ gb142))
              have n5_ := Aside0.mk ((by rw [hg]; exact Nat.ne_of_lt (blk_lt (g := gb140) (o := .cells #[.int .i64 0, .int .i64 0, .int .i64 0, .slice none 0 0] 24 (0, 0)) (by (with_reducible repeat (first | refine blk_drewN ?_ _ | refine blk_drew ?_ | refine blk_alloc ?_ _)); exact BK140.out)) : gb140 ≠ gb142))
              have n6_ := Aside0.mk ((by rw [hg]; exact Nat.ne_of_gt (blk_lt (g := gb140) (o := .cells #[.int .i64 0, .int .i64 0, .int .i64 0, .slice none 0 0] 24 (0, 0)) (by (with_reducible repeat (first | refine blk_drewN ?_ _ | refine blk_drew ?_ | refine blk_alloc ?_ _)); exact BK140.out)) : gb142 ≠ gb140))
              clear BK140
              clear HB
              have BK140 := n0_
              have HB := n1_
              have BK142 := n2_
              have GW142 := n3_
              have GE142 := n4_
              have NB140_142 := n5_
              have NB142_140 := n6_
              clear n0_ n1_ n2_ n3_ n4_ n5_ n6_
              clear hb hbox hg
              refine hK.out _ _ trivial (fun hHeld => ?_)
              clear hK K
              refine norm_ (a' := ?_) ?_ ?_
              rotate_left
              ·show Act.put _ (some 8) _ = _
               simp only [Act.put, List.setIfInBounds_toArray, List.set_cons_zero, List.set_cons_succ, i64_w, i32_w]
               rfl
              exact norm_ (by simp only [putAll, Act.put, List.setIfInBounds_toArray, List.set_cons_zero, List.set_cons_succ]) (hCont (gb142) _ ⟨(by (with_reducible repeat (first | refine blk_drewN ?_ _ | refine blk_drew ?_ | refine blk_alloc ?_ _)); exact BK140.out), (by (with_reducible repeat (first | refine blk_drewN ?_ _ | refine blk_drew ?_ | refine blk_alloc ?_ _)); exact BK142.out), GW142.out, GE142.out, NB140_142.out, NB142_140.out, (by repeat (first | (with_reducible first | exact HB.out | apply below_alloc | apply pw_below_drewN | apply below_drew1 | refine below_set ?_ GE140.out | refine below_set ?_ GE142.out) | exact HB.out))⟩)
             ·skip
              refine box_step ?hg (N := 8) ?hd (cs := #[.int .i64 0, .int .i64 0, .int .i64 0, .slice none 0 0]) (t := 24) ?hr ?_; (case hd => rfl); (case hg => rfl); (case hr => first | (go_simp; done) | (go_simp; rfl))
              intro gb142 hg w31 hbox hb
              have n0_ := Aside0.mk (blk_below (g := gb140) (o := .cells #[.int .i64 0, .int .i64 0, .int .i64 0, .slice none 0 0] 24 (0, 0)) (by (with_reducible repeat (first | refine blk_drewN ?_ _ | refine blk_drew ?_ | refine blk_alloc ?_ _)); exact BK140.out) hb)
              have n1_ := Aside0.mk (below_step (by repeat (first | (with_reducible first | exact HB.out | apply below_alloc | apply pw_below_drewN | apply below_drew1 | refine below_set ?_ GE140.out) | exact HB.out)) hb)
              have n2_ := Aside0.mk (hbox)
              have n3_ := Aside0.mk ((by rw [hg]; exact (below_size (by repeat (first | (with_reducible first | exact HB.out | apply below_alloc | apply pw_below_drewN | apply below_drew1 | refine below_set ?_ GE140.out) | exact HB.out))) : w.heap.size ≤ gb142))
              have n4_ := Aside0.mk ((by rw [hg]; exact (below_size (by repeat (first | (with_reducible first | exact HB.out | apply below_alloc | apply pw_below_drewN | apply below_drew1 | refine below_set ?_ GE140.out) | exact HB.out))) : w.heap.size ≤ gb142))
              have n5_ := Aside0.mk ((by rw [hg]; exact Nat.ne_of_lt (blk_lt (g := gb140) (o := .cells #[.int .i64 0, .int .i64 0, .int .i64 0, .slice none 0 0] 24 (0, 0)) (by (with_reducible repeat (first | refine blk_drewN ?_ _ | refine blk_drew ?_ | refine blk_alloc ?_ _)); exact BK140.out)) : gb140 ≠ gb142))
              have n6_ := Aside0.mk ((by rw [hg]; exact Nat.ne_of_gt (blk_lt (g := gb140) (o := .cells #[.int .i64 0, .int .i64 0, .int .i64 0, .slice none 0 0] 24 (0, 0)) (by (with_reducible repeat (first | refine blk_drewN ?_ _ | refine blk_drew ?_ | refine blk_alloc ?_ _)); exact BK140.out)) : gb142 ≠ gb140))
              clear BK140
              clear HB
              have BK140 := n0_
              have HB := n1_
              have BK142 := n2_
              have GW142 := n3_
              have GE142 := n4_
              have NB140_142 := n5_
              have NB142_140 := n6_
              clear n0_ n1_ n2_ n3_ n4_ n5_ n6_
              clear hb hbox hg
              refine hK.out _ _ trivial (fun hHeld => ?_)
              clear hK K
              refine norm_ (a' := ?_) ?_ ?_
              rotate_left
              ·show Act.put _ (some 8) _ = _
               simp only [Act.put, List.setIfInBounds_toArray, List.set_cons_zero, List.set_cons_succ, i64_w, i32_w]
               rfl
              refine one_ (i := 8) (N := some 42) #[true, true, true, true, true, true, true, true, true, false, true, false] rfl rfl (one_of HT_.out (by kernel_rfl)) (by decide) (fun K hK => ?_)
              refine goes_ Try.func42 (by kernel_rfl) rfl #[.string ((a0.extract (a1 : Int).toNat a0.size).extract 2 6)] (by rfl) rfl rfl (by (try simp only [List.map_toArray, List.map_cons, List.map_nil]); first | done | rfl | (simp only [List.length_drop, List.length_take]; rfl)) ?_
              with_reducible refine (lsa_Number.calls kj2 ((a0.extract (a1 : Int).toNat a0.size).extract 2 6) t141 _ A17.out).mono ?_
              rintro e w' ⟨rfl, ⟨nd, rfl⟩⟩
              refine ⟨_, rfl, ?_⟩
              refine hK.out _ _ trivial (fun hHeld => ?_)
              clear hK K
              refine norm_ (a' := ?_) ?_ ?_
              rotate_left
              ·show Act.put _ (some 42) _ = _
               simp only [Act.put, List.setIfInBounds_toArray, List.set_cons_zero, List.set_cons_succ, i64_w, i32_w]
               rfl
              refine pure_ (i := 9) (N := some 43) (v := ?_) (a' := ?_) #[true, true, true, true, true, true, true, true, true, true, true, false] rfl rfl (any_of HT_.out (by kernel_rfl)) (fun _ _ _ h => h) (Or.inl ⟨by rfl, ?_⟩) ?_ ?_
              rotate_left
              ·intro w'
               go_simp
               with_reducible rfl
              rotate_left
              ·simp only [Act.put, List.setIfInBounds_toArray, List.set_cons_zero, List.set_cons_succ, i64_w, i32_w]
               rfl
              exact norm_ (by simp only [putAll, Act.put, List.setIfInBounds_toArray, List.set_cons_zero, List.set_cons_succ]) (hCont (gb142) _ ⟨(by (with_reducible repeat (first | refine blk_drewN ?_ _ | refine blk_drew ?_ | refine blk_alloc ?_ _)); exact BK140.out), (by (with_reducible repeat (first | refine blk_drewN ?_ _ | refine blk_drew ?_ | refine blk_alloc ?_ _)); exact BK142.out), GW142.out, GE142.out, NB140_142.out, NB142_140.out, (by repeat (first | (with_reducible first | exact HB.out | apply below_alloc | apply pw_below_drewN | apply below_drew1 | refine below_set ?_ GE140.out | refine below_set ?_ GE142.out) | exact HB.out))⟩)
            rintro gb142 w32 ⟨h0_, h1_, h2_, h3_, h4_, h5_, h6_⟩
            have n0_ : Aside0 (w32.heap[gb140]? = some (.cells #[.int .i64 0, .int .i64 0, .int .i64 0, .slice none 0 0] 24 (0, 0))) := ⟨h0_⟩
            have n1_ : Aside0 (w32.heap[gb142]? = some (.cells #[.int .i64 0, .int .i64 0, .int .i64 0, .slice none 0 0] 24 (0, 0))) := ⟨h1_⟩
            have n2_ : Aside0 (w.heap.size ≤ gb142) := ⟨h2_⟩
            have n3_ : Aside0 (w.heap.size ≤ gb142) := ⟨h3_⟩
            have n4_ : Aside0 (gb140 ≠ gb142) := ⟨h4_⟩
            have n5_ : Aside0 (gb142 ≠ gb140) := ⟨h5_⟩
            have n6_ : Aside0 (Below w.heap.size w w32) := ⟨h6_⟩
            clear BK140
            clear HB
            clear h0_ h1_ h2_ h3_ h4_ h5_ h6_
            have BK140 := n0_
            have BK142 := n1_
            have GW142 := n2_
            have GE142 := n3_
            have NB140_142 := n4_
            have NB142_140 := n5_
            have HB := n6_
            clear n0_ n1_ n2_ n3_ n4_ n5_ n6_
            have hHeld := trivial
            refine norm_ (a' := ?_) ?_ ?_
            rotate_left
            ·simp only [putAll, Act.put, List.setIfInBounds_toArray, List.set_cons_zero, List.set_cons_succ]
             rfl
            refine one_ (i := 11) (N := none) #[true, true, true, true, true, true, true, true, true, true, true, true] rfl rfl (one_of HT_.out (by kernel_rfl)) (by decide) (fun K hK => ?_)
            have hs33 : w32.cell? ⟨gb142, 0, none⟩ = some (.int .i64 0) := (blk_cell BK142.out 0).trans rfl
            have hfs33 := blk_frozen BK142.out 0
            have hns33_0 := NB140_142.out
            have hms33_0 := NB142_140.out
            have hs34 : w32.cell? ⟨gb142, 1, none⟩ = some (.int .i64 0) := (blk_cell BK142.out 1).trans rfl
            have hfs34 := blk_frozen BK142.out 1
            have hns34_0 := NB140_142.out
            have hms34_0 := NB142_140.out
            have hs35 : w32.cell? ⟨gb142, 2, none⟩ = some (.int .i64 0) := (blk_cell BK142.out 2).trans rfl
            have hfs35 := blk_frozen BK142.out 2
            have hns35_0 := NB140_142.out
            have hms35_0 := NB142_140.out
            have hs36 : w32.cell? ⟨gb142, 3, none⟩ = some (.slice none 0 0) := (blk_cell BK142.out 3).trans rfl
            have hfs36 := blk_frozen BK142.out 3
            have hns36_0 := NB140_142.out
            have hms36_0 := NB142_140.out
            refine skip_ (w1 := ?_) (by rfl) rfl ?_ ?_
            rotate_left
            ·go_simp
             rfl
            refine hK.out _ _ trivial (fun hHeld => ?_)
            clear hK K
            refine done_ (done_of HT_.out (by kernel_rfl)) ?_
            have p19 : 0 ≤ (6 : Int) := (by omega)
            have q19 : 6 < (a0.extract (a1 : Int).toNat a0.size).size := (by have : (6 : Int) < ((a0.extract (a1 : Int).toNat a0.size).size : Int) := of_decide_eq_true (by first | (with_reducible assumption) | assumption); omega)
            have hx19 : ∀ h : 6 < (a0.extract (a1 : Int).toNat a0.size).size, (((a0.extract (a1 : Int).toNat a0.size)[6]'h).toNat : Int) = bt (a0.extract (a1 : Int).toNat a0.size) 6 := bt_at (a0.extract (a1 : Int).toNat a0.size) 6
            clear p19
            have qi19 : (6 < ((a0.extract (a1 : Int).toNat a0.size).size : Int)) = True := eq_true (of_decide_eq_true (by first | (with_reducible assumption) | assumption))
            replace q19 := eq_true q19
            (try (have qo19 := of_eq_true q19; simp only [ByteArray.size_extract, Nat.min_self] at qo19))
            (try (have qj19 := of_eq_true qi19; simp only [ByteArray.size_extract, Nat.min_self] at qj19))
            try go_wp2
            go_loopg [57] kj2 (fun kq v57 w' => ∃ (x57_2 : Int) (x143003_2 : List (S49)) (u143003 : Value), v57 = .int .i64 x57_2 ∧ Aside0 (lsa_Get.l0 kq a1 (a0.extract (a1 : Int).toNat a0.size) (wrap64 ((wrap64 (7 + (wrap64 (3 * (wrap64 (bt (a0.extract (a1 : Int).toNat a0.size) 6)))))) + 2)) (wrap64 (bt (a0.extract (a1 : Int).toNat a0.size) 6)) x57_2 (wrap64 (bt (a0.extract (a1 : Int).toNat a0.size) 1)) t141 (wrap64 (bt (a0.extract (a1 : Int).toNat a0.size) 0)) x143003_2 = some (r1, r2, r3, r4, r5, r6)) ∧ Aside0 (kq ≤ kj2) ∧ Aside0 (Kd.R k49 49 w' w.heap.size (fun _ => True) u143003 x143003_2) ∧ Aside0 (w'.heap[gb140]? = some (.cells #[.int .i64 0, .int .i64 0, .int .i64 0, (.slice none 0 0)] 24 (0, 0))) ∧ Aside0 (w'.heap[gb142]? = some (.cells #[.int .i64 (wrap64 (bt (a0.extract (a1 : Int).toNat a0.size) 1)), .int .i64 t141, .int .i64 (wrap64 (bt (a0.extract (a1 : Int).toNat a0.size) 0)), u143003] 24 (0, 0))) ∧ Aside0 (Below w.heap.size w w'))
            case atStart => exact ⟨(0), (([] : List (S49))), (.slice none 0 0), (by first | rfl | (simp; done) | (simp [*]; done)), H', ⟨Nat.le_refl _⟩, ⟨by first | exact Kd.R_nil _ _ _ _ _ | exact Kd.N_nil _ _ _ _ _ | exact Kd.V_nil _ _ _ _ _ | exact Kd.Q_nil _ _ _ _ _ | exact Kd.S_nil _ _ _ _ _⟩, ⟨by (with_reducible repeat (first | refine blk_drewN ?_ _ | refine blk_drew ?_ | refine blk_alloc ?_ _)); refine blk_far ?_ NB140_142.out _; (with_reducible repeat (first | refine blk_drewN ?_ _ | refine blk_drew ?_ | refine blk_alloc ?_ _)); refine blk_far ?_ NB140_142.out _; (with_reducible repeat (first | refine blk_drewN ?_ _ | refine blk_drew ?_ | refine blk_alloc ?_ _)); refine blk_far ?_ NB140_142.out _; (with_reducible repeat (first | refine blk_drewN ?_ _ | refine blk_drew ?_ | refine blk_alloc ?_ _)); refine blk_far ?_ NB140_142.out _; (with_reducible repeat (first | refine blk_drewN ?_ _ | refine blk_drew ?_ | refine blk_alloc ?_ _)); exact BK140.out⟩, ⟨by (with_reducible repeat (first | refine blk_drewN ?_ _ | refine blk_drew ?_ | refine blk_alloc ?_ _)); refine blk_put (cs := #[.int .i64 (wrap64 (bt (a0.extract (a1 : Int).toNat a0.size) 1)), .int .i64 t141, .int .i64 (wrap64 (bt (a0.extract (a1 : Int).toNat a0.size) 0)), .slice none 0 0]) ?_ 3 _ rfl; (with_reducible repeat (first | refine blk_drewN ?_ _ | refine blk_drew ?_ | refine blk_alloc ?_ _)); refine blk_put (cs := #[.int .i64 (wrap64 (bt (a0.extract (a1 : Int).toNat a0.size) 1)), .int .i64 t141, .int .i64 0, .slice none 0 0]) ?_ 2 _ rfl; (with_reducible repeat (first | refine blk_drewN ?_ _ | refine blk_drew ?_ | refine blk_alloc ?_ _)); refine blk_put (cs := #[.int .i64 (wrap64 (bt (a0.extract (a1 : Int).toNat a0.size) 1)), .int .i64 0, .int .i64 0, .slice none 0 0]) ?_ 1 _ rfl; (with_reducible repeat (first | refine blk_drewN ?_ _ | refine blk_drew ?_ | refine blk_alloc ?_ _)); refine blk_put (cs := #[.int .i64 0, .int .i64 0, .int .i64 0, .slice none 0 0]) ?_ 0 _ rfl; (with_reducible repeat (first | refine blk_drewN ?_ _ | refine blk_drew ?_ | refine blk_alloc ?_ _)); exact BK142.out⟩, ⟨by repeat (first | (with_reducible first | exact HB.out | apply below_alloc | apply pw_below_drewN | apply below_drew1 | refine below_set ?_ GE140.out | refine below_set ?_ GE142.out) | exact HB.out)⟩⟩
            case round =>
             clear H'
             try clear c1
             try clear p1
             try clear q1
             try clear hx1
             try clear qi1
             try clear c2
             try clear p2
             try clear c4
             try clear c5
             try clear c5b0
             try clear c6
             try clear c6b0
             try clear p6
             try clear c7
             try clear c9
             try clear c9b0
             try clear c9b1
             try clear c10
             try clear c10b0
             try clear c10b1
             try clear c11
             try clear c11b0
             try clear c11b1
             try clear p12
             try clear q12
             try clear hx12
             try clear qi12
             try clear c13
             try clear c13b0
             try clear c13b1
             try clear p14
             try clear q14
             try clear hx14
             try clear qi14
             try clear c15
             try clear c15b0
             try clear c15b1
             try clear c16
             try clear c16b0
             try clear c16b1
             try clear c18
             try clear c18b0
             try clear c18b1
             try clear p19
             try clear q19
             try clear hx19
             try clear qi19
             try clear c20
             try clear c20b0
             try clear c28
             try clear hcz29_0
             try clear hcz29_1
             try clear hcz29_2
             try clear hcz29_3
             try clear hcz8_0
             try clear hcz8_1
             try clear hcz8_2
             try clear hcz8_3
             try clear hfz29_0
             try clear hfz29_1
             try clear hfz29_2
             try clear hfz29_3
             try clear hfz8_0
             try clear hfz8_1
             try clear hfz8_2
             try clear hfz8_3
             try clear p12
             try clear p14
             try clear p19
             try clear p2
             try clear p6
             try clear q12
             try clear q14
             try clear q19
             obtain ⟨x57_2, x143003_2, u143003, rfl, HA, HK2, HO_143003, BK140, BK142, HB⟩ := hrel
             cases gk with
             | zero => exact absurd HA.out (by simp [lsa_Get.l0])
             | succ k2 =>
              have H := HA.out
              clear HA
              simp only [lsa_Get.l0] at H
              by_cases c37 : x57_2 < (wrap64 (bt (a0.extract (a1 : Int).toNat a0.size) 6))
              ·rw [if_pos c37] at H
               have c37b0 : decide (x57_2 < (wrap64 (bt (a0.extract (a1 : Int).toNat a0.size) 6))) = true := decide_eq_true c37
               (try (have c37f0 := c37b0; simp only [ByteArray.size_extract, Nat.min_self] at c37f0))
               clear c37
               obtain ⟨ji38, hji38⟩ : ∃ j_ : Int, (wrap64 (7 + (wrap64 (3 * x57_2)))) = j_ := ⟨_, rfl⟩
               replace H : (if 0 ≤ (ji38) then (if (ji38) ≤ ((a0.extract (a1 : Int).toNat a0.size).size : Int) then (if 0 < (((a0.extract (a1 : Int).toNat a0.size).extract ((ji38) : Int).toNat (a0.extract (a1 : Int).toNat a0.size).size).size : Int) then (if 1 ≤ 3 then (if 3 ≤ (((a0.extract (a1 : Int).toNat a0.size).extract ((ji38) : Int).toNat (a0.extract (a1 : Int).toNat a0.size).size).size : Int) then ((lsa_Number.f k2 (((a0.extract (a1 : Int).toNat a0.size).extract ((ji38) : Int).toNat (a0.extract (a1 : Int).toNat a0.size).size).extract 1 3)).bind fun t143 => (if x143003_2.length < 8796093022208 then (lsa_Get.l0 k2 a1 (a0.extract (a1 : Int).toNat a0.size) (wrap64 ((wrap64 (7 + (wrap64 (3 * (wrap64 (bt (a0.extract (a1 : Int).toNat a0.size) 6)))))) + 2)) (wrap64 (bt (a0.extract (a1 : Int).toNat a0.size) 6)) (wrap64 (x57_2 + 1)) (wrap64 (bt (a0.extract (a1 : Int).toNat a0.size) 1)) t141 (wrap64 (bt (a0.extract (a1 : Int).toNat a0.size) 0)) (x143003_2 ++ [(⟨wrap64 (bt ((a0.extract (a1 : Int).toNat a0.size).extract ((ji38) : Int).toNat (a0.extract (a1 : Int).toNat a0.size).size) 0), t143⟩ : S49)])) else (none))) else (none)) else (none)) else (none)) else (none)) else (none)) = some (r1, r2, r3, r4, r5, r6) := by first | (rw [hji38] at H; exact H) | (simp only [hji38] at H ⊢; exact H)
               have hji38w : (IntKind.i64.wrap (7 + (wrap64 (3 * x57_2)))) = ji38 := (i64_w _).trans hji38
               by_cases c39 : 0 ≤ (ji38)
               ·rw [if_pos c39] at H
                have c39b0 := eq_true c39
                have c39b1 : decide (0 ≤ (ji38)) = true := decide_eq_true c39
                clear c39
                by_cases c40 : (ji38) ≤ ((a0.extract (a1 : Int).toNat a0.size).size : Int)
                ·rw [if_pos c40] at H
                 (try (have c40p := c40; simp only [ByteArray.size_extract] at c40p))
                 (try (have c40o := c40; simp only [ByteArray.size_extract, Nat.min_self] at c40o))
                 have c40b0 := eq_true c40
                 have c40b1 : decide ((ji38) ≤ ((a0.extract (a1 : Int).toNat a0.size).size : Int)) = true := decide_eq_true c40
                 (try (have c40f1 := c40b1; simp only [ByteArray.size_extract, Nat.min_self] at c40f1))
                 clear c40
                 by_cases c41 : 0 < (((a0.extract (a1 : Int).toNat a0.size).extract ((ji38) : Int).toNat (a0.extract (a1 : Int).toNat a0.size).size).size : Int)
                 ·rw [if_pos c41] at H
                  have c41b0 : decide (0 < (((a0.extract (a1 : Int).toNat a0.size).extract ((ji38) : Int).toNat (a0.extract (a1 : Int).toNat a0.size).size).size : Int)) = true := decide_eq_true c41
                  (try (have c41f0 := c41b0; simp only [ByteArray.size_extract, Nat.min_self] at c41f0))
                  have c41b1 : decide (0 < ((a0.extract (a1 : Int).toNat a0.size).extract ((ji38) : Int).toNat (a0.extract (a1 : Int).toNat a0.size).size).size) = true := decide_eq_true (by omega)
                  (try (have c41f1 := c41b1; simp only [ByteArray.size_extract, Nat.min_self] at c41f1))
                  clear c41
                  by_cases c43 : 1 ≤ 3
                  ·rw [if_pos c43] at H
                   have c43b0 := eq_true c43
                   have c43b1 : decide (1 ≤ 3) = true := decide_eq_true c43
                   clear c43
                   by_cases c44 : 3 ≤ (((a0.extract (a1 : Int).toNat a0.size).extract ((ji38) : Int).toNat (a0.extract (a1 : Int).toNat a0.size).size).size : Int)
                   ·rw [if_pos c44] at H
                    (try (have c44p := c44; simp only [ByteArray.size_extract] at c44p))
                    (try (have c44o := c44; simp only [ByteArray.size_extract, Nat.min_self] at c44o))
                    have c44b0 := eq_true c44
                    have c44b1 : decide (3 ≤ (((a0.extract (a1 : Int).toNat a0.size).extract ((ji38) : Int).toNat (a0.extract (a1 : Int).toNat a0.size).size).size : Int)) = true := decide_eq_true c44
                    (try (have c44f1 := c44b1; simp only [ByteArray.size_extract, Nat.min_self] at c44f1))
                    clear c44
                    replace H := Option.bind_eq_some_iff.mp H
                    obtain ⟨t143, A450, H⟩ := H
                    replace H : (if x143003_2.length < 8796093022208 then (lsa_Get.l0 k2 a1 (a0.extract (a1 : Int).toNat a0.size) (wrap64 ((wrap64 (7 + (wrap64 (3 * (wrap64 (bt (a0.extract (a1 : Int).toNat a0.size) 6)))))) + 2)) (wrap64 (bt (a0.extract (a1 : Int).toNat a0.size) 6)) (wrap64 (x57_2 + 1)) (wrap64 (bt (a0.extract (a1 : Int).toNat a0.size) 1)) t141 (wrap64 (bt (a0.extract (a1 : Int).toNat a0.size) 0)) (x143003_2 ++ [(⟨wrap64 (bt ((a0.extract (a1 : Int).toNat a0.size).extract ((ji38) : Int).toNat (a0.extract (a1 : Int).toNat a0.size).size) 0), t143⟩ : S49)])) else (none)) = some (r1, r2, r3, r4, r5, r6) := H
                    have A45 := Aside0.mk A450
                    clear A450
                    by_cases c46 : x143003_2.length < 8796093022208
                    ·rw [if_pos c46] at H
                     have LMc46 := Aside0.mk c46
                     clear c46
                     obtain ⟨y144, hy144⟩ : ∃ y_ : List (S49), y_ = (x143003_2 ++ [(⟨wrap64 (bt ((a0.extract (a1 : Int).toNat a0.size).extract ((ji38) : Int).toNat (a0.extract (a1 : Int).toNat a0.size).size) 0), t143⟩ : S49)]) := ⟨_, rfl⟩
                     replace H : (lsa_Get.l0 k2 a1 (a0.extract (a1 : Int).toNat a0.size) (wrap64 ((wrap64 (7 + (wrap64 (3 * (wrap64 (bt (a0.extract (a1 : Int).toNat a0.size) 6)))))) + 2)) (wrap64 (bt (a0.extract (a1 : Int).toNat a0.size) 6)) (wrap64 (x57_2 + 1)) (wrap64 (bt (a0.extract (a1 : Int).toNat a0.size) 1)) t141 (wrap64 (bt (a0.extract (a1 : Int).toNat a0.size) 0)) y144) = some (r1, r2, r3, r4, r5, r6) := by first | (rw [hy144]; with_reducible exact H) | (have H2_ := (Option.bind_some _ _).symm.trans H; rw [hy144]; with_reducible exact H2_) | (have H2_ := (Option.bind_some _ _).symm.trans H; with_reducible exact H2_) | with_reducible exact H | (rw [hy144]; exact H) | exact H
                     have Ny144 := Aside0.mk hy144
                     clear hy144
                     have H' := Aside0.mk H
                     clear H
                     try go_wp2
                     have n0_ := Aside0.mk (Kd.R_drew HO_143003.out)
                     have n1_ := Aside0.mk (blk_drew BK140.out)
                     have n2_ := Aside0.mk (blk_drew BK142.out)
                     have n3_ := Aside0.mk (below_drew1 HB.out)
                     clear HO_143003
                     clear BK140
                     clear BK142
                     clear HB
                     have HO_143003 := n0_
                     have BK140 := n1_
                     have BK142 := n2_
                     have HB := n3_
                     clear n0_ n1_ n2_ n3_
                     have p42 : 0 ≤ (0 : Int) := (by omega)
                     have q42 : 0 < ((a0.extract (a1 : Int).toNat a0.size).extract ((ji38) : Int).toNat (a0.extract (a1 : Int).toNat a0.size).size).size := (by have : (0 : Int) < (((a0.extract (a1 : Int).toNat a0.size).extract ((ji38) : Int).toNat (a0.extract (a1 : Int).toNat a0.size).size).size : Int) := of_decide_eq_true (by first | (with_reducible assumption) | assumption); omega)
                     have hx42 : ∀ h : 0 < ((a0.extract (a1 : Int).toNat a0.size).extract ((ji38) : Int).toNat (a0.extract (a1 : Int).toNat a0.size).size).size, ((((a0.extract (a1 : Int).toNat a0.size).extract ((ji38) : Int).toNat (a0.extract (a1 : Int).toNat a0.size).size)[0]'h).toNat : Int) = bt ((a0.extract (a1 : Int).toNat a0.size).extract ((ji38) : Int).toNat (a0.extract (a1 : Int).toNat a0.size).size) 0 := bt_at ((a0.extract (a1 : Int).toNat a0.size).extract ((ji38) : Int).toNat (a0.extract (a1 : Int).toNat a0.size).size) 0
                     (try (have hx42o := hx42; simp only [ByteArray.size_extract, Nat.min_self] at hx42o))
                     clear p42
                     have qi42 : (0 < (((a0.extract (a1 : Int).toNat a0.size).extract ((ji38) : Int).toNat (a0.extract (a1 : Int).toNat a0.size).size).size : Int)) = True := eq_true (of_decide_eq_true (by first | (with_reducible assumption) | assumption))
                     replace q42 := eq_true q42
                     (try (have qo42 := of_eq_true q42; simp only [ByteArray.size_extract, Nat.min_self] at qo42))
                     (try (have qj42 := of_eq_true qi42; simp only [ByteArray.size_extract, Nat.min_self] at qj42))
                     refine start_ (n := 13) (S := fun w' => w'.cell? ⟨gb142, 0, none⟩ = some (.int .i64 (wrap64 (bt (a0.extract (a1 : Int).toNat a0.size) 1))) ∧ w'.cell? ⟨gb142, 1, none⟩ = some (.int .i64 t141) ∧ w'.cell? ⟨gb142, 2, none⟩ = some (.int .i64 (wrap64 (bt (a0.extract (a1 : Int).toNat a0.size) 0))) ∧ w'.cell? ⟨gb142, 3, none⟩ = some (u143003)) (ds := [12]) #[false, false, false, false, false, false, false, false, false, false, false, false, false] (by kernel_rfl) rfl rfl ⟨(blk_cell BK142.out 0).trans rfl, (blk_cell BK142.out 1).trans rfl, (blk_cell BK142.out 2).trans rfl, (blk_cell BK142.out 3).trans rfl⟩ (fun hHeld => ?_); refine with_tabW lsa_Get.tab13 lsa_Get.bits13 (fun HT_ HW_ => ?_)
                     generalize wr.drew = w47 at HO_143003 BK140 BK142 HB hHeld ⊢
                     refine pure_ (i := 0) (N := some 65) (v := ?_) (a' := ?_) #[true, false, false, false, false, false, false, false, false, false, false, false, false] rfl rfl (any_of HT_.out (by kernel_rfl)) (fun _ _ _ h => h) (Or.inl ⟨by rfl, ?_⟩) ?_ ?_
                     rotate_left
                     ·intro w'
                      go_simp
                      with_reducible rfl
                     rotate_left
                     ·simp only [Act.put, List.setIfInBounds_toArray, List.set_cons_zero, List.set_cons_succ, i64_w, i32_w]
                      rfl
                     refine pure_ (i := 2) (N := some 67) (v := ?_) (a' := ?_) #[true, false, true, false, false, false, false, false, false, false, false, false, false] rfl rfl (any_of HT_.out (by kernel_rfl)) (fun _ _ _ h => h) (Or.inl ⟨by rfl, ?_⟩) ?_ ?_
                     rotate_left
                     ·intro w'
                      go_simp
                      with_reducible rfl
                     rotate_left
                     ·simp only [Act.put, List.setIfInBounds_toArray, List.set_cons_zero, List.set_cons_succ, i64_w, i32_w]
                      rfl
                     refine pure_ (i := 5) (N := some 70) (v := ?_) (a' := ?_) #[true, false, true, false, false, true, false, false, false, false, false, false, false] rfl rfl (any_of HT_.out (by kernel_rfl)) (fun _ _ _ h => h) (Or.inl ⟨by rfl, ?_⟩) ?_ ?_
                     rotate_left
                     ·intro w'
                      go_simp
                      with_reducible rfl
                     rotate_left
                     ·simp only [Act.put, List.setIfInBounds_toArray, List.set_cons_zero, List.set_cons_succ, i64_w, i32_w]
                      rfl
                     refine pure_ (i := 6) (N := some 71) (v := ?_) (a' := ?_) #[true, false, true, false, false, true, true, false, false, false, false, false, false] rfl rfl (any_of HT_.out (by kernel_rfl)) (fun _ _ _ h => h) (Or.inl ⟨by rfl, ?_⟩) ?_ ?_
                     rotate_left
                     ·intro w'
                      go_simp
                      with_reducible rfl
                     rotate_left
                     ·simp only [Act.put, List.setIfInBounds_toArray, List.set_cons_zero, List.set_cons_succ, i64_w, i32_w]
                      rfl
                     refine take_ (i := 1) (N := some 66) (v := ?_) (a' := ?_) #[true, true, true, false, false, true, true, false, false, false, false, false, false] rfl rfl (take_ofW HT_.out HW_.out (by kernel_rfl)) (fun _ _ _ h => h) (Or.inl ⟨by rfl, ?_⟩) hHeld ?_ ?_
                     rotate_left
                     ·rintro w' ⟨s0, s1, s2, s3⟩
                      go_simp
                      with_reducible rfl
                     rotate_left
                     ·simp only [Act.put, List.setIfInBounds_toArray, List.set_cons_zero, List.set_cons_succ, i64_w, i32_w]
                      rfl
                     refine take_ (i := 3) (N := some 68) (v := ?_) (a' := ?_) #[true, true, true, true, false, true, true, false, false, false, false, false, false] rfl rfl (take_ofW HT_.out HW_.out (by kernel_rfl)) (fun _ _ _ h => h) (Or.inl ⟨by rfl, ?_⟩) hHeld ?_ ?_
                     rotate_left
                     ·rintro w' ⟨s0, s1, s2, s3⟩
                      go_simp
                      with_reducible rfl
                     rotate_left
                     ·simp only [Act.put, List.setIfInBounds_toArray, List.set_cons_zero, List.set_cons_succ, i64_w, i32_w]
                      rfl
                     refine pure_ (i := 4) (N := some 69) (v := ?_) (a' := ?_) #[true, true, true, true, true, true, true, false, false, false, false, false, false] rfl rfl (any_of HT_.out (by kernel_rfl)) (fun _ _ _ h => h) (Or.inl ⟨by rfl, ?_⟩) ?_ ?_
                     rotate_left
                     ·intro w'
                      go_simp
                      with_reducible rfl
                     rotate_left
                     ·simp only [Act.put, List.setIfInBounds_toArray, List.set_cons_zero, List.set_cons_succ, i64_w, i32_w]
                      rfl
                     refine one_ (i := 7) (N := some 72) #[true, true, true, true, true, true, true, true, false, false, false, false, false] rfl rfl (one_of HT_.out (by kernel_rfl)) (by decide) (fun K hK => ?_)
                     refine goes_ Try.func42 (by kernel_rfl) rfl #[.string (((a0.extract (a1 : Int).toNat a0.size).extract ((ji38) : Int).toNat (a0.extract (a1 : Int).toNat a0.size).size).extract 1 3)] (by rfl) rfl rfl (by (try simp only [List.map_toArray, List.map_cons, List.map_nil]); first | done | (simp only [hji38]; rfl) | (simp only [hji38, ByteArray.size_extract, Nat.min_self]; done) | (simp only [hji38, ByteArray.size_extract, Nat.min_self]; rfl) | (simp only [ByteArray.size_extract, Nat.min_self]; done) | (simp only [ByteArray.size_extract, Nat.min_self]; rfl) | rfl | (simp only [List.length_drop, List.length_take]; rfl)) ?_
                     with_reducible refine (lsa_Number.calls k2 (((a0.extract (a1 : Int).toNat a0.size).extract ((ji38) : Int).toNat (a0.extract (a1 : Int).toNat a0.size).size).extract 1 3) t143 _ A45.out).mono ?_
                     rintro e w' ⟨rfl, ⟨nd, rfl⟩⟩
                     refine ⟨_, rfl, ?_⟩
                     refine hK.out _ _ ⟨(blk_cell BK142.out 0).trans rfl, (blk_cell BK142.out 1).trans rfl, (blk_cell BK142.out 2).trans rfl, (blk_cell BK142.out 3).trans rfl⟩ (fun hHeld => ?_)
                     clear hK K
                     refine norm_ (a' := ?_) ?_ ?_
                     rotate_left
                     ·show Act.put _ (some 72) _ = _
                      simp only [Act.put, List.setIfInBounds_toArray, List.set_cons_zero, List.set_cons_succ, i64_w, i32_w]
                      rfl
                     refine pure_ (i := 8) (N := some 73) (v := ?_) (a' := ?_) #[true, true, true, true, true, true, true, true, true, false, false, false, false] rfl rfl (any_of HT_.out (by kernel_rfl)) (fun _ _ _ h => h) (Or.inl ⟨by rfl, ?_⟩) ?_ ?_
                     rotate_left
                     ·intro w'
                      go_simp
                      with_reducible rfl
                     rotate_left
                     ·simp only [Act.put, List.setIfInBounds_toArray, List.set_cons_zero, List.set_cons_succ, i64_w, i32_w]
                      rfl
                     refine one_ (i := 9) (N := some 74) #[true, true, true, true, true, true, true, true, true, true, false, false, false] rfl rfl (one_of HT_.out (by kernel_rfl)) (by decide) (fun K hK => ?_)
                     refine value_ (w1 := ?_) (v := ?_) (by rfl) rfl ?_ ?_
                     rotate_left 2
                     ·go_simp
                      constructor
                      ·rfl
                      ·rfl
                     refine hK.out _ _ ⟨(blk_cell (blk_alloc BK142.out _) 0).trans rfl, (blk_cell (blk_alloc BK142.out _) 1).trans rfl, (blk_cell (blk_alloc BK142.out _) 2).trans rfl, (blk_cell (blk_alloc BK142.out _) 3).trans rfl⟩ (fun hHeld => ?_)
                     clear hK K
                     refine norm_ (a' := ?_) ?_ ?_
                     rotate_left
                     ·show Act.put _ (some 74) _ = _
                      simp only [Act.put, List.setIfInBounds_toArray, List.set_cons_zero, List.set_cons_succ, i64_w, i32_w]
                      rfl
                     refine one_ (i := 10) (N := some 75) #[true, true, true, true, true, true, true, true, true, true, true, false, false] rfl rfl (one_of HT_.out (by kernel_rfl)) (by decide) (fun K hK => ?_)
                     (try rw [show (a0.extract (a1 : Int).toNat a0.size).extract ((ji38) : Int).toNat (a0.size - (a1 : Int).toNat) = (a0.extract (a1 : Int).toNat a0.size).extract ((ji38) : Int).toNat (a0.extract (a1 : Int).toNat a0.size).size from by simp only [ByteArray.size_extract, Nat.min_self]])
                     refine Kd.R_append_step k49 (w0 := w) w.heap.size (by rfl) (.tmp 66) (.tmp 74) 22 49 (.agg #[(.int .i64 0), (.int .i64 0)]) 16 rfl Try.underlying22 info49 rfl (by decide) (by omega) u143003 x143003_2 (⟨wrap64 (bt ((a0.extract (a1 : Int).toNat a0.size).extract ((ji38) : Int).toNat (a0.extract (a1 : Int).toNat a0.size).size) 0), t143⟩ : S49) [.int .i64 (wrap64 (bt ((a0.extract (a1 : Int).toNat a0.size).extract ((ji38) : Int).toNat (a0.extract (a1 : Int).toNat a0.size).size) 0)), .int .i64 t143] (fun _ => True) (fun _ => False) rfl rfl ?aP (fun _ hk => hk.elim) ?aF ?aO ?aB ?aS ?aL ?_
                     (case aP => exact k49_mkM _ _ _ (⟨wrap64 (bt ((a0.extract (a1 : Int).toNat a0.size).extract ((ji38) : Int).toNat (a0.extract (a1 : Int).toNat a0.size).size) 0), t143⟩ : S49))
                     (case aB => exact (by repeat (first | (with_reducible first | exact HB.out | apply below_alloc | apply pw_below_drewN | apply below_drew1 | refine below_set ?_ GE140.out | refine below_set ?_ GE142.out) | exact HB.out)))
                     (case aF => exact (fun _ _ => trivial))
                     (case aO => exact (by (with_reducible repeat (first | apply Kd.R_alloc | apply Kd.R_drewN | apply Kd.R_drew)); exact HO_143003.out))
                     (case aS => exact (below_size (by repeat (first | (with_reducible first | exact HB.out | apply below_alloc | apply pw_below_drewN | apply below_drew1 | refine below_set ?_ GE140.out | refine below_set ?_ GE142.out) | exact HB.out))))
                     (case aL => have := LMc46.out; omega)
                     intro v145 w48 ho hb hg hat
                     rw [← Ny144.out] at ho
                     have n0_ := Aside0.mk (blk_grown (g := gb140) (o := .cells #[.int .i64 0, .int .i64 0, .int .i64 0, .slice none 0 0] 24 (0, 0)) (by (with_reducible repeat (first | refine blk_drewN ?_ _ | refine blk_drew ?_ | refine blk_alloc ?_ _)); exact BK140.out) hg (Kd.R_ne HO_143003.out BK140.out (by decide)))
                     have n1_ := Aside0.mk (blk_grown (g := gb142) (o := .cells #[.int .i64 (wrap64 (bt (a0.extract (a1 : Int).toNat a0.size) 1)), .int .i64 t141, .int .i64 (wrap64 (bt (a0.extract (a1 : Int).toNat a0.size) 0)), u143003] 24 (0, 0)) (by (with_reducible repeat (first | refine blk_drewN ?_ _ | refine blk_drew ?_ | refine blk_alloc ?_ _)); exact BK142.out) hg (Kd.R_ne HO_143003.out BK142.out (by decide)))
                     have n2_ := Aside0.mk (hb)
                     have n3_ := Aside0.mk (ho)
                     clear BK140
                     clear BK142
                     clear HB
                     clear HO_143003
                     have BK140 := n0_
                     have BK142 := n1_
                     have HB := n2_
                     have HO146 := n3_
                     clear n0_ n1_ n2_ n3_
                     clear ho hb hg hat
                     obtain ⟨Ao49, co49, eo49⟩ := Kd.R_slice HO146.out
                     (first | subst eo49 | (injection eo49 with f1_ f2_ f3_; have f4_ := f1_.symm; have f5_ := f3_.symm; clear f1_ f2_ f3_; subst f4_; subst f5_))
                     refine hK.out _ _ ⟨(blk_cell BK142.out 0).trans rfl, (blk_cell BK142.out 1).trans rfl, (blk_cell BK142.out 2).trans rfl, (blk_cell BK142.out 3).trans rfl⟩ (fun hHeld => ?_)
                     clear hK K
                     refine norm_ (a' := ?_) ?_ ?_
                     rotate_left
                     ·show Act.put _ (some 75) _ = _
                      simp only [Act.put, List.setIfInBounds_toArray, List.set_cons_zero, List.set_cons_succ, i64_w, i32_w]
                      rfl
                     refine pure_ (i := 11) (N := some 76) (v := ?_) (a' := ?_) #[true, true, true, true, true, true, true, true, true, true, true, true, false] rfl rfl (any_of HT_.out (by kernel_rfl)) (fun _ _ _ h => h) (Or.inl ⟨by rfl, ?_⟩) ?_ ?_
                     rotate_left
                     ·intro w'
                      go_simp
                      with_reducible rfl
                     rotate_left
                     ·simp only [Act.put, List.setIfInBounds_toArray, List.set_cons_zero, List.set_cons_succ, i64_w, i32_w]
                      rfl
                     refine last_ (i := 12) (N := none) #[true, true, true, true, true, true, true, true, true, true, true, true, true] rfl rfl (one_of HT_.out (by kernel_rfl)) (by decide) (fun K hK => ?_)
                     have hs50 : w48.cell? ⟨gb142, 3, none⟩ = some (u143003) := (blk_cell BK142.out 3).trans rfl
                     have hfs50 := blk_frozen BK142.out 3
                     have hns50_0 := NB140_142.out
                     have hms50_0 := NB142_140.out
                     refine skip_ (w1 := ?_) (by rfl) rfl ?_ ?_
                     rotate_left
                     ·go_simp
                      rfl
                     refine hK.out _ _ ?_
                     clear hK K
                     refine done_ (done_of HT_.out (by kernel_rfl)) ?_
                     try go_wp2
                     go_roundg k2
                     case measure => have := HJ2.out; have := HK2.out; omega
                     case rel => exact ⟨(wrap64 (x57_2 + 1)), (y144), (.slice Ao49 y144.length co49), (by first | rfl | (simp; done) | (simp [*]; done)), H', ⟨by have := HJ2.out; have := HK2.out; omega⟩, ⟨by (with_reducible repeat (first | apply Kd.R_alloc | apply Kd.R_drewN | apply Kd.R_drew)); exact Kd.R_mono (Kd.R_far (p := ⟨gb142, 3, none⟩) (Kd.R_types HO146.out BK142.out (by decide)) (fun _ hk => hk.2) (.slice Ao49 y144.length co49)) (fun _ hk => trivial)⟩, ⟨by (with_reducible repeat (first | refine blk_drewN ?_ _ | refine blk_drew ?_ | refine blk_alloc ?_ _)); refine blk_far ?_ NB140_142.out _; (with_reducible repeat (first | refine blk_drewN ?_ _ | refine blk_drew ?_ | refine blk_alloc ?_ _)); exact BK140.out⟩, ⟨by (with_reducible repeat (first | refine blk_drewN ?_ _ | refine blk_drew ?_ | refine blk_alloc ?_ _)); refine blk_put (cs := #[.int .i64 (wrap64 (bt (a0.extract (a1 : Int).toNat a0.size) 1)), .int .i64 t141, .int .i64 (wrap64 (bt (a0.extract (a1 : Int).toNat a0.size) 0)), u143003]) ?_ 3 _ rfl; (with_reducible repeat (first | refine blk_drewN ?_ _ | refine blk_drew ?_ | refine blk_alloc ?_ _)); exact BK142.out⟩, ⟨by repeat (first | (with_reducible first | exact HB.out | apply below_alloc | apply pw_below_drewN | apply below_drew1 | refine below_set ?_ GE140.out | refine below_set ?_ GE142.out) | exact HB.out)⟩⟩
                    ·rw [if_neg c46] at H
                     exact absurd H (by simp)
                   ·rw [if_neg c44] at H
                    exact absurd H (by simp)
                  ·rw [if_neg c43] at H
                   exact absurd H (by simp)
                 ·rw [if_neg c41] at H
                  exact absurd H (by simp)
                ·rw [if_neg c40] at H
                 exact absurd H (by simp)
               ·rw [if_neg c39] at H
                exact absurd H (by simp)
              ·rw [if_neg c37] at H
               have c37b0 : decide (x57_2 < (wrap64 (bt (a0.extract (a1 : Int).toNat a0.size) 6))) = false := decide_eq_false c37
               (try (have c37f0 := c37b0; simp only [ByteArray.size_extract, Nat.min_self] at c37f0))
               clear c37
               replace H := Option.bind_eq_some_iff.mp H
               obtain ⟨⟨t147, t148⟩, A510, H⟩ := H
               replace H : (if t148 = 0 then (if 0 ≤ (wrap64 ((wrap64 (7 + (wrap64 (3 * (wrap64 (bt (a0.extract (a1 : Int).toNat a0.size) 6)))))) + 2)) then (if (wrap64 ((wrap64 (7 + (wrap64 (3 * (wrap64 (bt (a0.extract (a1 : Int).toNat a0.size) 6)))))) + 2)) ≤ ((a0.extract (a1 : Int).toNat a0.size).size : Int) then (if t147.toList = ((a0.extract (a1 : Int).toNat a0.size).extract 0 ((wrap64 ((wrap64 (7 + (wrap64 (3 * (wrap64 (bt (a0.extract (a1 : Int).toNat a0.size) 6)))))) + 2)) : Int).toNat).toList then (some ((wrap64 (bt (a0.extract (a1 : Int).toNat a0.size) 1)), t141, (wrap64 (bt (a0.extract (a1 : Int).toNat a0.size) 0)), x143003_2, wrap64 (a1 + (wrap64 ((wrap64 (7 + (wrap64 (3 * (wrap64 (bt (a0.extract (a1 : Int).toNat a0.size) 6)))))) + 2))), 0)) else (some (0, 0, 0, ([] : List (S49)), 0, 700))) else (none)) else (none)) else (some (0, 0, 0, ([] : List (S49)), 0, 700))) = some (r1, r2, r3, r4, r5, r6) := H
               have A51 := Aside0.mk A510
               clear A510
               by_cases c52 : t148 = 0
               ·rw [if_pos c52] at H
                have c52b0 : (t148 == 0) = true := beq_iff_eq.mpr c52
                have c52b1 : (t148 != 0) = false := bne_eq_false_iff_eq.mpr c52
                clear c52
                obtain ⟨ji53, hji53⟩ : ∃ j_ : Int, (wrap64 ((wrap64 (7 + (wrap64 (3 * (wrap64 (bt (a0.extract (a1 : Int).toNat a0.size) 6)))))) + 2)) = j_ := ⟨_, rfl⟩
                replace H : (if 0 ≤ (ji53) then (if (ji53) ≤ ((a0.extract (a1 : Int).toNat a0.size).size : Int) then (if t147.toList = ((a0.extract (a1 : Int).toNat a0.size).extract 0 ((ji53) : Int).toNat).toList then (some ((wrap64 (bt (a0.extract (a1 : Int).toNat a0.size) 1)), t141, (wrap64 (bt (a0.extract (a1 : Int).toNat a0.size) 0)), x143003_2, wrap64 (a1 + (ji53)), 0)) else (some (0, 0, 0, ([] : List (S49)), 0, 700))) else (none)) else (none)) = some (r1, r2, r3, r4, r5, r6) := by first | (rw [hji53] at H; exact H) | (simp only [hji53] at H ⊢; exact H)
                (try rw [hji53] at c20b0)
                (try rw [hji53] at A51)
                have hji53w : (IntKind.i64.wrap ((wrap64 (7 + (wrap64 (3 * (wrap64 (bt (a0.extract (a1 : Int).toNat a0.size) 6)))))) + 2)) = ji53 := (i64_w _).trans hji53
                by_cases c54 : 0 ≤ (ji53)
                ·rw [if_pos c54] at H
                 have c54b0 := eq_true c54
                 have c54b1 : decide (0 ≤ (ji53)) = true := decide_eq_true c54
                 clear c54
                 by_cases c55 : (ji53) ≤ ((a0.extract (a1 : Int).toNat a0.size).size : Int)
                 ·rw [if_pos c55] at H
                  (try (have c55p := c55; simp only [ByteArray.size_extract] at c55p))
                  (try (have c55o := c55; simp only [ByteArray.size_extract, Nat.min_self] at c55o))
                  have c55b0 := eq_true c55
                  have c55b1 : decide ((ji53) ≤ ((a0.extract (a1 : Int).toNat a0.size).size : Int)) = true := decide_eq_true c55
                  (try (have c55f1 := c55b1; simp only [ByteArray.size_extract, Nat.min_self] at c55f1))
                  clear c55
                  by_cases c56 : t147.toList = ((a0.extract (a1 : Int).toNat a0.size).extract 0 ((ji53) : Int).toNat).toList
                  ·rw [if_pos c56] at H
                   have c56b0 : (t147.toList == ((a0.extract (a1 : Int).toNat a0.size).extract 0 ((ji53) : Int).toNat).toList) = true := beq_iff_eq.mpr c56
                   have c56b1 : (t147.toList != ((a0.extract (a1 : Int).toNat a0.size).extract 0 ((ji53) : Int).toNat).toList) = false := bne_eq_false_iff_eq.mpr c56
                   clear c56
                   simp only [Option.some.injEq, Prod.mk.injEq] at H
                   obtain ⟨rfl, rfl, rfl, rfl, rfl, rfl⟩ := H
                   have hnb57 := NB142_140.out
                   have hnc57 := NB140_142.out
                   have hcz58_0 : wr.cell? ⟨gb142, 0, none⟩ = some (.int .i64 (wrap64 (bt (a0.extract (a1 : Int).toNat a0.size) 1))) := (blk_cell BK142.out 0).trans rfl
                   have hcz58_1 : wr.cell? ⟨gb142, 1, none⟩ = some (.int .i64 t141) := (blk_cell BK142.out 1).trans rfl
                   have hcz58_2 : wr.cell? ⟨gb142, 2, none⟩ = some (.int .i64 (wrap64 (bt (a0.extract (a1 : Int).toNat a0.size) 0))) := (blk_cell BK142.out 2).trans rfl
                   have hcz58_3 : wr.cell? ⟨gb142, 3, none⟩ = some (u143003) := (blk_cell BK142.out 3).trans rfl
                   have hfz58_0 := blk_frozen BK142.out 0
                   have hfz58_1 := blk_frozen BK142.out 1
                   have hfz58_2 := blk_frozen BK142.out 2
                   have hfz58_3 := blk_frozen BK142.out 3
                   obtain ⟨Ao59, co59, eo59⟩ := Kd.R_slice HO_143003.out
                   subst eo59
                   go_wp2_with (first | ((with_reducible refine gate_callee (f := 13) rfl ?_); refine goesL_ (some 80) rfl rfl Try.func13 (by kernel_rfl) rfl #[.agg #[.int .i64 (wrap64 (bt (a0.extract (a1 : Int).toNat a0.size) 1)), .int .i64 t141, .int .i64 (wrap64 (bt (a0.extract (a1 : Int).toNat a0.size) 0)), .slice Ao59 x143003_2.length co59]] rfl (by (try simp only [List.map_toArray, List.map_cons, List.map_nil]); first | done | rfl | (simp only [List.length_drop, List.length_take]; rfl)) ?_; (with_reducible refine (lsa_Put.calls k2 (wrap64 (bt (a0.extract (a1 : Int).toNat a0.size) 1)) t141 (wrap64 (bt (a0.extract (a1 : Int).toNat a0.size) 0)) _ _ x143003_2 t147 t148 _ ?side1 ?side2 A51.out).mono ?_); (case side1 => repeat (first | exact (Kd.R_reads' HO_143003.out).2.2 | (with_reducible refine Kd.C_alloc ?_ _) | (with_reducible refine Kd.C_drewN ?_ _) | (with_reducible refine Kd.C_drew ?_))); (case side2 => exact (Kd.R_reads' HO_143003.out).2.1); rintro e w60 ⟨rfl, hb⟩; refine ⟨_, rfl, ?_⟩; have n0_ := Aside0.mk (Kd.R_below (by (with_reducible repeat (first | apply Kd.R_alloc | apply Kd.R_drewN | apply Kd.R_drew)); exact HO_143003.out) hb); have n1_ := Aside0.mk (blk_below (g := gb140) (o := .cells #[.int .i64 0, .int .i64 0, .int .i64 0, .slice none 0 0] 24 (0, 0)) (by (with_reducible repeat (first | refine blk_drewN ?_ _ | refine blk_drew ?_ | refine blk_alloc ?_ _)); exact BK140.out) hb); have n2_ := Aside0.mk (blk_below (g := gb142) (o := .cells #[.int .i64 (wrap64 (bt (a0.extract (a1 : Int).toNat a0.size) 1)), .int .i64 t141, .int .i64 (wrap64 (bt (a0.extract (a1 : Int).toNat a0.size) 0)), .slice Ao59 x143003_2.length co59] 24 (0, 0)) (by (with_reducible repeat (first | refine blk_drewN ?_ _ | refine blk_drew ?_ | refine blk_alloc ?_ _)); exact BK142.out) hb); have n3_ := Aside0.mk (below_step (by repeat (first | (with_reducible first | exact HB.out | apply below_alloc | apply pw_below_drewN | apply below_drew1 | refine below_set ?_ GE140.out | refine below_set ?_ GE142.out) | exact HB.out)) hb); clear HO_143003; clear BK140; clear BK142; clear HB; have HO_143003 := n0_; have BK140 := n1_; have BK142 := n2_; have HB := n3_; clear n0_ n1_ n2_ n3_; (try clear hb); (try clear hb2); (try clear hk); (try clear hi); have hcz61_0 : w60.cell? ⟨gb142, 0, none⟩ = some (.int .i64 (wrap64 (bt (a0.extract (a1 : Int).toNat a0.size) 1))) := (blk_cell BK142.out 0).trans rfl; have hcz61_1 : w60.cell? ⟨gb142, 1, none⟩ = some (.int .i64 t141) := (blk_cell BK142.out 1).trans rfl; have hcz61_2 : w60.cell? ⟨gb142, 2, none⟩ = some (.int .i64 (wrap64 (bt (a0.extract (a1 : Int).toNat a0.size) 0))) := (blk_cell BK142.out 2).trans rfl; have hcz61_3 : w60.cell? ⟨gb142, 3, none⟩ = some (.slice Ao59 x143003_2.length co59) := (blk_cell BK142.out 3).trans rfl; have hfz61_0 := blk_frozen BK142.out 0; have hfz61_1 := blk_frozen BK142.out 1; have hfz61_2 := blk_frozen BK142.out 2; have hfz61_3 := blk_frozen BK142.out 3; have hcz62_0 : w60.cell? ⟨gb140, 0, none⟩ = some (.int .i64 0) := (blk_cell BK140.out 0).trans rfl; have hcz62_1 : w60.cell? ⟨gb140, 1, none⟩ = some (.int .i64 0) := (blk_cell BK140.out 1).trans rfl; have hcz62_2 : w60.cell? ⟨gb140, 2, none⟩ = some (.int .i64 0) := (blk_cell BK140.out 2).trans rfl; have hcz62_3 : w60.cell? ⟨gb140, 3, none⟩ = some (.slice none 0 0) := (blk_cell BK140.out 3).trans rfl; have hfz62_0 := blk_frozen BK140.out 0; have hfz62_1 := blk_frozen BK140.out 1; have hfz62_2 := blk_frozen BK140.out 2; have hfz62_3 := blk_frozen BK140.out 3))
                   refine bodyPost_ret (results_ctt rfl _ _ gb140 24 #[.int .i64 (wrap64 (bt (a0.extract (a1 : Int).toNat a0.size) 1)), .int .i64 t141, .int .i64 (wrap64 (bt (a0.extract (a1 : Int).toNat a0.size) 0)), .slice Ao59 x143003_2.length co59] (0, 0) _ rfl (by (with_reducible repeat (first | refine blk_drewN ?_ _ | refine blk_drew ?_ | refine blk_alloc ?_ _)); refine blk_put (cs := #[.int .i64 (wrap64 (bt (a0.extract (a1 : Int).toNat a0.size) 1)), .int .i64 t141, .int .i64 (wrap64 (bt (a0.extract (a1 : Int).toNat a0.size) 0)), .slice none 0 0]) ?_ 3 _ rfl; (with_reducible repeat (first | refine blk_drewN ?_ _ | refine blk_drew ?_ | refine blk_alloc ?_ _)); refine blk_put (cs := #[.int .i64 (wrap64 (bt (a0.extract (a1 : Int).toNat a0.size) 1)), .int .i64 t141, .int .i64 0, .slice none 0 0]) ?_ 2 _ rfl; (with_reducible repeat (first | refine blk_drewN ?_ _ | refine blk_drew ?_ | refine blk_alloc ?_ _)); refine blk_put (cs := #[.int .i64 (wrap64 (bt (a0.extract (a1 : Int).toNat a0.size) 1)), .int .i64 0, .int .i64 0, .slice none 0 0]) ?_ 1 _ rfl; (with_reducible repeat (first | refine blk_drewN ?_ _ | refine blk_drew ?_ | refine blk_alloc ?_ _)); refine blk_put (cs := #[.int .i64 0, .int .i64 0, .int .i64 0, .slice none 0 0]) ?_ 0 _ rfl; (with_reducible repeat (first | refine blk_drewN ?_ _ | refine blk_drew ?_ | refine blk_alloc ?_ _)); exact BK140.out) Try.underlying24 rfl (by kernel_rfl)) rfl ?_
                   exact ⟨_, by first | rfl | (simp [errW_none, errW_some] <;> rfl) | (simp only [← hji53]; first | rfl | (simp [errW_none, errW_some] <;> rfl)) | (simp [*, errW_none, errW_some] <;> rfl), by (with_reducible repeat (first | apply Kd.R_alloc | apply Kd.R_drewN | apply Kd.R_drew)); exact Kd.R_mono (Kd.R_far (p := ⟨gb140, 3, none⟩) (Kd.R_far (p := ⟨gb140, 2, none⟩) (Kd.R_far (p := ⟨gb140, 1, none⟩) (Kd.R_far (p := ⟨gb140, 0, none⟩) (Kd.R_types HO_143003.out BK140.out (by decide)) (fun _ hk => hk.2) (.int .i64 (wrap64 (bt (a0.extract (a1 : Int).toNat a0.size) 1)))) (fun _ hk => hk.2) (.int .i64 t141)) (fun _ hk => hk.2) (.int .i64 (wrap64 (bt (a0.extract (a1 : Int).toNat a0.size) 0)))) (fun _ hk => hk.2) (.slice Ao59 x143003_2.length co59)) (fun _ hk => trivial), by repeat (first | (with_reducible first | exact HB.out | apply below_alloc | apply pw_below_drewN | apply below_drew1 | refine below_set ?_ GE140.out | refine below_set ?_ GE142.out) | exact HB.out)⟩
                  ·rw [if_neg c56] at H
                   have c56b0 : (t147.toList == ((a0.extract (a1 : Int).toNat a0.size).extract 0 ((ji53) : Int).toNat).toList) = false := beq_eq_false_iff_ne.mpr c56
                   have c56b1 : (t147.toList != ((a0.extract (a1 : Int).toNat a0.size).extract 0 ((ji53) : Int).toNat).toList) = true := bne_iff_ne.mpr c56
                   simp only [Option.some.injEq, Prod.mk.injEq] at H
                   obtain ⟨rfl, rfl, rfl, rfl, rfl, rfl⟩ := H
                   have hnb63 := NB142_140.out
                   have hnc63 := NB140_142.out
                   have hcz64_0 : wr.cell? ⟨gb142, 0, none⟩ = some (.int .i64 (wrap64 (bt (a0.extract (a1 : Int).toNat a0.size) 1))) := (blk_cell BK142.out 0).trans rfl
                   have hcz64_1 : wr.cell? ⟨gb142, 1, none⟩ = some (.int .i64 t141) := (blk_cell BK142.out 1).trans rfl
                   have hcz64_2 : wr.cell? ⟨gb142, 2, none⟩ = some (.int .i64 (wrap64 (bt (a0.extract (a1 : Int).toNat a0.size) 0))) := (blk_cell BK142.out 2).trans rfl
                   have hcz64_3 : wr.cell? ⟨gb142, 3, none⟩ = some (u143003) := (blk_cell BK142.out 3).trans rfl
                   have hfz64_0 := blk_frozen BK142.out 0
                   have hfz64_1 := blk_frozen BK142.out 1
                   have hfz64_2 := blk_frozen BK142.out 2
                   have hfz64_3 := blk_frozen BK142.out 3
                   obtain ⟨Ao65, co65, eo65⟩ := Kd.R_slice HO_143003.out
                   subst eo65
                   go_wp2_with (first | ((with_reducible refine gate_callee (f := 13) rfl ?_); refine goesL_ (some 80) rfl rfl Try.func13 (by kernel_rfl) rfl #[.agg #[.int .i64 (wrap64 (bt (a0.extract (a1 : Int).toNat a0.size) 1)), .int .i64 t141, .int .i64 (wrap64 (bt (a0.extract (a1 : Int).toNat a0.size) 0)), .slice Ao65 x143003_2.length co65]] rfl (by (try simp only [List.map_toArray, List.map_cons, List.map_nil]); first | done | rfl | (simp only [List.length_drop, List.length_take]; rfl)) ?_; (with_reducible refine (lsa_Put.calls k2 (wrap64 (bt (a0.extract (a1 : Int).toNat a0.size) 1)) t141 (wrap64 (bt (a0.extract (a1 : Int).toNat a0.size) 0)) _ _ x143003_2 t147 t148 _ ?side1 ?side2 A51.out).mono ?_); (case side1 => repeat (first | exact (Kd.R_reads' HO_143003.out).2.2 | (with_reducible refine Kd.C_alloc ?_ _) | (with_reducible refine Kd.C_drewN ?_ _) | (with_reducible refine Kd.C_drew ?_))); (case side2 => exact (Kd.R_reads' HO_143003.out).2.1); rintro e w66 ⟨rfl, hb⟩; refine ⟨_, rfl, ?_⟩; have n0_ := Aside0.mk (Kd.R_below (by (with_reducible repeat (first | apply Kd.R_alloc | apply Kd.R_drewN | apply Kd.R_drew)); exact HO_143003.out) hb); have n1_ := Aside0.mk (blk_below (g := gb140) (o := .cells #[.int .i64 0, .int .i64 0, .int .i64 0, .slice none 0 0] 24 (0, 0)) (by (with_reducible repeat (first | refine blk_drewN ?_ _ | refine blk_drew ?_ | refine blk_alloc ?_ _)); exact BK140.out) hb); have n2_ := Aside0.mk (blk_below (g := gb142) (o := .cells #[.int .i64 (wrap64 (bt (a0.extract (a1 : Int).toNat a0.size) 1)), .int .i64 t141, .int .i64 (wrap64 (bt (a0.extract (a1 : Int).toNat a0.size) 0)), .slice Ao65 x143003_2.length co65] 24 (0, 0)) (by (with_reducible repeat (first | refine blk_drewN ?_ _ | refine blk_drew ?_ | refine blk_alloc ?_ _)); exact BK142.out) hb); have n3_ := Aside0.mk (below_step (by repeat (first | (with_reducible first | exact HB.out | apply below_alloc | apply pw_below_drewN | apply below_drew1 | refine below_set ?_ GE140.out | refine below_set ?_ GE142.out) | exact HB.out)) hb); clear HO_143003; clear BK140; clear BK142; clear HB; have HO_143003 := n0_; have BK140 := n1_; have BK142 := n2_; have HB := n3_; clear n0_ n1_ n2_ n3_; (try clear hb); (try clear hb2); (try clear hk); (try clear hi); have hcz67_0 : w66.cell? ⟨gb140, 0, none⟩ = some (.int .i64 0) := (blk_cell BK140.out 0).trans rfl; have hcz67_1 : w66.cell? ⟨gb140, 1, none⟩ = some (.int .i64 0) := (blk_cell BK140.out 1).trans rfl; have hcz67_2 : w66.cell? ⟨gb140, 2, none⟩ = some (.int .i64 0) := (blk_cell BK140.out 2).trans rfl; have hcz67_3 : w66.cell? ⟨gb140, 3, none⟩ = some (.slice none 0 0) := (blk_cell BK140.out 3).trans rfl; have hfz67_0 := blk_frozen BK140.out 0; have hfz67_1 := blk_frozen BK140.out 1; have hfz67_2 := blk_frozen BK140.out 2; have hfz67_3 := blk_frozen BK140.out 3))
                   refine bodyPost_ret (results_ctt rfl _ _ gb140 24 #[.int .i64 0, .int .i64 0, .int .i64 0, .slice none 0 0] (0, 0) _ rfl (by (with_reducible repeat (first | refine blk_drewN ?_ _ | refine blk_drew ?_ | refine blk_alloc ?_ _)); refine blk_put (cs := #[.int .i64 0, .int .i64 0, .int .i64 0, .slice none 0 0]) ?_ 3 _ rfl; (with_reducible repeat (first | refine blk_drewN ?_ _ | refine blk_drew ?_ | refine blk_alloc ?_ _)); refine blk_put (cs := #[.int .i64 0, .int .i64 0, .int .i64 0, .slice none 0 0]) ?_ 2 _ rfl; (with_reducible repeat (first | refine blk_drewN ?_ _ | refine blk_drew ?_ | refine blk_alloc ?_ _)); refine blk_put (cs := #[.int .i64 0, .int .i64 0, .int .i64 0, .slice none 0 0]) ?_ 1 _ rfl; (with_reducible repeat (first | refine blk_drewN ?_ _ | refine blk_drew ?_ | refine blk_alloc ?_ _)); refine blk_put (cs := #[.int .i64 0, .int .i64 0, .int .i64 0, .slice none 0 0]) ?_ 0 _ rfl; (with_reducible repeat (first | refine blk_drewN ?_ _ | refine blk_drew ?_ | refine blk_alloc ?_ _)); exact BK140.out) Try.underlying24 rfl (by kernel_rfl)) rfl ?_
                   exact ⟨_, by first | rfl | (simp [errW_none, errW_some] <;> rfl) | (simp only [← hji53]; first | rfl | (simp [errW_none, errW_some] <;> rfl)) | (simp [*, errW_none, errW_some] <;> rfl), by first | exact Kd.R_nil _ _ _ _ _ | exact Kd.N_nil _ _ _ _ _ | exact Kd.V_nil _ _ _ _ _ | exact Kd.Q_nil _ _ _ _ _ | exact Kd.S_nil _ _ _ _ _, by repeat (first | (with_reducible first | exact HB.out | apply below_alloc | apply pw_below_drewN | apply below_drew1 | refine below_set ?_ GE140.out | refine below_set ?_ GE142.out) | exact HB.out)⟩
                 ·rw [if_neg c55] at H
                  exact absurd H (by simp)
                ·rw [if_neg c54] at H
                 exact absurd H (by simp)
               ·rw [if_neg c52] at H
                have c52b0 : (t148 == 0) = false := beq_eq_false_iff_ne.mpr c52
                have c52b1 : (t148 != 0) = true := bne_iff_ne.mpr c52
                simp only [Option.some.injEq, Prod.mk.injEq] at H
                obtain ⟨rfl, rfl, rfl, rfl, rfl, rfl⟩ := H
                have hnb68 := NB142_140.out
                have hnc68 := NB140_142.out
                have hcz69_0 : wr.cell? ⟨gb142, 0, none⟩ = some (.int .i64 (wrap64 (bt (a0.extract (a1 : Int).toNat a0.size) 1))) := (blk_cell BK142.out 0).trans rfl
                have hcz69_1 : wr.cell? ⟨gb142, 1, none⟩ = some (.int .i64 t141) := (blk_cell BK142.out 1).trans rfl
                have hcz69_2 : wr.cell? ⟨gb142, 2, none⟩ = some (.int .i64 (wrap64 (bt (a0.extract (a1 : Int).toNat a0.size) 0))) := (blk_cell BK142.out 2).trans rfl
                have hcz69_3 : wr.cell? ⟨gb142, 3, none⟩ = some (u143003) := (blk_cell BK142.out 3).trans rfl
                have hfz69_0 := blk_frozen BK142.out 0
                have hfz69_1 := blk_frozen BK142.out 1
                have hfz69_2 := blk_frozen BK142.out 2
                have hfz69_3 := blk_frozen BK142.out 3
                obtain ⟨Ao70, co70, eo70⟩ := Kd.R_slice HO_143003.out
                subst eo70
                go_wp2_with (first | ((with_reducible refine gate_callee (f := 13) rfl ?_); refine goesL_ (some 80) rfl rfl Try.func13 (by kernel_rfl) rfl #[.agg #[.int .i64 (wrap64 (bt (a0.extract (a1 : Int).toNat a0.size) 1)), .int .i64 t141, .int .i64 (wrap64 (bt (a0.extract (a1 : Int).toNat a0.size) 0)), .slice Ao70 x143003_2.length co70]] rfl (by (try simp only [List.map_toArray, List.map_cons, List.map_nil]); first | done | rfl | (simp only [List.length_drop, List.length_take]; rfl)) ?_; (with_reducible refine (lsa_Put.calls k2 (wrap64 (bt (a0.extract (a1 : Int).toNat a0.size) 1)) t141 (wrap64 (bt (a0.extract (a1 : Int).toNat a0.size) 0)) _ _ x143003_2 t147 t148 _ ?side1 ?side2 A51.out).mono ?_); (case side1 => repeat (first | exact (Kd.R_reads' HO_143003.out).2.2 | (with_reducible refine Kd.C_alloc ?_ _) | (with_reducible refine Kd.C_drewN ?_ _) | (with_reducible refine Kd.C_drew ?_))); (case side2 => exact (Kd.R_reads' HO_143003.out).2.1); rintro e w71 ⟨rfl, hb⟩; refine ⟨_, rfl, ?_⟩; have n0_ := Aside0.mk (Kd.R_below (by (with_reducible repeat (first | apply Kd.R_alloc | apply Kd.R_drewN | apply Kd.R_drew)); exact HO_143003.out) hb); have n1_ := Aside0.mk (blk_below (g := gb140) (o := .cells #[.int .i64 0, .int .i64 0, .int .i64 0, .slice none 0 0] 24 (0, 0)) (by (with_reducible repeat (first | refine blk_drewN ?_ _ | refine blk_drew ?_ | refine blk_alloc ?_ _)); exact BK140.out) hb); have n2_ := Aside0.mk (blk_below (g := gb142) (o := .cells #[.int .i64 (wrap64 (bt (a0.extract (a1 : Int).toNat a0.size) 1)), .int .i64 t141, .int .i64 (wrap64 (bt (a0.extract (a1 : Int).toNat a0.size) 0)), .slice Ao70 x143003_2.length co70] 24 (0, 0)) (by (with_reducible repeat (first | refine blk_drewN ?_ _ | refine blk_drew ?_ | refine blk_alloc ?_ _)); exact BK142.out) hb); have n3_ := Aside0.mk (below_step (by repeat (first | (with_reducible first | exact HB.out | apply below_alloc | apply pw_below_drewN | apply below_drew1 | refine below_set ?_ GE140.out | refine below_set ?_ GE142.out) | exact HB.out)) hb); clear HO_143003; clear BK140; clear BK142; clear HB; have HO_143003 := n0_; have BK140 := n1_; have BK142 := n2_; have HB := n3_; clear n0_ n1_ n2_ n3_; (try clear hb); (try clear hb2); (try clear hk); (try clear hi); have hcz72_0 : w71.cell? ⟨gb140, 0, none⟩ = some (.int .i64 0) := (blk_cell BK140.out 0).trans rfl; have hcz72_1 : w71.cell? ⟨gb140, 1, none⟩ = some (.int .i64 0) := (blk_cell BK140.out 1).trans rfl; have hcz72_2 : w71.cell? ⟨gb140, 2, none⟩ = some (.int .i64 0) := (blk_cell BK140.out 2).trans rfl; have hcz72_3 : w71.cell? ⟨gb140, 3, none⟩ = some (.slice none 0 0) := (blk_cell BK140.out 3).trans rfl; have hfz72_0 := blk_frozen BK140.out 0; have hfz72_1 := blk_frozen BK140.out 1; have hfz72_2 := blk_frozen BK140.out 2; have hfz72_3 := blk_frozen BK140.out 3))
                refine bodyPost_ret (results_ctt rfl _ _ gb140 24 #[.int .i64 0, .int .i64 0, .int .i64 0, .slice none 0 0] (0, 0) _ rfl (by (with_reducible repeat (first | refine blk_drewN ?_ _ | refine blk_drew ?_ | refine blk_alloc ?_ _)); refine blk_put (cs := #[.int .i64 0, .int .i64 0, .int .i64 0, .slice none 0 0]) ?_ 3 _ rfl; (with_reducible repeat (first | refine blk_drewN ?_ _ | refine blk_drew ?_ | refine blk_alloc ?_ _)); refine blk_put (cs := #[.int .i64 0, .int .i64 0, .int .i64 0, .slice none 0 0]) ?_ 2 _ rfl; (with_reducible repeat (first | refine blk_drewN ?_ _ | refine blk_drew ?_ | refine blk_alloc ?_ _)); refine blk_put (cs := #[.int .i64 0, .int .i64 0, .int .i64 0, .slice none 0 0]) ?_ 1 _ rfl; (with_reducible repeat (first | refine blk_drewN ?_ _ | refine blk_drew ?_ | refine blk_alloc ?_ _)); refine blk_put (cs := #[.int .i64 0, .int .i64 0, .int .i64 0, .slice none 0 0]) ?_ 0 _ rfl; (with_reducible repeat (first | refine blk_drewN ?_ _ | refine blk_drew ?_ | refine blk_alloc ?_ _)); exact BK140.out) Try.underlying24 rfl (by kernel_rfl)) rfl ?_
                exact ⟨_, by first | rfl | (simp [errW_none, errW_some] <;> rfl) | (simp [*, errW_none, errW_some] <;> rfl), by first | exact Kd.R_nil _ _ _ _ _ | exact Kd.N_nil _ _ _ _ _ | exact Kd.V_nil _ _ _ _ _ | exact Kd.Q_nil _ _ _ _ _ | exact Kd.S_nil _ _ _ _ _, by repeat (first | (with_reducible first | exact HB.out | apply below_alloc | apply pw_below_drewN | apply below_drew1 | refine below_set ?_ GE140.out | refine below_set ?_ GE142.out) | exact HB.out)⟩
          ·rw [if_neg c18] at H
           exact absurd H (by simp)
         ·rw [if_neg c16] at H
          exact absurd H (by simp)
        ·rw [if_neg c15] at H
         exact absurd H (by simp)
       ·rw [if_neg c13] at H
        exact absurd H (by simp)
      ·rw [if_neg c11] at H
       exact absurd H (by simp)
     ·rw [if_neg c10] at H
      exact absurd H (by simp)
    ·rw [if_neg c9] at H
     exact absurd H (by simp)

end Go.Proofs.Ytmcajcomoegkdaa.Q7
