/- Written by a program of this session (out of what the print wrote for this seat): the functions' walks, packed. -/
import Derived.Test.YtmcajcomoegkdaaZ10ux3
namespace Go.Proofs.Ytmcajcomoegkdaa.Q10u
open Go.RowKit Go.Proofs.YtmcajcomoegkdaaW.PrintWords Go.Proofs.YtmcajcomoegkdaaW.PrintLast Go.Proofs.YtmcajcomoegkdaaW.PrintMore
attribute [local go_sem] max2_int min2_int max_two min_two max_three min_three max_four min_four   -- for this text's walks alone
set_option linter.unusedVariables false
set_option linter.unusedSimpArgs false

/-! ### watchwordref1_GetLsa: function 16 -/
mutual
def watchwordref1_GetLsa.j0 : Nat → ByteArray → Int → Bool → Option (Int × Int × Int × (List (S49)) × Int × Int)
 | 0, _, _, _ => none
 | k + 1, x0, x1, x22 => if x22 = true then (some (0, 0, 0, ([] : List (S49)), 0, 700)) else (if 0 ≤ x1 then (if x1 < (x0.size : Int) then (if 0 ≤ (wrap64 (x1 + 1)) then (if (wrap64 (x1 + 1)) < (x0.size : Int) then (if 0 ≤ (wrap64 (x1 + 2)) then (if (wrap64 (x1 + 2)) ≤ (wrap64 (x1 + 6)) then (if (wrap64 (x1 + 6)) ≤ (x0.size : Int) then ((watchwordref1_Of.f k (x0.extract ((wrap64 (x1 + 2)) : Int).toNat ((wrap64 (x1 + 6)) : Int).toNat)).bind fun t223 => (if 0 ≤ (wrap64 (x1 + 6)) then (if (wrap64 (x1 + 6)) < (x0.size : Int) then (if (wrap64 ((wrap64 (x1 + 9)) + (wrap64 (3 * (wrap64 (bt x0 (wrap64 (x1 + 6)))))))) > (x0.size : Int) then (watchwordref1_GetLsa.j1 k x0 x1 (wrap64 (bt x0 (wrap64 (x1 + 6)))) (wrap64 ((wrap64 (x1 + 9)) + (wrap64 (3 * (wrap64 (bt x0 (wrap64 (x1 + 6)))))))) true (wrap64 (bt x0 (wrap64 (x1 + 1)))) t223 (wrap64 (bt x0 x1))) else (watchwordref1_GetLsa.j1 k x0 x1 (wrap64 (bt x0 (wrap64 (x1 + 6)))) (wrap64 ((wrap64 (x1 + 9)) + (wrap64 (3 * (wrap64 (bt x0 (wrap64 (x1 + 6)))))))) (decide ((wrap64 (bt x0 (wrap64 (x1 + 6)))) > 4)) (wrap64 (bt x0 (wrap64 (x1 + 1)))) t223 (wrap64 (bt x0 x1)))) else (none)) else (none))) else (none)) else (none)) else (none)) else (none)) else (none)) else (none)) else (none))
def watchwordref1_GetLsa.j1 : Nat → ByteArray → Int → Int → Int → Bool → Int → Int → Int → Option (Int × Int × Int × (List (S49)) × Int × Int)
 | 0, _, _, _, _, _, _, _, _ => none
 | k + 1, x0, x1, x8, x9, x58, x225000, x225001, x225002 => if x58 = true then (some (0, 0, 0, ([] : List (S49)), 0, 700)) else (watchwordref1_GetLsa.l0 k x0 x1 x8 x9 0 x225000 x225001 x225002 ([] : List (S49)))
def watchwordref1_GetLsa.l0 : Nat → ByteArray → Int → Int → Int → Int → Int → Int → Int → List (S49) → Option (Int × Int × Int × (List (S49)) × Int × Int)
 | 0, _, _, _, _, _, _, _, _, _ => none
 | k + 1, x0, x1, x8, x9, x10, x225000, x225001, x225002, x225003 => if x10 < x8 then (if 0 ≤ (wrap64 ((wrap64 (x1 + 7)) + (wrap64 (3 * x10)))) then (if (wrap64 ((wrap64 (x1 + 7)) + (wrap64 (3 * x10)))) < (x0.size : Int) then (if 0 ≤ (wrap64 ((wrap64 ((wrap64 (x1 + 7)) + (wrap64 (3 * x10)))) + 1)) then (if (wrap64 ((wrap64 ((wrap64 (x1 + 7)) + (wrap64 (3 * x10)))) + 1)) ≤ (wrap64 ((wrap64 ((wrap64 (x1 + 7)) + (wrap64 (3 * x10)))) + 3)) then (if (wrap64 ((wrap64 ((wrap64 (x1 + 7)) + (wrap64 (3 * x10)))) + 3)) ≤ (x0.size : Int) then ((watchwordref1_Of.f k (x0.extract ((wrap64 ((wrap64 ((wrap64 (x1 + 7)) + (wrap64 (3 * x10)))) + 1)) : Int).toNat ((wrap64 ((wrap64 ((wrap64 (x1 + 7)) + (wrap64 (3 * x10)))) + 3)) : Int).toNat)).bind fun t225 => (if x225003.length < 8796093022208 then (watchwordref1_GetLsa.l0 k x0 x1 x8 x9 (wrap64 (x10 + 1)) x225000 x225001 x225002 (x225003 ++ [(⟨wrap64 (bt x0 (wrap64 ((wrap64 (x1 + 7)) + (wrap64 (3 * x10))))), t225⟩ : S49)])) else (none))) else (none)) else (none)) else (none)) else (none)) else (none)) else ((watchwordref1_PutLsa.f k x225000 x225001 x225002 x225003).bind fun bt229 => (if bt229.2 = 0 then (if 0 ≤ x1 then (if x1 ≤ x9 then (if x9 ≤ (x0.size : Int) then (if bt229.1.toList = (x0.extract (x1 : Int).toNat (x9 : Int).toNat).toList then (some (x225000, x225001, x225002, x225003, x9, 0)) else (some (0, 0, 0, ([] : List (S49)), 0, 700))) else (none)) else (none)) else (none)) else (some (0, 0, 0, ([] : List (S49)), 0, 700))))
end
def watchwordref1_GetLsa.f (k : Nat) (a0 : ByteArray) (a1 : Int) : Option (Int × Int × Int × (List (S49)) × Int × Int) := if a1 < 0 then (watchwordref1_GetLsa.j0 k a0 a1 true) else (watchwordref1_GetLsa.j0 k a0 a1 (decide (a1 > (wrap64 ((a0.size : Int) - 7)))))
theorem watchwordref1_GetLsa.mono_l : ∀ k, (∀ y0 y1 y2, LeO (watchwordref1_GetLsa.j0 k y0 y1 y2) (watchwordref1_GetLsa.j0 (k + 1) y0 y1 y2)) ∧ (∀ y0 y1 y2 y3 y4 y5 y6 y7, LeO (watchwordref1_GetLsa.j1 k y0 y1 y2 y3 y4 y5 y6 y7) (watchwordref1_GetLsa.j1 (k + 1) y0 y1 y2 y3 y4 y5 y6 y7)) ∧ (∀ y0 y1 y2 y3 y4 y5 y6 y7 y8, LeO (watchwordref1_GetLsa.l0 k y0 y1 y2 y3 y4 y5 y6 y7 y8) (watchwordref1_GetLsa.l0 (k + 1) y0 y1 y2 y3 y4 y5 y6 y7 y8))
 | 0 => ⟨fun _ _ _ r h => by simp [watchwordref1_GetLsa.j0] at h, fun _ _ _ _ _ _ _ _ r h => by simp [watchwordref1_GetLsa.j1] at h, fun _ _ _ _ _ _ _ _ _ r h => by simp [watchwordref1_GetLsa.l0] at h⟩
 | k + 1 => by
  obtain ⟨ih0, ih1, ih2⟩ := watchwordref1_GetLsa.mono_l k
  refine ⟨?_, ?_, ?_⟩
  ·intro y0 y1 y2
   unfold watchwordref1_GetLsa.j0
   repeat' first
   | (with_reducible exact ih0 _ _ _)
   | (with_reducible exact ih1 _ _ _ _ _ _ _ _)
   | (with_reducible exact ih2 _ _ _ _ _ _ _ _ _)
   | (with_reducible exact watchwordref1_Of.mono _ _)
   | (with_reducible exact watchwordref1_PutLsa.mono _ _ _ _ _)
   | (with_reducible exact LeO.refl _)
   | (with_reducible exact LeO.none _)
   | (with_reducible refine LeO.ite ?_ ?_)
   | (with_reducible refine LeO.bind ?_ (fun _ => ?_))
   | exact ih0 _ _ _
   | exact ih1 _ _ _ _ _ _ _ _
   | exact ih2 _ _ _ _ _ _ _ _ _
   | exact watchwordref1_Of.mono _ _
   | exact watchwordref1_PutLsa.mono _ _ _ _ _
   | exact LeO.none _
   | refine LeO.ite ?_ ?_
   | refine LeO.bind ?_ (fun _ => ?_)
  ·intro y0 y1 y2 y3 y4 y5 y6 y7
   unfold watchwordref1_GetLsa.j1
   repeat' first
   | (with_reducible exact ih0 _ _ _)
   | (with_reducible exact ih1 _ _ _ _ _ _ _ _)
   | (with_reducible exact ih2 _ _ _ _ _ _ _ _ _)
   | (with_reducible exact watchwordref1_Of.mono _ _)
   | (with_reducible exact watchwordref1_PutLsa.mono _ _ _ _ _)
   | (with_reducible exact LeO.refl _)
   | (with_reducible exact LeO.none _)
   | (with_reducible refine LeO.ite ?_ ?_)
   | (with_reducible refine LeO.bind ?_ (fun _ => ?_))
   | exact ih0 _ _ _
   | exact ih1 _ _ _ _ _ _ _ _
   | exact ih2 _ _ _ _ _ _ _ _ _
   | exact watchwordref1_Of.mono _ _
   | exact watchwordref1_PutLsa.mono _ _ _ _ _
   | exact LeO.none _
   | refine LeO.ite ?_ ?_
   | refine LeO.bind ?_ (fun _ => ?_)
  ·intro y0 y1 y2 y3 y4 y5 y6 y7 y8
   unfold watchwordref1_GetLsa.l0
   repeat' first
   | (with_reducible exact ih0 _ _ _)
   | (with_reducible exact ih1 _ _ _ _ _ _ _ _)
   | (with_reducible exact ih2 _ _ _ _ _ _ _ _ _)
   | (with_reducible exact watchwordref1_Of.mono _ _)
   | (with_reducible exact watchwordref1_PutLsa.mono _ _ _ _ _)
   | (with_reducible exact LeO.refl _)
   | (with_reducible exact LeO.none _)
   | (with_reducible refine LeO.ite ?_ ?_)
   | (with_reducible refine LeO.bind ?_ (fun _ => ?_))
   | exact ih0 _ _ _
   | exact ih1 _ _ _ _ _ _ _ _
   | exact ih2 _ _ _ _ _ _ _ _ _
   | exact watchwordref1_Of.mono _ _
   | exact watchwordref1_PutLsa.mono _ _ _ _ _
   | exact LeO.none _
   | refine LeO.ite ?_ ?_
   | refine LeO.bind ?_ (fun _ => ?_)
theorem watchwordref1_GetLsa.mono : ∀ a0 a1 k, LeO (watchwordref1_GetLsa.f k a0 a1) (watchwordref1_GetLsa.f (k + 1) a0 a1) := by
 intro a0 a1 k
 obtain ⟨ih0, ih1, ih2⟩ := watchwordref1_GetLsa.mono_l k
 unfold watchwordref1_GetLsa.f
 repeat' first
   | (with_reducible exact ih0 _ _ _)
   | (with_reducible exact ih1 _ _ _ _ _ _ _ _)
   | (with_reducible exact ih2 _ _ _ _ _ _ _ _ _)
   | (with_reducible exact watchwordref1_Of.mono _ _)
   | (with_reducible exact watchwordref1_PutLsa.mono _ _ _ _ _)
   | (with_reducible exact LeO.refl _)
   | (with_reducible exact LeO.none _)
   | (with_reducible refine LeO.ite ?_ ?_)
   | (with_reducible refine LeO.bind ?_ (fun _ => ?_))
   | exact ih0 _ _ _
   | exact ih1 _ _ _ _ _ _ _ _
   | exact ih2 _ _ _ _ _ _ _ _ _
   | exact watchwordref1_Of.mono _ _
   | exact watchwordref1_PutLsa.mono _ _ _ _ _
   | exact LeO.none _
   | refine LeO.ite ?_ ?_
   | refine LeO.bind ?_ (fun _ => ?_)
def watchwordref1_GetLsa.T3 : Bool × List (List Nat × List Nat) := (true, [([], []), ([], []), ([0, 1], [0, 1]), ([2], [2]), ([], []), ([], []), ([5], [5]), ([4, 6], [4, 6]), ([7], [7]), ([], []), ([], []), ([10], [10]), ([], []), ([12], [12]), ([9, 11, 13], [9, 11, 13]), ([14], [14]), ([3, 8, 15], [3, 8, 15]), ([], []), ([17, 16, 15, 0, 1, 2, 3, 4, 5, 6, 7, 8, 9, 10, 11, 12, 13, 14, 15, 16, 17], [16, 17])])
def watchwordref1_GetLsa.B3 : List Nat := [0, 0, 3, 7, 0, 0, 32, 112, 240, 0, 0, 1024, 0, 4096, 15872, 32256, 65535, 0, 262143]
theorem watchwordref1_GetLsa.tab3 : rtab .any (opsOf Try.f16 3) = watchwordref1_GetLsa.T3 := by kernel_rfl
theorem watchwordref1_GetLsa.bits3 : waitsOk watchwordref1_GetLsa.T3.2 watchwordref1_GetLsa.B3 = true := by kernel_rfl
def watchwordref1_GetLsa.T12 : Bool × List (List Nat × List Nat) := (true, [([], []), ([0], [0]), ([], []), ([], []), ([2, 3], [2, 3]), ([4], [4]), ([], []), ([], []), ([7], [7]), ([], []), ([9], [9]), ([6, 8, 10], [6, 8, 10]), ([11], [11]), ([5, 12], [5, 12]), ([13], [13]), ([1, 14, 12], [1, 14]), ([0, 1, 2, 3, 4, 5, 6, 7, 8, 9, 10, 11, 12, 13, 14, 15], []), ([16, 15, 15, 0, 1, 2, 3, 4, 5, 6, 7, 8, 9, 10, 11, 12, 13, 14, 15], [15, 16])])
def watchwordref1_GetLsa.B12 : List Nat := [0, 1, 0, 0, 12, 28, 0, 0, 128, 0, 512, 1984, 4032, 8188, 16380, 32767, 65535, 131071]
theorem watchwordref1_GetLsa.tab12 : rtab .any (opsOf Try.f16 12) = watchwordref1_GetLsa.T12 := by kernel_rfl
theorem watchwordref1_GetLsa.bits12 : waitsOk watchwordref1_GetLsa.T12.2 watchwordref1_GetLsa.B12 = true := by kernel_rfl
set_option maxHeartbeats 8000000 in
set_option maxRecDepth 100000 in
theorem watchwordref1_GetLsa.calls (k : Nat) (a0 : ByteArray) (a1 : Int) (r1 : Int) (r2 : Int) (r3 : Int) (r4 : List (S49)) (r5 : Int) (r6 : Int) (w : World) (h : watchwordref1_GetLsa.f k a0 a1 = some (r1, r2, r3, r4, r5, r6)) :
  Calls Try.prog 16 #[.string a0, .int .i64 a1] w fun e w' => ∃ v3_ : Value, e = .returned (.tuple #[.agg #[.int .i64 r1, .int .i64 r2, .int .i64 r3, v3_], .int .i64 r5, .int .i64 r6]) ∧ Kd.R k49 49 w' w.heap.size (fun _ => True) v3_ r4 ∧ Below w.heap.size w w' := by
 have hu24 := Try.underlying24
 have hu49 := Try.underlying49
 have HB := Aside0.mk (Below.refl w.heap.size w)
 have H : (if a1 < 0 then (watchwordref1_GetLsa.j0 k a0 a1 true) else (watchwordref1_GetLsa.j0 k a0 a1 (decide (a1 > (wrap64 ((a0.size : Int) - 7)))))) = some (r1, r2, r3, r4, r5, r6) := h
 clear h
 have HC3 := Aside0.mk H
 clear H
 go_enter Try.func16, Try.ntmps16
 go_upto_region 1 with (first | ((with_reducible refine gate_dst (N := 4) rfl ?_); (try (refine gate_guard (by rfl) ?_; dsimp only)); refine box_event ?hg (N := 4) ?hd (cs := #[.int .i64 0, .int .i64 0, .int .i64 0, .slice none 0 0]) (t := 24) ?hr ?_; (case hd => rfl); (case hg => rfl); (case hr => first | (go_simp; done) | (go_simp; rfl)); intro gb222 hg w4 hbox hb; have n0_ := Aside0.mk (below_step (by repeat (first | (with_reducible first | exact HB.out | apply below_alloc | apply pw_below_drewN | apply below_drew1) | exact HB.out)) hb); have n1_ := Aside0.mk (hbox); have n2_ := Aside0.mk ((by rw [hg]; exact (below_size (by repeat (first | (with_reducible first | exact HB.out | apply below_alloc | apply pw_below_drewN | apply below_drew1) | exact HB.out))) : w.heap.size ≤ gb222)); have n3_ := Aside0.mk ((by rw [hg]; exact (below_size (by repeat (first | (with_reducible first | exact HB.out | apply below_alloc | apply pw_below_drewN | apply below_drew1) | exact HB.out))) : w.heap.size ≤ gb222)); clear HB; have HB := n0_; have BK222 := n1_; have GW222 := n2_; have GE222 := n3_; clear n0_ n1_ n2_ n3_; clear hb hbox hg))
 (try simp only [Act.put, List.setIfInBounds_toArray, List.set_cons_zero, List.set_cons_succ])
 go_cut [22] (fun v22 wc => ∃ (kq : Nat) (x22_2 : Bool), v22 = .bool x22_2 ∧ Aside0 (watchwordref1_GetLsa.j0 kq a0 a1 x22_2 = some (r1, r2, r3, r4, r5, r6)) ∧ Aside0 (kq ≤ k) ∧ Aside0 (wc.heap[gb222]? = some (.cells #[.int .i64 0, .int .i64 0, .int .i64 0, (.slice none 0 0)] 24 (0, 0))) ∧ Aside0 (Below w.heap.size w wc))
 case first =>
  have H := HC3.out
  clear HC3
  by_cases c5 : a1 < 0
  ·rw [if_pos c5] at H
   have c5b0 : decide (a1 < 0) = true := decide_eq_true c5
   clear c5
   (first | rw [c5b0] | (simp only [i64_w, i32_w]; rw [c5b0]) | skip)
   have H' := Aside0.mk H
   clear H
   go_wp2
   go_meet
   case rel => exact ⟨_, (true), (by first | rfl | (simp; done) | (simp [*]; done)), H', ⟨by first | omega | exact Nat.le_refl _⟩, ⟨by (with_reducible repeat (first | refine blk_drewN ?_ _ | refine blk_drew ?_ | refine blk_alloc ?_ _)); exact BK222.out⟩, ⟨by repeat (first | (with_reducible first | exact HB.out | apply below_alloc | apply pw_below_drewN | apply below_drew1 | refine below_set ?_ GE222.out) | exact HB.out)⟩⟩
  ·rw [if_neg c5] at H
   have c5b0 : decide (a1 < 0) = false := decide_eq_false c5
   clear c5
   (first | rw [c5b0] | (simp only [i64_w, i32_w]; rw [c5b0]) | skip)
   have H' := Aside0.mk H
   clear H
   go_wp2
   go_meet
   case rel => exact ⟨_, (decide (a1 > (wrap64 ((a0.size : Int) - 7)))), (by first | rfl | (simp; done) | (simp [*]; done)), H', ⟨by first | omega | exact Nat.le_refl _⟩, ⟨by (with_reducible repeat (first | refine blk_drewN ?_ _ | refine blk_drew ?_ | refine blk_alloc ?_ _)); exact BK222.out⟩, ⟨by repeat (first | (with_reducible first | exact HB.out | apply below_alloc | apply pw_below_drewN | apply below_drew1 | refine below_set ?_ GE222.out) | exact HB.out)⟩⟩
 case rest =>
  clear HC3
  try clear c1
  try clear p2
  try clear c5
  try clear c5b0
  obtain ⟨kq, x22_2, rfl, HA, HJ2, BK222, HB⟩ := hcut
  cases kq with
  | zero => exact absurd HA.out (by simp [watchwordref1_GetLsa.j0])
  | succ kj2 =>
   have H := HA.out
   clear HA
   simp only [watchwordref1_GetLsa.j0] at H
   by_cases c6 : x22_2 = true
   ·subst c6
    have H1 : (some (0, 0, 0, ([] : List (S49)), 0, 700)) = some (r1, r2, r3, r4, r5, r6) := by rw [if_pos rfl] at H; exact H
    clear H
    have H := H1
    clear H1
    simp only [Option.some.injEq, Prod.mk.injEq] at H
    obtain ⟨rfl, rfl, rfl, rfl, rfl, rfl⟩ := H
    have hcz7_0 : wc.cell? ⟨gb222, 0, none⟩ = some (.int .i64 0) := (blk_cell BK222.out 0).trans rfl
    have hcz7_1 : wc.cell? ⟨gb222, 1, none⟩ = some (.int .i64 0) := (blk_cell BK222.out 1).trans rfl
    have hcz7_2 : wc.cell? ⟨gb222, 2, none⟩ = some (.int .i64 0) := (blk_cell BK222.out 2).trans rfl
    have hcz7_3 : wc.cell? ⟨gb222, 3, none⟩ = some (.slice none 0 0) := (blk_cell BK222.out 3).trans rfl
    have hfz7_0 := blk_frozen BK222.out 0
    have hfz7_1 := blk_frozen BK222.out 1
    have hfz7_2 := blk_frozen BK222.out 2
    have hfz7_3 := blk_frozen BK222.out 3
    go_wp2
    refine bodyPost_ret (results_ctt rfl _ _ gb222 24 #[.int .i64 0, .int .i64 0, .int .i64 0, .slice none 0 0] (0, 0) _ rfl (by (with_reducible repeat (first | refine blk_drewN ?_ _ | refine blk_drew ?_ | refine blk_alloc ?_ _)); refine blk_put (cs := #[.int .i64 0, .int .i64 0, .int .i64 0, .slice none 0 0]) ?_ 3 _ rfl; (with_reducible repeat (first | refine blk_drewN ?_ _ | refine blk_drew ?_ | refine blk_alloc ?_ _)); refine blk_put (cs := #[.int .i64 0, .int .i64 0, .int .i64 0, .slice none 0 0]) ?_ 2 _ rfl; (with_reducible repeat (first | refine blk_drewN ?_ _ | refine blk_drew ?_ | refine blk_alloc ?_ _)); refine blk_put (cs := #[.int .i64 0, .int .i64 0, .int .i64 0, .slice none 0 0]) ?_ 1 _ rfl; (with_reducible repeat (first | refine blk_drewN ?_ _ | refine blk_drew ?_ | refine blk_alloc ?_ _)); refine blk_put (cs := #[.int .i64 0, .int .i64 0, .int .i64 0, .slice none 0 0]) ?_ 0 _ rfl; (with_reducible repeat (first | refine blk_drewN ?_ _ | refine blk_drew ?_ | refine blk_alloc ?_ _)); exact BK222.out) Try.underlying24 rfl (by kernel_rfl)) rfl ?_
    exact ⟨_, by first | rfl | (simp [errW_none, errW_some] <;> rfl) | (simp [*, errW_none, errW_some] <;> rfl), by first | exact Kd.R_nil _ _ _ _ _ | exact Kd.N_nil _ _ _ _ _ | exact Kd.V_nil _ _ _ _ _ | exact Kd.Q_nil _ _ _ _ _ | exact Kd.S_nil _ _ _ _ _, by repeat (first | (with_reducible first | exact HB.out | apply below_alloc | apply pw_below_drewN | apply below_drew1 | refine below_set ?_ GE222.out) | exact HB.out)⟩
   ·replace c6 := Bool.eq_false_iff.mpr c6
    subst c6
    have H1 : (if 0 ≤ a1 then (if a1 < (a0.size : Int) then (if 0 ≤ (wrap64 (a1 + 1)) then (if (wrap64 (a1 + 1)) < (a0.size : Int) then (if 0 ≤ (wrap64 (a1 + 2)) then (if (wrap64 (a1 + 2)) ≤ (wrap64 (a1 + 6)) then (if (wrap64 (a1 + 6)) ≤ (a0.size : Int) then ((watchwordref1_Of.f kj2 (a0.extract ((wrap64 (a1 + 2)) : Int).toNat ((wrap64 (a1 + 6)) : Int).toNat)).bind fun t223 => (if 0 ≤ (wrap64 (a1 + 6)) then (if (wrap64 (a1 + 6)) < (a0.size : Int) then (if (wrap64 ((wrap64 (a1 + 9)) + (wrap64 (3 * (wrap64 (bt a0 (wrap64 (a1 + 6)))))))) > (a0.size : Int) then (watchwordref1_GetLsa.j1 kj2 a0 a1 (wrap64 (bt a0 (wrap64 (a1 + 6)))) (wrap64 ((wrap64 (a1 + 9)) + (wrap64 (3 * (wrap64 (bt a0 (wrap64 (a1 + 6)))))))) true (wrap64 (bt a0 (wrap64 (a1 + 1)))) t223 (wrap64 (bt a0 a1))) else (watchwordref1_GetLsa.j1 kj2 a0 a1 (wrap64 (bt a0 (wrap64 (a1 + 6)))) (wrap64 ((wrap64 (a1 + 9)) + (wrap64 (3 * (wrap64 (bt a0 (wrap64 (a1 + 6)))))))) (decide ((wrap64 (bt a0 (wrap64 (a1 + 6)))) > 4)) (wrap64 (bt a0 (wrap64 (a1 + 1)))) t223 (wrap64 (bt a0 a1)))) else (none)) else (none))) else (none)) else (none)) else (none)) else (none)) else (none)) else (none)) else (none)) = some (r1, r2, r3, r4, r5, r6) := by rw [if_neg (show ¬ (false = true) by decide)] at H; exact H
    clear H
    have H := H1
    clear H1
    by_cases c8 : 0 ≤ a1
    ·rw [if_pos c8] at H
     have c8b0 : decide (0 ≤ a1) = true := decide_eq_true c8
     clear c8
     by_cases c9 : a1 < (a0.size : Int)
     ·rw [if_pos c9] at H
      have c9b0 : decide (a1 < (a0.size : Int)) = true := decide_eq_true c9
      clear c9
      obtain ⟨ji11, hji11⟩ : ∃ j_ : Int, (wrap64 (a1 + 1)) = j_ := ⟨_, rfl⟩
      replace H : (if 0 ≤ (ji11) then (if (ji11) < (a0.size : Int) then (if 0 ≤ (wrap64 (a1 + 2)) then (if (wrap64 (a1 + 2)) ≤ (wrap64 (a1 + 6)) then (if (wrap64 (a1 + 6)) ≤ (a0.size : Int) then ((watchwordref1_Of.f kj2 (a0.extract ((wrap64 (a1 + 2)) : Int).toNat ((wrap64 (a1 + 6)) : Int).toNat)).bind fun t223 => (if 0 ≤ (wrap64 (a1 + 6)) then (if (wrap64 (a1 + 6)) < (a0.size : Int) then (if (wrap64 ((wrap64 (a1 + 9)) + (wrap64 (3 * (wrap64 (bt a0 (wrap64 (a1 + 6)))))))) > (a0.size : Int) then (watchwordref1_GetLsa.j1 kj2 a0 a1 (wrap64 (bt a0 (wrap64 (a1 + 6)))) (wrap64 ((wrap64 (a1 + 9)) + (wrap64 (3 * (wrap64 (bt a0 (wrap64 (a1 + 6)))))))) true (wrap64 (bt a0 (ji11))) t223 (wrap64 (bt a0 a1))) else (watchwordref1_GetLsa.j1 kj2 a0 a1 (wrap64 (bt a0 (wrap64 (a1 + 6)))) (wrap64 ((wrap64 (a1 + 9)) + (wrap64 (3 * (wrap64 (bt a0 (wrap64 (a1 + 6)))))))) (decide ((wrap64 (bt a0 (wrap64 (a1 + 6)))) > 4)) (wrap64 (bt a0 (ji11))) t223 (wrap64 (bt a0 a1)))) else (none)) else (none))) else (none)) else (none)) else (none)) else (none)) else (none)) = some (r1, r2, r3, r4, r5, r6) := by first | (rw [hji11] at H; exact H) | (simp only [hji11] at H ⊢; exact H)
      have hji11w : (IntKind.i64.wrap (a1 + 1)) = ji11 := (i64_w _).trans hji11
      by_cases c12 : 0 ≤ (ji11)
      ·rw [if_pos c12] at H
       have c12b0 : decide (0 ≤ (ji11)) = true := decide_eq_true c12
       clear c12
       by_cases c13 : (ji11) < (a0.size : Int)
       ·rw [if_pos c13] at H
        have c13b0 : decide ((ji11) < (a0.size : Int)) = true := decide_eq_true c13
        clear c13
        obtain ⟨ji15, hji15⟩ : ∃ j_ : Int, (wrap64 (a1 + 2)) = j_ := ⟨_, rfl⟩
        replace H : (if 0 ≤ (ji15) then (if (ji15) ≤ (wrap64 (a1 + 6)) then (if (wrap64 (a1 + 6)) ≤ (a0.size : Int) then ((watchwordref1_Of.f kj2 (a0.extract ((ji15) : Int).toNat ((wrap64 (a1 + 6)) : Int).toNat)).bind fun t223 => (if 0 ≤ (wrap64 (a1 + 6)) then (if (wrap64 (a1 + 6)) < (a0.size : Int) then (if (wrap64 ((wrap64 (a1 + 9)) + (wrap64 (3 * (wrap64 (bt a0 (wrap64 (a1 + 6)))))))) > (a0.size : Int) then (watchwordref1_GetLsa.j1 kj2 a0 a1 (wrap64 (bt a0 (wrap64 (a1 + 6)))) (wrap64 ((wrap64 (a1 + 9)) + (wrap64 (3 * (wrap64 (bt a0 (wrap64 (a1 + 6)))))))) true (wrap64 (bt a0 (ji11))) t223 (wrap64 (bt a0 a1))) else (watchwordref1_GetLsa.j1 kj2 a0 a1 (wrap64 (bt a0 (wrap64 (a1 + 6)))) (wrap64 ((wrap64 (a1 + 9)) + (wrap64 (3 * (wrap64 (bt a0 (wrap64 (a1 + 6)))))))) (decide ((wrap64 (bt a0 (wrap64 (a1 + 6)))) > 4)) (wrap64 (bt a0 (ji11))) t223 (wrap64 (bt a0 a1)))) else (none)) else (none))) else (none)) else (none)) else (none)) = some (r1, r2, r3, r4, r5, r6) := by first | (rw [hji15] at H; exact H) | (simp only [hji15] at H ⊢; exact H)
        have hji15w : (IntKind.i64.wrap (a1 + 2)) = ji15 := (i64_w _).trans hji15
        by_cases c16 : 0 ≤ (ji15)
        ·rw [if_pos c16] at H
         have c16b0 := eq_true c16
         have c16b1 : decide (0 ≤ (ji15)) = true := decide_eq_true c16
         clear c16
         by_cases c17 : (ji15) ≤ (wrap64 (a1 + 6))
         ·rw [if_pos c17] at H
          have c17b0 := eq_true c17
          have c17b1 : decide ((ji15) ≤ (wrap64 (a1 + 6))) = true := decide_eq_true c17
          by_cases c18 : (wrap64 (a1 + 6)) ≤ (a0.size : Int)
          ·rw [if_pos c18] at H
           have c18b0 := eq_true c18
           have c18b1 : decide ((wrap64 (a1 + 6)) ≤ (a0.size : Int)) = true := decide_eq_true c18
           replace H := Option.bind_eq_some_iff.mp H
           obtain ⟨t223, A190, H⟩ := H
           replace H : (if 0 ≤ (wrap64 (a1 + 6)) then (if (wrap64 (a1 + 6)) < (a0.size : Int) then (if (wrap64 ((wrap64 (a1 + 9)) + (wrap64 (3 * (wrap64 (bt a0 (wrap64 (a1 + 6)))))))) > (a0.size : Int) then (watchwordref1_GetLsa.j1 kj2 a0 a1 (wrap64 (bt a0 (wrap64 (a1 + 6)))) (wrap64 ((wrap64 (a1 + 9)) + (wrap64 (3 * (wrap64 (bt a0 (wrap64 (a1 + 6)))))))) true (wrap64 (bt a0 (ji11))) t223 (wrap64 (bt a0 a1))) else (watchwordref1_GetLsa.j1 kj2 a0 a1 (wrap64 (bt a0 (wrap64 (a1 + 6)))) (wrap64 ((wrap64 (a1 + 9)) + (wrap64 (3 * (wrap64 (bt a0 (wrap64 (a1 + 6)))))))) (decide ((wrap64 (bt a0 (wrap64 (a1 + 6)))) > 4)) (wrap64 (bt a0 (ji11))) t223 (wrap64 (bt a0 a1)))) else (none)) else (none)) = some (r1, r2, r3, r4, r5, r6) := H
           have A19 := Aside0.mk A190
           clear A190
           obtain ⟨ji20, hji20⟩ : ∃ j_ : Int, (wrap64 (a1 + 6)) = j_ := ⟨_, rfl⟩
           replace H : (if 0 ≤ (ji20) then (if (ji20) < (a0.size : Int) then (if (wrap64 ((wrap64 (a1 + 9)) + (wrap64 (3 * (wrap64 (bt a0 (ji20))))))) > (a0.size : Int) then (watchwordref1_GetLsa.j1 kj2 a0 a1 (wrap64 (bt a0 (ji20))) (wrap64 ((wrap64 (a1 + 9)) + (wrap64 (3 * (wrap64 (bt a0 (ji20))))))) true (wrap64 (bt a0 (ji11))) t223 (wrap64 (bt a0 a1))) else (watchwordref1_GetLsa.j1 kj2 a0 a1 (wrap64 (bt a0 (ji20))) (wrap64 ((wrap64 (a1 + 9)) + (wrap64 (3 * (wrap64 (bt a0 (ji20))))))) (decide ((wrap64 (bt a0 (ji20))) > 4)) (wrap64 (bt a0 (ji11))) t223 (wrap64 (bt a0 a1)))) else (none)) else (none)) = some (r1, r2, r3, r4, r5, r6) := by first | (rw [hji20] at H; exact H) | (simp only [hji20] at H ⊢; exact H)
           (try rw [hji20] at c17b0)
           (try rw [hji20] at c17b1)
           (try rw [hji20] at c17)
           (try rw [hji20] at c18b0)
           (try rw [hji20] at c18b1)
           (try rw [hji20] at c18)
           (try rw [hji20] at A19)
           have hji20w : (IntKind.i64.wrap (a1 + 6)) = ji20 := (i64_w _).trans hji20
           by_cases c21 : 0 ≤ (ji20)
           ·rw [if_pos c21] at H
            have c21b0 : decide (0 ≤ (ji20)) = true := decide_eq_true c21
            clear c21
            by_cases c22 : (ji20) < (a0.size : Int)
            ·rw [if_pos c22] at H
             have c22b0 : decide ((ji20) < (a0.size : Int)) = true := decide_eq_true c22
             clear c22
             have HC24 := Aside0.mk H
             clear H
             try go_wp2
             have n0_ := Aside0.mk (blk_drew BK222.out)
             have n1_ := Aside0.mk (below_drew1 HB.out)
             clear BK222
             clear HB
             have BK222 := n0_
             have HB := n1_
             clear n0_ n1_
             have p10 : 0 ≤ (a1 : Int) := of_decide_eq_true (by first | (with_reducible assumption) | assumption)
             have q10 : a1 < (a0.size : Int) := of_decide_eq_true (by first | (with_reducible assumption) | assumption)
             have hx10 := bt_at a0 a1
             replace p10 := eq_true p10
             replace q10 := eq_true q10
             have p14 : 0 ≤ ((ji11) : Int) := of_decide_eq_true (by first | (with_reducible assumption) | assumption)
             have q14 : (ji11) < (a0.size : Int) := of_decide_eq_true (by first | (with_reducible assumption) | assumption)
             have hx14 := bt_at a0 (ji11)
             replace p14 := eq_true p14
             replace q14 := eq_true q14
             refine start_ (n := 19) (S := fun w' => True) (ds := []) mk_19_0 (by kernel_rfl) rfl rfl trivial (fun hHeld => ?_); refine with_tabW watchwordref1_GetLsa.tab3 watchwordref1_GetLsa.bits3 (fun HT_ HW_ => ?_)
             generalize wc.drew = w25 at BK222 HB hHeld ⊢
             refine pure_ (i := 0) (N := some 24) (v := ?_) (a' := ?_) mk_19_1 rfl rfl (any_of HT_.out (by kernel_rfl)) (fun _ _ _ h => h) (Or.inl ⟨by rfl, ?_⟩) ?_ ?_
             rotate_left
             ·intro w'
              go_simp
              with_reducible rfl
             rotate_left
             ·simp only [Act.put, List.setIfInBounds_toArray, List.set_cons_zero, List.set_cons_succ, i64_w, i32_w]
              rfl
             refine pure_ (i := 1) (N := some 25) (v := ?_) (a' := ?_) mk_19_2 rfl rfl (any_of HT_.out (by kernel_rfl)) (fun _ _ _ h => h) (Or.inl ⟨by rfl, ?_⟩) ?_ ?_
             rotate_left
             ·intro w'
              go_simp
              with_reducible rfl
             rotate_left
             ·simp only [Act.put, List.setIfInBounds_toArray, List.set_cons_zero, List.set_cons_succ, i64_w, i32_w]
              rfl
             refine pure_ (i := 4) (N := some 28) (v := ?_) (a' := ?_) #[true, true, false, false, true, false, false, false, false, false, false, false, false, false, false, false, false, false, false] rfl rfl (any_of HT_.out (by kernel_rfl)) (fun _ _ _ h => h) (Or.inl ⟨by rfl, ?_⟩) ?_ ?_
             rotate_left
             ·intro w'
              go_simp
              with_reducible rfl
             rotate_left
             ·simp only [Act.put, List.setIfInBounds_toArray, List.set_cons_zero, List.set_cons_succ, i64_w, i32_w]
              rfl
             refine pure_ (i := 5) (N := some 29) (v := ?_) (a' := ?_) #[true, true, false, false, true, true, false, false, false, false, false, false, false, false, false, false, false, false, false] rfl rfl (any_of HT_.out (by kernel_rfl)) (fun _ _ _ h => h) (Or.inl ⟨by rfl, ?_⟩) ?_ ?_
             rotate_left
             ·intro w'
              go_simp
              with_reducible rfl
             rotate_left
             ·simp only [Act.put, List.setIfInBounds_toArray, List.set_cons_zero, List.set_cons_succ, i64_w, i32_w]
              rfl
             refine pure_ (i := 6) (N := some 30) (v := ?_) (a' := ?_) #[true, true, false, false, true, true, true, false, false, false, false, false, false, false, false, false, false, false, false] rfl rfl (any_of HT_.out (by kernel_rfl)) (fun _ _ _ h => h) (Or.inl ⟨by rfl, ?_⟩) ?_ ?_
             rotate_left
             ·intro w'
              go_simp
              with_reducible rfl
             rotate_left
             ·simp only [Act.put, List.setIfInBounds_toArray, List.set_cons_zero, List.set_cons_succ, i64_w, i32_w]
              rfl
             refine pure_ (i := 9) (N := some 33) (v := ?_) (a' := ?_) #[true, true, false, false, true, true, true, false, false, true, false, false, false, false, false, false, false, false, false] rfl rfl (any_of HT_.out (by kernel_rfl)) (fun _ _ _ h => h) (Or.inl ⟨by rfl, ?_⟩) ?_ ?_
             rotate_left
             ·intro w'
              go_simp
              with_reducible rfl
             rotate_left
             ·simp only [Act.put, List.setIfInBounds_toArray, List.set_cons_zero, List.set_cons_succ, i64_w, i32_w]
              rfl
             refine pure_ (i := 10) (N := some 34) (v := ?_) (a' := ?_) #[true, true, false, false, true, true, true, false, false, true, true, false, false, false, false, false, false, false, false] rfl rfl (any_of HT_.out (by kernel_rfl)) (fun _ _ _ h => h) (Or.inl ⟨by rfl, ?_⟩) ?_ ?_
             rotate_left
             ·intro w'
              go_simp
              with_reducible rfl
             rotate_left
             ·simp only [Act.put, List.setIfInBounds_toArray, List.set_cons_zero, List.set_cons_succ, i64_w, i32_w]
              rfl
             refine pure_ (i := 11) (N := some 35) (v := ?_) (a' := ?_) #[true, true, false, false, true, true, true, false, false, true, true, true, false, false, false, false, false, false, false] rfl rfl (any_of HT_.out (by kernel_rfl)) (fun _ _ _ h => h) (Or.inl ⟨by rfl, ?_⟩) ?_ ?_
             rotate_left
             ·intro w'
              go_simp
              with_reducible rfl
             rotate_left
             ·simp only [Act.put, List.setIfInBounds_toArray, List.set_cons_zero, List.set_cons_succ, i64_w, i32_w]
              rfl
             refine pure_ (i := 12) (N := some 36) (v := ?_) (a' := ?_) #[true, true, false, false, true, true, true, false, false, true, true, true, true, false, false, false, false, false, false] rfl rfl (any_of HT_.out (by kernel_rfl)) (fun _ _ _ h => h) (Or.inl ⟨by rfl, ?_⟩) ?_ ?_
             rotate_left
             ·intro w'
              go_simp
              with_reducible rfl
             rotate_left
             ·simp only [Act.put, List.setIfInBounds_toArray, List.set_cons_zero, List.set_cons_succ, i64_w, i32_w]
              rfl
             refine pure_ (i := 13) (N := some 37) (v := ?_) (a' := ?_) #[true, true, false, false, true, true, true, false, false, true, true, true, true, true, false, false, false, false, false] rfl rfl (any_of HT_.out (by kernel_rfl)) (fun _ _ _ h => h) (Or.inl ⟨by rfl, ?_⟩) ?_ ?_
             rotate_left
             ·intro w'
              go_simp
              with_reducible rfl
             rotate_left
             ·simp only [Act.put, List.setIfInBounds_toArray, List.set_cons_zero, List.set_cons_succ, i64_w, i32_w]
              rfl
             refine pure_ (i := 14) (N := some 38) (v := ?_) (a' := ?_) #[true, true, false, false, true, true, true, false, false, true, true, true, true, true, true, false, false, false, false] rfl rfl (any_of HT_.out (by kernel_rfl)) (fun _ _ _ h => h) (Or.inl ⟨by rfl, ?_⟩) ?_ ?_
             rotate_left
             ·intro w'
              go_simp
              with_reducible rfl
             rotate_left
             ·simp only [Act.put, List.setIfInBounds_toArray, List.set_cons_zero, List.set_cons_succ, i64_w, i32_w]
              rfl
             refine take_ (i := 2) (N := some 26) (v := ?_) (a' := ?_) #[true, true, true, false, true, true, true, false, false, true, true, true, true, true, true, false, false, false, false] rfl rfl (take_ofW HT_.out HW_.out (by kernel_rfl)) (fun _ _ _ h => h) (Or.inl ⟨by rfl, ?_⟩) hHeld ?_ ?_
             rotate_left
             ·intro w' _
              go_simp
              with_reducible rfl
             rotate_left
             ·simp only [Act.put, List.setIfInBounds_toArray, List.set_cons_zero, List.set_cons_succ, i64_w, i32_w]
              rfl
             refine pure_ (i := 3) (N := some 27) (v := ?_) (a' := ?_) #[true, true, true, true, true, true, true, false, false, true, true, true, true, true, true, false, false, false, false] rfl rfl (any_of HT_.out (by kernel_rfl)) (fun _ _ _ h => h) (Or.inl ⟨by rfl, ?_⟩) ?_ ?_
             rotate_left
             ·intro w'
              go_simp
              with_reducible rfl
             rotate_left
             ·simp only [Act.put, List.setIfInBounds_toArray, List.set_cons_zero, List.set_cons_succ, i64_w, i32_w]
              rfl
             refine take_ (i := 7) (N := some 31) (v := ?_) (a' := ?_) #[true, true, true, true, true, true, true, true, false, true, true, true, true, true, true, false, false, false, false] rfl rfl (take_ofW HT_.out HW_.out (by kernel_rfl)) (fun _ _ _ h => h) (Or.inl ⟨by rfl, ?_⟩) hHeld ?_ ?_
             rotate_left
             ·intro w' _
              go_simp
              with_reducible rfl
             rotate_left
             ·simp only [Act.put, List.setIfInBounds_toArray, List.set_cons_zero, List.set_cons_succ, i64_w, i32_w]
              rfl
             refine pure_ (i := 8) (N := some 32) (v := ?_) (a' := ?_) mk_19_15 rfl rfl (any_of HT_.out (by kernel_rfl)) (fun _ _ _ h => h) (Or.inl ⟨by rfl, ?_⟩) ?_ ?_
             rotate_left
             ·intro w'
              go_simp
              with_reducible rfl
             rotate_left
             ·simp only [Act.put, List.setIfInBounds_toArray, List.set_cons_zero, List.set_cons_succ, i64_w, i32_w]
              rfl
             refine join_ (σ := Nat) 1 mk_19_18 (fun s_ => [(39, .int .i64 t223), (7, .pointer (some ⟨s_, 0, none⟩)), (40, .agg #[.int .i64 (wrap64 (bt a0 (ji11))), .int .i64 t223, .int .i64 (wrap64 (bt a0 a1)), .slice none 0 0])]) (fun s_ w' => (w'.heap[gb222]? = some (.cells #[.int .i64 0, .int .i64 0, .int .i64 0, .slice none 0 0] 24 (0, 0))) ∧ (w'.heap[s_]? = some (.cells #[.int .i64 0, .int .i64 0, .int .i64 0, .slice none 0 0] 24 (0, 0))) ∧ (w.heap.size ≤ s_) ∧ (w.heap.size ≤ s_) ∧ (gb222 ≠ s_) ∧ (s_ ≠ gb222) ∧ (Below w.heap.size w w')) ?_ ?_
             rotate_left
             ·intro hCont
              refine two_ (i := 15) (j := 17) (Ni := some 39) (Nj := some 7) mk_19_16 #[true, true, true, true, true, true, true, true, true, true, true, true, true, true, true, false, false, true, false] rfl rfl rfl rfl (two_of HT_.out (by kernel_rfl)) (by decide) (by decide) (fun K hK => ?_) (fun K hK => ?_)
              ·skip
               refine goes_ Try.func43 (by kernel_rfl) rfl #[.string (a0.extract ((ji15) : Int).toNat ((ji20) : Int).toNat)] (by rfl) rfl rfl (by (try simp only [List.map_toArray, List.map_cons, List.map_nil]); first | done | (simp only [hji15, hji20]; rfl) | rfl | (simp only [List.length_drop, List.length_take]; rfl)) ?_
               with_reducible refine (watchwordref1_Of.calls kj2 (a0.extract ((ji15) : Int).toNat ((ji20) : Int).toNat) t223 _ A19.out).mono ?_
               rintro e w' ⟨rfl, ⟨nd, rfl⟩⟩
               refine ⟨_, rfl, ?_⟩
               refine hK.out _ _ trivial (fun hHeld => ?_)
               clear hK K
               refine norm_ (a' := ?_) ?_ ?_
               rotate_left
               ·show Act.put _ (some 39) _ = _
                simp only [Act.put, List.setIfInBounds_toArray, List.set_cons_zero, List.set_cons_succ, i64_w, i32_w]
                rfl
               refine pure_ (i := 16) (N := some 40) (v := ?_) (a' := ?_) mk_19_17 rfl rfl (any_of HT_.out (by kernel_rfl)) (fun _ _ _ h => h) (Or.inl ⟨by rfl, ?_⟩) ?_ ?_
               rotate_left
               ·intro w'
                go_simp
                with_reducible rfl
               rotate_left
               ·simp only [Act.put, List.setIfInBounds_toArray, List.set_cons_zero, List.set_cons_succ, i64_w, i32_w]
                rfl
               refine one_ (i := 17) (N := some 7) mk_19_18 rfl rfl (one_of HT_.out (by kernel_rfl)) (by decide) (fun K hK => ?_)
               refine box_step ?hg (N := 7) ?hd (cs := #[.int .i64 0, .int .i64 0, .int .i64 0, .slice none 0 0]) (t := 24) ?hr ?_; (case hd => rfl); (case hg => rfl); (case hr => first | (go_simp; done) | (go_simp; rfl))
               intro gb224 hg w26 hbox hb
               have n0_ := Aside0.mk (blk_below (g := gb222) (o := .cells #[.int .i64 0, .int .i64 0, .int .i64 0, .slice none 0 0] 24 (0, 0)) (by (with_reducible repeat (first | refine blk_drewN ?_ _ | refine blk_drew ?_ | refine blk_alloc ?_ _)); exact BK222.out) hb)
               have n1_ := Aside0.mk (below_step (by repeat (first | (with_reducible first | exact HB.out | apply below_alloc | apply pw_below_drewN | apply below_drew1 | refine below_set ?_ GE222.out) | exact HB.out)) hb)
               have n2_ := Aside0.mk (hbox)
               have n3_ := Aside0.mk ((by rw [hg]; exact (below_size (by repeat (first | (with_reducible first | exact HB.out | apply below_alloc | apply pw_below_drewN | apply below_drew1 | refine below_set ?_ GE222.out) | exact HB.out))) : w.heap.size ≤ gb224))
               have n4_ := Aside0.mk ((by rw [hg]; exact (below_size (by repeat (first | (with_reducible first | exact HB.out | apply below_alloc | apply pw_below_drewN | apply below_drew1 | refine below_set ?_ GE222.out) | exact HB.out))) : w.heap.size ≤ gb224))
               have n5_ := Aside0.mk ((by rw [hg]; exact Nat.ne_of_lt (blk_lt (g := gb222) (o := .cells #[.int .i64 0, .int .i64 0, .int .i64 0, .slice none 0 0] 24 (0, 0)) (by (with_reducible repeat (first | refine blk_drewN ?_ _ | refine blk_drew ?_ | refine blk_alloc ?_ _)); exact BK222.out)) : gb222 ≠ gb224))
               have n6_ := Aside0.mk ((by rw [hg]; exact Nat.ne_of_gt (blk_lt (g := gb222) (o := .cells #[.int .i64 0, .int .i64 0, .int .i64 0, .slice none 0 0] 24 (0, 0)) (by (with_reducible repeat (first | refine blk_drewN ?_ _ | refine blk_drew ?_ | refine blk_alloc ?_ _)); exact BK222.out)) : gb224 ≠ gb222))
               clear BK222
               clear HB
               have BK222 := n0_
               have HB := n1_
               have BK224 := n2_
               have GW224 := n3_
               have GE224 := n4_
               have NB222_224 := n5_
               have NB224_222 := n6_
               clear n0_ n1_ n2_ n3_ n4_ n5_ n6_
               clear hb hbox hg
               refine hK.out _ _ trivial (fun hHeld => ?_)
               clear hK K
               refine norm_ (a' := ?_) ?_ ?_
               rotate_left
               ·show Act.put _ (some 7) _ = _
                simp only [Act.put, List.setIfInBounds_toArray, List.set_cons_zero, List.set_cons_succ, i64_w, i32_w]
                rfl
               exact norm_ (by simp only [putAll, Act.put, List.setIfInBounds_toArray, List.set_cons_zero, List.set_cons_succ]) (hCont (gb224) _ ⟨(by (with_reducible repeat (first | refine blk_drewN ?_ _ | refine blk_drew ?_ | refine blk_alloc ?_ _)); exact BK222.out), (by (with_reducible repeat (first | refine blk_drewN ?_ _ | refine blk_drew ?_ | refine blk_alloc ?_ _)); exact BK224.out), GW224.out, GE224.out, NB222_224.out, NB224_222.out, (by repeat (first | (with_reducible first | exact HB.out | apply below_alloc | apply pw_below_drewN | apply below_drew1 | refine below_set ?_ GE222.out | refine below_set ?_ GE224.out) | exact HB.out))⟩)
              ·skip
               refine box_step ?hg (N := 7) ?hd (cs := #[.int .i64 0, .int .i64 0, .int .i64 0, .slice none 0 0]) (t := 24) ?hr ?_; (case hd => rfl); (case hg => rfl); (case hr => first | (go_simp; done) | (go_simp; rfl))
               intro gb224 hg w26 hbox hb
               have n0_ := Aside0.mk (blk_below (g := gb222) (o := .cells #[.int .i64 0, .int .i64 0, .int .i64 0, .slice none 0 0] 24 (0, 0)) (by (with_reducible repeat (first | refine blk_drewN ?_ _ | refine blk_drew ?_ | refine blk_alloc ?_ _)); exact BK222.out) hb)
               have n1_ := Aside0.mk (below_step (by repeat (first | (with_reducible first | exact HB.out | apply below_alloc | apply pw_below_drewN | apply below_drew1 | refine below_set ?_ GE222.out) | exact HB.out)) hb)
               have n2_ := Aside0.mk (hbox)
               have n3_ := Aside0.mk ((by rw [hg]; exact (below_size (by repeat (first | (with_reducible first | exact HB.out | apply below_alloc | apply pw_below_drewN | apply below_drew1 | refine below_set ?_ GE222.out) | exact HB.out))) : w.heap.size ≤ gb224))
               have n4_ := Aside0.mk ((by rw [hg]; exact (below_size (by repeat (first | (with_reducible first | exact HB.out | apply below_alloc | apply pw_below_drewN | apply below_drew1 | refine below_set ?_ GE222.out) | exact HB.out))) : w.heap.size ≤ gb224))
               have n5_ := Aside0.mk ((by rw [hg]; exact Nat.ne_of_lt (blk_lt (g := gb222) (o := .cells #[.int .i64 0, .int .i64 0, .int .i64 0, .slice none 0 0] 24 (0, 0)) (by (with_reducible repeat (first | refine blk_drewN ?_ _ | refine blk_drew ?_ | refine blk_alloc ?_ _)); exact BK222.out)) : gb222 ≠ gb224))
               have n6_ := Aside0.mk ((by rw [hg]; exact Nat.ne_of_gt (blk_lt (g := gb222) (o := .cells #[.int .i64 0, .int .i64 0, .int .i64 0, .slice none 0 0] 24 (0, 0)) (by (with_reducible repeat (first | refine blk_drewN ?_ _ | refine blk_drew ?_ | refine blk_alloc ?_ _)); exact BK222.out)) : gb224 ≠ gb222))
               clear BK222
               clear HB
               have BK222 := n0_
               have HB := n1_
               have BK224 := n2_
               have GW224 := n3_
               have GE224 := n4_
               have NB222_224 := n5_
               have NB224_222 := n6_
               clear n0_ n1_ n2_ n3_ n4_ n5_ n6_
               clear hb hbox hg
               refine hK.out _ _ trivial (fun hHeld => ?_)
               clear hK K
               refine norm_ (a' := ?_) ?_ ?_
               rotate_left
               ·show Act.put _ (some 7) _ = _
                simp only [Act.put, List.setIfInBounds_toArray, List.set_cons_zero, List.set_cons_succ, i64_w, i32_w]
                rfl
               refine one_ (i := 15) (N := some 39) #[true, true, true, true, true, true, true, true, true, true, true, true, true, true, true, true, false, true, false] rfl rfl (one_of HT_.out (by kernel_rfl)) (by decide) (fun K hK => ?_)
               refine goes_ Try.func43 (by kernel_rfl) rfl #[.string (a0.extract ((ji15) : Int).toNat ((ji20) : Int).toNat)] (by rfl) rfl rfl (by (try simp only [List.map_toArray, List.map_cons, List.map_nil]); first | done | (simp only [hji15, hji20]; rfl) | rfl | (simp only [List.length_drop, List.length_take]; rfl)) ?_
               with_reducible refine (watchwordref1_Of.calls kj2 (a0.extract ((ji15) : Int).toNat ((ji20) : Int).toNat) t223 _ A19.out).mono ?_
               rintro e w' ⟨rfl, ⟨nd, rfl⟩⟩
               refine ⟨_, rfl, ?_⟩
               refine hK.out _ _ trivial (fun hHeld => ?_)
               clear hK K
               refine norm_ (a' := ?_) ?_ ?_
               rotate_left
               ·show Act.put _ (some 39) _ = _
                simp only [Act.put, List.setIfInBounds_toArray, List.set_cons_zero, List.set_cons_succ, i64_w, i32_w]
                rfl
               refine pure_ (i := 16) (N := some 40) (v := ?_) (a' := ?_) mk_19_18 rfl rfl (any_of HT_.out (by kernel_rfl)) (fun _ _ _ h => h) (Or.inl ⟨by rfl, ?_⟩) ?_ ?_
               rotate_left
               ·intro w'
                go_simp
                with_reducible rfl
               rotate_left
               ·simp only [Act.put, List.setIfInBounds_toArray, List.set_cons_zero, List.set_cons_succ, i64_w, i32_w]
                rfl
               exact norm_ (by simp only [putAll, Act.put, List.setIfInBounds_toArray, List.set_cons_zero, List.set_cons_succ]) (hCont (gb224) _ ⟨(by (with_reducible repeat (first | refine blk_drewN ?_ _ | refine blk_drew ?_ | refine blk_alloc ?_ _)); exact BK222.out), (by (with_reducible repeat (first | refine blk_drewN ?_ _ | refine blk_drew ?_ | refine blk_alloc ?_ _)); exact BK224.out), GW224.out, GE224.out, NB222_224.out, NB224_222.out, (by repeat (first | (with_reducible first | exact HB.out | apply below_alloc | apply pw_below_drewN | apply below_drew1 | refine below_set ?_ GE222.out | refine below_set ?_ GE224.out) | exact HB.out))⟩)
             rintro gb224 w27 ⟨h0_, h1_, h2_, h3_, h4_, h5_, h6_⟩
             have n0_ : Aside0 (w27.heap[gb222]? = some (.cells #[.int .i64 0, .int .i64 0, .int .i64 0, .slice none 0 0] 24 (0, 0))) := ⟨h0_⟩
             have n1_ : Aside0 (w27.heap[gb224]? = some (.cells #[.int .i64 0, .int .i64 0, .int .i64 0, .slice none 0 0] 24 (0, 0))) := ⟨h1_⟩
             have n2_ : Aside0 (w.heap.size ≤ gb224) := ⟨h2_⟩
             have n3_ : Aside0 (w.heap.size ≤ gb224) := ⟨h3_⟩
             have n4_ : Aside0 (gb222 ≠ gb224) := ⟨h4_⟩
             have n5_ : Aside0 (gb224 ≠ gb222) := ⟨h5_⟩
             have n6_ : Aside0 (Below w.heap.size w w27) := ⟨h6_⟩
             clear BK222
             clear HB
             clear h0_ h1_ h2_ h3_ h4_ h5_ h6_
             have BK222 := n0_
             have BK224 := n1_
             have GW224 := n2_
             have GE224 := n3_
             have NB222_224 := n4_
             have NB224_222 := n5_
             have HB := n6_
             clear n0_ n1_ n2_ n3_ n4_ n5_ n6_
             have hHeld := trivial
             refine norm_ (a' := ?_) ?_ ?_
             rotate_left
             ·simp only [putAll, Act.put, List.setIfInBounds_toArray, List.set_cons_zero, List.set_cons_succ]
              rfl
             refine one_ (i := 18) (N := none) mk_19_19 rfl rfl (one_of HT_.out (by kernel_rfl)) (by decide) (fun K hK => ?_)
             have hs28 : w27.cell? ⟨gb224, 0, none⟩ = some (.int .i64 0) := (blk_cell BK224.out 0).trans rfl
             have hfs28 := blk_frozen BK224.out 0
             have hns28_0 := NB222_224.out
             have hms28_0 := NB224_222.out
             have hs29 : w27.cell? ⟨gb224, 1, none⟩ = some (.int .i64 0) := (blk_cell BK224.out 1).trans rfl
             have hfs29 := blk_frozen BK224.out 1
             have hns29_0 := NB222_224.out
             have hms29_0 := NB224_222.out
             have hs30 : w27.cell? ⟨gb224, 2, none⟩ = some (.int .i64 0) := (blk_cell BK224.out 2).trans rfl
             have hfs30 := blk_frozen BK224.out 2
             have hns30_0 := NB222_224.out
             have hms30_0 := NB224_222.out
             have hs31 : w27.cell? ⟨gb224, 3, none⟩ = some (.slice none 0 0) := (blk_cell BK224.out 3).trans rfl
             have hfs31 := blk_frozen BK224.out 3
             have hns31_0 := NB222_224.out
             have hms31_0 := NB224_222.out
             refine skip_ (w1 := ?_) (by rfl) rfl ?_ ?_
             rotate_left
             ·go_simp
              rfl
             refine hK.out _ _ trivial (fun hHeld => ?_)
             clear hK K
             refine done_ (done_of HT_.out (by kernel_rfl)) ?_
             have p23 : 0 ≤ ((ji20) : Int) := of_decide_eq_true (by first | (with_reducible assumption) | assumption)
             have q23 : (ji20) < (a0.size : Int) := of_decide_eq_true (by first | (with_reducible assumption) | assumption)
             have hx23 := bt_at a0 (ji20)
             replace p23 := eq_true p23
             replace q23 := eq_true q23
             go_upto_region 6 with (fail)
             go_cut [58] (fun v58 wc => ∃ (kq : Nat) (x58_23 : Bool), v58 = .bool x58_23 ∧ Aside0 (watchwordref1_GetLsa.j1 kq a0 a1 (wrap64 (bt a0 (ji20))) (wrap64 ((wrap64 (a1 + 9)) + (wrap64 (3 * (wrap64 (bt a0 (ji20))))))) x58_23 (wrap64 (bt a0 (ji11))) t223 (wrap64 (bt a0 a1)) = some (r1, r2, r3, r4, r5, r6)) ∧ Aside0 (kq ≤ kj2) ∧ Aside0 (wc.heap[gb222]? = some (.cells #[.int .i64 0, .int .i64 0, .int .i64 0, (.slice none 0 0)] 24 (0, 0))) ∧ Aside0 (wc.heap[gb224]? = some (.cells #[.int .i64 (wrap64 (bt a0 (ji11))), .int .i64 t223, .int .i64 (wrap64 (bt a0 a1)), (.slice none 0 0)] 24 (0, 0))) ∧ Aside0 (Below w.heap.size w wc))
             case first =>
              have H := HC24.out
              clear HC24
              by_cases c32 : (wrap64 ((wrap64 (a1 + 9)) + (wrap64 (3 * (wrap64 (bt a0 (ji20))))))) > (a0.size : Int)
              ·rw [if_pos c32] at H
               have c32b0 : decide ((a0.size : Int) < (wrap64 ((wrap64 (a1 + 9)) + (wrap64 (3 * (wrap64 (bt a0 (ji20)))))))) = true := decide_eq_true c32
               clear c32
               (first | rw [c32b0] | (simp only [i64_w, i32_w]; rw [c32b0]) | skip)
               have H' := Aside0.mk H
               clear H
               go_wp2
               go_meet
               case rel => exact ⟨_, (true), (by first | rfl | (simp; done) | (simp [*]; done)), H', ⟨by have := HJ2.out; first | omega | exact Nat.le_refl _⟩, ⟨by (with_reducible repeat (first | refine blk_drewN ?_ _ | refine blk_drew ?_ | refine blk_alloc ?_ _)); refine blk_far ?_ NB222_224.out _; (with_reducible repeat (first | refine blk_drewN ?_ _ | refine blk_drew ?_ | refine blk_alloc ?_ _)); refine blk_far ?_ NB222_224.out _; (with_reducible repeat (first | refine blk_drewN ?_ _ | refine blk_drew ?_ | refine blk_alloc ?_ _)); refine blk_far ?_ NB222_224.out _; (with_reducible repeat (first | refine blk_drewN ?_ _ | refine blk_drew ?_ | refine blk_alloc ?_ _)); refine blk_far ?_ NB222_224.out _; (with_reducible repeat (first | refine blk_drewN ?_ _ | refine blk_drew ?_ | refine blk_alloc ?_ _)); exact BK222.out⟩, ⟨by (with_reducible repeat (first | refine blk_drewN ?_ _ | refine blk_drew ?_ | refine blk_alloc ?_ _)); refine blk_put (cs := #[.int .i64 (wrap64 (bt a0 (ji11))), .int .i64 t223, .int .i64 (wrap64 (bt a0 a1)), .slice none 0 0]) ?_ 3 _ rfl; (with_reducible repeat (first | refine blk_drewN ?_ _ | refine blk_drew ?_ | refine blk_alloc ?_ _)); refine blk_put (cs := #[.int .i64 (wrap64 (bt a0 (ji11))), .int .i64 t223, .int .i64 0, .slice none 0 0]) ?_ 2 _ rfl; (with_reducible repeat (first | refine blk_drewN ?_ _ | refine blk_drew ?_ | refine blk_alloc ?_ _)); refine blk_put (cs := #[.int .i64 (wrap64 (bt a0 (ji11))), .int .i64 0, .int .i64 0, .slice none 0 0]) ?_ 1 _ rfl; (with_reducible repeat (first | refine blk_drewN ?_ _ | refine blk_drew ?_ | refine blk_alloc ?_ _)); refine blk_put (cs := #[.int .i64 0, .int .i64 0, .int .i64 0, .slice none 0 0]) ?_ 0 _ rfl; (with_reducible repeat (first | refine blk_drewN ?_ _ | refine blk_drew ?_ | refine blk_alloc ?_ _)); exact BK224.out⟩, ⟨by repeat (first | (with_reducible first | exact HB.out | apply below_alloc | apply pw_below_drewN | apply below_drew1 | refine below_set ?_ GE222.out | refine below_set ?_ GE224.out) | exact HB.out)⟩⟩
              ·rw [if_neg c32] at H
               have c32b0 : decide ((a0.size : Int) < (wrap64 ((wrap64 (a1 + 9)) + (wrap64 (3 * (wrap64 (bt a0 (ji20)))))))) = false := decide_eq_false c32
               clear c32
               (first | rw [c32b0] | (simp only [i64_w, i32_w]; rw [c32b0]) | skip)
               have H' := Aside0.mk H
               clear H
               go_wp2
               go_meet
               case rel => exact ⟨_, (decide ((wrap64 (bt a0 (ji20))) > 4)), (by first | rfl | (simp; done) | (simp only [← hji20] <;> (first | rfl | simp)) | (simp [*]; done)), H', ⟨by have := HJ2.out; first | omega | exact Nat.le_refl _⟩, ⟨by (with_reducible repeat (first | refine blk_drewN ?_ _ | refine blk_drew ?_ | refine blk_alloc ?_ _)); refine blk_far ?_ NB222_224.out _; (with_reducible repeat (first | refine blk_drewN ?_ _ | refine blk_drew ?_ | refine blk_alloc ?_ _)); refine blk_far ?_ NB222_224.out _; (with_reducible repeat (first | refine blk_drewN ?_ _ | refine blk_drew ?_ | refine blk_alloc ?_ _)); refine blk_far ?_ NB222_224.out _; (with_reducible repeat (first | refine blk_drewN ?_ _ | refine blk_drew ?_ | refine blk_alloc ?_ _)); refine blk_far ?_ NB222_224.out _; (with_reducible repeat (first | refine blk_drewN ?_ _ | refine blk_drew ?_ | refine blk_alloc ?_ _)); exact BK222.out⟩, ⟨by (with_reducible repeat (first | refine blk_drewN ?_ _ | refine blk_drew ?_ | refine blk_alloc ?_ _)); refine blk_put (cs := #[.int .i64 (wrap64 (bt a0 (ji11))), .int .i64 t223, .int .i64 (wrap64 (bt a0 a1)), .slice none 0 0]) ?_ 3 _ rfl; (with_reducible repeat (first | refine blk_drewN ?_ _ | refine blk_drew ?_ | refine blk_alloc ?_ _)); refine blk_put (cs := #[.int .i64 (wrap64 (bt a0 (ji11))), .int .i64 t223, .int .i64 0, .slice none 0 0]) ?_ 2 _ rfl; (with_reducible repeat (first | refine blk_drewN ?_ _ | refine blk_drew ?_ | refine blk_alloc ?_ _)); refine blk_put (cs := #[.int .i64 (wrap64 (bt a0 (ji11))), .int .i64 0, .int .i64 0, .slice none 0 0]) ?_ 1 _ rfl; (with_reducible repeat (first | refine blk_drewN ?_ _ | refine blk_drew ?_ | refine blk_alloc ?_ _)); refine blk_put (cs := #[.int .i64 0, .int .i64 0, .int .i64 0, .slice none 0 0]) ?_ 0 _ rfl; (with_reducible repeat (first | refine blk_drewN ?_ _ | refine blk_drew ?_ | refine blk_alloc ?_ _)); exact BK224.out⟩, ⟨by repeat (first | (with_reducible first | exact HB.out | apply below_alloc | apply pw_below_drewN | apply below_drew1 | refine below_set ?_ GE222.out | refine below_set ?_ GE224.out) | exact HB.out)⟩⟩
             case rest =>
              clear HC24
              try clear c1
              try clear p1
              try clear q1
              try clear hx1
              try clear c2
              try clear p2
              try clear q2
              try clear hx2
              try clear c3
              try clear c4
              try clear c5
              try clear c5b0
              try clear c6
              try clear p6
              try clear c8
              try clear c8b0
              try clear c9
              try clear c9b0
              try clear p10
              try clear q10
              try clear hx10
              try clear c12
              try clear c12b0
              try clear c13
              try clear c13b0
              try clear p14
              try clear q14
              try clear hx14
              try clear c16
              try clear c16b0
              try clear c16b1
              try clear c17
              try clear c17b0
              try clear c17b1
              try clear c18
              try clear c18b0
              try clear c18b1
              try clear c21
              try clear c21b0
              try clear c22
              try clear c22b0
              try clear p23
              try clear q23
              try clear hx23
              try clear c32
              try clear c32b0
              try clear hcz7_0
              try clear hcz7_1
              try clear hcz7_2
              try clear hcz7_3
              try clear hfz7_0
              try clear hfz7_1
              try clear hfz7_2
              try clear hfz7_3
              try clear p10
              try clear p14
              try clear p2
              try clear p23
              try clear q10
              try clear q14
              try clear q23
              obtain ⟨kq, x58_23, rfl, HA, HJ23, BK222, BK224, HB⟩ := hcut
              cases kq with
              | zero => exact absurd HA.out (by simp [watchwordref1_GetLsa.j1])
              | succ kj23 =>
               have H := HA.out
               clear HA
               simp only [watchwordref1_GetLsa.j1] at H
               by_cases c33 : x58_23 = true
               ·subst c33
                have H1 : (some (0, 0, 0, ([] : List (S49)), 0, 700)) = some (r1, r2, r3, r4, r5, r6) := by rw [if_pos rfl] at H; exact H
                clear H
                have H := H1
                clear H1
                simp only [Option.some.injEq, Prod.mk.injEq] at H
                obtain ⟨rfl, rfl, rfl, rfl, rfl, rfl⟩ := H
                have hnb34 := NB222_224.out
                have hnc34 := NB224_222.out
                have hcz35_0 : wc.cell? ⟨gb222, 0, none⟩ = some (.int .i64 0) := (blk_cell BK222.out 0).trans rfl
                have hcz35_1 : wc.cell? ⟨gb222, 1, none⟩ = some (.int .i64 0) := (blk_cell BK222.out 1).trans rfl
                have hcz35_2 : wc.cell? ⟨gb222, 2, none⟩ = some (.int .i64 0) := (blk_cell BK222.out 2).trans rfl
                have hcz35_3 : wc.cell? ⟨gb222, 3, none⟩ = some (.slice none 0 0) := (blk_cell BK222.out 3).trans rfl
                have hfz35_0 := blk_frozen BK222.out 0
                have hfz35_1 := blk_frozen BK222.out 1
                have hfz35_2 := blk_frozen BK222.out 2
                have hfz35_3 := blk_frozen BK222.out 3
                go_wp2
                refine bodyPost_ret (results_ctt rfl _ _ gb222 24 #[.int .i64 0, .int .i64 0, .int .i64 0, .slice none 0 0] (0, 0) _ rfl (by (with_reducible repeat (first | refine blk_drewN ?_ _ | refine blk_drew ?_ | refine blk_alloc ?_ _)); refine blk_put (cs := #[.int .i64 0, .int .i64 0, .int .i64 0, .slice none 0 0]) ?_ 3 _ rfl; (with_reducible repeat (first | refine blk_drewN ?_ _ | refine blk_drew ?_ | refine blk_alloc ?_ _)); refine blk_put (cs := #[.int .i64 0, .int .i64 0, .int .i64 0, .slice none 0 0]) ?_ 2 _ rfl; (with_reducible repeat (first | refine blk_drewN ?_ _ | refine blk_drew ?_ | refine blk_alloc ?_ _)); refine blk_put (cs := #[.int .i64 0, .int .i64 0, .int .i64 0, .slice none 0 0]) ?_ 1 _ rfl; (with_reducible repeat (first | refine blk_drewN ?_ _ | refine blk_drew ?_ | refine blk_alloc ?_ _)); refine blk_put (cs := #[.int .i64 0, .int .i64 0, .int .i64 0, .slice none 0 0]) ?_ 0 _ rfl; (with_reducible repeat (first | refine blk_drewN ?_ _ | refine blk_drew ?_ | refine blk_alloc ?_ _)); exact BK222.out) Try.underlying24 rfl (by kernel_rfl)) rfl ?_
                exact ⟨_, by first | rfl | (simp [errW_none, errW_some] <;> rfl) | (simp only [← hji11, ← hji15, ← hji20]; first | rfl | (simp [errW_none, errW_some] <;> rfl)) | (simp [*, errW_none, errW_some] <;> rfl), by first | exact Kd.R_nil _ _ _ _ _ | exact Kd.N_nil _ _ _ _ _ | exact Kd.V_nil _ _ _ _ _ | exact Kd.Q_nil _ _ _ _ _ | exact Kd.S_nil _ _ _ _ _, by repeat (first | (with_reducible first | exact HB.out | apply below_alloc | apply pw_below_drewN | apply below_drew1 | refine below_set ?_ GE222.out | refine below_set ?_ GE224.out) | exact HB.out)⟩
               ·replace c33 := Bool.eq_false_iff.mpr c33
                subst c33
                have H1 : (watchwordref1_GetLsa.l0 kj23 a0 a1 (wrap64 (bt a0 (ji20))) (wrap64 ((wrap64 (a1 + 9)) + (wrap64 (3 * (wrap64 (bt a0 (ji20))))))) 0 (wrap64 (bt a0 (ji11))) t223 (wrap64 (bt a0 a1)) ([] : List (S49))) = some (r1, r2, r3, r4, r5, r6) := by rw [if_neg (show ¬ (false = true) by decide)] at H; exact H
                clear H
                have H := H1
                clear H1
                have H' := Aside0.mk H
                clear H
                go_wp2
                go_loopg [10] kj23 (fun kq v10 w' => ∃ (x10_3 : Int) (x225003_3 : List (S49)) (u225003 : Value), v10 = .int .i64 x10_3 ∧ Aside0 (watchwordref1_GetLsa.l0 kq a0 a1 (wrap64 (bt a0 (ji20))) (wrap64 ((wrap64 (a1 + 9)) + (wrap64 (3 * (wrap64 (bt a0 (ji20))))))) x10_3 (wrap64 (bt a0 (ji11))) t223 (wrap64 (bt a0 a1)) x225003_3 = some (r1, r2, r3, r4, r5, r6)) ∧ Aside0 (kq ≤ kj23) ∧ Aside0 (Kd.R k49 49 w' w.heap.size (fun _ => True) u225003 x225003_3) ∧ Aside0 (w'.heap[gb222]? = some (.cells #[.int .i64 0, .int .i64 0, .int .i64 0, (.slice none 0 0)] 24 (0, 0))) ∧ Aside0 (w'.heap[gb224]? = some (.cells #[.int .i64 (wrap64 (bt a0 (ji11))), .int .i64 t223, .int .i64 (wrap64 (bt a0 a1)), u225003] 24 (0, 0))) ∧ Aside0 (Below w.heap.size w w'))
                case atStart => exact ⟨(0), (([] : List (S49))), (.slice none 0 0), (by first | rfl | (simp; done) | (simp [*]; done)), H', ⟨Nat.le_refl _⟩, ⟨by first | exact Kd.R_nil _ _ _ _ _ | exact Kd.N_nil _ _ _ _ _ | exact Kd.V_nil _ _ _ _ _ | exact Kd.Q_nil _ _ _ _ _ | exact Kd.S_nil _ _ _ _ _⟩, ⟨by (with_reducible repeat (first | refine blk_drewN ?_ _ | refine blk_drew ?_ | refine blk_alloc ?_ _)); exact BK222.out⟩, ⟨by (with_reducible repeat (first | refine blk_drewN ?_ _ | refine blk_drew ?_ | refine blk_alloc ?_ _)); exact BK224.out⟩, ⟨by repeat (first | (with_reducible first | exact HB.out | apply below_alloc | apply pw_below_drewN | apply below_drew1 | refine below_set ?_ GE222.out | refine below_set ?_ GE224.out) | exact HB.out)⟩⟩
                case round =>
                 clear H'
                 try clear c1
                 try clear p1
                 try clear q1
                 try clear hx1
                 try clear c2
                 try clear p2
                 try clear q2
                 try clear hx2
                 try clear c3
                 try clear c4
                 try clear c5
                 try clear c5b0
                 try clear c6
                 try clear p6
                 try clear c8
                 try clear c8b0
                 try clear c9
                 try clear c9b0
                 try clear p10
                 try clear q10
                 try clear hx10
                 try clear c12
                 try clear c12b0
                 try clear c13
                 try clear c13b0
                 try clear p14
                 try clear q14
                 try clear hx14
                 try clear c16
                 try clear c16b0
                 try clear c16b1
                 try clear c17
                 try clear c17b0
                 try clear c17b1
                 try clear c18
                 try clear c18b0
                 try clear c18b1
                 try clear c21
                 try clear c21b0
                 try clear c22
                 try clear c22b0
                 try clear p23
                 try clear q23
                 try clear hx23
                 try clear c32
                 try clear c32b0
                 try clear c33
                 try clear c34
                 try clear hcz35_0
                 try clear hcz35_1
                 try clear hcz35_2
                 try clear hcz35_3
                 try clear hcz7_0
                 try clear hcz7_1
                 try clear hcz7_2
                 try clear hcz7_3
                 try clear hfz35_0
                 try clear hfz35_1
                 try clear hfz35_2
                 try clear hfz35_3
                 try clear hfz7_0
                 try clear hfz7_1
                 try clear hfz7_2
                 try clear hfz7_3
                 try clear p1
                 try clear p10
                 try clear p14
                 try clear p2
                 try clear p23
                 try clear p6
                 try clear q1
                 try clear q10
                 try clear q14
                 try clear q2
                 try clear q23
                 obtain ⟨x10_3, x225003_3, u225003, rfl, HA, HK3, HO_225003, BK222, BK224, HB⟩ := hrel
                 cases gk with
                 | zero => exact absurd HA.out (by simp [watchwordref1_GetLsa.l0])
                 | succ k3 =>
                  have H := HA.out
                  clear HA
                  simp only [watchwordref1_GetLsa.l0] at H
                  by_cases c36 : x10_3 < (wrap64 (bt a0 (ji20)))
                  ·rw [if_pos c36] at H
                   have c36b0 : decide (x10_3 < (wrap64 (bt a0 (ji20)))) = true := decide_eq_true c36
                   clear c36
                   obtain ⟨ji37, hji37⟩ : ∃ j_ : Int, (wrap64 ((wrap64 (a1 + 7)) + (wrap64 (3 * x10_3)))) = j_ := ⟨_, rfl⟩
                   replace H : (if 0 ≤ (ji37) then (if (ji37) < (a0.size : Int) then (if 0 ≤ (wrap64 ((ji37) + 1)) then (if (wrap64 ((ji37) + 1)) ≤ (wrap64 ((ji37) + 3)) then (if (wrap64 ((ji37) + 3)) ≤ (a0.size : Int) then ((watchwordref1_Of.f k3 (a0.extract ((wrap64 ((ji37) + 1)) : Int).toNat ((wrap64 ((ji37) + 3)) : Int).toNat)).bind fun t225 => (if x225003_3.length < 8796093022208 then (watchwordref1_GetLsa.l0 k3 a0 a1 (wrap64 (bt a0 (ji20))) (wrap64 ((wrap64 (a1 + 9)) + (wrap64 (3 * (wrap64 (bt a0 (ji20))))))) (wrap64 (x10_3 + 1)) (wrap64 (bt a0 (ji11))) t223 (wrap64 (bt a0 a1)) (x225003_3 ++ [(⟨wrap64 (bt a0 (ji37)), t225⟩ : S49)])) else (none))) else (none)) else (none)) else (none)) else (none)) else (none)) = some (r1, r2, r3, r4, r5, r6) := by first | (rw [hji37] at H; exact H) | (simp only [hji37] at H ⊢; exact H)
                   have hji37w : (IntKind.i64.wrap ((wrap64 (a1 + 7)) + (wrap64 (3 * x10_3)))) = ji37 := (i64_w _).trans hji37
                   by_cases c38 : 0 ≤ (ji37)
                   ·rw [if_pos c38] at H
                    have c38b0 : decide (0 ≤ (ji37)) = true := decide_eq_true c38
                    clear c38
                    by_cases c39 : (ji37) < (a0.size : Int)
                    ·rw [if_pos c39] at H
                     have c39b0 : decide ((ji37) < (a0.size : Int)) = true := decide_eq_true c39
                     clear c39
                     obtain ⟨ji41, hji41⟩ : ∃ j_ : Int, (wrap64 ((ji37) + 1)) = j_ := ⟨_, rfl⟩
                     replace H : (if 0 ≤ (ji41) then (if (ji41) ≤ (wrap64 ((ji37) + 3)) then (if (wrap64 ((ji37) + 3)) ≤ (a0.size : Int) then ((watchwordref1_Of.f k3 (a0.extract ((ji41) : Int).toNat ((wrap64 ((ji37) + 3)) : Int).toNat)).bind fun t225 => (if x225003_3.length < 8796093022208 then (watchwordref1_GetLsa.l0 k3 a0 a1 (wrap64 (bt a0 (ji20))) (wrap64 ((wrap64 (a1 + 9)) + (wrap64 (3 * (wrap64 (bt a0 (ji20))))))) (wrap64 (x10_3 + 1)) (wrap64 (bt a0 (ji11))) t223 (wrap64 (bt a0 a1)) (x225003_3 ++ [(⟨wrap64 (bt a0 (ji37)), t225⟩ : S49)])) else (none))) else (none)) else (none)) else (none)) = some (r1, r2, r3, r4, r5, r6) := by first | (rw [hji41] at H; exact H) | (simp only [hji41] at H ⊢; exact H)
                     have hji41w : (IntKind.i64.wrap ((ji37) + 1)) = ji41 := (i64_w _).trans hji41
                     by_cases c42 : 0 ≤ (ji41)
                     ·rw [if_pos c42] at H
                      have c42b0 := eq_true c42
                      have c42b1 : decide (0 ≤ (ji41)) = true := decide_eq_true c42
                      clear c42
                      by_cases c43 : (ji41) ≤ (wrap64 ((ji37) + 3))
                      ·rw [if_pos c43] at H
                       have c43b0 := eq_true c43
                       have c43b1 : decide ((ji41) ≤ (wrap64 ((ji37) + 3))) = true := decide_eq_true c43
                       by_cases c44 : (wrap64 ((ji37) + 3)) ≤ (a0.size : Int)
                       ·rw [if_pos c44] at H
                        have c44b0 := eq_true c44
                        have c44b1 : decide ((wrap64 ((ji37) + 3)) ≤ (a0.size : Int)) = true := decide_eq_true c44
                        replace H := Option.bind_eq_some_iff.mp H
                        obtain ⟨t225, A450, H⟩ := H
                        replace H : (if x225003_3.length < 8796093022208 then (watchwordref1_GetLsa.l0 k3 a0 a1 (wrap64 (bt a0 (ji20))) (wrap64 ((wrap64 (a1 + 9)) + (wrap64 (3 * (wrap64 (bt a0 (ji20))))))) (wrap64 (x10_3 + 1)) (wrap64 (bt a0 (ji11))) t223 (wrap64 (bt a0 a1)) (x225003_3 ++ [(⟨wrap64 (bt a0 (ji37)), t225⟩ : S49)])) else (none)) = some (r1, r2, r3, r4, r5, r6) := H
                        have A45 := Aside0.mk A450
                        clear A450
                        by_cases c46 : x225003_3.length < 8796093022208
                        ·rw [if_pos c46] at H
                         have LMc46 := Aside0.mk c46
                         clear c46
                         obtain ⟨y226, hy226⟩ : ∃ y_ : List (S49), y_ = (x225003_3 ++ [(⟨wrap64 (bt a0 (ji37)), t225⟩ : S49)]) := ⟨_, rfl⟩
                         replace H : (watchwordref1_GetLsa.l0 k3 a0 a1 (wrap64 (bt a0 (ji20))) (wrap64 ((wrap64 (a1 + 9)) + (wrap64 (3 * (wrap64 (bt a0 (ji20))))))) (wrap64 (x10_3 + 1)) (wrap64 (bt a0 (ji11))) t223 (wrap64 (bt a0 a1)) y226) = some (r1, r2, r3, r4, r5, r6) := by first | (rw [hy226]; with_reducible exact H) | (have H2_ := (Option.bind_some _ _).symm.trans H; rw [hy226]; with_reducible exact H2_) | (have H2_ := (Option.bind_some _ _).symm.trans H; with_reducible exact H2_) | with_reducible exact H | (rw [hy226]; exact H) | exact H
                         have Ny226 := Aside0.mk hy226
                         clear hy226
                         have H' := Aside0.mk H
                         clear H
                         try go_wp2
                         have n0_ := Aside0.mk (Kd.R_drew HO_225003.out)
                         have n1_ := Aside0.mk (blk_drew BK222.out)
                         have n2_ := Aside0.mk (blk_drew BK224.out)
                         have n3_ := Aside0.mk (below_drew1 HB.out)
                         clear HO_225003
                         clear BK222
                         clear BK224
                         clear HB
                         have HO_225003 := n0_
                         have BK222 := n1_
                         have BK224 := n2_
                         have HB := n3_
                         clear n0_ n1_ n2_ n3_
                         have p40 : 0 ≤ ((ji37) : Int) := of_decide_eq_true (by first | (with_reducible assumption) | assumption)
                         have q40 : (ji37) < (a0.size : Int) := of_decide_eq_true (by first | (with_reducible assumption) | assumption)
                         have hx40 := bt_at a0 (ji37)
                         replace p40 := eq_true p40
                         replace q40 := eq_true q40
                         refine start_ (n := 18) (S := fun w' => w'.cell? ⟨gb224, 0, none⟩ = some (.int .i64 (wrap64 (bt a0 (ji11)))) ∧ w'.cell? ⟨gb224, 1, none⟩ = some (.int .i64 t223) ∧ w'.cell? ⟨gb224, 2, none⟩ = some (.int .i64 (wrap64 (bt a0 a1))) ∧ w'.cell? ⟨gb224, 3, none⟩ = some (u225003)) (ds := [17]) mk_18_0 (by kernel_rfl) rfl rfl ⟨(blk_cell BK224.out 0).trans rfl, (blk_cell BK224.out 1).trans rfl, (blk_cell BK224.out 2).trans rfl, (blk_cell BK224.out 3).trans rfl⟩ (fun hHeld => ?_); refine with_tabW watchwordref1_GetLsa.tab12 watchwordref1_GetLsa.bits12 (fun HT_ HW_ => ?_)
                         generalize wr.drew = w47 at HO_225003 BK222 BK224 HB hHeld ⊢
                         refine pure_ (i := 0) (N := some 70) (v := ?_) (a' := ?_) mk_18_1 rfl rfl (any_of HT_.out (by kernel_rfl)) (fun _ _ _ h => h) (Or.inl ⟨by rfl, ?_⟩) ?_ ?_
                         rotate_left
                         ·intro w'
                          go_simp
                          with_reducible rfl
                         rotate_left
                         ·simp only [Act.put, List.setIfInBounds_toArray, List.set_cons_zero, List.set_cons_succ, i64_w, i32_w]
                          rfl
                         refine pure_ (i := 2) (N := some 72) (v := ?_) (a' := ?_) #[true, false, true, false, false, false, false, false, false, false, false, false, false, false, false, false, false, false] rfl rfl (any_of HT_.out (by kernel_rfl)) (fun _ _ _ h => h) (Or.inl ⟨by rfl, ?_⟩) ?_ ?_
                         rotate_left
                         ·intro w'
                          go_simp
                          with_reducible rfl
                         rotate_left
                         ·simp only [Act.put, List.setIfInBounds_toArray, List.set_cons_zero, List.set_cons_succ, i64_w, i32_w]
                          rfl
                         refine pure_ (i := 3) (N := some 73) (v := ?_) (a' := ?_) #[true, false, true, true, false, false, false, false, false, false, false, false, false, false, false, false, false, false] rfl rfl (any_of HT_.out (by kernel_rfl)) (fun _ _ _ h => h) (Or.inl ⟨by rfl, ?_⟩) ?_ ?_
                         rotate_left
                         ·intro w'
                          go_simp
                          with_reducible rfl
                         rotate_left
                         ·simp only [Act.put, List.setIfInBounds_toArray, List.set_cons_zero, List.set_cons_succ, i64_w, i32_w]
                          rfl
                         refine pure_ (i := 6) (N := some 76) (v := ?_) (a' := ?_) #[true, false, true, true, false, false, true, false, false, false, false, false, false, false, false, false, false, false] rfl rfl (any_of HT_.out (by kernel_rfl)) (fun _ _ _ h => h) (Or.inl ⟨by rfl, ?_⟩) ?_ ?_
                         rotate_left
                         ·intro w'
                          go_simp
                          with_reducible rfl
                         rotate_left
                         ·simp only [Act.put, List.setIfInBounds_toArray, List.set_cons_zero, List.set_cons_succ, i64_w, i32_w]
                          rfl
                         refine pure_ (i := 7) (N := some 77) (v := ?_) (a' := ?_) #[true, false, true, true, false, false, true, true, false, false, false, false, false, false, false, false, false, false] rfl rfl (any_of HT_.out (by kernel_rfl)) (fun _ _ _ h => h) (Or.inl ⟨by rfl, ?_⟩) ?_ ?_
                         rotate_left
                         ·intro w'
                          go_simp
                          with_reducible rfl
                         rotate_left
                         ·simp only [Act.put, List.setIfInBounds_toArray, List.set_cons_zero, List.set_cons_succ, i64_w, i32_w]
                          rfl
                         refine pure_ (i := 8) (N := some 78) (v := ?_) (a' := ?_) #[true, false, true, true, false, false, true, true, true, false, false, false, false, false, false, false, false, false] rfl rfl (any_of HT_.out (by kernel_rfl)) (fun _ _ _ h => h) (Or.inl ⟨by rfl, ?_⟩) ?_ ?_
                         rotate_left
                         ·intro w'
                          go_simp
                          with_reducible rfl
                         rotate_left
                         ·simp only [Act.put, List.setIfInBounds_toArray, List.set_cons_zero, List.set_cons_succ, i64_w, i32_w]
                          rfl
                         refine pure_ (i := 9) (N := some 79) (v := ?_) (a' := ?_) #[true, false, true, true, false, false, true, true, true, true, false, false, false, false, false, false, false, false] rfl rfl (any_of HT_.out (by kernel_rfl)) (fun _ _ _ h => h) (Or.inl ⟨by rfl, ?_⟩) ?_ ?_
                         rotate_left
                         ·intro w'
                          go_simp
                          with_reducible rfl
                         rotate_left
                         ·simp only [Act.put, List.setIfInBounds_toArray, List.set_cons_zero, List.set_cons_succ, i64_w, i32_w]
                          rfl
                         refine pure_ (i := 10) (N := some 80) (v := ?_) (a' := ?_) #[true, false, true, true, false, false, true, true, true, true, true, false, false, false, false, false, false, false] rfl rfl (any_of HT_.out (by kernel_rfl)) (fun _ _ _ h => h) (Or.inl ⟨by rfl, ?_⟩) ?_ ?_
                         rotate_left
                         ·intro w'
                          go_simp
                          with_reducible rfl
                         rotate_left
                         ·simp only [Act.put, List.setIfInBounds_toArray, List.set_cons_zero, List.set_cons_succ, i64_w, i32_w]
                          rfl
                         refine pure_ (i := 11) (N := some 81) (v := ?_) (a' := ?_) #[true, false, true, true, false, false, true, true, true, true, true, true, false, false, false, false, false, false] rfl rfl (any_of HT_.out (by kernel_rfl)) (fun _ _ _ h => h) (Or.inl ⟨by rfl, ?_⟩) ?_ ?_
                         rotate_left
                         ·intro w'
                          go_simp
                          with_reducible rfl
                         rotate_left
                         ·simp only [Act.put, List.setIfInBounds_toArray, List.set_cons_zero, List.set_cons_succ, i64_w, i32_w]
                          rfl
                         refine take_ (i := 1) (N := some 71) (v := ?_) (a' := ?_) #[true, true, true, true, false, false, true, true, true, true, true, true, false, false, false, false, false, false] rfl rfl (take_ofW HT_.out HW_.out (by kernel_rfl)) (fun _ _ _ h => h) (Or.inl ⟨by rfl, ?_⟩) hHeld ?_ ?_
                         rotate_left
                         ·rintro w' ⟨s0, s1, s2, s3⟩
                          go_simp
                          with_reducible rfl
                         rotate_left
                         ·simp only [Act.put, List.setIfInBounds_toArray, List.set_cons_zero, List.set_cons_succ, i64_w, i32_w]
                          rfl
                         refine take_ (i := 4) (N := some 74) (v := ?_) (a' := ?_) #[true, true, true, true, true, false, true, true, true, true, true, true, false, false, false, false, false, false] rfl rfl (take_ofW HT_.out HW_.out (by kernel_rfl)) (fun _ _ _ h => h) (Or.inl ⟨by rfl, ?_⟩) hHeld ?_ ?_
                         rotate_left
                         ·rintro w' ⟨s0, s1, s2, s3⟩
                          go_simp
                          with_reducible rfl
                         rotate_left
                         ·simp only [Act.put, List.setIfInBounds_toArray, List.set_cons_zero, List.set_cons_succ, i64_w, i32_w]
                          rfl
                         refine pure_ (i := 5) (N := some 75) (v := ?_) (a' := ?_) mk_18_12 rfl rfl (any_of HT_.out (by kernel_rfl)) (fun _ _ _ h => h) (Or.inl ⟨by rfl, ?_⟩) ?_ ?_
                         rotate_left
                         ·intro w'
                          go_simp
                          with_reducible rfl
                         rotate_left
                         ·simp only [Act.put, List.setIfInBounds_toArray, List.set_cons_zero, List.set_cons_succ, i64_w, i32_w]
                          rfl
                         refine one_ (i := 12) (N := some 82) mk_18_13 rfl rfl (one_of HT_.out (by kernel_rfl)) (by decide) (fun K hK => ?_)
                         refine goes_ Try.func43 (by kernel_rfl) rfl #[.string (a0.extract ((ji41) : Int).toNat ((wrap64 ((ji37) + 3)) : Int).toNat)] (by rfl) rfl rfl (by (try simp only [List.map_toArray, List.map_cons, List.map_nil]); first | done | (simp only [hji37, hji41]; rfl) | rfl | (simp only [List.length_drop, List.length_take]; rfl)) ?_
                         with_reducible refine (watchwordref1_Of.calls k3 (a0.extract ((ji41) : Int).toNat ((wrap64 ((ji37) + 3)) : Int).toNat) t225 _ A45.out).mono ?_
                         rintro e w' ⟨rfl, ⟨nd, rfl⟩⟩
                         refine ⟨_, rfl, ?_⟩
                         refine hK.out _ _ ⟨(blk_cell BK224.out 0).trans rfl, (blk_cell BK224.out 1).trans rfl, (blk_cell BK224.out 2).trans rfl, (blk_cell BK224.out 3).trans rfl⟩ (fun hHeld => ?_)
                         clear hK K
                         refine norm_ (a' := ?_) ?_ ?_
                         rotate_left
                         ·show Act.put _ (some 82) _ = _
                          simp only [Act.put, List.setIfInBounds_toArray, List.set_cons_zero, List.set_cons_succ, i64_w, i32_w]
                          rfl
                         refine pure_ (i := 13) (N := some 83) (v := ?_) (a' := ?_) mk_18_14 rfl rfl (any_of HT_.out (by kernel_rfl)) (fun _ _ _ h => h) (Or.inl ⟨by rfl, ?_⟩) ?_ ?_
                         rotate_left
                         ·intro w'
                          go_simp
                          with_reducible rfl
                         rotate_left
                         ·simp only [Act.put, List.setIfInBounds_toArray, List.set_cons_zero, List.set_cons_succ, i64_w, i32_w]
                          rfl
                         refine one_ (i := 14) (N := some 84) mk_18_15 rfl rfl (one_of HT_.out (by kernel_rfl)) (by decide) (fun K hK => ?_)
                         refine value_ (w1 := ?_) (v := ?_) (by rfl) rfl ?_ ?_
                         rotate_left 2
                         ·go_simp
                          constructor
                          ·rfl
                          ·rfl
                         refine hK.out _ _ ⟨(blk_cell (blk_alloc BK224.out _) 0).trans rfl, (blk_cell (blk_alloc BK224.out _) 1).trans rfl, (blk_cell (blk_alloc BK224.out _) 2).trans rfl, (blk_cell (blk_alloc BK224.out _) 3).trans rfl⟩ (fun hHeld => ?_)
                         clear hK K
                         refine norm_ (a' := ?_) ?_ ?_
                         rotate_left
                         ·show Act.put _ (some 84) _ = _
                          simp only [Act.put, List.setIfInBounds_toArray, List.set_cons_zero, List.set_cons_succ, i64_w, i32_w]
                          rfl
                         refine one_ (i := 15) (N := some 85) mk_18_16 rfl rfl (one_of HT_.out (by kernel_rfl)) (by decide) (fun K hK => ?_)
                         refine Kd.R_append_step k49 (w0 := w) w.heap.size (by rfl) (.tmp 71) (.tmp 84) 22 49 (.agg #[(.int .i64 0), (.int .i64 0)]) 16 rfl Try.underlying22 info49 rfl (by decide) (by omega) u225003 x225003_3 (⟨wrap64 (bt a0 (ji37)), t225⟩ : S49) [.int .i64 (wrap64 (bt a0 (ji37))), .int .i64 t225] (fun _ => True) (fun _ => False) rfl rfl ?aP (fun _ hk => hk.elim) ?aF ?aO ?aB ?aS ?aL ?_
                         (case aP => exact k49_mkM _ _ _ (⟨wrap64 (bt a0 (ji37)), t225⟩ : S49))
                         (case aB => exact (by repeat (first | (with_reducible first | exact HB.out | apply below_alloc | apply pw_below_drewN | apply below_drew1 | refine below_set ?_ GE222.out | refine below_set ?_ GE224.out) | exact HB.out)))
                         (case aF => exact (fun _ _ => trivial))
                         (case aO => exact (by (with_reducible repeat (first | apply Kd.R_alloc | apply Kd.R_drewN | apply Kd.R_drew)); exact HO_225003.out))
                         (case aS => exact (below_size (by repeat (first | (with_reducible first | exact HB.out | apply below_alloc | apply pw_below_drewN | apply below_drew1 | refine below_set ?_ GE222.out | refine below_set ?_ GE224.out) | exact HB.out))))
                         (case aL => have := LMc46.out; omega)
                         intro v227 w48 ho hb hg hat
                         rw [← Ny226.out] at ho
                         have n0_ := Aside0.mk (blk_grown (g := gb222) (o := .cells #[.int .i64 0, .int .i64 0, .int .i64 0, .slice none 0 0] 24 (0, 0)) (by (with_reducible repeat (first | refine blk_drewN ?_ _ | refine blk_drew ?_ | refine blk_alloc ?_ _)); exact BK222.out) hg (Kd.R_ne HO_225003.out BK222.out (by decide)))
                         have n1_ := Aside0.mk (blk_grown (g := gb224) (o := .cells #[.int .i64 (wrap64 (bt a0 (ji11))), .int .i64 t223, .int .i64 (wrap64 (bt a0 a1)), u225003] 24 (0, 0)) (by (with_reducible repeat (first | refine blk_drewN ?_ _ | refine blk_drew ?_ | refine blk_alloc ?_ _)); exact BK224.out) hg (Kd.R_ne HO_225003.out BK224.out (by decide)))
                         have n2_ := Aside0.mk (hb)
                         have n3_ := Aside0.mk (ho)
                         clear BK222
                         clear BK224
                         clear HB
                         clear HO_225003
                         have BK222 := n0_
                         have BK224 := n1_
                         have HB := n2_
                         have HO228 := n3_
                         clear n0_ n1_ n2_ n3_
                         clear ho hb hg hat
                         obtain ⟨Ao49, co49, eo49⟩ := Kd.R_slice HO228.out
                         (first | subst eo49 | (injection eo49 with f1_ f2_ f3_; have f4_ := f1_.symm; have f5_ := f3_.symm; clear f1_ f2_ f3_; subst f4_; subst f5_))
                         refine hK.out _ _ ⟨(blk_cell BK224.out 0).trans rfl, (blk_cell BK224.out 1).trans rfl, (blk_cell BK224.out 2).trans rfl, (blk_cell BK224.out 3).trans rfl⟩ (fun hHeld => ?_)
                         clear hK K
                         refine norm_ (a' := ?_) ?_ ?_
                         rotate_left
                         ·show Act.put _ (some 85) _ = _
                          simp only [Act.put, List.setIfInBounds_toArray, List.set_cons_zero, List.set_cons_succ, i64_w, i32_w]
                          rfl
                         refine pure_ (i := 16) (N := some 86) (v := ?_) (a' := ?_) mk_18_17 rfl rfl (any_of HT_.out (by kernel_rfl)) (fun _ _ _ h => h) (Or.inl ⟨by rfl, ?_⟩) ?_ ?_
                         rotate_left
                         ·intro w'
                          go_simp
                          with_reducible rfl
                         rotate_left
                         ·simp only [Act.put, List.setIfInBounds_toArray, List.set_cons_zero, List.set_cons_succ, i64_w, i32_w]
                          rfl
                         refine last_ (i := 17) (N := none) mk_18_18 rfl rfl (one_of HT_.out (by kernel_rfl)) (by decide) (fun K hK => ?_)
                         have hs50 : w48.cell? ⟨gb224, 3, none⟩ = some (u225003) := (blk_cell BK224.out 3).trans rfl
                         have hfs50 := blk_frozen BK224.out 3
                         have hns50_0 := NB222_224.out
                         have hms50_0 := NB224_222.out
                         refine skip_ (w1 := ?_) (by rfl) rfl ?_ ?_
                         rotate_left
                         ·go_simp
                          rfl
                         refine hK.out _ _ ?_
                         clear hK K
                         refine done_ (done_of HT_.out (by kernel_rfl)) ?_
                         try go_wp2
                         go_roundg k3
                         case measure => have := HJ2.out; have := HJ23.out; have := HK3.out; omega
                         case rel => exact ⟨(wrap64 (x10_3 + 1)), (y226), (.slice Ao49 y226.length co49), (by first | rfl | (simp; done) | (simp [*]; done)), H', ⟨by have := HJ2.out; have := HJ23.out; have := HK3.out; omega⟩, ⟨by (with_reducible repeat (first | apply Kd.R_alloc | apply Kd.R_drewN | apply Kd.R_drew)); exact Kd.R_mono (Kd.R_far (p := ⟨gb224, 3, none⟩) (Kd.R_types HO228.out BK224.out (by decide)) (fun _ hk => hk.2) (.slice Ao49 y226.length co49)) (fun _ hk => trivial)⟩, ⟨by (with_reducible repeat (first | refine blk_drewN ?_ _ | refine blk_drew ?_ | refine blk_alloc ?_ _)); refine blk_far ?_ NB222_224.out _; (with_reducible repeat (first | refine blk_drewN ?_ _ | refine blk_drew ?_ | refine blk_alloc ?_ _)); exact BK222.out⟩, ⟨by (with_reducible repeat (first | refine blk_drewN ?_ _ | refine blk_drew ?_ | refine blk_alloc ?_ _)); refine blk_put (cs := #[.int .i64 (wrap64 (bt a0 (ji11))), .int .i64 t223, .int .i64 (wrap64 (bt a0 a1)), u225003]) ?_ 3 _ rfl; (with_reducible repeat (first | refine blk_drewN ?_ _ | refine blk_drew ?_ | refine blk_alloc ?_ _)); exact BK224.out⟩, ⟨by repeat (first | (with_reducible first | exact HB.out | apply below_alloc | apply pw_below_drewN | apply below_drew1 | refine below_set ?_ GE222.out | refine below_set ?_ GE224.out) | exact HB.out)⟩⟩
                        ·rw [if_neg c46] at H
                         exact absurd H (by simp)
                       ·rw [if_neg c44] at H
                        exact absurd H (by simp)
                      ·rw [if_neg c43] at H
                       exact absurd H (by simp)
                     ·rw [if_neg c42] at H
                      exact absurd H (by simp)
                    ·rw [if_neg c39] at H
                     exact absurd H (by simp)
                   ·rw [if_neg c38] at H
                    exact absurd H (by simp)
                  ·rw [if_neg c36] at H
                   have c36b0 : decide (x10_3 < (wrap64 (bt a0 (ji20)))) = false := decide_eq_false c36
                   clear c36
                   replace H := Option.bind_eq_some_iff.mp H
                   obtain ⟨⟨t229, t230⟩, A510, H⟩ := H
                   replace H : (if t230 = 0 then (if 0 ≤ a1 then (if a1 ≤ (wrap64 ((wrap64 (a1 + 9)) + (wrap64 (3 * (wrap64 (bt a0 (ji20))))))) then (if (wrap64 ((wrap64 (a1 + 9)) + (wrap64 (3 * (wrap64 (bt a0 (ji20))))))) ≤ (a0.size : Int) then (if t229.toList = (a0.extract (a1 : Int).toNat ((wrap64 ((wrap64 (a1 + 9)) + (wrap64 (3 * (wrap64 (bt a0 (ji20))))))) : Int).toNat).toList then (some ((wrap64 (bt a0 (ji11))), t223, (wrap64 (bt a0 a1)), x225003_3, (wrap64 ((wrap64 (a1 + 9)) + (wrap64 (3 * (wrap64 (bt a0 (ji20))))))), 0)) else (some (0, 0, 0, ([] : List (S49)), 0, 700))) else (none)) else (none)) else (none)) else (some (0, 0, 0, ([] : List (S49)), 0, 700))) = some (r1, r2, r3, r4, r5, r6) := H
                   have A51 := Aside0.mk A510
                   clear A510
                   by_cases c52 : t230 = 0
                   ·rw [if_pos c52] at H
                    have c52b0 : (t230 == 0) = true := beq_iff_eq.mpr c52
                    have c52b1 : (t230 != 0) = false := bne_eq_false_iff_eq.mpr c52
                    clear c52
                    by_cases c53 : 0 ≤ a1
                    ·rw [if_pos c53] at H
                     have c53b0 := eq_true c53
                     have c53b1 : decide (0 ≤ a1) = true := decide_eq_true c53
                     clear c53
                     by_cases c54 : a1 ≤ (wrap64 ((wrap64 (a1 + 9)) + (wrap64 (3 * (wrap64 (bt a0 (ji20)))))))
                     ·rw [if_pos c54] at H
                      have c54b0 := eq_true c54
                      have c54b1 : decide (a1 ≤ (wrap64 ((wrap64 (a1 + 9)) + (wrap64 (3 * (wrap64 (bt a0 (ji20)))))))) = true := decide_eq_true c54
                      by_cases c55 : (wrap64 ((wrap64 (a1 + 9)) + (wrap64 (3 * (wrap64 (bt a0 (ji20))))))) ≤ (a0.size : Int)
                      ·rw [if_pos c55] at H
                       have c55b0 := eq_true c55
                       have c55b1 : decide ((wrap64 ((wrap64 (a1 + 9)) + (wrap64 (3 * (wrap64 (bt a0 (ji20))))))) ≤ (a0.size : Int)) = true := decide_eq_true c55
                       by_cases c56 : t229.toList = (a0.extract (a1 : Int).toNat ((wrap64 ((wrap64 (a1 + 9)) + (wrap64 (3 * (wrap64 (bt a0 (ji20))))))) : Int).toNat).toList
                       ·rw [if_pos c56] at H
                        have c56b0 : (t229.toList == (a0.extract (a1 : Int).toNat ((wrap64 ((wrap64 (a1 + 9)) + (wrap64 (3 * (wrap64 (bt a0 (ji20))))))) : Int).toNat).toList) = true := beq_iff_eq.mpr c56
                        have c56b1 : (t229.toList != (a0.extract (a1 : Int).toNat ((wrap64 ((wrap64 (a1 + 9)) + (wrap64 (3 * (wrap64 (bt a0 (ji20))))))) : Int).toNat).toList) = false := bne_eq_false_iff_eq.mpr c56
                        clear c56
                        simp only [Option.some.injEq, Prod.mk.injEq] at H
                        obtain ⟨rfl, rfl, rfl, rfl, rfl, rfl⟩ := H
                        have hnb57 := NB224_222.out
                        have hnc57 := NB222_224.out
                        have hcz58_0 : wr.cell? ⟨gb224, 0, none⟩ = some (.int .i64 (wrap64 (bt a0 (ji11)))) := (blk_cell BK224.out 0).trans rfl
                        have hcz58_1 : wr.cell? ⟨gb224, 1, none⟩ = some (.int .i64 t223) := (blk_cell BK224.out 1).trans rfl
                        have hcz58_2 : wr.cell? ⟨gb224, 2, none⟩ = some (.int .i64 (wrap64 (bt a0 a1))) := (blk_cell BK224.out 2).trans rfl
                        have hcz58_3 : wr.cell? ⟨gb224, 3, none⟩ = some (u225003) := (blk_cell BK224.out 3).trans rfl
                        have hfz58_0 := blk_frozen BK224.out 0
                        have hfz58_1 := blk_frozen BK224.out 1
                        have hfz58_2 := blk_frozen BK224.out 2
                        have hfz58_3 := blk_frozen BK224.out 3
                        obtain ⟨Ao59, co59, eo59⟩ := Kd.R_slice HO_225003.out
                        subst eo59
                        go_wp2_with (first | ((with_reducible refine gate_callee (f := 14) rfl ?_); refine goesL_ (some 89) rfl rfl Try.func14 (by kernel_rfl) rfl #[.agg #[.int .i64 (wrap64 (bt a0 (ji11))), .int .i64 t223, .int .i64 (wrap64 (bt a0 a1)), .slice Ao59 x225003_3.length co59]] rfl (by (try simp only [List.map_toArray, List.map_cons, List.map_nil]); first | done | (simp only [hji11]; rfl) | rfl | (simp only [List.length_drop, List.length_take]; rfl)) ?_; (with_reducible refine (watchwordref1_PutLsa.calls k3 (wrap64 (bt a0 (ji11))) t223 (wrap64 (bt a0 a1)) _ _ x225003_3 t229 t230 _ ?side1 ?side2 A51.out).mono ?_); (case side1 => repeat (first | exact (Kd.R_reads' HO_225003.out).2.2 | (with_reducible refine Kd.C_alloc ?_ _) | (with_reducible refine Kd.C_drewN ?_ _) | (with_reducible refine Kd.C_drew ?_))); (case side2 => exact (Kd.R_reads' HO_225003.out).2.1); rintro e w60 ⟨rfl, hb⟩; refine ⟨_, rfl, ?_⟩; have n0_ := Aside0.mk (Kd.R_below (by (with_reducible repeat (first | apply Kd.R_alloc | apply Kd.R_drewN | apply Kd.R_drew)); exact HO_225003.out) hb); have n1_ := Aside0.mk (blk_below (g := gb222) (o := .cells #[.int .i64 0, .int .i64 0, .int .i64 0, .slice none 0 0] 24 (0, 0)) (by (with_reducible repeat (first | refine blk_drewN ?_ _ | refine blk_drew ?_ | refine blk_alloc ?_ _)); exact BK222.out) hb); have n2_ := Aside0.mk (blk_below (g := gb224) (o := .cells #[.int .i64 (wrap64 (bt a0 (ji11))), .int .i64 t223, .int .i64 (wrap64 (bt a0 a1)), .slice Ao59 x225003_3.length co59] 24 (0, 0)) (by (with_reducible repeat (first | refine blk_drewN ?_ _ | refine blk_drew ?_ | refine blk_alloc ?_ _)); exact BK224.out) hb); have n3_ := Aside0.mk (below_step (by repeat (first | (with_reducible first | exact HB.out | apply below_alloc | apply pw_below_drewN | apply below_drew1 | refine below_set ?_ GE222.out | refine below_set ?_ GE224.out) | exact HB.out)) hb); clear HO_225003; clear BK222; clear BK224; clear HB; have HO_225003 := n0_; have BK222 := n1_; have BK224 := n2_; have HB := n3_; clear n0_ n1_ n2_ n3_; (try clear hb); (try clear hb2); (try clear hk); (try clear hi); have hcz61_0 : w60.cell? ⟨gb224, 0, none⟩ = some (.int .i64 (wrap64 (bt a0 (ji11)))) := (blk_cell BK224.out 0).trans rfl; have hcz61_1 : w60.cell? ⟨gb224, 1, none⟩ = some (.int .i64 t223) := (blk_cell BK224.out 1).trans rfl; have hcz61_2 : w60.cell? ⟨gb224, 2, none⟩ = some (.int .i64 (wrap64 (bt a0 a1))) := (blk_cell BK224.out 2).trans rfl; have hcz61_3 : w60.cell? ⟨gb224, 3, none⟩ = some (.slice Ao59 x225003_3.length co59) := (blk_cell BK224.out 3).trans rfl; have hfz61_0 := blk_frozen BK224.out 0; have hfz61_1 := blk_frozen BK224.out 1; have hfz61_2 := blk_frozen BK224.out 2; have hfz61_3 := blk_frozen BK224.out 3; have hcz62_0 : w60.cell? ⟨gb222, 0, none⟩ = some (.int .i64 0) := (blk_cell BK222.out 0).trans rfl; have hcz62_1 : w60.cell? ⟨gb222, 1, none⟩ = some (.int .i64 0) := (blk_cell BK222.out 1).trans rfl; have hcz62_2 : w60.cell? ⟨gb222, 2, none⟩ = some (.int .i64 0) := (blk_cell BK222.out 2).trans rfl; have hcz62_3 : w60.cell? ⟨gb222, 3, none⟩ = some (.slice none 0 0) := (blk_cell BK222.out 3).trans rfl; have hfz62_0 := blk_frozen BK222.out 0; have hfz62_1 := blk_frozen BK222.out 1; have hfz62_2 := blk_frozen BK222.out 2; have hfz62_3 := blk_frozen BK222.out 3))
                        refine bodyPost_ret (results_ctt rfl _ _ gb222 24 #[.int .i64 (wrap64 (bt a0 (ji11))), .int .i64 t223, .int .i64 (wrap64 (bt a0 a1)), .slice Ao59 x225003_3.length co59] (0, 0) _ rfl (by (with_reducible repeat (first | refine blk_drewN ?_ _ | refine blk_drew ?_ | refine blk_alloc ?_ _)); refine blk_put (cs := #[.int .i64 (wrap64 (bt a0 (ji11))), .int .i64 t223, .int .i64 (wrap64 (bt a0 a1)), .slice none 0 0]) ?_ 3 _ rfl; (with_reducible repeat (first | refine blk_drewN ?_ _ | refine blk_drew ?_ | refine blk_alloc ?_ _)); refine blk_put (cs := #[.int .i64 (wrap64 (bt a0 (ji11))), .int .i64 t223, .int .i64 0, .slice none 0 0]) ?_ 2 _ rfl; (with_reducible repeat (first | refine blk_drewN ?_ _ | refine blk_drew ?_ | refine blk_alloc ?_ _)); refine blk_put (cs := #[.int .i64 (wrap64 (bt a0 (ji11))), .int .i64 0, .int .i64 0, .slice none 0 0]) ?_ 1 _ rfl; (with_reducible repeat (first | refine blk_drewN ?_ _ | refine blk_drew ?_ | refine blk_alloc ?_ _)); refine blk_put (cs := #[.int .i64 0, .int .i64 0, .int .i64 0, .slice none 0 0]) ?_ 0 _ rfl; (with_reducible repeat (first | refine blk_drewN ?_ _ | refine blk_drew ?_ | refine blk_alloc ?_ _)); exact BK222.out) Try.underlying24 rfl (by kernel_rfl)) rfl ?_
                        exact ⟨_, by first | rfl | (simp [errW_none, errW_some] <;> rfl) | (simp only [← hji11, ← hji15, ← hji20]; first | rfl | (simp [errW_none, errW_some] <;> rfl)) | (simp [*, errW_none, errW_some] <;> rfl), by (with_reducible repeat (first | apply Kd.R_alloc | apply Kd.R_drewN | apply Kd.R_drew)); exact Kd.R_mono (Kd.R_far (p := ⟨gb222, 3, none⟩) (Kd.R_far (p := ⟨gb222, 2, none⟩) (Kd.R_far (p := ⟨gb222, 1, none⟩) (Kd.R_far (p := ⟨gb222, 0, none⟩) (Kd.R_types HO_225003.out BK222.out (by decide)) (fun _ hk => hk.2) (.int .i64 (wrap64 (bt a0 (ji11))))) (fun _ hk => hk.2) (.int .i64 t223)) (fun _ hk => hk.2) (.int .i64 (wrap64 (bt a0 a1)))) (fun _ hk => hk.2) (.slice Ao59 x225003_3.length co59)) (fun _ hk => trivial), by repeat (first | (with_reducible first | exact HB.out | apply below_alloc | apply pw_below_drewN | apply below_drew1 | refine below_set ?_ GE222.out | refine below_set ?_ GE224.out) | exact HB.out)⟩
                       ·rw [if_neg c56] at H
                        have c56b0 : (t229.toList == (a0.extract (a1 : Int).toNat ((wrap64 ((wrap64 (a1 + 9)) + (wrap64 (3 * (wrap64 (bt a0 (ji20))))))) : Int).toNat).toList) = false := beq_eq_false_iff_ne.mpr c56
                        have c56b1 : (t229.toList != (a0.extract (a1 : Int).toNat ((wrap64 ((wrap64 (a1 + 9)) + (wrap64 (3 * (wrap64 (bt a0 (ji20))))))) : Int).toNat).toList) = true := bne_iff_ne.mpr c56
                        simp only [Option.some.injEq, Prod.mk.injEq] at H
                        obtain ⟨rfl, rfl, rfl, rfl, rfl, rfl⟩ := H
                        have hnb63 := NB224_222.out
                        have hnc63 := NB222_224.out
                        have hcz64_0 : wr.cell? ⟨gb224, 0, none⟩ = some (.int .i64 (wrap64 (bt a0 (ji11)))) := (blk_cell BK224.out 0).trans rfl
                        have hcz64_1 : wr.cell? ⟨gb224, 1, none⟩ = some (.int .i64 t223) := (blk_cell BK224.out 1).trans rfl
                        have hcz64_2 : wr.cell? ⟨gb224, 2, none⟩ = some (.int .i64 (wrap64 (bt a0 a1))) := (blk_cell BK224.out 2).trans rfl
                        have hcz64_3 : wr.cell? ⟨gb224, 3, none⟩ = some (u225003) := (blk_cell BK224.out 3).trans rfl
                        have hfz64_0 := blk_frozen BK224.out 0
                        have hfz64_1 := blk_frozen BK224.out 1
                        have hfz64_2 := blk_frozen BK224.out 2
                        have hfz64_3 := blk_frozen BK224.out 3
                        obtain ⟨Ao65, co65, eo65⟩ := Kd.R_slice HO_225003.out
                        subst eo65
                        go_wp2_with (first | ((with_reducible refine gate_callee (f := 14) rfl ?_); refine goesL_ (some 89) rfl rfl Try.func14 (by kernel_rfl) rfl #[.agg #[.int .i64 (wrap64 (bt a0 (ji11))), .int .i64 t223, .int .i64 (wrap64 (bt a0 a1)), .slice Ao65 x225003_3.length co65]] rfl (by (try simp only [List.map_toArray, List.map_cons, List.map_nil]); first | done | (simp only [hji11]; rfl) | rfl | (simp only [List.length_drop, List.length_take]; rfl)) ?_; (with_reducible refine (watchwordref1_PutLsa.calls k3 (wrap64 (bt a0 (ji11))) t223 (wrap64 (bt a0 a1)) _ _ x225003_3 t229 t230 _ ?side1 ?side2 A51.out).mono ?_); (case side1 => repeat (first | exact (Kd.R_reads' HO_225003.out).2.2 | (with_reducible refine Kd.C_alloc ?_ _) | (with_reducible refine Kd.C_drewN ?_ _) | (with_reducible refine Kd.C_drew ?_))); (case side2 => exact (Kd.R_reads' HO_225003.out).2.1); rintro e w66 ⟨rfl, hb⟩; refine ⟨_, rfl, ?_⟩; have n0_ := Aside0.mk (Kd.R_below (by (with_reducible repeat (first | apply Kd.R_alloc | apply Kd.R_drewN | apply Kd.R_drew)); exact HO_225003.out) hb); have n1_ := Aside0.mk (blk_below (g := gb222) (o := .cells #[.int .i64 0, .int .i64 0, .int .i64 0, .slice none 0 0] 24 (0, 0)) (by (with_reducible repeat (first | refine blk_drewN ?_ _ | refine blk_drew ?_ | refine blk_alloc ?_ _)); exact BK222.out) hb); have n2_ := Aside0.mk (blk_below (g := gb224) (o := .cells #[.int .i64 (wrap64 (bt a0 (ji11))), .int .i64 t223, .int .i64 (wrap64 (bt a0 a1)), .slice Ao65 x225003_3.length co65] 24 (0, 0)) (by (with_reducible repeat (first | refine blk_drewN ?_ _ | refine blk_drew ?_ | refine blk_alloc ?_ _)); exact BK224.out) hb); have n3_ := Aside0.mk (below_step (by repeat (first | (with_reducible first | exact HB.out | apply below_alloc | apply pw_below_drewN | apply below_drew1 | refine below_set ?_ GE222.out | refine below_set ?_ GE224.out) | exact HB.out)) hb); clear HO_225003; clear BK222; clear BK224; clear HB; have HO_225003 := n0_; have BK222 := n1_; have BK224 := n2_; have HB := n3_; clear n0_ n1_ n2_ n3_; (try clear hb); (try clear hb2); (try clear hk); (try clear hi); have hcz67_0 : w66.cell? ⟨gb222, 0, none⟩ = some (.int .i64 0) := (blk_cell BK222.out 0).trans rfl; have hcz67_1 : w66.cell? ⟨gb222, 1, none⟩ = some (.int .i64 0) := (blk_cell BK222.out 1).trans rfl; have hcz67_2 : w66.cell? ⟨gb222, 2, none⟩ = some (.int .i64 0) := (blk_cell BK222.out 2).trans rfl; have hcz67_3 : w66.cell? ⟨gb222, 3, none⟩ = some (.slice none 0 0) := (blk_cell BK222.out 3).trans rfl; have hfz67_0 := blk_frozen BK222.out 0; have hfz67_1 := blk_frozen BK222.out 1; have hfz67_2 := blk_frozen BK222.out 2; have hfz67_3 := blk_frozen BK222.out 3))
                        refine bodyPost_ret (results_ctt rfl _ _ gb222 24 #[.int .i64 0, .int .i64 0, .int .i64 0, .slice none 0 0] (0, 0) _ rfl (by (with_reducible repeat (first | refine blk_drewN ?_ _ | refine blk_drew ?_ | refine blk_alloc ?_ _)); refine blk_put (cs := #[.int .i64 0, .int .i64 0, .int .i64 0, .slice none 0 0]) ?_ 3 _ rfl; (with_reducible repeat (first | refine blk_drewN ?_ _ | refine blk_drew ?_ | refine blk_alloc ?_ _)); refine blk_put (cs := #[.int .i64 0, .int .i64 0, .int .i64 0, .slice none 0 0]) ?_ 2 _ rfl; (with_reducible repeat (first | refine blk_drewN ?_ _ | refine blk_drew ?_ | refine blk_alloc ?_ _)); refine blk_put (cs := #[.int .i64 0, .int .i64 0, .int .i64 0, .slice none 0 0]) ?_ 1 _ rfl; (with_reducible repeat (first | refine blk_drewN ?_ _ | refine blk_drew ?_ | refine blk_alloc ?_ _)); refine blk_put (cs := #[.int .i64 0, .int .i64 0, .int .i64 0, .slice none 0 0]) ?_ 0 _ rfl; (with_reducible repeat (first | refine blk_drewN ?_ _ | refine blk_drew ?_ | refine blk_alloc ?_ _)); exact BK222.out) Try.underlying24 rfl (by kernel_rfl)) rfl ?_
                        exact ⟨_, by first | rfl | (simp [errW_none, errW_some] <;> rfl) | (simp only [← hji11, ← hji15, ← hji20]; first | rfl | (simp [errW_none, errW_some] <;> rfl)) | (simp [*, errW_none, errW_some] <;> rfl), by first | exact Kd.R_nil _ _ _ _ _ | exact Kd.N_nil _ _ _ _ _ | exact Kd.V_nil _ _ _ _ _ | exact Kd.Q_nil _ _ _ _ _ | exact Kd.S_nil _ _ _ _ _, by repeat (first | (with_reducible first | exact HB.out | apply below_alloc | apply pw_below_drewN | apply below_drew1 | refine below_set ?_ GE222.out | refine below_set ?_ GE224.out) | exact HB.out)⟩
                      ·rw [if_neg c55] at H
                       exact absurd H (by simp)
                     ·rw [if_neg c54] at H
                      exact absurd H (by simp)
                    ·rw [if_neg c53] at H
                     exact absurd H (by simp)
                   ·rw [if_neg c52] at H
                    have c52b0 : (t230 == 0) = false := beq_eq_false_iff_ne.mpr c52
                    have c52b1 : (t230 != 0) = true := bne_iff_ne.mpr c52
                    simp only [Option.some.injEq, Prod.mk.injEq] at H
                    obtain ⟨rfl, rfl, rfl, rfl, rfl, rfl⟩ := H
                    have hnb68 := NB224_222.out
                    have hnc68 := NB222_224.out
                    have hcz69_0 : wr.cell? ⟨gb224, 0, none⟩ = some (.int .i64 (wrap64 (bt a0 (ji11)))) := (blk_cell BK224.out 0).trans rfl
                    have hcz69_1 : wr.cell? ⟨gb224, 1, none⟩ = some (.int .i64 t223) := (blk_cell BK224.out 1).trans rfl
                    have hcz69_2 : wr.cell? ⟨gb224, 2, none⟩ = some (.int .i64 (wrap64 (bt a0 a1))) := (blk_cell BK224.out 2).trans rfl
                    have hcz69_3 : wr.cell? ⟨gb224, 3, none⟩ = some (u225003) := (blk_cell BK224.out 3).trans rfl
                    have hfz69_0 := blk_frozen BK224.out 0
                    have hfz69_1 := blk_frozen BK224.out 1
                    have hfz69_2 := blk_frozen BK224.out 2
                    have hfz69_3 := blk_frozen BK224.out 3
                    obtain ⟨Ao70, co70, eo70⟩ := Kd.R_slice HO_225003.out
                    subst eo70
                    go_wp2_with (first | ((with_reducible refine gate_callee (f := 14) rfl ?_); refine goesL_ (some 89) rfl rfl Try.func14 (by kernel_rfl) rfl #[.agg #[.int .i64 (wrap64 (bt a0 (ji11))), .int .i64 t223, .int .i64 (wrap64 (bt a0 a1)), .slice Ao70 x225003_3.length co70]] rfl (by (try simp only [List.map_toArray, List.map_cons, List.map_nil]); first | done | (simp only [hji11]; rfl) | rfl | (simp only [List.length_drop, List.length_take]; rfl)) ?_; (with_reducible refine (watchwordref1_PutLsa.calls k3 (wrap64 (bt a0 (ji11))) t223 (wrap64 (bt a0 a1)) _ _ x225003_3 t229 t230 _ ?side1 ?side2 A51.out).mono ?_); (case side1 => repeat (first | exact (Kd.R_reads' HO_225003.out).2.2 | (with_reducible refine Kd.C_alloc ?_ _) | (with_reducible refine Kd.C_drewN ?_ _) | (with_reducible refine Kd.C_drew ?_))); (case side2 => exact (Kd.R_reads' HO_225003.out).2.1); rintro e w71 ⟨rfl, hb⟩; refine ⟨_, rfl, ?_⟩; have n0_ := Aside0.mk (Kd.R_below (by (with_reducible repeat (first | apply Kd.R_alloc | apply Kd.R_drewN | apply Kd.R_drew)); exact HO_225003.out) hb); have n1_ := Aside0.mk (blk_below (g := gb222) (o := .cells #[.int .i64 0, .int .i64 0, .int .i64 0, .slice none 0 0] 24 (0, 0)) (by (with_reducible repeat (first | refine blk_drewN ?_ _ | refine blk_drew ?_ | refine blk_alloc ?_ _)); exact BK222.out) hb); have n2_ := Aside0.mk (blk_below (g := gb224) (o := .cells #[.int .i64 (wrap64 (bt a0 (ji11))), .int .i64 t223, .int .i64 (wrap64 (bt a0 a1)), .slice Ao70 x225003_3.length co70] 24 (0, 0)) (by (with_reducible repeat (first | refine blk_drewN ?_ _ | refine blk_drew ?_ | refine blk_alloc ?_ _)); exact BK224.out) hb); have n3_ := Aside0.mk (below_step (by repeat (first | (with_reducible first | exact HB.out | apply below_alloc | apply pw_below_drewN | apply below_drew1 | refine below_set ?_ GE222.out | refine below_set ?_ GE224.out) | exact HB.out)) hb); clear HO_225003; clear BK222; clear BK224; clear HB; have HO_225003 := n0_; have BK222 := n1_; have BK224 := n2_; have HB := n3_; clear n0_ n1_ n2_ n3_; (try clear hb); (try clear hb2); (try clear hk); (try clear hi); have hcz72_0 : w71.cell? ⟨gb222, 0, none⟩ = some (.int .i64 0) := (blk_cell BK222.out 0).trans rfl; have hcz72_1 : w71.cell? ⟨gb222, 1, none⟩ = some (.int .i64 0) := (blk_cell BK222.out 1).trans rfl; have hcz72_2 : w71.cell? ⟨gb222, 2, none⟩ = some (.int .i64 0) := (blk_cell BK222.out 2).trans rfl; have hcz72_3 : w71.cell? ⟨gb222, 3, none⟩ = some (.slice none 0 0) := (blk_cell BK222.out 3).trans rfl; have hfz72_0 := blk_frozen BK222.out 0; have hfz72_1 := blk_frozen BK222.out 1; have hfz72_2 := blk_frozen BK222.out 2; have hfz72_3 := blk_frozen BK222.out 3))
                    refine bodyPost_ret (results_ctt rfl _ _ gb222 24 #[.int .i64 0, .int .i64 0, .int .i64 0, .slice none 0 0] (0, 0) _ rfl (by (with_reducible repeat (first | refine blk_drewN ?_ _ | refine blk_drew ?_ | refine blk_alloc ?_ _)); refine blk_put (cs := #[.int .i64 0, .int .i64 0, .int .i64 0, .slice none 0 0]) ?_ 3 _ rfl; (with_reducible repeat (first | refine blk_drewN ?_ _ | refine blk_drew ?_ | refine blk_alloc ?_ _)); refine blk_put (cs := #[.int .i64 0, .int .i64 0, .int .i64 0, .slice none 0 0]) ?_ 2 _ rfl; (with_reducible repeat (first | refine blk_drewN ?_ _ | refine blk_drew ?_ | refine blk_alloc ?_ _)); refine blk_put (cs := #[.int .i64 0, .int .i64 0, .int .i64 0, .slice none 0 0]) ?_ 1 _ rfl; (with_reducible repeat (first | refine blk_drewN ?_ _ | refine blk_drew ?_ | refine blk_alloc ?_ _)); refine blk_put (cs := #[.int .i64 0, .int .i64 0, .int .i64 0, .slice none 0 0]) ?_ 0 _ rfl; (with_reducible repeat (first | refine blk_drewN ?_ _ | refine blk_drew ?_ | refine blk_alloc ?_ _)); exact BK222.out) Try.underlying24 rfl (by kernel_rfl)) rfl ?_
                    exact ⟨_, by first | rfl | (simp [errW_none, errW_some] <;> rfl) | (simp only [← hji11, ← hji15, ← hji20]; first | rfl | (simp [errW_none, errW_some] <;> rfl)) | (simp [*, errW_none, errW_some] <;> rfl), by first | exact Kd.R_nil _ _ _ _ _ | exact Kd.N_nil _ _ _ _ _ | exact Kd.V_nil _ _ _ _ _ | exact Kd.Q_nil _ _ _ _ _ | exact Kd.S_nil _ _ _ _ _, by repeat (first | (with_reducible first | exact HB.out | apply below_alloc | apply pw_below_drewN | apply below_drew1 | refine below_set ?_ GE222.out | refine below_set ?_ GE224.out) | exact HB.out)⟩
            ·rw [if_neg c22] at H
             exact absurd H (by simp)
           ·rw [if_neg c21] at H
            exact absurd H (by simp)
          ·rw [if_neg c18] at H
           exact absurd H (by simp)
         ·rw [if_neg c17] at H
          exact absurd H (by simp)
        ·rw [if_neg c16] at H
         exact absurd H (by simp)
       ·rw [if_neg c13] at H
        exact absurd H (by simp)
      ·rw [if_neg c12] at H
       exact absurd H (by simp)
     ·rw [if_neg c9] at H
      exact absurd H (by simp)
    ·rw [if_neg c8] at H
     exact absurd H (by simp)

end Go.Proofs.Ytmcajcomoegkdaa.Q10u
namespace Go.Proofs.Ytmcajcomoegkdaa.Q10u
open Go.RowKit Go.Proofs.YtmcajcomoegkdaaW.PrintWords Go.Proofs.YtmcajcomoegkdaaW.PrintLast Go.Proofs.YtmcajcomoegkdaaW.PrintMore
attribute [local go_sem] max2_int min2_int max_two min_two max_three min_three max_four min_four   -- for this text's walks alone
set_option linter.unusedVariables false
set_option linter.unusedSimpArgs false

attribute [local go_sem high] eqA49
/-! ### watchwordref9_GetUpdate: function 29 -/
mutual
def watchwordref9_GetUpdate.l0 : Nat → ByteArray → List (S24) → Int → Option ((List (S24)) × Int)
 | 0, _, _, _ => none
 | k + 1, x0, x4, x5 => if x0.toList = ([] : List UInt8) then (watchwordref9_GetUpdate.j1 k x0 x4 x5 false) else (if 0 < (x0.size : Int) then (watchwordref9_GetUpdate.j1 k x0 x4 x5 (decide ((x4.length : Int) < (wrap64 (bt x0 0))))) else (none))
def watchwordref9_GetUpdate.j1 : Nat → ByteArray → List (S24) → Int → Bool → Option ((List (S24)) × Int)
 | 0, _, _, _, _ => none
 | k + 1, x0, x4, x5, x18 => if x18 = true then ((watchwordref1_GetLsa.f k x0 x5).bind fun bt231 => (if bt231.2.2.2.2.2 = 0 then (if x4.length < 2932031007402 then (watchwordref9_GetUpdate.l0 k x0 (x4 ++ [(⟨bt231.1, bt231.2.1, bt231.2.2.1, bt231.2.2.2.1⟩ : S24)]) bt231.2.2.2.2.1) else (none)) else (some (([] : List (S24)), 1000)))) else (if x5 = (x0.size : Int) then ((watchwordref9_UpdateMay.f k x4).bind fun t243 => (if t243 = true then (some (x4, 0)) else (some (([] : List (S24)), 1000)))) else (some (([] : List (S24)), 1000)))
end
def watchwordref9_GetUpdate.f (k : Nat) (a0 : ByteArray) : Option ((List (S24)) × Int) := watchwordref9_GetUpdate.l0 k a0 ([] : List (S24)) 1
theorem watchwordref9_GetUpdate.mono_l : ∀ k, (∀ y0 y1 y2, LeO (watchwordref9_GetUpdate.l0 k y0 y1 y2) (watchwordref9_GetUpdate.l0 (k + 1) y0 y1 y2)) ∧ (∀ y0 y1 y2 y3, LeO (watchwordref9_GetUpdate.j1 k y0 y1 y2 y3) (watchwordref9_GetUpdate.j1 (k + 1) y0 y1 y2 y3))
 | 0 => ⟨fun _ _ _ r h => by simp [watchwordref9_GetUpdate.l0] at h, fun _ _ _ _ r h => by simp [watchwordref9_GetUpdate.j1] at h⟩
 | k + 1 => by
  obtain ⟨ih0, ih1⟩ := watchwordref9_GetUpdate.mono_l k
  refine ⟨?_, ?_⟩
  ·intro y0 y1 y2
   unfold watchwordref9_GetUpdate.l0
   repeat' first
   | (with_reducible exact ih0 _ _ _)
   | (with_reducible exact ih1 _ _ _ _)
   | (with_reducible exact watchwordref1_GetLsa.mono _ _ _)
   | (with_reducible exact watchwordref9_UpdateMay.mono _ _)
   | (with_reducible exact LeO.refl _)
   | (with_reducible exact LeO.none _)
   | (with_reducible refine LeO.ite ?_ ?_)
   | (with_reducible refine LeO.bind ?_ (fun _ => ?_))
   | exact ih0 _ _ _
   | exact ih1 _ _ _ _
   | exact watchwordref1_GetLsa.mono _ _ _
   | exact watchwordref9_UpdateMay.mono _ _
   | exact LeO.none _
   | refine LeO.ite ?_ ?_
   | refine LeO.bind ?_ (fun _ => ?_)
  ·intro y0 y1 y2 y3
   unfold watchwordref9_GetUpdate.j1
   repeat' first
   | (with_reducible exact ih0 _ _ _)
   | (with_reducible exact ih1 _ _ _ _)
   | (with_reducible exact watchwordref1_GetLsa.mono _ _ _)
   | (with_reducible exact watchwordref9_UpdateMay.mono _ _)
   | (with_reducible exact LeO.refl _)
   | (with_reducible exact LeO.none _)
   | (with_reducible refine LeO.ite ?_ ?_)
   | (with_reducible refine LeO.bind ?_ (fun _ => ?_))
   | exact ih0 _ _ _
   | exact ih1 _ _ _ _
   | exact watchwordref1_GetLsa.mono _ _ _
   | exact watchwordref9_UpdateMay.mono _ _
   | exact LeO.none _
   | refine LeO.ite ?_ ?_
   | refine LeO.bind ?_ (fun _ => ?_)
theorem watchwordref9_GetUpdate.mono : ∀ a0 k, LeO (watchwordref9_GetUpdate.f k a0) (watchwordref9_GetUpdate.f (k + 1) a0) := by
 intro a0 k
 obtain ⟨ih0, ih1⟩ := watchwordref9_GetUpdate.mono_l k
 unfold watchwordref9_GetUpdate.f
 repeat' first
   | (with_reducible exact ih0 _ _ _)
   | (with_reducible exact ih1 _ _ _ _)
   | (with_reducible exact watchwordref1_GetLsa.mono _ _ _)
   | (with_reducible exact watchwordref9_UpdateMay.mono _ _)
   | (with_reducible exact LeO.refl _)
   | (with_reducible exact LeO.none _)
   | (with_reducible refine LeO.ite ?_ ?_)
   | (with_reducible refine LeO.bind ?_ (fun _ => ?_))
   | exact ih0 _ _ _
   | exact ih1 _ _ _ _
   | exact watchwordref1_GetLsa.mono _ _ _
   | exact watchwordref9_UpdateMay.mono _ _
   | exact LeO.none _
   | refine LeO.ite ?_ ?_
   | refine LeO.bind ?_ (fun _ => ?_)
set_option maxHeartbeats 8000000 in
set_option maxRecDepth 100000 in
theorem watchwordref9_GetUpdate.calls (k : Nat) (a0 : ByteArray) (r1 : List (S24)) (r2 : Int) (w : World) (h : watchwordref9_GetUpdate.f k a0 = some (r1, r2)) :
  Calls Try.prog 29 #[.string a0] w fun e w' => ∃ v0_ : Value, e = .returned (.tuple #[v0_, .int .i64 r2]) ∧ Kd.S k24 24 w' w.heap.size (fun _ => True) v0_ r1 ∧ Below w.heap.size w w' := by
 have hu24 := Try.underlying24
 have HB := Aside0.mk (Below.refl w.heap.size w)
 have H : (watchwordref9_GetUpdate.l0 k a0 ([] : List (S24)) 1) = some (r1, r2) := h
 clear h
 have H' := Aside0.mk H
 clear H
 go_enter Try.func29, Try.ntmps29
 go_wp2
 go_loopg [4, 5] k (fun kq v4 v5 w' => ∃ (x4_1 : List (S24)) (x5_1 : Int), v5 = .int .i64 x5_1 ∧ Aside0 (watchwordref9_GetUpdate.l0 kq a0 x4_1 x5_1 = some (r1, r2)) ∧ Aside0 (kq ≤ k) ∧ Aside0 (Kd.S k24 24 w' w.heap.size (fun _ => True) v4 x4_1) ∧ Aside0 (Below w.heap.size w w'))
 case atStart => exact ⟨(([] : List (S24))), (1), (by first | rfl | (simp; done) | (simp [*]; done)), H', ⟨Nat.le_refl _⟩, ⟨by first | exact Kd.S_nil _ _ _ _ _ | exact Kd.N_nil _ _ _ _ _ | exact Kd.V_nil _ _ _ _ _ | exact Kd.Q_nil _ _ _ _ _ | exact Kd.R_nil _ _ _ _ _⟩, ⟨by repeat (first | (with_reducible first | exact HB.out | apply below_alloc | apply pw_below_drewN | apply below_drew1) | exact HB.out)⟩⟩
 case round =>
  clear H'
  obtain ⟨x4_1, x5_1, rfl, HA, HK1, HO_4, HB⟩ := hrel
  cases gk with
  | zero => exact absurd HA.out (by simp [watchwordref9_GetUpdate.l0])
  | succ k1 =>
   have H := HA.out
   clear HA
   simp only [watchwordref9_GetUpdate.l0] at H
   have HC2 := Aside0.mk H
   clear H
   go_upto_region 3 with (fail)
   go_cut [18] (fun v18 wc => ∃ (kq : Nat) (x18_1 : Bool), v18 = .bool x18_1 ∧ Aside0 (watchwordref9_GetUpdate.j1 kq a0 x4_1 x5_1 x18_1 = some (r1, r2)) ∧ Aside0 (kq ≤ k1) ∧ Aside0 (Kd.S k24 24 wc w.heap.size (fun _ => True) u4 x4_1) ∧ Aside0 (Below w.heap.size w wc))
   case first =>
    have H := HC2.out
    clear HC2
    by_cases c3 : a0.toList = ([] : List UInt8)
    ·rw [if_pos c3] at H
     have c3b0 : (a0.toList == ([] : List UInt8)) = true := beq_iff_eq.mpr c3
     have c3b1 : (a0.toList != ([] : List UInt8)) = false := bne_eq_false_iff_eq.mpr c3
     clear c3
     (first | rw [c3b0] | (simp only [i64_w, i32_w]; rw [c3b0]) | skip)
     have H' := Aside0.mk H
     clear H
     go_wp2
     go_meet
     case rel => exact ⟨_, (false), (by first | rfl | (simp; done) | (simp [*]; done)), H', ⟨by have := HK1.out; first | omega | exact Nat.le_refl _⟩, ⟨by (with_reducible repeat (first | apply Kd.S_alloc | apply Kd.S_drewN | apply Kd.S_drew)); exact HO_4.out⟩, ⟨by repeat (first | (with_reducible first | exact HB.out | apply below_alloc | apply pw_below_drewN | apply below_drew1) | exact HB.out)⟩⟩
    ·rw [if_neg c3] at H
     have c3b0 : (a0.toList == ([] : List UInt8)) = false := beq_eq_false_iff_ne.mpr c3
     have c3b1 : (a0.toList != ([] : List UInt8)) = true := bne_iff_ne.mpr c3
     (first | rw [c3b0] | (simp only [i64_w, i32_w]; rw [c3b0]) | skip)
     by_cases c4 : 0 < (a0.size : Int)
     ·rw [if_pos c4] at H
      have c4b0 : decide (0 < (a0.size : Int)) = true := decide_eq_true c4
      have c4b1 : decide (0 < a0.size) = true := decide_eq_true (by omega)
      clear c4
      have H' := Aside0.mk H
      clear H
      obtain ⟨Ao6, co6, eo6⟩ := Kd.S_slice HO_4.out
      subst eo6
      have p5 : 0 ≤ (0 : Int) := (by omega)
      have q5 : 0 < a0.size := (by have : (0 : Int) < (a0.size : Int) := of_decide_eq_true (by first | (with_reducible assumption) | assumption); omega)
      have hx5 : ∀ h : 0 < a0.size, ((a0[0]'h).toNat : Int) = bt a0 0 := bt_at a0 0
      clear p5
      have qi5 : (0 < (a0.size : Int)) = True := eq_true (of_decide_eq_true (by first | (with_reducible assumption) | assumption))
      replace q5 := eq_true q5
      go_wp2
      go_meet
      case rel => exact ⟨_, (decide ((x4_1.length : Int) < (wrap64 (bt a0 0)))), (by first | rfl | (simp; done) | (simp [*]; done)), H', ⟨by have := HK1.out; first | omega | exact Nat.le_refl _⟩, ⟨by (with_reducible repeat (first | apply Kd.S_alloc | apply Kd.S_drewN | apply Kd.S_drew)); exact HO_4.out⟩, ⟨by repeat (first | (with_reducible first | exact HB.out | apply below_alloc | apply pw_below_drewN | apply below_drew1) | exact HB.out)⟩⟩
     ·rw [if_neg c4] at H
      exact absurd H (by simp)
   case rest =>
    clear HC2
    try clear c2
    try clear p2
    try clear c3
    try clear c3b0
    try clear c3b1
    try clear c4
    try clear c4b0
    try clear c4b1
    try clear p5
    try clear q5
    try clear hx5
    try clear qi5
    try clear p6
    try clear p5
    try clear q5
    obtain ⟨kq, x18_1, rfl, HA, HJ1, HO_4, HB⟩ := hcut
    cases kq with
    | zero => exact absurd HA.out (by simp [watchwordref9_GetUpdate.j1])
    | succ kj1 =>
     have H := HA.out
     clear HA
     simp only [watchwordref9_GetUpdate.j1] at H
     by_cases c7 : x18_1 = true
     ·subst c7
      have H1 : ((watchwordref1_GetLsa.f kj1 a0 x5_1).bind fun bt231 => (if bt231.2.2.2.2.2 = 0 then (if x4_1.length < 2932031007402 then (watchwordref9_GetUpdate.l0 kj1 a0 (x4_1 ++ [(⟨bt231.1, bt231.2.1, bt231.2.2.1, bt231.2.2.2.1⟩ : S24)]) bt231.2.2.2.2.1) else (none)) else (some (([] : List (S24)), 1000)))) = some (r1, r2) := by rw [if_pos rfl] at H; exact H
      clear H
      have H := H1
      clear H1
      replace H := Option.bind_eq_some_iff.mp H
      obtain ⟨⟨t231, t232, t233, t234, t237, t238⟩, A80, H⟩ := H
      replace H : (if t238 = 0 then (if x4_1.length < 2932031007402 then (watchwordref9_GetUpdate.l0 kj1 a0 (x4_1 ++ [(⟨t231, t232, t233, t234⟩ : S24)]) t237) else (none)) else (some (([] : List (S24)), 1000))) = some (r1, r2) := H
      have A8 := Aside0.mk A80
      clear A80
      by_cases c9 : t238 = 0
      ·rw [if_pos c9] at H
       have c9b0 : (t238 == 0) = true := beq_iff_eq.mpr c9
       have c9b1 : (t238 != 0) = false := bne_eq_false_iff_eq.mpr c9
       clear c9
       by_cases c10 : x4_1.length < 2932031007402
       ·rw [if_pos c10] at H
        have LMc10 := Aside0.mk c10
        clear c10
        obtain ⟨y240, hy240⟩ : ∃ y_ : List (S24), y_ = (x4_1 ++ [(⟨t231, t232, t233, t234⟩ : S24)]) := ⟨_, rfl⟩
        replace H : (watchwordref9_GetUpdate.l0 kj1 a0 y240 t237) = some (r1, r2) := by first | (rw [hy240]; with_reducible exact H) | (have H2_ := (Option.bind_some _ _).symm.trans H; rw [hy240]; with_reducible exact H2_) | (have H2_ := (Option.bind_some _ _).symm.trans H; with_reducible exact H2_) | with_reducible exact H | (rw [hy240]; exact H) | exact H
        have Ny240 := Aside0.mk hy240
        clear hy240
        have H' := Aside0.mk H
        clear H
        go_wp2_with (first | ((with_reducible refine gate_callee (f := 16) rfl ?_); refine goesL_ (some 22) rfl rfl Try.func16 (by kernel_rfl) rfl #[.string a0, .int .i64 x5_1] rfl (by (try simp only [List.map_toArray, List.map_cons, List.map_nil]); first | done | rfl | (simp only [List.length_drop, List.length_take]; rfl)) ?_; (with_reducible refine (watchwordref1_GetLsa.calls kj1 a0 x5_1 t231 t232 t233 t234 t237 t238 _ A8.out).mono ?_); rintro e w11 ⟨v235, rfl, ho0, hb⟩; refine ⟨_, rfl, ?_⟩; have n0_ := Aside0.mk (Kd.S_elder' (by (with_reducible repeat (first | apply Kd.S_alloc | apply Kd.S_drewN | apply Kd.S_drew)); exact HO_4.out) (Kd.R_base ho0) hb); have n1_ := Aside0.mk (Kd.R_lower ho0 (below_size (by repeat (first | (with_reducible first | exact HB.out | apply below_alloc | apply pw_below_drewN | apply below_drew1) | exact HB.out)))); have n2_ := Aside0.mk (below_step (by repeat (first | (with_reducible first | exact HB.out | apply below_alloc | apply pw_below_drewN | apply below_drew1) | exact HB.out)) hb); clear HO_4; clear HB; have HO_4 := n0_; have HO236 := n1_; have HB := n2_; clear n0_ n1_ n2_; (try clear hb); (try clear hb2); (try clear hk); (try clear hi); (try clear ho0)) | ((with_reducible refine gate_dst (N := 6) rfl ?_); (try (refine gate_guard (by rfl) ?_; dsimp only)); refine box_event ?hg (N := 6) ?hd (cs := #[.int .i64 0, .int .i64 0, .int .i64 0, .slice none 0 0]) (t := 24) ?hr ?_; (case hd => rfl); (case hg => rfl); (case hr => first | (go_simp; done) | (go_simp; rfl)); intro gb239 hg w12 hbox hb; have n0_ := Aside0.mk (Kd.S_below (Kd.S_elderB (by (with_reducible repeat (first | apply Kd.S_alloc | apply Kd.S_drewN | apply Kd.S_drew)); exact HO_4.out) gb239 (Nat.le_of_eq hg.symm)) hb); have n1_ := Aside0.mk (Kd.R_below (by (with_reducible repeat (first | apply Kd.R_alloc | apply Kd.R_drewN | apply Kd.R_drew)); exact HO236.out) hb); have n2_ := Aside0.mk (below_step (by repeat (first | (with_reducible first | exact HB.out | apply below_alloc | apply pw_below_drewN | apply below_drew1) | exact HB.out)) hb); have n3_ := Aside0.mk (hbox); have n4_ := Aside0.mk ((by rw [hg]; exact (below_size (by repeat (first | (with_reducible first | exact HB.out | apply below_alloc | apply pw_below_drewN | apply below_drew1) | exact HB.out))) : w.heap.size ≤ gb239)); have n5_ := Aside0.mk ((by rw [hg]; exact (below_size (by repeat (first | (with_reducible first | exact HB.out | apply below_alloc | apply pw_below_drewN | apply below_drew1) | exact HB.out))) : w.heap.size ≤ gb239)); clear HO_4; clear HO236; clear HB; have HO_4 := n0_; have HO236 := n1_; have HB := n2_; have BK239 := n3_; have GW239 := n4_; have GE239 := n5_; clear n0_ n1_ n2_ n3_ n4_ n5_; clear hb hbox hg; have hcz13_0 : w12.cell? ⟨gb239, 0, none⟩ = some (.int .i64 0) := (blk_cell BK239.out 0).trans rfl; have hcz13_1 : w12.cell? ⟨gb239, 1, none⟩ = some (.int .i64 0) := (blk_cell BK239.out 1).trans rfl; have hcz13_2 : w12.cell? ⟨gb239, 2, none⟩ = some (.int .i64 0) := (blk_cell BK239.out 2).trans rfl; have hcz13_3 : w12.cell? ⟨gb239, 3, none⟩ = some (.slice none 0 0) := (blk_cell BK239.out 3).trans rfl; have hfz13_0 := blk_frozen BK239.out 0; have hfz13_1 := blk_frozen BK239.out 1; have hfz13_2 := blk_frozen BK239.out 2; have hfz13_3 := blk_frozen BK239.out 3; obtain ⟨Ao14, co14, eo14⟩ := Kd.R_slice HO236.out; subst eo14) | ((with_reducible refine gate_store (t := 24) (p := 6) rfl ?_); refine store_event (t := 24) (p := 6) (v := ?vo_w15) (w1 := ((((w12.setCell ⟨gb239, 0, none⟩ (.int .i64 t231)).setCell ⟨gb239, 1, none⟩ (.int .i64 t232)).setCell ⟨gb239, 2, none⟩ (.int .i64 t233)).setCell ⟨gb239, 3, none⟩ (.slice Ao14 t234.length co14))) ?hg ?ho ?hn ?hr ?_; (case ho => rfl); (case hg => rfl); (case hn => rfl); (case hr => first | (go_simp; done) | (go_simp; rfl)); intro w15 hw; have n0_ : Aside0 (Kd.S k24 24 w15 w.heap.size (fun k_ => some k_ ≠ (.slice Ao14 t234.length co14 : Value).ownBlock ∧ k_ ≠ gb239) u4 x4_1) := ⟨(by rw [hw]; exact (by (with_reducible repeat (first | apply Kd.S_alloc | apply Kd.S_drewN | apply Kd.S_drew)); exact Kd.S_mono (Kd.S_far (p := ⟨gb239, 3, none⟩) (Kd.S_far (p := ⟨gb239, 2, none⟩) (Kd.S_far (p := ⟨gb239, 1, none⟩) (Kd.S_far (p := ⟨gb239, 0, none⟩) (Kd.S_mono HO_4.out (fun k_ hk => (⟨hk, hk.2⟩ : _ ∧ k_ ≠ gb239))) (fun _ hk => hk.2) (.int .i64 t231)) (fun _ hk => hk.2) (.int .i64 t232)) (fun _ hk => hk.2) (.int .i64 t233)) (fun _ hk => hk.2) (.slice Ao14 t234.length co14)) (fun _ hk => ⟨hk.1.1.2, hk.1.2⟩)))⟩; have n1_ : Aside0 (Kd.R k49 49 w15 w.heap.size (fun _ => True) (.slice Ao14 t234.length co14) t234) := ⟨(by rw [hw]; exact (by (with_reducible repeat (first | apply Kd.R_alloc | apply Kd.R_drewN | apply Kd.R_drew)); exact Kd.R_mono (Kd.R_far (p := ⟨gb239, 3, none⟩) (Kd.R_far (p := ⟨gb239, 2, none⟩) (Kd.R_far (p := ⟨gb239, 1, none⟩) (Kd.R_far (p := ⟨gb239, 0, none⟩) (Kd.R_types HO236.out BK239.out (by decide)) (fun _ hk => hk.2) (.int .i64 t231)) (fun _ hk => hk.2) (.int .i64 t232)) (fun _ hk => hk.2) (.int .i64 t233)) (fun _ hk => hk.2) (.slice Ao14 t234.length co14)) (fun _ hk => trivial)))⟩; have n2_ : Aside0 (w15.heap[gb239]? = some (.cells #[.int .i64 t231, .int .i64 t232, .int .i64 t233, .slice Ao14 t234.length co14] 24 (0, 0))) := ⟨(by rw [hw]; exact (by (with_reducible repeat (first | refine blk_drewN ?_ _ | refine blk_drew ?_ | refine blk_alloc ?_ _)); refine blk_put (cs := #[.int .i64 t231, .int .i64 t232, .int .i64 t233, .slice none 0 0]) ?_ 3 _ rfl; (with_reducible repeat (first | refine blk_drewN ?_ _ | refine blk_drew ?_ | refine blk_alloc ?_ _)); refine blk_put (cs := #[.int .i64 t231, .int .i64 t232, .int .i64 0, .slice none 0 0]) ?_ 2 _ rfl; (with_reducible repeat (first | refine blk_drewN ?_ _ | refine blk_drew ?_ | refine blk_alloc ?_ _)); refine blk_put (cs := #[.int .i64 t231, .int .i64 0, .int .i64 0, .slice none 0 0]) ?_ 1 _ rfl; (with_reducible repeat (first | refine blk_drewN ?_ _ | refine blk_drew ?_ | refine blk_alloc ?_ _)); refine blk_put (cs := #[.int .i64 0, .int .i64 0, .int .i64 0, .slice none 0 0]) ?_ 0 _ rfl; (with_reducible repeat (first | refine blk_drewN ?_ _ | refine blk_drew ?_ | refine blk_alloc ?_ _)); exact BK239.out))⟩; have n3_ : Aside0 (Below w.heap.size w w15) := ⟨(by rw [hw]; exact (by repeat (first | (with_reducible first | exact HB.out | apply below_alloc | apply pw_below_drewN | apply below_drew1 | refine below_set ?_ GE239.out) | exact HB.out)))⟩; clear hw; clear HO_4; clear HO236; clear BK239; clear HB; have HO_4 := n0_; have HO236 := n1_; have BK239 := n2_; have HB := n3_; clear n0_ n1_ n2_ n3_; have hcz16_0 : w15.cell? ⟨gb239, 0, none⟩ = some (.int .i64 t231) := (blk_cell BK239.out 0).trans rfl; have hcz16_1 : w15.cell? ⟨gb239, 1, none⟩ = some (.int .i64 t232) := (blk_cell BK239.out 1).trans rfl; have hcz16_2 : w15.cell? ⟨gb239, 2, none⟩ = some (.int .i64 t233) := (blk_cell BK239.out 2).trans rfl; have hcz16_3 : w15.cell? ⟨gb239, 3, none⟩ = some (.slice Ao14 t234.length co14) := (blk_cell BK239.out 3).trans rfl; have hfz16_0 := blk_frozen BK239.out 0; have hfz16_1 := blk_frozen BK239.out 1; have hfz16_2 := blk_frozen BK239.out 2; have hfz16_3 := blk_frozen BK239.out 3) | ((with_reducible refine gate_builtin (b := .append) (xs := #[.tmp 28, .tmp 30]) rfl ?_); (try (refine gate_guard (by rfl) ?_; dsimp only)); at_builtin; refine Kd.S_append k24 (w0 := w) w.heap.size rfl (.tmp 28) (.tmp 30) 52 24 (.agg #[(.int .i64 0), (.int .i64 0), (.int .i64 0), (.slice none 0 0)]) 48 rfl Try.underlying52 info24 rfl (by decide) (by omega) u4 x4_1 (⟨t231, t232, t233, t234⟩ : S24) [.int .i64 t231, .int .i64 t232, .int .i64 t233, .slice Ao14 t234.length co14] (fun k_ => k_ ≠ gb239) (fun k_ => some k_ = (.slice Ao14 t234.length co14 : Value).ownBlock) rfl rfl ?aP (fun k_ hk_ => ((Kd.R_mono (ok' := fun k_ => ((fun k_ => k_ ≠ gb239)) k_ ∧ some k_ ≠ (u4 : Value).ownBlock) (Kd.R_types (Kd.R_apart' (HO236.out) (Kd.S_typed HO_4.out) (by decide)) BK239.out (by decide)) (fun k_ hk => ⟨hk.2, hk.1.2⟩))).1 k_ hk_.symm) ?aF ?aO ?aB ?aS ?aL ?_; (case aP => exact k24_mkM _ _ _ (⟨t231, t232, t233, t234⟩ : S24) (Kd.R_mono (Kd.R_tight rfl (Kd.R_mono (ok' := fun k_ => ((fun k_ => k_ ≠ gb239)) k_ ∧ some k_ ≠ (u4 : Value).ownBlock) (Kd.R_types (Kd.R_apart' (HO236.out) (Kd.S_typed HO_4.out) (by decide)) BK239.out (by decide)) (fun k_ hk => ⟨hk.2, hk.1.2⟩))) (fun _ h_ => h_))); (case aB => exact (by repeat (first | (with_reducible first | exact HB.out | apply below_alloc | apply pw_below_drewN | apply below_drew1 | refine below_set ?_ GE239.out) | exact HB.out))); (case aF => exact (fun k_ hk => Kd.freshB (g := gb239) (o := .cells #[.int .i64 t231, .int .i64 t232, .int .i64 t233, .slice Ao14 t234.length co14] 24 (0, 0)) (by (with_reducible repeat (first | refine blk_drewN ?_ _ | refine blk_drew ?_ | refine blk_alloc ?_ _)); exact BK239.out) k_ hk)); (case aO => exact (by (with_reducible repeat (first | apply Kd.S_alloc | apply Kd.S_drewN | apply Kd.S_drew)); exact Kd.S_mono HO_4.out (fun k_ hk => ⟨hk.2, fun e_ => hk.1 e_⟩))); (case aS => exact (below_size (by repeat (first | (with_reducible first | exact HB.out | apply below_alloc | apply pw_below_drewN | apply below_drew1 | refine below_set ?_ GE239.out) | exact HB.out)))); (case aL => have := LMc10.out; omega); intro v241 w17 ho hb hg hat; rw [← Ny240.out] at ho; have n0_ := Aside0.mk (blk_grown (g := gb239) (o := .cells #[.int .i64 t231, .int .i64 t232, .int .i64 t233, .slice Ao14 t234.length co14] 24 (0, 0)) (by (with_reducible repeat (first | refine blk_drewN ?_ _ | refine blk_drew ?_ | refine blk_alloc ?_ _)); exact BK239.out) hg (Kd.S_away HO_4.out (fun _ hk => hk.2))); have n1_ := Aside0.mk (hb); have n2_ := Aside0.mk (ho); clear BK239; clear HB; clear HO_4; clear HO236; have BK239 := n0_; have HB := n1_; have HO242 := n2_; clear n0_ n1_ n2_; clear ho hb hg hat))
        go_roundg kj1
        case measure => have := HK1.out; have := HJ1.out; omega
        case rel => exact ⟨(y240), (t237), (by first | rfl | (simp; done) | (simp [*]; done)), H', ⟨by have := HK1.out; have := HJ1.out; omega⟩, ⟨by (with_reducible repeat (first | apply Kd.S_alloc | apply Kd.S_drewN | apply Kd.S_drew)); exact Kd.S_mono HO242.out (fun _ hk => trivial)⟩, ⟨by repeat (first | (with_reducible first | exact HB.out | apply below_alloc | apply pw_below_drewN | apply below_drew1 | refine below_set ?_ GE239.out) | exact HB.out)⟩⟩
       ·rw [if_neg c10] at H
        exact absurd H (by simp)
      ·rw [if_neg c9] at H
       have c9b0 : (t238 == 0) = false := beq_eq_false_iff_ne.mpr c9
       have c9b1 : (t238 != 0) = true := bne_iff_ne.mpr c9
       simp only [Option.some.injEq, Prod.mk.injEq] at H
       obtain ⟨rfl, rfl⟩ := H
       go_wp2_with (first | ((with_reducible refine gate_callee (f := 16) rfl ?_); refine goesL_ (some 22) rfl rfl Try.func16 (by kernel_rfl) rfl #[.string a0, .int .i64 x5_1] rfl (by (try simp only [List.map_toArray, List.map_cons, List.map_nil]); first | done | rfl | (simp only [List.length_drop, List.length_take]; rfl)) ?_; (with_reducible refine (watchwordref1_GetLsa.calls kj1 a0 x5_1 t231 t232 t233 t234 t237 t238 _ A8.out).mono ?_); rintro e w18 ⟨v235, rfl, ho0, hb⟩; refine ⟨_, rfl, ?_⟩; have n0_ := Aside0.mk (Kd.S_elder' (by (with_reducible repeat (first | apply Kd.S_alloc | apply Kd.S_drewN | apply Kd.S_drew)); exact HO_4.out) (Kd.R_base ho0) hb); have n1_ := Aside0.mk (Kd.R_lower ho0 (below_size (by repeat (first | (with_reducible first | exact HB.out | apply below_alloc | apply pw_below_drewN | apply below_drew1) | exact HB.out)))); have n2_ := Aside0.mk (below_step (by repeat (first | (with_reducible first | exact HB.out | apply below_alloc | apply pw_below_drewN | apply below_drew1) | exact HB.out)) hb); clear HO_4; clear HB; have HO_4 := n0_; have HO236 := n1_; have HB := n2_; clear n0_ n1_ n2_; (try clear hb); (try clear hb2); (try clear hk); (try clear hi); (try clear ho0)) | ((with_reducible refine gate_dst (N := 6) rfl ?_); (try (refine gate_guard (by rfl) ?_; dsimp only)); refine box_event ?hg (N := 6) ?hd (cs := #[.int .i64 0, .int .i64 0, .int .i64 0, .slice none 0 0]) (t := 24) ?hr ?_; (case hd => rfl); (case hg => rfl); (case hr => first | (go_simp; done) | (go_simp; rfl)); intro gb239 hg w19 hbox hb; have n0_ := Aside0.mk (Kd.S_below (Kd.S_elderB (by (with_reducible repeat (first | apply Kd.S_alloc | apply Kd.S_drewN | apply Kd.S_drew)); exact HO_4.out) gb239 (Nat.le_of_eq hg.symm)) hb); have n1_ := Aside0.mk (Kd.R_below (by (with_reducible repeat (first | apply Kd.R_alloc | apply Kd.R_drewN | apply Kd.R_drew)); exact HO236.out) hb); have n2_ := Aside0.mk (below_step (by repeat (first | (with_reducible first | exact HB.out | apply below_alloc | apply pw_below_drewN | apply below_drew1) | exact HB.out)) hb); have n3_ := Aside0.mk (hbox); have n4_ := Aside0.mk ((by rw [hg]; exact (below_size (by repeat (first | (with_reducible first | exact HB.out | apply below_alloc | apply pw_below_drewN | apply below_drew1) | exact HB.out))) : w.heap.size ≤ gb239)); have n5_ := Aside0.mk ((by rw [hg]; exact (below_size (by repeat (first | (with_reducible first | exact HB.out | apply below_alloc | apply pw_below_drewN | apply below_drew1) | exact HB.out))) : w.heap.size ≤ gb239)); clear HO_4; clear HO236; clear HB; have HO_4 := n0_; have HO236 := n1_; have HB := n2_; have BK239 := n3_; have GW239 := n4_; have GE239 := n5_; clear n0_ n1_ n2_ n3_ n4_ n5_; clear hb hbox hg; have hcz20_0 : w19.cell? ⟨gb239, 0, none⟩ = some (.int .i64 0) := (blk_cell BK239.out 0).trans rfl; have hcz20_1 : w19.cell? ⟨gb239, 1, none⟩ = some (.int .i64 0) := (blk_cell BK239.out 1).trans rfl; have hcz20_2 : w19.cell? ⟨gb239, 2, none⟩ = some (.int .i64 0) := (blk_cell BK239.out 2).trans rfl; have hcz20_3 : w19.cell? ⟨gb239, 3, none⟩ = some (.slice none 0 0) := (blk_cell BK239.out 3).trans rfl; have hfz20_0 := blk_frozen BK239.out 0; have hfz20_1 := blk_frozen BK239.out 1; have hfz20_2 := blk_frozen BK239.out 2; have hfz20_3 := blk_frozen BK239.out 3; obtain ⟨Ao21, co21, eo21⟩ := Kd.R_slice HO236.out; subst eo21))
       go_ret2
       exact ⟨_, by first | rfl | (simp [errW_none, errW_some] <;> rfl) | (simp [*, errW_none, errW_some] <;> rfl), by first | exact Kd.S_nil _ _ _ _ _ | exact Kd.N_nil _ _ _ _ _ | exact Kd.V_nil _ _ _ _ _ | exact Kd.Q_nil _ _ _ _ _ | exact Kd.R_nil _ _ _ _ _, by repeat (first | (with_reducible first | exact HB.out | apply below_alloc | apply pw_below_drewN | apply below_drew1 | refine below_set ?_ GE239.out) | exact HB.out)⟩
     ·replace c7 := Bool.eq_false_iff.mpr c7
      subst c7
      have H1 : (if x5_1 = (a0.size : Int) then ((watchwordref9_UpdateMay.f kj1 x4_1).bind fun t243 => (if t243 = true then (some (x4_1, 0)) else (some (([] : List (S24)), 1000)))) else (some (([] : List (S24)), 1000))) = some (r1, r2) := by rw [if_neg (show ¬ (false = true) by decide)] at H; exact H
      clear H
      have H := H1
      clear H1
      by_cases c22 : x5_1 = (a0.size : Int)
      ·rw [if_pos c22] at H
       have c22b0 : (x5_1 == (a0.size : Int)) = true := beq_iff_eq.mpr c22
       have c22b1 : (x5_1 != (a0.size : Int)) = false := bne_eq_false_iff_eq.mpr c22
       clear c22
       replace H := Option.bind_eq_some_iff.mp H
       obtain ⟨t243, A230, H⟩ := H
       replace H : (if t243 = true then (some (x4_1, 0)) else (some (([] : List (S24)), 1000))) = some (r1, r2) := H
       have A23 := Aside0.mk A230
       clear A230
       by_cases c24 : t243 = true
       ·subst c24
        have H1 : (some (x4_1, 0)) = some (r1, r2) := by rw [if_pos rfl] at H; exact H
        clear H
        have H := H1
        clear H1
        simp only [Option.some.injEq, Prod.mk.injEq] at H
        obtain ⟨rfl, rfl⟩ := H
        obtain ⟨Ao25, co25, eo25⟩ := Kd.S_slice HO_4.out
        subst eo25
        go_wp2_with (first | (go_at_call 32; (with_reducible refine (watchwordref9_UpdateMay.calls kj1 _ _ x4_1 true _ ?side1 ?side2 A23.out).mono ?_); (case side1 => repeat (first | exact (Kd.S_reads' HO_4.out).2.2 | (with_reducible refine Kd.C_alloc ?_ _) | (with_reducible refine Kd.C_drewN ?_ _) | (with_reducible refine Kd.C_drew ?_))); (case side2 => exact (Kd.S_reads' HO_4.out).2.1); rintro e w26 ⟨rfl, hb⟩; have n0_ := Aside0.mk (Kd.S_below (by (with_reducible repeat (first | apply Kd.S_alloc | apply Kd.S_drewN | apply Kd.S_drew)); exact HO_4.out) hb); have n1_ := Aside0.mk (below_step (by repeat (first | (with_reducible first | exact HB.out | apply below_alloc | apply pw_below_drewN | apply below_drew1) | exact HB.out)) hb); clear HO_4; clear HB; have HO_4 := n0_; have HB := n1_; clear n0_ n1_; (try clear hb); (try clear hb2); (try clear hk); (try clear hi)))
        go_ret2
        exact ⟨_, by first | rfl | (simp [errW_none, errW_some] <;> rfl) | (simp [*, errW_none, errW_some] <;> rfl), by (with_reducible repeat (first | apply Kd.S_alloc | apply Kd.S_drewN | apply Kd.S_drew)); exact HO_4.out, by repeat (first | (with_reducible first | exact HB.out | apply below_alloc | apply pw_below_drewN | apply below_drew1) | exact HB.out)⟩
       ·replace c24 := Bool.eq_false_iff.mpr c24
        subst c24
        have H1 : (some (([] : List (S24)), 1000)) = some (r1, r2) := by rw [if_neg (show ¬ (false = true) by decide)] at H; exact H
        clear H
        have H := H1
        clear H1
        simp only [Option.some.injEq, Prod.mk.injEq] at H
        obtain ⟨rfl, rfl⟩ := H
        obtain ⟨Ao27, co27, eo27⟩ := Kd.S_slice HO_4.out
        subst eo27
        go_wp2_with (first | (go_at_call 32; (with_reducible refine (watchwordref9_UpdateMay.calls kj1 _ _ x4_1 false _ ?side1 ?side2 A23.out).mono ?_); (case side1 => repeat (first | exact (Kd.S_reads' HO_4.out).2.2 | (with_reducible refine Kd.C_alloc ?_ _) | (with_reducible refine Kd.C_drewN ?_ _) | (with_reducible refine Kd.C_drew ?_))); (case side2 => exact (Kd.S_reads' HO_4.out).2.1); rintro e w28 ⟨rfl, hb⟩; have n0_ := Aside0.mk (Kd.S_below (by (with_reducible repeat (first | apply Kd.S_alloc | apply Kd.S_drewN | apply Kd.S_drew)); exact HO_4.out) hb); have n1_ := Aside0.mk (below_step (by repeat (first | (with_reducible first | exact HB.out | apply below_alloc | apply pw_below_drewN | apply below_drew1) | exact HB.out)) hb); clear HO_4; clear HB; have HO_4 := n0_; have HB := n1_; clear n0_ n1_; (try clear hb); (try clear hb2); (try clear hk); (try clear hi)))
        go_ret2
        exact ⟨_, by first | rfl | (simp [errW_none, errW_some] <;> rfl) | (simp [*, errW_none, errW_some] <;> rfl), by first | exact Kd.S_nil _ _ _ _ _ | exact Kd.N_nil _ _ _ _ _ | exact Kd.V_nil _ _ _ _ _ | exact Kd.Q_nil _ _ _ _ _ | exact Kd.R_nil _ _ _ _ _, by repeat (first | (with_reducible first | exact HB.out | apply below_alloc | apply pw_below_drewN | apply below_drew1) | exact HB.out)⟩
      ·rw [if_neg c22] at H
       have c22b0 : (x5_1 == (a0.size : Int)) = false := beq_eq_false_iff_ne.mpr c22
       have c22b1 : (x5_1 != (a0.size : Int)) = true := bne_iff_ne.mpr c22
       simp only [Option.some.injEq, Prod.mk.injEq] at H
       obtain ⟨rfl, rfl⟩ := H
       go_wp2
       go_ret2
       exact ⟨_, by first | rfl | (simp [errW_none, errW_some] <;> rfl) | (simp [*, errW_none, errW_some] <;> rfl), by first | exact Kd.S_nil _ _ _ _ _ | exact Kd.N_nil _ _ _ _ _ | exact Kd.V_nil _ _ _ _ _ | exact Kd.Q_nil _ _ _ _ _ | exact Kd.R_nil _ _ _ _ _, by repeat (first | (with_reducible first | exact HB.out | apply below_alloc | apply pw_below_drewN | apply below_drew1) | exact HB.out)⟩

end Go.Proofs.Ytmcajcomoegkdaa.Q10u
namespace Go.Proofs.Ytmcajcomoegkdaa.Q10u
open Go.RowKit Go.Proofs.YtmcajcomoegkdaaW.PrintWords Go.Proofs.YtmcajcomoegkdaaW.PrintLast Go.Proofs.YtmcajcomoegkdaaW.PrintMore
attribute [local go_sem] max2_int min2_int max_two min_two max_three min_three max_four min_four   -- for this text's walks alone
set_option linter.unusedVariables false
set_option linter.unusedSimpArgs false

/-! ### watchwordlaw10_Updates: function 8 -/
def watchwordlaw10_Updates.j0 : Nat → List (S24) → List (S24) → List (S24) → Bool → Option (Bool)
 | 0, _, _, _, _ => none
 | k + 1, x0, x5, x10, x63 => if x63 = true then (some false) else ((watchwordlaw0_SameLsas.f k x10 x10).bind fun t303 => ((watchwordlaw0_SameLsas.f k x5 x0).bind fun t304 => (if t304 = true then ((watchwordlaw10_awake.f k).bind fun t305 => (some t305)) else (some false))))
def watchwordlaw10_Updates.g (k : Nat) (l0 : List (S24)) (a1 : ByteArray) (l2 : List (S24)) : Option (Bool) := (update_Put.f k l2).bind fun bt286 => ((watchwordref9_PutUpdate.f k l0).bind fun bt288 => ((update_Get.f k a1).bind fun bt290 => ((watchwordref9_GetUpdate.f k a1).bind fun bt294 => (if bt286.1.toList = bt288.1.toList then ((watchwordlaw0_Num.f bt286.2).bind fun t298 => (if t298 = bt288.2 then ((watchwordlaw0_SameLsas.f k bt290.1 bt294.1).bind fun t299 => (if t299 = true then ((watchwordlaw0_Num.f bt290.2).bind fun t300 => (if t300 = bt294.2 then ((update_May.f k l2).bind fun t301 => ((watchwordref9_UpdateMay.f k l0).bind fun t302 => (watchwordlaw10_Updates.j0 k l0 l2 bt290.1 (t301 != t302)))) else (watchwordlaw10_Updates.j0 k l0 l2 bt290.1 true))) else (watchwordlaw10_Updates.j0 k l0 l2 bt290.1 true))) else (watchwordlaw10_Updates.j0 k l0 l2 bt290.1 true))) else (watchwordlaw10_Updates.j0 k l0 l2 bt290.1 true)))))
theorem watchwordlaw10_Updates.mono_l : ∀ k, (∀ y0 y1 y2 y3, LeO (watchwordlaw10_Updates.j0 k y0 y1 y2 y3) (watchwordlaw10_Updates.j0 (k + 1) y0 y1 y2 y3))
 | 0 => fun _ _ _ _ r h => by simp [watchwordlaw10_Updates.j0] at h
 | k + 1 => by
  have ih0 := watchwordlaw10_Updates.mono_l k
  ·intro y0 y1 y2 y3
   unfold watchwordlaw10_Updates.j0
   repeat' first
   | (with_reducible exact ih0 _ _ _ _)
   | (with_reducible exact update_Get.mono _ _)
   | (with_reducible exact update_May.mono _ _)
   | (with_reducible exact update_Put.mono _ _)
   | (with_reducible exact watchwordlaw0_SameLsas.mono _ _ _)
   | (with_reducible exact watchwordlaw10_awake.mono _)
   | (with_reducible exact watchwordref9_GetUpdate.mono _ _)
   | (with_reducible exact watchwordref9_PutUpdate.mono _ _)
   | (with_reducible exact watchwordref9_UpdateMay.mono _ _)
   | (with_reducible exact LeO.refl _)
   | (with_reducible exact LeO.none _)
   | (with_reducible refine LeO.ite ?_ ?_)
   | (with_reducible refine LeO.bind ?_ (fun _ => ?_))
   | exact ih0 _ _ _ _
   | exact update_Get.mono _ _
   | exact update_May.mono _ _
   | exact update_Put.mono _ _
   | exact watchwordlaw0_SameLsas.mono _ _ _
   | exact watchwordlaw10_awake.mono _
   | exact watchwordref9_GetUpdate.mono _ _
   | exact watchwordref9_PutUpdate.mono _ _
   | exact watchwordref9_UpdateMay.mono _ _
   | exact LeO.none _
   | refine LeO.ite ?_ ?_
   | refine LeO.bind ?_ (fun _ => ?_)
theorem watchwordlaw10_Updates.mono : ∀ a0 a1 a2 k, LeO (watchwordlaw10_Updates.g k a0 a1 a2) (watchwordlaw10_Updates.g (k + 1) a0 a1 a2) := by
 intro a0 a1 a2 k
 have ih0 := watchwordlaw10_Updates.mono_l k
 unfold watchwordlaw10_Updates.g
 repeat' first
   | (with_reducible exact ih0 _ _ _ _)
   | (with_reducible exact update_Get.mono _ _)
   | (with_reducible exact update_May.mono _ _)
   | (with_reducible exact update_Put.mono _ _)
   | (with_reducible exact watchwordlaw0_SameLsas.mono _ _ _)
   | (with_reducible exact watchwordlaw10_awake.mono _)
   | (with_reducible exact watchwordref9_GetUpdate.mono _ _)
   | (with_reducible exact watchwordref9_PutUpdate.mono _ _)
   | (with_reducible exact watchwordref9_UpdateMay.mono _ _)
   | (with_reducible exact LeO.refl _)
   | (with_reducible exact LeO.none _)
   | (with_reducible refine LeO.ite ?_ ?_)
   | (with_reducible refine LeO.bind ?_ (fun _ => ?_))
   | exact ih0 _ _ _ _
   | exact update_Get.mono _ _
   | exact update_May.mono _ _
   | exact update_Put.mono _ _
   | exact watchwordlaw0_SameLsas.mono _ _ _
   | exact watchwordlaw10_awake.mono _
   | exact watchwordref9_GetUpdate.mono _ _
   | exact watchwordref9_PutUpdate.mono _ _
   | exact watchwordref9_UpdateMay.mono _ _
   | exact LeO.none _
   | refine LeO.ite ?_ ?_
   | refine LeO.bind ?_ (fun _ => ?_)
set_option maxHeartbeats 8000000 in
set_option maxRecDepth 100000 in
theorem watchwordlaw10_Updates.walk (k : Nat) (A0 : Option Addr) (c0 : Nat) (l0 : List (S24)) (a1 : ByteArray) (l2 : List (S24)) (r : Bool) (w : World) (hr0 : Kd.C k24 w A0 l0.length l0) (hc0 : l0.length ≤ c0) (kc : Nat) (hL : watchwordlaw0_CopyLsas.f kc l0 = some l2) (hG : ∀ x e_, update_Get.f k a1 = some (x, e_) → x.length ≤ 1000000 ∧ ∀ j : Nat, j < x.length → (rd_T24 x (j : Int)).f3.length ≤ 1000) (h : watchwordlaw10_Updates.g k l0 a1 l2 = some r) (hT : r = true) :
  Calls Try.prog 8 #[.slice A0 l0.length c0, .string a1] w fun e w' => e = .returned (.bool r) ∧ Below w.heap.size w w' := by
 have HL_ := Aside0.mk hL
 have HG_ := Aside0.mk hG
 clear hL hG
 have HR0 := Aside0.mk hr0
 have HC0 := Aside0.mk hc0
 clear hr0 hc0
 have HB := Aside0.mk (Below.refl w.heap.size w)
 have HT := Aside0.mk hT
 clear hT
 have H : ((update_Put.f k l2).bind fun bt286 => ((watchwordref9_PutUpdate.f k l0).bind fun bt288 => ((update_Get.f k a1).bind fun bt290 => ((watchwordref9_GetUpdate.f k a1).bind fun bt294 => (if bt286.1.toList = bt288.1.toList then ((watchwordlaw0_Num.f bt286.2).bind fun t298 => (if t298 = bt288.2 then ((watchwordlaw0_SameLsas.f k bt290.1 bt294.1).bind fun t299 => (if t299 = true then ((watchwordlaw0_Num.f bt290.2).bind fun t300 => (if t300 = bt294.2 then ((update_May.f k l2).bind fun t301 => ((watchwordref9_UpdateMay.f k l0).bind fun t302 => (watchwordlaw10_Updates.j0 k l0 l2 bt290.1 (t301 != t302)))) else (watchwordlaw10_Updates.j0 k l0 l2 bt290.1 true))) else (watchwordlaw10_Updates.j0 k l0 l2 bt290.1 true))) else (watchwordlaw10_Updates.j0 k l0 l2 bt290.1 true))) else (watchwordlaw10_Updates.j0 k l0 l2 bt290.1 true)))))) = some r := h
 clear h
 replace H := Option.bind_eq_some_iff.mp H
 obtain ⟨⟨t286, t287⟩, A40, H⟩ := H
 replace H : ((watchwordref9_PutUpdate.f k l0).bind fun bt288 => ((update_Get.f k a1).bind fun bt290 => ((watchwordref9_GetUpdate.f k a1).bind fun bt294 => (if t286.toList = bt288.1.toList then ((watchwordlaw0_Num.f t287).bind fun t298 => (if t298 = bt288.2 then ((watchwordlaw0_SameLsas.f k bt290.1 bt294.1).bind fun t299 => (if t299 = true then ((watchwordlaw0_Num.f bt290.2).bind fun t300 => (if t300 = bt294.2 then ((update_May.f k l2).bind fun t301 => ((watchwordref9_UpdateMay.f k l0).bind fun t302 => (watchwordlaw10_Updates.j0 k l0 l2 bt290.1 (t301 != t302)))) else (watchwordlaw10_Updates.j0 k l0 l2 bt290.1 true))) else (watchwordlaw10_Updates.j0 k l0 l2 bt290.1 true))) else (watchwordlaw10_Updates.j0 k l0 l2 bt290.1 true))) else (watchwordlaw10_Updates.j0 k l0 l2 bt290.1 true))))) = some r := H
 have A4 := Aside0.mk A40
 clear A40
 replace H := Option.bind_eq_some_iff.mp H
 obtain ⟨⟨t288, t289⟩, A50, H⟩ := H
 replace H : ((update_Get.f k a1).bind fun bt290 => ((watchwordref9_GetUpdate.f k a1).bind fun bt294 => (if t286.toList = t288.toList then ((watchwordlaw0_Num.f t287).bind fun t298 => (if t298 = t289 then ((watchwordlaw0_SameLsas.f k bt290.1 bt294.1).bind fun t299 => (if t299 = true then ((watchwordlaw0_Num.f bt290.2).bind fun t300 => (if t300 = bt294.2 then ((update_May.f k l2).bind fun t301 => ((watchwordref9_UpdateMay.f k l0).bind fun t302 => (watchwordlaw10_Updates.j0 k l0 l2 bt290.1 (t301 != t302)))) else (watchwordlaw10_Updates.j0 k l0 l2 bt290.1 true))) else (watchwordlaw10_Updates.j0 k l0 l2 bt290.1 true))) else (watchwordlaw10_Updates.j0 k l0 l2 bt290.1 true))) else (watchwordlaw10_Updates.j0 k l0 l2 bt290.1 true)))) = some r := H
 have A5 := Aside0.mk A50
 clear A50
 replace H := Option.bind_eq_some_iff.mp H
 obtain ⟨⟨t290, t291⟩, A60, H⟩ := H
 replace H : ((watchwordref9_GetUpdate.f k a1).bind fun bt294 => (if t286.toList = t288.toList then ((watchwordlaw0_Num.f t287).bind fun t298 => (if t298 = t289 then ((watchwordlaw0_SameLsas.f k t290 bt294.1).bind fun t299 => (if t299 = true then ((watchwordlaw0_Num.f t291).bind fun t300 => (if t300 = bt294.2 then ((update_May.f k l2).bind fun t301 => ((watchwordref9_UpdateMay.f k l0).bind fun t302 => (watchwordlaw10_Updates.j0 k l0 l2 t290 (t301 != t302)))) else (watchwordlaw10_Updates.j0 k l0 l2 t290 true))) else (watchwordlaw10_Updates.j0 k l0 l2 t290 true))) else (watchwordlaw10_Updates.j0 k l0 l2 t290 true))) else (watchwordlaw10_Updates.j0 k l0 l2 t290 true))) = some r := H
 have A6 := Aside0.mk A60
 clear A60
 replace H := Option.bind_eq_some_iff.mp H
 obtain ⟨⟨t294, t295⟩, A70, H⟩ := H
 replace H : (if t286.toList = t288.toList then ((watchwordlaw0_Num.f t287).bind fun t298 => (if t298 = t289 then ((watchwordlaw0_SameLsas.f k t290 t294).bind fun t299 => (if t299 = true then ((watchwordlaw0_Num.f t291).bind fun t300 => (if t300 = t295 then ((update_May.f k l2).bind fun t301 => ((watchwordref9_UpdateMay.f k l0).bind fun t302 => (watchwordlaw10_Updates.j0 k l0 l2 t290 (t301 != t302)))) else (watchwordlaw10_Updates.j0 k l0 l2 t290 true))) else (watchwordlaw10_Updates.j0 k l0 l2 t290 true))) else (watchwordlaw10_Updates.j0 k l0 l2 t290 true))) else (watchwordlaw10_Updates.j0 k l0 l2 t290 true)) = some r := H
 have A7 := Aside0.mk A70
 clear A70
 have HC8 := Aside0.mk H
 clear H
 go_enter Try.func8, Try.ntmps8
 have HGN_ := Aside0.mk (HG_.out t290 t291 A6.out).1
 have HGX_ := Aside0.mk (HG_.out t290 t291 A6.out).2
 go_upto_region 2 with (first | ((with_reducible refine gate_callee (f := 25) rfl ?_); refine goesL_ (some 15) rfl rfl Try.func25 (by kernel_rfl) rfl #[.slice A0 l0.length c0] rfl (by (try simp only [List.map_toArray, List.map_cons, List.map_nil]); first | done | rfl) ?_; (with_reducible refine (watchwordlaw0_CopyLsas.calls kc _ _ l0 l2 _ ?side1 ?side2 HL_.out).mono ?_); (case side1 => repeat (first | exact HR0.out | (with_reducible refine Kd.C_alloc ?_ _) | (with_reducible refine Kd.C_drewN ?_ _) | (with_reducible refine Kd.C_drew ?_))); (case side2 => exact HC0.out); rintro e w1 ⟨v2_, rfl, ho2, hb⟩; obtain ⟨A2, c2, ev2⟩ := Kd.S_slice ho2; subst ev2; refine ⟨_, rfl, ?_⟩; have HB0 := Aside0.mk (below_step (by repeat (first | (with_reducible first | exact HB.out | apply below_alloc | apply pw_below_drewN | apply below_drew1) | exact HB.out)) hb); have HR2 := Aside0.mk (Kd.S_reads' ho2).2.2; have HC2 := Aside0.mk (Kd.S_reads' ho2).2.1; clear hb ho2))
 have hr0_ := Kd.C_below HR0.out HB0.out
 clear HR0 HB
 have HR0 := Aside0.mk hr0_
 clear hr0_
 have HB := Aside0.mk (Below.refl w1.heap.size w1)
 go_upto_region 6 with (first | ((with_reducible refine gate_callee (f := 26) rfl ?_); refine goesL_ (some 18) rfl rfl Try.func26 (by kernel_rfl) rfl #[.slice A2 l2.length c2] rfl (by (try simp only [List.map_toArray, List.map_cons, List.map_nil]); first | done | rfl | (simp only [List.length_drop, List.length_take]; rfl)) ?_; (with_reducible refine (update_Put.calls k _ _ l2 t286 t287 _ ?side1 ?side2 A4.out).mono ?_); (case side1 => repeat (first | exact HR2.out | (with_reducible refine Kd.C_alloc ?_ _) | (with_reducible refine Kd.C_drewN ?_ _) | (with_reducible refine Kd.C_drew ?_))); (case side2 => exact HC2.out); rintro e w9 ⟨rfl, hb⟩; refine ⟨_, rfl, ?_⟩; have n0_ := Aside0.mk (below_step (by repeat (first | (with_reducible first | exact HB.out | apply below_alloc | apply pw_below_drewN | apply below_drew1) | exact HB.out)) hb); clear HB; have HB := n0_; clear n0_; (try clear hb); (try clear hb2); (try clear hk); (try clear hi)) | ((with_reducible refine gate_callee (f := 27) rfl ?_); refine goesL_ (some 23) rfl rfl Try.func27 (by kernel_rfl) rfl #[.slice A0 l0.length c0] rfl (by (try simp only [List.map_toArray, List.map_cons, List.map_nil]); first | done | rfl | (simp only [List.length_drop, List.length_take]; rfl)) ?_; (with_reducible refine (watchwordref9_PutUpdate.calls k _ _ l0 t288 t289 _ ?side1 ?side2 A5.out).mono ?_); (case side1 => repeat (first | exact (Kd.C_below HR0.out HB.out) | (with_reducible refine Kd.C_alloc ?_ _) | (with_reducible refine Kd.C_drewN ?_ _) | (with_reducible refine Kd.C_drew ?_))); (case side2 => exact HC0.out); rintro e w10 ⟨rfl, hb⟩; refine ⟨_, rfl, ?_⟩; have n0_ := Aside0.mk (below_step (by repeat (first | (with_reducible first | exact HB.out | apply below_alloc | apply pw_below_drewN | apply below_drew1) | exact HB.out)) hb); clear HB; have HB := n0_; clear n0_; (try clear hb); (try clear hb2); (try clear hk); (try clear hi)) | ((with_reducible refine gate_callee (f := 28) rfl ?_); refine goesL_ (some 28) rfl rfl Try.func28 (by kernel_rfl) rfl #[.string a1] rfl (by (try simp only [List.map_toArray, List.map_cons, List.map_nil]); first | done | rfl | (simp only [List.length_drop, List.length_take]; rfl)) ?_; (with_reducible refine (update_Get.calls k a1 t290 t291 _ A6.out).mono ?_); rintro e w11 ⟨v292, rfl, ho0, hb⟩; refine ⟨_, rfl, ?_⟩; have n0_ := Aside0.mk (Kd.S_lower ho0 (below_size (by repeat (first | (with_reducible first | exact HB.out | apply below_alloc | apply pw_below_drewN | apply below_drew1) | exact HB.out)))); have n1_ := Aside0.mk (below_step (by repeat (first | (with_reducible first | exact HB.out | apply below_alloc | apply pw_below_drewN | apply below_drew1) | exact HB.out)) hb); clear HB; have HO293 := n0_; have HB := n1_; clear n0_ n1_; (try clear hb); (try clear hb2); (try clear hk); (try clear hi); (try clear ho0)) | ((with_reducible refine gate_callee (f := 29) rfl ?_); refine goesL_ (some 33) rfl rfl Try.func29 (by kernel_rfl) rfl #[.string a1] rfl (by (try simp only [List.map_toArray, List.map_cons, List.map_nil]); first | done | rfl | (simp only [List.length_drop, List.length_take]; rfl)) ?_; (with_reducible refine (watchwordref9_GetUpdate.calls k a1 t294 t295 _ A7.out).mono ?_); rintro e w12 ⟨v296, rfl, ho0, hb⟩; refine ⟨_, rfl, ?_⟩; have n0_ := Aside0.mk (Kd.S_elder' (by (with_reducible repeat (first | apply Kd.S_alloc | apply Kd.S_drewN | apply Kd.S_drew)); exact HO293.out) (Kd.S_base ho0) hb); have n1_ := Aside0.mk (Kd.S_lower (Kd.S_new' ho0 (Kd.S_lt (by (with_reducible repeat (first | apply Kd.S_alloc | apply Kd.S_drewN | apply Kd.S_drew)); exact HO293.out))) (below_size (by repeat (first | (with_reducible first | exact HB.out | apply below_alloc | apply pw_below_drewN | apply below_drew1) | exact HB.out)))); have n2_ := Aside0.mk (below_step (by repeat (first | (with_reducible first | exact HB.out | apply below_alloc | apply pw_below_drewN | apply below_drew1) | exact HB.out)) hb); clear HO293; clear HB; have HO293 := n0_; have HO297 := n1_; have HB := n2_; clear n0_ n1_ n2_; (try clear hb); (try clear hb2); (try clear hk); (try clear hi); (try clear ho0)))
 (try simp only [Act.put, List.setIfInBounds_toArray, List.set_cons_zero, List.set_cons_succ])
 go_cut [63] (fun v63 wc => ∃ (kq : Nat) (x63_7 : Bool), v63 = .bool x63_7 ∧ Aside0 (watchwordlaw10_Updates.j0 kq l0 l2 t290 x63_7 = some r) ∧ Aside0 (kq ≤ k) ∧ Aside0 (Kd.S k24 24 wc w1.heap.size (fun _ => True) v292 t290) ∧ Aside0 (Below w1.heap.size w1 wc))
 case first =>
  have H := HC8.out
  clear HC8
  by_cases c13 : t286.toList = t288.toList
  ·rw [if_pos c13] at H
   have c13b0 : (t286.toList == t288.toList) = true := beq_iff_eq.mpr c13
   have c13b1 : (t286.toList != t288.toList) = false := bne_eq_false_iff_eq.mpr c13
   clear c13
   (first | rw [c13b0] | (simp only [i64_w, i32_w]; rw [c13b0]) | skip)
   replace H := Option.bind_eq_some_iff.mp H
   obtain ⟨t298, A140, H⟩ := H
   replace H : (if t298 = t289 then ((watchwordlaw0_SameLsas.f k t290 t294).bind fun t299 => (if t299 = true then ((watchwordlaw0_Num.f t291).bind fun t300 => (if t300 = t295 then ((update_May.f k l2).bind fun t301 => ((watchwordref9_UpdateMay.f k l0).bind fun t302 => (watchwordlaw10_Updates.j0 k l0 l2 t290 (t301 != t302)))) else (watchwordlaw10_Updates.j0 k l0 l2 t290 true))) else (watchwordlaw10_Updates.j0 k l0 l2 t290 true))) else (watchwordlaw10_Updates.j0 k l0 l2 t290 true)) = some r := H
   have A14 := Aside0.mk A140
   clear A140
   by_cases c15 : t298 = t289
   ·rw [if_pos c15] at H
    have c15b0 : (t298 == t289) = true := beq_iff_eq.mpr c15
    have c15b1 : (t298 != t289) = false := bne_eq_false_iff_eq.mpr c15
    clear c15
    replace H := Option.bind_eq_some_iff.mp H
    obtain ⟨t299, A160, H⟩ := H
    replace H : (if t299 = true then ((watchwordlaw0_Num.f t291).bind fun t300 => (if t300 = t295 then ((update_May.f k l2).bind fun t301 => ((watchwordref9_UpdateMay.f k l0).bind fun t302 => (watchwordlaw10_Updates.j0 k l0 l2 t290 (t301 != t302)))) else (watchwordlaw10_Updates.j0 k l0 l2 t290 true))) else (watchwordlaw10_Updates.j0 k l0 l2 t290 true)) = some r := H
    have A16 := Aside0.mk A160
    clear A160
    by_cases c17 : t299 = true
    ·subst c17
     have H1 : ((watchwordlaw0_Num.f t291).bind fun t300 => (if t300 = t295 then ((update_May.f k l2).bind fun t301 => ((watchwordref9_UpdateMay.f k l0).bind fun t302 => (watchwordlaw10_Updates.j0 k l0 l2 t290 (t301 != t302)))) else (watchwordlaw10_Updates.j0 k l0 l2 t290 true))) = some r := by rw [if_pos rfl] at H; exact H
     clear H
     have H := H1
     clear H1
     replace H := Option.bind_eq_some_iff.mp H
     obtain ⟨t300, A180, H⟩ := H
     replace H : (if t300 = t295 then ((update_May.f k l2).bind fun t301 => ((watchwordref9_UpdateMay.f k l0).bind fun t302 => (watchwordlaw10_Updates.j0 k l0 l2 t290 (t301 != t302)))) else (watchwordlaw10_Updates.j0 k l0 l2 t290 true)) = some r := H
     have A18 := Aside0.mk A180
     clear A180
     by_cases c19 : t300 = t295
     ·rw [if_pos c19] at H
      have c19b0 : (t300 == t295) = true := beq_iff_eq.mpr c19
      have c19b1 : (t300 != t295) = false := bne_eq_false_iff_eq.mpr c19
      clear c19
      replace H := Option.bind_eq_some_iff.mp H
      obtain ⟨t301, A200, H⟩ := H
      replace H : ((watchwordref9_UpdateMay.f k l0).bind fun t302 => (watchwordlaw10_Updates.j0 k l0 l2 t290 (t301 != t302))) = some r := H
      have A20 := Aside0.mk A200
      clear A200
      replace H := Option.bind_eq_some_iff.mp H
      obtain ⟨t302, A210, H⟩ := H
      replace H : (watchwordlaw10_Updates.j0 k l0 l2 t290 (t301 != t302)) = some r := H
      have A21 := Aside0.mk A210
      clear A210
      have H' := Aside0.mk H
      clear H
      go_wp2_with (first | (go_at_call 19; (with_reducible refine (watchwordlaw0_Num.calls t287 t298 _ A14.out).mono ?_); rintro e w' ⟨rfl, ⟨nd, rfl⟩⟩; obtain ⟨Ao22, co22, eo22⟩ := Kd.S_slice HO293.out; subst eo22; obtain ⟨Ao23, co23, eo23⟩ := Kd.S_slice HO297.out; subst eo23) | (go_at_call 30; (with_reducible refine (watchwordlaw0_SameLsas.calls k _ _ t290 _ _ t294 true _ ?side1 ?side2 ?side3 ?side4 A16.out).mono ?_); (case side1 => repeat (first | exact (Kd.S_reads' HO293.out).2.2 | (with_reducible refine Kd.C_alloc ?_ _) | (with_reducible refine Kd.C_drewN ?_ _) | (with_reducible refine Kd.C_drew ?_))); (case side2 => exact (Kd.S_reads' HO293.out).2.1); (case side3 => repeat (first | exact (Kd.S_reads' HO297.out).2.2 | (with_reducible refine Kd.C_alloc ?_ _) | (with_reducible refine Kd.C_drewN ?_ _) | (with_reducible refine Kd.C_drew ?_))); (case side4 => exact (Kd.S_reads' HO297.out).2.1); rintro e w24 ⟨rfl, hb⟩; have n0_ := Aside0.mk (Kd.S_below (by (with_reducible repeat (first | apply Kd.S_alloc | apply Kd.S_drewN | apply Kd.S_drew)); exact HO293.out) hb); have n1_ := Aside0.mk (Kd.S_below (by (with_reducible repeat (first | apply Kd.S_alloc | apply Kd.S_drewN | apply Kd.S_drew)); exact HO297.out) hb); have n2_ := Aside0.mk (below_step (by repeat (first | (with_reducible first | exact HB.out | apply below_alloc | apply pw_below_drewN | apply below_drew1) | exact HB.out)) hb); clear HO293; clear HO297; clear HB; have HO293 := n0_; have HO297 := n1_; have HB := n2_; clear n0_ n1_ n2_; (try clear hb); (try clear hb2); (try clear hk); (try clear hi)) | (go_at_call 19; (with_reducible refine (watchwordlaw0_Num.calls t291 t300 _ A18.out).mono ?_); rintro e w' ⟨rfl, ⟨nd, rfl⟩⟩) | (go_at_call 31; (with_reducible refine (update_May.calls k _ _ l2 t301 _ ?side1 ?side2 A20.out).mono ?_); (case side1 => repeat (first | exact (Kd.C_below HR2.out (by repeat (first | (with_reducible first | exact HB.out | apply below_alloc | apply pw_below_drewN | apply below_drew1) | exact HB.out))) | (with_reducible refine Kd.C_alloc ?_ _) | (with_reducible refine Kd.C_drewN ?_ _) | (with_reducible refine Kd.C_drew ?_))); (case side2 => exact HC2.out); rintro e w25 ⟨rfl, hb⟩; have n0_ := Aside0.mk (Kd.S_below (by (with_reducible repeat (first | apply Kd.S_alloc | apply Kd.S_drewN | apply Kd.S_drew)); exact HO293.out) hb); have n1_ := Aside0.mk (Kd.S_below (by (with_reducible repeat (first | apply Kd.S_alloc | apply Kd.S_drewN | apply Kd.S_drew)); exact HO297.out) hb); have n2_ := Aside0.mk (below_step (by repeat (first | (with_reducible first | exact HB.out | apply below_alloc | apply pw_below_drewN | apply below_drew1) | exact HB.out)) hb); clear HO293; clear HO297; clear HB; have HO293 := n0_; have HO297 := n1_; have HB := n2_; clear n0_ n1_ n2_; (try clear hb); (try clear hb2); (try clear hk); (try clear hi)) | (go_at_call 32; (with_reducible refine (watchwordref9_UpdateMay.calls k _ _ l0 t302 _ ?side1 ?side2 A21.out).mono ?_); (case side1 => repeat (first | exact (Kd.C_below HR0.out HB.out) | (with_reducible refine Kd.C_alloc ?_ _) | (with_reducible refine Kd.C_drewN ?_ _) | (with_reducible refine Kd.C_drew ?_))); (case side2 => exact HC0.out); rintro e w26 ⟨rfl, hb⟩; have n0_ := Aside0.mk (Kd.S_below (by (with_reducible repeat (first | apply Kd.S_alloc | apply Kd.S_drewN | apply Kd.S_drew)); exact HO293.out) hb); have n1_ := Aside0.mk (Kd.S_below (by (with_reducible repeat (first | apply Kd.S_alloc | apply Kd.S_drewN | apply Kd.S_drew)); exact HO297.out) hb); have n2_ := Aside0.mk (below_step (by repeat (first | (with_reducible first | exact HB.out | apply below_alloc | apply pw_below_drewN | apply below_drew1) | exact HB.out)) hb); clear HO293; clear HO297; clear HB; have HO293 := n0_; have HO297 := n1_; have HB := n2_; clear n0_ n1_ n2_; (try clear hb); (try clear hb2); (try clear hk); (try clear hi)))
      go_meet
      case rel => exact ⟨_, ((t301 != t302)), (by first | rfl | (simp; done) | (simp [*]; done)), H', ⟨by first | omega | exact Nat.le_refl _⟩, ⟨by (with_reducible repeat (first | apply Kd.S_alloc | apply Kd.S_drewN | apply Kd.S_drew)); exact Kd.S_mono HO293.out (fun _ hk => trivial)⟩, ⟨by repeat (first | (with_reducible first | exact HB.out | apply below_alloc | apply pw_below_drewN | apply below_drew1) | exact HB.out)⟩⟩
     ·rw [if_neg c19] at H
      have c19b0 : (t300 == t295) = false := beq_eq_false_iff_ne.mpr c19
      have c19b1 : (t300 != t295) = true := bne_iff_ne.mpr c19
      exact absurd H (fun h_ => (by
       have hd_ : ∀ k_, watchwordlaw10_Updates.j0 k_ l0 l2 t290 true = some r → False := by
        intro k_ h_
        cases k_ with
        | zero => exact absurd h_ (by simp [watchwordlaw10_Updates.j0])
        | succ k_ =>
         simp only [watchwordlaw10_Updates.j0, if_true] at h_
         exact absurd (Option.some.inj h_) (by rw [HT.out]; decide)
       exact hd_ _ h_))
    ·replace c17 := Bool.eq_false_iff.mpr c17
     subst c17
     have H1 : (watchwordlaw10_Updates.j0 k l0 l2 t290 true) = some r := by rw [if_neg (show ¬ (false = true) by decide)] at H; exact H
     clear H
     have H := H1
     clear H1
     exact absurd H (fun h_ => (by
      have hd_ : ∀ k_, watchwordlaw10_Updates.j0 k_ l0 l2 t290 true = some r → False := by
       intro k_ h_
       cases k_ with
       | zero => exact absurd h_ (by simp [watchwordlaw10_Updates.j0])
       | succ k_ =>
        simp only [watchwordlaw10_Updates.j0, if_true] at h_
        exact absurd (Option.some.inj h_) (by rw [HT.out]; decide)
      exact hd_ _ h_))
   ·rw [if_neg c15] at H
    have c15b0 : (t298 == t289) = false := beq_eq_false_iff_ne.mpr c15
    have c15b1 : (t298 != t289) = true := bne_iff_ne.mpr c15
    exact absurd H (fun h_ => (by
     have hd_ : ∀ k_, watchwordlaw10_Updates.j0 k_ l0 l2 t290 true = some r → False := by
      intro k_ h_
      cases k_ with
      | zero => exact absurd h_ (by simp [watchwordlaw10_Updates.j0])
      | succ k_ =>
       simp only [watchwordlaw10_Updates.j0, if_true] at h_
       exact absurd (Option.some.inj h_) (by rw [HT.out]; decide)
     exact hd_ _ h_))
  ·rw [if_neg c13] at H
   have c13b0 : (t286.toList == t288.toList) = false := beq_eq_false_iff_ne.mpr c13
   have c13b1 : (t286.toList != t288.toList) = true := bne_iff_ne.mpr c13
   (first | rw [c13b0] | (simp only [i64_w, i32_w]; rw [c13b0]) | skip)
   exact absurd H (fun h_ => (by
    have hd_ : ∀ k_, watchwordlaw10_Updates.j0 k_ l0 l2 t290 true = some r → False := by
     intro k_ h_
     cases k_ with
     | zero => exact absurd h_ (by simp [watchwordlaw10_Updates.j0])
     | succ k_ =>
      simp only [watchwordlaw10_Updates.j0, if_true] at h_
      exact absurd (Option.some.inj h_) (by rw [HT.out]; decide)
    exact hd_ _ h_))
 case rest =>
  clear HC8
  try clear c1
  try clear c2
  try clear p2
  try clear c8
  try clear c13
  try clear c13b0
  try clear c13b1
  try clear c15
  try clear c15b0
  try clear c15b1
  try clear c17
  try clear c19
  try clear c19b0
  try clear c19b1
  try clear c26
  obtain ⟨kq, x63_7, rfl, HA, HJ7, HO_10, HB⟩ := hcut
  cases kq with
  | zero => exact absurd HA.out (by simp [watchwordlaw10_Updates.j0])
  | succ kj7 =>
   have H := HA.out
   clear HA
   simp only [watchwordlaw10_Updates.j0] at H
   by_cases c27 : x63_7 = true
   ·subst c27
    have H1 : (some false) = some r := by rw [if_pos rfl] at H; exact H
    clear H
    have H := H1
    clear H1
    exact absurd (Option.some.inj H) (by rw [HT.out]; decide)
   ·replace c27 := Bool.eq_false_iff.mpr c27
    subst c27
    have H1 : ((watchwordlaw0_SameLsas.f kj7 t290 t290).bind fun t303 => ((watchwordlaw0_SameLsas.f kj7 l2 l0).bind fun t304 => (if t304 = true then ((watchwordlaw10_awake.f kj7).bind fun t305 => (some t305)) else (some false)))) = some r := by rw [if_neg (show ¬ (false = true) by decide)] at H; exact H
    clear H
    have H := H1
    clear H1
    replace H := Option.bind_eq_some_iff.mp H
    obtain ⟨t303, A280, H⟩ := H
    replace H : ((watchwordlaw0_SameLsas.f kj7 l2 l0).bind fun t304 => (if t304 = true then ((watchwordlaw10_awake.f kj7).bind fun t305 => (some t305)) else (some false))) = some r := H
    have A28 := Aside0.mk A280
    clear A280
    replace H := Option.bind_eq_some_iff.mp H
    obtain ⟨t304, A290, H⟩ := H
    replace H : (if t304 = true then ((watchwordlaw10_awake.f kj7).bind fun t305 => (some t305)) else (some false)) = some r := H
    have A29 := Aside0.mk A290
    clear A290
    by_cases c30 : t304 = true
    ·subst c30
     have H1 : ((watchwordlaw10_awake.f kj7).bind fun t305 => (some t305)) = some r := by rw [if_pos rfl] at H; exact H
     clear H
     have H := H1
     clear H1
     replace H := Option.bind_eq_some_iff.mp H
     obtain ⟨t305, A310, H⟩ := H
     replace H : (some t305) = some r := H
     have A31 := Aside0.mk A310
     clear A310
     obtain rfl := Option.some.inj H
     obtain ⟨Ao32, co32, eo32⟩ := Kd.S_slice HO_10.out
     subst eo32
     go_wp2_with (first | ((with_reducible refine gate_callee (f := 33) rfl ?_); refine goesL_ (some 65) rfl rfl Try.func33 (by kernel_rfl) rfl #[.slice Ao32 t290.length co32] rfl (by (try simp only [List.map_toArray, List.map_cons, List.map_nil]); first | done | rfl) ?_; (with_reducible refine (watchwordlaw0_SpoilLsas.spoilt (.slice Ao32 t290.length co32) t290 w1 _ ?side1 ?side2 HGN_.out HGX_.out).mono ?_); (case side1 => exact (by repeat (first | (with_reducible first | exact HB.out | apply below_alloc | apply pw_below_drewN | apply below_drew1) | exact HB.out))); (case side2 => exact (by (with_reducible repeat (first | apply Kd.S_alloc | apply Kd.S_drewN | apply Kd.S_drew)); exact HO_10.out)); rintro e w33 ⟨rfl, ⟨ys_, ho_⟩, hb⟩; refine ⟨_, rfl, ?_⟩; have n0_ := Aside0.mk ho_; have n1_ := Aside0.mk hb; clear HO_10; clear HB; have HO_10 := n0_; have HB := n1_; clear n0_ n1_; (try clear hb); (try clear ho_)) | ((with_reducible refine gate_callee (f := 30) rfl ?_); refine goesL_ (some 68) rfl rfl Try.func30 (by kernel_rfl) rfl #[.slice A2 l2.length c2, .slice A0 l0.length c0] rfl (by (try simp only [List.map_toArray, List.map_cons, List.map_nil]); first | done | rfl | (simp only [List.length_drop, List.length_take]; rfl)) ?_; (with_reducible refine (watchwordlaw0_SameLsas.calls kj7 _ _ l2 _ _ l0 true _ ?side1 ?side2 ?side3 ?side4 A29.out).mono ?_); (case side1 => repeat (first | exact (Kd.C_below HR2.out HB.out) | (with_reducible refine Kd.C_alloc ?_ _) | (with_reducible refine Kd.C_drewN ?_ _) | (with_reducible refine Kd.C_drew ?_))); (case side2 => exact HC2.out); (case side3 => repeat (first | exact (Kd.C_below HR0.out HB.out) | (with_reducible refine Kd.C_alloc ?_ _) | (with_reducible refine Kd.C_drewN ?_ _) | (with_reducible refine Kd.C_drew ?_))); (case side4 => exact HC0.out); rintro e w34 ⟨rfl, hb⟩; refine ⟨_, rfl, ?_⟩; have n0_ := Aside0.mk (Kd.S_below (by (with_reducible repeat (first | apply Kd.S_alloc | apply Kd.S_drewN | apply Kd.S_drew)); exact HO_10.out) hb); have n1_ := Aside0.mk (below_step (by repeat (first | (with_reducible first | exact HB.out | apply below_alloc | apply pw_below_drewN | apply below_drew1) | exact HB.out)) hb); clear HO_10; clear HB; have HO_10 := n0_; have HB := n1_; clear n0_ n1_; (try clear hb); (try clear hb2); (try clear hk); (try clear hi)) | (go_at_call 34; (with_reducible refine (watchwordlaw10_awake.calls kj7  t305 _ A31.out (by first | rfl | exact HT.out)).mono ?_); rintro e w35 ⟨rfl, hb⟩; have n0_ := Aside0.mk (Kd.S_below (by (with_reducible repeat (first | apply Kd.S_alloc | apply Kd.S_drewN | apply Kd.S_drew)); exact HO_10.out) hb); have n1_ := Aside0.mk (below_step (by repeat (first | (with_reducible first | exact HB.out | apply below_alloc | apply pw_below_drewN | apply below_drew1) | exact HB.out)) hb); clear HO_10; clear HB; have HO_10 := n0_; have HB := n1_; clear n0_ n1_; (try clear hb); (try clear hb2); (try clear hk); (try clear hi)))
     go_ret
     exact ⟨by first | rfl | (simp [errW_none, errW_some] <;> rfl) | (simp [*, errW_none, errW_some] <;> rfl), below_step HB0.out (by repeat (first | (with_reducible first | exact HB.out | apply below_alloc | apply pw_below_drewN | apply below_drew1) | exact HB.out))⟩
    ·replace c30 := Bool.eq_false_iff.mpr c30
     subst c30
     have H1 : (some false) = some r := by rw [if_neg (show ¬ (false = true) by decide)] at H; exact H
     clear H
     have H := H1
     clear H1
     exact absurd (Option.some.inj H) (by rw [HT.out]; decide)

/-- What the law comes to. -/
def watchwordlaw10_Updates.f (k : Nat) (l0 : List (S24)) (a1 : ByteArray) : Option Bool := (update_Get.f k a1).bind fun bt => if bt.1.length ≤ 1000000 ∧ ∀ y ∈ bt.1, y.f3.length ≤ 1000 then (watchwordlaw0_CopyLsas.f k l0).bind fun l2 => watchwordlaw10_Updates.g k l0 a1 l2 else none
theorem watchwordlaw10_Updates.calls (k : Nat) (A0 : Option Addr) (c0 : Nat) (l0 : List (S24)) (a1 : ByteArray) (r : Bool) (w : World) (hr0 : Kd.C k24 w A0 l0.length l0) (hc0 : l0.length ≤ c0) (h : watchwordlaw10_Updates.f k l0 a1 = some r) (hT : r = true) :
    Calls Try.prog 8 #[.slice A0 l0.length c0, .string a1] w fun e w' => e = .returned (.bool r) ∧ Below w.heap.size w w' := by
  obtain ⟨bt, hb, h⟩ := Option.bind_eq_some_iff.mp h
  by_cases hc : bt.1.length ≤ 1000000 ∧ ∀ y ∈ bt.1, y.f3.length ≤ 1000
  · rw [if_pos hc] at h
    obtain ⟨l2, h1, h2⟩ := Option.bind_eq_some_iff.mp h
    refine watchwordlaw10_Updates.walk k A0 c0 l0 a1 l2 r w hr0 hc0 k h1 (fun x e_ hx => ?_) h2 hT
    rw [hb] at hx
    obtain rfl := Option.some.inj hx
    refine ⟨hc.1, fun j hj => ?_⟩
    have : rd_T24 x (j : Int) = x[j] := by unfold rd_T24; rw [Int.toNat_natCast, List.getD_eq_getElem?_getD, List.getElem?_eq_getElem hj]; rfl
    rw [this]
    exact hc.2 _ (List.getElem_mem hj)
  · rw [if_neg hc] at h; cases h

end Go.Proofs.Ytmcajcomoegkdaa.Q10u
namespace Go.Proofs.Ytmcajcomoegkdaa.L10u
open Go.RowKit Go.Proofs.YtmcajcomoegkdaaW.PrintWords Go.Proofs.YtmcajcomoegkdaaW.PrintLast Go.Proofs.YtmcajcomoegkdaaW.PrintMore Go.Proofs.Ytmcajcomoegkdaa.Base Go.Proofs.Ytmcajcomoegkdaa.Q10u
set_option linter.unusedVariables false
set_option linter.unusedSimpArgs false
/-! ### lsa: One, Two, Four, Number -/
theorem lsa_One_f (x : Int) : lsa_One.f x = some (strOfNums (e1 x)) := rfl
theorem lsa_Two_f (x : Int) : lsa_Two.f x = some (strOfNums (e2 x)) := rfl
theorem lsa_Four_f (x : Int) : lsa_Four.f x = some (strOfNums (e4 x)) := by
  simp only [lsa_Four.f, lsa_Two_f, Option.bind_some, strOf_append, strOf_size, e2_len]
  rw [if_pos (by decide)]
  have h1 : x / 65536 / 256 = x / 16777216 := by omega
  simp only [e2, e4, List.cons_append, List.nil_append, h1]
theorem lsa_Number_step {acc : Int} {s : ByteArray} {i k d : Nat} (hd : i + (d + 1) = s.size) (hi : i ≤ 6) (h0 : 0 ≤ acc) (h1 : acc < lim i) :
    lsa_Number.l0 (k + 1) s acc (s.size : Int) (i : Int) = lsa_Number.l0 k s (acc * 256 + (B s).getD i 0) (s.size : Int) ((i + 1 : Nat) : Int) := by
  have hb : bt s (i : Int) = (B s).getD i 0 := by rw [bt_B, Int.toNat_natCast]
  have hr := byt_getD (B_byt s) i
  have hp : lim i ≤ 281474976710656 := lim_le6 hi
  have h2 : wrap64 (acc * 256) = acc * 256 := wrap_id (by omega) (by omega)
  have h3 : wrap64 ((B s).getD i 0) = (B s).getD i 0 := wrap_id (by omega) (by omega)
  have h4 : wrap64 ((i : Int) + 1) = ((i + 1 : Nat) : Int) := by rw [wrap_id (by omega) (by omega)]; omega
  have h5 : Go.bits .or .i64 (acc * 256) ((B s).getD i 0) = acc * 256 + (B s).getD i 0 := or_byte (by omega) (by omega) (by omega) hr.1 hr.2
  simp only [lsa_Number.l0]
  rw [if_pos (by omega), if_pos (by omega), if_pos (by omega), hb, h2, h3, h4, h5]
theorem lsa_Number_l {s : ByteArray} (hs : s.size ≤ 7) : ∀ (d k i : Nat) (acc : Int), i + d = s.size → d < k → 0 ≤ acc → acc < lim i →
    lsa_Number.l0 k s acc (s.size : Int) (i : Int) = some (((B s).drop i).foldl (fun a b => a * 256 + b) acc) := by
  intro d
  induction d with
  | zero =>
    intro k i acc hi hk h0 h1
    obtain ⟨k, rfl⟩ : ∃ m, k = m + 1 := ⟨k - 1, by omega⟩
    simp only [lsa_Number.l0]
    rw [if_neg (by omega), List.drop_of_length_le (by rw [B_len]; omega)]
    rfl
  | succ d ih =>
    intro k i acc hi hk h0 h1
    obtain ⟨k, rfl⟩ : ∃ m, k = m + 1 := ⟨k - 1, by omega⟩
    have hlt : i < (B s).length := by rw [B_len]; omega
    have hd : (B s).drop i = (B s).getD i 0 :: (B s).drop (i + 1) := by
      rw [List.drop_eq_getElem_cons hlt, List.getD_eq_getElem?_getD, List.getElem?_eq_getElem hlt, Option.getD_some]
    have hr := byt_getD (B_byt s) i
    have hl := lim_succ i
    rw [lsa_Number_step hi (by omega) h0 h1, ih k (i + 1) _ (by omega) (by omega) (by omega) (by omega), hd, List.foldl_cons]
theorem lsa_Number_f {s : ByteArray} (hs : s.size ≤ 7) {k : Nat} (hk : 8 ≤ k) : lsa_Number.f k s = some (num (B s)) :=
  lsa_Number_l hs s.size k 0 0 (by omega) (by omega) (by omega) (by decide)
/-! ### lsa: Links, May, body, Put, Get, Head (S49: the struct Link) -/
instance : DecidableEq S49 := fun a b => decidable_of_iff (a.f0 = b.f0 ∧ a.f1 = b.f1) (by cases a; cases b; simp)
def LinkOk (rt : Int) (x : S49) : Prop := 1 ≤ x.f0 ∧ x.f0 ≤ 4 ∧ x.f0 ≠ rt ∧ 1 ≤ x.f1 ∧ x.f1 ≤ 65535
instance (rt : Int) (x : S49) : Decidable (LinkOk rt x) := by unfold LinkOk; infer_instance
def links (rt : Int) : Int → List S49 → Bool
  | _, [] => true
  | p, x :: l => if LinkOk rt x ∧ p < x.f0 then links rt x.f0 l else false
theorem links_short {rt : Int} : ∀ (l : List S49) (p : Int), 0 ≤ p → links rt p l = true → l.length = 0 ∨ (l.length : Int) ≤ 4 - p
  | [], _, _, _ => .inl rfl
  | x :: l, p, h0, h => by
    unfold links at h
    by_cases hc : LinkOk rt x ∧ p < x.f0
    · rw [if_pos hc] at h
      have h4 := hc.1.2.1
      rcases links_short l x.f0 (by omega) h with h1 | h1
      · right; simp only [List.length_cons, h1]; omega
      · right; simp only [List.length_cons]; omega
    · rw [if_neg hc] at h; cases h
theorem links_len {rt : Int} {l : List S49} (h : links rt 0 l = true) : l.length ≤ 4 := by
  rcases links_short l 0 (by omega) h with h1 | h1 <;> omega
theorem links_range {rt : Int} : ∀ (l : List S49) (p : Int), links rt p l = true → ∀ x ∈ l, LinkOk rt x
  | [], _, _, _, hx => by cases hx
  | y :: l, p, h, x, hx => by
    unfold links at h
    by_cases hc : LinkOk rt y ∧ p < y.f0
    · rw [if_pos hc] at h
      rcases List.mem_cons.mp hx with rfl | hx
      · exact hc.1
      · exact links_range l y.f0 h x hx
    · rw [if_neg hc] at h; cases h
theorem rdL_at {l : List S49} {i : Nat} (h : i < l.length) : rd_T49 l (i : Int) = l[i] := by
  unfold rd_T49; rw [Int.toNat_natCast, List.getD_eq_getElem?_getD, List.getElem?_eq_getElem h]; rfl
def prevL (l : List S49) (i : Nat) : Int := if i = 0 then 0 else (rd_T49 l ((i : Int) - 1)).f0
theorem prevL_succ (l : List S49) (i : Nat) : prevL l (i + 1) = (rd_T49 l (i : Int)).f0 := by
  unfold prevL; rw [if_neg (by omega)]
  have : ((i + 1 : Nat) : Int) - 1 = (i : Int) := by omega
  rw [this]
theorem dropL_at {l : List S49} {i : Nat} (h : i < l.length) : l.drop i = rd_T49 l (i : Int) :: l.drop (i + 1) := by
  rw [List.drop_eq_getElem_cons h, rdL_at h]
theorem lsa_Router_f (x : Int) : lsa_Router.f x = some (decide (1 ≤ x ∧ x ≤ 4)) := by
  unfold lsa_Router.f
  by_cases h : x ≥ 1
  · rw [if_pos h]; simp [show (1 : Int) ≤ x from h]
  · rw [if_neg h]; simp [show ¬ (1 : Int) ≤ x from h]
theorem lsa_Links_l {l : List S49} {rt : Int} (hn : l.length ≤ 9223372036854775807) : ∀ (d k i : Nat), i + d = l.length → d < k →
    lsa_Links.l0 k l rt l (l.length : Int) (i : Int) = some (links rt (prevL l i) (l.drop i)) := by
  intro d
  induction d with
  | zero =>
    intro k i hi hk
    obtain ⟨k, rfl⟩ : ∃ m, k = m + 1 := ⟨k - 1, by omega⟩
    simp only [lsa_Links.l0]
    rw [if_neg (by omega), List.drop_of_length_le (by omega)]
    rfl
  | succ d ih =>
    intro k i hi hk
    obtain ⟨k, rfl⟩ : ∃ m, k = m + 1 := ⟨k - 1, by omega⟩
    have hlt : i < l.length := by omega
    have h4 : wrap64 ((i : Int) + 1) = ((i + 1 : Nat) : Int) := by rw [wrap_id (by omega) (by omega)]; omega
    have h5 : wrap64 ((i : Int) - 1) = (i : Int) - 1 := wrap_id (by omega) (by omega)
    have hr := ih k (i + 1) (by omega) (by omega)
    simp only [lsa_Links.l0, lsa_Router_f, Option.bind_some, decide_eq_true_eq]
    rw [if_pos (by omega), if_pos (by omega), if_pos (by omega), h4, h5, hr, prevL_succ, dropL_at hlt]
    generalize hx : rd_T49 l (i : Int) = x
    by_cases c1 : 1 ≤ x.f0 ∧ x.f0 ≤ 4
    · rw [if_pos c1]
      by_cases c2 : x.f0 = rt
      · rw [if_pos c2]; unfold links; rw [if_neg (fun hh => hh.1.2.2.1 c2)]
      rw [if_neg c2]
      by_cases c3 : x.f1 < 1
      · rw [if_pos c3]; unfold links; rw [if_neg (fun hh => by have := hh.1.2.2.2.1; omega)]
      rw [if_neg c3]
      by_cases c4 : x.f1 > 65535
      · rw [if_pos c4]; unfold links; rw [if_neg (fun hh => by have := hh.1.2.2.2.2; omega)]
      rw [if_neg c4]
      have hok : LinkOk rt x := ⟨c1.1, c1.2, c2, by omega, by omega⟩
      by_cases h0 : (i : Int) > 0
      · rw [if_pos h0, if_pos (by omega), if_pos (by omega)]
        have hp : prevL l i = (rd_T49 l ((i : Int) - 1)).f0 := by unfold prevL; rw [if_neg (by omega)]
        by_cases hg : (rd_T49 l ((i : Int) - 1)).f0 ≥ x.f0
        · rw [if_pos hg]; unfold links; rw [if_neg (by rw [hp]; omega)]
        · rw [if_neg hg]; conv => rhs; unfold links
          rw [if_pos ⟨hok, by rw [hp]; omega⟩]
      · rw [if_neg h0]
        have hp : prevL l i = 0 := by unfold prevL; rw [if_pos (by omega)]
        conv => rhs; unfold links
        rw [if_pos ⟨hok, by rw [hp]; omega⟩]
    · rw [if_neg c1]; unfold links; rw [if_neg (fun hh => c1 ⟨hh.1.1, hh.1.2.1⟩)]
theorem lsa_Links_f {l : List S49} {rt : Int} (hn : l.length ≤ 9223372036854775807) {k : Nat} (hk : l.length < k) : lsa_Links.f k l rt = some (links rt 0 l) :=
  lsa_Links_l hn l.length k 0 (by omega) hk
def LsaOk (r s g : Int) (l : List S49) : Prop := 1 ≤ r ∧ r ≤ 4 ∧ 1 ≤ s ∧ s ≤ 2147483647 ∧ 0 ≤ g ∧ g ≤ 60 ∧ links r 0 l = true
instance (r s g : Int) (l : List S49) : Decidable (LsaOk r s g l) := by unfold LsaOk; infer_instance
theorem lsa_May_f {r s g : Int} {l : List S49} (hn : l.length ≤ 9223372036854775807) {k : Nat} (hk : l.length < k) : lsa_May.f k r s g l = some (decide (LsaOk r s g l)) := by
  simp only [lsa_May.f, lsa_Links_f hn hk, lsa_Router_f, Option.bind_some]
  unfold lsa_Serial.f lsa_Age.f
  by_cases h1 : 1 ≤ r ∧ r ≤ 4
  · unfold LsaOk
    by_cases h3 : s ≥ 1
    · by_cases h4 : s ≤ 2147483647
      · by_cases h5 : g ≥ 0
        · by_cases h6 : g ≤ 60
          · simp [h1.1, h1.2, h3, h4, h5, h6]
          · simp [h1.1, h1.2, h3, h4, h5, h6]
        · simp [h1.1, h1.2, h3, h4, h5]
      · simp [h1.1, h1.2, h3, h4]
    · simp [h1.1, h1.2, h3]
  · rw [decide_eq_false h1, if_neg (by decide), decide_eq_false (fun hh : LsaOk r s g l => h1 ⟨hh.1, hh.2.1⟩)]
def lbytes (x : S49) : List Int := e1 x.f0 ++ e2 x.f1
theorem lbytes_byt (x : S49) : Byt (lbytes x) := byt_append (e1_byt _) (e2_byt _)
theorem lbytes_len (x : S49) : (lbytes x).length = 3 := rfl
theorem lflat_byt (l : List S49) : Byt (l.flatMap lbytes) := by
  intro y hy
  obtain ⟨x, _, hx⟩ := List.mem_flatMap.mp hy
  exact lbytes_byt x y hx
theorem lflat_len (l : List S49) : (l.flatMap lbytes).length = 3 * l.length := by
  induction l with
  | nil => rfl
  | cons x l ih => rw [List.flatMap_cons, List.length_append, ih, lbytes_len, List.length_cons]; omega
def bodyB (r s : Int) (l : List S49) : List Int := ((e1 r ++ e4 s) ++ e1 (l.length : Int)) ++ l.flatMap lbytes
theorem bodyB_byt (r s : Int) (l : List S49) : Byt (bodyB r s l) := byt_append (byt_append (byt_append (e1_byt _) (e4_byt _)) (e1_byt _)) (lflat_byt l)
theorem bodyB_len (r s : Int) (l : List S49) : (bodyB r s l).length = 6 + 3 * l.length := by
  unfold bodyB; simp only [List.length_append, lflat_len, e1_len, e4_len]
theorem lsa_body_l {l : List S49} (hn : l.length ≤ 255) : ∀ (d k i : Nat) (acc : List Int), i + d = l.length → d < k → acc.length ≤ 10 + 3 * i →
    lsa_body.l0 k (strOfNums acc) l (l.length : Int) (i : Int) = some (strOfNums (acc ++ (l.drop i).flatMap lbytes)) := by
  intro d
  induction d with
  | zero =>
    intro k i acc hi hk ha
    obtain ⟨k, rfl⟩ : ∃ m, k = m + 1 := ⟨k - 1, by omega⟩
    simp only [lsa_body.l0]
    rw [if_neg (by omega), List.drop_of_length_le (by omega)]
    simp
  | succ d ih =>
    intro k i acc hi hk ha
    obtain ⟨k, rfl⟩ : ∃ m, k = m + 1 := ⟨k - 1, by omega⟩
    have hlt : i < l.length := by omega
    have h4 : wrap64 ((i : Int) + 1) = ((i + 1 : Nat) : Int) := by rw [wrap_id (by omega) (by omega)]; omega
    simp only [lsa_body.l0, lsa_One_f, lsa_Two_f, Option.bind_some, strOf_append, strOf_size, List.length_append, e1_len, e2_len]
    rw [if_pos (by omega), if_pos (by omega), if_pos (by omega), if_pos (by decide), if_pos (by omega), h4,
      ih k (i + 1) _ (by omega) (by omega) (by simp only [List.length_append, e1_len, e2_len]; omega), dropL_at hlt, List.flatMap_cons]
    simp only [lbytes, List.append_assoc]
theorem lsa_body_f {r s g : Int} {l : List S49} (hn : l.length ≤ 255) {k : Nat} (hk : l.length < k) : lsa_body.f k r s g l = some (strOfNums (bodyB r s l)) := by
  simp only [lsa_body.f, lsa_One_f, lsa_Four_f, Option.bind_some, strOf_append, strOf_size, List.length_append, e1_len, e4_len]
  rw [if_pos (by decide), if_pos (by decide)]
  exact lsa_body_l hn l.length k 0 _ (by omega) hk (by simp only [List.length_append, e1_len, e4_len]; omega)
def fl : Int → Int → List Int → Int
  | a, b, [] => 256 * b + a
  | a, b, x :: l => fl ((a + x) % 255) ((b + (a + x) % 255) % 255) l
theorem fl_range : ∀ (l : List Int) (a b : Int), 0 ≤ a ∧ a < 255 → 0 ≤ b ∧ b < 255 → 0 ≤ fl a b l ∧ fl a b l ≤ 65278
  | [], a, b, ha, hb => by unfold fl; omega
  | x :: l, a, b, ha, hb => by unfold fl; exact fl_range l _ _ (by omega) (by omega)
def flSum (l : List Int) : Int := fl 0 0 l
theorem flSum_range (l : List Int) : 0 ≤ flSum l ∧ flSum l ≤ 65278 := fl_range l 0 0 (by omega) (by omega)
theorem fletch_Sum_l {s : ByteArray} (hs : s.size ≤ 140737488351232) : ∀ (d k i : Nat) (a b : Int), i + d = s.size → d < k → 0 ≤ a ∧ a < 255 → 0 ≤ b ∧ b < 255 →
    fletch_Sum.l0 k s a b (s.size : Int) (i : Int) = some (fl a b ((B s).drop i)) := by
  intro d
  induction d with
  | zero =>
    intro k i a b hi hk ha hb
    obtain ⟨k, rfl⟩ : ∃ m, k = m + 1 := ⟨k - 1, by omega⟩
    simp only [fletch_Sum.l0]
    rw [if_neg (by omega), List.drop_of_length_le (by rw [B_len]; omega), wrap_id (x := 256 * b) (by omega) (by omega), wrap_id (by omega) (by omega)]
    rfl
  | succ d ih =>
    intro k i a b hi hk ha hb
    obtain ⟨k, rfl⟩ : ∃ m, k = m + 1 := ⟨k - 1, by omega⟩
    have hlt : i < (B s).length := by rw [B_len]; omega
    have hd : (B s).drop i = (B s).getD i 0 :: (B s).drop (i + 1) := by
      rw [List.drop_eq_getElem_cons hlt, List.getD_eq_getElem?_getD, List.getElem?_eq_getElem hlt, Option.getD_some]
    have hbt : bt s (i : Int) = (B s).getD i 0 := by rw [bt_B, Int.toNat_natCast]
    have hr := byt_getD (B_byt s) i
    have h4 : wrap64 ((i : Int) + 1) = ((i + 1 : Nat) : Int) := by rw [wrap_id (by omega) (by omega)]; omega
    simp only [fletch_Sum.l0]
    rw [if_pos (by omega), if_pos (by omega), if_pos (by omega), hbt, h4, hd]
    generalize (B s).getD i 0 = x at hr ⊢
    rw [wrap_id (x := x) (by omega) (by omega), wrap_id (x := a + x) (by omega) (by omega), Int.tmod_eq_emod_of_nonneg (a := a + x) (by omega),
      wrap_id (x := b + (a + x) % 255) (by omega) (by omega), Int.tmod_eq_emod_of_nonneg (a := b + (a + x) % 255) (by omega),
      ih k (i + 1) _ _ (by omega) (by omega) (by omega) (by omega)]
    rfl
theorem fletch_Sum_f {s : ByteArray} (hs : s.size ≤ 140737488351232) {k : Nat} (hk : s.size < k) : fletch_Sum.f k s = some (flSum (B s)) :=
  fletch_Sum_l hs s.size k 0 0 0 (by omega) hk (by omega) (by omega)
def putB (r s g : Int) (l : List S49) : List Int := (e1 g ++ bodyB r s l) ++ e2 (flSum (bodyB r s l))
theorem putB_byt (r s g : Int) (l : List S49) : Byt (putB r s g l) := byt_append (byt_append (e1_byt _) (bodyB_byt r s l)) (e2_byt _)
theorem putB_len (r s g : Int) (l : List S49) : (putB r s g l).length = 9 + 3 * l.length := by
  unfold putB; simp only [List.length_append, bodyB_len, e1_len, e2_len]; omega
theorem lsa_Put_f {r s g : Int} {l : List S49} (hn : l.length ≤ 9223372036854775807) {k : Nat} (hk : l.length < k) (h20 : 20 ≤ k) :
    lsa_Put.f k r s g l = some (if LsaOk r s g l then (strOfNums (putB r s g l), 0) else (⟨#[]⟩, 700)) := by
  simp only [lsa_Put.f, lsa_May_f hn hk, Option.bind_some, decide_eq_true_eq]
  by_cases h : LsaOk r s g l
  · have h4 := links_len h.2.2.2.2.2.2
    have hb := bodyB_len r s l
    rw [if_pos h, if_pos h, lsa_body_f (by omega) hk]
    simp only [Option.bind_some, lsa_One_f, lsa_Two_f]
    rw [fletch_Sum_f (by rw [strOf_size]; omega) (by rw [strOf_size]; omega), B_strOf (bodyB_byt r s l)]
    simp only [Option.bind_some, strOf_append, strOf_size, List.length_append, e1_len, e2_len, hb]
    rw [if_pos (by omega), if_pos (by omega)]
    rfl
  · rw [if_neg h, if_neg h]
def parseL : Nat → List Int → List S49
  | 0, _ => []
  | n + 1, b => ⟨b.getD 0 0, num ((b.drop 1).take 2)⟩ :: parseL n (b.drop 3)
theorem parseL_len : ∀ (n : Nat) (b : List Int), (parseL n b).length = n
  | 0, _ => rfl
  | n + 1, b => by unfold parseL; rw [List.length_cons, parseL_len n]
def endL (b : List Int) (sz : Nat) (r s g : Int) (l : List S49) : Option (Int × Int × Int × List S49 × Nat) :=
  if LsaOk r s g l ∧ putB r s g l = b.take sz then some (r, s, g, l, sz) else none
def getLsa (b : List Int) : Option (Int × Int × Int × List S49 × Nat) :=
  if b.length < 7 then none else
  if b.length < 9 + 3 * (b.getD 6 0).toNat then none else
  endL b (9 + 3 * (b.getD 6 0).toNat) (b.getD 1 0) (num ((b.drop 2).take 4)) (b.getD 0 0) (parseL (b.getD 6 0).toNat (b.drop 7))
def tellL (at_ : Int) : Option (Int × Int × Int × List S49 × Nat) → Int × Int × Int × List S49 × Int × Int
  | some (r, s, g, l, sz) => (r, s, g, l, at_ + (sz : Int), 0)
  | none => (0, 0, 0, [], 0, 700)
theorem lgetD_drop (b : List Int) (i j : Nat) : (b.drop i).getD j 0 = b.getD (i + j) 0 := by
  rw [List.getD_eq_getElem?_getD, List.getD_eq_getElem?_getD, List.getElem?_drop]
theorem B_tail (x : ByteArray) (p : Nat) : B (x.extract p x.size) = (B x).drop p := by
  rw [B_extract, List.take_of_length_le]
  rw [List.length_drop, B_len]; exact Nat.le_refl _
theorem size_tail (x : ByteArray) (p : Nat) : (x.extract p x.size).size = x.size - p := by
  rw [ByteArray.size_extract, Nat.min_self]
theorem lsa_Number_at (x : ByteArray) (p a b : Nat) (hab : b - a ≤ 7) {k : Nat} (hk : 8 ≤ k) : lsa_Number.f k ((x.extract p x.size).extract a b) = some (num ((((B x).drop p).drop a).take (b - a))) := by
  have e : B ((x.extract p x.size).extract a b) = (((B x).drop p).drop a).take (b - a) := by rw [B_extract, B_tail]
  have hs : ((x.extract p x.size).extract a b).size ≤ 7 := by rw [← B_len, e, List.length_take]; exact Nat.le_trans (Nat.min_le_left _ _) hab
  rw [lsa_Number_f hs hk, e]
theorem bt_tail (x : ByteArray) (p j : Nat) : bt (x.extract p x.size) (j : Int) = ((B x).drop p).getD j 0 := by
  rw [bt_B, B_tail, Int.toNat_natCast]
theorem wrap_bt (x : ByteArray) (p j : Nat) : wrap64 (bt (x.extract p x.size) (j : Int)) = ((B x).drop p).getD j 0 := by
  have h := byt_getD (byt_drop p (B_byt x)) j
  rw [bt_tail]; exact wrap_id (by omega) (by omega)
theorem wrap_bt0 (x : ByteArray) (p : Nat) : wrap64 (bt (x.extract p x.size) 0) = ((B x).drop p).getD 0 0 := wrap_bt x p 0
theorem tail_bounds {z p : Nat} (h : p + 3 ≤ z) : (p : Int) ≤ (z : Int) ∧ 0 < ((z - p : Nat) : Int) ∧ 3 ≤ ((z - p : Nat) : Int) := by omega
theorem link_in {sz n i z : Nat} (hsz : sz = 9 + 3 * n) (hx : sz ≤ z) (hi : i < n) : 7 + 3 * i + 3 ≤ z := by omega
theorem wrap_3 {i : Nat} (h : i ≤ 255) : wrap64 (3 * (i : Int)) = 3 * (i : Int) := wrap_id (by omega) (by omega)
theorem wrap_7 {i : Nat} (h : i ≤ 255) : wrap64 (7 + 3 * (i : Int)) = ((7 + 3 * i : Nat) : Int) := by rw [wrap_id (by omega) (by omega)]; omega
theorem wrap_1 {i : Nat} (h : i ≤ 255) : wrap64 ((i : Int) + 1) = ((i + 1 : Nat) : Int) := by rw [wrap_id (by omega) (by omega)]; omega
set_option maxHeartbeats 2000000 in
theorem lsa_Get_l {x : ByteArray} (hs : x.size ≤ 281474976710656) {at_ : Int} (ha0 : 0 ≤ at_) (ha1 : at_ ≤ 281474976710656) {r s g : Int} {n sz : Nat} (hn : n ≤ 255) (hsz : sz = 9 + 3 * n) (hx : sz ≤ x.size) : ∀ (d k i : Nat) (acc : List S49), acc.length = i → i + d = n → d + 300 ≤ k →
    lsa_Get.l0 k at_ x (sz : Int) (n : Int) (i : Int) r s g acc = some (tellL at_ (endL (B x) sz r s g (acc ++ parseL d ((B x).drop (7 + 3 * i))))) := by
  intro d
  induction d with
  | zero =>
    intro k i acc ha hi hk
    obtain ⟨k, rfl⟩ : ∃ m, k = m + 1 := ⟨k - 1, by omega⟩
    simp only [lsa_Get.l0]
    rw [if_neg (by omega), lsa_Put_f (by omega) (by omega) (by omega), Option.bind_some]
    have he : acc ++ parseL 0 ((B x).drop (7 + 3 * i)) = acc := by unfold parseL; simp
    rw [he]
    unfold endL
    by_cases h : LsaOk r s g acc
    · rw [if_pos h, if_pos rfl, if_pos (by omega), if_pos (by omega), Int.toNat_natCast]
      have hB : B (x.extract 0 sz) = (B x).take sz := by rw [B_extract, List.drop_zero, Nat.sub_zero]
      by_cases h2 : putB r s g acc = (B x).take sz
      · rw [if_pos (by rw [toList_iff, B_strOf (putB_byt _ _ _ _), hB]; exact h2), if_pos ⟨h, h2⟩, wrap_id (by omega) (by omega)]
        rfl
      · rw [if_neg (by rw [toList_iff, B_strOf (putB_byt _ _ _ _), hB]; exact h2), if_neg (fun hh => h2 hh.2)]
        rfl
    · rw [if_neg h, if_neg (by decide), if_neg (fun hh => h hh.1)]
      rfl
  | succ d ih =>
    intro k i acc ha hi hk
    obtain ⟨k, rfl⟩ : ∃ m, k = m + 1 := ⟨k - 1, by omega⟩
    have hlt : i < n := by omega
    have hp : parseL (d + 1) ((B x).drop (7 + 3 * i)) = (⟨((B x).drop (7 + 3 * i)).getD 0 0, num ((((B x).drop (7 + 3 * i)).drop 1).take 2)⟩ : S49) :: parseL d ((B x).drop (7 + 3 * (i + 1))) := by
      have h0 : ((B x).drop (7 + 3 * i)).drop 3 = (B x).drop (7 + 3 * (i + 1)) := by rw [List.drop_drop]; congr 1
      conv => lhs; unfold parseL
      rw [h0]
    obtain ⟨c1, c2, c3⟩ := tail_bounds (z := x.size) (p := 7 + 3 * i) (link_in hsz hx hlt)
    have hr := ih k (i + 1) (acc ++ [(⟨((B x).drop (7 + 3 * i)).getD 0 0, num ((((B x).drop (7 + 3 * i)).drop 1).take 2)⟩ : S49)]) (by simp only [List.length_append, List.length_singleton]; omega) (by omega) (by omega)
    have hk8 : 8 ≤ k := by omega
    have ha2 : acc.length < 8796093022208 := by omega
    have w3 := wrap_3 (show i ≤ 255 by omega)
    have w7 := wrap_7 (show i ≤ 255 by omega)
    have w1 := wrap_1 (show i ≤ 255 by omega)
    clear ih ha hi hk hsz hs ha0 ha1
    simp only [lsa_Get.l0, w3, w7, w1, Int.toNat_natCast, size_tail]
    rw [if_pos (Int.ofNat_lt.mpr hlt), if_pos (Int.natCast_nonneg _), if_pos c1, if_pos c2, if_pos (by decide), if_pos c3, lsa_Number_at x (7 + 3 * i) 1 3 (by decide) hk8, Option.bind_some, wrap_bt0 x (7 + 3 * i), if_pos ha2, hr, hp, List.append_assoc]
    rfl
set_option maxHeartbeats 2000000 in
theorem lsa_Get_f {a : ByteArray} (hs : a.size ≤ 281474976710656) {at_ : Int} (hw : -9223372036854775808 ≤ at_ ∧ at_ ≤ 9223372036854775807) {k : Nat} (hk : 600 ≤ k) :
    lsa_Get.f k a at_ = some (tellL at_ (if 0 ≤ at_ then getLsa ((B a).drop at_.toNat) else none)) := by
  obtain ⟨k, rfl⟩ : ∃ m, k = m + 1 := ⟨k - 1, by omega⟩
  have hl := B_len a
  unfold lsa_Get.f
  by_cases c0 : at_ < 0
  · rw [if_pos c0, if_neg (by omega)]
    simp only [lsa_Get.j0, if_true]; rfl
  rw [if_neg c0, if_pos (show 0 ≤ at_ by omega)]
  obtain ⟨p, rfl⟩ : ∃ p : Nat, at_ = (p : Int) := ⟨at_.toNat, by omega⟩
  rw [Int.toNat_natCast]
  have hld : ((B a).drop p).length = a.size - p := by rw [List.length_drop, hl]
  by_cases c1 : (p : Int) > (a.size : Int)
  · rw [if_pos c1]
    simp only [lsa_Get.j0, if_true]
    unfold getLsa
    rw [if_pos (by omega)]; rfl
  rw [if_neg c1, wrap_id (x := (a.size : Int) - (p : Int)) (by omega) (by omega)]
  by_cases c2 : (a.size : Int) - (p : Int) < 7
  · rw [decide_eq_true c2]
    simp only [lsa_Get.j0, if_true]
    unfold getLsa
    rw [if_pos (by omega)]; rfl
  rw [decide_eq_false c2]
  have hby : Byt ((B a).drop p) := byt_drop p (B_byt a)
  have hr6 := byt_getD hby 6
  simp only [lsa_Get.j0, Int.toNat_natCast, Bool.false_eq_true, if_false, size_tail]
  rw [if_pos (by omega), if_pos (by omega), if_pos (by omega), if_pos (by omega), if_pos (by decide), if_pos (by omega), lsa_Number_at a p 2 6 (by omega) (show 8 ≤ k by omega), Option.bind_some, if_pos (by omega), wrap_bt0 a p, show wrap64 (bt (a.extract p a.size) 1) = _ from wrap_bt a p 1, show wrap64 (bt (a.extract p a.size) 6) = _ from wrap_bt a p 6]
  unfold getLsa
  rw [hld]
  generalize hn : ((B a).drop p).getD 6 0 = n at hr6 ⊢
  obtain ⟨n, rfl⟩ : ∃ m : Nat, n = (m : Int) := ⟨n.toNat, by omega⟩
  clear hn
  rw [wrap_id (x := 3 * (n : Int)) (by omega) (by omega), wrap_id (x := 7 + 3 * (n : Int)) (by omega) (by omega), wrap_id (x := 7 + 3 * (n : Int) + 2) (by omega) (by omega), Int.toNat_natCast]
  by_cases c3 : 7 + 3 * (n : Int) + 2 > ((a.size - p : Nat) : Int)
  · rw [if_pos c3, if_neg (by omega), if_pos (by omega)]; rfl
  rw [if_neg c3, if_neg (by omega), if_neg (by omega)]
  have hz : 7 + 3 * (n : Int) + 2 = ((9 + 3 * n : Nat) : Int) := by omega
  have := lsa_Get_l (x := a.extract p a.size) (by rw [size_tail]; omega) (show 0 ≤ (p : Int) by omega) (by omega) (r := ((B a).drop p).getD 1 0) (s := num ((((B a).drop p).drop 2).take 4)) (g := ((B a).drop p).getD 0 0) (n := n) (sz := 9 + 3 * n) (by omega) rfl (by rw [size_tail]; omega) n k 0 [] rfl (by omega) (by omega)
  rw [hz]
  refine Eq.trans this ?_
  rw [B_tail]
  rfl
theorem parse_links : ∀ (l : List S49) (r : List Int), (∀ x ∈ l, 1 ≤ x.f0 ∧ x.f0 ≤ 4 ∧ 1 ≤ x.f1 ∧ x.f1 ≤ 65535) → parseL l.length (l.flatMap lbytes ++ r) = l
  | [], r, _ => rfl
  | x :: l, r, h => by
    have hx := h x (by simp)
    rw [List.flatMap_cons, List.length_cons, List.append_assoc]
    unfold parseL
    have a0 : (lbytes x ++ (l.flatMap lbytes ++ r)).getD 0 0 = x.f0 := by simp [lbytes, e1]; omega
    have a1 : ((lbytes x ++ (l.flatMap lbytes ++ r)).drop 1).take 2 = e2 x.f1 := by simp [lbytes, e1, e2]
    rw [a0, a1, num_e2 (by omega) (by omega), ← lbytes_len x, List.drop_left, parse_links l r (fun y hy => h y (by simp [hy]))]
theorem get_put {r s g : Int} {l : List S49} (h : LsaOk r s g l) (rest : List Int) : getLsa (putB r s g l ++ rest) = some (r, s, g, l, 9 + 3 * l.length) := by
  obtain ⟨h1, h2, h3, h4, h5, h6, h7⟩ := h
  have hl := links_len h7
  have hlen := putB_len r s g l
  have hbn : (bodyB r s l).length = 6 + 3 * l.length := bodyB_len r s l
  have hform : putB r s g l ++ rest = (g % 256) :: (r % 256) :: (s / 16777216 % 256) :: (s / 65536 % 256) :: (s / 256 % 256) :: (s % 256) :: ((l.length : Int) % 256) :: (l.flatMap lbytes ++ (e2 (flSum (bodyB r s l)) ++ rest)) := by
    unfold putB
    conv => lhs; rw [show bodyB r s l = ((e1 r ++ e4 s) ++ e1 (l.length : Int)) ++ l.flatMap lbytes from rfl]
    simp [e1, e4, bodyB]
  have g0 : (putB r s g l ++ rest).getD 0 0 = g := by rw [hform]; show g % 256 = g; omega
  have g1 : (putB r s g l ++ rest).getD 1 0 = r := by rw [hform]; show r % 256 = r; omega
  have g6 : (putB r s g l ++ rest).getD 6 0 = (l.length : Int) := by rw [hform]; show (l.length : Int) % 256 = _; omega
  have g2 : ((putB r s g l ++ rest).drop 2).take 4 = e4 s := by rw [hform]; rfl
  have g7 : (putB r s g l ++ rest).drop 7 = l.flatMap lbytes ++ (e2 (flSum (bodyB r s l)) ++ rest) := by rw [hform]; rfl
  unfold getLsa
  rw [if_neg (by rw [List.length_append]; omega), g6, Int.toNat_natCast, if_neg (by rw [List.length_append]; omega), g0, g1, g2, g7, num_e4 (by omega) (by omega),
    parse_links l _ (fun x hx => by have := links_range l 0 h7 x hx; exact ⟨this.1, this.2.1, this.2.2.2.1, this.2.2.2.2⟩)]
  unfold endL
  rw [if_pos ⟨⟨h1, h2, h3, h4, h5, h6, h7⟩, by rw [← hlen, List.take_left]⟩]
theorem get_some {b : List Int} {r s g : Int} {l : List S49} {sz : Nat} (h : getLsa b = some (r, s, g, l, sz)) : LsaOk r s g l ∧ putB r s g l = b.take sz ∧ sz ≤ b.length ∧ sz = 9 + 3 * l.length := by
  unfold getLsa at h
  by_cases c0 : b.length < 7
  · rw [if_pos c0] at h; cases h
  rw [if_neg c0] at h
  by_cases c1 : b.length < 9 + 3 * (b.getD 6 0).toNat
  · rw [if_pos c1] at h; cases h
  rw [if_neg c1] at h
  unfold endL at h
  split at h
  · rename_i hc
    simp only [Option.some.injEq, Prod.mk.injEq] at h
    obtain ⟨rfl, rfl, rfl, rfl, rfl⟩ := h
    exact ⟨hc.1, hc.2, by omega, by rw [parseL_len]⟩
  · cases h
theorem SameL_l {l m : List S49} (hn : l.length ≤ 9223372036854775807) (he : l.length = m.length) : ∀ (d k i : Nat), i + d = l.length → d < k →
    watchwordlaw0_SameLinks.l0 k l m (i : Int) = some (decide (l.drop i = m.drop i)) := by
  intro d
  induction d with
  | zero =>
    intro k i hi hk
    obtain ⟨k, rfl⟩ : ∃ m, k = m + 1 := ⟨k - 1, by omega⟩
    simp only [watchwordlaw0_SameLinks.l0]
    rw [if_neg (by omega), List.drop_of_length_le (by omega), List.drop_of_length_le (by omega)]
    simp
  | succ d ih =>
    intro k i hi hk
    obtain ⟨k, rfl⟩ : ∃ m, k = m + 1 := ⟨k - 1, by omega⟩
    have h4 : wrap64 ((i : Int) + 1) = ((i + 1 : Nat) : Int) := by rw [wrap_id (by omega) (by omega)]; omega
    simp only [watchwordlaw0_SameLinks.l0]
    rw [if_pos (by omega), if_pos (by omega), if_pos (by omega), h4, ih k (i + 1) (by omega) (by omega), dropL_at (l := l) (i := i) (by omega), dropL_at (l := m) (i := i) (by omega)]
    generalize rd_T49 l (i : Int) = x
    generalize rd_T49 m (i : Int) = y
    have hx : (!(x.f0 == y.f0) || (!(x.f1 == y.f1))) = !decide (x = y) := by
      cases x; cases y
      rw [Bool.eq_iff_iff]
      simp
    rw [hx]
    by_cases hc : x = y
    · rw [hc]; simp
    · simp [hc]
theorem SameL_f {l m : List S49} (hn : l.length ≤ 9223372036854775807) {k : Nat} (hk : l.length < k) : watchwordlaw0_SameLinks.f k l m = some (decide (l = m)) := by
  unfold watchwordlaw0_SameLinks.f
  by_cases h : l.length = m.length
  · rw [if_pos (by omega)]
    have := SameL_l hn h l.length k 0 (by omega) hk
    rw [List.drop_zero, List.drop_zero] at this
    exact this
  · rw [if_neg (by omega), decide_eq_false (fun e => h (by rw [e]))]
theorem SameLsa_f {r s g r' s' g' : Int} {l m : List S49} (hn : l.length ≤ 9223372036854775807) {k : Nat} (hk : l.length < k) :
    watchwordlaw0_SameLsa.f k r s g l r' s' g' m = some (decide (r = r' ∧ s = s' ∧ g = g' ∧ l = m)) := by
  unfold watchwordlaw0_SameLsa.f
  rw [SameL_f hn hk]
  by_cases h1 : r = r'
  · by_cases h2 : s = s'
    · by_cases h3 : g = g'
      · rw [if_pos h1, if_pos h2, if_pos h3]; simp [h1, h2, h3]
      · rw [if_pos h1, if_pos h2, if_neg h3]; simp [h3]
    · rw [if_pos h1, if_neg h2]; simp [h2]
  · rw [if_neg h1]; simp [h1]
/-! ### update: May, Put, Get; SameLsas (S24: the struct Lsa) -/
def UsOk (x : S24) : Prop := LsaOk x.f0 x.f1 x.f2 x.f3
instance (x : S24) : Decidable (UsOk x) := by unfold UsOk; infer_instance
instance : DecidableEq S24 := fun a b => decidable_of_iff (a.f0 = b.f0 ∧ a.f1 = b.f1 ∧ a.f2 = b.f2 ∧ a.f3 = b.f3) (by cases a; cases b; simp)
def upd : Int → List S24 → Bool
  | _, [] => true
  | p, x :: l => if UsOk x ∧ p < x.f0 then upd x.f0 l else false
theorem upd_short : ∀ (l : List S24) (p : Int), 0 ≤ p → upd p l = true → l.length = 0 ∨ (l.length : Int) ≤ 4 - p
  | [], _, _, _ => .inl rfl
  | x :: l, p, h0, h => by
    unfold upd at h
    by_cases hc : UsOk x ∧ p < x.f0
    · rw [if_pos hc] at h
      have h4 := hc.1.2.1
      rcases upd_short l x.f0 (by omega) h with h1 | h1
      · right; simp only [List.length_cons, h1]; omega
      · right; simp only [List.length_cons]; omega
    · rw [if_neg hc] at h; cases h
theorem upd_len {l : List S24} (h : upd 0 l = true) : l.length ≤ 4 := by
  rcases upd_short l 0 (by omega) h with h1 | h1 <;> omega
theorem upd_ok : ∀ (l : List S24) (p : Int), upd p l = true → ∀ x ∈ l, UsOk x
  | [], _, _, _, hx => by cases hx
  | y :: l, p, h, x, hx => by
    unfold upd at h
    by_cases hc : UsOk y ∧ p < y.f0
    · rw [if_pos hc] at h
      rcases List.mem_cons.mp hx with rfl | hx
      · exact hc.1
      · exact upd_ok l y.f0 h x hx
    · rw [if_neg hc] at h; cases h
theorem usOk_len {x : S24} (h : UsOk x) : x.f3.length ≤ 4 := links_len h.2.2.2.2.2.2
theorem rdU_at {l : List S24} {i : Nat} (h : i < l.length) : rd_T24 l (i : Int) = l[i] := by
  unfold rd_T24; rw [Int.toNat_natCast, List.getD_eq_getElem?_getD, List.getElem?_eq_getElem h]; rfl
theorem rdU_mem {l : List S24} {i : Nat} (h : i < l.length) : rd_T24 l (i : Int) ∈ l := by rw [rdU_at h]; exact List.getElem_mem h
def prevU (l : List S24) (i : Nat) : Int := if i = 0 then 0 else (rd_T24 l ((i : Int) - 1)).f0
theorem prevU_succ (l : List S24) (i : Nat) : prevU l (i + 1) = (rd_T24 l (i : Int)).f0 := by
  unfold prevU; rw [if_neg (by omega)]
  have : ((i + 1 : Nat) : Int) - 1 = (i : Int) := by omega
  rw [this]
theorem dropU_at {l : List S24} {i : Nat} (h : i < l.length) : l.drop i = rd_T24 l (i : Int) :: l.drop (i + 1) := by
  rw [List.drop_eq_getElem_cons h, rdU_at h]
theorem update_May_l {l : List S24} {M : Nat} (hn : l.length ≤ 9223372036854775807) (hM : ∀ x ∈ l, x.f3.length < M) (hM2 : M ≤ 9223372036854775807) : ∀ (d k i : Nat), i + d = l.length → d + M < k →
    update_May.l0 k l l (l.length : Int) (i : Int) = some (upd (prevU l i) (l.drop i)) := by
  intro d
  induction d with
  | zero =>
    intro k i hi hk
    obtain ⟨k, rfl⟩ : ∃ m, k = m + 1 := ⟨k - 1, by omega⟩
    simp only [update_May.l0]
    rw [if_neg (by omega), List.drop_of_length_le (by omega)]
    rfl
  | succ d ih =>
    intro k i hi hk
    obtain ⟨k, rfl⟩ : ∃ m, k = m + 1 := ⟨k - 1, by omega⟩
    have hlt : i < l.length := by omega
    have h4 : wrap64 ((i : Int) + 1) = ((i + 1 : Nat) : Int) := by rw [wrap_id (by omega) (by omega)]; omega
    have h5 : wrap64 ((i : Int) - 1) = (i : Int) - 1 := wrap_id (by omega) (by omega)
    have hr := ih k (i + 1) (by omega) (by omega)
    have hm := hM _ (rdU_mem hlt)
    simp only [update_May.l0]
    rw [if_pos (by omega), if_pos (by omega), if_pos (by omega), h4, h5, hr, prevU_succ, dropU_at hlt]
    generalize rd_T24 l (i : Int) = x at hm ⊢
    rw [lsa_May_f (by omega) (show x.f3.length < k by omega)]
    simp only [Option.bind_some, decide_eq_true_eq]
    by_cases c1 : LsaOk x.f0 x.f1 x.f2 x.f3
    · rw [if_pos c1]
      have hok : UsOk x := c1
      have h1 := c1.1
      by_cases h0 : (i : Int) > 0
      · rw [if_pos h0, if_pos (by omega), if_pos (by omega)]
        have hp : prevU l i = (rd_T24 l ((i : Int) - 1)).f0 := by unfold prevU; rw [if_neg (by omega)]
        by_cases hg : (rd_T24 l ((i : Int) - 1)).f0 ≥ x.f0
        · rw [if_pos hg]; unfold upd; rw [if_neg (by rw [hp]; omega)]
        · rw [if_neg hg]; conv => rhs; unfold upd
          rw [if_pos ⟨hok, by rw [hp]; omega⟩]
      · rw [if_neg h0]
        have hp : prevU l i = 0 := by unfold prevU; rw [if_pos (by omega)]
        conv => rhs; unfold upd
        rw [if_pos ⟨hok, by rw [hp]; omega⟩]
    · rw [if_neg c1]; unfold upd; rw [if_neg (fun hh => c1 hh.1)]
theorem update_May_f {l : List S24} {M : Nat} (hn : l.length ≤ 9223372036854775807) (hM : ∀ x ∈ l, x.f3.length < M) (hM2 : M ≤ 9223372036854775807) {k : Nat} (hk : l.length + M < k) :
    update_May.f k l = some (upd 0 l) := update_May_l hn hM hM2 l.length k 0 (by omega) hk
def ubytes (x : S24) : List Int := putB x.f0 x.f1 x.f2 x.f3
theorem ubytes_byt (x : S24) : Byt (ubytes x) := putB_byt _ _ _ _
theorem ubytes_len (x : S24) : (ubytes x).length = 9 + 3 * x.f3.length := putB_len _ _ _ _
theorem uflat_byt (l : List S24) : Byt (l.flatMap ubytes) := by
  induction l with
  | nil => exact byt_nil
  | cons x l ih => rw [List.flatMap_cons]; exact byt_append (ubytes_byt x) ih
def updB (l : List S24) : List Int := e1 (l.length : Int) ++ l.flatMap ubytes
theorem updB_byt (l : List S24) : Byt (updB l) := byt_append (e1_byt _) (uflat_byt l)
theorem update_Put_l {l : List S24} (h4 : l.length ≤ 4) (hok : ∀ x ∈ l, UsOk x) : ∀ (d k i : Nat) (acc : List Int), i + d = l.length → d + 30 < k → acc.length ≤ 1 + 21 * i →
    update_Put.l0 k (strOfNums acc) l (l.length : Int) (i : Int) = some (strOfNums (acc ++ (l.drop i).flatMap ubytes), 0) := by
  intro d
  induction d with
  | zero =>
    intro k i acc hi hk ha
    obtain ⟨k, rfl⟩ : ∃ m, k = m + 1 := ⟨k - 1, by omega⟩
    simp only [update_Put.l0]
    rw [if_neg (by omega), List.drop_of_length_le (by omega), List.flatMap_nil, List.append_nil]
  | succ d ih =>
    intro k i acc hi hk ha
    obtain ⟨k, rfl⟩ : ∃ m, k = m + 1 := ⟨k - 1, by omega⟩
    have hlt : i < l.length := by omega
    have h5 : wrap64 ((i : Int) + 1) = ((i + 1 : Nat) : Int) := by rw [wrap_id (by omega) (by omega)]; omega
    have hx := hok _ (rdU_mem hlt)
    simp only [update_Put.l0]
    rw [if_pos (by omega), if_pos (by omega), if_pos (by omega), h5, dropU_at hlt]
    generalize rd_T24 l (i : Int) = x at hx ⊢
    have hl4 := usOk_len hx
    have hul := ubytes_len x
    rw [lsa_Put_f (by omega) (show x.f3.length < k by omega) (by omega), if_pos (show LsaOk x.f0 x.f1 x.f2 x.f3 from hx)]
    simp only [Option.bind_some]
    rw [show strOfNums (putB x.f0 x.f1 x.f2 x.f3) = strOfNums (ubytes x) from rfl, strOf_append, strOf_size, strOf_size, if_pos (by omega), ih k (i + 1) (acc ++ ubytes x) (by omega) (by omega) (by rw [List.length_append]; omega), List.flatMap_cons, List.append_assoc]
theorem update_Put_f {l : List S24} {M : Nat} (hn : l.length ≤ 9223372036854775807) (hM : ∀ x ∈ l, x.f3.length < M) (hM2 : M ≤ 9223372036854775807) {k : Nat} (hk : l.length + M < k) (hk2 : 35 ≤ k) :
    update_Put.f k l = some (if upd 0 l = true then (strOfNums (updB l), 0) else (⟨#[]⟩, 1000)) := by
  simp only [update_Put.f, update_May_f hn hM hM2 hk, Option.bind_some]
  by_cases h : upd 0 l = true
  · have h4 := upd_len h
    rw [if_pos h, if_pos h, lsa_One_f, Option.bind_some]
    exact update_Put_l h4 (upd_ok l 0 h) l.length k 0 (e1 (l.length : Int)) (by omega) (by omega) (by rw [e1_len]; omega)
  · rw [if_neg h, if_neg h]
def gul : Nat → List Int → Nat → List S24 → Option (List S24)
  | 0, _, _, acc => some acc
  | n + 1, b, p, acc => if p < b.length then (match getLsa (b.drop p) with
      | none => none
      | some (r, s, g, l, sz) => gul n b (p + sz) (acc ++ [⟨r, s, g, l⟩])) else some acc
def finU (b : List Int) : Option (List S24) → Option (List S24)
  | none => none
  | some out => if upd 0 out = true ∧ updB out = b then some out else none
def getUpd (b : List Int) : Option (List S24) := finU b (gul 5 b 1 [])
def tellU : Option (List S24) → List S24 × Int
  | some out => (out, 0)
  | none => ([], 1000)
theorem update_Get_end {a : ByteArray} {acc : List S24} (h5 : acc.length ≤ 5) (hl : ∀ x ∈ acc, x.f3.length ≤ 4) {k : Nat} (hk : 60 ≤ k) {p : Int} :
    update_Get.j1 k a acc p false = some (tellU (finU (B a) (some acc))) := by
  obtain ⟨k, rfl⟩ : ∃ m, k = m + 1 := ⟨k - 1, by omega⟩
  simp only [update_Get.j1, Bool.false_eq_true, if_false]
  rw [update_Put_f (M := 5) (by omega) (fun x hx => by have := hl x hx; omega) (by omega) (by omega) (by omega), Option.bind_some]
  unfold finU
  by_cases h : upd 0 acc = true
  · rw [if_pos h]
    simp only [if_true, toList_iff, B_strOf (updB_byt acc)]
    by_cases h2 : updB acc = B a
    · rw [if_pos h2, if_pos ⟨h, h2⟩]; rfl
    · rw [if_neg h2, if_neg (fun hh => h2 hh.2)]; rfl
  · rw [if_neg h]
    simp only
    rw [if_neg (show ¬ ((1000 : Int) = 0) by decide), if_neg (fun hh : upd 0 acc = true ∧ updB acc = B a => h hh.1)]; rfl
theorem update_Get_l {a : ByteArray} (hs : a.size ≤ 281474976710656) : ∀ (n k p : Nat) (acc : List S24), acc.length + n = 5 → p ≤ a.size ∨ n = 5 → p ≤ 281474976710656 → (∀ x ∈ acc, x.f3.length ≤ 4) → 2 * n + 700 ≤ k →
    update_Get.l0 k a acc (p : Int) = some (tellU (finU (B a) (gul n (B a) p acc))) := by
  intro n
  induction n with
  | zero =>
    intro k p acc hn hp hp2 hl hk
    obtain ⟨k, rfl⟩ : ∃ m, k = m + 1 := ⟨k - 1, by omega⟩
    simp only [update_Get.l0]
    rw [decide_eq_false (by omega), ite_self]
    exact update_Get_end (by omega) hl (by omega)
  | succ n ih =>
    intro k p acc hn hp hp2 hl hk
    obtain ⟨k, rfl⟩ : ∃ m, k = m + 2 := ⟨k - 2, by omega⟩
    have hbl := B_len a
    simp only [update_Get.l0]
    unfold gul
    by_cases hlt : p < a.size
    · rw [if_pos (by omega), decide_eq_true (by omega), if_pos (by omega)]
      simp only [update_Get.j1, if_true]
      rw [lsa_Get_f hs (by omega) (by omega), if_pos (by omega), Int.toNat_natCast, Option.bind_some]
      cases hg : getLsa ((B a).drop p) with
      | none => simp only [tellL]; exact (if_neg (show ¬ ((700 : Int) = 0) by decide)).trans rfl
      | some z =>
        obtain ⟨r, s, g, l, sz⟩ := z
        have hgs := get_some hg
        have hl4 := links_len hgs.1.2.2.2.2.2.2
        have hsz := hgs.2.2.1
        rw [List.length_drop, hbl] at hsz
        simp only [tellL]
        rw [if_pos trivial, if_pos (by omega), show (p : Int) + (sz : Int) = ((p + sz : Nat) : Int) by omega]
        refine ih k (p + sz) _ (by rw [List.length_append]; simp only [List.length_cons, List.length_nil]; omega) (by omega) (by omega) ?_ (by omega)
        intro x hx
        rcases List.mem_append.mp hx with hx | hx
        · exact hl x hx
        · rcases List.mem_singleton.mp hx with rfl; exact hl4
    · rw [if_neg (by omega), if_neg (by omega)]
      exact update_Get_end (by omega) hl (by omega)
theorem update_Get_f {a : ByteArray} (hs : a.size ≤ 281474976710656) {k : Nat} (hk : 710 ≤ k) : update_Get.f k a = some (tellU (getUpd (B a))) :=
  update_Get_l hs 5 k 1 [] rfl (.inr rfl) (by omega) (by simp) (by omega)
theorem gul_put : ∀ (l : List S24) (pre : List Int) (acc : List S24) (n : Nat), (∀ x ∈ l, UsOk x) → l.length ≤ n → gul n (pre ++ l.flatMap ubytes) pre.length acc = some (acc ++ l)
  | [], pre, acc, n, _, _ => by
    rw [List.flatMap_nil, List.append_nil, List.append_nil]
    cases n with
    | zero => rfl
    | succ n => unfold gul; rw [if_neg (by omega)]
  | x :: l, pre, acc, 0, _, h => by simp at h
  | x :: l, pre, acc, n + 1, hok, h => by
    have hx := hok x (by simp)
    have hul := ubytes_len x
    unfold gul
    rw [List.flatMap_cons, if_pos (by rw [List.length_append, List.length_append]; omega), List.drop_left, show ubytes x = putB x.f0 x.f1 x.f2 x.f3 from rfl, get_put hx]
    simp only
    have := gul_put l (pre ++ ubytes x) (acc ++ [x]) n (fun y hy => hok y (by simp [hy])) (by simpa using h)
    rw [List.length_append, hul, List.append_assoc, List.append_assoc] at this
    exact this
theorem getUpd_put {l : List S24} (h : upd 0 l = true) : getUpd (updB l) = some l := by
  have h4 := upd_len h
  have := gul_put l (e1 (l.length : Int)) [] 5 (upd_ok l 0 h) (by omega)
  unfold getUpd
  rw [show updB l = e1 (l.length : Int) ++ l.flatMap ubytes from rfl, show (1 : Nat) = (e1 (l.length : Int)).length from rfl, this]
  simp only [finU, List.nil_append]
  exact if_pos ⟨h, rfl⟩
theorem getUpd_some {b : List Int} {l : List S24} (h : getUpd b = some l) : upd 0 l = true ∧ updB l = b := by
  unfold getUpd finU at h
  split at h
  · cases h
  · split at h
    · rename_i hc; obtain rfl := Option.some.inj h; exact hc
    · cases h
theorem updB_inj {l m : List S24} (h : upd 0 l = true) (h' : upd 0 m = true) (e : updB l = updB m) : l = m := by
  have h1 := getUpd_put h
  rw [e, getUpd_put h'] at h1
  exact (Option.some.inj h1).symm
theorem SameU_l {l m : List S24} {M : Nat} (hn : l.length ≤ 9223372036854775807) (hM : ∀ x ∈ l, x.f3.length < M) (hM2 : M ≤ 9223372036854775807) (he : l.length = m.length) : ∀ (d k i : Nat), i + d = l.length → d + M < k →
    watchwordlaw0_SameLsas.l0 k l m (i : Int) = some (decide (l.drop i = m.drop i)) := by
  intro d
  induction d with
  | zero =>
    intro k i hi hk
    obtain ⟨k, rfl⟩ : ∃ m, k = m + 1 := ⟨k - 1, by omega⟩
    simp only [watchwordlaw0_SameLsas.l0]
    rw [if_neg (by omega), List.drop_of_length_le (by omega), List.drop_of_length_le (by omega)]
    simp
  | succ d ih =>
    intro k i hi hk
    obtain ⟨k, rfl⟩ : ∃ m, k = m + 1 := ⟨k - 1, by omega⟩
    have h4 : wrap64 ((i : Int) + 1) = ((i + 1 : Nat) : Int) := by rw [wrap_id (by omega) (by omega)]; omega
    have hm := hM _ (rdU_mem (show i < l.length by omega))
    simp only [watchwordlaw0_SameLsas.l0]
    rw [if_pos (by omega), if_pos (by omega), if_pos (by omega), h4, ih k (i + 1) (by omega) (by omega), dropU_at (l := l) (i := i) (by omega), dropU_at (l := m) (i := i) (by omega)]
    generalize rd_T24 l (i : Int) = x at hm ⊢
    generalize rd_T24 m (i : Int) = y
    rw [SameLsa_f (by omega) (show x.f3.length < k by omega), Option.bind_some]
    have hx : (x.f0 = y.f0 ∧ x.f1 = y.f1 ∧ x.f2 = y.f2 ∧ x.f3 = y.f3) ↔ x = y := by
      cases x; cases y; simp
    by_cases hc : x = y
    · rw [decide_eq_true (hx.mpr hc), if_pos rfl, hc]; simp
    · rw [decide_eq_false (fun hh => hc (hx.mp hh)), if_neg (by decide), decide_eq_false (fun hh => hc (List.cons.inj hh).1)]
theorem SameU_f {l m : List S24} {M : Nat} (hn : l.length ≤ 9223372036854775807) (hM : ∀ x ∈ l, x.f3.length < M) (hM2 : M ≤ 9223372036854775807) {k : Nat} (hk : l.length + M < k) : watchwordlaw0_SameLsas.f k l m = some (decide (l = m)) := by
  unfold watchwordlaw0_SameLsas.f
  by_cases h : l.length = m.length
  · rw [if_pos (by omega)]
    have := SameU_l hn hM hM2 h l.length k 0 (by omega) hk
    rw [List.drop_zero, List.drop_zero] at this
    exact this
  · rw [if_neg (by omega), decide_eq_false (fun e => h (by rw [e]))]
/-! ### the reference: Num, Of -/
theorem ref_Num1 {k : Nat} (hk : 3 ≤ k) (x : Int) : watchwordref1_Num.f k x 1 = some (strOfNums (e1 x)) := by
  obtain ⟨k, rfl⟩ : ∃ m, k = m + 3 := ⟨k - 3, by omega⟩
  simp [watchwordref1_Num.f, watchwordref1_Num.l0, wrap64, shr, IntKind.bits, e1]
theorem ref_Num2 {k : Nat} (hk : 5 ≤ k) (x : Int) : watchwordref1_Num.f k x 2 = some (strOfNums (e2 x)) := by
  obtain ⟨k, rfl⟩ : ∃ m, k = m + 5 := ⟨k - 5, by omega⟩
  simp [watchwordref1_Num.f, watchwordref1_Num.l0, wrap64, shr, IntKind.bits, e2]
theorem ref_Num4 {k : Nat} (hk : 7 ≤ k) (x : Int) : watchwordref1_Num.f k x 4 = some (strOfNums (e4 x)) := by
  obtain ⟨k, rfl⟩ : ∃ m, k = m + 7 := ⟨k - 7, by omega⟩
  simp [watchwordref1_Num.f, watchwordref1_Num.l0, wrap64, shr, IntKind.bits, e4]
theorem ref_Of_step {acc : Int} {s : ByteArray} {i k d : Nat} (hd : i + (d + 1) = s.size) (hi : i ≤ 6) (h0 : 0 ≤ acc) (h1 : acc < lim i) :
    watchwordref1_Of.l0 (k + 1) s acc (i : Int) = watchwordref1_Of.l0 k s (acc * 256 + (B s).getD i 0) ((i + 1 : Nat) : Int) := by
  have hb : bt s (i : Int) = (B s).getD i 0 := by rw [bt_B, Int.toNat_natCast]
  have hr := byt_getD (B_byt s) i
  have hp : lim i ≤ 281474976710656 := lim_le6 hi
  have h2 : wrap64 (acc * 256) = acc * 256 := wrap_id (by omega) (by omega)
  have h3 : wrap64 ((B s).getD i 0) = (B s).getD i 0 := wrap_id (by omega) (by omega)
  have h4 : wrap64 ((i : Int) + 1) = ((i + 1 : Nat) : Int) := by rw [wrap_id (by omega) (by omega)]; omega
  have h5 : Go.bits .or .i64 (acc * 256) ((B s).getD i 0) = acc * 256 + (B s).getD i 0 := or_byte (by omega) (by omega) (by omega) hr.1 hr.2
  simp only [watchwordref1_Of.l0]
  rw [if_pos (by omega), if_pos (by omega), hb, h2, h3, h4, h5]
theorem ref_Of_l {s : ByteArray} (hs : s.size ≤ 7) : ∀ (d k i : Nat) (acc : Int), i + d = s.size → d < k → 0 ≤ acc → acc < lim i →
    watchwordref1_Of.l0 k s acc (i : Int) = some (((B s).drop i).foldl (fun a b => a * 256 + b) acc) := by
  intro d
  induction d with
  | zero =>
    intro k i acc hi hk h0 h1
    obtain ⟨k, rfl⟩ : ∃ m, k = m + 1 := ⟨k - 1, by omega⟩
    simp only [watchwordref1_Of.l0]
    rw [if_neg (by omega), List.drop_of_length_le (by rw [B_len]; omega)]
    rfl
  | succ d ih =>
    intro k i acc hi hk h0 h1
    obtain ⟨k, rfl⟩ : ∃ m, k = m + 1 := ⟨k - 1, by omega⟩
    have hlt : i < (B s).length := by rw [B_len]; omega
    have hd : (B s).drop i = (B s).getD i 0 :: (B s).drop (i + 1) := by
      rw [List.drop_eq_getElem_cons hlt, List.getD_eq_getElem?_getD, List.getElem?_eq_getElem hlt, Option.getD_some]
    have hr := byt_getD (B_byt s) i
    have hl := lim_succ i
    rw [ref_Of_step hi (by omega) h0 h1, ih k (i + 1) _ (by omega) (by omega) (by omega) (by omega), hd, List.foldl_cons]
theorem ref_Of_f {s : ByteArray} (hs : s.size ≤ 7) {k : Nat} (hk : 8 ≤ k) : watchwordref1_Of.f k s = some (num (B s)) :=
  ref_Of_l hs s.size k 0 0 (by omega) (by omega) (by omega) (by decide)
/-! ### the document's own: LinksMay, LsaMay, bytes, Fletch, PutLsa, GetLsa, HeadOf -/
theorem ref_upTo (x a b : Int) : watchwordref1_upTo.f x a b = some (decide (a ≤ x ∧ x ≤ b)) := by
  unfold watchwordref1_upTo.f
  by_cases h : x ≥ a
  · rw [if_pos h]; simp [show a ≤ x from h]
  · rw [if_neg h]; simp [show ¬ a ≤ x from h]
theorem ref_router (x : Int) : watchwordref1_routerMay.f x = some (decide (1 ≤ x ∧ x ≤ 4)) := by
  unfold watchwordref1_routerMay.f; rw [ref_upTo]; rfl
theorem ref_Links_l {l : List S49} {rt : Int} (hn : l.length ≤ 9223372036854775807) : ∀ (d k i : Nat), i + d = l.length → d < k →
    watchwordref1_LinksMay.l0 k rt l (i : Int) = some (links rt (prevL l i) (l.drop i) && decide (l.length ≤ 4)) := by
  intro d
  induction d with
  | zero =>
    intro k i hi hk
    obtain ⟨k, rfl⟩ : ∃ m, k = m + 1 := ⟨k - 1, by omega⟩
    simp only [watchwordref1_LinksMay.l0]
    rw [if_neg (by omega), List.drop_of_length_le (by omega)]
    unfold links
    rw [Bool.true_and]
    congr 1
    rw [Bool.eq_iff_iff, decide_eq_true_eq, decide_eq_true_eq]
    omega
  | succ d ih =>
    intro k i hi hk
    obtain ⟨k, rfl⟩ : ∃ m, k = m + 1 := ⟨k - 1, by omega⟩
    have hlt : i < l.length := by omega
    have h4 : wrap64 ((i : Int) + 1) = ((i + 1 : Nat) : Int) := by rw [wrap_id (by omega) (by omega)]; omega
    have h5 : wrap64 ((i : Int) - 1) = (i : Int) - 1 := wrap_id (by omega) (by omega)
    have hr := ih k (i + 1) (by omega) (by omega)
    simp only [watchwordref1_LinksMay.l0, ref_router, ref_upTo, Option.bind_some, decide_eq_true_eq]
    rw [if_pos (by omega), if_pos (by omega), h4, h5, hr, prevL_succ, dropL_at hlt]
    generalize rd_T49 l (i : Int) = x
    by_cases c1 : 1 ≤ x.f0 ∧ x.f0 ≤ 4
    · rw [if_pos c1]
      by_cases c2 : x.f0 = rt
      · rw [if_pos c2]; unfold links; rw [if_neg (fun hh => hh.1.2.2.1 c2)]; rfl
      rw [if_neg c2]
      by_cases c3 : 1 ≤ x.f1 ∧ x.f1 ≤ 65535
      · rw [if_pos c3]
        have hok : LinkOk rt x := ⟨c1.1, c1.2, c2, c3.1, c3.2⟩
        by_cases h0 : (i : Int) > 0
        · rw [if_pos h0, if_pos (by omega), if_pos (by omega)]
          have hp : prevL l i = (rd_T49 l ((i : Int) - 1)).f0 := by unfold prevL; rw [if_neg (by omega)]
          by_cases hg : x.f0 ≤ (rd_T49 l ((i : Int) - 1)).f0
          · rw [if_pos hg]; unfold links; rw [if_neg (by rw [hp]; omega)]; rfl
          · rw [if_neg hg]; conv => rhs; unfold links
            rw [if_pos ⟨hok, by rw [hp]; omega⟩]
        · rw [if_neg h0]
          have hp : prevL l i = 0 := by unfold prevL; rw [if_pos (by omega)]
          conv => rhs; unfold links
          rw [if_pos ⟨hok, by rw [hp]; omega⟩]
      · rw [if_neg c3]; unfold links; rw [if_neg (fun hh => c3 ⟨hh.1.2.2.2.1, hh.1.2.2.2.2⟩)]; rfl
    · rw [if_neg c1]; unfold links; rw [if_neg (fun hh => c1 ⟨hh.1.1, hh.1.2.1⟩)]; rfl
theorem ref_Links_f {l : List S49} {rt : Int} (hn : l.length ≤ 9223372036854775807) {k : Nat} (hk : l.length < k) : watchwordref1_LinksMay.f k rt l = some (links rt 0 l) := by
  have h := ref_Links_l (rt := rt) hn l.length k 0 (by omega) hk
  unfold watchwordref1_LinksMay.f
  rw [show (0 : Int) = ((0 : Nat) : Int) from rfl, h]
  show some (links rt 0 l && decide (l.length ≤ 4)) = some (links rt 0 l)
  by_cases g : links rt 0 l = true
  · rw [g, decide_eq_true (links_len g)]; rfl
  · rw [Bool.eq_false_iff.mpr g]; rfl
theorem ref_May_f {r s g : Int} {l : List S49} (hn : l.length ≤ 9223372036854775807) {k : Nat} (hk : l.length < k) : watchwordref1_LsaMay.f k r s g l = some (decide (LsaOk r s g l)) := by
  simp only [watchwordref1_LsaMay.f, ref_Links_f hn hk, ref_router, ref_upTo, Option.bind_some, decide_eq_true_eq]
  by_cases h1 : 1 ≤ r ∧ r ≤ 4
  · rw [if_pos h1]
    by_cases h2 : 1 ≤ s ∧ s ≤ 2147483647
    · rw [if_pos h2]
      by_cases h3 : 0 ≤ g ∧ g ≤ 60
      · rw [if_pos h3]; unfold LsaOk; simp [h1.1, h1.2, h2.1, h2.2, h3.1, h3.2]
      · rw [if_neg h3, decide_eq_false (fun hh : LsaOk r s g l => h3 ⟨hh.2.2.2.2.1, hh.2.2.2.2.2.1⟩)]
    · rw [if_neg h2, decide_eq_false (fun hh : LsaOk r s g l => h2 ⟨hh.2.2.1, hh.2.2.2.1⟩)]
  · rw [if_neg h1, decide_eq_false (fun hh : LsaOk r s g l => h1 ⟨hh.1, hh.2.1⟩)]
theorem ref_bytes_l {r s g : Int} {l : List S49} (hn : l.length ≤ 255) : ∀ (d k i : Nat) (acc : List Int), i + d = l.length → d + 10 < k → acc.length ≤ 10 + 3 * i →
    watchwordref1_bytes.l0 k (strOfNums acc) (i : Int) r s g l = some (strOfNums (acc ++ (l.drop i).flatMap lbytes)) := by
  intro d
  induction d with
  | zero =>
    intro k i acc hi hk ha
    obtain ⟨k, rfl⟩ : ∃ m, k = m + 1 := ⟨k - 1, by omega⟩
    simp only [watchwordref1_bytes.l0]
    rw [if_neg (by omega), List.drop_of_length_le (by omega)]
    simp
  | succ d ih =>
    intro k i acc hi hk ha
    obtain ⟨k, rfl⟩ : ∃ m, k = m + 1 := ⟨k - 1, by omega⟩
    have hlt : i < l.length := by omega
    have h4 : wrap64 ((i : Int) + 1) = ((i + 1 : Nat) : Int) := by rw [wrap_id (by omega) (by omega)]; omega
    simp only [watchwordref1_bytes.l0]
    rw [ref_Num1 (by omega), ref_Num2 (by omega)]
    simp only [Option.bind_some, strOf_append, strOf_size, List.length_append, e1_len, e2_len]
    rw [if_pos (by omega), if_pos (by omega), if_pos (by omega), if_pos (by omega), h4,
      ih k (i + 1) _ (by omega) (by omega) (by simp only [List.length_append, e1_len, e2_len]; omega), dropL_at hlt, List.flatMap_cons]
    simp only [lbytes, List.append_assoc]
theorem ref_bytes_f {r s g : Int} {l : List S49} (hn : l.length ≤ 255) {k : Nat} (hk : l.length + 10 < k) : watchwordref1_bytes.f k r s g l = some (strOfNums (bodyB r s l)) := by
  unfold watchwordref1_bytes.f
  rw [ref_Num1 (by omega), ref_Num4 (by omega), ref_Num1 (by omega)]
  simp only [Option.bind_some, strOf_append, strOf_size, List.length_append, e1_len, e4_len]
  rw [if_pos (by decide), if_pos (by decide)]
  exact ref_bytes_l hn l.length k 0 _ (by omega) hk (by simp only [List.length_append, e1_len, e4_len]; omega)
theorem ref_Fletch_l {s : ByteArray} (hs : s.size ≤ 140737488351232) : ∀ (d k i : Nat) (a b : Int), i + d = s.size → d < k → 0 ≤ a ∧ a < 255 → 0 ≤ b ∧ b < 255 →
    watchwordref1_Fletch.l0 k s a b (i : Int) = some (fl a b ((B s).drop i)) := by
  intro d
  induction d with
  | zero =>
    intro k i a b hi hk ha hb
    obtain ⟨k, rfl⟩ : ∃ m, k = m + 1 := ⟨k - 1, by omega⟩
    simp only [watchwordref1_Fletch.l0]
    rw [if_neg (by omega), List.drop_of_length_le (by rw [B_len]; omega), wrap_id (x := 256 * b) (by omega) (by omega), wrap_id (by omega) (by omega)]
    rfl
  | succ d ih =>
    intro k i a b hi hk ha hb
    obtain ⟨k, rfl⟩ : ∃ m, k = m + 1 := ⟨k - 1, by omega⟩
    have hlt : i < (B s).length := by rw [B_len]; omega
    have hd : (B s).drop i = (B s).getD i 0 :: (B s).drop (i + 1) := by
      rw [List.drop_eq_getElem_cons hlt, List.getD_eq_getElem?_getD, List.getElem?_eq_getElem hlt, Option.getD_some]
    have hbt : bt s (i : Int) = (B s).getD i 0 := by rw [bt_B, Int.toNat_natCast]
    have hr := byt_getD (B_byt s) i
    have h4 : wrap64 ((i : Int) + 1) = ((i + 1 : Nat) : Int) := by rw [wrap_id (by omega) (by omega)]; omega
    simp only [watchwordref1_Fletch.l0]
    rw [if_pos (by omega), if_pos (by omega), hbt, h4, hd]
    generalize (B s).getD i 0 = x at hr ⊢
    rw [wrap_id (x := x) (by omega) (by omega), wrap_id (x := a + x) (by omega) (by omega), Int.tmod_eq_emod_of_nonneg (a := a + x) (by omega),
      wrap_id (x := b + (a + x) % 255) (by omega) (by omega), Int.tmod_eq_emod_of_nonneg (a := b + (a + x) % 255) (by omega),
      ih k (i + 1) _ _ (by omega) (by omega) (by omega) (by omega)]
    rfl
theorem ref_Fletch_f {s : ByteArray} (hs : s.size ≤ 140737488351232) {k : Nat} (hk : s.size < k) : watchwordref1_Fletch.f k s = some (flSum (B s)) :=
  ref_Fletch_l hs s.size k 0 0 0 (by omega) hk (by omega) (by omega)
theorem ref_Put_f {r s g : Int} {l : List S49} (hn : l.length ≤ 9223372036854775807) {k : Nat} (hk : l.length + 10 < k) (h20 : 30 ≤ k) :
    watchwordref1_PutLsa.f k r s g l = some (if LsaOk r s g l then (strOfNums (putB r s g l), 0) else (⟨#[]⟩, 700)) := by
  simp only [watchwordref1_PutLsa.f, ref_May_f hn (show l.length < k by omega), Option.bind_some, decide_eq_true_eq]
  by_cases h : LsaOk r s g l
  · have h4 := links_len h.2.2.2.2.2.2
    have hb := bodyB_len r s l
    rw [if_pos h, if_pos h, ref_bytes_f (by omega) hk, ref_Num1 (by omega)]
    simp only [Option.bind_some]
    rw [ref_Fletch_f (by rw [strOf_size]; omega) (by rw [strOf_size]; omega), B_strOf (bodyB_byt r s l)]
    simp only [Option.bind_some]
    rw [ref_Num2 (by omega)]
    simp only [Option.bind_some, strOf_append, strOf_size, List.length_append, e1_len, e2_len, hb]
    rw [if_pos (by omega), if_pos (by omega)]
    rfl
  · rw [if_neg h, if_neg h]
theorem wrap_nn {a b : Nat} {ci : Int} (hc : ci = (b : Int)) (h : a + b ≤ 9223372036854775807) : wrap64 ((a : Int) + ci) = ((a + b : Nat) : Int) := by
  rw [hc, wrap_id (by omega) (by omega)]; omega
theorem wrap_3n {i : Nat} (h : i ≤ 255) : wrap64 (3 * (i : Int)) = ((3 * i : Nat) : Int) := by rw [wrap_id (by omega) (by omega)]; omega
theorem nlt {a b : Nat} (h : a < b) : (a : Int) < (b : Int) := by omega
theorem nle {a b : Nat} (h : a ≤ b) : (a : Int) ≤ (b : Int) := by omega
theorem wrap_btN (x : ByteArray) (p j : Nat) : wrap64 (bt x ((p + j : Nat) : Int)) = ((B x).drop p).getD j 0 := by
  have h := byt_getD (B_byt x) (p + j)
  rw [bt_B, Int.toNat_natCast, lgetD_drop, wrap_id (by omega) (by omega)]
theorem Of_at (x : ByteArray) (a b : Nat) (hab : b - a ≤ 7) {k : Nat} (hk : 8 ≤ k) : watchwordref1_Of.f k (x.extract a b) = some (num (((B x).drop a).take (b - a))) := by
  rw [ref_Of_f (by simp only [ByteArray.size_extract]; omega) hk, B_extract]
set_option maxHeartbeats 2000000 in
theorem ref_Get_l {x : ByteArray} (hs : x.size ≤ 281474976710656) {p : Nat} {r s g : Int} {n sz : Nat} (hn : n ≤ 4) (hsz : sz = 9 + 3 * n) (hx : p + sz ≤ x.size) : ∀ (d k i : Nat) (acc : List S49), acc.length = i → i + d = n → d + 300 ≤ k →
    watchwordref1_GetLsa.l0 k x (p : Int) (n : Int) ((p + sz : Nat) : Int) (i : Int) r s g acc = some (tellL (p : Int) (endL ((B x).drop p) sz r s g (acc ++ parseL d (((B x).drop p).drop (7 + 3 * i))))) := by
  intro d
  induction d with
  | zero =>
    intro k i acc ha hi hk
    obtain ⟨k, rfl⟩ : ∃ m, k = m + 1 := ⟨k - 1, by omega⟩
    simp only [watchwordref1_GetLsa.l0]
    rw [if_neg (by omega), ref_Put_f (by omega) (by omega) (by omega), Option.bind_some]
    have he : acc ++ parseL 0 (((B x).drop p).drop (7 + 3 * i)) = acc := by unfold parseL; simp
    rw [he]
    unfold endL
    by_cases h : LsaOk r s g acc
    · rw [if_pos h, if_pos rfl, if_pos (Int.natCast_nonneg p), if_pos (nle (Nat.le_add_right p sz)), if_pos (nle hx), Int.toNat_natCast, Int.toNat_natCast]
      have hB : B (x.extract p (p + sz)) = ((B x).drop p).take sz := by rw [B_extract, Nat.add_sub_cancel_left]
      by_cases h2 : putB r s g acc = ((B x).drop p).take sz
      · rw [if_pos (by rw [toList_iff, B_strOf (putB_byt _ _ _ _), hB]; exact h2), if_pos ⟨h, h2⟩]
        rfl
      · rw [if_neg (by rw [toList_iff, B_strOf (putB_byt _ _ _ _), hB]; exact h2), if_neg (fun hh => h2 hh.2)]
        rfl
    · rw [if_neg h, if_neg (by decide), if_neg (fun hh => h hh.1)]
      rfl
  | succ d ih =>
    intro k i acc ha hi hk
    obtain ⟨k, rfl⟩ : ∃ m, k = m + 1 := ⟨k - 1, by omega⟩
    have hlt : i < n := by omega
    have hb : p + (7 + 3 * i) + 3 ≤ x.size := by omega
    have q1 : p + (7 + 3 * i) < x.size := by omega
    have q2 : p + (7 + 3 * i) + 1 ≤ p + (7 + 3 * i) + 3 := by omega
    have q3 : p + (7 + 3 * i) + 3 - (p + (7 + 3 * i) + 1) = 2 := by omega
    have q4 : p + (7 + 3 * i + 3) = p + (7 + 3 * (i + 1)) := by omega
    have q5 : p + 7 + 3 * i = p + (7 + 3 * i) := by omega
    have q6 : p + (7 + 3 * i) + 3 - (p + (7 + 3 * i) + 1) ≤ 7 := by omega
    have b7 : p + 7 ≤ 9223372036854775807 := by omega
    have b3 : i ≤ 255 := by omega
    have bq : p + 7 + 3 * i ≤ 9223372036854775807 := by omega
    have bq1 : p + (7 + 3 * i) + 1 ≤ 9223372036854775807 := by omega
    have bq3 : p + (7 + 3 * i) + 3 ≤ 9223372036854775807 := by omega
    have b1 : i + 1 ≤ 9223372036854775807 := by omega
    have ha2 : acc.length < 8796093022208 := by omega
    have ha3 : acc.length + 1 = i + 1 := by omega
    have hi1 : i + 1 + d = n := by omega
    have hk1 : d + 300 ≤ k := by omega
    have hk8 : 8 ≤ k := by omega
    clear hs hn hsz hx ha hi hk
    have hp : parseL (d + 1) (((B x).drop p).drop (7 + 3 * i)) = ⟨((B x).drop p).getD (7 + 3 * i) 0, num ((((B x).drop (p + (7 + 3 * i) + 1))).take 2)⟩ :: parseL d (((B x).drop p).drop (7 + 3 * (i + 1))) := by
      conv => lhs; unfold parseL
      simp only [lgetD_drop, Nat.add_zero, List.drop_drop]
      rfl
    have hr := ih k (i + 1) (acc ++ [(⟨((B x).drop p).getD (7 + 3 * i) 0, num ((((B x).drop (p + (7 + 3 * i) + 1))).take 2)⟩ : S49)]) (by rw [List.length_append]; exact ha3) hi1 hk1
    have w7 : wrap64 ((p : Int) + 7) = ((p + 7 : Nat) : Int) := wrap_nn rfl b7
    have w3 : wrap64 (3 * (i : Int)) = ((3 * i : Nat) : Int) := wrap_3n b3
    have wq : wrap64 (((p + 7 : Nat) : Int) + ((3 * i : Nat) : Int)) = ((p + (7 + 3 * i) : Nat) : Int) := by rw [wrap_nn rfl bq, q5]
    have wq1 : wrap64 (((p + (7 + 3 * i) : Nat) : Int) + 1) = ((p + (7 + 3 * i) + 1 : Nat) : Int) := wrap_nn rfl bq1
    have wq3 : wrap64 (((p + (7 + 3 * i) : Nat) : Int) + 3) = ((p + (7 + 3 * i) + 3 : Nat) : Int) := wrap_nn rfl bq3
    have w1 : wrap64 ((i : Int) + 1) = ((i + 1 : Nat) : Int) := wrap_nn rfl b1
    clear ih
    simp only [watchwordref1_GetLsa.l0, w7, w3, wq, wq1, wq3, w1, Int.toNat_natCast]
    rw [if_pos (nlt hlt), if_pos (Int.natCast_nonneg _), if_pos (nlt q1), if_pos (Int.natCast_nonneg _), if_pos (nle q2), if_pos (nle hb), Of_at x _ _ q6 hk8, Option.bind_some, if_pos ha2, wrap_btN, q3, hr, hp, List.append_assoc]
    rfl
set_option maxHeartbeats 2000000 in
theorem ref_Get_f {a : ByteArray} (hs : a.size ≤ 281474976710656) {at_ : Int} (hw : -9223372036854775808 ≤ at_ ∧ at_ ≤ 9223372036854775807) {k : Nat} (hk : 600 ≤ k) :
    watchwordref1_GetLsa.f k a at_ = some (tellL at_ (if 0 ≤ at_ then getLsa ((B a).drop at_.toNat) else none)) := by
  obtain ⟨k, rfl⟩ : ∃ m, k = m + 2 := ⟨k - 2, by omega⟩
  have hl := B_len a
  unfold watchwordref1_GetLsa.f
  by_cases c0 : at_ < 0
  · rw [if_pos c0, if_neg (by omega)]
    simp only [watchwordref1_GetLsa.j0, if_true]; rfl
  rw [if_neg c0, if_pos (show 0 ≤ at_ by omega)]
  obtain ⟨p, rfl⟩ : ∃ p : Nat, at_ = (p : Int) := ⟨at_.toNat, by omega⟩
  rw [Int.toNat_natCast]
  have hld : ((B a).drop p).length = a.size - p := by rw [List.length_drop, hl]
  rw [wrap_id (x := (a.size : Int) - 7) (by omega) (by omega)]
  by_cases c1 : (p : Int) > (a.size : Int) - 7
  · rw [decide_eq_true c1]
    simp only [watchwordref1_GetLsa.j0, if_true]
    unfold getLsa
    rw [if_pos (by omega)]; rfl
  rw [decide_eq_false c1]
  have hsz : p + 7 ≤ a.size := by omega
  have hby : Byt ((B a).drop p) := byt_drop p (B_byt a)
  have hr6 := byt_getD hby 6
  have b0 : p < a.size := by omega
  have b1 : p + 1 < a.size := by omega
  have b6 : p + 6 < a.size := by omega
  have b26 : p + 2 ≤ p + 6 := by omega
  have b6' : p + 6 ≤ a.size := by omega
  have m1 : p + 1 ≤ 9223372036854775807 := by omega
  have m2 : p + 2 ≤ 9223372036854775807 := by omega
  have m6 : p + 6 ≤ 9223372036854775807 := by omega
  have m9 : p + 9 ≤ 9223372036854775807 := by omega
  have d4 : p + 6 - (p + 2) = 4 := by omega
  have d7 : p + 6 - (p + 2) ≤ 7 := by omega
  have k8 : 8 ≤ k + 1 := by omega
  have l7 : ¬ a.size - p < 7 := by omega
  have hV : ∀ (n : Nat), ((B a).drop p).getD 6 0 = (n : Int) → watchwordref1_GetLsa.j0 (k + 2) a (p : Int) false = some (tellL (p : Int) (getLsa ((B a).drop p))) := by
    intro n hn
    have hn255 : n ≤ 255 := by rw [hn] at hr6; omega
    have m3 : p + 9 + 3 * n ≤ 9223372036854775807 := by omega
    have e3 : p + 9 + 3 * n = p + (9 + 3 * n) := by omega
    have hn9 : (n : Int).toNat = n := Int.toNat_natCast n
    have c33 : p + (9 + 3 * n) ≤ a.size ∨ ¬ p + (9 + 3 * n) ≤ a.size := Nat.le_total _ _ |>.elim .inl (fun h => by by_cases h2 : p + (9 + 3 * n) ≤ a.size; exact .inl h2; exact .inr h2)
    have s1 : ∀ h : p + (9 + 3 * n) ≤ a.size, ¬ a.size - p < 9 + 3 * n := fun h => by omega
    have s2 : ∀ h : ¬ p + (9 + 3 * n) ≤ a.size, a.size - p < 9 + 3 * n := fun h => by omega
    have s3 : ∀ h : ¬ p + (9 + 3 * n) ≤ a.size, ((p + (9 + 3 * n) : Nat) : Int) > (a.size : Int) := fun h => by omega
    have s4 : ∀ h : p + (9 + 3 * n) ≤ a.size, ¬ ((p + (9 + 3 * n) : Nat) : Int) > (a.size : Int) := fun h => by omega
    have n300 : n + 300 ≤ k := by omega
    have v0 : wrap64 (bt a (p : Int)) = ((B a).drop p).getD 0 0 := wrap_btN a p 0
    have v1 : wrap64 (bt a ((p + 1 : Nat) : Int)) = ((B a).drop p).getD 1 0 := wrap_btN a p 1
    have v6 : wrap64 (bt a ((p + 6 : Nat) : Int)) = ((B a).drop p).getD 6 0 := wrap_btN a p 6
    have w1 : wrap64 ((p : Int) + 1) = ((p + 1 : Nat) : Int) := wrap_nn rfl m1
    have w2 : wrap64 ((p : Int) + 2) = ((p + 2 : Nat) : Int) := wrap_nn rfl m2
    have w6 : wrap64 ((p : Int) + 6) = ((p + 6 : Nat) : Int) := wrap_nn rfl m6
    have w9 : wrap64 ((p : Int) + 9) = ((p + 9 : Nat) : Int) := wrap_nn rfl m9
    have w3 : wrap64 (3 * (n : Int)) = ((3 * n : Nat) : Int) := wrap_3n hn255
    have wz : wrap64 (((p + 9 : Nat) : Int) + ((3 * n : Nat) : Int)) = ((p + (9 + 3 * n) : Nat) : Int) := by rw [wrap_nn rfl m3, e3]
    simp only [watchwordref1_GetLsa.j0, Bool.false_eq_true, if_false, w1, w2, w6, w9, v0, v1, v6, hn, w3, wz, Int.toNat_natCast]
    rw [if_pos (Int.natCast_nonneg _), if_pos (nlt b0), if_pos (Int.natCast_nonneg _), if_pos (nlt b1), if_pos (Int.natCast_nonneg _), if_pos (nle b26), if_pos (nle b6'), Of_at a _ _ d7 k8, Option.bind_some, if_pos (Int.natCast_nonneg _), if_pos (nlt b6), d4]
    unfold getLsa
    rw [hld, if_neg l7, hn, hn9]
    rcases c33 with c3 | c3
    · rw [if_neg (s4 c3), if_neg (s1 c3)]
      by_cases c4 : (n : Int) > 4
      · rw [decide_eq_true c4]
        simp only [watchwordref1_GetLsa.j1, if_true]
        unfold endL
        rw [if_neg (fun hh => by have h7 := links_len hh.1.2.2.2.2.2.2; rw [parseL_len] at h7; clear hh v0 v1 v6 w1 w2 w6 w9 w3 wz hn; omega)]
        rfl
      · rw [decide_eq_false c4]
        simp only [watchwordref1_GetLsa.j1, Bool.false_eq_true, if_false]
        have hz := ref_Get_l hs (p := p) (r := ((B a).drop p).getD 1 0) (s := num (((B a).drop (p + 2)).take 4)) (g := ((B a).drop p).getD 0 0) (n := n) (sz := 9 + 3 * n) (by clear v0 v1 v6 w1 w2 w6 w9 w3 wz hn; omega) rfl c3 n k 0 [] rfl (Nat.zero_add n) n300
        refine Eq.trans hz ?_
        rw [show (B a).drop (p + 2) = ((B a).drop p).drop 2 from List.drop_drop.symm]
        rfl
    · rw [if_pos (s3 c3), if_pos (s2 c3)]
      simp only [watchwordref1_GetLsa.j1, if_true]; rfl
  exact hV _ (Int.toNat_of_nonneg hr6.1).symm
/-! ### the document's own: UpdateMay, PutUpdate, GetUpdate; CopyLsas -/
theorem ref_UpdMay_l {l : List S24} {M : Nat} (hn : l.length ≤ 9223372036854775807) (hM : ∀ x ∈ l, x.f3.length < M) (hM2 : M ≤ 9223372036854775807) : ∀ (d k i : Nat), i + d = l.length → d + M + 10 < k →
    watchwordref9_UpdateMay.l0 k l (i : Int) = some (upd (prevU l i) (l.drop i) && decide (l.length ≤ 4)) := by
  intro d
  induction d with
  | zero =>
    intro k i hi hk
    obtain ⟨k, rfl⟩ : ∃ m, k = m + 1 := ⟨k - 1, by omega⟩
    simp only [watchwordref9_UpdateMay.l0]
    rw [if_neg (by omega), List.drop_of_length_le (by omega)]
    unfold upd
    rw [Bool.true_and]
    congr 1
    rw [Bool.eq_iff_iff, decide_eq_true_eq, decide_eq_true_eq]
    omega
  | succ d ih =>
    intro k i hi hk
    obtain ⟨k, rfl⟩ : ∃ m, k = m + 1 := ⟨k - 1, by omega⟩
    have hlt : i < l.length := by omega
    have h4 : wrap64 ((i : Int) + 1) = ((i + 1 : Nat) : Int) := by rw [wrap_id (by omega) (by omega)]; omega
    have h5 : wrap64 ((i : Int) - 1) = (i : Int) - 1 := wrap_id (by omega) (by omega)
    have hr := ih k (i + 1) (by omega) (by omega)
    have hm := hM _ (rdU_mem hlt)
    simp only [watchwordref9_UpdateMay.l0]
    rw [if_pos (by omega), if_pos (by omega), h4, h5, hr, prevU_succ, dropU_at hlt]
    generalize rd_T24 l (i : Int) = x at hm ⊢
    rw [ref_May_f (by omega) (show x.f3.length < k by omega)]
    simp only [Option.bind_some, decide_eq_true_eq]
    by_cases c1 : LsaOk x.f0 x.f1 x.f2 x.f3
    · rw [if_pos c1]
      have hok : UsOk x := c1
      have h1 := c1.1
      by_cases h0 : (i : Int) > 0
      · rw [if_pos h0, if_pos (by omega), if_pos (by omega)]
        have hp : prevU l i = (rd_T24 l ((i : Int) - 1)).f0 := by unfold prevU; rw [if_neg (by omega)]
        by_cases hg : x.f0 ≤ (rd_T24 l ((i : Int) - 1)).f0
        · rw [if_pos hg]; unfold upd; rw [if_neg (by rw [hp]; omega)]; rfl
        · rw [if_neg hg]; conv => rhs; unfold upd
          rw [if_pos ⟨hok, by rw [hp]; omega⟩]
      · rw [if_neg h0]
        have hp : prevU l i = 0 := by unfold prevU; rw [if_pos (by omega)]
        conv => rhs; unfold upd
        rw [if_pos ⟨hok, by rw [hp]; omega⟩]
    · rw [if_neg c1]; unfold upd; rw [if_neg (fun hh => c1 hh.1)]; rfl
theorem ref_UpdMay_f {l : List S24} {M : Nat} (hn : l.length ≤ 9223372036854775807) (hM : ∀ x ∈ l, x.f3.length < M) (hM2 : M ≤ 9223372036854775807) {k : Nat} (hk : l.length + M + 10 < k) :
    watchwordref9_UpdateMay.f k l = some (upd 0 l) := by
  have h := ref_UpdMay_l hn hM hM2 l.length k 0 (by omega) hk
  unfold watchwordref9_UpdateMay.f
  rw [show (0 : Int) = ((0 : Nat) : Int) from rfl, h]
  show some (upd 0 l && decide (l.length ≤ 4)) = some (upd 0 l)
  by_cases g : upd 0 l = true
  · rw [g, decide_eq_true (upd_len g)]; rfl
  · rw [Bool.eq_false_iff.mpr g]; rfl
theorem ref_PutUpd_l {l : List S24} (h4 : l.length ≤ 4) (hok : ∀ x ∈ l, UsOk x) : ∀ (d k i : Nat) (acc : List Int), i + d = l.length → d + 40 < k → acc.length ≤ 1 + 21 * i →
    watchwordref9_PutUpdate.l0 k l (strOfNums acc) (i : Int) = some (strOfNums (acc ++ (l.drop i).flatMap ubytes), 0) := by
  intro d
  induction d with
  | zero =>
    intro k i acc hi hk ha
    obtain ⟨k, rfl⟩ : ∃ m, k = m + 1 := ⟨k - 1, by omega⟩
    simp only [watchwordref9_PutUpdate.l0]
    rw [if_neg (by omega), List.drop_of_length_le (by omega), List.flatMap_nil, List.append_nil]
  | succ d ih =>
    intro k i acc hi hk ha
    obtain ⟨k, rfl⟩ : ∃ m, k = m + 1 := ⟨k - 1, by omega⟩
    have hlt : i < l.length := by omega
    have h5 : wrap64 ((i : Int) + 1) = ((i + 1 : Nat) : Int) := by rw [wrap_id (by omega) (by omega)]; omega
    have hx := hok _ (rdU_mem hlt)
    simp only [watchwordref9_PutUpdate.l0]
    rw [if_pos (by omega), if_pos (by omega), h5, dropU_at hlt]
    generalize rd_T24 l (i : Int) = x at hx ⊢
    have hl4 := usOk_len hx
    have hul := ubytes_len x
    rw [ref_Put_f (by omega) (show x.f3.length + 10 < k by omega) (by omega), if_pos (show LsaOk x.f0 x.f1 x.f2 x.f3 from hx)]
    simp only [Option.bind_some]
    rw [show strOfNums (putB x.f0 x.f1 x.f2 x.f3) = strOfNums (ubytes x) from rfl, strOf_append, strOf_size, strOf_size, if_pos (by omega), ih k (i + 1) (acc ++ ubytes x) (by omega) (by omega) (by rw [List.length_append]; omega), List.flatMap_cons, List.append_assoc]
theorem ref_PutUpd_f {l : List S24} {M : Nat} (hn : l.length ≤ 9223372036854775807) (hM : ∀ x ∈ l, x.f3.length < M) (hM2 : M ≤ 9223372036854775807) {k : Nat} (hk : l.length + M + 10 < k) (hk2 : 50 ≤ k) :
    watchwordref9_PutUpdate.f k l = some (if upd 0 l = true then (strOfNums (updB l), 0) else (⟨#[]⟩, 1000)) := by
  simp only [watchwordref9_PutUpdate.f, ref_UpdMay_f hn hM hM2 hk, Option.bind_some]
  by_cases h : upd 0 l = true
  · have h4 := upd_len h
    rw [if_pos h, if_pos h, ref_Num1 (by omega), Option.bind_some]
    exact ref_PutUpd_l h4 (upd_ok l 0 h) l.length k 0 (e1 (l.length : Int)) (by omega) (by omega) (by rw [e1_len]; omega)
  · rw [if_neg h, if_neg h]
def rul : Nat → List Int → Nat → List S24 → Option (List S24)
  | 0, b, p, acc => if p = b.length ∧ upd 0 acc = true then some acc else none
  | n + 1, b, p, acc => match getLsa (b.drop p) with
      | none => none
      | some (r, s, g, l, sz) => rul n b (p + sz) (acc ++ [⟨r, s, g, l⟩])
def refUpd (b : List Int) : Option (List S24) := if b = [] then none else rul (b.getD 0 0).toNat b 1 []
theorem ref_GetUpd_l {a : ByteArray} (hs : a.size ≤ 281474976710656) (hB : B a ≠ []) : ∀ (n k p : Nat) (acc : List S24), (acc.length : Int) + n = (B a).getD 0 0 → p ≤ 281474976710656 → (∀ x ∈ acc, x.f3.length ≤ 4) → 2 * n + 900 ≤ k →
    watchwordref9_GetUpdate.l0 k a acc (p : Int) = some (tellU (rul n (B a) p acc)) := by
  have h8 := byt_getD (B_byt a) 0
  have hbl := B_len a
  have hsz : 0 < a.size := by
    rcases Nat.eq_zero_or_pos a.size with h | h
    · exact absurd (List.eq_nil_of_length_eq_zero (by rw [hbl]; exact h)) hB
    · exact h
  have hne : ¬ a.toList = ([] : List UInt8) := fun e => hB (by have := (toList_iff_lit a []).mp e; rw [this]; rfl)
  have hb0 : wrap64 (bt a 0) = (B a).getD 0 0 := by rw [show bt a 0 = (B a).getD 0 0 from by rw [bt_B]; rfl]; exact wrap_id (by omega) (by omega)
  intro n
  induction n with
  | zero =>
    intro k p acc hn hp hl hk
    obtain ⟨k, rfl⟩ : ∃ m, k = m + 2 := ⟨k - 2, by omega⟩
    have hd : decide ((acc.length : Int) < (B a).getD 0 0) = false := decide_eq_false (by omega)
    have hal : acc.length ≤ 255 := by omega
    simp only [watchwordref9_GetUpdate.l0, hb0]
    rw [if_neg hne, if_pos (by omega), hd]
    simp only [watchwordref9_GetUpdate.j1, Bool.false_eq_true, if_false]
    clear hn hd hb0 h8
    unfold rul
    by_cases c : p = a.size
    · rw [if_pos (by omega), ref_UpdMay_f (M := 5) (by omega) (fun x hx => by have := hl x hx; omega) (by omega) (by omega), Option.bind_some]
      by_cases c2 : upd 0 acc = true
      · rw [if_pos c2, if_pos ⟨by omega, c2⟩]; rfl
      · rw [if_neg c2, if_neg (fun hh => c2 hh.2)]; rfl
    · rw [if_neg (by omega), if_neg (fun hh => c (by omega))]; rfl
  | succ n ih =>
    intro k p acc hn hp hl hk
    obtain ⟨k, rfl⟩ : ∃ m, k = m + 2 := ⟨k - 2, by omega⟩
    have hd : decide ((acc.length : Int) < (B a).getD 0 0) = true := decide_eq_true (by omega)
    have hal : acc.length < 2932031007402 := by omega
    have hn2 : ((acc.length + 1 : Nat) : Int) + n = (B a).getD 0 0 := by omega
    simp only [watchwordref9_GetUpdate.l0, hb0]
    rw [if_neg hne, if_pos (by omega), hd]
    simp only [watchwordref9_GetUpdate.j1, if_true]
    clear hn hd hb0 h8
    rw [ref_Get_f hs (by omega) (by omega), if_pos (by omega), Int.toNat_natCast, Option.bind_some]
    unfold rul
    cases hg : getLsa ((B a).drop p) with
    | none => simp only [tellL]; exact (if_neg (show ¬ ((700 : Int) = 0) by decide)).trans rfl
    | some z =>
      obtain ⟨r, s, g, l, sz⟩ := z
      have hgs := get_some hg
      have hl4 := links_len hgs.1.2.2.2.2.2.2
      have hsz2 := hgs.2.2.1
      have hsz3 := hgs.2.2.2
      rw [List.length_drop, hbl] at hsz2
      have hp3 : p + sz ≤ 281474976710656 := by omega
      simp only [tellL]
      rw [if_pos trivial, if_pos hal, show (p : Int) + (sz : Int) = ((p + sz : Nat) : Int) by omega]
      refine ih k (p + sz) _ (by rw [List.length_append]; exact hn2) hp3 ?_ (by omega)
      intro x hx
      rcases List.mem_append.mp hx with hx | hx
      · exact hl x hx
      · rcases List.mem_singleton.mp hx with rfl; exact hl4
theorem ref_GetUpd_f {a : ByteArray} (hs : a.size ≤ 281474976710656) {k : Nat} (hk : 1500 ≤ k) : watchwordref9_GetUpdate.f k a = some (tellU (refUpd (B a))) := by
  have h8 := byt_getD (B_byt a) 0
  unfold watchwordref9_GetUpdate.f refUpd
  by_cases hB : B a = []
  · have he : a.toList = ([] : List UInt8) := (toList_iff_lit a []).mpr (by rw [hB]; rfl)
    have hz : a.size = 0 := by rw [← B_len a, hB]; rfl
    obtain ⟨k, rfl⟩ : ∃ m, k = m + 2 := ⟨k - 2, by omega⟩
    rw [if_pos hB]
    simp only [watchwordref9_GetUpdate.l0, if_pos he, watchwordref9_GetUpdate.j1, Bool.false_eq_true, if_false]
    rw [if_neg (by omega)]; rfl
  · rw [if_neg hB, show (1 : Int) = ((1 : Nat) : Int) from rfl]
    exact ref_GetUpd_l hs hB _ k 1 [] (by rw [Int.toNat_of_nonneg h8.1]; simp) (by omega) (by simp) (by omega)
theorem rul_some : ∀ (n : Nat) (b : List Int) (p : Nat) (acc out : List S24), 1 ≤ p → p ≤ b.length → (b.take p).drop 1 = acc.flatMap ubytes → rul n b p acc = some out → out.length = acc.length + n ∧ upd 0 out = true ∧ b.drop 1 = out.flatMap ubytes
  | 0, b, p, acc, out, h1, hp, ha, h => by
    unfold rul at h
    split at h
    · rename_i hc
      obtain rfl := Option.some.inj h
      refine ⟨rfl, hc.2, ?_⟩
      rw [← ha, hc.1, List.take_length]
    · cases h
  | n + 1, b, p, acc, out, h1, hp, ha, h => by
    unfold rul at h
    cases hg : getLsa (b.drop p) with
    | none => rw [hg] at h; cases h
    | some z =>
      obtain ⟨r, s, g, l, sz⟩ := z
      rw [hg] at h
      have hgs := get_some hg
      have hsz := hgs.2.2.1
      rw [List.length_drop] at hsz
      have h3 : (b.take (p + sz)).drop 1 = (acc ++ [(⟨r, s, g, l⟩ : S24)]).flatMap ubytes := by
        rw [List.flatMap_append, ← ha, List.take_add, List.drop_append_of_le_length (by rw [List.length_take]; omega), ← hgs.2.1]
        simp [ubytes]
      have h2 := rul_some n b (p + sz) _ out (by omega) (by omega) h3 h
      refine ⟨?_, h2.2⟩
      rw [h2.1, List.length_append]; simp only [List.length_cons, List.length_nil]; omega
theorem rul_put : ∀ (l : List S24) (pre : List Int) (acc : List S24), (∀ x ∈ l, UsOk x) → upd 0 (acc ++ l) = true → rul l.length (pre ++ l.flatMap ubytes) pre.length acc = some (acc ++ l)
  | [], pre, acc, _, hu => by
    rw [List.flatMap_nil, List.append_nil, List.append_nil]
    rw [List.append_nil] at hu
    unfold rul
    exact if_pos ⟨rfl, hu⟩
  | x :: l, pre, acc, hok, hu => by
    have hx := hok x (by simp)
    have hul := ubytes_len x
    rw [List.length_cons]
    unfold rul
    rw [List.flatMap_cons, List.drop_left, show ubytes x = putB x.f0 x.f1 x.f2 x.f3 from rfl, get_put hx]
    simp only
    have := rul_put l (pre ++ ubytes x) (acc ++ [x]) (fun y hy => hok y (by simp [hy])) (by rw [List.append_assoc]; exact hu)
    rw [List.length_append, hul, List.append_assoc, List.append_assoc] at this
    exact this
theorem refUpd_eq {b : List Int} (hb : Byt b) : refUpd b = getUpd b := by
  have h8 := byt_getD hb 0
  cases hr : refUpd b with
  | some out =>
    unfold refUpd at hr
    by_cases h0 : b = []
    · rw [if_pos h0] at hr; cases hr
    · rw [if_neg h0] at hr
      have hl : 1 ≤ b.length := by cases b with | nil => exact absurd rfl h0 | cons c r => simp
      obtain ⟨h1, h2, h3⟩ := rul_some _ b 1 [] out (Nat.le_refl _) hl (by cases b with | nil => rfl | cons c r => rfl) hr
      have hB : updB out = b := by
        unfold updB
        rw [← h3, h1, List.length_nil, Nat.zero_add, Int.toNat_of_nonneg h8.1]
        cases b with
        | nil => exact absurd rfl h0
        | cons c r =>
          have hc : 0 ≤ c ∧ c < 256 := h8
          show [c % 256] ++ r = c :: r
          rw [Int.emod_eq_of_lt hc.1 hc.2]; rfl
      have := getUpd_put h2
      rw [hB] at this
      exact this.symm
  | none =>
    cases hg : getUpd b with
    | none => rfl
    | some out =>
      exfalso
      obtain ⟨h1, h2⟩ := getUpd_some hg
      have h4 := upd_len h1
      have := rul_put out (e1 (out.length : Int)) [] (upd_ok out 0 h1) h1
      subst h2
      unfold refUpd at hr
      rw [if_neg (by unfold updB e1; simp), show (updB out).getD 0 0 = (out.length : Int) % 256 from rfl, Int.emod_eq_of_lt (by omega) (by omega), Int.toNat_natCast] at hr
      have h5 : rul out.length (updB out) 1 [] = some ([] ++ out) := this
      rw [h5] at hr
      cases hr
theorem copyLsa_f {r s g : Int} {l : List S49} (hl : l.length < 8796093022208) : watchwordlaw0_CopyLsa.f r s g l = some (r, s, g, l) := by
  simp only [watchwordlaw0_CopyLsa.f, Option.bind_some, List.length_nil, List.nil_append]
  rw [if_pos (by omega)]
theorem copyLsas_l {l : List S24} (hn : l.length < 2932031007402) (hM : ∀ x ∈ l, x.f3.length < 8796093022208) : ∀ (d k i : Nat) (acc : List S24), acc.length = i → i + d = l.length → d < k →
    watchwordlaw0_CopyLsas.l0 k l acc (i : Int) = some (acc ++ l.drop i) := by
  intro d
  induction d with
  | zero =>
    intro k i acc ha hi hk
    obtain ⟨k, rfl⟩ : ∃ m, k = m + 1 := ⟨k - 1, by omega⟩
    simp only [watchwordlaw0_CopyLsas.l0]
    rw [if_neg (by omega), List.drop_of_length_le (by omega), List.append_nil]
  | succ d ih =>
    intro k i acc ha hi hk
    obtain ⟨k, rfl⟩ : ∃ m, k = m + 1 := ⟨k - 1, by omega⟩
    have hlt : i < l.length := by omega
    have h4 : wrap64 ((i : Int) + 1) = ((i + 1 : Nat) : Int) := by rw [wrap_id (by omega) (by omega)]; omega
    have hm := hM _ (rdU_mem hlt)
    simp only [watchwordlaw0_CopyLsas.l0]
    rw [if_pos (by omega), if_pos (by omega), copyLsa_f hm, Option.bind_some, if_pos (by omega), h4, ih k (i + 1) _ (by rw [List.length_append]; simp only [List.length_cons, List.length_nil]; omega) (by omega) (by omega), dropU_at hlt, List.append_assoc]
    rfl
theorem copyLsas_f {l : List S24} (hn : l.length < 2932031007402) (hM : ∀ x ∈ l, x.f3.length < 8796093022208) {k : Nat} (hk : l.length < k) : watchwordlaw0_CopyLsas.f k l = some l :=
  copyLsas_l hn hM l.length k 0 [] rfl (by omega) hk
/-- The layer is awake. -/
theorem awake_ok {k : Nat} (hk : 800 ≤ k) : watchwordlaw10_awake.f k = some true :=
  at_rounds (g := fun k => watchwordlaw10_awake.f k) watchwordlaw10_awake.mono hk (by decide +kernel)

end Go.Proofs.Ytmcajcomoegkdaa.L10u
