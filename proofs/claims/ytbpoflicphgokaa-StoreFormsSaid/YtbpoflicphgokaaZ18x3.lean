/- Written by a program of this session (out of what the print wrote for this seat): the functions' walks, packed. -/
import Derived.Test.YtbpoflicphgokaaZ18x2
namespace Go.Proofs.Ytbpoflicphgokaa.Q18
open Go.RowKit Go.Proofs.YtbpoflicphgokaaW.PrintWords Go.Proofs.YtbpoflicphgokaaW.PrintLast Go.Proofs.YtbpoflicphgokaaW.PrintMore
attribute [local go_sem] max2_int min2_int max_two min_two max_three min_three max_four min_four   -- for this text's walks alone
set_option linter.unusedVariables false
set_option linter.unusedSimpArgs false

/-! ### watchwordlaw0_SameLsas: function 21 -/
def watchwordlaw0_SameLsas.l0 : Nat → List (S32) → List (S32) → Int → Option (Bool)
 | 0, _, _, _ => none
 | k + 1, x0, x1, x5 => if x5 < (x0.length : Int) then (if 0 ≤ x5 then (if x5 < (x1.length : Int) then ((watchwordlaw0_SameLsa.f k ((rd_T32 x0 x5).f0) ((rd_T32 x0 x5).f1) ((rd_T32 x0 x5).f2) ((rd_T32 x0 x5).f3) ((rd_T32 x1 x5).f0) ((rd_T32 x1 x5).f1) ((rd_T32 x1 x5).f2) ((rd_T32 x1 x5).f3)).bind fun t278 => (if t278 = true then (watchwordlaw0_SameLsas.l0 k x0 x1 (wrap64 (x5 + 1))) else (some false))) else (none)) else (none)) else (some true)
def watchwordlaw0_SameLsas.f (k : Nat) (l0 : List (S32)) (l1 : List (S32)) : Option (Bool) := if (l0.length : Int) = (l1.length : Int) then (watchwordlaw0_SameLsas.l0 k l0 l1 0) else (some false)
theorem watchwordlaw0_SameLsas.mono_l : ∀ k, (∀ y0 y1 y2, LeO (watchwordlaw0_SameLsas.l0 k y0 y1 y2) (watchwordlaw0_SameLsas.l0 (k + 1) y0 y1 y2))
 | 0 => fun _ _ _ r h => by simp [watchwordlaw0_SameLsas.l0] at h
 | k + 1 => by
  have ih0 := watchwordlaw0_SameLsas.mono_l k
  ·intro y0 y1 y2
   unfold watchwordlaw0_SameLsas.l0
   repeat' first
   | (with_reducible exact ih0 _ _ _)
   | (with_reducible exact watchwordlaw0_SameLsa.mono _ _ _ _ _ _ _ _ _)
   | (with_reducible exact LeO.refl _)
   | (with_reducible exact LeO.none _)
   | (with_reducible refine LeO.ite ?_ ?_)
   | (with_reducible refine LeO.bind ?_ (fun _ => ?_))
   | exact ih0 _ _ _
   | exact watchwordlaw0_SameLsa.mono _ _ _ _ _ _ _ _ _
   | exact LeO.none _
   | refine LeO.ite ?_ ?_
   | refine LeO.bind ?_ (fun _ => ?_)
theorem watchwordlaw0_SameLsas.mono : ∀ a0 a1 k, LeO (watchwordlaw0_SameLsas.f k a0 a1) (watchwordlaw0_SameLsas.f (k + 1) a0 a1) := by
 intro a0 a1 k
 have ih0 := watchwordlaw0_SameLsas.mono_l k
 unfold watchwordlaw0_SameLsas.f
 repeat' first
   | (with_reducible exact ih0 _ _ _)
   | (with_reducible exact watchwordlaw0_SameLsa.mono _ _ _ _ _ _ _ _ _)
   | (with_reducible exact LeO.refl _)
   | (with_reducible exact LeO.none _)
   | (with_reducible refine LeO.ite ?_ ?_)
   | (with_reducible refine LeO.bind ?_ (fun _ => ?_))
   | exact ih0 _ _ _
   | exact watchwordlaw0_SameLsa.mono _ _ _ _ _ _ _ _ _
   | exact LeO.none _
   | refine LeO.ite ?_ ?_
   | refine LeO.bind ?_ (fun _ => ?_)
def watchwordlaw0_SameLsas.T6 : Bool × List (List Nat × List Nat) := (true, [([], []), ([], []), ([0, 1], [0, 1]), ([2], [2]), ([], []), ([], []), ([4, 5], [4, 5]), ([6], [6]), ([3, 7], [3, 7]), ([8], [8])])
def watchwordlaw0_SameLsas.B6 : List Nat := [0, 0, 3, 7, 0, 0, 48, 112, 255, 511]
theorem watchwordlaw0_SameLsas.tab6 : rtab .any (opsOf Try.f21 6) = watchwordlaw0_SameLsas.T6 := by kernel_rfl
theorem watchwordlaw0_SameLsas.bits6 : waitsOk watchwordlaw0_SameLsas.T6.2 watchwordlaw0_SameLsas.B6 = true := by kernel_rfl
set_option maxHeartbeats 8000000 in
set_option maxRecDepth 100000 in
theorem watchwordlaw0_SameLsas.calls (k : Nat) (A0 : Option Addr) (c0 : Nat) (l0 : List (S32)) (A1 : Option Addr) (c1 : Nat) (l1 : List (S32)) (r : Bool) (w : World) (hr0 : Kd.C k32 w A0 l0.length l0) (hc0 : l0.length ≤ c0) (hr1 : Kd.C k32 w A1 l1.length l1) (hc1 : l1.length ≤ c1) (h : watchwordlaw0_SameLsas.f k l0 l1 = some r) :
  Calls Try.prog 21 #[.slice A0 l0.length c0, .slice A1 l1.length c1] w fun e w' => e = .returned (.bool r) ∧ Below w.heap.size w w' := by
 have hu32 := Try.underlying32
 have HR0 := Aside0.mk hr0
 have HC0 := Aside0.mk hc0
 clear hr0 hc0
 have HR1 := Aside0.mk hr1
 have HC1 := Aside0.mk hc1
 clear hr1 hc1
 have HB := Aside0.mk (Below.refl w.heap.size w)
 have H : (if (l0.length : Int) = (l1.length : Int) then (watchwordlaw0_SameLsas.l0 k l0 l1 0) else (some false)) = some r := h
 clear h
 by_cases c3 : (l0.length : Int) = (l1.length : Int)
 ·rw [if_pos c3] at H
  have c3b0 : ((l0.length : Int) == (l1.length : Int)) = true := beq_iff_eq.mpr c3
  have c3b1 : ((l0.length : Int) != (l1.length : Int)) = false := bne_eq_false_iff_eq.mpr c3
  have c3b2 : (l0.length == l1.length) = true := by first | simpa using c3 | (simp at c3 ⊢; omega)
  clear c3
  have H' := Aside0.mk H
  clear H
  go_enter Try.func21, Try.ntmps21
  go_wp2
  go_loopg [5] k (fun kq v5 w' => ∃ (x5_1 : Int), v5 = .int .i64 x5_1 ∧ Aside0 (watchwordlaw0_SameLsas.l0 kq l0 l1 x5_1 = some r) ∧ Aside0 (kq ≤ k) ∧ Aside0 (Below w.heap.size w w'))
  case atStart => exact ⟨(0), (by first | rfl | (simp; done) | (simp [*]; done)), H', ⟨Nat.le_refl _⟩, ⟨by repeat (first | (with_reducible first | exact HB.out | apply below_alloc | apply pw_below_drewN | apply below_drew1) | exact HB.out)⟩⟩
  case round =>
   clear H'
   try clear c1
   try clear c2
   try clear p2
   try clear c3
   try clear c3b0
   try clear c3b1
   try clear c3b2
   obtain ⟨x5_1, rfl, HA, HK1, HB⟩ := hrel
   cases gk with
   | zero => exact absurd HA.out (by simp [watchwordlaw0_SameLsas.l0])
   | succ k1 =>
    have H := HA.out
    clear HA
    simp only [watchwordlaw0_SameLsas.l0] at H
    by_cases c4 : x5_1 < (l0.length : Int)
    ·rw [if_pos c4] at H
     have c4b0 : decide (x5_1 < (l0.length : Int)) = true := decide_eq_true c4
     clear c4
     by_cases c5 : 0 ≤ x5_1
     ·rw [if_pos c5] at H
      have c5b0 : decide (0 ≤ x5_1) = true := decide_eq_true c5
      clear c5
      by_cases c6 : x5_1 < (l1.length : Int)
      ·rw [if_pos c6] at H
       have c6b0 : decide (x5_1 < (l1.length : Int)) = true := decide_eq_true c6
       clear c6
       replace H := Option.bind_eq_some_iff.mp H
       obtain ⟨t278, A70, H⟩ := H
       replace H : (if t278 = true then (watchwordlaw0_SameLsas.l0 k1 l0 l1 (wrap64 (x5_1 + 1))) else (some false)) = some r := H
       have A7 := Aside0.mk A70
       clear A70
       by_cases c8 : t278 = true
       ·subst c8
        have H1 : (watchwordlaw0_SameLsas.l0 k1 l0 l1 (wrap64 (x5_1 + 1))) = some r := by rw [if_pos rfl] at H; exact H
        clear H
        have H := H1
        clear H1
        have H' := Aside0.mk H
        clear H
        try go_wp2
        have n0_ := Aside0.mk (below_drew1 HB.out)
        clear HB
        have HB := n0_
        clear n0_
        have p276 : 0 ≤ (x5_1 : Int) := of_decide_eq_true (by first | (with_reducible assumption) | assumption)
        have q276 : x5_1 < (l0.length : Int) := of_decide_eq_true (by first | (with_reducible assumption) | assumption)
        obtain ⟨ad276, A276_3, c276_3, e276, hx276_0, hx276_1, hx276_2, hx276_3, hl276_3, hi276_3⟩ := at_T32 HR0.out x5_1 p276 q276
        have hw276_3 := hx276_3
        have hw276_2 := hx276_2
        have hw276_1 := hx276_1
        have hw276_0 := hx276_0
        cases e276
        replace hx276_0 := (HB.out.cell (World.block_lt_of_cell? w _ hx276_0)).trans hx276_0
        replace hx276_1 := (HB.out.cell (World.block_lt_of_cell? w _ hx276_1)).trans hx276_1
        replace hx276_2 := (HB.out.cell (World.block_lt_of_cell? w _ hx276_2)).trans hx276_2
        replace hx276_3 := (HB.out.cell (World.block_lt_of_cell? w _ hx276_3)).trans hx276_3
        have HR276_3 := Aside0.mk hi276_3
        have HC276_3 := Aside0.mk hl276_3
        clear hi276_3 hl276_3
        replace p276 := eq_true p276
        replace q276 := eq_true q276
        have p277 : 0 ≤ (x5_1 : Int) := of_decide_eq_true (by first | (with_reducible assumption) | assumption)
        have q277 : x5_1 < (l1.length : Int) := of_decide_eq_true (by first | (with_reducible assumption) | assumption)
        obtain ⟨ad277, A277_3, c277_3, e277, hx277_0, hx277_1, hx277_2, hx277_3, hl277_3, hi277_3⟩ := at_T32 HR1.out x5_1 p277 q277
        have hw277_3 := hx277_3
        have hw277_2 := hx277_2
        have hw277_1 := hx277_1
        have hw277_0 := hx277_0
        cases e277
        replace hx277_0 := (HB.out.cell (World.block_lt_of_cell? w _ hx277_0)).trans hx277_0
        replace hx277_1 := (HB.out.cell (World.block_lt_of_cell? w _ hx277_1)).trans hx277_1
        replace hx277_2 := (HB.out.cell (World.block_lt_of_cell? w _ hx277_2)).trans hx277_2
        replace hx277_3 := (HB.out.cell (World.block_lt_of_cell? w _ hx277_3)).trans hx277_3
        have HR277_3 := Aside0.mk hi277_3
        have HC277_3 := Aside0.mk hl277_3
        clear hi277_3 hl277_3
        replace p277 := eq_true p277
        replace q277 := eq_true q277
        refine start_ (n := 10) (S := fun w' => w'.cell? (ad276.add ((x5_1).toNat * 4)) = some (.int .i64 ((rd_T32 l0 x5_1).f0)) ∧ w'.cell? ⟨(ad276.add ((x5_1).toNat * 4)).block, (ad276.add ((x5_1).toNat * 4)).off + 1, none⟩ = some (.int .i64 ((rd_T32 l0 x5_1).f1)) ∧ w'.cell? ⟨(ad276.add ((x5_1).toNat * 4)).block, (ad276.add ((x5_1).toNat * 4)).off + 2, none⟩ = some (.int .i64 ((rd_T32 l0 x5_1).f2)) ∧ w'.cell? ⟨(ad276.add ((x5_1).toNat * 4)).block, (ad276.add ((x5_1).toNat * 4)).off + 3, none⟩ = some (.slice A276_3 ((rd_T32 l0 x5_1).f3).length c276_3) ∧ w'.cell? (ad277.add ((x5_1).toNat * 4)) = some (.int .i64 ((rd_T32 l1 x5_1).f0)) ∧ w'.cell? ⟨(ad277.add ((x5_1).toNat * 4)).block, (ad277.add ((x5_1).toNat * 4)).off + 1, none⟩ = some (.int .i64 ((rd_T32 l1 x5_1).f1)) ∧ w'.cell? ⟨(ad277.add ((x5_1).toNat * 4)).block, (ad277.add ((x5_1).toNat * 4)).off + 2, none⟩ = some (.int .i64 ((rd_T32 l1 x5_1).f2)) ∧ w'.cell? ⟨(ad277.add ((x5_1).toNat * 4)).block, (ad277.add ((x5_1).toNat * 4)).off + 3, none⟩ = some (.slice A277_3 ((rd_T32 l1 x5_1).f3).length c277_3)) (ds := []) #[false, false, false, false, false, false, false, false, false, false] (by kernel_rfl) rfl rfl ⟨((HB.out.cell (World.block_lt_of_cell? w _ hw276_0)).trans hw276_0), ((HB.out.cell (World.block_lt_of_cell? w _ hw276_1)).trans hw276_1), ((HB.out.cell (World.block_lt_of_cell? w _ hw276_2)).trans hw276_2), ((HB.out.cell (World.block_lt_of_cell? w _ hw276_3)).trans hw276_3), ((HB.out.cell (World.block_lt_of_cell? w _ hw277_0)).trans hw277_0), ((HB.out.cell (World.block_lt_of_cell? w _ hw277_1)).trans hw277_1), ((HB.out.cell (World.block_lt_of_cell? w _ hw277_2)).trans hw277_2), ((HB.out.cell (World.block_lt_of_cell? w _ hw277_3)).trans hw277_3)⟩ (fun hHeld => ?_); refine with_tabW watchwordlaw0_SameLsas.tab6 watchwordlaw0_SameLsas.bits6 (fun HT_ HW_ => ?_)
        generalize wr.drew = w9 at HB HR276_3 HR277_3 hx276_0 hx276_1 hx276_2 hx276_3 hx277_0 hx277_1 hx277_2 hx277_3 hHeld ⊢
        refine pure_ (i := 0) (N := some 17) (v := ?_) (a' := ?_) #[true, false, false, false, false, false, false, false, false, false] rfl rfl (any_of HT_.out (by kernel_rfl)) (fun _ _ _ h => h) (Or.inl ⟨by rfl, ?_⟩) ?_ ?_
        rotate_left
        ·intro w'
         go_simp
         with_reducible rfl
        rotate_left
        ·simp only [Act.put, List.setIfInBounds_toArray, List.set_cons_zero, List.set_cons_succ, i64_w, i32_w]
         rfl
        refine pure_ (i := 1) (N := some 18) (v := ?_) (a' := ?_) #[true, true, false, false, false, false, false, false, false, false] rfl rfl (any_of HT_.out (by kernel_rfl)) (fun _ _ _ h => h) (Or.inl ⟨by rfl, ?_⟩) ?_ ?_
        rotate_left
        ·intro w'
         go_simp
         with_reducible rfl
        rotate_left
        ·simp only [Act.put, List.setIfInBounds_toArray, List.set_cons_zero, List.set_cons_succ, i64_w, i32_w]
         rfl
        refine pure_ (i := 2) (N := some 19) (v := ?_) (a' := ?_) #[true, true, true, false, false, false, false, false, false, false] rfl rfl (any_of HT_.out (by kernel_rfl)) (fun _ _ _ h => h) (Or.inl ⟨by rfl, ?_⟩) ?_ ?_
        rotate_left
        ·intro w'
         go_simp
         with_reducible rfl
        rotate_left
        ·simp only [Act.put, List.setIfInBounds_toArray, List.set_cons_zero, List.set_cons_succ, i64_w, i32_w]
         rfl
        refine pure_ (i := 4) (N := some 21) (v := ?_) (a' := ?_) #[true, true, true, false, true, false, false, false, false, false] rfl rfl (any_of HT_.out (by kernel_rfl)) (fun _ _ _ h => h) (Or.inl ⟨by rfl, ?_⟩) ?_ ?_
        rotate_left
        ·intro w'
         go_simp
         with_reducible rfl
        rotate_left
        ·simp only [Act.put, List.setIfInBounds_toArray, List.set_cons_zero, List.set_cons_succ, i64_w, i32_w]
         rfl
        refine pure_ (i := 5) (N := some 22) (v := ?_) (a' := ?_) #[true, true, true, false, true, true, false, false, false, false] rfl rfl (any_of HT_.out (by kernel_rfl)) (fun _ _ _ h => h) (Or.inl ⟨by rfl, ?_⟩) ?_ ?_
        rotate_left
        ·intro w'
         go_simp
         with_reducible rfl
        rotate_left
        ·simp only [Act.put, List.setIfInBounds_toArray, List.set_cons_zero, List.set_cons_succ, i64_w, i32_w]
         rfl
        refine pure_ (i := 6) (N := some 23) (v := ?_) (a' := ?_) #[true, true, true, false, true, true, true, false, false, false] rfl rfl (any_of HT_.out (by kernel_rfl)) (fun _ _ _ h => h) (Or.inl ⟨by rfl, ?_⟩) ?_ ?_
        rotate_left
        ·intro w'
         go_simp
         with_reducible rfl
        rotate_left
        ·simp only [Act.put, List.setIfInBounds_toArray, List.set_cons_zero, List.set_cons_succ, i64_w, i32_w]
         rfl
        refine take_ (i := 3) (N := some 20) (v := ?_) (a' := ?_) #[true, true, true, true, true, true, true, false, false, false] rfl rfl (take_ofW HT_.out HW_.out (by kernel_rfl)) (fun _ _ _ h => h) (Or.inl ⟨by rfl, ?_⟩) hHeld ?_ ?_
        rotate_left
        ·rintro w' ⟨s0, s1, s2, s3, s4, s5, s6, s7⟩
         go_simp
         with_reducible rfl
        rotate_left
        ·simp only [Act.put, List.setIfInBounds_toArray, List.set_cons_zero, List.set_cons_succ, i64_w, i32_w]
         rfl
        refine take_ (i := 7) (N := some 24) (v := ?_) (a' := ?_) #[true, true, true, true, true, true, true, true, false, false] rfl rfl (take_ofW HT_.out HW_.out (by kernel_rfl)) (fun _ _ _ h => h) (Or.inl ⟨by rfl, ?_⟩) hHeld ?_ ?_
        rotate_left
        ·rintro w' ⟨s0, s1, s2, s3, s4, s5, s6, s7⟩
         go_simp
         with_reducible rfl
        rotate_left
        ·simp only [Act.put, List.setIfInBounds_toArray, List.set_cons_zero, List.set_cons_succ, i64_w, i32_w]
         rfl
        refine one_ (i := 8) (N := some 25) #[true, true, true, true, true, true, true, true, true, false] rfl rfl (one_of HT_.out (by kernel_rfl)) (by decide) (fun K hK => ?_)
        refine goes_ Try.func22 (by kernel_rfl) rfl #[.agg #[.int .i64 ((rd_T32 l0 x5_1).f0), .int .i64 ((rd_T32 l0 x5_1).f1), .int .i64 ((rd_T32 l0 x5_1).f2), .slice A276_3 ((rd_T32 l0 x5_1).f3).length c276_3], .agg #[.int .i64 ((rd_T32 l1 x5_1).f0), .int .i64 ((rd_T32 l1 x5_1).f1), .int .i64 ((rd_T32 l1 x5_1).f2), .slice A277_3 ((rd_T32 l1 x5_1).f3).length c277_3]] (by rfl) rfl rfl (by (try simp only [List.map_toArray, List.map_cons, List.map_nil]); first | done | rfl | (simp only [List.length_drop, List.length_take]; rfl)) ?_
        with_reducible refine (watchwordlaw0_SameLsa.calls k1 ((rd_T32 l0 x5_1).f0) ((rd_T32 l0 x5_1).f1) ((rd_T32 l0 x5_1).f2) _ _ ((rd_T32 l0 x5_1).f3) ((rd_T32 l1 x5_1).f0) ((rd_T32 l1 x5_1).f1) ((rd_T32 l1 x5_1).f2) _ _ ((rd_T32 l1 x5_1).f3) true _ ?side1 ?side2 ?side3 ?side4 A7.out).mono ?_
        (case side1 => repeat (first | exact (Kd.C_below HR276_3.out HB.out) | (with_reducible refine Kd.C_alloc ?_ _) | (with_reducible refine Kd.C_drewN ?_ _) | (with_reducible refine Kd.C_drew ?_)))
        (case side2 => exact HC276_3.out)
        (case side3 => repeat (first | exact (Kd.C_below HR277_3.out HB.out) | (with_reducible refine Kd.C_alloc ?_ _) | (with_reducible refine Kd.C_drewN ?_ _) | (with_reducible refine Kd.C_drew ?_)))
        (case side4 => exact HC277_3.out)
        rintro e w10 ⟨rfl, hb⟩
        refine ⟨_, rfl, ?_⟩
        have n0_ := Aside0.mk (below_step (by repeat (first | (with_reducible first | exact HB.out | apply below_alloc | apply pw_below_drewN | apply below_drew1) | exact HB.out)) hb)
        clear HB
        have HB := n0_
        clear n0_
        (try clear hb)
        (try clear hb2)
        (try clear hk)
        (try clear hi)
        refine hK.out _ _ ⟨((HB.out.cell (World.block_lt_of_cell? w _ hw276_0)).trans hw276_0), ((HB.out.cell (World.block_lt_of_cell? w _ hw276_1)).trans hw276_1), ((HB.out.cell (World.block_lt_of_cell? w _ hw276_2)).trans hw276_2), ((HB.out.cell (World.block_lt_of_cell? w _ hw276_3)).trans hw276_3), ((HB.out.cell (World.block_lt_of_cell? w _ hw277_0)).trans hw277_0), ((HB.out.cell (World.block_lt_of_cell? w _ hw277_1)).trans hw277_1), ((HB.out.cell (World.block_lt_of_cell? w _ hw277_2)).trans hw277_2), ((HB.out.cell (World.block_lt_of_cell? w _ hw277_3)).trans hw277_3)⟩ (fun hHeld => ?_)
        clear hK K
        refine norm_ (a' := ?_) ?_ ?_
        rotate_left
        ·show Act.put _ (some 25) _ = _
         simp only [Act.put, List.setIfInBounds_toArray, List.set_cons_zero, List.set_cons_succ, i64_w, i32_w]
         rfl
        refine pure_ (i := 9) (N := some 26) (v := ?_) (a' := ?_) #[true, true, true, true, true, true, true, true, true, true] rfl rfl (any_of HT_.out (by kernel_rfl)) (fun _ _ _ h => h) (Or.inl ⟨by rfl, ?_⟩) ?_ ?_
        rotate_left
        ·intro w'
         go_simp
         with_reducible rfl
        rotate_left
        ·simp only [Act.put, List.setIfInBounds_toArray, List.set_cons_zero, List.set_cons_succ, i64_w, i32_w]
         rfl
        refine done_ (done_of HT_.out (by kernel_rfl)) ?_
        try go_wp2
        go_roundg k1
        case measure => have := HK1.out; omega
        case rel => exact ⟨(wrap64 (x5_1 + 1)), (by first | rfl | (simp; done) | (simp [*]; done)), H', ⟨by have := HK1.out; omega⟩, ⟨by repeat (first | (with_reducible first | exact HB.out | apply below_alloc | apply pw_below_drewN | apply below_drew1) | exact HB.out)⟩⟩
       ·replace c8 := Bool.eq_false_iff.mpr c8
        subst c8
        have H1 : (some false) = some r := by rw [if_neg (show ¬ (false = true) by decide)] at H; exact H
        clear H
        have H := H1
        clear H1
        obtain rfl := Option.some.inj H
        try go_wp2
        have n0_ := Aside0.mk (below_drew1 HB.out)
        clear HB
        have HB := n0_
        clear n0_
        have p276 : 0 ≤ (x5_1 : Int) := of_decide_eq_true (by first | (with_reducible assumption) | assumption)
        have q276 : x5_1 < (l0.length : Int) := of_decide_eq_true (by first | (with_reducible assumption) | assumption)
        obtain ⟨ad276, A276_3, c276_3, e276, hx276_0, hx276_1, hx276_2, hx276_3, hl276_3, hi276_3⟩ := at_T32 HR0.out x5_1 p276 q276
        have hw276_3 := hx276_3
        have hw276_2 := hx276_2
        have hw276_1 := hx276_1
        have hw276_0 := hx276_0
        cases e276
        replace hx276_0 := (HB.out.cell (World.block_lt_of_cell? w _ hx276_0)).trans hx276_0
        replace hx276_1 := (HB.out.cell (World.block_lt_of_cell? w _ hx276_1)).trans hx276_1
        replace hx276_2 := (HB.out.cell (World.block_lt_of_cell? w _ hx276_2)).trans hx276_2
        replace hx276_3 := (HB.out.cell (World.block_lt_of_cell? w _ hx276_3)).trans hx276_3
        have HR276_3 := Aside0.mk hi276_3
        have HC276_3 := Aside0.mk hl276_3
        clear hi276_3 hl276_3
        replace p276 := eq_true p276
        replace q276 := eq_true q276
        have p277 : 0 ≤ (x5_1 : Int) := of_decide_eq_true (by first | (with_reducible assumption) | assumption)
        have q277 : x5_1 < (l1.length : Int) := of_decide_eq_true (by first | (with_reducible assumption) | assumption)
        obtain ⟨ad277, A277_3, c277_3, e277, hx277_0, hx277_1, hx277_2, hx277_3, hl277_3, hi277_3⟩ := at_T32 HR1.out x5_1 p277 q277
        have hw277_3 := hx277_3
        have hw277_2 := hx277_2
        have hw277_1 := hx277_1
        have hw277_0 := hx277_0
        cases e277
        replace hx277_0 := (HB.out.cell (World.block_lt_of_cell? w _ hx277_0)).trans hx277_0
        replace hx277_1 := (HB.out.cell (World.block_lt_of_cell? w _ hx277_1)).trans hx277_1
        replace hx277_2 := (HB.out.cell (World.block_lt_of_cell? w _ hx277_2)).trans hx277_2
        replace hx277_3 := (HB.out.cell (World.block_lt_of_cell? w _ hx277_3)).trans hx277_3
        have HR277_3 := Aside0.mk hi277_3
        have HC277_3 := Aside0.mk hl277_3
        clear hi277_3 hl277_3
        replace p277 := eq_true p277
        replace q277 := eq_true q277
        refine start_ (n := 10) (S := fun w' => w'.cell? (ad276.add ((x5_1).toNat * 4)) = some (.int .i64 ((rd_T32 l0 x5_1).f0)) ∧ w'.cell? ⟨(ad276.add ((x5_1).toNat * 4)).block, (ad276.add ((x5_1).toNat * 4)).off + 1, none⟩ = some (.int .i64 ((rd_T32 l0 x5_1).f1)) ∧ w'.cell? ⟨(ad276.add ((x5_1).toNat * 4)).block, (ad276.add ((x5_1).toNat * 4)).off + 2, none⟩ = some (.int .i64 ((rd_T32 l0 x5_1).f2)) ∧ w'.cell? ⟨(ad276.add ((x5_1).toNat * 4)).block, (ad276.add ((x5_1).toNat * 4)).off + 3, none⟩ = some (.slice A276_3 ((rd_T32 l0 x5_1).f3).length c276_3) ∧ w'.cell? (ad277.add ((x5_1).toNat * 4)) = some (.int .i64 ((rd_T32 l1 x5_1).f0)) ∧ w'.cell? ⟨(ad277.add ((x5_1).toNat * 4)).block, (ad277.add ((x5_1).toNat * 4)).off + 1, none⟩ = some (.int .i64 ((rd_T32 l1 x5_1).f1)) ∧ w'.cell? ⟨(ad277.add ((x5_1).toNat * 4)).block, (ad277.add ((x5_1).toNat * 4)).off + 2, none⟩ = some (.int .i64 ((rd_T32 l1 x5_1).f2)) ∧ w'.cell? ⟨(ad277.add ((x5_1).toNat * 4)).block, (ad277.add ((x5_1).toNat * 4)).off + 3, none⟩ = some (.slice A277_3 ((rd_T32 l1 x5_1).f3).length c277_3)) (ds := []) #[false, false, false, false, false, false, false, false, false, false] (by kernel_rfl) rfl rfl ⟨((HB.out.cell (World.block_lt_of_cell? w _ hw276_0)).trans hw276_0), ((HB.out.cell (World.block_lt_of_cell? w _ hw276_1)).trans hw276_1), ((HB.out.cell (World.block_lt_of_cell? w _ hw276_2)).trans hw276_2), ((HB.out.cell (World.block_lt_of_cell? w _ hw276_3)).trans hw276_3), ((HB.out.cell (World.block_lt_of_cell? w _ hw277_0)).trans hw277_0), ((HB.out.cell (World.block_lt_of_cell? w _ hw277_1)).trans hw277_1), ((HB.out.cell (World.block_lt_of_cell? w _ hw277_2)).trans hw277_2), ((HB.out.cell (World.block_lt_of_cell? w _ hw277_3)).trans hw277_3)⟩ (fun hHeld => ?_); refine with_tabW watchwordlaw0_SameLsas.tab6 watchwordlaw0_SameLsas.bits6 (fun HT_ HW_ => ?_)
        generalize wr.drew = w11 at HB HR276_3 HR277_3 hx276_0 hx276_1 hx276_2 hx276_3 hx277_0 hx277_1 hx277_2 hx277_3 hHeld ⊢
        refine pure_ (i := 0) (N := some 17) (v := ?_) (a' := ?_) #[true, false, false, false, false, false, false, false, false, false] rfl rfl (any_of HT_.out (by kernel_rfl)) (fun _ _ _ h => h) (Or.inl ⟨by rfl, ?_⟩) ?_ ?_
        rotate_left
        ·intro w'
         go_simp
         with_reducible rfl
        rotate_left
        ·simp only [Act.put, List.setIfInBounds_toArray, List.set_cons_zero, List.set_cons_succ, i64_w, i32_w]
         rfl
        refine pure_ (i := 1) (N := some 18) (v := ?_) (a' := ?_) #[true, true, false, false, false, false, false, false, false, false] rfl rfl (any_of HT_.out (by kernel_rfl)) (fun _ _ _ h => h) (Or.inl ⟨by rfl, ?_⟩) ?_ ?_
        rotate_left
        ·intro w'
         go_simp
         with_reducible rfl
        rotate_left
        ·simp only [Act.put, List.setIfInBounds_toArray, List.set_cons_zero, List.set_cons_succ, i64_w, i32_w]
         rfl
        refine pure_ (i := 2) (N := some 19) (v := ?_) (a' := ?_) #[true, true, true, false, false, false, false, false, false, false] rfl rfl (any_of HT_.out (by kernel_rfl)) (fun _ _ _ h => h) (Or.inl ⟨by rfl, ?_⟩) ?_ ?_
        rotate_left
        ·intro w'
         go_simp
         with_reducible rfl
        rotate_left
        ·simp only [Act.put, List.setIfInBounds_toArray, List.set_cons_zero, List.set_cons_succ, i64_w, i32_w]
         rfl
        refine pure_ (i := 4) (N := some 21) (v := ?_) (a' := ?_) #[true, true, true, false, true, false, false, false, false, false] rfl rfl (any_of HT_.out (by kernel_rfl)) (fun _ _ _ h => h) (Or.inl ⟨by rfl, ?_⟩) ?_ ?_
        rotate_left
        ·intro w'
         go_simp
         with_reducible rfl
        rotate_left
        ·simp only [Act.put, List.setIfInBounds_toArray, List.set_cons_zero, List.set_cons_succ, i64_w, i32_w]
         rfl
        refine pure_ (i := 5) (N := some 22) (v := ?_) (a' := ?_) #[true, true, true, false, true, true, false, false, false, false] rfl rfl (any_of HT_.out (by kernel_rfl)) (fun _ _ _ h => h) (Or.inl ⟨by rfl, ?_⟩) ?_ ?_
        rotate_left
        ·intro w'
         go_simp
         with_reducible rfl
        rotate_left
        ·simp only [Act.put, List.setIfInBounds_toArray, List.set_cons_zero, List.set_cons_succ, i64_w, i32_w]
         rfl
        refine pure_ (i := 6) (N := some 23) (v := ?_) (a' := ?_) #[true, true, true, false, true, true, true, false, false, false] rfl rfl (any_of HT_.out (by kernel_rfl)) (fun _ _ _ h => h) (Or.inl ⟨by rfl, ?_⟩) ?_ ?_
        rotate_left
        ·intro w'
         go_simp
         with_reducible rfl
        rotate_left
        ·simp only [Act.put, List.setIfInBounds_toArray, List.set_cons_zero, List.set_cons_succ, i64_w, i32_w]
         rfl
        refine take_ (i := 3) (N := some 20) (v := ?_) (a' := ?_) #[true, true, true, true, true, true, true, false, false, false] rfl rfl (take_ofW HT_.out HW_.out (by kernel_rfl)) (fun _ _ _ h => h) (Or.inl ⟨by rfl, ?_⟩) hHeld ?_ ?_
        rotate_left
        ·rintro w' ⟨s0, s1, s2, s3, s4, s5, s6, s7⟩
         go_simp
         with_reducible rfl
        rotate_left
        ·simp only [Act.put, List.setIfInBounds_toArray, List.set_cons_zero, List.set_cons_succ, i64_w, i32_w]
         rfl
        refine take_ (i := 7) (N := some 24) (v := ?_) (a' := ?_) #[true, true, true, true, true, true, true, true, false, false] rfl rfl (take_ofW HT_.out HW_.out (by kernel_rfl)) (fun _ _ _ h => h) (Or.inl ⟨by rfl, ?_⟩) hHeld ?_ ?_
        rotate_left
        ·rintro w' ⟨s0, s1, s2, s3, s4, s5, s6, s7⟩
         go_simp
         with_reducible rfl
        rotate_left
        ·simp only [Act.put, List.setIfInBounds_toArray, List.set_cons_zero, List.set_cons_succ, i64_w, i32_w]
         rfl
        refine one_ (i := 8) (N := some 25) #[true, true, true, true, true, true, true, true, true, false] rfl rfl (one_of HT_.out (by kernel_rfl)) (by decide) (fun K hK => ?_)
        refine goes_ Try.func22 (by kernel_rfl) rfl #[.agg #[.int .i64 ((rd_T32 l0 x5_1).f0), .int .i64 ((rd_T32 l0 x5_1).f1), .int .i64 ((rd_T32 l0 x5_1).f2), .slice A276_3 ((rd_T32 l0 x5_1).f3).length c276_3], .agg #[.int .i64 ((rd_T32 l1 x5_1).f0), .int .i64 ((rd_T32 l1 x5_1).f1), .int .i64 ((rd_T32 l1 x5_1).f2), .slice A277_3 ((rd_T32 l1 x5_1).f3).length c277_3]] (by rfl) rfl rfl (by (try simp only [List.map_toArray, List.map_cons, List.map_nil]); first | done | rfl | (simp only [List.length_drop, List.length_take]; rfl)) ?_
        with_reducible refine (watchwordlaw0_SameLsa.calls k1 ((rd_T32 l0 x5_1).f0) ((rd_T32 l0 x5_1).f1) ((rd_T32 l0 x5_1).f2) _ _ ((rd_T32 l0 x5_1).f3) ((rd_T32 l1 x5_1).f0) ((rd_T32 l1 x5_1).f1) ((rd_T32 l1 x5_1).f2) _ _ ((rd_T32 l1 x5_1).f3) false _ ?side1 ?side2 ?side3 ?side4 A7.out).mono ?_
        (case side1 => repeat (first | exact (Kd.C_below HR276_3.out HB.out) | (with_reducible refine Kd.C_alloc ?_ _) | (with_reducible refine Kd.C_drewN ?_ _) | (with_reducible refine Kd.C_drew ?_)))
        (case side2 => exact HC276_3.out)
        (case side3 => repeat (first | exact (Kd.C_below HR277_3.out HB.out) | (with_reducible refine Kd.C_alloc ?_ _) | (with_reducible refine Kd.C_drewN ?_ _) | (with_reducible refine Kd.C_drew ?_)))
        (case side4 => exact HC277_3.out)
        rintro e w12 ⟨rfl, hb⟩
        refine ⟨_, rfl, ?_⟩
        have n0_ := Aside0.mk (below_step (by repeat (first | (with_reducible first | exact HB.out | apply below_alloc | apply pw_below_drewN | apply below_drew1) | exact HB.out)) hb)
        clear HB
        have HB := n0_
        clear n0_
        (try clear hb)
        (try clear hb2)
        (try clear hk)
        (try clear hi)
        refine hK.out _ _ ⟨((HB.out.cell (World.block_lt_of_cell? w _ hw276_0)).trans hw276_0), ((HB.out.cell (World.block_lt_of_cell? w _ hw276_1)).trans hw276_1), ((HB.out.cell (World.block_lt_of_cell? w _ hw276_2)).trans hw276_2), ((HB.out.cell (World.block_lt_of_cell? w _ hw276_3)).trans hw276_3), ((HB.out.cell (World.block_lt_of_cell? w _ hw277_0)).trans hw277_0), ((HB.out.cell (World.block_lt_of_cell? w _ hw277_1)).trans hw277_1), ((HB.out.cell (World.block_lt_of_cell? w _ hw277_2)).trans hw277_2), ((HB.out.cell (World.block_lt_of_cell? w _ hw277_3)).trans hw277_3)⟩ (fun hHeld => ?_)
        clear hK K
        refine norm_ (a' := ?_) ?_ ?_
        rotate_left
        ·show Act.put _ (some 25) _ = _
         simp only [Act.put, List.setIfInBounds_toArray, List.set_cons_zero, List.set_cons_succ, i64_w, i32_w]
         rfl
        refine pure_ (i := 9) (N := some 26) (v := ?_) (a' := ?_) #[true, true, true, true, true, true, true, true, true, true] rfl rfl (any_of HT_.out (by kernel_rfl)) (fun _ _ _ h => h) (Or.inl ⟨by rfl, ?_⟩) ?_ ?_
        rotate_left
        ·intro w'
         go_simp
         with_reducible rfl
        rotate_left
        ·simp only [Act.put, List.setIfInBounds_toArray, List.set_cons_zero, List.set_cons_succ, i64_w, i32_w]
         rfl
        refine done_ (done_of HT_.out (by kernel_rfl)) ?_
        try go_wp2
        go_ret
        exact ⟨by first | rfl | (simp [errW_none, errW_some] <;> rfl) | (simp [*, errW_none, errW_some] <;> rfl), by repeat (first | (with_reducible first | exact HB.out | apply below_alloc | apply pw_below_drewN | apply below_drew1) | exact HB.out)⟩
      ·rw [if_neg c6] at H
       exact absurd H (by simp)
     ·rw [if_neg c5] at H
      exact absurd H (by simp)
    ·rw [if_neg c4] at H
     have c4b0 : decide (x5_1 < (l0.length : Int)) = false := decide_eq_false c4
     clear c4
     obtain rfl := Option.some.inj H
     go_wp2
     go_ret
     exact ⟨by first | rfl | (simp [errW_none, errW_some] <;> rfl) | (simp [*, errW_none, errW_some] <;> rfl), by repeat (first | (with_reducible first | exact HB.out | apply below_alloc | apply pw_below_drewN | apply below_drew1) | exact HB.out)⟩
 ·rw [if_neg c3] at H
  have c3b0 : ((l0.length : Int) == (l1.length : Int)) = false := beq_eq_false_iff_ne.mpr c3
  have c3b1 : ((l0.length : Int) != (l1.length : Int)) = true := bne_iff_ne.mpr c3
  have c3b2 : (l0.length == l1.length) = false := by first | simpa using c3 | (simp at c3 ⊢; omega)
  obtain rfl := Option.some.inj H
  go_enter Try.func21, Try.ntmps21
  go_wp2
  go_ret
  exact ⟨by first | rfl | (simp [errW_none, errW_some] <;> rfl) | (simp [*, errW_none, errW_some] <;> rfl), by repeat (first | (with_reducible first | exact HB.out | apply below_alloc | apply pw_below_drewN | apply below_drew1) | exact HB.out)⟩

end Go.Proofs.Ytbpoflicphgokaa.Q18
namespace Go.Proofs.Ytbpoflicphgokaa.Q18
open Go.RowKit Go.Proofs.YtbpoflicphgokaaW.PrintWords Go.Proofs.YtbpoflicphgokaaW.PrintLast Go.Proofs.YtbpoflicphgokaaW.PrintMore
attribute [local go_sem] max2_int min2_int max_two min_two max_three min_three max_four min_four   -- for this text's walks alone
set_option linter.unusedVariables false
set_option linter.unusedSimpArgs false

/-! ### watchwordlaw0_SameInts: function 23 -/
def watchwordlaw0_SameInts.l0 : Nat → List Int → List Int → Int → Option (Bool)
 | 0, _, _, _ => none
 | k + 1, x0, x1, x5 => if x5 < (x0.length : Int) then (if 0 ≤ x5 then (if x5 < (x1.length : Int) then (if (rd x0 x5) = (rd x1 x5) then (watchwordlaw0_SameInts.l0 k x0 x1 (wrap64 (x5 + 1))) else (some false)) else (none)) else (none)) else (some true)
def watchwordlaw0_SameInts.f (k : Nat) (l0 : List Int) (l1 : List Int) : Option (Bool) := if (l0.length : Int) = (l1.length : Int) then (watchwordlaw0_SameInts.l0 k l0 l1 0) else (some false)
theorem watchwordlaw0_SameInts.mono_l : ∀ k, (∀ y0 y1 y2, LeO (watchwordlaw0_SameInts.l0 k y0 y1 y2) (watchwordlaw0_SameInts.l0 (k + 1) y0 y1 y2))
 | 0 => fun _ _ _ r h => by simp [watchwordlaw0_SameInts.l0] at h
 | k + 1 => by
  have ih0 := watchwordlaw0_SameInts.mono_l k
  ·intro y0 y1 y2
   unfold watchwordlaw0_SameInts.l0
   repeat' first
   | (with_reducible exact ih0 _ _ _)
   | (with_reducible exact LeO.refl _)
   | (with_reducible exact LeO.none _)
   | (with_reducible refine LeO.ite ?_ ?_)
   | (with_reducible refine LeO.bind ?_ (fun _ => ?_))
   | exact ih0 _ _ _
   | exact LeO.none _
   | refine LeO.ite ?_ ?_
   | refine LeO.bind ?_ (fun _ => ?_)
theorem watchwordlaw0_SameInts.mono : ∀ a0 a1 k, LeO (watchwordlaw0_SameInts.f k a0 a1) (watchwordlaw0_SameInts.f (k + 1) a0 a1) := by
 intro a0 a1 k
 have ih0 := watchwordlaw0_SameInts.mono_l k
 unfold watchwordlaw0_SameInts.f
 repeat' first
   | (with_reducible exact ih0 _ _ _)
   | (with_reducible exact LeO.refl _)
   | (with_reducible exact LeO.none _)
   | (with_reducible refine LeO.ite ?_ ?_)
   | (with_reducible refine LeO.bind ?_ (fun _ => ?_))
   | exact ih0 _ _ _
   | exact LeO.none _
   | refine LeO.ite ?_ ?_
   | refine LeO.bind ?_ (fun _ => ?_)
set_option maxHeartbeats 8000000 in
set_option maxRecDepth 100000 in
theorem watchwordlaw0_SameInts.calls (k : Nat) (A0 : Option Addr) (c0 : Nat) (l0 : List Int) (A1 : Option Addr) (c1 : Nat) (l1 : List Int) (r : Bool) (w : World) (hr0 : Kd.C (Kd.int .i64) w A0 l0.length l0) (hc0 : l0.length ≤ c0) (hr1 : Kd.C (Kd.int .i64) w A1 l1.length l1) (hc1 : l1.length ≤ c1) (h : watchwordlaw0_SameInts.f k l0 l1 = some r) :
  Calls Try.prog 23 #[.slice A0 l0.length c0, .slice A1 l1.length c1] w fun e w' => e = .returned (.bool r) ∧ Drawn0 w w' := by
 have HR0 := Aside0.mk hr0
 have HC0 := Aside0.mk hc0
 clear hr0 hc0
 have HR1 := Aside0.mk hr1
 have HC1 := Aside0.mk hc1
 clear hr1 hc1
 have H : (if (l0.length : Int) = (l1.length : Int) then (watchwordlaw0_SameInts.l0 k l0 l1 0) else (some false)) = some r := h
 clear h
 by_cases c3 : (l0.length : Int) = (l1.length : Int)
 ·rw [if_pos c3] at H
  have c3b0 : ((l0.length : Int) == (l1.length : Int)) = true := beq_iff_eq.mpr c3
  have c3b1 : ((l0.length : Int) != (l1.length : Int)) = false := bne_eq_false_iff_eq.mpr c3
  have c3b2 : (l0.length == l1.length) = true := by first | simpa using c3 | (simp at c3 ⊢; omega)
  clear c3
  have H' := Aside0.mk H
  clear H
  go_enter Try.func23, Try.ntmps23
  go_wp2
  repeat (go_quiet (fail); try go_wp2)
  go_loopg [5] k (fun kq v5 w' => ∃ (x5_1 : Int), v5 = .int .i64 x5_1 ∧ Aside0 (watchwordlaw0_SameInts.l0 kq l0 l1 x5_1 = some r) ∧ Aside0 (kq ≤ k) ∧ Drawn0 w w')
  case atStart => exact ⟨(0), (by first | rfl | (simp; done) | (simp [*]; done)), H', ⟨Nat.le_refl _⟩, by repeat (first | exact Drawn0.refl _ | apply Drawn0.step)⟩
  case round =>
   clear H'
   try clear c1
   try clear c2
   try clear p2
   try clear c3
   try clear c3b0
   try clear c3b1
   try clear c3b2
   obtain ⟨x5_1, rfl, HA, HK1, ⟨m1, rfl⟩⟩ := hrel
   cases gk with
   | zero => exact absurd HA.out (by simp [watchwordlaw0_SameInts.l0])
   | succ k1 =>
    have H := HA.out
    clear HA
    simp only [watchwordlaw0_SameInts.l0] at H
    by_cases c4 : x5_1 < (l0.length : Int)
    ·rw [if_pos c4] at H
     have c4b0 : decide (x5_1 < (l0.length : Int)) = true := decide_eq_true c4
     clear c4
     by_cases c5 : 0 ≤ x5_1
     ·rw [if_pos c5] at H
      have c5b0 : decide (0 ≤ x5_1) = true := decide_eq_true c5
      clear c5
      by_cases c6 : x5_1 < (l1.length : Int)
      ·rw [if_pos c6] at H
       have c6b0 : decide (x5_1 < (l1.length : Int)) = true := decide_eq_true c6
       clear c6
       by_cases c7 : (rd l0 x5_1) = (rd l1 x5_1)
       ·rw [if_pos c7] at H
        have c7b0 : ((rd l0 x5_1) == (rd l1 x5_1)) = true := beq_iff_eq.mpr c7
        have c7b1 : ((rd l0 x5_1) != (rd l1 x5_1)) = false := bne_eq_false_iff_eq.mpr c7
        clear c7
        have H' := Aside0.mk H
        clear H
        have p279 : 0 ≤ (x5_1 : Int) := of_decide_eq_true (by first | (with_reducible assumption) | assumption)
        have q279 : x5_1 < (l0.length : Int) := of_decide_eq_true (by first | (with_reducible assumption) | assumption)
        obtain ⟨ad279, e279, hx279_0⟩ := Kd.at_int HR0.out x5_1 p279 q279
        cases e279
        replace p279 := eq_true p279
        replace q279 := eq_true q279
        have p280 : 0 ≤ (x5_1 : Int) := of_decide_eq_true (by first | (with_reducible assumption) | assumption)
        have q280 : x5_1 < (l1.length : Int) := of_decide_eq_true (by first | (with_reducible assumption) | assumption)
        obtain ⟨ad280, e280, hx280_0⟩ := Kd.at_int HR1.out x5_1 p280 q280
        cases e280
        replace p280 := eq_true p280
        replace q280 := eq_true q280
        go_wp2
        repeat (go_quiet (fail); try go_wp2)
        go_roundg k1
        case measure => have := HK1.out; omega
        case rel => exact ⟨(wrap64 (x5_1 + 1)), (by first | rfl | (simp; done) | (simp [*]; done)), H', ⟨by have := HK1.out; omega⟩, by repeat (first | exact Drawn0.refl _ | apply Drawn0.step)⟩
       ·rw [if_neg c7] at H
        have c7b0 : ((rd l0 x5_1) == (rd l1 x5_1)) = false := beq_eq_false_iff_ne.mpr c7
        have c7b1 : ((rd l0 x5_1) != (rd l1 x5_1)) = true := bne_iff_ne.mpr c7
        obtain rfl := Option.some.inj H
        have p279 : 0 ≤ (x5_1 : Int) := of_decide_eq_true (by first | (with_reducible assumption) | assumption)
        have q279 : x5_1 < (l0.length : Int) := of_decide_eq_true (by first | (with_reducible assumption) | assumption)
        obtain ⟨ad279, e279, hx279_0⟩ := Kd.at_int HR0.out x5_1 p279 q279
        cases e279
        replace p279 := eq_true p279
        replace q279 := eq_true q279
        have p280 : 0 ≤ (x5_1 : Int) := of_decide_eq_true (by first | (with_reducible assumption) | assumption)
        have q280 : x5_1 < (l1.length : Int) := of_decide_eq_true (by first | (with_reducible assumption) | assumption)
        obtain ⟨ad280, e280, hx280_0⟩ := Kd.at_int HR1.out x5_1 p280 q280
        cases e280
        replace p280 := eq_true p280
        replace q280 := eq_true q280
        go_wp2
        repeat (go_quiet (fail); try go_wp2)
        go_ret
        exact ⟨by first | rfl | (simp; done) | (simp [*]; done), by repeat (first | exact Drawn0.refl _ | apply Drawn0.step)⟩
      ·rw [if_neg c6] at H
       exact absurd H (by simp)
     ·rw [if_neg c5] at H
      exact absurd H (by simp)
    ·rw [if_neg c4] at H
     have c4b0 : decide (x5_1 < (l0.length : Int)) = false := decide_eq_false c4
     clear c4
     obtain rfl := Option.some.inj H
     go_wp2
     repeat (go_quiet (fail); try go_wp2)
     go_ret
     exact ⟨by first | rfl | (simp; done) | (simp [*]; done), by repeat (first | exact Drawn0.refl _ | apply Drawn0.step)⟩
 ·rw [if_neg c3] at H
  have c3b0 : ((l0.length : Int) == (l1.length : Int)) = false := beq_eq_false_iff_ne.mpr c3
  have c3b1 : ((l0.length : Int) != (l1.length : Int)) = true := bne_iff_ne.mpr c3
  have c3b2 : (l0.length == l1.length) = false := by first | simpa using c3 | (simp at c3 ⊢; omega)
  obtain rfl := Option.some.inj H
  go_enter Try.func23, Try.ntmps23
  go_wp2
  repeat (go_quiet (fail); try go_wp2)
  go_ret
  exact ⟨by first | rfl | (simp; done) | (simp [*]; done), by repeat (first | exact Drawn0.refl _ | apply Drawn0.step)⟩

end Go.Proofs.Ytbpoflicphgokaa.Q18
namespace Go.Proofs.Ytbpoflicphgokaa.Q18
open Go.RowKit Go.Proofs.YtbpoflicphgokaaW.PrintWords Go.Proofs.YtbpoflicphgokaaW.PrintLast Go.Proofs.YtbpoflicphgokaaW.PrintMore
attribute [local go_sem] max2_int min2_int max_two min_two max_three min_three max_four min_four   -- for this text's walks alone
set_option linter.unusedVariables false
set_option linter.unusedSimpArgs false

attribute [local go_sem high] eqA56
/-! ### watchwordlaw0_CopyLsa: function 14 -/
def watchwordlaw0_CopyLsa.f (a0_0 : Int) (a0_1 : Int) (a0_2 : Int) (l0_3 : List (S56)) : Option (Int × Int × Int × (List (S56))) := (some (([] : List (S56)) : List (S56))).bind fun y243 => (if y243.length + l0_3.length < 8796093022208 then (some (a0_0, a0_1, a0_2, (y243 ++ l0_3))) else (none))
set_option maxHeartbeats 8000000 in
set_option maxRecDepth 100000 in
theorem watchwordlaw0_CopyLsa.calls (a0_0 : Int) (a0_1 : Int) (a0_2 : Int) (A0_3 : Option Addr) (c0_3 : Nat) (l0_3 : List (S56)) (r1 : Int) (r2 : Int) (r3 : Int) (r4 : List (S56)) (w : World) (hr0_3 : Kd.C k56 w A0_3 l0_3.length l0_3) (hc0_3 : l0_3.length ≤ c0_3) (h : watchwordlaw0_CopyLsa.f a0_0 a0_1 a0_2 l0_3 = some (r1, r2, r3, r4)) :
  Calls Try.prog 14 #[.agg #[.int .i64 a0_0, .int .i64 a0_1, .int .i64 a0_2, .slice A0_3 l0_3.length c0_3]] w fun e w' => ∃ v3_ : Value, e = .returned (.agg #[.int .i64 r1, .int .i64 r2, .int .i64 r3, v3_]) ∧ Kd.R k56 56 w' w.heap.size (fun _ => True) v3_ r4 ∧ Below w.heap.size w w' := by
 have hu32 := Try.underlying32
 have HR0_3 := Aside0.mk hr0_3
 have HC0_3 := Aside0.mk hc0_3
 clear hr0_3 hc0_3
 have HB := Aside0.mk (Below.refl w.heap.size w)
 have H : ((some (([] : List (S56)) : List (S56))).bind fun y243 => (if y243.length + l0_3.length < 8796093022208 then (some (a0_0, a0_1, a0_2, (y243 ++ l0_3))) else (none))) = some (r1, r2, r3, r4) := h
 clear h
 obtain ⟨y243, hy243⟩ : ∃ y_ : List (S56), y_ = (([] : List (S56))) := ⟨_, rfl⟩
 replace H : (if y243.length + l0_3.length < 8796093022208 then (some (a0_0, a0_1, a0_2, (y243 ++ l0_3))) else (none)) = some (r1, r2, r3, r4) := by first | (rw [hy243]; with_reducible exact H) | (have H2_ := (Option.bind_some _ _).symm.trans H; rw [hy243]; with_reducible exact H2_) | (have H2_ := (Option.bind_some _ _).symm.trans H; with_reducible exact H2_) | with_reducible exact H | (rw [hy243]; exact H) | exact H
 have Ny243 := Aside0.mk hy243
 clear hy243
 by_cases c2 : y243.length + l0_3.length < 8796093022208
 ·rw [if_pos c2] at H
  have LMc2 := Aside0.mk c2
  clear c2
  obtain ⟨y246, hy246⟩ : ∃ y_ : List (S56), y_ = (y243 ++ l0_3) := ⟨_, rfl⟩
  replace H : (some (a0_0, a0_1, a0_2, y246)) = some (r1, r2, r3, r4) := by first | (rw [hy246]; with_reducible exact H) | (have H2_ := (Option.bind_some _ _).symm.trans H; rw [hy246]; with_reducible exact H2_) | (have H2_ := (Option.bind_some _ _).symm.trans H; with_reducible exact H2_) | with_reducible exact H | (rw [hy246]; exact H) | exact H
  have Ny246 := Aside0.mk hy246
  clear hy246
  simp only [Option.some.injEq, Prod.mk.injEq] at H
  obtain ⟨rfl, rfl, rfl, rfl⟩ := H
  go_enter Try.func14, Try.ntmps14
  go_wp2_with (first | ((with_reducible refine gate_dst (N := 1) rfl ?_); refine box_event ?hg (N := 1) ?hd (cs := #[.int .i64 a0_0, .int .i64 a0_1, .int .i64 a0_2, .slice A0_3 l0_3.length c0_3]) (t := 32) ?hr ?_; (case hd => rfl); (case hg => rfl); (case hr => first | (go_simp; done) | (go_simp; rfl)); intro gb241 hg w3 hbox hb; have n0_ := Aside0.mk (below_step (by repeat (first | (with_reducible first | exact HB.out | apply below_alloc | apply pw_below_drewN | apply below_drew1) | exact HB.out)) hb); have n1_ := Aside0.mk (hbox); have n2_ := Aside0.mk ((by rw [hg]; exact (below_size (by repeat (first | (with_reducible first | exact HB.out | apply below_alloc | apply pw_below_drewN | apply below_drew1) | exact HB.out))) : w.heap.size ≤ gb241)); have n3_ := Aside0.mk ((by rw [hg]; exact (below_size (by repeat (first | (with_reducible first | exact HB.out | apply below_alloc | apply pw_below_drewN | apply below_drew1) | exact HB.out))) : w.heap.size ≤ gb241)); clear HB; have HB := n0_; have BK241 := n1_; have GW241 := n2_; have GE241 := n3_; clear n0_ n1_ n2_ n3_; clear hb hbox hg) | ((with_reducible refine gate_dst (N := 2) rfl ?_); refine box_event ?hg (N := 2) ?hd (cs := #[.int .i64 0, .int .i64 0, .int .i64 0, .slice none 0 0]) (t := 32) ?hr ?_; (case hd => rfl); (case hg => rfl); (case hr => first | (go_simp; done) | (go_simp; rfl)); intro gb242 hg w4 hbox hb; have n0_ := Aside0.mk (blk_below (g := gb241) (o := .cells #[.int .i64 a0_0, .int .i64 a0_1, .int .i64 a0_2, .slice A0_3 l0_3.length c0_3] 32 (0, 0)) (by (with_reducible repeat (first | refine blk_drewN ?_ _ | refine blk_drew ?_ | refine blk_alloc ?_ _)); exact BK241.out) hb); have n1_ := Aside0.mk (below_step (by repeat (first | (with_reducible first | exact HB.out | apply below_alloc | apply pw_below_drewN | apply below_drew1 | refine below_set ?_ GE241.out) | exact HB.out)) hb); have n2_ := Aside0.mk (hbox); have n3_ := Aside0.mk ((by rw [hg]; exact (below_size (by repeat (first | (with_reducible first | exact HB.out | apply below_alloc | apply pw_below_drewN | apply below_drew1 | refine below_set ?_ GE241.out) | exact HB.out))) : w.heap.size ≤ gb242)); have n4_ := Aside0.mk ((by rw [hg]; exact (below_size (by repeat (first | (with_reducible first | exact HB.out | apply below_alloc | apply pw_below_drewN | apply below_drew1 | refine below_set ?_ GE241.out) | exact HB.out))) : w.heap.size ≤ gb242)); have n5_ := Aside0.mk ((by rw [hg]; exact Nat.ne_of_lt (blk_lt (g := gb241) (o := .cells #[.int .i64 a0_0, .int .i64 a0_1, .int .i64 a0_2, .slice A0_3 l0_3.length c0_3] 32 (0, 0)) (by (with_reducible repeat (first | refine blk_drewN ?_ _ | refine blk_drew ?_ | refine blk_alloc ?_ _)); exact BK241.out)) : gb241 ≠ gb242)); have n6_ := Aside0.mk ((by rw [hg]; exact Nat.ne_of_gt (blk_lt (g := gb241) (o := .cells #[.int .i64 a0_0, .int .i64 a0_1, .int .i64 a0_2, .slice A0_3 l0_3.length c0_3] 32 (0, 0)) (by (with_reducible repeat (first | refine blk_drewN ?_ _ | refine blk_drew ?_ | refine blk_alloc ?_ _)); exact BK241.out)) : gb242 ≠ gb241)); clear BK241; clear HB; have BK241 := n0_; have HB := n1_; have BK242 := n2_; have GW242 := n3_; have GE242 := n4_; have NB241_242 := n5_; have NB242_241 := n6_; clear n0_ n1_ n2_ n3_ n4_ n5_ n6_; clear hb hbox hg) | ((with_reducible refine gate_dst (N := 3) rfl ?_); refine Kd.R_lit k56 _ 56 ?hg (N := 3) ?hd (xs := ([] : List (S56))) (inner := []) (ok := fun _ => True) (okp := fun _ => True) ?hr ?hp (fun _ hk => hk) trivial (Below.refl _ _) (Nat.le_refl _) (by simp) ?_; (case hd => rfl); (case hg => rfl); (case hr => first | (go_simp; done) | (go_simp; rfl)); (case hp => exact (Reps.none _ _)); intro v244 w5 ho6 hb hg_ hnew_; clear hg_ hnew_; (first | rw [← Ny243.out] at ho6 | (simp only [Int.reduceToNat] at ho6; rw [← Ny243.out] at ho6)); have n0_ := Aside0.mk (Kd.R_lower ho6 (below_size (by repeat (first | (with_reducible first | exact HB.out | apply below_alloc | apply pw_below_drewN | apply below_drew1 | refine below_set ?_ GE241.out | refine below_set ?_ GE242.out) | exact HB.out)))); have n1_ := Aside0.mk (blk_below (g := gb241) (o := .cells #[.int .i64 a0_0, .int .i64 a0_1, .int .i64 a0_2, .slice A0_3 l0_3.length c0_3] 32 (0, 0)) (by (with_reducible repeat (first | refine blk_drewN ?_ _ | refine blk_drew ?_ | refine blk_alloc ?_ _)); exact BK241.out) hb); have n2_ := Aside0.mk (blk_below (g := gb242) (o := .cells #[.int .i64 0, .int .i64 0, .int .i64 0, .slice none 0 0] 32 (0, 0)) (by (with_reducible repeat (first | refine blk_drewN ?_ _ | refine blk_drew ?_ | refine blk_alloc ?_ _)); exact BK242.out) hb); have n3_ := Aside0.mk (below_step (by repeat (first | (with_reducible first | exact HB.out | apply below_alloc | apply pw_below_drewN | apply below_drew1 | refine below_set ?_ GE241.out | refine below_set ?_ GE242.out) | exact HB.out)) hb); clear BK241; clear BK242; clear HB; have HO245 := n0_; have BK241 := n1_; have BK242 := n2_; have HB := n3_; clear n0_ n1_ n2_ n3_; clear hb ho6; have hnb7 := NB241_242.out; have hnc7 := NB242_241.out; have hcz8_0 : w5.cell? ⟨gb241, 0, none⟩ = some (.int .i64 a0_0) := (blk_cell BK241.out 0).trans rfl; have hcz8_1 : w5.cell? ⟨gb241, 1, none⟩ = some (.int .i64 a0_1) := (blk_cell BK241.out 1).trans rfl; have hcz8_2 : w5.cell? ⟨gb241, 2, none⟩ = some (.int .i64 a0_2) := (blk_cell BK241.out 2).trans rfl; have hcz8_3 : w5.cell? ⟨gb241, 3, none⟩ = some (.slice A0_3 l0_3.length c0_3) := (blk_cell BK241.out 3).trans rfl; have hfz8_0 := blk_frozen BK241.out 0; have hfz8_1 := blk_frozen BK241.out 1; have hfz8_2 := blk_frozen BK241.out 2; have hfz8_3 := blk_frozen BK241.out 3) | ((with_reducible refine gate_builtin (b := .append) (xs := #[.tmp 3, .tmp 5]) rfl ?_); at_builtin; refine Kd.R_append_rows k56 (w0 := w) w.heap.size rfl (.tmp 3) (.tmp 5) 30 56 (.agg #[(.int .i64 0), (.int .i64 0)]) 16 rfl Try.underlying30 info56 rfl (by decide) (by omega) v244 y243 l0_3 _ _ _ (fun _ => True) (fun _ => False) rfl rfl ?aO ?aR (fun _ _ h => h) (fun _ h => h.elim) ?aF ?aB ?aS ?aL ?_; (case aR => repeat (first | exact (Kd.C_below HR0_3.out HB.out) | (with_reducible refine Kd.C_alloc ?_ _) | (with_reducible refine Kd.C_drewN ?_ _) | (with_reducible refine Kd.C_drew ?_))); (case aB => exact (by repeat (first | (with_reducible first | exact HB.out | apply below_alloc | apply pw_below_drewN | apply below_drew1 | refine below_set ?_ GE241.out | refine below_set ?_ GE242.out) | exact HB.out))); (case aF => exact (fun _ _ => trivial)); (case aO => exact (by (with_reducible repeat (first | apply Kd.R_alloc | apply Kd.R_drewN | apply Kd.R_drew)); exact HO245.out)); (case aS => exact (below_size (by repeat (first | (with_reducible first | exact HB.out | apply below_alloc | apply pw_below_drewN | apply below_drew1 | refine below_set ?_ GE241.out | refine below_set ?_ GE242.out) | exact HB.out)))); (case aL => have := LMc2.out; omega); intro v247 w9 ho hb hg hat; rw [← Ny246.out] at ho; have n0_ := Aside0.mk (blk_grown (g := gb241) (o := .cells #[.int .i64 a0_0, .int .i64 a0_1, .int .i64 a0_2, .slice A0_3 l0_3.length c0_3] 32 (0, 0)) (by (with_reducible repeat (first | refine blk_drewN ?_ _ | refine blk_drew ?_ | refine blk_alloc ?_ _)); exact BK241.out) hg (Kd.R_ne HO245.out BK241.out (by decide))); have n1_ := Aside0.mk (blk_grown (g := gb242) (o := .cells #[.int .i64 0, .int .i64 0, .int .i64 0, .slice none 0 0] 32 (0, 0)) (by (with_reducible repeat (first | refine blk_drewN ?_ _ | refine blk_drew ?_ | refine blk_alloc ?_ _)); exact BK242.out) hg (Kd.R_ne HO245.out BK242.out (by decide))); have n2_ := Aside0.mk (hb); have n3_ := Aside0.mk (ho); clear BK241; clear BK242; clear HB; clear HO245; have BK241 := n0_; have BK242 := n1_; have HB := n2_; have HO248 := n3_; clear n0_ n1_ n2_ n3_; clear ho hb hg hat; obtain ⟨Ao10, co10, eo10⟩ := Kd.R_slice HO248.out; subst eo10; have hcz11_0 : w9.cell? ⟨gb241, 0, none⟩ = some (.int .i64 a0_0) := (blk_cell BK241.out 0).trans rfl; have hcz11_1 : w9.cell? ⟨gb241, 1, none⟩ = some (.int .i64 a0_1) := (blk_cell BK241.out 1).trans rfl; have hcz11_2 : w9.cell? ⟨gb241, 2, none⟩ = some (.int .i64 a0_2) := (blk_cell BK241.out 2).trans rfl; have hcz11_3 : w9.cell? ⟨gb241, 3, none⟩ = some (.slice A0_3 l0_3.length c0_3) := (blk_cell BK241.out 3).trans rfl; have hfz11_0 := blk_frozen BK241.out 0; have hfz11_1 := blk_frozen BK241.out 1; have hfz11_2 := blk_frozen BK241.out 2; have hfz11_3 := blk_frozen BK241.out 3) | ((with_reducible refine gate_store (t := 30) (p := 7) rfl ?_); refine store_event (t := 30) (p := 7) (v := ?vo_w12) (w1 := (w9.setCell ⟨gb241, 3, none⟩ (.slice Ao10 y246.length co10))) ?hg ?ho ?hn ?hr ?_; (case ho => rfl); (case hg => rfl); (case hn => rfl); (case hr => first | (go_simp; done) | (go_simp; rfl)); intro w12 hw; have n0_ : Aside0 (Kd.R k56 56 w12 w.heap.size (fun _ => True) (.slice Ao10 y246.length co10) y246) := ⟨(by rw [hw]; exact (by (with_reducible repeat (first | apply Kd.R_alloc | apply Kd.R_drewN | apply Kd.R_drew)); exact Kd.R_mono (Kd.R_far (p := ⟨gb241, 3, none⟩) (Kd.R_types HO248.out BK241.out (by decide)) (fun _ hk => hk.2) (.slice Ao10 y246.length co10)) (fun _ hk => trivial)))⟩; have n1_ : Aside0 (w12.heap[gb241]? = some (.cells #[.int .i64 a0_0, .int .i64 a0_1, .int .i64 a0_2, .slice Ao10 y246.length co10] 32 (0, 0))) := ⟨(by rw [hw]; exact (by (with_reducible repeat (first | refine blk_drewN ?_ _ | refine blk_drew ?_ | refine blk_alloc ?_ _)); refine blk_put (cs := #[.int .i64 a0_0, .int .i64 a0_1, .int .i64 a0_2, .slice A0_3 l0_3.length c0_3]) ?_ 3 _ rfl; (with_reducible repeat (first | refine blk_drewN ?_ _ | refine blk_drew ?_ | refine blk_alloc ?_ _)); exact BK241.out))⟩; have n2_ : Aside0 (w12.heap[gb242]? = some (.cells #[.int .i64 0, .int .i64 0, .int .i64 0, .slice none 0 0] 32 (0, 0))) := ⟨(by rw [hw]; exact (by (with_reducible repeat (first | refine blk_drewN ?_ _ | refine blk_drew ?_ | refine blk_alloc ?_ _)); refine blk_far ?_ NB242_241.out _; (with_reducible repeat (first | refine blk_drewN ?_ _ | refine blk_drew ?_ | refine blk_alloc ?_ _)); exact BK242.out))⟩; have n3_ : Aside0 (Below w.heap.size w w12) := ⟨(by rw [hw]; exact (by repeat (first | (with_reducible first | exact HB.out | apply below_alloc | apply pw_below_drewN | apply below_drew1 | refine below_set ?_ GE241.out | refine below_set ?_ GE242.out) | exact HB.out)))⟩; clear hw; clear HO248; clear BK241; clear BK242; clear HB; have HO248 := n0_; have BK241 := n1_; have BK242 := n2_; have HB := n3_; clear n0_ n1_ n2_ n3_; have hcz13_0 : w12.cell? ⟨gb241, 0, none⟩ = some (.int .i64 a0_0) := (blk_cell BK241.out 0).trans rfl; have hcz13_1 : w12.cell? ⟨gb241, 1, none⟩ = some (.int .i64 a0_1) := (blk_cell BK241.out 1).trans rfl; have hcz13_2 : w12.cell? ⟨gb241, 2, none⟩ = some (.int .i64 a0_2) := (blk_cell BK241.out 2).trans rfl; have hcz13_3 : w12.cell? ⟨gb241, 3, none⟩ = some (.slice Ao10 y246.length co10) := (blk_cell BK241.out 3).trans rfl; have hfz13_0 := blk_frozen BK241.out 0; have hfz13_1 := blk_frozen BK241.out 1; have hfz13_2 := blk_frozen BK241.out 2; have hfz13_3 := blk_frozen BK241.out 3; have hcz14_0 : w12.cell? ⟨gb242, 0, none⟩ = some (.int .i64 0) := (blk_cell BK242.out 0).trans rfl; have hcz14_1 : w12.cell? ⟨gb242, 1, none⟩ = some (.int .i64 0) := (blk_cell BK242.out 1).trans rfl; have hcz14_2 : w12.cell? ⟨gb242, 2, none⟩ = some (.int .i64 0) := (blk_cell BK242.out 2).trans rfl; have hcz14_3 : w12.cell? ⟨gb242, 3, none⟩ = some (.slice none 0 0) := (blk_cell BK242.out 3).trans rfl; have hfz14_0 := blk_frozen BK242.out 0; have hfz14_1 := blk_frozen BK242.out 1; have hfz14_2 := blk_frozen BK242.out 2; have hfz14_3 := blk_frozen BK242.out 3) | ((with_reducible refine gate_store (t := 32) (p := 2) rfl ?_); refine store_event (t := 32) (p := 2) (v := ?vo_w15) (w1 := ((((w12.setCell ⟨gb242, 0, none⟩ (.int .i64 a0_0)).setCell ⟨gb242, 1, none⟩ (.int .i64 a0_1)).setCell ⟨gb242, 2, none⟩ (.int .i64 a0_2)).setCell ⟨gb242, 3, none⟩ (.slice Ao10 y246.length co10))) ?hg ?ho ?hn ?hr ?_; (case ho => rfl); (case hg => rfl); (case hn => rfl); (case hr => first | (go_simp; done) | (go_simp; rfl)); intro w15 hw; have n0_ : Aside0 (Kd.R k56 56 w15 w.heap.size (fun _ => True) (.slice Ao10 y246.length co10) y246) := ⟨(by rw [hw]; exact (by (with_reducible repeat (first | apply Kd.R_alloc | apply Kd.R_drewN | apply Kd.R_drew)); exact Kd.R_mono (Kd.R_far (p := ⟨gb242, 3, none⟩) (Kd.R_far (p := ⟨gb242, 2, none⟩) (Kd.R_far (p := ⟨gb242, 1, none⟩) (Kd.R_far (p := ⟨gb242, 0, none⟩) (Kd.R_types HO248.out BK242.out (by decide)) (fun _ hk => hk.2) (.int .i64 a0_0)) (fun _ hk => hk.2) (.int .i64 a0_1)) (fun _ hk => hk.2) (.int .i64 a0_2)) (fun _ hk => hk.2) (.slice Ao10 y246.length co10)) (fun _ hk => trivial)))⟩; have n1_ : Aside0 (w15.heap[gb241]? = some (.cells #[.int .i64 a0_0, .int .i64 a0_1, .int .i64 a0_2, .slice Ao10 y246.length co10] 32 (0, 0))) := ⟨(by rw [hw]; exact (by (with_reducible repeat (first | refine blk_drewN ?_ _ | refine blk_drew ?_ | refine blk_alloc ?_ _)); refine blk_far ?_ NB241_242.out _; (with_reducible repeat (first | refine blk_drewN ?_ _ | refine blk_drew ?_ | refine blk_alloc ?_ _)); refine blk_far ?_ NB241_242.out _; (with_reducible repeat (first | refine blk_drewN ?_ _ | refine blk_drew ?_ | refine blk_alloc ?_ _)); refine blk_far ?_ NB241_242.out _; (with_reducible repeat (first | refine blk_drewN ?_ _ | refine blk_drew ?_ | refine blk_alloc ?_ _)); refine blk_far ?_ NB241_242.out _; (with_reducible repeat (first | refine blk_drewN ?_ _ | refine blk_drew ?_ | refine blk_alloc ?_ _)); exact BK241.out))⟩; have n2_ : Aside0 (w15.heap[gb242]? = some (.cells #[.int .i64 a0_0, .int .i64 a0_1, .int .i64 a0_2, .slice Ao10 y246.length co10] 32 (0, 0))) := ⟨(by rw [hw]; exact (by (with_reducible repeat (first | refine blk_drewN ?_ _ | refine blk_drew ?_ | refine blk_alloc ?_ _)); refine blk_put (cs := #[.int .i64 a0_0, .int .i64 a0_1, .int .i64 a0_2, .slice none 0 0]) ?_ 3 _ rfl; (with_reducible repeat (first | refine blk_drewN ?_ _ | refine blk_drew ?_ | refine blk_alloc ?_ _)); refine blk_put (cs := #[.int .i64 a0_0, .int .i64 a0_1, .int .i64 0, .slice none 0 0]) ?_ 2 _ rfl; (with_reducible repeat (first | refine blk_drewN ?_ _ | refine blk_drew ?_ | refine blk_alloc ?_ _)); refine blk_put (cs := #[.int .i64 a0_0, .int .i64 0, .int .i64 0, .slice none 0 0]) ?_ 1 _ rfl; (with_reducible repeat (first | refine blk_drewN ?_ _ | refine blk_drew ?_ | refine blk_alloc ?_ _)); refine blk_put (cs := #[.int .i64 0, .int .i64 0, .int .i64 0, .slice none 0 0]) ?_ 0 _ rfl; (with_reducible repeat (first | refine blk_drewN ?_ _ | refine blk_drew ?_ | refine blk_alloc ?_ _)); exact BK242.out))⟩; have n3_ : Aside0 (Below w.heap.size w w15) := ⟨(by rw [hw]; exact (by repeat (first | (with_reducible first | exact HB.out | apply below_alloc | apply pw_below_drewN | apply below_drew1 | refine below_set ?_ GE241.out | refine below_set ?_ GE242.out) | exact HB.out)))⟩; clear hw; clear HO248; clear BK241; clear BK242; clear HB; have HO248 := n0_; have BK241 := n1_; have BK242 := n2_; have HB := n3_; clear n0_ n1_ n2_ n3_))
  refine bodyPost_ret (results_cell_row rfl _ _ gb242 32 #[.int .i64 a0_0, .int .i64 a0_1, .int .i64 a0_2, .slice Ao10 y246.length co10] (0, 0) _ rfl (by (with_reducible repeat (first | refine blk_drewN ?_ _ | refine blk_drew ?_ | refine blk_alloc ?_ _)); exact BK242.out) Try.underlying32 rfl (by kernel_rfl)) rfl ?_
  exact ⟨_, by first | rfl | (simp [errW_none, errW_some] <;> rfl) | (simp [*, errW_none, errW_some] <;> rfl), by (with_reducible repeat (first | apply Kd.R_alloc | apply Kd.R_drewN | apply Kd.R_drew)); exact HO248.out, by repeat (first | (with_reducible first | exact HB.out | apply below_alloc | apply pw_below_drewN | apply below_drew1 | refine below_set ?_ GE241.out | refine below_set ?_ GE242.out) | exact HB.out)⟩
 ·rw [if_neg c2] at H
  exact absurd H (by simp)

end Go.Proofs.Ytbpoflicphgokaa.Q18
namespace Go.Proofs.Ytbpoflicphgokaa.Q18
open Go.RowKit Go.Proofs.YtbpoflicphgokaaW.PrintWords Go.Proofs.YtbpoflicphgokaaW.PrintLast Go.Proofs.YtbpoflicphgokaaW.PrintMore
attribute [local go_sem] max2_int min2_int max_two min_two max_three min_three max_four min_four   -- for this text's walks alone
set_option linter.unusedVariables false
set_option linter.unusedSimpArgs false

attribute [local go_sem high] eqA56
/-! ### watchwordlaw0_CopyLsas: function 16 -/
def watchwordlaw0_CopyLsas.l0 : Nat → List (S32) → List (S32) → Int → Option ((List (S32)))
 | 0, _, _, _ => none
 | k + 1, x0, x3, x4 => if x4 < (x0.length : Int) then (if 0 ≤ x4 then ((watchwordlaw0_CopyLsa.f ((rd_T32 x0 x4).f0) ((rd_T32 x0 x4).f1) ((rd_T32 x0 x4).f2) ((rd_T32 x0 x4).f3)).bind fun bt250 => (if x3.length < 2932031007402 then (watchwordlaw0_CopyLsas.l0 k x0 (x3 ++ [(⟨bt250.1, bt250.2.1, bt250.2.2.1, bt250.2.2.2⟩ : S32)]) (wrap64 (x4 + 1))) else (none))) else (none)) else (some x3)
def watchwordlaw0_CopyLsas.f (k : Nat) (l0 : List (S32)) : Option ((List (S32))) := watchwordlaw0_CopyLsas.l0 k l0 ([] : List (S32)) 0
theorem watchwordlaw0_CopyLsas.mono_l : ∀ k, (∀ y0 y1 y2, LeO (watchwordlaw0_CopyLsas.l0 k y0 y1 y2) (watchwordlaw0_CopyLsas.l0 (k + 1) y0 y1 y2))
 | 0 => fun _ _ _ r h => by simp [watchwordlaw0_CopyLsas.l0] at h
 | k + 1 => by
  have ih0 := watchwordlaw0_CopyLsas.mono_l k
  ·intro y0 y1 y2
   unfold watchwordlaw0_CopyLsas.l0
   repeat' first
   | (with_reducible exact ih0 _ _ _)
   | (with_reducible exact LeO.refl _)
   | (with_reducible exact LeO.none _)
   | (with_reducible refine LeO.ite ?_ ?_)
   | (with_reducible refine LeO.bind ?_ (fun _ => ?_))
   | exact ih0 _ _ _
   | exact LeO.none _
   | refine LeO.ite ?_ ?_
   | refine LeO.bind ?_ (fun _ => ?_)
theorem watchwordlaw0_CopyLsas.mono : ∀ a0 k, LeO (watchwordlaw0_CopyLsas.f k a0) (watchwordlaw0_CopyLsas.f (k + 1) a0) := by
 intro a0 k
 have ih0 := watchwordlaw0_CopyLsas.mono_l k
 unfold watchwordlaw0_CopyLsas.f
 repeat' first
   | (with_reducible exact ih0 _ _ _)
   | (with_reducible exact LeO.refl _)
   | (with_reducible exact LeO.none _)
   | (with_reducible refine LeO.ite ?_ ?_)
   | (with_reducible refine LeO.bind ?_ (fun _ => ?_))
   | exact ih0 _ _ _
   | exact LeO.none _
   | refine LeO.ite ?_ ?_
   | refine LeO.bind ?_ (fun _ => ?_)
set_option maxHeartbeats 8000000 in
set_option maxRecDepth 100000 in
theorem watchwordlaw0_CopyLsas.calls (k : Nat) (A0 : Option Addr) (c0 : Nat) (l0 : List (S32)) (r : List (S32)) (w : World) (hr0 : Kd.C k32 w A0 l0.length l0) (hc0 : l0.length ≤ c0) (h : watchwordlaw0_CopyLsas.f k l0 = some r) :
  Calls Try.prog 16 #[.slice A0 l0.length c0] w fun e w' => ∃ v0_ : Value, e = .returned (v0_) ∧ Kd.S k32 32 w' w.heap.size (fun _ => True) v0_ r ∧ Below w.heap.size w w' := by
 have hu32 := Try.underlying32
 have HR0 := Aside0.mk hr0
 have HC0 := Aside0.mk hc0
 clear hr0 hc0
 have HB := Aside0.mk (Below.refl w.heap.size w)
 have H : (watchwordlaw0_CopyLsas.l0 k l0 ([] : List (S32)) 0) = some r := h
 clear h
 have H' := Aside0.mk H
 clear H
 go_enter Try.func16, Try.ntmps16
 go_wp2
 go_loopg [3, 4] k (fun kq v3 v4 w' => ∃ (x3_1 : List (S32)) (x4_1 : Int), v4 = .int .i64 x4_1 ∧ Aside0 (watchwordlaw0_CopyLsas.l0 kq l0 x3_1 x4_1 = some r) ∧ Aside0 (kq ≤ k) ∧ Aside0 (Kd.S k32 32 w' w.heap.size (fun _ => True) v3 x3_1) ∧ Aside0 (Below w.heap.size w w'))
 case atStart => exact ⟨(([] : List (S32))), (0), (by first | rfl | (simp; done) | (simp [*]; done)), H', ⟨Nat.le_refl _⟩, ⟨by first | exact Kd.S_nil _ _ _ _ _ | exact Kd.N_nil _ _ _ _ _ | exact Kd.V_nil _ _ _ _ _ | exact Kd.Q_nil _ _ _ _ _ | exact Kd.R_nil _ _ _ _ _⟩, ⟨by repeat (first | (with_reducible first | exact HB.out | apply below_alloc | apply pw_below_drewN | apply below_drew1) | exact HB.out)⟩⟩
 case round =>
  clear H'
  try clear c1
  obtain ⟨x3_1, x4_1, rfl, HA, HK1, HO_3, HB⟩ := hrel
  cases gk with
  | zero => exact absurd HA.out (by simp [watchwordlaw0_CopyLsas.l0])
  | succ k1 =>
   have H := HA.out
   clear HA
   simp only [watchwordlaw0_CopyLsas.l0] at H
   by_cases c2 : x4_1 < (l0.length : Int)
   ·rw [if_pos c2] at H
    have c2b0 : decide (x4_1 < (l0.length : Int)) = true := decide_eq_true c2
    clear c2
    by_cases c3 : 0 ≤ x4_1
    ·rw [if_pos c3] at H
     have c3b0 : decide (0 ≤ x4_1) = true := decide_eq_true c3
     clear c3
     replace H := Option.bind_eq_some_iff.mp H
     obtain ⟨⟨t250, t251, t252, t253⟩, A40, H⟩ := H
     replace H : (if x3_1.length < 2932031007402 then (watchwordlaw0_CopyLsas.l0 k1 l0 (x3_1 ++ [(⟨t250, t251, t252, t253⟩ : S32)]) (wrap64 (x4_1 + 1))) else (none)) = some r := H
     have A4 := Aside0.mk A40
     clear A40
     by_cases c5 : x3_1.length < 2932031007402
     ·rw [if_pos c5] at H
      have LMc5 := Aside0.mk c5
      clear c5
      obtain ⟨y256, hy256⟩ : ∃ y_ : List (S32), y_ = (x3_1 ++ [(⟨t250, t251, t252, t253⟩ : S32)]) := ⟨_, rfl⟩
      replace H : (watchwordlaw0_CopyLsas.l0 k1 l0 y256 (wrap64 (x4_1 + 1))) = some r := by first | (rw [hy256]; with_reducible exact H) | (have H2_ := (Option.bind_some _ _).symm.trans H; rw [hy256]; with_reducible exact H2_) | (have H2_ := (Option.bind_some _ _).symm.trans H; with_reducible exact H2_) | with_reducible exact H | (rw [hy256]; exact H) | exact H
      have Ny256 := Aside0.mk hy256
      clear hy256
      have H' := Aside0.mk H
      clear H
      have p249 : 0 ≤ (x4_1 : Int) := of_decide_eq_true (by first | (with_reducible assumption) | assumption)
      have q249 : x4_1 < (l0.length : Int) := of_decide_eq_true (by first | (with_reducible assumption) | assumption)
      obtain ⟨ad249, A249_3, c249_3, e249, hx249_0, hx249_1, hx249_2, hx249_3, hl249_3, hi249_3⟩ := at_T32 HR0.out x4_1 p249 q249
      cases e249
      replace hx249_0 := (HB.out.cell (World.block_lt_of_cell? w _ hx249_0)).trans hx249_0
      replace hx249_1 := (HB.out.cell (World.block_lt_of_cell? w _ hx249_1)).trans hx249_1
      replace hx249_2 := (HB.out.cell (World.block_lt_of_cell? w _ hx249_2)).trans hx249_2
      replace hx249_3 := (HB.out.cell (World.block_lt_of_cell? w _ hx249_3)).trans hx249_3
      have HR249_3 := Aside0.mk hi249_3
      have HC249_3 := Aside0.mk hl249_3
      clear hi249_3 hl249_3
      replace p249 := eq_true p249
      replace q249 := eq_true q249
      go_wp2_with (first | ((with_reducible refine gate_callee (f := 14) rfl ?_); refine goesL_ (some 16) rfl rfl Try.func14 (by kernel_rfl) rfl #[.agg #[.int .i64 ((rd_T32 l0 x4_1).f0), .int .i64 ((rd_T32 l0 x4_1).f1), .int .i64 ((rd_T32 l0 x4_1).f2), .slice A249_3 ((rd_T32 l0 x4_1).f3).length c249_3]] rfl (by (try simp only [List.map_toArray, List.map_cons, List.map_nil]); first | done | rfl | (simp only [List.length_drop, List.length_take]; rfl)) ?_; (with_reducible refine (watchwordlaw0_CopyLsa.calls ((rd_T32 l0 x4_1).f0) ((rd_T32 l0 x4_1).f1) ((rd_T32 l0 x4_1).f2) _ _ ((rd_T32 l0 x4_1).f3) t250 t251 t252 t253 _ ?side1 ?side2 A4.out).mono ?_); (case side1 => repeat (first | exact (Kd.C_below HR249_3.out HB.out) | (with_reducible refine Kd.C_alloc ?_ _) | (with_reducible refine Kd.C_drewN ?_ _) | (with_reducible refine Kd.C_drew ?_))); (case side2 => exact HC249_3.out); rintro e w6 ⟨v254, rfl, ho0, hb⟩; refine ⟨_, rfl, ?_⟩; have n0_ := Aside0.mk (Kd.S_elder' (by (with_reducible repeat (first | apply Kd.S_alloc | apply Kd.S_drewN | apply Kd.S_drew)); exact HO_3.out) (Kd.R_base ho0) hb); have n1_ := Aside0.mk (Kd.R_lower ho0 (below_size (by repeat (first | (with_reducible first | exact HB.out | apply below_alloc | apply pw_below_drewN | apply below_drew1) | exact HB.out)))); have n2_ := Aside0.mk (below_step (by repeat (first | (with_reducible first | exact HB.out | apply below_alloc | apply pw_below_drewN | apply below_drew1) | exact HB.out)) hb); clear HO_3; clear HB; have HO_3 := n0_; have HO255 := n1_; have HB := n2_; clear n0_ n1_ n2_; (try clear hb); (try clear hb2); (try clear hk); (try clear hi); (try clear ho0); obtain ⟨Ao8, co8, eo8⟩ := Kd.R_slice HO255.out; subst eo8) | ((with_reducible refine gate_builtin (b := .append) (xs := #[.tmp 11, .tmp 17]) rfl ?_); at_builtin; refine Kd.S_append k32 (w0 := w) w.heap.size rfl (.tmp 11) (.tmp 17) 24 32 (.agg #[(.int .i64 0), (.int .i64 0), (.int .i64 0), (.slice none 0 0)]) 48 rfl Try.underlying24 info32 rfl (by decide) (by omega) u3 x3_1 (⟨t250, t251, t252, t253⟩ : S32) [.int .i64 t250, .int .i64 t251, .int .i64 t252, .slice Ao8 t253.length co8] (fun _ => True) (fun k_ => some k_ = (.slice Ao8 t253.length co8 : Value).ownBlock) rfl rfl ?aP (fun k_ hk_ => ((Kd.R_mono (ok' := fun k_ => ((fun _ => True)) k_ ∧ some k_ ≠ (u3 : Value).ownBlock) (Kd.R_apart' (HO255.out) (Kd.S_typed HO_3.out) (by decide)) (fun k_ hk => ⟨trivial, hk.2⟩))).1 k_ hk_.symm) ?aF ?aO ?aB ?aS ?aL ?_; (case aP => exact k32_mkM _ _ _ (⟨t250, t251, t252, t253⟩ : S32) (Kd.R_mono (Kd.R_tight rfl (Kd.R_mono (ok' := fun k_ => ((fun _ => True)) k_ ∧ some k_ ≠ (u3 : Value).ownBlock) (Kd.R_apart' (HO255.out) (Kd.S_typed HO_3.out) (by decide)) (fun k_ hk => ⟨trivial, hk.2⟩))) (fun _ h_ => h_))); (case aB => exact (by repeat (first | (with_reducible first | exact HB.out | apply below_alloc | apply pw_below_drewN | apply below_drew1) | exact HB.out))); (case aF => exact (fun _ _ => trivial)); (case aO => exact (by (with_reducible repeat (first | apply Kd.S_alloc | apply Kd.S_drewN | apply Kd.S_drew)); exact Kd.S_mono HO_3.out (fun k_ hk => ⟨trivial, fun e_ => hk.2 e_⟩))); (case aS => exact (below_size (by repeat (first | (with_reducible first | exact HB.out | apply below_alloc | apply pw_below_drewN | apply below_drew1) | exact HB.out)))); (case aL => have := LMc5.out; omega); intro v257 w7 ho hb hg hat; rw [← Ny256.out] at ho; have n0_ := Aside0.mk (hb); have n1_ := Aside0.mk (ho); clear HB; clear HO_3; clear HO255; have HB := n0_; have HO258 := n1_; clear n0_ n1_; clear ho hb hg hat))
      go_roundg k1
      case measure => have := HK1.out; omega
      case rel => exact ⟨(y256), (wrap64 (x4_1 + 1)), (by first | rfl | (simp; done) | (simp [*]; done)), H', ⟨by have := HK1.out; omega⟩, ⟨by (with_reducible repeat (first | apply Kd.S_alloc | apply Kd.S_drewN | apply Kd.S_drew)); exact HO258.out⟩, ⟨by repeat (first | (with_reducible first | exact HB.out | apply below_alloc | apply pw_below_drewN | apply below_drew1) | exact HB.out)⟩⟩
     ·rw [if_neg c5] at H
      exact absurd H (by simp)
    ·rw [if_neg c3] at H
     exact absurd H (by simp)
   ·rw [if_neg c2] at H
    have c2b0 : decide (x4_1 < (l0.length : Int)) = false := decide_eq_false c2
    clear c2
    obtain rfl := Option.some.inj H
    go_wp2
    go_ret
    exact ⟨_, by first | rfl | (simp [errW_none, errW_some] <;> rfl) | (simp [*, errW_none, errW_some] <;> rfl), by (with_reducible repeat (first | apply Kd.S_alloc | apply Kd.S_drewN | apply Kd.S_drew)); exact HO_3.out, by repeat (first | (with_reducible first | exact HB.out | apply below_alloc | apply pw_below_drewN | apply below_drew1) | exact HB.out)⟩

end Go.Proofs.Ytbpoflicphgokaa.Q18
namespace Go.Proofs.Ytbpoflicphgokaa.Q18
open Go.RowKit Go.Proofs.YtbpoflicphgokaaW.PrintWords Go.Proofs.YtbpoflicphgokaaW.PrintLast Go.Proofs.YtbpoflicphgokaaW.PrintMore
attribute [local go_sem] max2_int min2_int max_two min_two max_three min_three max_four min_four   -- for this text's walks alone
set_option linter.unusedVariables false
set_option linter.unusedSimpArgs false

/-! ### watchwordlaw0_Num: function 11 -/
def watchwordlaw0_Num.f (a0 : Int) : Option (Int) := some a0
set_option maxHeartbeats 8000000 in
set_option maxRecDepth 100000 in
theorem watchwordlaw0_Num.calls (a0 : Int) (r : Int) (w : World) (h : watchwordlaw0_Num.f a0 = some r) :
  Calls Try.prog 11 #[.int .i64 a0] w fun e w' => e = .returned (.int .i64 r) ∧ Drawn0 w w' := by
 have H : (some a0) = some r := h
 clear h
 obtain rfl := Option.some.inj H
 go_enter Try.func11, Try.ntmps11
 go_wp2
 go_ret
 exact ⟨by first | rfl | (simp; done) | (simp [*]; done), by repeat (first | exact Drawn0.refl _ | apply Drawn0.step)⟩

end Go.Proofs.Ytbpoflicphgokaa.Q18
namespace Go.Proofs.Ytbpoflicphgokaa.Q18
open Go.RowKit Go.Proofs.YtbpoflicphgokaaW.PrintWords Go.Proofs.YtbpoflicphgokaaW.PrintLast Go.Proofs.YtbpoflicphgokaaW.PrintMore
attribute [local go_sem] max2_int min2_int max_two min_two max_three min_three max_four min_four   -- for this text's walks alone
set_option linter.unusedVariables false
set_option linter.unusedSimpArgs false

/-! ### watchwordlaw18_one: function 15 -/
def watchwordlaw18_one.f (a0 : Bool) : Option (Int) := if a0 = true then (some 1) else (some 0)
set_option maxHeartbeats 8000000 in
set_option maxRecDepth 100000 in
theorem watchwordlaw18_one.calls (a0 : Bool) (r : Int) (w : World) (h : watchwordlaw18_one.f a0 = some r) :
  Calls Try.prog 15 #[.bool a0] w fun e w' => e = .returned (.int .i64 r) ∧ Drawn0 w w' := by
 have H : (if a0 = true then (some 1) else (some 0)) = some r := h
 clear h
 by_cases c2 : a0 = true
 ·subst c2
  have H1 : (some 1) = some r := by rw [if_pos rfl] at H; exact H
  clear H
  have H := H1
  clear H1
  obtain rfl := Option.some.inj H
  go_enter Try.func15, Try.ntmps15
  go_wp2
  go_ret
  exact ⟨by first | rfl | (simp; done) | (simp [*]; done), by repeat (first | exact Drawn0.refl _ | apply Drawn0.step)⟩
 ·replace c2 := Bool.eq_false_iff.mpr c2
  subst c2
  have H1 : (some 0) = some r := by rw [if_neg (show ¬ (false = true) by decide)] at H; exact H
  clear H
  have H := H1
  clear H1
  obtain rfl := Option.some.inj H
  go_enter Try.func15, Try.ntmps15
  go_wp2
  go_ret
  exact ⟨by first | rfl | (simp; done) | (simp [*]; done), by repeat (first | exact Drawn0.refl _ | apply Drawn0.step)⟩

end Go.Proofs.Ytbpoflicphgokaa.Q18
namespace Go.Proofs.Ytbpoflicphgokaa.Base
open Go.RowKit Go.Proofs.YtbpoflicphgokaaW.PrintWords Go.Proofs.YtbpoflicphgokaaW.PrintLast Go.Proofs.YtbpoflicphgokaaW.PrintMore
set_option linter.unusedVariables false

/-! ### Texts as_ lists of numbers -/
def B (s : ByteArray) : List Int := s.data.toList.map fun b => (b.toNat : Int)
def Byt (l : List Int) : Prop := ∀ x ∈ l, 0 ≤ x ∧ x < 256
theorem B_len (s : ByteArray) : (B s).length = s.size := by simp [B]
theorem B_byt (s : ByteArray) : Byt (B s) := by
  intro x hx
  simp only [B, List.mem_map] at hx
  obtain ⟨b, _, rfl⟩ := hx
  have := b.toNat_lt
  omega
theorem map_toNat_inj : ∀ {l l' : List UInt8}, l.map (fun b => (b.toNat : Int)) = l'.map (fun b => (b.toNat : Int)) → l = l'
  | [], [], _ => rfl
  | [], _ :: _, h => by simp at h
  | _ :: _, [], h => by simp at h
  | a :: l, b :: l', h => by
    simp only [List.map_cons, List.cons.injEq] at h
    obtain ⟨h1, h2⟩ := h
    have : a = b := UInt8.toNat_inj.mp (by exact_mod_cast h1)
    rw [this, map_toNat_inj h2]
theorem B_inj {s t : ByteArray} (h : B s = B t) : s = t := by
  have := map_toNat_inj h
  cases s; cases t
  simp only [ByteArray.mk.injEq]
  exact Array.toList_inj.mp this
theorem toList_iff (s t : ByteArray) : s.toList = t.toList ↔ B s = B t := by
  rw [Lib.toList_data, Lib.toList_data]
  constructor
  · intro h; simp only [B, h]
  · exact map_toNat_inj
theorem toList_iff_lit (s : ByteArray) (l : List UInt8) : s.toList = l ↔ B s = l.map (fun b => (b.toNat : Int)) := by
  rw [Lib.toList_data]
  constructor
  · intro h; simp only [B, h]
  · exact map_toNat_inj
theorem B_append (s t : ByteArray) : B (s ++ t) = B s ++ B t := by simp [B, ByteArray.data_append]
theorem B_mk (a : Array UInt8) : B ⟨a⟩ = a.toList.map (fun b => (b.toNat : Int)) := rfl
theorem B_strOf {l : List Int} (h : Byt l) : B (strOfNums l) = l := by
  unfold B strOfNums
  simp only [List.map_map]
  conv => rhs; rw [← List.map_id l]
  apply List.map_congr_left
  intro x hx
  obtain ⟨h0, h1⟩ := h x hx
  simp only [Function.comp, id, UInt8.toNat_ofNat']
  omega
theorem strOf_B (s : ByteArray) : strOfNums (B s) = s := B_inj (B_strOf (B_byt s))
theorem strOf_size (l : List Int) : (strOfNums l).size = l.length := by show (Array.size _) = _; simp
theorem strOf_append (l l' : List Int) : strOfNums l ++ strOfNums l' = strOfNums (l ++ l') := by
  have : (strOfNums l ++ strOfNums l').data = (strOfNums (l ++ l')).data := by simp [strOfNums, ByteArray.data_append]
  exact ByteArray.ext this
theorem B_extract (s : ByteArray) (a b : Nat) : B (s.extract a b) = ((B s).drop a).take (b - a) := by
  unfold B
  rw [Lib.extract_data, List.map_take, List.map_drop]
theorem bt_B (s : ByteArray) (i : Int) : bt s i = (B s).getD i.toNat 0 := by
  unfold bt B
  split
  · rename_i h
    rw [List.getD_eq_getElem?_getD, List.getElem?_map]
    have : i.toNat < s.data.toList.length := by simpa using h
    rw [List.getElem?_eq_getElem this]
    rfl
  · rename_i h
    rw [List.getD_eq_getElem?_getD, List.getElem?_map]
    have : s.data.toList.length ≤ i.toNat := by simp only [Array.length_toList]; have : s.size = s.data.size := rfl; omega
    rw [List.getElem?_eq_none this]
    rfl
theorem byt_mod (x : Int) : 0 ≤ x % 256 ∧ x % 256 < 256 := by omega
theorem byt_nil : Byt [] := fun _ h => by cases h
theorem byt_cons {x : Int} {l : List Int} (h : 0 ≤ x ∧ x < 256) (hl : Byt l) : Byt (x :: l) := by
  intro y hy
  rcases List.mem_cons.mp hy with rfl | hy
  · exact h
  · exact hl y hy
theorem byt_append {l l' : List Int} (h : Byt l) (h' : Byt l') : Byt (l ++ l') := by
  intro y hy
  rcases List.mem_append.mp hy with hy | hy
  · exact h y hy
  · exact h' y hy
theorem byt_take {l : List Int} (n : Nat) (h : Byt l) : Byt (l.take n) := fun y hy => h y (List.mem_of_mem_take hy)
theorem byt_drop {l : List Int} (n : Nat) (h : Byt l) : Byt (l.drop n) := fun y hy => h y (List.mem_of_mem_drop hy)

/-! ### Numbers in bytes -/
def e1 (x : Int) : List Int := [x % 256]
def e2 (x : Int) : List Int := [x / 256 % 256, x % 256]
def e4 (x : Int) : List Int := [x / 16777216 % 256, x / 65536 % 256, x / 256 % 256, x % 256]
theorem e1_byt (x : Int) : Byt (e1 x) := byt_cons (byt_mod _) byt_nil
theorem e2_byt (x : Int) : Byt (e2 x) := byt_cons (byt_mod _) (byt_cons (byt_mod _) byt_nil)
theorem e4_byt (x : Int) : Byt (e4 x) := byt_cons (byt_mod _) (byt_cons (byt_mod _) (byt_cons (byt_mod _) (byt_cons (byt_mod _) byt_nil)))
theorem e1_len (x : Int) : (e1 x).length = 1 := rfl
theorem e2_len (x : Int) : (e2 x).length = 2 := rfl
theorem e4_len (x : Int) : (e4 x).length = 4 := rfl
def num (l : List Int) : Int := l.foldl (fun a b => a * 256 + b) 0
theorem num_two (a b : Int) : num [a, b] = a * 256 + b := by simp [num]
theorem num_four (a b c d : Int) : num [a, b, c, d] = a * 16777216 + b * 65536 + c * 256 + d := by simp [num]; omega
theorem num_e2 {x : Int} (h0 : 0 ≤ x) (h1 : x < 65536) : num (e2 x) = x := by unfold e2; rw [num_two]; omega
theorem num_e4 {x : Int} (h0 : 0 ≤ x) (h1 : x < 4294967296) : num (e4 x) = x := by unfold e4; rw [num_four]; omega
theorem e2_num {a b : Int} (ha : 0 ≤ a ∧ a < 256) (hb : 0 ≤ b ∧ b < 256) : e2 (num [a, b]) = [a, b] := by
  rw [num_two]; unfold e2
  simp only [List.cons.injEq, and_true]
  omega
theorem e4_num {a b c d : Int} (ha : 0 ≤ a ∧ a < 256) (hb : 0 ≤ b ∧ b < 256) (hc : 0 ≤ c ∧ c < 256) (hd : 0 ≤ d ∧ d < 256) : e4 (num [a, b, c, d]) = [a, b, c, d] := by
  rw [num_four]; unfold e4
  simp only [List.cons.injEq, and_true]
  omega
theorem num_two_range {a b : Int} (ha : 0 ≤ a ∧ a < 256) (hb : 0 ≤ b ∧ b < 256) : 0 ≤ num [a, b] ∧ num [a, b] < 65536 := by rw [num_two]; omega
theorem num_four_range {a b c d : Int} (ha : 0 ≤ a ∧ a < 256) (hb : 0 ≤ b ∧ b < 256) (hc : 0 ≤ c ∧ c < 256) (hd : 0 ≤ d ∧ d < 256) : 0 ≤ num [a, b, c, d] ∧ num [a, b, c, d] < 4294967296 := by rw [num_four]; omega
theorem e2_inj {x y : Int} (hx : 0 ≤ x ∧ x < 65536) (hy : 0 ≤ y ∧ y < 65536) (h : e2 x = e2 y) : x = y := by
  have := congrArg num h
  rwa [num_e2 hx.1 hx.2, num_e2 hy.1 hy.2] at this
theorem e4_inj {x y : Int} (hx : 0 ≤ x ∧ x < 4294967296) (hy : 0 ≤ y ∧ y < 4294967296) (h : e4 x = e4 y) : x = y := by
  have := congrArg num h
  rwa [num_e4 hx.1 hx.2, num_e4 hy.1 hy.2] at this

/-! ### Bits -/
theorem wrap_id {x : Int} (h0 : -9223372036854775808 ≤ x) (h1 : x ≤ 9223372036854775807) : wrap64 x = x := by unfold wrap64; omega
theorem wraps_i64 (n : Int) (h₀ : 0 ≤ n) (h₁ : n < 2 ^ 63) : IntKind.i64.wrap n = n := by rw [IntKind.wrap_i64]; omega
theorem or_byte {x y : Int} (hx₀ : 0 ≤ x) (hx₁ : x < 9223372036854775808) (hx : x % 256 = 0) (h₀ : 0 ≤ y) (h₁ : y < 256) : Go.bits .or .i64 x y = x + y :=
  bits_join .i64 63 (by decide) wraps_i64 8 x y hx₀ hx hx₁ h₀ h₁ (by omega)
theorem and_mask (i : Nat) (hi : i ≤ 62) (n : Int) : Go.bits .and .i64 n ((2 ^ i - 1 : Nat) : Int) = n % ((2 ^ i : Nat) : Int) := by
  have hp : 2 ^ i ≤ 2 ^ 62 := Nat.pow_le_pow_right (by decide) hi
  have hpos : 0 < 2 ^ i := Nat.two_pow_pos i
  have hm : (BitVec.ofInt 64 ((2 ^ i - 1 : Nat) : Int)).toNat = 2 ^ i - 1 := by
    rw [BitVec.ofInt_natCast, BitVec.toNat_ofNat]
    apply Nat.mod_eq_of_lt
    omega
  have key : (BitVec.ofInt 64 n &&& BitVec.ofInt 64 ((2 ^ i - 1 : Nat) : Int)).toNat = (n % ((2 ^ 64 : Nat) : Int)).toNat % 2 ^ i := by
    rw [BitVec.toNat_and, BitVec.toNat_ofInt, hm, Nat.and_two_pow_sub_one_eq_mod]
  show IntKind.i64.wrap ((BitVec.ofInt 64 n &&& BitVec.ofInt 64 ((2 ^ i - 1 : Nat) : Int)).toNat : Nat) = _
  rw [key]
  have hd : ((2 ^ i : Nat) : Int) ∣ ((2 ^ 64 : Nat) : Int) := by
    have : (2 ^ i) ∣ (2 ^ 64) := Nat.pow_dvd_pow 2 (by omega)
    exact_mod_cast this
  have h2 : (((n % ((2 ^ 64 : Nat) : Int)).toNat % 2 ^ i : Nat) : Int) = n % ((2 ^ i : Nat) : Int) := by
    rw [Int.natCast_emod, Int.toNat_of_nonneg (by omega), Int.emod_emod_of_dvd _ hd]
  rw [h2]
  have hlt : n % ((2 ^ i : Nat) : Int) < ((2 ^ i : Nat) : Int) := Int.emod_lt_of_pos _ (by exact_mod_cast hpos)
  have h0 : 0 ≤ n % ((2 ^ i : Nat) : Int) := Int.emod_nonneg _ (by have : ((2 ^ i : Nat) : Int) ≠ 0 := by exact_mod_cast Nat.pos_iff_ne_zero.mp hpos
                                                                   exact this)
  have hle : ((2 ^ i : Nat) : Int) ≤ ((2 ^ 62 : Nat) : Int) := by exact_mod_cast hp
  exact wraps_i64 _ h0 (by have : ((2 ^ 62 : Nat) : Int) < 2 ^ 63 := by decide
                           omega)
theorem and1 (n : Int) : Go.bits .and .i64 n 1 = n % 2 := and_mask 1 (by decide) n
theorem and3 (n : Int) : Go.bits .and .i64 n 3 = n % 4 := and_mask 2 (by decide) n
theorem and15 (n : Int) : Go.bits .and .i64 n 15 = n % 16 := and_mask 4 (by decide) n
theorem and127 (n : Int) : Go.bits .and .i64 n 127 = n % 128 := and_mask 7 (by decide) n
theorem and255 (n : Int) : Go.bits .and .i64 n 255 = n % 256 := and_mask 8 (by decide) n
theorem and1023 (n : Int) : Go.bits .and .i64 n 1023 = n % 1024 := and_mask 10 (by decide) n

theorem empty_list : (⟨#[]⟩ : ByteArray).toList = ([] : List UInt8) := by rw [Lib.toList_data]
def lim : Nat → Int
  | 0 => 1
  | i + 1 => lim i * 256
theorem lim_succ (i : Nat) : lim (i + 1) = lim i * 256 := rfl
theorem lim_le6 {i : Nat} (h : i ≤ 6) : lim i ≤ 281474976710656 := by
  have : i = 0 ∨ i = 1 ∨ i = 2 ∨ i = 3 ∨ i = 4 ∨ i = 5 ∨ i = 6 := by omega
  rcases this with rfl | rfl | rfl | rfl | rfl | rfl | rfl <;> decide
theorem byt_getD {l : List Int} (h : Byt l) (i : Nat) : 0 ≤ l.getD i 0 ∧ l.getD i 0 < 256 := by
  rw [List.getD_eq_getElem?_getD]
  by_cases hi : i < l.length
  · rw [List.getElem?_eq_getElem hi]; exact h _ (List.getElem_mem hi)
  · rw [List.getElem?_eq_none (by omega)]; simp

end Go.Proofs.Ytbpoflicphgokaa.Base
namespace Go.Proofs.Ytbpoflicphgokaa.L18
open Go.RowKit Go.Proofs.YtbpoflicphgokaaW.PrintWords Go.Proofs.YtbpoflicphgokaaW.PrintLast Go.Proofs.YtbpoflicphgokaaW.PrintMore Go.Proofs.Ytbpoflicphgokaa.Base Go.Proofs.Ytbpoflicphgokaa.Q18
set_option linter.unusedVariables false
set_option linter.unusedSimpArgs false
/-! ### lsa: One, Two, Four, Number -/
theorem lsa_One_f (x : Int) : lsa_One.f x = some (strOfNums (e1 x)) := rfl
theorem lsa_Two_f (x : Int) : lsa_Two.f x = some (strOfNums (e2 x)) := rfl
theorem lsa_Four_f (x : Int) : lsa_Four.f x = some (strOfNums (e4 x)) := by
  simp only [lsa_Four.f, lsa_Two_f, Option.bind_some, strOf_append, strOf_size, e2_len]
  rw [if_pos (by decide)]
  have h1 : x / 65536 / 256 = x / 16777216 := by omega
  simp only [e2, e4, List.cons_append, List.nil_append, h1]
/-! ### lsa: Links, May, body, Put, Get, Head (S56: the struct Link) -/
instance : DecidableEq S56 := fun a b => decidable_of_iff (a.f0 = b.f0 ∧ a.f1 = b.f1) (by cases a; cases b; simp)
def LinkOk (rt : Int) (x : S56) : Prop := 1 ≤ x.f0 ∧ x.f0 ≤ 4 ∧ x.f0 ≠ rt ∧ 1 ≤ x.f1 ∧ x.f1 ≤ 65535
instance (rt : Int) (x : S56) : Decidable (LinkOk rt x) := by unfold LinkOk; infer_instance
def links (rt : Int) : Int → List S56 → Bool
  | _, [] => true
  | p, x :: l => if LinkOk rt x ∧ p < x.f0 then links rt x.f0 l else false
theorem links_short {rt : Int} : ∀ (l : List S56) (p : Int), 0 ≤ p → links rt p l = true → l.length = 0 ∨ (l.length : Int) ≤ 4 - p
  | [], _, _, _ => .inl rfl
  | x :: l, p, h0, h => by
    unfold links at h
    by_cases hc : LinkOk rt x ∧ p < x.f0
    · rw [if_pos hc] at h
      have h4 := hc.1.2.1
      rcases links_short l x.f0 (by omega) h with h1 | h1
      · right; simp only [List.length_cons, h1]; omega
      · right; simp only [List.length_cons]; omega
    · rw [if_neg hc] at h; cases h
theorem links_len {rt : Int} {l : List S56} (h : links rt 0 l = true) : l.length ≤ 4 := by
  rcases links_short l 0 (by omega) h with h1 | h1 <;> omega
theorem links_range {rt : Int} : ∀ (l : List S56) (p : Int), links rt p l = true → ∀ x ∈ l, LinkOk rt x
  | [], _, _, _, hx => by cases hx
  | y :: l, p, h, x, hx => by
    unfold links at h
    by_cases hc : LinkOk rt y ∧ p < y.f0
    · rw [if_pos hc] at h
      rcases List.mem_cons.mp hx with rfl | hx
      · exact hc.1
      · exact links_range l y.f0 h x hx
    · rw [if_neg hc] at h; cases h
theorem rdL_at {l : List S56} {i : Nat} (h : i < l.length) : rd_T56 l (i : Int) = l[i] := by
  unfold rd_T56; rw [Int.toNat_natCast, List.getD_eq_getElem?_getD, List.getElem?_eq_getElem h]; rfl
def prevL (l : List S56) (i : Nat) : Int := if i = 0 then 0 else (rd_T56 l ((i : Int) - 1)).f0
theorem prevL_succ (l : List S56) (i : Nat) : prevL l (i + 1) = (rd_T56 l (i : Int)).f0 := by
  unfold prevL; rw [if_neg (by omega)]
  have : ((i + 1 : Nat) : Int) - 1 = (i : Int) := by omega
  rw [this]
theorem dropL_at {l : List S56} {i : Nat} (h : i < l.length) : l.drop i = rd_T56 l (i : Int) :: l.drop (i + 1) := by
  rw [List.drop_eq_getElem_cons h, rdL_at h]
theorem lsa_Router_f (x : Int) : lsa_Router.f x = some (decide (1 ≤ x ∧ x ≤ 4)) := by
  unfold lsa_Router.f
  by_cases h : x ≥ 1
  · rw [if_pos h]; simp [show (1 : Int) ≤ x from h]
  · rw [if_neg h]; simp [show ¬ (1 : Int) ≤ x from h]
theorem lsa_Links_l {l : List S56} {rt : Int} (hn : l.length ≤ 9223372036854775807) : ∀ (d k i : Nat), i + d = l.length → d < k →
    lsa_Links.l0 k l rt l (l.length : Int) (i : Int) = some (links rt (prevL l i) (l.drop i)) := by
  intro d
  induction d with
  | zero =>
    intro k i hi hk
    obtain ⟨k, rfl⟩ : ∃ m, k = m + 1 := ⟨k - 1, by omega⟩
    simp only [lsa_Links.l0]
    rw [if_neg (by omega), List.drop_of_length_le (by omega)]
    rfl
  | succ d ih =>
    intro k i hi hk
    obtain ⟨k, rfl⟩ : ∃ m, k = m + 1 := ⟨k - 1, by omega⟩
    have hlt : i < l.length := by omega
    have h4 : wrap64 ((i : Int) + 1) = ((i + 1 : Nat) : Int) := by rw [wrap_id (by omega) (by omega)]; omega
    have h5 : wrap64 ((i : Int) - 1) = (i : Int) - 1 := wrap_id (by omega) (by omega)
    have hr := ih k (i + 1) (by omega) (by omega)
    simp only [lsa_Links.l0, lsa_Router_f, Option.bind_some, decide_eq_true_eq]
    rw [if_pos (by omega), if_pos (by omega), if_pos (by omega), h4, h5, hr, prevL_succ, dropL_at hlt]
    generalize hx : rd_T56 l (i : Int) = x
    by_cases c1 : 1 ≤ x.f0 ∧ x.f0 ≤ 4
    · rw [if_pos c1]
      by_cases c2 : x.f0 = rt
      · rw [if_pos c2]; unfold links; rw [if_neg (fun hh => hh.1.2.2.1 c2)]
      rw [if_neg c2]
      by_cases c3 : x.f1 < 1
      · rw [if_pos c3]; unfold links; rw [if_neg (fun hh => by have := hh.1.2.2.2.1; omega)]
      rw [if_neg c3]
      by_cases c4 : x.f1 > 65535
      · rw [if_pos c4]; unfold links; rw [if_neg (fun hh => by have := hh.1.2.2.2.2; omega)]
      rw [if_neg c4]
      have hok : LinkOk rt x := ⟨c1.1, c1.2, c2, by omega, by omega⟩
      by_cases h0 : (i : Int) > 0
      · rw [if_pos h0, if_pos (by omega), if_pos (by omega)]
        have hp : prevL l i = (rd_T56 l ((i : Int) - 1)).f0 := by unfold prevL; rw [if_neg (by omega)]
        by_cases hg : (rd_T56 l ((i : Int) - 1)).f0 ≥ x.f0
        · rw [if_pos hg]; unfold links; rw [if_neg (by rw [hp]; omega)]
        · rw [if_neg hg]; conv => rhs; unfold links
          rw [if_pos ⟨hok, by rw [hp]; omega⟩]
      · rw [if_neg h0]
        have hp : prevL l i = 0 := by unfold prevL; rw [if_pos (by omega)]
        conv => rhs; unfold links
        rw [if_pos ⟨hok, by rw [hp]; omega⟩]
    · rw [if_neg c1]; unfold links; rw [if_neg (fun hh => c1 ⟨hh.1.1, hh.1.2.1⟩)]
theorem lsa_Links_f {l : List S56} {rt : Int} (hn : l.length ≤ 9223372036854775807) {k : Nat} (hk : l.length < k) : lsa_Links.f k l rt = some (links rt 0 l) :=
  lsa_Links_l hn l.length k 0 (by omega) hk
def LsaOk (r s g : Int) (l : List S56) : Prop := 1 ≤ r ∧ r ≤ 4 ∧ 1 ≤ s ∧ s ≤ 2147483647 ∧ 0 ≤ g ∧ g ≤ 60 ∧ links r 0 l = true
instance (r s g : Int) (l : List S56) : Decidable (LsaOk r s g l) := by unfold LsaOk; infer_instance
theorem lsa_May_f {r s g : Int} {l : List S56} (hn : l.length ≤ 9223372036854775807) {k : Nat} (hk : l.length < k) : lsa_May.f k r s g l = some (decide (LsaOk r s g l)) := by
  simp only [lsa_May.f, lsa_Links_f hn hk, lsa_Router_f, Option.bind_some]
  unfold lsa_Serial.f lsa_Age.f
  by_cases h1 : 1 ≤ r ∧ r ≤ 4
  · unfold LsaOk
    by_cases h3 : s ≥ 1
    · by_cases h4 : s ≤ 2147483647
      · by_cases h5 : g ≥ 0
        · by_cases h6 : g ≤ 60
          · simp [h1.1, h1.2, h3, h4, h5, h6]
          · simp [h1.1, h1.2, h3, h4, h5, h6]
        · simp [h1.1, h1.2, h3, h4, h5]
      · simp [h1.1, h1.2, h3, h4]
    · simp [h1.1, h1.2, h3]
  · rw [decide_eq_false h1, if_neg (by decide), decide_eq_false (fun hh : LsaOk r s g l => h1 ⟨hh.1, hh.2.1⟩)]
def lbytes (x : S56) : List Int := e1 x.f0 ++ e2 x.f1
theorem lbytes_byt (x : S56) : Byt (lbytes x) := byt_append (e1_byt _) (e2_byt _)
theorem lbytes_len (x : S56) : (lbytes x).length = 3 := rfl
theorem lflat_byt (l : List S56) : Byt (l.flatMap lbytes) := by
  intro y hy
  obtain ⟨x, _, hx⟩ := List.mem_flatMap.mp hy
  exact lbytes_byt x y hx
theorem lflat_len (l : List S56) : (l.flatMap lbytes).length = 3 * l.length := by
  induction l with
  | nil => rfl
  | cons x l ih => rw [List.flatMap_cons, List.length_append, ih, lbytes_len, List.length_cons]; omega
def bodyB (r s : Int) (l : List S56) : List Int := ((e1 r ++ e4 s) ++ e1 (l.length : Int)) ++ l.flatMap lbytes
theorem bodyB_byt (r s : Int) (l : List S56) : Byt (bodyB r s l) := byt_append (byt_append (byt_append (e1_byt _) (e4_byt _)) (e1_byt _)) (lflat_byt l)
theorem bodyB_len (r s : Int) (l : List S56) : (bodyB r s l).length = 6 + 3 * l.length := by
  unfold bodyB; simp only [List.length_append, lflat_len, e1_len, e4_len]
theorem lsa_body_l {l : List S56} (hn : l.length ≤ 255) : ∀ (d k i : Nat) (acc : List Int), i + d = l.length → d < k → acc.length ≤ 10 + 3 * i →
    lsa_body.l0 k (strOfNums acc) l (l.length : Int) (i : Int) = some (strOfNums (acc ++ (l.drop i).flatMap lbytes)) := by
  intro d
  induction d with
  | zero =>
    intro k i acc hi hk ha
    obtain ⟨k, rfl⟩ : ∃ m, k = m + 1 := ⟨k - 1, by omega⟩
    simp only [lsa_body.l0]
    rw [if_neg (by omega), List.drop_of_length_le (by omega)]
    simp
  | succ d ih =>
    intro k i acc hi hk ha
    obtain ⟨k, rfl⟩ : ∃ m, k = m + 1 := ⟨k - 1, by omega⟩
    have hlt : i < l.length := by omega
    have h4 : wrap64 ((i : Int) + 1) = ((i + 1 : Nat) : Int) := by rw [wrap_id (by omega) (by omega)]; omega
    simp only [lsa_body.l0, lsa_One_f, lsa_Two_f, Option.bind_some, strOf_append, strOf_size, List.length_append, e1_len, e2_len]
    rw [if_pos (by omega), if_pos (by omega), if_pos (by omega), if_pos (by decide), if_pos (by omega), h4,
      ih k (i + 1) _ (by omega) (by omega) (by simp only [List.length_append, e1_len, e2_len]; omega), dropL_at hlt, List.flatMap_cons]
    simp only [lbytes, List.append_assoc]
theorem lsa_body_f {r s g : Int} {l : List S56} (hn : l.length ≤ 255) {k : Nat} (hk : l.length < k) : lsa_body.f k r s g l = some (strOfNums (bodyB r s l)) := by
  simp only [lsa_body.f, lsa_One_f, lsa_Four_f, Option.bind_some, strOf_append, strOf_size, List.length_append, e1_len, e4_len]
  rw [if_pos (by decide), if_pos (by decide)]
  exact lsa_body_l hn l.length k 0 _ (by omega) hk (by simp only [List.length_append, e1_len, e4_len]; omega)
def fl : Int → Int → List Int → Int
  | a, b, [] => 256 * b + a
  | a, b, x :: l => fl ((a + x) % 255) ((b + (a + x) % 255) % 255) l
theorem fl_range : ∀ (l : List Int) (a b : Int), 0 ≤ a ∧ a < 255 → 0 ≤ b ∧ b < 255 → 0 ≤ fl a b l ∧ fl a b l ≤ 65278
  | [], a, b, ha, hb => by unfold fl; omega
  | x :: l, a, b, ha, hb => by unfold fl; exact fl_range l _ _ (by omega) (by omega)
def flSum (l : List Int) : Int := fl 0 0 l
theorem flSum_range (l : List Int) : 0 ≤ flSum l ∧ flSum l ≤ 65278 := fl_range l 0 0 (by omega) (by omega)
theorem fletch_Sum_l {s : ByteArray} (hs : s.size ≤ 140737488351232) : ∀ (d k i : Nat) (a b : Int), i + d = s.size → d < k → 0 ≤ a ∧ a < 255 → 0 ≤ b ∧ b < 255 →
    fletch_Sum.l0 k s a b (s.size : Int) (i : Int) = some (fl a b ((B s).drop i)) := by
  intro d
  induction d with
  | zero =>
    intro k i a b hi hk ha hb
    obtain ⟨k, rfl⟩ : ∃ m, k = m + 1 := ⟨k - 1, by omega⟩
    simp only [fletch_Sum.l0]
    rw [if_neg (by omega), List.drop_of_length_le (by rw [B_len]; omega), wrap_id (x := 256 * b) (by omega) (by omega), wrap_id (by omega) (by omega)]
    rfl
  | succ d ih =>
    intro k i a b hi hk ha hb
    obtain ⟨k, rfl⟩ : ∃ m, k = m + 1 := ⟨k - 1, by omega⟩
    have hlt : i < (B s).length := by rw [B_len]; omega
    have hd : (B s).drop i = (B s).getD i 0 :: (B s).drop (i + 1) := by
      rw [List.drop_eq_getElem_cons hlt, List.getD_eq_getElem?_getD, List.getElem?_eq_getElem hlt, Option.getD_some]
    have hbt : bt s (i : Int) = (B s).getD i 0 := by rw [bt_B, Int.toNat_natCast]
    have hr := byt_getD (B_byt s) i
    have h4 : wrap64 ((i : Int) + 1) = ((i + 1 : Nat) : Int) := by rw [wrap_id (by omega) (by omega)]; omega
    simp only [fletch_Sum.l0]
    rw [if_pos (by omega), if_pos (by omega), if_pos (by omega), hbt, h4, hd]
    generalize (B s).getD i 0 = x at hr ⊢
    rw [wrap_id (x := x) (by omega) (by omega), wrap_id (x := a + x) (by omega) (by omega), Int.tmod_eq_emod_of_nonneg (a := a + x) (by omega),
      wrap_id (x := b + (a + x) % 255) (by omega) (by omega), Int.tmod_eq_emod_of_nonneg (a := b + (a + x) % 255) (by omega),
      ih k (i + 1) _ _ (by omega) (by omega) (by omega) (by omega)]
    rfl
theorem fletch_Sum_f {s : ByteArray} (hs : s.size ≤ 140737488351232) {k : Nat} (hk : s.size < k) : fletch_Sum.f k s = some (flSum (B s)) :=
  fletch_Sum_l hs s.size k 0 0 0 (by omega) hk (by omega) (by omega)
/-! ### lsa.Head -/
theorem lsa_Head_f {r s g : Int} {l : List S56} (hn : l.length ≤ 9223372036854775807) {k : Nat} (hk : l.length < k) (h20 : 20 ≤ k) :
    lsa_Head.f k r s g l = some (if LsaOk r s g l then (r, s, g, flSum (bodyB r s l), 0) else (0, 0, 0, 0, 700)) := by
  simp only [lsa_Head.f, lsa_May_f hn hk, Option.bind_some, decide_eq_true_eq]
  by_cases h : LsaOk r s g l
  · have h4 := links_len h.2.2.2.2.2.2
    have hb := bodyB_len r s l
    rw [if_pos h, if_pos h, lsa_body_f (by omega) hk]
    simp only [Option.bind_some]
    rw [fletch_Sum_f (by rw [strOf_size]; omega) (by rw [strOf_size]; omega), B_strOf (bodyB_byt r s l)]
    rfl
  · rw [if_neg h, if_neg h]
theorem SameL_l {l m : List S56} (hn : l.length ≤ 9223372036854775807) (he : l.length = m.length) : ∀ (d k i : Nat), i + d = l.length → d < k →
    watchwordlaw0_SameLinks.l0 k l m (i : Int) = some (decide (l.drop i = m.drop i)) := by
  intro d
  induction d with
  | zero =>
    intro k i hi hk
    obtain ⟨k, rfl⟩ : ∃ m, k = m + 1 := ⟨k - 1, by omega⟩
    simp only [watchwordlaw0_SameLinks.l0]
    rw [if_neg (by omega), List.drop_of_length_le (by omega), List.drop_of_length_le (by omega)]
    simp
  | succ d ih =>
    intro k i hi hk
    obtain ⟨k, rfl⟩ : ∃ m, k = m + 1 := ⟨k - 1, by omega⟩
    have h4 : wrap64 ((i : Int) + 1) = ((i + 1 : Nat) : Int) := by rw [wrap_id (by omega) (by omega)]; omega
    simp only [watchwordlaw0_SameLinks.l0]
    rw [if_pos (by omega), if_pos (by omega), if_pos (by omega), h4, ih k (i + 1) (by omega) (by omega), dropL_at (l := l) (i := i) (by omega), dropL_at (l := m) (i := i) (by omega)]
    generalize rd_T56 l (i : Int) = x
    generalize rd_T56 m (i : Int) = y
    have hx : (!(x.f0 == y.f0) || (!(x.f1 == y.f1))) = !decide (x = y) := by
      cases x; cases y
      rw [Bool.eq_iff_iff]
      simp
    rw [hx]
    by_cases hc : x = y
    · rw [hc]; simp
    · simp [hc]
theorem SameL_f {l m : List S56} (hn : l.length ≤ 9223372036854775807) {k : Nat} (hk : l.length < k) : watchwordlaw0_SameLinks.f k l m = some (decide (l = m)) := by
  unfold watchwordlaw0_SameLinks.f
  by_cases h : l.length = m.length
  · rw [if_pos (by omega)]
    have := SameL_l hn h l.length k 0 (by omega) hk
    rw [List.drop_zero, List.drop_zero] at this
    exact this
  · rw [if_neg (by omega), decide_eq_false (fun e => h (by rw [e]))]
theorem SameLsa_f {r s g r' s' g' : Int} {l m : List S56} (hn : l.length ≤ 9223372036854775807) {k : Nat} (hk : l.length < k) :
    watchwordlaw0_SameLsa.f k r s g l r' s' g' m = some (decide (r = r' ∧ s = s' ∧ g = g' ∧ l = m)) := by
  unfold watchwordlaw0_SameLsa.f
  rw [SameL_f hn hk]
  by_cases h1 : r = r'
  · by_cases h2 : s = s'
    · by_cases h3 : g = g'
      · rw [if_pos h1, if_pos h2, if_pos h3]; simp [h1, h2, h3]
      · rw [if_pos h1, if_pos h2, if_neg h3]; simp [h3]
    · rw [if_pos h1, if_neg h2]; simp [h2]
  · rw [if_neg h1]; simp [h1]
/-! ### update: May, Put, Get; SameLsas (S32: the struct Lsa) -/
def UsOk (x : S32) : Prop := LsaOk x.f0 x.f1 x.f2 x.f3
instance (x : S32) : Decidable (UsOk x) := by unfold UsOk; infer_instance
instance : DecidableEq S32 := fun a b => decidable_of_iff (a.f0 = b.f0 ∧ a.f1 = b.f1 ∧ a.f2 = b.f2 ∧ a.f3 = b.f3) (by cases a; cases b; simp)
def upd : Int → List S32 → Bool
  | _, [] => true
  | p, x :: l => if UsOk x ∧ p < x.f0 then upd x.f0 l else false
theorem upd_short : ∀ (l : List S32) (p : Int), 0 ≤ p → upd p l = true → l.length = 0 ∨ (l.length : Int) ≤ 4 - p
  | [], _, _, _ => .inl rfl
  | x :: l, p, h0, h => by
    unfold upd at h
    by_cases hc : UsOk x ∧ p < x.f0
    · rw [if_pos hc] at h
      have h4 := hc.1.2.1
      rcases upd_short l x.f0 (by omega) h with h1 | h1
      · right; simp only [List.length_cons, h1]; omega
      · right; simp only [List.length_cons]; omega
    · rw [if_neg hc] at h; cases h
theorem upd_len {l : List S32} (h : upd 0 l = true) : l.length ≤ 4 := by
  rcases upd_short l 0 (by omega) h with h1 | h1 <;> omega
theorem upd_ok : ∀ (l : List S32) (p : Int), upd p l = true → ∀ x ∈ l, UsOk x
  | [], _, _, _, hx => by cases hx
  | y :: l, p, h, x, hx => by
    unfold upd at h
    by_cases hc : UsOk y ∧ p < y.f0
    · rw [if_pos hc] at h
      rcases List.mem_cons.mp hx with rfl | hx
      · exact hc.1
      · exact upd_ok l y.f0 h x hx
    · rw [if_neg hc] at h; cases h
theorem usOk_len {x : S32} (h : UsOk x) : x.f3.length ≤ 4 := links_len h.2.2.2.2.2.2
theorem rdU_at {l : List S32} {i : Nat} (h : i < l.length) : rd_T32 l (i : Int) = l[i] := by
  unfold rd_T32; rw [Int.toNat_natCast, List.getD_eq_getElem?_getD, List.getElem?_eq_getElem h]; rfl
theorem rdU_mem {l : List S32} {i : Nat} (h : i < l.length) : rd_T32 l (i : Int) ∈ l := by rw [rdU_at h]; exact List.getElem_mem h
def prevU (l : List S32) (i : Nat) : Int := if i = 0 then 0 else (rd_T32 l ((i : Int) - 1)).f0
theorem prevU_succ (l : List S32) (i : Nat) : prevU l (i + 1) = (rd_T32 l (i : Int)).f0 := by
  unfold prevU; rw [if_neg (by omega)]
  have : ((i + 1 : Nat) : Int) - 1 = (i : Int) := by omega
  rw [this]
theorem dropU_at {l : List S32} {i : Nat} (h : i < l.length) : l.drop i = rd_T32 l (i : Int) :: l.drop (i + 1) := by
  rw [List.drop_eq_getElem_cons h, rdU_at h]
theorem update_May_l {l : List S32} {M : Nat} (hn : l.length ≤ 9223372036854775807) (hM : ∀ x ∈ l, x.f3.length < M) (hM2 : M ≤ 9223372036854775807) : ∀ (d k i : Nat), i + d = l.length → d + M < k →
    update_May.l0 k l l (l.length : Int) (i : Int) = some (upd (prevU l i) (l.drop i)) := by
  intro d
  induction d with
  | zero =>
    intro k i hi hk
    obtain ⟨k, rfl⟩ : ∃ m, k = m + 1 := ⟨k - 1, by omega⟩
    simp only [update_May.l0]
    rw [if_neg (by omega), List.drop_of_length_le (by omega)]
    rfl
  | succ d ih =>
    intro k i hi hk
    obtain ⟨k, rfl⟩ : ∃ m, k = m + 1 := ⟨k - 1, by omega⟩
    have hlt : i < l.length := by omega
    have h4 : wrap64 ((i : Int) + 1) = ((i + 1 : Nat) : Int) := by rw [wrap_id (by omega) (by omega)]; omega
    have h5 : wrap64 ((i : Int) - 1) = (i : Int) - 1 := wrap_id (by omega) (by omega)
    have hr := ih k (i + 1) (by omega) (by omega)
    have hm := hM _ (rdU_mem hlt)
    simp only [update_May.l0]
    rw [if_pos (by omega), if_pos (by omega), if_pos (by omega), h4, h5, hr, prevU_succ, dropU_at hlt]
    generalize rd_T32 l (i : Int) = x at hm ⊢
    rw [lsa_May_f (by omega) (show x.f3.length < k by omega)]
    simp only [Option.bind_some, decide_eq_true_eq]
    by_cases c1 : LsaOk x.f0 x.f1 x.f2 x.f3
    · rw [if_pos c1]
      have hok : UsOk x := c1
      have h1 := c1.1
      by_cases h0 : (i : Int) > 0
      · rw [if_pos h0, if_pos (by omega), if_pos (by omega)]
        have hp : prevU l i = (rd_T32 l ((i : Int) - 1)).f0 := by unfold prevU; rw [if_neg (by omega)]
        by_cases hg : (rd_T32 l ((i : Int) - 1)).f0 ≥ x.f0
        · rw [if_pos hg]; unfold upd; rw [if_neg (by rw [hp]; omega)]
        · rw [if_neg hg]; conv => rhs; unfold upd
          rw [if_pos ⟨hok, by rw [hp]; omega⟩]
      · rw [if_neg h0]
        have hp : prevU l i = 0 := by unfold prevU; rw [if_pos (by omega)]
        conv => rhs; unfold upd
        rw [if_pos ⟨hok, by rw [hp]; omega⟩]
    · rw [if_neg c1]; unfold upd; rw [if_neg (fun hh => c1 hh.1)]
theorem update_May_f {l : List S32} {M : Nat} (hn : l.length ≤ 9223372036854775807) (hM : ∀ x ∈ l, x.f3.length < M) (hM2 : M ≤ 9223372036854775807) {k : Nat} (hk : l.length + M < k) :
    update_May.f k l = some (upd 0 l) := update_May_l hn hM hM2 l.length k 0 (by omega) hk
theorem SameU_l {l m : List S32} {M : Nat} (hn : l.length ≤ 9223372036854775807) (hM : ∀ x ∈ l, x.f3.length < M) (hM2 : M ≤ 9223372036854775807) (he : l.length = m.length) : ∀ (d k i : Nat), i + d = l.length → d + M < k →
    watchwordlaw0_SameLsas.l0 k l m (i : Int) = some (decide (l.drop i = m.drop i)) := by
  intro d
  induction d with
  | zero =>
    intro k i hi hk
    obtain ⟨k, rfl⟩ : ∃ m, k = m + 1 := ⟨k - 1, by omega⟩
    simp only [watchwordlaw0_SameLsas.l0]
    rw [if_neg (by omega), List.drop_of_length_le (by omega), List.drop_of_length_le (by omega)]
    simp
  | succ d ih =>
    intro k i hi hk
    obtain ⟨k, rfl⟩ : ∃ m, k = m + 1 := ⟨k - 1, by omega⟩
    have h4 : wrap64 ((i : Int) + 1) = ((i + 1 : Nat) : Int) := by rw [wrap_id (by omega) (by omega)]; omega
    have hm := hM _ (rdU_mem (show i < l.length by omega))
    simp only [watchwordlaw0_SameLsas.l0]
    rw [if_pos (by omega), if_pos (by omega), if_pos (by omega), h4, ih k (i + 1) (by omega) (by omega), dropU_at (l := l) (i := i) (by omega), dropU_at (l := m) (i := i) (by omega)]
    generalize rd_T32 l (i : Int) = x at hm ⊢
    generalize rd_T32 m (i : Int) = y
    rw [SameLsa_f (by omega) (show x.f3.length < k by omega), Option.bind_some]
    have hx : (x.f0 = y.f0 ∧ x.f1 = y.f1 ∧ x.f2 = y.f2 ∧ x.f3 = y.f3) ↔ x = y := by
      cases x; cases y; simp
    by_cases hc : x = y
    · rw [decide_eq_true (hx.mpr hc), if_pos rfl, hc]; simp
    · rw [decide_eq_false (fun hh => hc (hx.mp hh)), if_neg (by decide), decide_eq_false (fun hh => hc (List.cons.inj hh).1)]
theorem SameU_f {l m : List S32} {M : Nat} (hn : l.length ≤ 9223372036854775807) (hM : ∀ x ∈ l, x.f3.length < M) (hM2 : M ≤ 9223372036854775807) {k : Nat} (hk : l.length + M < k) : watchwordlaw0_SameLsas.f k l m = some (decide (l = m)) := by
  unfold watchwordlaw0_SameLsas.f
  by_cases h : l.length = m.length
  · rw [if_pos (by omega)]
    have := SameU_l hn hM hM2 h l.length k 0 (by omega) hk
    rw [List.drop_zero, List.drop_zero] at this
    exact this
  · rw [if_neg (by omega), decide_eq_false (fun e => h (by rw [e]))]
theorem drop_at {l : List Int} {i : Nat} (h : i < l.length) : l.drop i = rd l (i : Int) :: l.drop (i + 1) := by
  have e : rd l (i : Int) = l[i] := by unfold rd; rw [Int.toNat_natCast, List.getD_eq_getElem?_getD, List.getElem?_eq_getElem h]; rfl
  rw [List.drop_eq_getElem_cons h, e]
/-! ### SameInts -/
theorem SameInts_l {l m : List Int} (hn : l.length ≤ 9223372036854775807) (he : l.length = m.length) : ∀ (d k i : Nat), i + d = l.length → d < k →
    watchwordlaw0_SameInts.l0 k l m (i : Int) = some (decide (l.drop i = m.drop i)) := by
  intro d
  induction d with
  | zero =>
    intro k i hi hk
    obtain ⟨k, rfl⟩ : ∃ m, k = m + 1 := ⟨k - 1, by omega⟩
    simp only [watchwordlaw0_SameInts.l0]
    rw [if_neg (by omega), List.drop_of_length_le (by omega), List.drop_of_length_le (by omega)]
    rfl
  | succ d ih =>
    intro k i hi hk
    obtain ⟨k, rfl⟩ : ∃ m, k = m + 1 := ⟨k - 1, by omega⟩
    have h4 : wrap64 ((i : Int) + 1) = ((i + 1 : Nat) : Int) := by rw [wrap_id (by omega) (by omega)]; omega
    simp only [watchwordlaw0_SameInts.l0]
    rw [if_pos (by omega), if_pos (by omega), if_pos (by omega), h4, ih k (i + 1) (by omega) (by omega), drop_at (l := l) (i := i) (by omega), drop_at (l := m) (i := i) (by omega)]
    by_cases hc : rd l (i : Int) = rd m (i : Int)
    · rw [if_pos hc, hc]; simp only [List.cons.injEq, true_and]
    · rw [if_neg hc]; simp only [List.cons.injEq, hc, false_and, decide_false]
theorem SameInts_f {l m : List Int} (hn : l.length ≤ 9223372036854775807) {k : Nat} (hk : l.length < k) : watchwordlaw0_SameInts.f k l m = some (decide (l = m)) := by
  unfold watchwordlaw0_SameInts.f
  by_cases h : l.length = m.length
  · rw [if_pos (by omega)]
    exact SameInts_l hn h l.length k 0 (by omega) hk
  · rw [if_neg (by omega), decide_eq_false (fun e => h (by rw [e]))]
theorem copyLsa_f {r s g : Int} {l : List S56} (hl : l.length < 8796093022208) : watchwordlaw0_CopyLsa.f r s g l = some (r, s, g, l) := by
  simp only [watchwordlaw0_CopyLsa.f, Option.bind_some, List.length_nil, List.nil_append]
  rw [if_pos (by omega)]
theorem copyLsas_l {l : List S32} (hn : l.length < 2932031007402) (hM : ∀ x ∈ l, x.f3.length < 8796093022208) : ∀ (d k i : Nat) (acc : List S32), acc.length = i → i + d = l.length → d < k →
    watchwordlaw0_CopyLsas.l0 k l acc (i : Int) = some (acc ++ l.drop i) := by
  intro d
  induction d with
  | zero =>
    intro k i acc ha hi hk
    obtain ⟨k, rfl⟩ : ∃ m, k = m + 1 := ⟨k - 1, by omega⟩
    simp only [watchwordlaw0_CopyLsas.l0]
    rw [if_neg (by omega), List.drop_of_length_le (by omega), List.append_nil]
  | succ d ih =>
    intro k i acc ha hi hk
    obtain ⟨k, rfl⟩ : ∃ m, k = m + 1 := ⟨k - 1, by omega⟩
    have hlt : i < l.length := by omega
    have h4 : wrap64 ((i : Int) + 1) = ((i + 1 : Nat) : Int) := by rw [wrap_id (by omega) (by omega)]; omega
    have hm := hM _ (rdU_mem hlt)
    simp only [watchwordlaw0_CopyLsas.l0]
    rw [if_pos (by omega), if_pos (by omega), copyLsa_f hm, Option.bind_some, if_pos (by omega), h4, ih k (i + 1) _ (by rw [List.length_append]; simp only [List.length_cons, List.length_nil]; omega) (by omega) (by omega), dropU_at hlt, List.append_assoc]
    rfl
theorem copyLsas_f {l : List S32} (hn : l.length < 2932031007402) (hM : ∀ x ∈ l, x.f3.length < 8796093022208) {k : Nat} (hk : l.length < k) : watchwordlaw0_CopyLsas.f k l = some l :=
  copyLsas_l hn hM l.length k 0 [] rfl (by omega) hk
/-! ### ack.Head -/
def AckOk (r s g m : Int) : Prop := 1 ≤ r ∧ r ≤ 4 ∧ 1 ≤ s ∧ s ≤ 2147483647 ∧ 0 ≤ g ∧ g ≤ 60 ∧ 0 ≤ m ∧ m ≤ 65535
instance (r s g m : Int) : Decidable (AckOk r s g m) := by unfold AckOk; infer_instance
theorem ack_Head_f (r s g m : Int) : ack_Head.f r s g m = some (decide (AckOk r s g m)) := by
  unfold ack_Head.f lsa_Router.f lsa_Serial.f lsa_Age.f AckOk
  by_cases h1 : r ≥ 1
  · by_cases h2 : r ≤ 4
    · by_cases h3 : s ≥ 1
      · by_cases h4 : s ≤ 2147483647
        · by_cases h5 : g ≥ 0
          · by_cases h6 : g ≤ 60
            · by_cases h7 : m ≥ 0
              · simp [h1, h2, h3, h4, h5, h6, h7]
              · simp [h1, h2, h3, h4, h5, h6, h7]
            · simp [h1, h2, h3, h4, h5, h6]
          · simp [h1, h2, h3, h4, h5]
        · simp [h1, h2, h3, h4]
      · simp [h1, h2, h3]
    · simp [h1, h2]
  · simp [h1]
/-! ### newer.Compare -/
def sgn (a b : Int) : Int := if a < b then -1 else if b < a then 1 else 0
def gone (g : Int) : Int := if g = 60 then 1 else 0
def cmp3 (s g m s' g' m' : Int) : Int := if s ≠ s' then sgn s s' else if m ≠ m' then sgn m m' else gone g - gone g'
theorem cmp_Compare_f (a b : Int) : cmp_Compare_int.f a b = some (sgn a b) := by
  have hn : ∀ x : Int, cmp_isNaN_int.f x = some false := by intro x; simp [cmp_isNaN_int.f]
  simp only [cmp_Compare_int.f, hn, Option.bind_some, Bool.false_eq_true, if_false]
  unfold sgn
  by_cases h1 : a < b
  · rw [if_pos h1, if_pos h1]
  · rw [if_neg h1, if_neg h1]
    by_cases h2 : a > b
    · rw [if_pos h2, if_pos (show b < a from h2)]
    · rw [if_neg h2, if_neg (show ¬ b < a from h2)]
theorem or_step (k : Nat) (l : List Int) (i : Nat) (h : i < l.length) (hl : l.length ≤ 100) :
    cmp_Or_int.l0 (k + 1) 0 l (l.length : Int) (i : Int) = if rd l (i : Int) = 0 then cmp_Or_int.l0 k 0 l (l.length : Int) ((i + 1 : Nat) : Int) else some (rd l (i : Int)) := by
  have w : wrap64 ((i : Int) + 1) = ((i + 1 : Nat) : Int) := by rw [wrap_id (by omega) (by omega)]; omega
  simp only [cmp_Or_int.l0]
  rw [if_pos (by omega), if_pos (by omega), if_pos (by omega), w]
theorem or_end (k : Nat) (l : List Int) : cmp_Or_int.l0 (k + 1) 0 l (l.length : Int) (l.length : Int) = some 0 := by
  simp only [cmp_Or_int.l0]
  rw [if_neg (by omega)]
theorem cmp_Or_f {k : Nat} (hk : 4 ≤ k) (x y z : Int) : cmp_Or_int.f k [x, y, z] = some (if x ≠ 0 then x else if y ≠ 0 then y else z) := by
  obtain ⟨k, rfl⟩ : ∃ m, k = m + 4 := ⟨k - 4, by omega⟩
  have s0 := or_step (k + 3) [x, y, z] 0 (by simp) (by simp)
  have s1 := or_step (k + 2) [x, y, z] 1 (by simp) (by simp)
  have s2 := or_step (k + 1) [x, y, z] 2 (by simp) (by simp)
  have s3 := or_end k [x, y, z]
  rw [show rd [x, y, z] ((0 : Nat) : Int) = x from rfl] at s0
  rw [show rd [x, y, z] ((1 : Nat) : Int) = y from rfl] at s1
  rw [show rd [x, y, z] ((2 : Nat) : Int) = z from rfl] at s2
  refine Eq.trans s0 ?_
  by_cases hx : x = 0
  · rw [if_pos hx, if_neg (fun h => h hx)]
    refine Eq.trans s1 ?_
    by_cases hy : y = 0
    · rw [if_pos hy, if_neg (fun h => h hy)]
      refine Eq.trans s2 ?_
      by_cases hz : z = 0
      · rw [if_pos hz, hz]; rw [hz] at s3; exact s3
      · rw [if_neg hz]
    · rw [if_neg hy, if_pos hy]
  · rw [if_neg hx, if_pos hx]
theorem gone_f (a b c d : Int) : newer_gone.f a b c d = some (gone c) := by
  unfold newer_gone.f gone; split <;> rfl
theorem gone_range (g : Int) : 0 ≤ gone g ∧ gone g ≤ 1 := by unfold gone; split <;> omega
theorem sgn_zero (a b : Int) : sgn a b = 0 ↔ a = b := by
  unfold sgn
  by_cases h1 : a < b
  · rw [if_pos h1]; omega
  · rw [if_neg h1]
    by_cases h2 : b < a
    · rw [if_pos h2]; omega
    · rw [if_neg h2]; omega
theorem or_cmp3 (s g m s' g' m' : Int) : (if sgn s s' ≠ 0 then sgn s s' else if sgn m m' ≠ 0 then sgn m m' else gone g - gone g') = cmp3 s g m s' g' m' := by
  unfold cmp3
  simp only [ne_eq, sgn_zero]
theorem newer_j0 {k : Nat} (hk : 4 ≤ k) (a0 a1 a2 a3 b0 b1 b2 b3 : Int) : newer_Compare.j0 (k + 1) false a0 a1 a2 a3 b0 b1 b2 b3 = some (cmp3 a1 a2 a3 b1 b2 b3, 0) := by
  have h1 := gone_range a2
  have h2 := gone_range b2
  have hw : wrap64 (gone a2 - gone b2) = gone a2 - gone b2 := wrap_id (by omega) (by omega)
  simp only [newer_Compare.j0, Bool.false_eq_true, if_false, cmp_Compare_f, gone_f, Option.bind_some, hw, cmp_Or_f hk, or_cmp3]
theorem newer_Compare_f {k : Nat} (hk : 5 ≤ k) (a0 a1 a2 a3 b0 b1 b2 b3 : Int) : newer_Compare.f k a0 a1 a2 a3 b0 b1 b2 b3 =
    some (if AckOk a0 a1 a2 a3 ∧ AckOk b0 b1 b2 b3 ∧ a0 = b0 then (cmp3 a1 a2 a3 b1 b2 b3, 0) else (0, 1700)) := by
  obtain ⟨k, rfl⟩ : ∃ m, k = m + 1 := ⟨k - 1, by omega⟩
  have ht : newer_Compare.j0 (k + 1) true a0 a1 a2 a3 b0 b1 b2 b3 = some (0, 1700) := by simp [newer_Compare.j0]
  simp only [newer_Compare.f, ack_Head_f, Option.bind_some, decide_eq_true_eq]
  by_cases h1 : AckOk a0 a1 a2 a3
  · rw [if_pos h1]
    by_cases h2 : AckOk b0 b1 b2 b3
    · rw [if_pos h2]
      by_cases h3 : a0 = b0
      · have : (a0 != b0) = false := by simp [h3]
        rw [this, newer_j0 (by omega), if_pos ⟨h1, h2, h3⟩]
      · have : (a0 != b0) = true := by simp [h3]
        rw [this, ht, if_neg (fun h => h3 h.2.2)]
    · rw [if_neg h2, ht, if_neg (fun h => h2 h.2.1)]
  · rw [if_neg h1, ht, if_neg (fun h => h1 h.1)]
/-! ### Rising rows: lists whose elements are sound and whose keys rise; one put in its place -/
section
variable {α : Type}
def rises (ok : α → Bool) (key : α → Int) : Int → List α → Bool
  | _, [] => true
  | p, x :: l => if ok x = true ∧ p < key x then rises ok key (key x) l else false
def ins (key : α → Int) (x : α) : List α → List α
  | [] => [x]
  | y :: l => if key y < key x then y :: ins key x l else if key y = key x then x :: l else x :: y :: l
def look (key : α → Int) (q : Int) : List α → Option α
  | [] => none
  | y :: l => if key y = q then some y else look key q l
variable {ok : α → Bool} {key : α → Int}
theorem rises_cons {p : Int} {x : α} {l : List α} : rises ok key p (x :: l) = true ↔ (ok x = true ∧ p < key x) ∧ rises ok key (key x) l = true := by
  show (if ok x = true ∧ p < key x then rises ok key (key x) l else false) = true ↔ _
  by_cases h : ok x = true ∧ p < key x
  · rw [if_pos h]; exact ⟨fun h' => ⟨h, h'⟩, fun h' => h'.2⟩
  · rw [if_neg h]; constructor
    · intro h'; cases h'
    · intro h'; exact absurd h'.1 h
theorem rises_lower : ∀ {l : List α} {p q : Int}, rises ok key p l = true → q ≤ p → rises ok key q l = true
  | [], _, _, _, _ => rfl
  | x :: l, p, q, h, hq => by
    obtain ⟨⟨h1, h2⟩, h3⟩ := rises_cons.mp h
    exact rises_cons.mpr ⟨⟨h1, by omega⟩, h3⟩
theorem rises_mem : ∀ {l : List α} {p : Int}, rises ok key p l = true → ∀ x ∈ l, ok x = true ∧ p < key x
  | [], _, _, _, hx => by cases hx
  | y :: l, p, h, x, hx => by
    obtain ⟨⟨h1, h2⟩, h3⟩ := rises_cons.mp h
    rcases List.mem_cons.mp hx with rfl | hx
    · exact ⟨h1, h2⟩
    · have := rises_mem h3 x hx
      exact ⟨this.1, by omega⟩
theorem rises_length : ∀ {l : List α} {p : Int} (b : Int), rises ok key p l = true → (∀ x, ok x = true → key x ≤ b) → p ≤ b → (l.length : Int) ≤ b - p
  | [], p, b, _, _, hp => by simp; omega
  | x :: l, p, b, h, hb, hp => by
    obtain ⟨⟨h1, h2⟩, h3⟩ := rises_cons.mp h
    have := rises_length b h3 hb (hb x h1)
    simp only [List.length_cons]; omega
theorem rises_get : ∀ {l : List α} {p : Int}, rises ok key p l = true → ∀ {i j : Nat} (hi : i < j) (hj : j < l.length), key (l[i]'(by omega)) < key l[j]
  | [], _, _, _, _, _, hj => by simp at hj
  | x :: l, p, h, i, j, hi, hj => by
    obtain ⟨⟨h1, h2⟩, h3⟩ := rises_cons.mp h
    obtain ⟨j, rfl⟩ : ∃ m, j = m + 1 := ⟨j - 1, by omega⟩
    cases i with
    | zero =>
      simp only [List.getElem_cons_zero, List.getElem_cons_succ]
      exact (rises_mem h3 _ (List.getElem_mem _)).2
    | succ i =>
      simp only [List.getElem_cons_succ]
      exact rises_get h3 (by omega) (by simpa using hj)
theorem rises_ok {l : List α} {p : Int} (h : rises ok key p l = true) {i : Nat} (hi : i < l.length) : ok l[i] = true := (rises_mem h _ (List.getElem_mem hi)).1
theorem ins_rises : ∀ {l : List α} {p : Int} {x : α}, rises ok key p l = true → ok x = true → p < key x → rises ok key p (ins key x l) = true
  | [], p, x, _, h1, h2 => rises_cons.mpr ⟨⟨h1, h2⟩, rfl⟩
  | y :: l, p, x, h, h1, h2 => by
    obtain ⟨⟨a1, a2⟩, a3⟩ := rises_cons.mp h
    show rises ok key p (if key y < key x then y :: ins key x l else if key y = key x then x :: l else x :: y :: l) = true
    by_cases c1 : key y < key x
    · rw [if_pos c1]; exact rises_cons.mpr ⟨⟨a1, a2⟩, ins_rises a3 h1 c1⟩
    · rw [if_neg c1]
      by_cases c2 : key y = key x
      · rw [if_pos c2]; exact rises_cons.mpr ⟨⟨h1, h2⟩, rises_lower a3 (by omega)⟩
      · rw [if_neg c2]; exact rises_cons.mpr ⟨⟨h1, h2⟩, rises_cons.mpr ⟨⟨a1, by omega⟩, a3⟩⟩
theorem ins_length : ∀ (l : List α) (x : α), (ins key x l).length ≤ l.length + 1 ∧ 1 ≤ (ins key x l).length
  | [], x => by simp [ins]
  | y :: l, x => by
    have := ins_length l x
    unfold ins
    split
    · simp only [List.length_cons]; omega
    · split <;> simp only [List.length_cons] <;> omega
theorem look_lt : ∀ {l : List α} {p q : Int}, rises ok key p l = true → q ≤ p → look key q l = none
  | [], _, _, _, _ => rfl
  | x :: l, p, q, h, hq => by
    obtain ⟨⟨h1, h2⟩, h3⟩ := rises_cons.mp h
    unfold look
    rw [if_neg (by omega)]
    exact look_lt h3 (by omega)
theorem look_ins_self : ∀ {l : List α} {p : Int} {x : α}, rises ok key p l = true → look key (key x) (ins key x l) = some x
  | [], _, x, _ => by simp [ins, look]
  | y :: l, p, x, h => by
    obtain ⟨⟨h1, h2⟩, h3⟩ := rises_cons.mp h
    unfold ins
    by_cases c1 : key y < key x
    · rw [if_pos c1]; unfold look; rw [if_neg (by omega)]; exact look_ins_self h3
    · rw [if_neg c1]
      by_cases c2 : key y = key x
      · rw [if_pos c2]; unfold look; rw [if_pos rfl]
      · rw [if_neg c2]; unfold look; rw [if_pos rfl]
theorem look_ins_other : ∀ {l : List α} {x : α} {q : Int}, q ≠ key x → look key q (ins key x l) = look key q l
  | [], x, q, hq => by show (if key x = q then some x else look key q []) = _; rw [if_neg (by omega)]
  | y :: l, x, q, hq => by
    unfold ins
    by_cases c1 : key y < key x
    · rw [if_pos c1]; unfold look; rw [look_ins_other hq]
    · rw [if_neg c1]
      by_cases c2 : key y = key x
      · rw [if_pos c2]; unfold look; rw [if_neg (by omega), if_neg (by omega)]
      · rw [if_neg c2]; conv => lhs; unfold look
        rw [if_neg (by omega)]
theorem look_mem : ∀ {l : List α} {q : Int} {x : α}, look key q l = some x → x ∈ l ∧ key x = q
  | [], _, _, h => by cases h
  | y :: l, q, x, h => by
    unfold look at h
    by_cases c : key y = q
    · rw [if_pos c] at h; obtain rfl := Option.some.inj h; exact ⟨List.mem_cons_self, c⟩
    · rw [if_neg c] at h; have := look_mem h; exact ⟨List.mem_cons_of_mem _ this.1, this.2⟩
theorem look_none : ∀ {l : List α} {q : Int}, look key q l = none → ∀ x ∈ l, key x ≠ q
  | [], _, _, x, hx => by cases hx
  | y :: l, q, h, x, hx => by
    unfold look at h
    by_cases c : key y = q
    · rw [if_pos c] at h; cases h
    · rw [if_neg c] at h
      rcases List.mem_cons.mp hx with rfl | hx
      · exact c
      · exact look_none h x hx
/-- Where a key is, or would be. -/
structure Place (key : α → Int) (l : List α) (q : Int) (p : Nat) : Prop where
  le : p ≤ l.length
  lo : ∀ j (h : j < l.length), j < p → key l[j] < q
  hi : ∀ j (h : j < l.length), p ≤ j → q ≤ key l[j]
theorem place_of : ∀ {l : List α} {p : Int}, rises ok key p l = true → ∀ q, ∃ m, Place key l q m
  | [], _, _, q => ⟨0, by simp, fun _ h => by simp at h, fun _ h => by simp at h⟩
  | x :: l, p, h, q => by
    obtain ⟨⟨h1, h2⟩, h3⟩ := rises_cons.mp h
    by_cases c : key x < q
    · obtain ⟨m, hm⟩ := place_of h3 q
      refine ⟨m + 1, by simpa using hm.le, fun j hj h => ?_, fun j hj h => ?_⟩
      · cases j with
        | zero => exact c
        | succ j => exact hm.lo j (by simpa using hj) (by omega)
      · obtain ⟨j, rfl⟩ : ∃ m, j = m + 1 := ⟨j - 1, by omega⟩
        exact hm.hi j (by simpa using hj) (by omega)
    · refine ⟨0, Nat.zero_le _, fun j _ h => by omega, fun j hj _ => ?_⟩
      cases j with
      | zero => show q ≤ key x; omega
      | succ j =>
        have hj' : j < l.length := by simpa using hj
        have := (rises_mem h3 _ (List.getElem_mem hj')).2
        simp only [List.getElem_cons_succ]; omega
/-- Put in at its place. -/
theorem ins_place : ∀ {l : List α} {b : Int} {x : α} {m : Nat}, rises ok key b l = true → Place key l (key x) m →
    (∀ h : m < l.length, key l[m] = key x → ins key x l = l.set m x) ∧ ((∀ h : m < l.length, key l[m] ≠ key x) → ins key x l = l.take m ++ [x] ++ l.drop m)
  | [], _, x, m, _, P => by
    have := P.le
    obtain rfl : m = 0 := by simpa using this
    exact ⟨fun h => by simp at h, fun _ => rfl⟩
  | y :: l, b, x, m, h, P => by
    obtain ⟨⟨h1, h2⟩, h3⟩ := rises_cons.mp h
    cases m with
    | zero =>
      have c1 := P.hi 0 (by simp) (Nat.le_refl _)
      simp only [List.getElem_cons_zero] at c1
      refine ⟨fun _ e => ?_, fun e => ?_⟩
      · simp only [List.getElem_cons_zero] at e
        unfold ins; rw [if_neg (by omega), if_pos e]; rfl
      · have e := e (by simp)
        simp only [List.getElem_cons_zero] at e
        unfold ins; rw [if_neg (by omega), if_neg e]; rfl
    | succ m =>
      have c1 := P.lo 0 (by simp) (by omega)
      simp only [List.getElem_cons_zero] at c1
      have P' : Place key l (key x) m := ⟨by have := P.le; simpa using this, fun j hj hm => P.lo (j + 1) (by simpa using hj) (by omega), fun j hj hm => P.hi (j + 1) (by simpa using hj) (by omega)⟩
      have ih := ins_place h3 P'
      refine ⟨fun hl e => ?_, fun e => ?_⟩
      · simp only [List.getElem_cons_succ] at e
        unfold ins; rw [if_pos c1, ih.1 (by simpa using hl) e]; rfl
      · unfold ins; rw [if_pos c1, ih.2 (fun hl => by have := e (by simpa using hl); simpa using this)]; rfl
theorem look_place : ∀ {l : List α} {b q : Int} {m : Nat}, rises ok key b l = true → Place key l q m →
    (∀ h : m < l.length, key l[m] = q → look key q l = some l[m]) ∧ ((∀ h : m < l.length, key l[m] ≠ q) → look key q l = none)
  | [], _, q, m, _, P => ⟨fun h => by simp at h, fun _ => rfl⟩
  | y :: l, b, q, m, h, P => by
    obtain ⟨⟨h1, h2⟩, h3⟩ := rises_cons.mp h
    cases m with
    | zero =>
      have c1 := P.hi 0 (by simp) (Nat.le_refl _)
      simp only [List.getElem_cons_zero] at c1
      refine ⟨fun _ e => ?_, fun e => ?_⟩
      · simp only [List.getElem_cons_zero] at e
        unfold look; rw [if_pos e]; rfl
      · have e := e (by simp)
        simp only [List.getElem_cons_zero] at e
        unfold look; rw [if_neg e]
        exact look_lt h3 (by omega)
    | succ m =>
      have c1 := P.lo 0 (by simp) (by omega)
      simp only [List.getElem_cons_zero] at c1
      have P' : Place key l q m := ⟨by have := P.le; simpa using this, fun j hj hm => P.lo (j + 1) (by simpa using hj) (by omega), fun j hj hm => P.hi (j + 1) (by simpa using hj) (by omega)⟩
      have ih := look_place h3 P'
      refine ⟨fun hl e => ?_, fun e => ?_⟩
      · simp only [List.getElem_cons_succ] at e
        unfold look; rw [if_neg (by omega), ih.1 (by simpa using hl) e]; rfl
      · unfold look; rw [if_neg (by omega)]; exact ih.2 (fun hl => by have := e (by simpa using hl); simpa using this)
end
theorem mid_wraps {i j : Nat} (h : i + j ≤ 4000) : wrap64 ((i : Int) + (j : Int)) = ((i + j : Nat) : Int) ∧ IntKind.u64.wrap (((i + j : Nat) : Int)) = ((i + j : Nat) : Int) ∧ (((i + j : Nat) : Int)) / 2 = (((i + j) / 2 : Nat) : Int) ∧ wrap64 ((((i + j) / 2 : Nat) : Int)) = (((i + j) / 2 : Nat) : Int) ∧ wrap64 ((((i + j) / 2 : Nat) : Int) + 1) = (((i + j) / 2 + 1 : Nat) : Int) := by
  refine ⟨?_, IntWalk.u64_in _ ⟨by omega, by omega⟩, by omega, wrap_id (by omega) (by omega), ?_⟩
  · rw [wrap_id (by omega) (by omega)]; omega
  · rw [wrap_id (by omega) (by omega)]; omega
theorem next_wrap {i : Nat} (h : i ≤ 9223372036854775800) : wrap64 ((i : Int) + 1) = ((i + 1 : Nat) : Int) := by rw [wrap_id (by omega) (by omega)]; omega
/-! ### the store: a rising row of sound Lsas that are not of the last age -/
def ukey (x : S32) : Int := x.f0
def sok (x : S32) : Bool := decide (UsOk x ∧ x.f2 < 60)
theorem sok_iff {x : S32} : sok x = true ↔ UsOk x ∧ x.f2 < 60 := by unfold sok; exact decide_eq_true_iff
theorem sok_key {x : S32} (h : sok x = true) : 1 ≤ ukey x ∧ ukey x ≤ 4 := by have := (sok_iff.1 h).1; exact ⟨this.1, this.2.1⟩
abbrev St (l : List S32) : Bool := rises sok ukey 0 l
theorem upd_rises : ∀ (l : List S32) (p : Int), (upd p l && l.all fun x => decide (x.f2 < 60)) = rises sok ukey p l
  | [], _ => rfl
  | x :: l, p => by
    show ((if UsOk x ∧ p < x.f0 then upd x.f0 l else false) && _) = (if sok x = true ∧ p < ukey x then rises sok ukey (ukey x) l else false)
    rw [List.all_cons]
    by_cases h : UsOk x ∧ p < x.f0
    · rw [if_pos h]
      by_cases h2 : x.f2 < 60
      · rw [if_pos ⟨sok_iff.2 ⟨h.1, h2⟩, h.2⟩, ← upd_rises l (ukey x), decide_eq_true h2, Bool.true_and]; rfl
      · rw [if_neg (fun z => h2 (sok_iff.1 z.1).2), decide_eq_false h2]; simp
    · rw [if_neg h, if_neg (fun z => h ⟨(sok_iff.1 z.1).1, z.2⟩)]; rfl
theorem st_len {l : List S32} (h : St l = true) : l.length ≤ 4 := by
  have := rises_length (ok := sok) (key := ukey) 4 h (fun x hx => (sok_key hx).2) (by omega)
  omega
theorem st_links {l : List S32} (h : St l = true) : ∀ x ∈ l, x.f3.length ≤ 4 := fun x hx => usOk_len (sok_iff.1 (rises_mem h x hx).1).1
theorem nx {i : Nat} (h : i ≤ 4611686018427387904) : wrap64 ((i : Int) + 1) = ((i + 1 : Nat) : Int) := by rw [wrap_id (by omega) (by omega)]; omega
theorem age_f (a b c : Int) (l : List S56) : store_May_1.f a b c l = some (decide (c ≥ 60)) := rfl
theorem idx_l {l : List S32} (hn : l.length ≤ 4611686018427387904) : ∀ (d k i : Nat), i + d = l.length → d < k → ∃ r : Int, api_Lsa_56.l0 k l (l.length : Int) (i : Int) = some r ∧ decide (r ≥ 0) = !((l.drop i).all fun x => decide (x.f2 < 60)) := by
  intro d
  induction d with
  | zero =>
    intro k i hi hk
    obtain ⟨k, rfl⟩ : ∃ m, k = m + 1 := ⟨k - 1, by omega⟩
    refine ⟨-1, ?_, by rw [List.drop_of_length_le (by omega)]; rfl⟩
    simp only [api_Lsa_56.l0]
    rw [if_neg (by omega)]
  | succ d ih =>
    intro k i hi hk
    obtain ⟨k, rfl⟩ : ∃ m, k = m + 1 := ⟨k - 1, by omega⟩
    have hlt : i < l.length := by omega
    rw [dropU_at hlt, List.all_cons]
    simp only [api_Lsa_56.l0, age_f, Option.bind_some, decide_eq_true_eq]
    rw [if_pos (by omega), if_pos (by omega), if_pos (by omega), nx (by omega)]
    by_cases c : (rd_T32 l (i : Int)).f2 ≥ 60
    · rw [if_pos c, decide_eq_false (show ¬ (rd_T32 l (i : Int)).f2 < 60 by omega)]
      exact ⟨_, rfl, by rw [decide_eq_true (show (i : Int) ≥ 0 by omega)]; rfl⟩
    · rw [if_neg c, decide_eq_true (show (rd_T32 l (i : Int)).f2 < 60 by omega), Bool.true_and]
      exact ih k (i + 1) (by omega) (by omega)
theorem May_f {l : List S32} {M : Nat} (hn : l.length ≤ 4611686018427387904) (hM : ∀ x ∈ l, x.f3.length < M) (hM2 : M ≤ 9223372036854775807) {k : Nat} (hk : l.length + M < k) : store_May.f k l = some (St l) := by
  unfold store_May.f
  rw [update_May_f (by omega) hM hM2 hk]
  simp only [Option.bind_some]
  unfold St
  rw [← upd_rises]
  by_cases h : upd 0 l = true
  · rw [if_pos h, h]
    obtain ⟨r, e, hr⟩ := idx_l hn l.length k 0 (by omega) (by omega)
    unfold api_Lsa_36.f api_Lsa_56.f
    rw [show api_Lsa_56.l0 k l (l.length : Int) 0 = some r from e]
    simp only [Option.bind_some]
    rw [hr]
    simp
  · rw [if_neg h, Bool.eq_false_iff.mpr h]; rfl
theorem cloneL_f {l : List S56} (h : l.length < 8796093022208) : api_Link.f l = some l := by
  unfold api_Link.f
  simp only [Option.bind_some, List.length_nil, List.nil_append]
  rw [if_pos (by omega)]
theorem copy_l {l : List S32} (hn : l.length ≤ 4611686018427387904) (hL : ∀ x ∈ l, x.f3.length < 8796093022208) : ∀ (d k i : Nat), i + d = l.length → d < k → store_Copy.l0 k l (l.length : Int) (i : Int) = some l := by
  intro d
  induction d with
  | zero =>
    intro k i hi hk
    obtain ⟨k, rfl⟩ : ∃ m, k = m + 1 := ⟨k - 1, by omega⟩
    simp only [store_Copy.l0]
    rw [if_neg (by omega)]
  | succ d ih =>
    intro k i hi hk
    obtain ⟨k, rfl⟩ : ∃ m, k = m + 1 := ⟨k - 1, by omega⟩
    have hlt : i < l.length := by omega
    simp only [store_Copy.l0]
    rw [if_pos (by omega), if_pos (by omega), if_pos (by omega), cloneL_f (hL _ (rdU_mem hlt)), nx (by omega)]
    simp only [Option.bind_some, Int.toNat_natCast]
    have e : l.set i (⟨(rd_T32 l (i : Int)).f0, (rd_T32 l (i : Int)).f1, (rd_T32 l (i : Int)).f2, (rd_T32 l (i : Int)).f3⟩ : S32) = l := by
      rw [rdU_at hlt]
      exact List.set_getElem_self hlt
    rw [e]
    exact ih k (i + 1) (by omega) (by omega)
theorem Copy_f {l : List S32} (hn : l.length < 2932031007402) (hL : ∀ x ∈ l, x.f3.length < 8796093022208) {k : Nat} (hk : l.length < k) : store_Copy.f k l = some l := by
  unfold store_Copy.f api_Lsa_50.f
  simp only [Option.bind_some, List.length_nil, List.nil_append]
  rw [if_pos (by omega)]
  exact copy_l (by omega) hL l.length k 0 (by omega) hk
/-! #### where a router's is -/
theorem midw {i j : Nat} (h : i + j ≤ 4611686018427387904) : wrap64 ((i : Int) + (j : Int)) = ((i + j : Nat) : Int) ∧ IntKind.u64.wrap (((i + j : Nat) : Int)) = ((i + j : Nat) : Int) ∧ (((i + j : Nat) : Int)) / 2 = (((i + j) / 2 : Nat) : Int) ∧ wrap64 ((((i + j) / 2 : Nat) : Int)) = (((i + j) / 2 : Nat) : Int) ∧ wrap64 ((((i + j) / 2 : Nat) : Int) + 1) = (((i + j) / 2 + 1 : Nat) : Int) := by
  refine ⟨?_, IntWalk.u64_in _ ⟨by omega, by omega⟩, by omega, wrap_id (by omega) (by omega), ?_⟩
  · rw [wrap_id (by omega) (by omega)]; omega
  · rw [wrap_id (by omega) (by omega)]; omega
theorem at1_f (a b c : Int) (l : List S56) (r : Int) : store_at_1.f a b c l r = some (wrap64 (a - r)) := rfl
/-- In whatever row: some place in it, or behind it. -/
theorem bs_any {l : List S32} (hn : l.length ≤ 2305843009213693952) (t : Int) : ∀ (d k i j : Nat), i + d = j → d < k → j ≤ l.length →
    ∃ (m : Nat) (b : Bool), api_Lsa_int.l0 k l t (l.length : Int) (i : Int) (j : Int) = some ((m : Int), b) ∧ m ≤ l.length ∧ (b = true → m < l.length) := by
  intro d
  induction d using Nat.strongRecOn with
  | _ d ih =>
    intro k i j hij hk hjn
    obtain ⟨k, rfl⟩ : ∃ q, k = q + 1 := ⟨k - 1, by omega⟩
    simp only [api_Lsa_int.l0, at1_f, Option.bind_some]
    by_cases h0 : i < j
    · have hh : (i + j) / 2 < l.length := by omega
      obtain ⟨e1, e2, e3, e4, e5⟩ := midw (i := i) (j := j) (by omega)
      simp only [e1, e2, e3, e4, e5]
      clear e1 e2 e3 e4 e5
      rw [if_pos (by omega), if_pos (by omega), if_pos (by omega)]
      by_cases hc : wrap64 ((rd_T32 l (((i + j) / 2 : Nat) : Int)).f0 - t) < 0
      · rw [if_pos hc]
        exact ih (j - ((i + j) / 2 + 1)) (by omega) k ((i + j) / 2 + 1) j (by omega) (by omega) hjn
      · rw [if_neg hc]
        exact ih ((i + j) / 2 - i) (by omega) k i ((i + j) / 2) (by omega) (by omega) (by omega)
    · rw [if_neg (by omega)]
      by_cases hl : i < l.length
      · rw [if_pos (by omega), if_pos (by omega), if_pos (by omega)]
        exact ⟨i, _, rfl, by omega, fun _ => hl⟩
      · rw [if_neg (by omega)]
        exact ⟨i, false, rfl, by omega, fun h => by cases h⟩
theorem bs_l {l : List S32} {t p : Int} {m : Nat} (hr : rises sok ukey p l = true) (ht : 1 ≤ t ∧ t ≤ 4) (P : Place ukey l t m) (hn : l.length ≤ 1000) :
    ∀ (d k i j : Nat), i + d = j → d < k → i ≤ m → m ≤ j → j ≤ l.length →
    api_Lsa_int.l0 k l t (l.length : Int) (i : Int) (j : Int) = some ((m : Int), if h : m < l.length then decide (ukey l[m] = t) else false) := by
  intro d
  induction d using Nat.strongRecOn with
  | _ d ih =>
    intro k i j hij hk him hmj hjn
    obtain ⟨k, rfl⟩ : ∃ q, k = q + 1 := ⟨k - 1, by omega⟩
    have hw : ∀ {q : Nat} (h : q < l.length), wrap64 (l[q].f0 - t) = ukey l[q] - t := by
      intro q h
      have := sok_key (rises_ok hr h)
      unfold ukey at this ⊢
      rw [wrap_id (by omega) (by omega)]
    simp only [api_Lsa_int.l0, at1_f, Option.bind_some]
    by_cases h0 : i < j
    · have hh : (i + j) / 2 < l.length := by omega
      obtain ⟨e1, e2, e3, e4, e5⟩ := midw (i := i) (j := j) (by omega)
      simp only [e1, e2, e3, e4, e5, rdU_at hh]
      clear e1 e2 e3 e4 e5
      rw [if_pos (by omega), if_pos (by omega), if_pos (by omega)]
      simp only [hw hh]
      by_cases hc : ukey l[(i + j) / 2] - t < 0
      · rw [if_pos hc]
        have hm : (i + j) / 2 < m := by
          apply Nat.lt_of_not_le; intro hle
          have := P.hi _ hh hle; omega
        exact ih (j - ((i + j) / 2 + 1)) (by omega) k ((i + j) / 2 + 1) j (by omega) (by omega) (by omega) hmj hjn
      · rw [if_neg hc]
        have hm : m ≤ (i + j) / 2 := by
          apply Nat.le_of_not_lt; intro hlt
          have := P.lo _ hh hlt; omega
        exact ih ((i + j) / 2 - i) (by omega) k i ((i + j) / 2) (by omega) (by omega) him hm (by omega)
    · obtain rfl : i = m := by omega
      rw [if_neg (by omega)]
      by_cases hl : i < l.length
      · rw [if_pos (by omega), if_pos (by omega), if_pos (by omega)]
        simp only [rdU_at hl, hw hl, dif_pos hl]
        congr 2
        by_cases hc : ukey l[i] = t
        · rw [hc]; simp
        · have : ukey l[i] - t ≠ 0 := by omega
          simp [this, hc]
      · rw [if_neg (by omega), dif_neg hl]
theorem at_f {l : List S32} {t p : Int} {m k : Nat} (hr : rises sok ukey p l = true) (ht : 1 ≤ t ∧ t ≤ 4) (P : Place ukey l t m) (hn : l.length ≤ 1000) (hk : l.length < k) :
    store_at.f k l t = some ((m : Int), if h : m < l.length then decide (ukey l[m] = t) else false) := by
  unfold store_at.f api_Lsa_int.f
  rw [show api_Lsa_int.l0 k l t (l.length : Int) 0 (l.length : Int) = _ from bs_l hr ht P hn l.length k 0 l.length (by omega) hk (by omega) P.le (Nat.le_refl _)]
  rfl
theorem at_any {l : List S32} (hn : l.length ≤ 2305843009213693952) (t : Int) {k : Nat} (hk : l.length < k) : ∃ (m : Nat) (b : Bool), store_at.f k l t = some ((m : Int), b) ∧ m ≤ l.length ∧ (b = true → m < l.length) := by
  obtain ⟨m, b, e, h1, h2⟩ := bs_any hn t l.length k 0 l.length (by omega) hk (Nat.le_refl _)
  refine ⟨m, b, ?_, h1, h2⟩
  unfold store_at.f api_Lsa_int.f
  rw [show api_Lsa_int.l0 k l t (l.length : Int) 0 (l.length : Int) = _ from e]
  rfl
/-! #### Find -/
def tellF : Option S32 → Int × Int × Int × (List S56) × Bool
  | none => (0, 0, 0, [], false)
  | some y => (y.f0, y.f1, y.f2, y.f3, true)
theorem Find_f {l : List S32} (h : St l = true) {t : Int} (ht : 1 ≤ t ∧ t ≤ 4) {k : Nat} (hk : 20 ≤ k) : store_Find.f k l t = some (tellF (look ukey t l)) := by
  have hl := st_len h
  have hL := st_links h
  obtain ⟨m, P⟩ := place_of h t
  have lp := look_place h P
  unfold store_Find.f
  rw [at_f h ht P (by omega) (by omega), May_f (M := 5) (by omega) (fun x hx => by have := hL x hx; omega) (by omega) (by omega), h]
  simp only [Option.bind_some, if_true]
  by_cases hm : m < l.length
  · rw [dif_pos hm]
    by_cases hc : ukey l[m] = t
    · rw [decide_eq_true hc, if_pos rfl, if_pos (by omega), if_pos (by omega), rdU_at hm, cloneL_f (by have := hL _ (List.getElem_mem hm); omega), lp.1 hm hc]
      rfl
    · rw [decide_eq_false hc, if_neg (by decide), lp.2 (fun _ => hc)]
      rfl
  · rw [dif_neg hm, if_neg (by decide), lp.2 (fun h => absurd h hm)]
    rfl
theorem Find_bad {l : List S32} {M : Nat} (hn : l.length ≤ 2305843009213693952) (hM : ∀ x ∈ l, x.f3.length < M) (hM2 : M ≤ 9223372036854775807) {k : Nat} (hk : l.length + M < k) (h : St l = false) (t : Int) : store_Find.f k l t = some (0, 0, 0, [], false) := by
  obtain ⟨m, b, e, h1, h2⟩ := at_any hn t (show l.length < k by omega)
  unfold store_Find.f
  rw [e, May_f (by omega) hM hM2 hk, h]
  simp
/-! #### Newer -/
def mark (x : S32) : Int := flSum (bodyB x.f0 x.f1 x.f3)
def nwr (x y : S32) : Bool := decide (cmp3 x.f1 x.f2 (mark x) y.f1 y.f2 (mark y) > 0)
theorem Newer_f {x y : S32} (hx : UsOk x) (hy : UsOk y) (hk : x.f0 = y.f0) {k : Nat} (h : 30 ≤ k) : store_Newer.f k x.f0 x.f1 x.f2 x.f3 y.f0 y.f1 y.f2 y.f3 = some (nwr x y) := by
  have lx := usOk_len hx
  have ly := usOk_len hy
  have mx := flSum_range (bodyB x.f0 x.f1 x.f3)
  have my := flSum_range (bodyB y.f0 y.f1 y.f3)
  unfold store_Newer.f
  rw [lsa_Head_f (by omega) (by omega) (by omega), lsa_Head_f (by omega) (by omega) (by omega), if_pos (show LsaOk x.f0 x.f1 x.f2 x.f3 from hx), if_pos (show LsaOk y.f0 y.f1 y.f2 y.f3 from hy)]
  simp only [Option.bind_some]
  have ax : AckOk x.f0 x.f1 x.f2 (flSum (bodyB x.f0 x.f1 x.f3)) := ⟨hx.1, hx.2.1, hx.2.2.1, hx.2.2.2.1, hx.2.2.2.2.1, hx.2.2.2.2.2.1, mx.1, by omega⟩
  have ay : AckOk y.f0 y.f1 y.f2 (flSum (bodyB y.f0 y.f1 y.f3)) := ⟨hy.1, hy.2.1, hy.2.2.1, hy.2.2.2.1, hy.2.2.2.2.1, hy.2.2.2.2.2.1, my.1, by omega⟩
  rw [newer_Compare_f (by omega), if_pos ⟨ax, ay, hk⟩]
  rfl
theorem nwr_self (x : S32) : nwr x x = false := by unfold nwr cmp3; simp
/-! #### an element taken out -/
def del (q : Int) : List S32 → List S32
  | [] => []
  | y :: l => if ukey y = q then l else y :: del q l
theorem del_place : ∀ {l : List S32} {b q : Int} {m : Nat}, rises sok ukey b l = true → Place ukey l q m → ∀ h : m < l.length, ukey l[m] = q → del q l = l.take m ++ l.drop (m + 1)
  | [], _, _, m, _, _, h, _ => by simp at h
  | y :: l, b, q, m, h, P, hm, e => by
    obtain ⟨⟨h1, h2⟩, h3⟩ := rises_cons.mp h
    cases m with
    | zero =>
      simp only [List.getElem_cons_zero] at e
      unfold del; rw [if_pos e]; rfl
    | succ m =>
      have c1 := P.lo 0 (by simp) (by omega)
      simp only [List.getElem_cons_zero] at c1
      simp only [List.getElem_cons_succ] at e
      have P' : Place ukey l q m := ⟨by have := P.le; simpa using this, fun j hj hm => P.lo (j + 1) (by simpa using hj) (by omega), fun j hj hm => P.hi (j + 1) (by simpa using hj) (by omega)⟩
      unfold del; rw [if_neg (by omega), del_place h3 P' (by simpa using hm) e]; rfl
theorem del_rises : ∀ {l : List S32} {p q : Int}, rises sok ukey p l = true → rises sok ukey p (del q l) = true
  | [], _, _, _ => rfl
  | y :: l, p, q, h => by
    obtain ⟨⟨h1, h2⟩, h3⟩ := rises_cons.mp h
    unfold del
    by_cases c : ukey y = q
    · rw [if_pos c]; exact rises_lower h3 (by omega)
    · rw [if_neg c]; exact rises_cons.mpr ⟨⟨h1, h2⟩, del_rises h3⟩
theorem look_del_self : ∀ {l : List S32} {p q : Int}, rises sok ukey p l = true → look ukey q (del q l) = none
  | [], _, _, _ => rfl
  | y :: l, p, q, h => by
    obtain ⟨⟨h1, h2⟩, h3⟩ := rises_cons.mp h
    unfold del
    by_cases c : ukey y = q
    · rw [if_pos c]; exact look_lt h3 (by omega)
    · rw [if_neg c]; unfold look; rw [if_neg c]; exact look_del_self h3
theorem look_del_other : ∀ {l : List S32} {q r : Int}, r ≠ q → look ukey r (del q l) = look ukey r l
  | [], _, _, _ => rfl
  | y :: l, q, r, h => by
    unfold del
    by_cases c : ukey y = q
    · rw [if_pos c]; conv => rhs; unfold look
      rw [if_neg (by omega)]
    · rw [if_neg c]; unfold look; rw [look_del_other h]
theorem del_length : ∀ {l : List S32} {q : Int} {y : S32}, look ukey q l = some y → (del q l).length + 1 = l.length
  | [], _, _, h => by cases h
  | z :: l, q, y, h => by
    unfold look at h
    unfold del
    by_cases c : ukey z = q
    · rw [if_pos c]; rfl
    · rw [if_neg c] at h ⊢
      have := del_length h
      simp only [List.length_cons]; omega
/-! #### With -/
def withC (l : List S32) (x : S32) : List S32 × Bool × Int :=
  match look ukey (ukey x) l with
  | none => if x.f2 = 60 then (l, false, 0) else (ins ukey x l, true, 0)
  | some y => if nwr x y = true then (if x.f2 = 60 then (del (ukey x) l, true, 0) else (ins ukey x l, true, 0)) else (l, false, 0)
theorem put_f {l : List S32} (h : St l = true) {x : S32} (hx : UsOk x) : store_Put.f l x.f0 x.f1 x.f2 x.f3 = some (ins ukey x l) := by
  have hl := st_len h
  have hlx := usOk_len hx
  obtain ⟨m, P⟩ := place_of h (ukey x)
  have ip := ins_place h P
  have hm := P.le
  unfold store_Put.f store_Put.g
  rw [at_f h ⟨hx.1, hx.2.1⟩ P (by omega) (by omega), cloneL_f (by omega)]
  simp only [Option.bind_some]
  have key : ∀ b : Bool, (if h : m < l.length then decide (ukey l[m] = x.f0) else false) = b → (b = true → ∃ h : m < l.length, ukey l[m] = ukey x) ∧ (b = false → ∀ h : m < l.length, ukey l[m] ≠ ukey x) := by
    intro b hb
    by_cases hc : m < l.length
    · rw [dif_pos hc] at hb
      refine ⟨fun e => ⟨hc, ?_⟩, fun e _ => ?_⟩
      · subst e; exact of_decide_eq_true hb
      · subst e; exact of_decide_eq_false hb
    · rw [dif_neg hc] at hb
      subst hb
      exact ⟨fun e => (by cases e), fun _ h => absurd h hc⟩
  generalize hb : (if h : m < l.length then decide (ukey l[m] = x.f0) else false) = b
  obtain ⟨k1, k2⟩ := key b hb
  cases b with
  | true =>
    obtain ⟨h1, h2⟩ := k1 rfl
    rw [if_pos rfl, if_pos (by omega), if_pos (by omega), Int.toNat_natCast, ip.1 h1 h2]
  | false =>
    have h2 := k2 rfl
    rw [if_neg (by decide)]
    unfold api_Lsa_55.f
    rw [if_pos ⟨by omega, by omega, by omega⟩, Int.toNat_natCast]
    simp only [Option.bind_some]
    have hlen : (l.take m ++ [(⟨0, 0, 0, ([] : List S56)⟩ : S32)] ++ l.drop m).length = l.length + 1 := by
      simp only [List.length_append, List.length_take, List.length_drop, List.length_singleton]; omega
    rw [if_pos (by omega), if_pos (by rw [hlen]; omega), ip.2 h2]
    have ht : (l.take m).length = m := by rw [List.length_take]; omega
    rw [List.append_assoc, List.set_append_right _ _ (by omega), ht, Nat.sub_self]
    rw [List.append_assoc]
    rfl
theorem With_f {l : List S32} (h : St l = true) {x : S32} (hx : UsOk x) {k : Nat} (hk : 40 ≤ k) : store_With.f k l x.f0 x.f1 x.f2 x.f3 = some (withC l x) := by
  have hl := st_len h
  have hL := st_links h
  have hlx := usOk_len hx
  obtain ⟨m, P⟩ := place_of h (ukey x)
  have lp := look_place h P
  obtain ⟨k, rfl⟩ : ∃ q, k = q + 2 := ⟨k - 2, by omega⟩
  unfold store_With.f
  rw [May_f (M := 5) (by omega) (fun y hy => by have := hL y hy; omega) (by omega) (by omega), h, lsa_May_f (by omega) (by omega), show decide (LsaOk x.f0 x.f1 x.f2 x.f3) = true from decide_eq_true hx]
  simp only [Option.bind_some, if_true, Bool.not_true]
  simp only [store_With.j0]
  rw [if_neg (by decide), Copy_f (by omega) (fun y hy => by have := hL y hy; omega) (by omega)]
  simp only [Option.bind_some]
  rw [at_f h ⟨hx.1, hx.2.1⟩ P (by omega) (by omega)]
  simp only [Option.bind_some]
  have j1t : ∀ g : Bool, store_With.j1 (k + 1) l (m : Int) g true x.f0 x.f1 x.f2 x.f3 = some (l, false, 0) := by
    intro g; simp only [store_With.j1]; rw [if_pos trivial]
  have j1p : store_With.j1 (k + 1) l (m : Int) false false x.f0 x.f1 x.f2 x.f3 = some (ins ukey x l, true, 0) := by
    simp only [store_With.j1]; rw [if_neg (by decide), if_neg (by decide), put_f h hx]; rfl
  unfold withC
  by_cases hm : m < l.length
  · rw [dif_pos hm]
    by_cases hc : ukey l[m] = x.f0
    · rw [decide_eq_true hc, if_pos rfl, if_pos (by omega), if_pos (by omega), rdU_at hm, lp.1 hm hc]
      have hy : UsOk l[m] := (sok_iff.1 (rises_ok h hm)).1
      rw [Newer_f hx hy hc.symm (by omega)]
      simp only [Option.bind_some]
      by_cases hn : nwr x l[m] = true
      · rw [hn, if_pos rfl, Bool.not_true]
        by_cases hg : x.f2 = 60
        · rw [if_pos hg, show (x.f2 == 60) = true by simp [hg]]
          simp only [store_With.j1]
          rw [if_neg (by decide), if_pos trivial]
          unfold api_Lsa_31.f
          rw [if_pos ⟨by omega, by omega, by rw [nx (by omega)]; omega⟩, Int.toNat_natCast, del_place h P hm hc]
          rfl
        · rw [if_neg hg, show (x.f2 == 60) = false by simp [hg]]
          exact j1p
      · rw [if_neg hn, Bool.eq_false_iff.mpr hn, Bool.not_false]
        exact j1t _
    · rw [decide_eq_false hc, if_neg (by decide), lp.2 (fun _ => hc)]
      by_cases hg : x.f2 = 60
      · rw [if_pos hg, if_pos hg]; exact j1t _
      · rw [if_neg hg, if_neg hg, show (x.f2 == 60) = false by simp [hg]]; exact j1p
  · rw [dif_neg hm, if_neg (by decide), lp.2 (fun h => absurd h hm)]
    by_cases hg : x.f2 = 60
    · rw [if_pos hg, if_pos hg]; exact j1t _
    · rw [if_neg hg, if_neg hg, show (x.f2 == 60) = false by simp [hg]]; exact j1p
theorem With_bad {l : List S32} {M : Nat} (hn : l.length ≤ 4611686018427387904) (hM : ∀ y ∈ l, y.f3.length < M) (hM2 : M ≤ 9223372036854775807) {k : Nat} (hk : l.length + M < k) {r s g : Int} {ls : List S56} (hl : ls.length ≤ 9223372036854775807) (hkl : ls.length < k) (h1 : 1 ≤ k)
    (h : ¬ (St l = true ∧ LsaOk r s g ls)) : store_With.f k l r s g ls = some ([], false, 1800) := by
  obtain ⟨q, rfl⟩ : ∃ q, k = q + 1 := ⟨k - 1, by omega⟩
  have bad : store_With.j0 (q + 1) l true r s g ls = some ([], false, 1800) := by simp only [store_With.j0]; rw [if_pos trivial]
  unfold store_With.f
  rw [May_f hn hM hM2 hk, lsa_May_f hl hkl]
  simp only [Option.bind_some]
  by_cases hs : St l = true
  · rw [if_pos hs, decide_eq_false (fun z => h ⟨hs, z⟩), Bool.not_false]; exact bad
  · rw [if_neg hs]; exact bad
theorem with_st {l : List S32} (h : St l = true) {x : S32} (hx : UsOk x) : St (withC l x).1 = true := by
  have h60 : x.f2 ≤ 60 := hx.2.2.2.2.2.1
  have hi : x.f2 ≠ 60 → St (ins ukey x l) = true := fun hg => ins_rises h (sok_iff.2 ⟨hx, by omega⟩) (by have := hx.1; unfold ukey; omega)
  unfold withC
  split
  · split
    · exact h
    · rename_i hg; exact hi hg
  · split
    · split
      · exact del_rises h
      · rename_i hg; exact hi hg
    · exact h
/-! #### Older -/
def agd (x : S32) : S32 := ⟨x.f0, x.f1, x.f2 + 1, x.f3⟩
def oldOut : List S32 → List S32
  | [] => []
  | x :: l => if x.f2 + 1 < 60 then agd x :: oldOut l else oldOut l
def oldGone : List S32 → List Int
  | [] => []
  | x :: l => if x.f2 + 1 < 60 then oldGone l else x.f0 :: oldGone l
theorem older_l {l : List S32} {p : Int} (hr : rises sok ukey p l = true) (hn : l.length ≤ 1000) : ∀ (d k i : Nat) (a : List S32) (g : List Int), i + d = l.length → d < k → a.length ≤ i → g.length ≤ i →
    store_Older.l0 k a g l (l.length : Int) (i : Int) = some (a ++ oldOut (l.drop i), g ++ oldGone (l.drop i), 0) := by
  intro d
  induction d with
  | zero =>
    intro k i a g hi hk ha hg
    obtain ⟨k, rfl⟩ : ∃ m, k = m + 1 := ⟨k - 1, by omega⟩
    simp only [store_Older.l0]
    rw [if_neg (by omega), List.drop_of_length_le (by omega)]
    simp [oldOut, oldGone]
  | succ d ih =>
    intro k i a g hi hk ha hg
    obtain ⟨k, rfl⟩ : ∃ m, k = m + 1 := ⟨k - 1, by omega⟩
    have hlt : i < l.length := by omega
    have hx := (sok_iff.1 (rises_ok hr hlt))
    have hr0 := hx.1.2.2.2.2.1
    rw [dropU_at hlt, rdU_at hlt]
    simp only [store_Older.l0]
    rw [if_pos (by omega), if_pos (by omega), if_pos (by omega), nx (by omega), rdU_at hlt, wrap_id (by omega) (by omega)]
    by_cases c : l[i].f2 + 1 < 60
    · rw [if_pos c, if_pos (by omega), ih k (i + 1) _ _ (by omega) (by omega) (by simp; omega) (by omega)]
      rw [show oldOut (l[i] :: l.drop (i + 1)) = agd l[i] :: oldOut (l.drop (i + 1)) from if_pos c, show oldGone (l[i] :: l.drop (i + 1)) = oldGone (l.drop (i + 1)) from if_pos c, List.append_assoc]
      rfl
    · rw [if_neg c, if_pos (by omega), ih k (i + 1) _ _ (by omega) (by omega) (by omega) (by simp; omega)]
      rw [show oldOut (l[i] :: l.drop (i + 1)) = oldOut (l.drop (i + 1)) from if_neg c, show oldGone (l[i] :: l.drop (i + 1)) = l[i].f0 :: oldGone (l.drop (i + 1)) from if_neg c, List.append_assoc]
      rfl
theorem Older_f {l : List S32} (h : St l = true) {k : Nat} (hk : 20 ≤ k) : store_Older.f k l = some (oldOut l, oldGone l, 0) := by
  have hl := st_len h
  have hL := st_links h
  unfold store_Older.f
  rw [May_f (M := 5) (by omega) (fun y hy => by have := hL y hy; omega) (by omega) (by omega), h]
  simp only [Option.bind_some, if_true]
  rw [Copy_f (by omega) (fun y hy => by have := hL y hy; omega) (by omega)]
  simp only [Option.bind_some]
  exact older_l h (by omega) l.length k 0 [] [] (by omega) (by omega) (by simp) (by simp)
theorem Older_bad {l : List S32} {M : Nat} (hn : l.length ≤ 4611686018427387904) (hM : ∀ y ∈ l, y.f3.length < M) (hM2 : M ≤ 9223372036854775807) {k : Nat} (hk : l.length + M < k) (h : St l = false) : store_Older.f k l = some ([], [], 1800) := by
  unfold store_Older.f
  rw [May_f hn hM hM2 hk, h]
  rfl
theorem num_f (x : Int) : watchwordlaw0_Num.f x = some x := rfl
end Go.Proofs.Ytbpoflicphgokaa.L18
