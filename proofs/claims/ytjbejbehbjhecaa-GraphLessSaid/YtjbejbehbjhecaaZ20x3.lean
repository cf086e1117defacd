/- Written by a program of this session (out of what the print wrote for this seat): the functions' walks, packed. -/
import Derived.Test.YtjbejbehbjhecaaZ20x2
namespace Go.Proofs.Ytjbejbehbjhecaa.Q20
open Go.RowKit Go.Proofs.YtjbejbehbjhecaaW.PrintWords Go.Proofs.YtjbejbehbjhecaaW.PrintLast Go.Proofs.YtjbejbehbjhecaaW.PrintMore
attribute [local go_sem] max2_int min2_int max_two min_two max_three min_three max_four min_four   -- for this text's walks alone
set_option linter.unusedVariables false
set_option linter.unusedSimpArgs false

/-! ### watchwordref9_UpdateMay: function 35 -/
def watchwordref9_UpdateMay.l0 : Nat → List (S57) → Int → Option (Bool)
 | 0, _, _ => none
 | k + 1, x0, x3 => if x3 < (x0.length : Int) then (if 0 ≤ x3 then ((watchwordref1_LsaMay.f k ((rd_T57 x0 x3).f0) ((rd_T57 x0 x3).f1) ((rd_T57 x0 x3).f2) ((rd_T57 x0 x3).f3)).bind fun t143 => (if t143 = true then (if x3 > 0 then (if 0 ≤ (wrap64 (x3 - 1)) then (if (wrap64 (x3 - 1)) < (x0.length : Int) then (if ((rd_T57 x0 x3).f0) ≤ ((rd_T57 x0 (wrap64 (x3 - 1))).f0) then (some false) else (watchwordref9_UpdateMay.l0 k x0 (wrap64 (x3 + 1)))) else (none)) else (none)) else (watchwordref9_UpdateMay.l0 k x0 (wrap64 (x3 + 1)))) else (some false))) else (none)) else (some (decide ((x0.length : Int) ≤ 4)))
def watchwordref9_UpdateMay.f (k : Nat) (l0 : List (S57)) : Option (Bool) := watchwordref9_UpdateMay.l0 k l0 0
theorem watchwordref9_UpdateMay.mono_l : ∀ k, (∀ y0 y1, LeO (watchwordref9_UpdateMay.l0 k y0 y1) (watchwordref9_UpdateMay.l0 (k + 1) y0 y1))
 | 0 => fun _ _ r h => by simp [watchwordref9_UpdateMay.l0] at h
 | k + 1 => by
  have ih0 := watchwordref9_UpdateMay.mono_l k
  ·intro y0 y1
   unfold watchwordref9_UpdateMay.l0
   repeat' first
   | (with_reducible exact ih0 _ _)
   | (with_reducible exact watchwordref1_LsaMay.mono _ _ _ _ _)
   | (with_reducible exact LeO.refl _)
   | (with_reducible exact LeO.none _)
   | (with_reducible refine LeO.ite ?_ ?_)
   | (with_reducible refine LeO.bind ?_ (fun _ => ?_))
   | exact ih0 _ _
   | exact watchwordref1_LsaMay.mono _ _ _ _ _
   | exact LeO.none _
   | refine LeO.ite ?_ ?_
   | refine LeO.bind ?_ (fun _ => ?_)
theorem watchwordref9_UpdateMay.mono : ∀ a0 k, LeO (watchwordref9_UpdateMay.f k a0) (watchwordref9_UpdateMay.f (k + 1) a0) := by
 intro a0 k
 have ih0 := watchwordref9_UpdateMay.mono_l k
 unfold watchwordref9_UpdateMay.f
 repeat' first
   | (with_reducible exact ih0 _ _)
   | (with_reducible exact watchwordref1_LsaMay.mono _ _ _ _ _)
   | (with_reducible exact LeO.refl _)
   | (with_reducible exact LeO.none _)
   | (with_reducible refine LeO.ite ?_ ?_)
   | (with_reducible refine LeO.bind ?_ (fun _ => ?_))
   | exact ih0 _ _
   | exact watchwordref1_LsaMay.mono _ _ _ _ _
   | exact LeO.none _
   | refine LeO.ite ?_ ?_
   | refine LeO.bind ?_ (fun _ => ?_)
def watchwordref9_UpdateMay.T4 : Bool × List (List Nat × List Nat) := (true, [([], []), ([], []), ([0, 1], [0, 1]), ([2], [2]), ([3], [3]), ([4], [4]), ([5, 4], [5]), ([6], [6]), ([7, 6], [6, 7]), ([8, 6, 6], [6, 8]), ([9], [9]), ([9], [9]), ([10, 11, 9], [9, 10, 11]), ([12, 9], [9, 12]), ([13, 9], [9, 13]), ([9], [9]), ([9], [9]), ([16, 9], [9, 16]), ([15, 17, 9], [9, 15, 17]), ([18, 9], [9, 18]), ([19, 9], [9, 19]), ([14, 20, 9], [9, 14, 20]), ([9, 21, 6], [6, 9, 21]), ([6, 22], [6, 22])])
def watchwordref9_UpdateMay.B4 : List Nat := [0, 0, 3, 7, 15, 31, 63, 127, 255, 511, 1023, 1023, 4095, 8191, 16383, 1023, 1023, 66559, 230399, 492543, 1016831, 2097151, 4194303, 8388607]
theorem watchwordref9_UpdateMay.tab4 : rtab .any (opsOf Try.f35 4) = watchwordref9_UpdateMay.T4 := by kernel_rfl
theorem watchwordref9_UpdateMay.bits4 : waitsOk watchwordref9_UpdateMay.T4.2 watchwordref9_UpdateMay.B4 = true := by kernel_rfl
set_option maxHeartbeats 8000000 in
set_option maxRecDepth 100000 in
theorem watchwordref9_UpdateMay.calls (k : Nat) (A0 : Option Addr) (c0 : Nat) (l0 : List (S57)) (r : Bool) (w : World) (hr0 : Kd.C k57 w A0 l0.length l0) (hc0 : l0.length ≤ c0) (h : watchwordref9_UpdateMay.f k l0 = some r) :
  Calls Try.prog 35 #[.slice A0 l0.length c0] w fun e w' => e = .returned (.bool r) ∧ Below w.heap.size w w' := by
 have hu57 := Try.underlying57
 have HR0 := Aside0.mk hr0
 have HC0 := Aside0.mk hc0
 clear hr0 hc0
 have HB := Aside0.mk (Below.refl w.heap.size w)
 have H : (watchwordref9_UpdateMay.l0 k l0 0) = some r := h
 clear h
 have H' := Aside0.mk H
 clear H
 go_enter Try.func35, Try.ntmps35
 go_wp2
 go_loopg [3] k (fun kq v3 w' => ∃ (x3_1 : Int), v3 = .int .i64 x3_1 ∧ Aside0 (watchwordref9_UpdateMay.l0 kq l0 x3_1 = some r) ∧ Aside0 (kq ≤ k) ∧ Aside0 (Below w.heap.size w w'))
 case atStart => exact ⟨(0), (by first | rfl | (simp; done) | (simp [*]; done)), H', ⟨Nat.le_refl _⟩, ⟨by repeat (first | (with_reducible first | exact HB.out | apply below_alloc | apply pw_below_drewN | apply below_drew1) | exact HB.out)⟩⟩
 case round =>
  clear H'
  obtain ⟨x3_1, rfl, HA, HK1, HB⟩ := hrel
  cases gk with
  | zero => exact absurd HA.out (by simp [watchwordref9_UpdateMay.l0])
  | succ k1 =>
   have H := HA.out
   clear HA
   simp only [watchwordref9_UpdateMay.l0] at H
   by_cases c2 : x3_1 < (l0.length : Int)
   ·rw [if_pos c2] at H
    have c2b0 : decide (x3_1 < (l0.length : Int)) = true := decide_eq_true c2
    clear c2
    by_cases c3 : 0 ≤ x3_1
    ·rw [if_pos c3] at H
     have c3b0 : decide (0 ≤ x3_1) = true := decide_eq_true c3
     clear c3
     replace H := Option.bind_eq_some_iff.mp H
     obtain ⟨t143, A40, H⟩ := H
     replace H : (if t143 = true then (if x3_1 > 0 then (if 0 ≤ (wrap64 (x3_1 - 1)) then (if (wrap64 (x3_1 - 1)) < (l0.length : Int) then (if ((rd_T57 l0 x3_1).f0) ≤ ((rd_T57 l0 (wrap64 (x3_1 - 1))).f0) then (some false) else (watchwordref9_UpdateMay.l0 k1 l0 (wrap64 (x3_1 + 1)))) else (none)) else (none)) else (watchwordref9_UpdateMay.l0 k1 l0 (wrap64 (x3_1 + 1)))) else (some false)) = some r := H
     have A4 := Aside0.mk A40
     clear A40
     by_cases c5 : t143 = true
     ·subst c5
      have H1 : (if x3_1 > 0 then (if 0 ≤ (wrap64 (x3_1 - 1)) then (if (wrap64 (x3_1 - 1)) < (l0.length : Int) then (if ((rd_T57 l0 x3_1).f0) ≤ ((rd_T57 l0 (wrap64 (x3_1 - 1))).f0) then (some false) else (watchwordref9_UpdateMay.l0 k1 l0 (wrap64 (x3_1 + 1)))) else (none)) else (none)) else (watchwordref9_UpdateMay.l0 k1 l0 (wrap64 (x3_1 + 1)))) = some r := by rw [if_pos rfl] at H; exact H
      clear H
      have H := H1
      clear H1
      by_cases c6 : x3_1 > 0
      ·rw [if_pos c6] at H
       have c6b0 : decide (0 < x3_1) = true := decide_eq_true c6
       clear c6
       obtain ⟨ji7, hji7⟩ : ∃ j_ : Int, (wrap64 (x3_1 - 1)) = j_ := ⟨_, rfl⟩
       replace H : (if 0 ≤ (ji7) then (if (ji7) < (l0.length : Int) then (if ((rd_T57 l0 x3_1).f0) ≤ ((rd_T57 l0 (ji7)).f0) then (some false) else (watchwordref9_UpdateMay.l0 k1 l0 (wrap64 (x3_1 + 1)))) else (none)) else (none)) = some r := by first | (rw [hji7] at H; exact H) | (simp only [hji7] at H ⊢; exact H)
       (try rw [hji7] at A4)
       have hji7w : (IntKind.i64.wrap (x3_1 - 1)) = ji7 := (i64_w _).trans hji7
       by_cases c8 : 0 ≤ (ji7)
       ·rw [if_pos c8] at H
        have c8b0 : decide (0 ≤ (ji7)) = true := decide_eq_true c8
        clear c8
        by_cases c9 : (ji7) < (l0.length : Int)
        ·rw [if_pos c9] at H
         have c9b0 : decide ((ji7) < (l0.length : Int)) = true := decide_eq_true c9
         clear c9
         by_cases c10 : ((rd_T57 l0 x3_1).f0) ≤ ((rd_T57 l0 (ji7)).f0)
         ·rw [if_pos c10] at H
          have c10b0 : decide (((rd_T57 l0 x3_1).f0) ≤ ((rd_T57 l0 (ji7)).f0)) = true := decide_eq_true c10
          clear c10
          obtain rfl := Option.some.inj H
          try go_wp2
          have n0_ := Aside0.mk (below_drew1 HB.out)
          clear HB
          have HB := n0_
          clear n0_
          have p142 : 0 ≤ (x3_1 : Int) := of_decide_eq_true (by first | (with_reducible assumption) | assumption)
          have q142 : x3_1 < (l0.length : Int) := of_decide_eq_true (by first | (with_reducible assumption) | assumption)
          obtain ⟨ad142, A142_3, c142_3, e142, hx142_0, hx142_1, hx142_2, hx142_3, hl142_3, hi142_3⟩ := at_T57 HR0.out x3_1 p142 q142
          have hw142_3 := hx142_3
          have hw142_2 := hx142_2
          have hw142_1 := hx142_1
          have hw142_0 := hx142_0
          cases e142
          replace hx142_0 := (HB.out.cell (World.block_lt_of_cell? w _ hx142_0)).trans hx142_0
          replace hx142_1 := (HB.out.cell (World.block_lt_of_cell? w _ hx142_1)).trans hx142_1
          replace hx142_2 := (HB.out.cell (World.block_lt_of_cell? w _ hx142_2)).trans hx142_2
          replace hx142_3 := (HB.out.cell (World.block_lt_of_cell? w _ hx142_3)).trans hx142_3
          have HR142_3 := Aside0.mk hi142_3
          have HC142_3 := Aside0.mk hl142_3
          clear hi142_3 hl142_3
          replace p142 := eq_true p142
          replace q142 := eq_true q142
          have p144 : 0 ≤ (x3_1 : Int) := of_decide_eq_true (by first | (with_reducible assumption) | assumption)
          have q144 : x3_1 < (l0.length : Int) := of_decide_eq_true (by first | (with_reducible assumption) | assumption)
          obtain ⟨ad144, A144_3, c144_3, e144, hx144_0, hx144_1, hx144_2, hx144_3, hl144_3, hi144_3⟩ := at_T57 HR0.out x3_1 p144 q144
          have hw144_3 := hx144_3
          have hw144_2 := hx144_2
          have hw144_1 := hx144_1
          have hw144_0 := hx144_0
          obtain rfl : ad142 = ad144 := (by injection e144)
          replace hx144_0 := (HB.out.cell (World.block_lt_of_cell? w _ hx144_0)).trans hx144_0
          replace hx144_1 := (HB.out.cell (World.block_lt_of_cell? w _ hx144_1)).trans hx144_1
          replace hx144_2 := (HB.out.cell (World.block_lt_of_cell? w _ hx144_2)).trans hx144_2
          replace hx144_3 := (HB.out.cell (World.block_lt_of_cell? w _ hx144_3)).trans hx144_3
          have HR144_3 := Aside0.mk hi144_3
          have HC144_3 := Aside0.mk hl144_3
          clear hi144_3 hl144_3
          replace p144 := eq_true p144
          replace q144 := eq_true q144
          have p145 : 0 ≤ ((ji7) : Int) := of_decide_eq_true (by first | (with_reducible assumption) | assumption)
          have q145 : (ji7) < (l0.length : Int) := of_decide_eq_true (by first | (with_reducible assumption) | assumption)
          obtain ⟨ad145, A145_3, c145_3, e145, hx145_0, hx145_1, hx145_2, hx145_3, hl145_3, hi145_3⟩ := at_T57 HR0.out (ji7) p145 q145
          have hw145_3 := hx145_3
          have hw145_2 := hx145_2
          have hw145_1 := hx145_1
          have hw145_0 := hx145_0
          obtain rfl : ad142 = ad145 := (by injection e145)
          replace hx145_0 := (HB.out.cell (World.block_lt_of_cell? w _ hx145_0)).trans hx145_0
          replace hx145_1 := (HB.out.cell (World.block_lt_of_cell? w _ hx145_1)).trans hx145_1
          replace hx145_2 := (HB.out.cell (World.block_lt_of_cell? w _ hx145_2)).trans hx145_2
          replace hx145_3 := (HB.out.cell (World.block_lt_of_cell? w _ hx145_3)).trans hx145_3
          have HR145_3 := Aside0.mk hi145_3
          have HC145_3 := Aside0.mk hl145_3
          clear hi145_3 hl145_3
          replace p145 := eq_true p145
          replace q145 := eq_true q145
          refine start_ (n := 24) (S := fun w' => w'.cell? (ad142.add ((x3_1).toNat * 4)) = some (.int .i64 ((rd_T57 l0 x3_1).f0)) ∧ w'.cell? ⟨(ad142.add ((x3_1).toNat * 4)).block, (ad142.add ((x3_1).toNat * 4)).off + 1, none⟩ = some (.int .i64 ((rd_T57 l0 x3_1).f1)) ∧ w'.cell? ⟨(ad142.add ((x3_1).toNat * 4)).block, (ad142.add ((x3_1).toNat * 4)).off + 2, none⟩ = some (.int .i64 ((rd_T57 l0 x3_1).f2)) ∧ w'.cell? ⟨(ad142.add ((x3_1).toNat * 4)).block, (ad142.add ((x3_1).toNat * 4)).off + 3, none⟩ = some (.slice A142_3 ((rd_T57 l0 x3_1).f3).length c142_3) ∧ w'.cell? (ad142.add ((x3_1).toNat * 4)) = some (.int .i64 ((rd_T57 l0 x3_1).f0)) ∧ w'.cell? ⟨(ad142.add ((x3_1).toNat * 4)).block, (ad142.add ((x3_1).toNat * 4)).off + 1, none⟩ = some (.int .i64 ((rd_T57 l0 x3_1).f1)) ∧ w'.cell? ⟨(ad142.add ((x3_1).toNat * 4)).block, (ad142.add ((x3_1).toNat * 4)).off + 2, none⟩ = some (.int .i64 ((rd_T57 l0 x3_1).f2)) ∧ w'.cell? ⟨(ad142.add ((x3_1).toNat * 4)).block, (ad142.add ((x3_1).toNat * 4)).off + 3, none⟩ = some (.slice A144_3 ((rd_T57 l0 x3_1).f3).length c144_3) ∧ w'.cell? (ad142.add (((ji7)).toNat * 4)) = some (.int .i64 ((rd_T57 l0 (ji7)).f0)) ∧ w'.cell? ⟨(ad142.add (((ji7)).toNat * 4)).block, (ad142.add (((ji7)).toNat * 4)).off + 1, none⟩ = some (.int .i64 ((rd_T57 l0 (ji7)).f1)) ∧ w'.cell? ⟨(ad142.add (((ji7)).toNat * 4)).block, (ad142.add (((ji7)).toNat * 4)).off + 2, none⟩ = some (.int .i64 ((rd_T57 l0 (ji7)).f2)) ∧ w'.cell? ⟨(ad142.add (((ji7)).toNat * 4)).block, (ad142.add (((ji7)).toNat * 4)).off + 3, none⟩ = some (.slice A145_3 ((rd_T57 l0 (ji7)).f3).length c145_3)) (ds := []) mk_24_0 (by kernel_rfl) rfl rfl ⟨((HB.out.cell (World.block_lt_of_cell? w _ hw142_0)).trans hw142_0), ((HB.out.cell (World.block_lt_of_cell? w _ hw142_1)).trans hw142_1), ((HB.out.cell (World.block_lt_of_cell? w _ hw142_2)).trans hw142_2), ((HB.out.cell (World.block_lt_of_cell? w _ hw142_3)).trans hw142_3), ((HB.out.cell (World.block_lt_of_cell? w _ hw144_0)).trans hw144_0), ((HB.out.cell (World.block_lt_of_cell? w _ hw144_1)).trans hw144_1), ((HB.out.cell (World.block_lt_of_cell? w _ hw144_2)).trans hw144_2), ((HB.out.cell (World.block_lt_of_cell? w _ hw144_3)).trans hw144_3), ((HB.out.cell (World.block_lt_of_cell? w _ hw145_0)).trans hw145_0), ((HB.out.cell (World.block_lt_of_cell? w _ hw145_1)).trans hw145_1), ((HB.out.cell (World.block_lt_of_cell? w _ hw145_2)).trans hw145_2), ((HB.out.cell (World.block_lt_of_cell? w _ hw145_3)).trans hw145_3)⟩ (fun hHeld => ?_); refine with_tabW watchwordref9_UpdateMay.tab4 watchwordref9_UpdateMay.bits4 (fun HT_ HW_ => ?_)
          generalize wr.drew = w11 at HB HR142_3 HR144_3 HR145_3 hx142_0 hx142_1 hx142_2 hx142_3 hx144_0 hx144_1 hx144_2 hx144_3 hx145_0 hx145_1 hx145_2 hx145_3 hHeld ⊢
          refine pure_ (i := 0) (N := some 10) (v := ?_) (a' := ?_) mk_24_1 rfl rfl (any_of HT_.out (by kernel_rfl)) (fun _ _ _ h => h) (Or.inl ⟨by rfl, ?_⟩) ?_ ?_
          rotate_left
          ·intro w'
           go_simp
           with_reducible rfl
          rotate_left
          ·simp only [Act.put, List.setIfInBounds_toArray, List.set_cons_zero, List.set_cons_succ, i64_w, i32_w]
           rfl
          refine pure_ (i := 1) (N := some 11) (v := ?_) (a' := ?_) mk_24_2 rfl rfl (any_of HT_.out (by kernel_rfl)) (fun _ _ _ h => h) (Or.inl ⟨by rfl, ?_⟩) ?_ ?_
          rotate_left
          ·intro w'
           go_simp
           with_reducible rfl
          rotate_left
          ·simp only [Act.put, List.setIfInBounds_toArray, List.set_cons_zero, List.set_cons_succ, i64_w, i32_w]
           rfl
          refine pure_ (i := 2) (N := some 12) (v := ?_) (a' := ?_) mk_24_3 rfl rfl (any_of HT_.out (by kernel_rfl)) (fun _ _ _ h => h) (Or.inl ⟨by rfl, ?_⟩) ?_ ?_
          rotate_left
          ·intro w'
           go_simp
           with_reducible rfl
          rotate_left
          ·simp only [Act.put, List.setIfInBounds_toArray, List.set_cons_zero, List.set_cons_succ, i64_w, i32_w]
           rfl
          refine take_ (i := 3) (N := some 13) (v := ?_) (a' := ?_) mk_24_4 rfl rfl (take_ofW HT_.out HW_.out (by kernel_rfl)) (fun _ _ _ h => h) (Or.inl ⟨by rfl, ?_⟩) hHeld ?_ ?_
          rotate_left
          ·rintro w' ⟨s0, s1, s2, s3, s4, s5, s6, s7, s8, s9, s10, s11⟩
           go_simp
           with_reducible rfl
          rotate_left
          ·simp only [Act.put, List.setIfInBounds_toArray, List.set_cons_zero, List.set_cons_succ, i64_w, i32_w]
           rfl
          refine one_ (i := 4) (N := some 14) mk_24_5 rfl rfl (one_of HT_.out (by kernel_rfl)) (by decide) (fun K hK => ?_)
          refine goes_ Try.func41 (by kernel_rfl) rfl #[.agg #[.int .i64 ((rd_T57 l0 x3_1).f0), .int .i64 ((rd_T57 l0 x3_1).f1), .int .i64 ((rd_T57 l0 x3_1).f2), .slice A142_3 ((rd_T57 l0 x3_1).f3).length c142_3]] (by rfl) rfl rfl (by (try simp only [List.map_toArray, List.map_cons, List.map_nil]); first | done | rfl | (simp only [List.length_drop, List.length_take]; rfl)) ?_
          with_reducible refine (watchwordref1_LsaMay.calls k1 ((rd_T57 l0 x3_1).f0) ((rd_T57 l0 x3_1).f1) ((rd_T57 l0 x3_1).f2) _ _ ((rd_T57 l0 x3_1).f3) true _ ?side1 ?side2 A4.out).mono ?_
          (case side1 => repeat (first | exact (Kd.C_below HR142_3.out HB.out) | (with_reducible refine Kd.C_alloc ?_ _) | (with_reducible refine Kd.C_drewN ?_ _) | (with_reducible refine Kd.C_drew ?_)))
          (case side2 => exact HC142_3.out)
          rintro e w12 ⟨rfl, hb⟩
          refine ⟨_, rfl, ?_⟩
          have n0_ := Aside0.mk (below_step (by repeat (first | (with_reducible first | exact HB.out | apply below_alloc | apply pw_below_drewN | apply below_drew1) | exact HB.out)) hb)
          clear HB
          have HB := n0_
          clear n0_
          (try clear hb)
          (try clear hb2)
          (try clear hk)
          (try clear hi)
          refine hK.out _ _ ⟨((HB.out.cell (World.block_lt_of_cell? w _ hw142_0)).trans hw142_0), ((HB.out.cell (World.block_lt_of_cell? w _ hw142_1)).trans hw142_1), ((HB.out.cell (World.block_lt_of_cell? w _ hw142_2)).trans hw142_2), ((HB.out.cell (World.block_lt_of_cell? w _ hw142_3)).trans hw142_3), ((HB.out.cell (World.block_lt_of_cell? w _ hw144_0)).trans hw144_0), ((HB.out.cell (World.block_lt_of_cell? w _ hw144_1)).trans hw144_1), ((HB.out.cell (World.block_lt_of_cell? w _ hw144_2)).trans hw144_2), ((HB.out.cell (World.block_lt_of_cell? w _ hw144_3)).trans hw144_3), ((HB.out.cell (World.block_lt_of_cell? w _ hw145_0)).trans hw145_0), ((HB.out.cell (World.block_lt_of_cell? w _ hw145_1)).trans hw145_1), ((HB.out.cell (World.block_lt_of_cell? w _ hw145_2)).trans hw145_2), ((HB.out.cell (World.block_lt_of_cell? w _ hw145_3)).trans hw145_3)⟩ (fun hHeld => ?_)
          clear hK K
          refine norm_ (a' := ?_) ?_ ?_
          rotate_left
          ·show Act.put _ (some 14) _ = _
           simp only [Act.put, List.setIfInBounds_toArray, List.set_cons_zero, List.set_cons_succ, i64_w, i32_w]
           rfl
          refine pure_ (i := 5) (N := some 15) (v := ?_) (a' := ?_) mk_24_6 rfl rfl (any_of HT_.out (by kernel_rfl)) (fun _ _ _ h => h) (Or.inl ⟨by rfl, ?_⟩) ?_ ?_
          rotate_left
          ·intro w'
           go_simp
           with_reducible rfl
          rotate_left
          ·simp only [Act.put, List.setIfInBounds_toArray, List.set_cons_zero, List.set_cons_succ, i64_w, i32_w]
           rfl
          refine pure_ (i := 6) (N := some 16) (v := ?_) (a' := ?_) mk_24_7 rfl rfl (any_of HT_.out (by kernel_rfl)) (fun _ _ _ h => h) (Or.inl ⟨by rfl, ?_⟩) ?_ ?_
          rotate_left
          ·intro w'
           go_simp
           with_reducible rfl
          rotate_left
          ·simp only [Act.put, List.setIfInBounds_toArray, List.set_cons_zero, List.set_cons_succ, i64_w, i32_w]
           rfl
          refine pure_ (i := 7) (N := some 17) (v := ?_) (a' := ?_) mk_24_8 rfl rfl (any_of HT_.out (by kernel_rfl)) (fun _ _ _ h => h) (Or.inl ⟨by rfl, ?_⟩) ?_ ?_
          rotate_left
          ·intro w'
           go_simp
           with_reducible rfl
          rotate_left
          ·simp only [Act.put, List.setIfInBounds_toArray, List.set_cons_zero, List.set_cons_succ, i64_w, i32_w]
           rfl
          refine pure_ (i := 8) (N := some 18) (v := ?_) (a' := ?_) mk_24_9 rfl rfl (any_of HT_.out (by kernel_rfl)) (fun _ _ _ h => h) (Or.inl ⟨by rfl, ?_⟩) ?_ ?_
          rotate_left
          ·intro w'
           go_simp
           with_reducible rfl
          rotate_left
          ·simp only [Act.put, List.setIfInBounds_toArray, List.set_cons_zero, List.set_cons_succ, i64_w, i32_w]
           rfl
          refine pure_ (i := 9) (N := some 19) (v := ?_) (a' := ?_) mk_24_10 rfl rfl (any_of HT_.out (by kernel_rfl)) (fun _ _ _ h => h) (Or.inl ⟨by rfl, ?_⟩) ?_ ?_
          rotate_left
          ·intro w'
           go_simp
           with_reducible rfl
          rotate_left
          ·simp only [Act.put, List.setIfInBounds_toArray, List.set_cons_zero, List.set_cons_succ, i64_w, i32_w]
           rfl
          refine pure_ (i := 10) (N := some 20) (v := ?_) (a' := ?_) mk_24_11 rfl rfl (any_of HT_.out (by kernel_rfl)) (fun _ _ _ h => h) (Or.inl ⟨by rfl, ?_⟩) ?_ ?_
          rotate_left
          ·intro w'
           go_simp
           with_reducible rfl
          rotate_left
          ·simp only [Act.put, List.setIfInBounds_toArray, List.set_cons_zero, List.set_cons_succ, i64_w, i32_w]
           rfl
          refine pure_ (i := 11) (N := some 21) (v := ?_) (a' := ?_) mk_24_12 rfl rfl (any_of HT_.out (by kernel_rfl)) (fun _ _ _ h => h) (Or.inl ⟨by rfl, ?_⟩) ?_ ?_
          rotate_left
          ·intro w'
           go_simp
           with_reducible rfl
          rotate_left
          ·simp only [Act.put, List.setIfInBounds_toArray, List.set_cons_zero, List.set_cons_succ, i64_w, i32_w]
           rfl
          refine pure_ (i := 12) (N := some 22) (v := ?_) (a' := ?_) mk_24_13 rfl rfl (any_of HT_.out (by kernel_rfl)) (fun _ _ _ h => h) (Or.inl ⟨by rfl, ?_⟩) ?_ ?_
          rotate_left
          ·intro w'
           go_simp
           with_reducible rfl
          rotate_left
          ·simp only [Act.put, List.setIfInBounds_toArray, List.set_cons_zero, List.set_cons_succ, i64_w, i32_w]
           rfl
          refine pure_ (i := 13) (N := some 23) (v := ?_) (a' := ?_) mk_24_14 rfl rfl (any_of HT_.out (by kernel_rfl)) (fun _ _ _ h => h) (Or.inl ⟨by rfl, ?_⟩) ?_ ?_
          rotate_left
          ·intro w'
           go_simp
           with_reducible rfl
          rotate_left
          ·simp only [Act.put, List.setIfInBounds_toArray, List.set_cons_zero, List.set_cons_succ, i64_w, i32_w]
           rfl
          refine pure_ (i := 15) (N := some 25) (v := ?_) (a' := ?_) #[true, true, true, true, true, true, true, true, true, true, true, true, true, true, false, true, false, false, false, false, false, false, false, false] rfl rfl (any_of HT_.out (by kernel_rfl)) (fun _ _ _ h => h) (Or.inl ⟨by rfl, ?_⟩) ?_ ?_
          rotate_left
          ·intro w'
           go_simp
           with_reducible rfl
          rotate_left
          ·simp only [Act.put, List.setIfInBounds_toArray, List.set_cons_zero, List.set_cons_succ, i64_w, i32_w]
           rfl
          refine pure_ (i := 16) (N := some 26) (v := ?_) (a' := ?_) #[true, true, true, true, true, true, true, true, true, true, true, true, true, true, false, true, true, false, false, false, false, false, false, false] rfl rfl (any_of HT_.out (by kernel_rfl)) (fun _ _ _ h => h) (Or.inl ⟨by rfl, ?_⟩) ?_ ?_
          rotate_left
          ·intro w'
           go_simp
           with_reducible rfl
          rotate_left
          ·simp only [Act.put, List.setIfInBounds_toArray, List.set_cons_zero, List.set_cons_succ, i64_w, i32_w]
           rfl
          refine pure_ (i := 17) (N := some 27) (v := ?_) (a' := ?_) #[true, true, true, true, true, true, true, true, true, true, true, true, true, true, false, true, true, true, false, false, false, false, false, false] rfl rfl (any_of HT_.out (by kernel_rfl)) (fun _ _ _ h => h) (Or.inl ⟨by rfl, ?_⟩) ?_ ?_
          rotate_left
          ·intro w'
           go_simp
           with_reducible rfl
          rotate_left
          ·simp only [Act.put, List.setIfInBounds_toArray, List.set_cons_zero, List.set_cons_succ, i64_w, i32_w]
           rfl
          refine pure_ (i := 18) (N := some 28) (v := ?_) (a' := ?_) #[true, true, true, true, true, true, true, true, true, true, true, true, true, true, false, true, true, true, true, false, false, false, false, false] rfl rfl (any_of HT_.out (by kernel_rfl)) (fun _ _ _ h => h) (Or.inl ⟨by rfl, ?_⟩) ?_ ?_
          rotate_left
          ·intro w'
           go_simp
           with_reducible rfl
          rotate_left
          ·simp only [Act.put, List.setIfInBounds_toArray, List.set_cons_zero, List.set_cons_succ, i64_w, i32_w]
           rfl
          refine pure_ (i := 19) (N := some 29) (v := ?_) (a' := ?_) #[true, true, true, true, true, true, true, true, true, true, true, true, true, true, false, true, true, true, true, true, false, false, false, false] rfl rfl (any_of HT_.out (by kernel_rfl)) (fun _ _ _ h => h) (Or.inl ⟨by rfl, ?_⟩) ?_ ?_
          rotate_left
          ·intro w'
           go_simp
           with_reducible rfl
          rotate_left
          ·simp only [Act.put, List.setIfInBounds_toArray, List.set_cons_zero, List.set_cons_succ, i64_w, i32_w]
           rfl
          refine take_ (i := 14) (N := some 24) (v := ?_) (a' := ?_) mk_24_20 rfl rfl (take_ofW HT_.out HW_.out (by kernel_rfl)) (fun _ _ _ h => h) (Or.inl ⟨by rfl, ?_⟩) hHeld ?_ ?_
          rotate_left
          ·rintro w' ⟨s0, s1, s2, s3, s4, s5, s6, s7, s8, s9, s10, s11⟩
           go_simp
           with_reducible rfl
          rotate_left
          ·simp only [Act.put, List.setIfInBounds_toArray, List.set_cons_zero, List.set_cons_succ, i64_w, i32_w]
           rfl
          refine take_ (i := 20) (N := some 30) (v := ?_) (a' := ?_) mk_24_21 rfl rfl (take_ofW HT_.out HW_.out (by kernel_rfl)) (fun _ _ _ h => h) (Or.inl ⟨by rfl, ?_⟩) hHeld ?_ ?_
          rotate_left
          ·rintro w' ⟨s0, s1, s2, s3, s4, s5, s6, s7, s8, s9, s10, s11⟩
           go_simp
           with_reducible rfl
          rotate_left
          ·simp only [Act.put, List.setIfInBounds_toArray, List.set_cons_zero, List.set_cons_succ, i64_w, i32_w]
           rfl
          refine pure_ (i := 21) (N := some 31) (v := ?_) (a' := ?_) mk_24_22 rfl rfl (any_of HT_.out (by kernel_rfl)) (fun _ _ _ h => h) (Or.inl ⟨by rfl, ?_⟩) ?_ ?_
          rotate_left
          ·intro w'
           go_simp
           with_reducible rfl
          rotate_left
          ·simp only [Act.put, List.setIfInBounds_toArray, List.set_cons_zero, List.set_cons_succ, i64_w, i32_w]
           rfl
          refine pure_ (i := 22) (N := some 32) (v := ?_) (a' := ?_) mk_24_23 rfl rfl (any_of HT_.out (by kernel_rfl)) (fun _ _ _ h => h) (Or.inl ⟨by rfl, ?_⟩) ?_ ?_
          rotate_left
          ·intro w'
           go_simp
           with_reducible rfl
          rotate_left
          ·simp only [Act.put, List.setIfInBounds_toArray, List.set_cons_zero, List.set_cons_succ, i64_w, i32_w]
           rfl
          refine pure_ (i := 23) (N := some 33) (v := ?_) (a' := ?_) mk_24_24 rfl rfl (any_of HT_.out (by kernel_rfl)) (fun _ _ _ h => h) (Or.inl ⟨by rfl, ?_⟩) ?_ ?_
          rotate_left
          ·intro w'
           go_simp
           with_reducible rfl
          rotate_left
          ·simp only [Act.put, List.setIfInBounds_toArray, List.set_cons_zero, List.set_cons_succ, i64_w, i32_w]
           rfl
          refine done_ (done_of HT_.out (by kernel_rfl)) ?_
          try go_wp2
          go_ret
          exact ⟨by first | rfl | (simp [errW_none, errW_some] <;> rfl) | (simp only [← hji7]; first | rfl | (simp [errW_none, errW_some] <;> rfl)) | (simp [*, errW_none, errW_some] <;> rfl), by repeat (first | (with_reducible first | exact HB.out | apply below_alloc | apply pw_below_drewN | apply below_drew1) | exact HB.out)⟩
         ·rw [if_neg c10] at H
          have c10b0 : decide (((rd_T57 l0 x3_1).f0) ≤ ((rd_T57 l0 (ji7)).f0)) = false := decide_eq_false c10
          clear c10
          have H' := Aside0.mk H
          clear H
          try go_wp2
          have n0_ := Aside0.mk (below_drew1 HB.out)
          clear HB
          have HB := n0_
          clear n0_
          have p142 : 0 ≤ (x3_1 : Int) := of_decide_eq_true (by first | (with_reducible assumption) | assumption)
          have q142 : x3_1 < (l0.length : Int) := of_decide_eq_true (by first | (with_reducible assumption) | assumption)
          obtain ⟨ad142, A142_3, c142_3, e142, hx142_0, hx142_1, hx142_2, hx142_3, hl142_3, hi142_3⟩ := at_T57 HR0.out x3_1 p142 q142
          have hw142_3 := hx142_3
          have hw142_2 := hx142_2
          have hw142_1 := hx142_1
          have hw142_0 := hx142_0
          cases e142
          replace hx142_0 := (HB.out.cell (World.block_lt_of_cell? w _ hx142_0)).trans hx142_0
          replace hx142_1 := (HB.out.cell (World.block_lt_of_cell? w _ hx142_1)).trans hx142_1
          replace hx142_2 := (HB.out.cell (World.block_lt_of_cell? w _ hx142_2)).trans hx142_2
          replace hx142_3 := (HB.out.cell (World.block_lt_of_cell? w _ hx142_3)).trans hx142_3
          have HR142_3 := Aside0.mk hi142_3
          have HC142_3 := Aside0.mk hl142_3
          clear hi142_3 hl142_3
          replace p142 := eq_true p142
          replace q142 := eq_true q142
          have p144 : 0 ≤ (x3_1 : Int) := of_decide_eq_true (by first | (with_reducible assumption) | assumption)
          have q144 : x3_1 < (l0.length : Int) := of_decide_eq_true (by first | (with_reducible assumption) | assumption)
          obtain ⟨ad144, A144_3, c144_3, e144, hx144_0, hx144_1, hx144_2, hx144_3, hl144_3, hi144_3⟩ := at_T57 HR0.out x3_1 p144 q144
          have hw144_3 := hx144_3
          have hw144_2 := hx144_2
          have hw144_1 := hx144_1
          have hw144_0 := hx144_0
          obtain rfl : ad142 = ad144 := (by injection e144)
          replace hx144_0 := (HB.out.cell (World.block_lt_of_cell? w _ hx144_0)).trans hx144_0
          replace hx144_1 := (HB.out.cell (World.block_lt_of_cell? w _ hx144_1)).trans hx144_1
          replace hx144_2 := (HB.out.cell (World.block_lt_of_cell? w _ hx144_2)).trans hx144_2
          replace hx144_3 := (HB.out.cell (World.block_lt_of_cell? w _ hx144_3)).trans hx144_3
          have HR144_3 := Aside0.mk hi144_3
          have HC144_3 := Aside0.mk hl144_3
          clear hi144_3 hl144_3
          replace p144 := eq_true p144
          replace q144 := eq_true q144
          have p145 : 0 ≤ ((ji7) : Int) := of_decide_eq_true (by first | (with_reducible assumption) | assumption)
          have q145 : (ji7) < (l0.length : Int) := of_decide_eq_true (by first | (with_reducible assumption) | assumption)
          obtain ⟨ad145, A145_3, c145_3, e145, hx145_0, hx145_1, hx145_2, hx145_3, hl145_3, hi145_3⟩ := at_T57 HR0.out (ji7) p145 q145
          have hw145_3 := hx145_3
          have hw145_2 := hx145_2
          have hw145_1 := hx145_1
          have hw145_0 := hx145_0
          obtain rfl : ad142 = ad145 := (by injection e145)
          replace hx145_0 := (HB.out.cell (World.block_lt_of_cell? w _ hx145_0)).trans hx145_0
          replace hx145_1 := (HB.out.cell (World.block_lt_of_cell? w _ hx145_1)).trans hx145_1
          replace hx145_2 := (HB.out.cell (World.block_lt_of_cell? w _ hx145_2)).trans hx145_2
          replace hx145_3 := (HB.out.cell (World.block_lt_of_cell? w _ hx145_3)).trans hx145_3
          have HR145_3 := Aside0.mk hi145_3
          have HC145_3 := Aside0.mk hl145_3
          clear hi145_3 hl145_3
          replace p145 := eq_true p145
          replace q145 := eq_true q145
          refine start_ (n := 24) (S := fun w' => w'.cell? (ad142.add ((x3_1).toNat * 4)) = some (.int .i64 ((rd_T57 l0 x3_1).f0)) ∧ w'.cell? ⟨(ad142.add ((x3_1).toNat * 4)).block, (ad142.add ((x3_1).toNat * 4)).off + 1, none⟩ = some (.int .i64 ((rd_T57 l0 x3_1).f1)) ∧ w'.cell? ⟨(ad142.add ((x3_1).toNat * 4)).block, (ad142.add ((x3_1).toNat * 4)).off + 2, none⟩ = some (.int .i64 ((rd_T57 l0 x3_1).f2)) ∧ w'.cell? ⟨(ad142.add ((x3_1).toNat * 4)).block, (ad142.add ((x3_1).toNat * 4)).off + 3, none⟩ = some (.slice A142_3 ((rd_T57 l0 x3_1).f3).length c142_3) ∧ w'.cell? (ad142.add ((x3_1).toNat * 4)) = some (.int .i64 ((rd_T57 l0 x3_1).f0)) ∧ w'.cell? ⟨(ad142.add ((x3_1).toNat * 4)).block, (ad142.add ((x3_1).toNat * 4)).off + 1, none⟩ = some (.int .i64 ((rd_T57 l0 x3_1).f1)) ∧ w'.cell? ⟨(ad142.add ((x3_1).toNat * 4)).block, (ad142.add ((x3_1).toNat * 4)).off + 2, none⟩ = some (.int .i64 ((rd_T57 l0 x3_1).f2)) ∧ w'.cell? ⟨(ad142.add ((x3_1).toNat * 4)).block, (ad142.add ((x3_1).toNat * 4)).off + 3, none⟩ = some (.slice A144_3 ((rd_T57 l0 x3_1).f3).length c144_3) ∧ w'.cell? (ad142.add (((ji7)).toNat * 4)) = some (.int .i64 ((rd_T57 l0 (ji7)).f0)) ∧ w'.cell? ⟨(ad142.add (((ji7)).toNat * 4)).block, (ad142.add (((ji7)).toNat * 4)).off + 1, none⟩ = some (.int .i64 ((rd_T57 l0 (ji7)).f1)) ∧ w'.cell? ⟨(ad142.add (((ji7)).toNat * 4)).block, (ad142.add (((ji7)).toNat * 4)).off + 2, none⟩ = some (.int .i64 ((rd_T57 l0 (ji7)).f2)) ∧ w'.cell? ⟨(ad142.add (((ji7)).toNat * 4)).block, (ad142.add (((ji7)).toNat * 4)).off + 3, none⟩ = some (.slice A145_3 ((rd_T57 l0 (ji7)).f3).length c145_3)) (ds := []) mk_24_0 (by kernel_rfl) rfl rfl ⟨((HB.out.cell (World.block_lt_of_cell? w _ hw142_0)).trans hw142_0), ((HB.out.cell (World.block_lt_of_cell? w _ hw142_1)).trans hw142_1), ((HB.out.cell (World.block_lt_of_cell? w _ hw142_2)).trans hw142_2), ((HB.out.cell (World.block_lt_of_cell? w _ hw142_3)).trans hw142_3), ((HB.out.cell (World.block_lt_of_cell? w _ hw144_0)).trans hw144_0), ((HB.out.cell (World.block_lt_of_cell? w _ hw144_1)).trans hw144_1), ((HB.out.cell (World.block_lt_of_cell? w _ hw144_2)).trans hw144_2), ((HB.out.cell (World.block_lt_of_cell? w _ hw144_3)).trans hw144_3), ((HB.out.cell (World.block_lt_of_cell? w _ hw145_0)).trans hw145_0), ((HB.out.cell (World.block_lt_of_cell? w _ hw145_1)).trans hw145_1), ((HB.out.cell (World.block_lt_of_cell? w _ hw145_2)).trans hw145_2), ((HB.out.cell (World.block_lt_of_cell? w _ hw145_3)).trans hw145_3)⟩ (fun hHeld => ?_); refine with_tabW watchwordref9_UpdateMay.tab4 watchwordref9_UpdateMay.bits4 (fun HT_ HW_ => ?_)
          generalize wr.drew = w13 at HB HR142_3 HR144_3 HR145_3 hx142_0 hx142_1 hx142_2 hx142_3 hx144_0 hx144_1 hx144_2 hx144_3 hx145_0 hx145_1 hx145_2 hx145_3 hHeld ⊢
          refine pure_ (i := 0) (N := some 10) (v := ?_) (a' := ?_) mk_24_1 rfl rfl (any_of HT_.out (by kernel_rfl)) (fun _ _ _ h => h) (Or.inl ⟨by rfl, ?_⟩) ?_ ?_
          rotate_left
          ·intro w'
           go_simp
           with_reducible rfl
          rotate_left
          ·simp only [Act.put, List.setIfInBounds_toArray, List.set_cons_zero, List.set_cons_succ, i64_w, i32_w]
           rfl
          refine pure_ (i := 1) (N := some 11) (v := ?_) (a' := ?_) mk_24_2 rfl rfl (any_of HT_.out (by kernel_rfl)) (fun _ _ _ h => h) (Or.inl ⟨by rfl, ?_⟩) ?_ ?_
          rotate_left
          ·intro w'
           go_simp
           with_reducible rfl
          rotate_left
          ·simp only [Act.put, List.setIfInBounds_toArray, List.set_cons_zero, List.set_cons_succ, i64_w, i32_w]
           rfl
          refine pure_ (i := 2) (N := some 12) (v := ?_) (a' := ?_) mk_24_3 rfl rfl (any_of HT_.out (by kernel_rfl)) (fun _ _ _ h => h) (Or.inl ⟨by rfl, ?_⟩) ?_ ?_
          rotate_left
          ·intro w'
           go_simp
           with_reducible rfl
          rotate_left
          ·simp only [Act.put, List.setIfInBounds_toArray, List.set_cons_zero, List.set_cons_succ, i64_w, i32_w]
           rfl
          refine take_ (i := 3) (N := some 13) (v := ?_) (a' := ?_) mk_24_4 rfl rfl (take_ofW HT_.out HW_.out (by kernel_rfl)) (fun _ _ _ h => h) (Or.inl ⟨by rfl, ?_⟩) hHeld ?_ ?_
          rotate_left
          ·rintro w' ⟨s0, s1, s2, s3, s4, s5, s6, s7, s8, s9, s10, s11⟩
           go_simp
           with_reducible rfl
          rotate_left
          ·simp only [Act.put, List.setIfInBounds_toArray, List.set_cons_zero, List.set_cons_succ, i64_w, i32_w]
           rfl
          refine one_ (i := 4) (N := some 14) mk_24_5 rfl rfl (one_of HT_.out (by kernel_rfl)) (by decide) (fun K hK => ?_)
          refine goes_ Try.func41 (by kernel_rfl) rfl #[.agg #[.int .i64 ((rd_T57 l0 x3_1).f0), .int .i64 ((rd_T57 l0 x3_1).f1), .int .i64 ((rd_T57 l0 x3_1).f2), .slice A142_3 ((rd_T57 l0 x3_1).f3).length c142_3]] (by rfl) rfl rfl (by (try simp only [List.map_toArray, List.map_cons, List.map_nil]); first | done | rfl | (simp only [List.length_drop, List.length_take]; rfl)) ?_
          with_reducible refine (watchwordref1_LsaMay.calls k1 ((rd_T57 l0 x3_1).f0) ((rd_T57 l0 x3_1).f1) ((rd_T57 l0 x3_1).f2) _ _ ((rd_T57 l0 x3_1).f3) true _ ?side1 ?side2 A4.out).mono ?_
          (case side1 => repeat (first | exact (Kd.C_below HR142_3.out HB.out) | (with_reducible refine Kd.C_alloc ?_ _) | (with_reducible refine Kd.C_drewN ?_ _) | (with_reducible refine Kd.C_drew ?_)))
          (case side2 => exact HC142_3.out)
          rintro e w14 ⟨rfl, hb⟩
          refine ⟨_, rfl, ?_⟩
          have n0_ := Aside0.mk (below_step (by repeat (first | (with_reducible first | exact HB.out | apply below_alloc | apply pw_below_drewN | apply below_drew1) | exact HB.out)) hb)
          clear HB
          have HB := n0_
          clear n0_
          (try clear hb)
          (try clear hb2)
          (try clear hk)
          (try clear hi)
          refine hK.out _ _ ⟨((HB.out.cell (World.block_lt_of_cell? w _ hw142_0)).trans hw142_0), ((HB.out.cell (World.block_lt_of_cell? w _ hw142_1)).trans hw142_1), ((HB.out.cell (World.block_lt_of_cell? w _ hw142_2)).trans hw142_2), ((HB.out.cell (World.block_lt_of_cell? w _ hw142_3)).trans hw142_3), ((HB.out.cell (World.block_lt_of_cell? w _ hw144_0)).trans hw144_0), ((HB.out.cell (World.block_lt_of_cell? w _ hw144_1)).trans hw144_1), ((HB.out.cell (World.block_lt_of_cell? w _ hw144_2)).trans hw144_2), ((HB.out.cell (World.block_lt_of_cell? w _ hw144_3)).trans hw144_3), ((HB.out.cell (World.block_lt_of_cell? w _ hw145_0)).trans hw145_0), ((HB.out.cell (World.block_lt_of_cell? w _ hw145_1)).trans hw145_1), ((HB.out.cell (World.block_lt_of_cell? w _ hw145_2)).trans hw145_2), ((HB.out.cell (World.block_lt_of_cell? w _ hw145_3)).trans hw145_3)⟩ (fun hHeld => ?_)
          clear hK K
          refine norm_ (a' := ?_) ?_ ?_
          rotate_left
          ·show Act.put _ (some 14) _ = _
           simp only [Act.put, List.setIfInBounds_toArray, List.set_cons_zero, List.set_cons_succ, i64_w, i32_w]
           rfl
          refine pure_ (i := 5) (N := some 15) (v := ?_) (a' := ?_) mk_24_6 rfl rfl (any_of HT_.out (by kernel_rfl)) (fun _ _ _ h => h) (Or.inl ⟨by rfl, ?_⟩) ?_ ?_
          rotate_left
          ·intro w'
           go_simp
           with_reducible rfl
          rotate_left
          ·simp only [Act.put, List.setIfInBounds_toArray, List.set_cons_zero, List.set_cons_succ, i64_w, i32_w]
           rfl
          refine pure_ (i := 6) (N := some 16) (v := ?_) (a' := ?_) mk_24_7 rfl rfl (any_of HT_.out (by kernel_rfl)) (fun _ _ _ h => h) (Or.inl ⟨by rfl, ?_⟩) ?_ ?_
          rotate_left
          ·intro w'
           go_simp
           with_reducible rfl
          rotate_left
          ·simp only [Act.put, List.setIfInBounds_toArray, List.set_cons_zero, List.set_cons_succ, i64_w, i32_w]
           rfl
          refine pure_ (i := 7) (N := some 17) (v := ?_) (a' := ?_) mk_24_8 rfl rfl (any_of HT_.out (by kernel_rfl)) (fun _ _ _ h => h) (Or.inl ⟨by rfl, ?_⟩) ?_ ?_
          rotate_left
          ·intro w'
           go_simp
           with_reducible rfl
          rotate_left
          ·simp only [Act.put, List.setIfInBounds_toArray, List.set_cons_zero, List.set_cons_succ, i64_w, i32_w]
           rfl
          refine pure_ (i := 8) (N := some 18) (v := ?_) (a' := ?_) mk_24_9 rfl rfl (any_of HT_.out (by kernel_rfl)) (fun _ _ _ h => h) (Or.inl ⟨by rfl, ?_⟩) ?_ ?_
          rotate_left
          ·intro w'
           go_simp
           with_reducible rfl
          rotate_left
          ·simp only [Act.put, List.setIfInBounds_toArray, List.set_cons_zero, List.set_cons_succ, i64_w, i32_w]
           rfl
          refine pure_ (i := 9) (N := some 19) (v := ?_) (a' := ?_) mk_24_10 rfl rfl (any_of HT_.out (by kernel_rfl)) (fun _ _ _ h => h) (Or.inl ⟨by rfl, ?_⟩) ?_ ?_
          rotate_left
          ·intro w'
           go_simp
           with_reducible rfl
          rotate_left
          ·simp only [Act.put, List.setIfInBounds_toArray, List.set_cons_zero, List.set_cons_succ, i64_w, i32_w]
           rfl
          refine pure_ (i := 10) (N := some 20) (v := ?_) (a' := ?_) mk_24_11 rfl rfl (any_of HT_.out (by kernel_rfl)) (fun _ _ _ h => h) (Or.inl ⟨by rfl, ?_⟩) ?_ ?_
          rotate_left
          ·intro w'
           go_simp
           with_reducible rfl
          rotate_left
          ·simp only [Act.put, List.setIfInBounds_toArray, List.set_cons_zero, List.set_cons_succ, i64_w, i32_w]
           rfl
          refine pure_ (i := 11) (N := some 21) (v := ?_) (a' := ?_) mk_24_12 rfl rfl (any_of HT_.out (by kernel_rfl)) (fun _ _ _ h => h) (Or.inl ⟨by rfl, ?_⟩) ?_ ?_
          rotate_left
          ·intro w'
           go_simp
           with_reducible rfl
          rotate_left
          ·simp only [Act.put, List.setIfInBounds_toArray, List.set_cons_zero, List.set_cons_succ, i64_w, i32_w]
           rfl
          refine pure_ (i := 12) (N := some 22) (v := ?_) (a' := ?_) mk_24_13 rfl rfl (any_of HT_.out (by kernel_rfl)) (fun _ _ _ h => h) (Or.inl ⟨by rfl, ?_⟩) ?_ ?_
          rotate_left
          ·intro w'
           go_simp
           with_reducible rfl
          rotate_left
          ·simp only [Act.put, List.setIfInBounds_toArray, List.set_cons_zero, List.set_cons_succ, i64_w, i32_w]
           rfl
          refine pure_ (i := 13) (N := some 23) (v := ?_) (a' := ?_) mk_24_14 rfl rfl (any_of HT_.out (by kernel_rfl)) (fun _ _ _ h => h) (Or.inl ⟨by rfl, ?_⟩) ?_ ?_
          rotate_left
          ·intro w'
           go_simp
           with_reducible rfl
          rotate_left
          ·simp only [Act.put, List.setIfInBounds_toArray, List.set_cons_zero, List.set_cons_succ, i64_w, i32_w]
           rfl
          refine pure_ (i := 15) (N := some 25) (v := ?_) (a' := ?_) #[true, true, true, true, true, true, true, true, true, true, true, true, true, true, false, true, false, false, false, false, false, false, false, false] rfl rfl (any_of HT_.out (by kernel_rfl)) (fun _ _ _ h => h) (Or.inl ⟨by rfl, ?_⟩) ?_ ?_
          rotate_left
          ·intro w'
           go_simp
           with_reducible rfl
          rotate_left
          ·simp only [Act.put, List.setIfInBounds_toArray, List.set_cons_zero, List.set_cons_succ, i64_w, i32_w]
           rfl
          refine pure_ (i := 16) (N := some 26) (v := ?_) (a' := ?_) #[true, true, true, true, true, true, true, true, true, true, true, true, true, true, false, true, true, false, false, false, false, false, false, false] rfl rfl (any_of HT_.out (by kernel_rfl)) (fun _ _ _ h => h) (Or.inl ⟨by rfl, ?_⟩) ?_ ?_
          rotate_left
          ·intro w'
           go_simp
           with_reducible rfl
          rotate_left
          ·simp only [Act.put, List.setIfInBounds_toArray, List.set_cons_zero, List.set_cons_succ, i64_w, i32_w]
           rfl
          refine pure_ (i := 17) (N := some 27) (v := ?_) (a' := ?_) #[true, true, true, true, true, true, true, true, true, true, true, true, true, true, false, true, true, true, false, false, false, false, false, false] rfl rfl (any_of HT_.out (by kernel_rfl)) (fun _ _ _ h => h) (Or.inl ⟨by rfl, ?_⟩) ?_ ?_
          rotate_left
          ·intro w'
           go_simp
           with_reducible rfl
          rotate_left
          ·simp only [Act.put, List.setIfInBounds_toArray, List.set_cons_zero, List.set_cons_succ, i64_w, i32_w]
           rfl
          refine pure_ (i := 18) (N := some 28) (v := ?_) (a' := ?_) #[true, true, true, true, true, true, true, true, true, true, true, true, true, true, false, true, true, true, true, false, false, false, false, false] rfl rfl (any_of HT_.out (by kernel_rfl)) (fun _ _ _ h => h) (Or.inl ⟨by rfl, ?_⟩) ?_ ?_
          rotate_left
          ·intro w'
           go_simp
           with_reducible rfl
          rotate_left
          ·simp only [Act.put, List.setIfInBounds_toArray, List.set_cons_zero, List.set_cons_succ, i64_w, i32_w]
           rfl
          refine pure_ (i := 19) (N := some 29) (v := ?_) (a' := ?_) #[true, true, true, true, true, true, true, true, true, true, true, true, true, true, false, true, true, true, true, true, false, false, false, false] rfl rfl (any_of HT_.out (by kernel_rfl)) (fun _ _ _ h => h) (Or.inl ⟨by rfl, ?_⟩) ?_ ?_
          rotate_left
          ·intro w'
           go_simp
           with_reducible rfl
          rotate_left
          ·simp only [Act.put, List.setIfInBounds_toArray, List.set_cons_zero, List.set_cons_succ, i64_w, i32_w]
           rfl
          refine take_ (i := 14) (N := some 24) (v := ?_) (a' := ?_) mk_24_20 rfl rfl (take_ofW HT_.out HW_.out (by kernel_rfl)) (fun _ _ _ h => h) (Or.inl ⟨by rfl, ?_⟩) hHeld ?_ ?_
          rotate_left
          ·rintro w' ⟨s0, s1, s2, s3, s4, s5, s6, s7, s8, s9, s10, s11⟩
           go_simp
           with_reducible rfl
          rotate_left
          ·simp only [Act.put, List.setIfInBounds_toArray, List.set_cons_zero, List.set_cons_succ, i64_w, i32_w]
           rfl
          refine take_ (i := 20) (N := some 30) (v := ?_) (a' := ?_) mk_24_21 rfl rfl (take_ofW HT_.out HW_.out (by kernel_rfl)) (fun _ _ _ h => h) (Or.inl ⟨by rfl, ?_⟩) hHeld ?_ ?_
          rotate_left
          ·rintro w' ⟨s0, s1, s2, s3, s4, s5, s6, s7, s8, s9, s10, s11⟩
           go_simp
           with_reducible rfl
          rotate_left
          ·simp only [Act.put, List.setIfInBounds_toArray, List.set_cons_zero, List.set_cons_succ, i64_w, i32_w]
           rfl
          refine pure_ (i := 21) (N := some 31) (v := ?_) (a' := ?_) mk_24_22 rfl rfl (any_of HT_.out (by kernel_rfl)) (fun _ _ _ h => h) (Or.inl ⟨by rfl, ?_⟩) ?_ ?_
          rotate_left
          ·intro w'
           go_simp
           with_reducible rfl
          rotate_left
          ·simp only [Act.put, List.setIfInBounds_toArray, List.set_cons_zero, List.set_cons_succ, i64_w, i32_w]
           rfl
          refine pure_ (i := 22) (N := some 32) (v := ?_) (a' := ?_) mk_24_23 rfl rfl (any_of HT_.out (by kernel_rfl)) (fun _ _ _ h => h) (Or.inl ⟨by rfl, ?_⟩) ?_ ?_
          rotate_left
          ·intro w'
           go_simp
           with_reducible rfl
          rotate_left
          ·simp only [Act.put, List.setIfInBounds_toArray, List.set_cons_zero, List.set_cons_succ, i64_w, i32_w]
           rfl
          refine pure_ (i := 23) (N := some 33) (v := ?_) (a' := ?_) mk_24_24 rfl rfl (any_of HT_.out (by kernel_rfl)) (fun _ _ _ h => h) (Or.inl ⟨by rfl, ?_⟩) ?_ ?_
          rotate_left
          ·intro w'
           go_simp
           with_reducible rfl
          rotate_left
          ·simp only [Act.put, List.setIfInBounds_toArray, List.set_cons_zero, List.set_cons_succ, i64_w, i32_w]
           rfl
          refine done_ (done_of HT_.out (by kernel_rfl)) ?_
          try go_wp2
          go_roundg k1
          case measure => have := HK1.out; omega
          case rel => exact ⟨(wrap64 (x3_1 + 1)), (by first | rfl | (simp; done) | (simp [*]; done)), H', ⟨by have := HK1.out; omega⟩, ⟨by repeat (first | (with_reducible first | exact HB.out | apply below_alloc | apply pw_below_drewN | apply below_drew1) | exact HB.out)⟩⟩
        ·rw [if_neg c9] at H
         exact absurd H (by simp)
       ·rw [if_neg c8] at H
        exact absurd H (by simp)
      ·rw [if_neg c6] at H
       have c6b0 : decide (0 < x3_1) = false := decide_eq_false c6
       clear c6
       have H' := Aside0.mk H
       clear H
       try go_wp2
       have n0_ := Aside0.mk (below_drew1 HB.out)
       clear HB
       have HB := n0_
       clear n0_
       have p142 : 0 ≤ (x3_1 : Int) := of_decide_eq_true (by first | (with_reducible assumption) | assumption)
       have q142 : x3_1 < (l0.length : Int) := of_decide_eq_true (by first | (with_reducible assumption) | assumption)
       obtain ⟨ad142, A142_3, c142_3, e142, hx142_0, hx142_1, hx142_2, hx142_3, hl142_3, hi142_3⟩ := at_T57 HR0.out x3_1 p142 q142
       have hw142_3 := hx142_3
       have hw142_2 := hx142_2
       have hw142_1 := hx142_1
       have hw142_0 := hx142_0
       cases e142
       replace hx142_0 := (HB.out.cell (World.block_lt_of_cell? w _ hx142_0)).trans hx142_0
       replace hx142_1 := (HB.out.cell (World.block_lt_of_cell? w _ hx142_1)).trans hx142_1
       replace hx142_2 := (HB.out.cell (World.block_lt_of_cell? w _ hx142_2)).trans hx142_2
       replace hx142_3 := (HB.out.cell (World.block_lt_of_cell? w _ hx142_3)).trans hx142_3
       have HR142_3 := Aside0.mk hi142_3
       have HC142_3 := Aside0.mk hl142_3
       clear hi142_3 hl142_3
       replace p142 := eq_true p142
       replace q142 := eq_true q142
       refine start_ (n := 24) (S := fun w' => w'.cell? (ad142.add ((x3_1).toNat * 4)) = some (.int .i64 ((rd_T57 l0 x3_1).f0)) ∧ w'.cell? ⟨(ad142.add ((x3_1).toNat * 4)).block, (ad142.add ((x3_1).toNat * 4)).off + 1, none⟩ = some (.int .i64 ((rd_T57 l0 x3_1).f1)) ∧ w'.cell? ⟨(ad142.add ((x3_1).toNat * 4)).block, (ad142.add ((x3_1).toNat * 4)).off + 2, none⟩ = some (.int .i64 ((rd_T57 l0 x3_1).f2)) ∧ w'.cell? ⟨(ad142.add ((x3_1).toNat * 4)).block, (ad142.add ((x3_1).toNat * 4)).off + 3, none⟩ = some (.slice A142_3 ((rd_T57 l0 x3_1).f3).length c142_3)) (ds := []) mk_24_0 (by kernel_rfl) rfl rfl ⟨((HB.out.cell (World.block_lt_of_cell? w _ hw142_0)).trans hw142_0), ((HB.out.cell (World.block_lt_of_cell? w _ hw142_1)).trans hw142_1), ((HB.out.cell (World.block_lt_of_cell? w _ hw142_2)).trans hw142_2), ((HB.out.cell (World.block_lt_of_cell? w _ hw142_3)).trans hw142_3)⟩ (fun hHeld => ?_); refine with_tabW watchwordref9_UpdateMay.tab4 watchwordref9_UpdateMay.bits4 (fun HT_ HW_ => ?_)
       generalize wr.drew = w15 at HB HR142_3 hx142_0 hx142_1 hx142_2 hx142_3 hHeld ⊢
       refine pure_ (i := 0) (N := some 10) (v := ?_) (a' := ?_) mk_24_1 rfl rfl (any_of HT_.out (by kernel_rfl)) (fun _ _ _ h => h) (Or.inl ⟨by rfl, ?_⟩) ?_ ?_
       rotate_left
       ·intro w'
        go_simp
        with_reducible rfl
       rotate_left
       ·simp only [Act.put, List.setIfInBounds_toArray, List.set_cons_zero, List.set_cons_succ, i64_w, i32_w]
        rfl
       refine pure_ (i := 1) (N := some 11) (v := ?_) (a' := ?_) mk_24_2 rfl rfl (any_of HT_.out (by kernel_rfl)) (fun _ _ _ h => h) (Or.inl ⟨by rfl, ?_⟩) ?_ ?_
       rotate_left
       ·intro w'
        go_simp
        with_reducible rfl
       rotate_left
       ·simp only [Act.put, List.setIfInBounds_toArray, List.set_cons_zero, List.set_cons_succ, i64_w, i32_w]
        rfl
       refine pure_ (i := 2) (N := some 12) (v := ?_) (a' := ?_) mk_24_3 rfl rfl (any_of HT_.out (by kernel_rfl)) (fun _ _ _ h => h) (Or.inl ⟨by rfl, ?_⟩) ?_ ?_
       rotate_left
       ·intro w'
        go_simp
        with_reducible rfl
       rotate_left
       ·simp only [Act.put, List.setIfInBounds_toArray, List.set_cons_zero, List.set_cons_succ, i64_w, i32_w]
        rfl
       refine take_ (i := 3) (N := some 13) (v := ?_) (a' := ?_) mk_24_4 rfl rfl (take_ofW HT_.out HW_.out (by kernel_rfl)) (fun _ _ _ h => h) (Or.inl ⟨by rfl, ?_⟩) hHeld ?_ ?_
       rotate_left
       ·rintro w' ⟨s0, s1, s2, s3⟩
        go_simp
        with_reducible rfl
       rotate_left
       ·simp only [Act.put, List.setIfInBounds_toArray, List.set_cons_zero, List.set_cons_succ, i64_w, i32_w]
        rfl
       refine one_ (i := 4) (N := some 14) mk_24_5 rfl rfl (one_of HT_.out (by kernel_rfl)) (by decide) (fun K hK => ?_)
       refine goes_ Try.func41 (by kernel_rfl) rfl #[.agg #[.int .i64 ((rd_T57 l0 x3_1).f0), .int .i64 ((rd_T57 l0 x3_1).f1), .int .i64 ((rd_T57 l0 x3_1).f2), .slice A142_3 ((rd_T57 l0 x3_1).f3).length c142_3]] (by rfl) rfl rfl (by (try simp only [List.map_toArray, List.map_cons, List.map_nil]); first | done | rfl | (simp only [List.length_drop, List.length_take]; rfl)) ?_
       with_reducible refine (watchwordref1_LsaMay.calls k1 ((rd_T57 l0 x3_1).f0) ((rd_T57 l0 x3_1).f1) ((rd_T57 l0 x3_1).f2) _ _ ((rd_T57 l0 x3_1).f3) true _ ?side1 ?side2 A4.out).mono ?_
       (case side1 => repeat (first | exact (Kd.C_below HR142_3.out HB.out) | (with_reducible refine Kd.C_alloc ?_ _) | (with_reducible refine Kd.C_drewN ?_ _) | (with_reducible refine Kd.C_drew ?_)))
       (case side2 => exact HC142_3.out)
       rintro e w16 ⟨rfl, hb⟩
       refine ⟨_, rfl, ?_⟩
       have n0_ := Aside0.mk (below_step (by repeat (first | (with_reducible first | exact HB.out | apply below_alloc | apply pw_below_drewN | apply below_drew1) | exact HB.out)) hb)
       clear HB
       have HB := n0_
       clear n0_
       (try clear hb)
       (try clear hb2)
       (try clear hk)
       (try clear hi)
       refine hK.out _ _ ⟨((HB.out.cell (World.block_lt_of_cell? w _ hw142_0)).trans hw142_0), ((HB.out.cell (World.block_lt_of_cell? w _ hw142_1)).trans hw142_1), ((HB.out.cell (World.block_lt_of_cell? w _ hw142_2)).trans hw142_2), ((HB.out.cell (World.block_lt_of_cell? w _ hw142_3)).trans hw142_3)⟩ (fun hHeld => ?_)
       clear hK K
       refine norm_ (a' := ?_) ?_ ?_
       rotate_left
       ·show Act.put _ (some 14) _ = _
        simp only [Act.put, List.setIfInBounds_toArray, List.set_cons_zero, List.set_cons_succ, i64_w, i32_w]
        rfl
       refine pure_ (i := 5) (N := some 15) (v := ?_) (a' := ?_) mk_24_6 rfl rfl (any_of HT_.out (by kernel_rfl)) (fun _ _ _ h => h) (Or.inl ⟨by rfl, ?_⟩) ?_ ?_
       rotate_left
       ·intro w'
        go_simp
        with_reducible rfl
       rotate_left
       ·simp only [Act.put, List.setIfInBounds_toArray, List.set_cons_zero, List.set_cons_succ, i64_w, i32_w]
        rfl
       refine pure_ (i := 6) (N := some 16) (v := ?_) (a' := ?_) mk_24_7 rfl rfl (any_of HT_.out (by kernel_rfl)) (fun _ _ _ h => h) (Or.inl ⟨by rfl, ?_⟩) ?_ ?_
       rotate_left
       ·intro w'
        go_simp
        with_reducible rfl
       rotate_left
       ·simp only [Act.put, List.setIfInBounds_toArray, List.set_cons_zero, List.set_cons_succ, i64_w, i32_w]
        rfl
       refine pure_ (i := 7) (N := some 17) (v := ?_) (a' := ?_) mk_24_8 rfl rfl (any_of HT_.out (by kernel_rfl)) (fun _ _ _ h => h) (Or.inl ⟨by rfl, ?_⟩) ?_ ?_
       rotate_left
       ·intro w'
        go_simp
        with_reducible rfl
       rotate_left
       ·simp only [Act.put, List.setIfInBounds_toArray, List.set_cons_zero, List.set_cons_succ, i64_w, i32_w]
        rfl
       refine pure_ (i := 8) (N := some 18) (v := ?_) (a' := ?_) mk_24_9 rfl rfl (any_of HT_.out (by kernel_rfl)) (fun _ _ _ h => h) (Or.inl ⟨by rfl, ?_⟩) ?_ ?_
       rotate_left
       ·intro w'
        go_simp
        with_reducible rfl
       rotate_left
       ·simp only [Act.put, List.setIfInBounds_toArray, List.set_cons_zero, List.set_cons_succ, i64_w, i32_w]
        rfl
       refine pure_ (i := 9) (N := some 19) (v := ?_) (a' := ?_) mk_24_10 rfl rfl (any_of HT_.out (by kernel_rfl)) (fun _ _ _ h => h) (Or.inl ⟨by rfl, ?_⟩) ?_ ?_
       rotate_left
       ·intro w'
        go_simp
        with_reducible rfl
       rotate_left
       ·simp only [Act.put, List.setIfInBounds_toArray, List.set_cons_zero, List.set_cons_succ, i64_w, i32_w]
        rfl
       refine pure_ (i := 10) (N := some 20) (v := undef) (a' := ?_) mk_24_11 rfl rfl (any_of HT_.out (by kernel_rfl)) (fun _ _ _ h => h) (Or.inr ⟨by rfl, rfl⟩) ?_ ?_
       rotate_left
       ·simp only [Act.put, List.setIfInBounds_toArray, List.set_cons_zero, List.set_cons_succ, i64_w, i32_w]
        rfl
       refine pure_ (i := 11) (N := some 21) (v := undef) (a' := ?_) mk_24_12 rfl rfl (any_of HT_.out (by kernel_rfl)) (fun _ _ _ h => h) (Or.inr ⟨by rfl, rfl⟩) ?_ ?_
       rotate_left
       ·simp only [Act.put, List.setIfInBounds_toArray, List.set_cons_zero, List.set_cons_succ, i64_w, i32_w]
        rfl
       refine pure_ (i := 12) (N := some 22) (v := undef) (a' := ?_) mk_24_13 rfl rfl (any_of HT_.out (by kernel_rfl)) (fun _ _ _ h => h) (Or.inr ⟨by rfl, rfl⟩) ?_ ?_
       rotate_left
       ·simp only [Act.put, List.setIfInBounds_toArray, List.set_cons_zero, List.set_cons_succ, i64_w, i32_w]
        rfl
       refine pure_ (i := 13) (N := some 23) (v := undef) (a' := ?_) mk_24_14 rfl rfl (any_of HT_.out (by kernel_rfl)) (fun _ _ _ h => h) (Or.inr ⟨by rfl, rfl⟩) ?_ ?_
       rotate_left
       ·simp only [Act.put, List.setIfInBounds_toArray, List.set_cons_zero, List.set_cons_succ, i64_w, i32_w]
        rfl
       refine pure_ (i := 14) (N := some 24) (v := undef) (a' := ?_) mk_24_15 rfl rfl (any_of HT_.out (by kernel_rfl)) (fun _ _ _ h => h) (Or.inr ⟨by rfl, rfl⟩) ?_ ?_
       rotate_left
       ·simp only [Act.put, List.setIfInBounds_toArray, List.set_cons_zero, List.set_cons_succ, i64_w, i32_w]
        rfl
       refine pure_ (i := 15) (N := some 25) (v := undef) (a' := ?_) mk_24_16 rfl rfl (any_of HT_.out (by kernel_rfl)) (fun _ _ _ h => h) (Or.inr ⟨by rfl, rfl⟩) ?_ ?_
       rotate_left
       ·simp only [Act.put, List.setIfInBounds_toArray, List.set_cons_zero, List.set_cons_succ, i64_w, i32_w]
        rfl
       refine pure_ (i := 16) (N := some 26) (v := undef) (a' := ?_) mk_24_17 rfl rfl (any_of HT_.out (by kernel_rfl)) (fun _ _ _ h => h) (Or.inr ⟨by rfl, rfl⟩) ?_ ?_
       rotate_left
       ·simp only [Act.put, List.setIfInBounds_toArray, List.set_cons_zero, List.set_cons_succ, i64_w, i32_w]
        rfl
       refine pure_ (i := 17) (N := some 27) (v := undef) (a' := ?_) mk_24_18 rfl rfl (any_of HT_.out (by kernel_rfl)) (fun _ _ _ h => h) (Or.inr ⟨by rfl, rfl⟩) ?_ ?_
       rotate_left
       ·simp only [Act.put, List.setIfInBounds_toArray, List.set_cons_zero, List.set_cons_succ, i64_w, i32_w]
        rfl
       refine pure_ (i := 18) (N := some 28) (v := undef) (a' := ?_) mk_24_19 rfl rfl (any_of HT_.out (by kernel_rfl)) (fun _ _ _ h => h) (Or.inr ⟨by rfl, rfl⟩) ?_ ?_
       rotate_left
       ·simp only [Act.put, List.setIfInBounds_toArray, List.set_cons_zero, List.set_cons_succ, i64_w, i32_w]
        rfl
       refine pure_ (i := 19) (N := some 29) (v := undef) (a' := ?_) mk_24_20 rfl rfl (any_of HT_.out (by kernel_rfl)) (fun _ _ _ h => h) (Or.inr ⟨by rfl, rfl⟩) ?_ ?_
       rotate_left
       ·simp only [Act.put, List.setIfInBounds_toArray, List.set_cons_zero, List.set_cons_succ, i64_w, i32_w]
        rfl
       refine pure_ (i := 20) (N := some 30) (v := undef) (a' := ?_) mk_24_21 rfl rfl (any_of HT_.out (by kernel_rfl)) (fun _ _ _ h => h) (Or.inr ⟨by rfl, rfl⟩) ?_ ?_
       rotate_left
       ·simp only [Act.put, List.setIfInBounds_toArray, List.set_cons_zero, List.set_cons_succ, i64_w, i32_w]
        rfl
       refine pure_ (i := 21) (N := some 31) (v := undef) (a' := ?_) mk_24_22 rfl rfl (any_of HT_.out (by kernel_rfl)) (fun _ _ _ h => h) (Or.inr ⟨by rfl, rfl⟩) ?_ ?_
       rotate_left
       ·simp only [Act.put, List.setIfInBounds_toArray, List.set_cons_zero, List.set_cons_succ, i64_w, i32_w]
        rfl
       refine pure_ (i := 22) (N := some 32) (v := ?_) (a' := ?_) mk_24_23 rfl rfl (any_of HT_.out (by kernel_rfl)) (fun _ _ _ h => h) (Or.inl ⟨by rfl, ?_⟩) ?_ ?_
       rotate_left
       ·intro w'
        go_simp
        with_reducible rfl
       rotate_left
       ·simp only [Act.put, List.setIfInBounds_toArray, List.set_cons_zero, List.set_cons_succ, i64_w, i32_w]
        rfl
       refine pure_ (i := 23) (N := some 33) (v := ?_) (a' := ?_) mk_24_24 rfl rfl (any_of HT_.out (by kernel_rfl)) (fun _ _ _ h => h) (Or.inl ⟨by rfl, ?_⟩) ?_ ?_
       rotate_left
       ·intro w'
        go_simp
        with_reducible rfl
       rotate_left
       ·simp only [Act.put, List.setIfInBounds_toArray, List.set_cons_zero, List.set_cons_succ, i64_w, i32_w]
        rfl
       refine done_ (done_of HT_.out (by kernel_rfl)) ?_
       try go_wp2
       go_roundg k1
       case measure => have := HK1.out; omega
       case rel => exact ⟨(wrap64 (x3_1 + 1)), (by first | rfl | (simp; done) | (simp [*]; done)), H', ⟨by have := HK1.out; omega⟩, ⟨by repeat (first | (with_reducible first | exact HB.out | apply below_alloc | apply pw_below_drewN | apply below_drew1) | exact HB.out)⟩⟩
     ·replace c5 := Bool.eq_false_iff.mpr c5
      subst c5
      have H1 : (some false) = some r := by rw [if_neg (show ¬ (false = true) by decide)] at H; exact H
      clear H
      have H := H1
      clear H1
      obtain rfl := Option.some.inj H
      try go_wp2
      have n0_ := Aside0.mk (below_drew1 HB.out)
      clear HB
      have HB := n0_
      clear n0_
      have p142 : 0 ≤ (x3_1 : Int) := of_decide_eq_true (by first | (with_reducible assumption) | assumption)
      have q142 : x3_1 < (l0.length : Int) := of_decide_eq_true (by first | (with_reducible assumption) | assumption)
      obtain ⟨ad142, A142_3, c142_3, e142, hx142_0, hx142_1, hx142_2, hx142_3, hl142_3, hi142_3⟩ := at_T57 HR0.out x3_1 p142 q142
      have hw142_3 := hx142_3
      have hw142_2 := hx142_2
      have hw142_1 := hx142_1
      have hw142_0 := hx142_0
      cases e142
      replace hx142_0 := (HB.out.cell (World.block_lt_of_cell? w _ hx142_0)).trans hx142_0
      replace hx142_1 := (HB.out.cell (World.block_lt_of_cell? w _ hx142_1)).trans hx142_1
      replace hx142_2 := (HB.out.cell (World.block_lt_of_cell? w _ hx142_2)).trans hx142_2
      replace hx142_3 := (HB.out.cell (World.block_lt_of_cell? w _ hx142_3)).trans hx142_3
      have HR142_3 := Aside0.mk hi142_3
      have HC142_3 := Aside0.mk hl142_3
      clear hi142_3 hl142_3
      replace p142 := eq_true p142
      replace q142 := eq_true q142
      refine start_ (n := 24) (S := fun w' => w'.cell? (ad142.add ((x3_1).toNat * 4)) = some (.int .i64 ((rd_T57 l0 x3_1).f0)) ∧ w'.cell? ⟨(ad142.add ((x3_1).toNat * 4)).block, (ad142.add ((x3_1).toNat * 4)).off + 1, none⟩ = some (.int .i64 ((rd_T57 l0 x3_1).f1)) ∧ w'.cell? ⟨(ad142.add ((x3_1).toNat * 4)).block, (ad142.add ((x3_1).toNat * 4)).off + 2, none⟩ = some (.int .i64 ((rd_T57 l0 x3_1).f2)) ∧ w'.cell? ⟨(ad142.add ((x3_1).toNat * 4)).block, (ad142.add ((x3_1).toNat * 4)).off + 3, none⟩ = some (.slice A142_3 ((rd_T57 l0 x3_1).f3).length c142_3)) (ds := []) mk_24_0 (by kernel_rfl) rfl rfl ⟨((HB.out.cell (World.block_lt_of_cell? w _ hw142_0)).trans hw142_0), ((HB.out.cell (World.block_lt_of_cell? w _ hw142_1)).trans hw142_1), ((HB.out.cell (World.block_lt_of_cell? w _ hw142_2)).trans hw142_2), ((HB.out.cell (World.block_lt_of_cell? w _ hw142_3)).trans hw142_3)⟩ (fun hHeld => ?_); refine with_tabW watchwordref9_UpdateMay.tab4 watchwordref9_UpdateMay.bits4 (fun HT_ HW_ => ?_)
      generalize wr.drew = w17 at HB HR142_3 hx142_0 hx142_1 hx142_2 hx142_3 hHeld ⊢
      refine pure_ (i := 0) (N := some 10) (v := ?_) (a' := ?_) mk_24_1 rfl rfl (any_of HT_.out (by kernel_rfl)) (fun _ _ _ h => h) (Or.inl ⟨by rfl, ?_⟩) ?_ ?_
      rotate_left
      ·intro w'
       go_simp
       with_reducible rfl
      rotate_left
      ·simp only [Act.put, List.setIfInBounds_toArray, List.set_cons_zero, List.set_cons_succ, i64_w, i32_w]
       rfl
      refine pure_ (i := 1) (N := some 11) (v := ?_) (a' := ?_) mk_24_2 rfl rfl (any_of HT_.out (by kernel_rfl)) (fun _ _ _ h => h) (Or.inl ⟨by rfl, ?_⟩) ?_ ?_
      rotate_left
      ·intro w'
       go_simp
       with_reducible rfl
      rotate_left
      ·simp only [Act.put, List.setIfInBounds_toArray, List.set_cons_zero, List.set_cons_succ, i64_w, i32_w]
       rfl
      refine pure_ (i := 2) (N := some 12) (v := ?_) (a' := ?_) mk_24_3 rfl rfl (any_of HT_.out (by kernel_rfl)) (fun _ _ _ h => h) (Or.inl ⟨by rfl, ?_⟩) ?_ ?_
      rotate_left
      ·intro w'
       go_simp
       with_reducible rfl
      rotate_left
      ·simp only [Act.put, List.setIfInBounds_toArray, List.set_cons_zero, List.set_cons_succ, i64_w, i32_w]
       rfl
      refine take_ (i := 3) (N := some 13) (v := ?_) (a' := ?_) mk_24_4 rfl rfl (take_ofW HT_.out HW_.out (by kernel_rfl)) (fun _ _ _ h => h) (Or.inl ⟨by rfl, ?_⟩) hHeld ?_ ?_
      rotate_left
      ·rintro w' ⟨s0, s1, s2, s3⟩
       go_simp
       with_reducible rfl
      rotate_left
      ·simp only [Act.put, List.setIfInBounds_toArray, List.set_cons_zero, List.set_cons_succ, i64_w, i32_w]
       rfl
      refine one_ (i := 4) (N := some 14) mk_24_5 rfl rfl (one_of HT_.out (by kernel_rfl)) (by decide) (fun K hK => ?_)
      refine goes_ Try.func41 (by kernel_rfl) rfl #[.agg #[.int .i64 ((rd_T57 l0 x3_1).f0), .int .i64 ((rd_T57 l0 x3_1).f1), .int .i64 ((rd_T57 l0 x3_1).f2), .slice A142_3 ((rd_T57 l0 x3_1).f3).length c142_3]] (by rfl) rfl rfl (by (try simp only [List.map_toArray, List.map_cons, List.map_nil]); first | done | rfl | (simp only [List.length_drop, List.length_take]; rfl)) ?_
      with_reducible refine (watchwordref1_LsaMay.calls k1 ((rd_T57 l0 x3_1).f0) ((rd_T57 l0 x3_1).f1) ((rd_T57 l0 x3_1).f2) _ _ ((rd_T57 l0 x3_1).f3) false _ ?side1 ?side2 A4.out).mono ?_
      (case side1 => repeat (first | exact (Kd.C_below HR142_3.out HB.out) | (with_reducible refine Kd.C_alloc ?_ _) | (with_reducible refine Kd.C_drewN ?_ _) | (with_reducible refine Kd.C_drew ?_)))
      (case side2 => exact HC142_3.out)
      rintro e w18 ⟨rfl, hb⟩
      refine ⟨_, rfl, ?_⟩
      have n0_ := Aside0.mk (below_step (by repeat (first | (with_reducible first | exact HB.out | apply below_alloc | apply pw_below_drewN | apply below_drew1) | exact HB.out)) hb)
      clear HB
      have HB := n0_
      clear n0_
      (try clear hb)
      (try clear hb2)
      (try clear hk)
      (try clear hi)
      refine hK.out _ _ ⟨((HB.out.cell (World.block_lt_of_cell? w _ hw142_0)).trans hw142_0), ((HB.out.cell (World.block_lt_of_cell? w _ hw142_1)).trans hw142_1), ((HB.out.cell (World.block_lt_of_cell? w _ hw142_2)).trans hw142_2), ((HB.out.cell (World.block_lt_of_cell? w _ hw142_3)).trans hw142_3)⟩ (fun hHeld => ?_)
      clear hK K
      refine norm_ (a' := ?_) ?_ ?_
      rotate_left
      ·show Act.put _ (some 14) _ = _
       simp only [Act.put, List.setIfInBounds_toArray, List.set_cons_zero, List.set_cons_succ, i64_w, i32_w]
       rfl
      refine pure_ (i := 5) (N := some 15) (v := ?_) (a' := ?_) mk_24_6 rfl rfl (any_of HT_.out (by kernel_rfl)) (fun _ _ _ h => h) (Or.inl ⟨by rfl, ?_⟩) ?_ ?_
      rotate_left
      ·intro w'
       go_simp
       with_reducible rfl
      rotate_left
      ·simp only [Act.put, List.setIfInBounds_toArray, List.set_cons_zero, List.set_cons_succ, i64_w, i32_w]
       rfl
      refine pure_ (i := 6) (N := some 16) (v := ?_) (a' := ?_) mk_24_7 rfl rfl (any_of HT_.out (by kernel_rfl)) (fun _ _ _ h => h) (Or.inl ⟨by rfl, ?_⟩) ?_ ?_
      rotate_left
      ·intro w'
       go_simp
       with_reducible rfl
      rotate_left
      ·simp only [Act.put, List.setIfInBounds_toArray, List.set_cons_zero, List.set_cons_succ, i64_w, i32_w]
       rfl
      refine pure_ (i := 7) (N := some 17) (v := undef) (a' := ?_) mk_24_8 rfl rfl (any_of HT_.out (by kernel_rfl)) (fun _ _ _ h => h) (Or.inr ⟨by rfl, rfl⟩) ?_ ?_
      rotate_left
      ·simp only [Act.put, List.setIfInBounds_toArray, List.set_cons_zero, List.set_cons_succ, i64_w, i32_w]
       rfl
      refine pure_ (i := 8) (N := some 18) (v := undef) (a' := ?_) mk_24_9 rfl rfl (any_of HT_.out (by kernel_rfl)) (fun _ _ _ h => h) (Or.inr ⟨by rfl, rfl⟩) ?_ ?_
      rotate_left
      ·simp only [Act.put, List.setIfInBounds_toArray, List.set_cons_zero, List.set_cons_succ, i64_w, i32_w]
       rfl
      refine pure_ (i := 9) (N := some 19) (v := undef) (a' := ?_) mk_24_10 rfl rfl (any_of HT_.out (by kernel_rfl)) (fun _ _ _ h => h) (Or.inr ⟨by rfl, rfl⟩) ?_ ?_
      rotate_left
      ·simp only [Act.put, List.setIfInBounds_toArray, List.set_cons_zero, List.set_cons_succ, i64_w, i32_w]
       rfl
      refine pure_ (i := 10) (N := some 20) (v := undef) (a' := ?_) mk_24_11 rfl rfl (any_of HT_.out (by kernel_rfl)) (fun _ _ _ h => h) (Or.inr ⟨by rfl, rfl⟩) ?_ ?_
      rotate_left
      ·simp only [Act.put, List.setIfInBounds_toArray, List.set_cons_zero, List.set_cons_succ, i64_w, i32_w]
       rfl
      refine pure_ (i := 11) (N := some 21) (v := undef) (a' := ?_) mk_24_12 rfl rfl (any_of HT_.out (by kernel_rfl)) (fun _ _ _ h => h) (Or.inr ⟨by rfl, rfl⟩) ?_ ?_
      rotate_left
      ·simp only [Act.put, List.setIfInBounds_toArray, List.set_cons_zero, List.set_cons_succ, i64_w, i32_w]
       rfl
      refine pure_ (i := 12) (N := some 22) (v := undef) (a' := ?_) mk_24_13 rfl rfl (any_of HT_.out (by kernel_rfl)) (fun _ _ _ h => h) (Or.inr ⟨by rfl, rfl⟩) ?_ ?_
      rotate_left
      ·simp only [Act.put, List.setIfInBounds_toArray, List.set_cons_zero, List.set_cons_succ, i64_w, i32_w]
       rfl
      refine pure_ (i := 13) (N := some 23) (v := undef) (a' := ?_) mk_24_14 rfl rfl (any_of HT_.out (by kernel_rfl)) (fun _ _ _ h => h) (Or.inr ⟨by rfl, rfl⟩) ?_ ?_
      rotate_left
      ·simp only [Act.put, List.setIfInBounds_toArray, List.set_cons_zero, List.set_cons_succ, i64_w, i32_w]
       rfl
      refine pure_ (i := 14) (N := some 24) (v := undef) (a' := ?_) mk_24_15 rfl rfl (any_of HT_.out (by kernel_rfl)) (fun _ _ _ h => h) (Or.inr ⟨by rfl, rfl⟩) ?_ ?_
      rotate_left
      ·simp only [Act.put, List.setIfInBounds_toArray, List.set_cons_zero, List.set_cons_succ, i64_w, i32_w]
       rfl
      refine pure_ (i := 15) (N := some 25) (v := undef) (a' := ?_) mk_24_16 rfl rfl (any_of HT_.out (by kernel_rfl)) (fun _ _ _ h => h) (Or.inr ⟨by rfl, rfl⟩) ?_ ?_
      rotate_left
      ·simp only [Act.put, List.setIfInBounds_toArray, List.set_cons_zero, List.set_cons_succ, i64_w, i32_w]
       rfl
      refine pure_ (i := 16) (N := some 26) (v := undef) (a' := ?_) mk_24_17 rfl rfl (any_of HT_.out (by kernel_rfl)) (fun _ _ _ h => h) (Or.inr ⟨by rfl, rfl⟩) ?_ ?_
      rotate_left
      ·simp only [Act.put, List.setIfInBounds_toArray, List.set_cons_zero, List.set_cons_succ, i64_w, i32_w]
       rfl
      refine pure_ (i := 17) (N := some 27) (v := undef) (a' := ?_) mk_24_18 rfl rfl (any_of HT_.out (by kernel_rfl)) (fun _ _ _ h => h) (Or.inr ⟨by rfl, rfl⟩) ?_ ?_
      rotate_left
      ·simp only [Act.put, List.setIfInBounds_toArray, List.set_cons_zero, List.set_cons_succ, i64_w, i32_w]
       rfl
      refine pure_ (i := 18) (N := some 28) (v := undef) (a' := ?_) mk_24_19 rfl rfl (any_of HT_.out (by kernel_rfl)) (fun _ _ _ h => h) (Or.inr ⟨by rfl, rfl⟩) ?_ ?_
      rotate_left
      ·simp only [Act.put, List.setIfInBounds_toArray, List.set_cons_zero, List.set_cons_succ, i64_w, i32_w]
       rfl
      refine pure_ (i := 19) (N := some 29) (v := undef) (a' := ?_) mk_24_20 rfl rfl (any_of HT_.out (by kernel_rfl)) (fun _ _ _ h => h) (Or.inr ⟨by rfl, rfl⟩) ?_ ?_
      rotate_left
      ·simp only [Act.put, List.setIfInBounds_toArray, List.set_cons_zero, List.set_cons_succ, i64_w, i32_w]
       rfl
      refine pure_ (i := 20) (N := some 30) (v := undef) (a' := ?_) mk_24_21 rfl rfl (any_of HT_.out (by kernel_rfl)) (fun _ _ _ h => h) (Or.inr ⟨by rfl, rfl⟩) ?_ ?_
      rotate_left
      ·simp only [Act.put, List.setIfInBounds_toArray, List.set_cons_zero, List.set_cons_succ, i64_w, i32_w]
       rfl
      refine pure_ (i := 21) (N := some 31) (v := undef) (a' := ?_) mk_24_22 rfl rfl (any_of HT_.out (by kernel_rfl)) (fun _ _ _ h => h) (Or.inr ⟨by rfl, rfl⟩) ?_ ?_
      rotate_left
      ·simp only [Act.put, List.setIfInBounds_toArray, List.set_cons_zero, List.set_cons_succ, i64_w, i32_w]
       rfl
      refine pure_ (i := 22) (N := some 32) (v := undef) (a' := ?_) mk_24_23 rfl rfl (any_of HT_.out (by kernel_rfl)) (fun _ _ _ h => h) (Or.inr ⟨by rfl, rfl⟩) ?_ ?_
      rotate_left
      ·simp only [Act.put, List.setIfInBounds_toArray, List.set_cons_zero, List.set_cons_succ, i64_w, i32_w]
       rfl
      refine pure_ (i := 23) (N := some 33) (v := ?_) (a' := ?_) mk_24_24 rfl rfl (any_of HT_.out (by kernel_rfl)) (fun _ _ _ h => h) (Or.inl ⟨by rfl, ?_⟩) ?_ ?_
      rotate_left
      ·intro w'
       go_simp
       with_reducible rfl
      rotate_left
      ·simp only [Act.put, List.setIfInBounds_toArray, List.set_cons_zero, List.set_cons_succ, i64_w, i32_w]
       rfl
      refine done_ (done_of HT_.out (by kernel_rfl)) ?_
      try go_wp2
      go_ret
      exact ⟨by first | rfl | (simp [errW_none, errW_some] <;> rfl) | (simp [*, errW_none, errW_some] <;> rfl), by repeat (first | (with_reducible first | exact HB.out | apply below_alloc | apply pw_below_drewN | apply below_drew1) | exact HB.out)⟩
    ·rw [if_neg c3] at H
     exact absurd H (by simp)
   ·rw [if_neg c2] at H
    have c2b0 : decide (x3_1 < (l0.length : Int)) = false := decide_eq_false c2
    clear c2
    obtain rfl := Option.some.inj H
    go_wp2
    go_ret
    exact ⟨by first | rfl | (simp [errW_none, errW_some] <;> rfl) | (simp [*, errW_none, errW_some] <;> rfl), by repeat (first | (with_reducible first | exact HB.out | apply below_alloc | apply pw_below_drewN | apply below_drew1) | exact HB.out)⟩

end Go.Proofs.Ytjbejbehbjhecaa.Q20
namespace Go.Proofs.Ytjbejbehbjhecaa.Q20
open Go.RowKit Go.Proofs.YtjbejbehbjhecaaW.PrintWords Go.Proofs.YtjbejbehbjhecaaW.PrintLast Go.Proofs.YtjbejbehbjhecaaW.PrintMore
attribute [local go_sem] max2_int min2_int max_two min_two max_three min_three max_four min_four   -- for this text's walks alone
set_option linter.unusedVariables false
set_option linter.unusedSimpArgs false

/-! ### watchwordref18_StoreMay: function 26 -/
def watchwordref18_StoreMay.l0 : Nat → List (S57) → Int → Option (Bool)
 | 0, _, _ => none
 | k + 1, x0, x3 => if x3 < (x0.length : Int) then (if 0 ≤ x3 then (if ((rd_T57 x0 x3).f2) ≥ 60 then (some false) else (watchwordref18_StoreMay.l0 k x0 (wrap64 (x3 + 1)))) else (none)) else ((watchwordref9_UpdateMay.f k x0).bind fun t147 => (some t147))
def watchwordref18_StoreMay.f (k : Nat) (l0 : List (S57)) : Option (Bool) := watchwordref18_StoreMay.l0 k l0 0
theorem watchwordref18_StoreMay.mono_l : ∀ k, (∀ y0 y1, LeO (watchwordref18_StoreMay.l0 k y0 y1) (watchwordref18_StoreMay.l0 (k + 1) y0 y1))
 | 0 => fun _ _ r h => by simp [watchwordref18_StoreMay.l0] at h
 | k + 1 => by
  have ih0 := watchwordref18_StoreMay.mono_l k
  ·intro y0 y1
   unfold watchwordref18_StoreMay.l0
   repeat' first
   | (with_reducible exact ih0 _ _)
   | (with_reducible exact watchwordref9_UpdateMay.mono _ _)
   | (with_reducible exact LeO.refl _)
   | (with_reducible exact LeO.none _)
   | (with_reducible refine LeO.ite ?_ ?_)
   | (with_reducible refine LeO.bind ?_ (fun _ => ?_))
   | exact ih0 _ _
   | exact watchwordref9_UpdateMay.mono _ _
   | exact LeO.none _
   | refine LeO.ite ?_ ?_
   | refine LeO.bind ?_ (fun _ => ?_)
theorem watchwordref18_StoreMay.mono : ∀ a0 k, LeO (watchwordref18_StoreMay.f k a0) (watchwordref18_StoreMay.f (k + 1) a0) := by
 intro a0 k
 have ih0 := watchwordref18_StoreMay.mono_l k
 unfold watchwordref18_StoreMay.f
 repeat' first
   | (with_reducible exact ih0 _ _)
   | (with_reducible exact watchwordref9_UpdateMay.mono _ _)
   | (with_reducible exact LeO.refl _)
   | (with_reducible exact LeO.none _)
   | (with_reducible refine LeO.ite ?_ ?_)
   | (with_reducible refine LeO.bind ?_ (fun _ => ?_))
   | exact ih0 _ _
   | exact watchwordref9_UpdateMay.mono _ _
   | exact LeO.none _
   | refine LeO.ite ?_ ?_
   | refine LeO.bind ?_ (fun _ => ?_)
set_option maxHeartbeats 8000000 in
set_option maxRecDepth 100000 in
theorem watchwordref18_StoreMay.calls (k : Nat) (A0 : Option Addr) (c0 : Nat) (l0 : List (S57)) (r : Bool) (w : World) (hr0 : Kd.C k57 w A0 l0.length l0) (hc0 : l0.length ≤ c0) (h : watchwordref18_StoreMay.f k l0 = some r) :
  Calls Try.prog 26 #[.slice A0 l0.length c0] w fun e w' => e = .returned (.bool r) ∧ Below w.heap.size w w' := by
 have HR0 := Aside0.mk hr0
 have HC0 := Aside0.mk hc0
 clear hr0 hc0
 have HB := Aside0.mk (Below.refl w.heap.size w)
 have H : (watchwordref18_StoreMay.l0 k l0 0) = some r := h
 clear h
 have H' := Aside0.mk H
 clear H
 go_enter Try.func26, Try.ntmps26
 go_wp2
 go_loopg [3] k (fun kq v3 w' => ∃ (x3_1 : Int), v3 = .int .i64 x3_1 ∧ Aside0 (watchwordref18_StoreMay.l0 kq l0 x3_1 = some r) ∧ Aside0 (kq ≤ k) ∧ Aside0 (Below w.heap.size w w'))
 case atStart => exact ⟨(0), (by first | rfl | (simp; done) | (simp [*]; done)), H', ⟨Nat.le_refl _⟩, ⟨by repeat (first | (with_reducible first | exact HB.out | apply below_alloc | apply pw_below_drewN | apply below_drew1) | exact HB.out)⟩⟩
 case round =>
  clear H'
  obtain ⟨x3_1, rfl, HA, HK1, HB⟩ := hrel
  cases gk with
  | zero => exact absurd HA.out (by simp [watchwordref18_StoreMay.l0])
  | succ k1 =>
   have H := HA.out
   clear HA
   simp only [watchwordref18_StoreMay.l0] at H
   by_cases c2 : x3_1 < (l0.length : Int)
   ·rw [if_pos c2] at H
    have c2b0 : decide (x3_1 < (l0.length : Int)) = true := decide_eq_true c2
    clear c2
    by_cases c3 : 0 ≤ x3_1
    ·rw [if_pos c3] at H
     have c3b0 : decide (0 ≤ x3_1) = true := decide_eq_true c3
     clear c3
     by_cases c4 : ((rd_T57 l0 x3_1).f2) ≥ 60
     ·rw [if_pos c4] at H
      have c4b0 : decide (60 ≤ ((rd_T57 l0 x3_1).f2)) = true := decide_eq_true c4
      clear c4
      obtain rfl := Option.some.inj H
      have p146 : 0 ≤ (x3_1 : Int) := of_decide_eq_true (by first | (with_reducible assumption) | assumption)
      have q146 : x3_1 < (l0.length : Int) := of_decide_eq_true (by first | (with_reducible assumption) | assumption)
      obtain ⟨ad146, A146_3, c146_3, e146, hx146_0, hx146_1, hx146_2, hx146_3, hl146_3, hi146_3⟩ := at_T57 HR0.out x3_1 p146 q146
      cases e146
      replace hx146_0 := (HB.out.cell (World.block_lt_of_cell? w _ hx146_0)).trans hx146_0
      replace hx146_1 := (HB.out.cell (World.block_lt_of_cell? w _ hx146_1)).trans hx146_1
      replace hx146_2 := (HB.out.cell (World.block_lt_of_cell? w _ hx146_2)).trans hx146_2
      replace hx146_3 := (HB.out.cell (World.block_lt_of_cell? w _ hx146_3)).trans hx146_3
      have HR146_3 := Aside0.mk hi146_3
      have HC146_3 := Aside0.mk hl146_3
      clear hi146_3 hl146_3
      replace p146 := eq_true p146
      replace q146 := eq_true q146
      go_wp2
      go_ret
      exact ⟨by first | rfl | (simp [errW_none, errW_some] <;> rfl) | (simp [*, errW_none, errW_some] <;> rfl), by repeat (first | (with_reducible first | exact HB.out | apply below_alloc | apply pw_below_drewN | apply below_drew1) | exact HB.out)⟩
     ·rw [if_neg c4] at H
      have c4b0 : decide (60 ≤ ((rd_T57 l0 x3_1).f2)) = false := decide_eq_false c4
      clear c4
      have H' := Aside0.mk H
      clear H
      have p146 : 0 ≤ (x3_1 : Int) := of_decide_eq_true (by first | (with_reducible assumption) | assumption)
      have q146 : x3_1 < (l0.length : Int) := of_decide_eq_true (by first | (with_reducible assumption) | assumption)
      obtain ⟨ad146, A146_3, c146_3, e146, hx146_0, hx146_1, hx146_2, hx146_3, hl146_3, hi146_3⟩ := at_T57 HR0.out x3_1 p146 q146
      cases e146
      replace hx146_0 := (HB.out.cell (World.block_lt_of_cell? w _ hx146_0)).trans hx146_0
      replace hx146_1 := (HB.out.cell (World.block_lt_of_cell? w _ hx146_1)).trans hx146_1
      replace hx146_2 := (HB.out.cell (World.block_lt_of_cell? w _ hx146_2)).trans hx146_2
      replace hx146_3 := (HB.out.cell (World.block_lt_of_cell? w _ hx146_3)).trans hx146_3
      have HR146_3 := Aside0.mk hi146_3
      have HC146_3 := Aside0.mk hl146_3
      clear hi146_3 hl146_3
      replace p146 := eq_true p146
      replace q146 := eq_true q146
      go_wp2
      go_roundg k1
      case measure => have := HK1.out; omega
      case rel => exact ⟨(wrap64 (x3_1 + 1)), (by first | rfl | (simp; done) | (simp [*]; done)), H', ⟨by have := HK1.out; omega⟩, ⟨by repeat (first | (with_reducible first | exact HB.out | apply below_alloc | apply pw_below_drewN | apply below_drew1) | exact HB.out)⟩⟩
    ·rw [if_neg c3] at H
     exact absurd H (by simp)
   ·rw [if_neg c2] at H
    have c2b0 : decide (x3_1 < (l0.length : Int)) = false := decide_eq_false c2
    clear c2
    replace H := Option.bind_eq_some_iff.mp H
    obtain ⟨t147, A50, H⟩ := H
    replace H : (some t147) = some r := H
    have A5 := Aside0.mk A50
    clear A50
    obtain rfl := Option.some.inj H
    go_wp2_with (first | ((with_reducible refine gate_callee (f := 35) rfl ?_); refine goesL_ (some 17) rfl rfl Try.func35 (by kernel_rfl) rfl #[.slice A0 l0.length c0] rfl (by (try simp only [List.map_toArray, List.map_cons, List.map_nil]); first | done | rfl | (simp only [List.length_drop, List.length_take]; rfl)) ?_; (with_reducible refine (watchwordref9_UpdateMay.calls k1 _ _ l0 t147 _ ?side1 ?side2 A5.out).mono ?_); (case side1 => repeat (first | exact (Kd.C_below HR0.out HB.out) | (with_reducible refine Kd.C_alloc ?_ _) | (with_reducible refine Kd.C_drewN ?_ _) | (with_reducible refine Kd.C_drew ?_))); (case side2 => exact HC0.out); rintro e w6 ⟨rfl, hb⟩; refine ⟨_, rfl, ?_⟩; have n0_ := Aside0.mk (below_step (by repeat (first | (with_reducible first | exact HB.out | apply below_alloc | apply pw_below_drewN | apply below_drew1) | exact HB.out)) hb); clear HB; have HB := n0_; clear n0_; (try clear hb); (try clear hb2); (try clear hk); (try clear hi)))
    go_ret
    exact ⟨by first | rfl | (simp [errW_none, errW_some] <;> rfl) | (simp [*, errW_none, errW_some] <;> rfl), by repeat (first | (with_reducible first | exact HB.out | apply below_alloc | apply pw_below_drewN | apply below_drew1) | exact HB.out)⟩

end Go.Proofs.Ytjbejbehbjhecaa.Q20
namespace Go.Proofs.Ytjbejbehbjhecaa.Q20
open Go.RowKit Go.Proofs.YtjbejbehbjhecaaW.PrintWords Go.Proofs.YtjbejbehbjhecaaW.PrintLast Go.Proofs.YtjbejbehbjhecaaW.PrintMore
attribute [local go_sem] max2_int min2_int max_two min_two max_three min_three max_four min_four   -- for this text's walks alone
set_option linter.unusedVariables false
set_option linter.unusedSimpArgs false

/-! ### watchwordlaw20_GraphLess: function 12 -/
/-- A list without one of its elements. -/
def lessOf (l : List (S57)) (i : Int) : List (S57) := l.take i.toNat ++ l.drop (i.toNat + 1)
theorem k59_heap : Kd.Heap k59 := Kd.heap_iso _ (Kd.heap_pair (Kd.heap_int .i64) (Kd.heap_int .i64))
theorem k57_heap : Kd.Heap k57 := Kd.heap_iso _ (Kd.heap_pair (Kd.heap_int .i64) (Kd.heap_pair (Kd.heap_int .i64) (Kd.heap_pair (Kd.heap_int .i64) (Kd.heap_slice 59 k59_heap))))
theorem setCells_other {w : World} {g k : Nat} (h : k ≠ g) (j : Nat) (v : Value) : (w.setCell ⟨g, j, none⟩ v).heap[k]? = w.heap[k]? := Below.heap_setCell w ⟨g, j, none⟩ v k h
mutual
def watchwordlaw20_GraphLess.j0 : Nat → List (S57) → Int → Bool → Option (Bool)
 | 0, _, _, _ => none
 | k + 1, x0, x1, x24 => if x24 = true then (some true) else (if (IntKind.u64.wrap ((x0.length : Int))) = 0 then (none) else (if 0 ≤ (wrap64 (Int.tmod (IntKind.u64.wrap (x1)) (IntKind.u64.wrap ((x0.length : Int))))) then (if (wrap64 (Int.tmod (IntKind.u64.wrap (x1)) (IntKind.u64.wrap ((x0.length : Int))))) < (x0.length : Int) then ((graph_Of.f k x0).bind fun bt209 => ((if x0.length < 2932031007402 then graph_Of.f k (lessOf x0 (wrap64 (Int.tmod (IntKind.u64.wrap (x1)) (IntKind.u64.wrap ((x0.length : Int)))))) else none).bind fun bt227 => ((watchwordlaw0_Num.f bt209.2.2.2.2.2.2.2.2.2.2.2.2.2.2.2.2).bind fun t245 => (if t245 = 0 then ((watchwordlaw0_Num.f bt227.2.2.2.2.2.2.2.2.2.2.2.2.2.2.2.2).bind fun t246 => (watchwordlaw20_GraphLess.j1 k (wrap64 (((rd_T57 x0 (wrap64 (Int.tmod (IntKind.u64.wrap (x1)) (IntKind.u64.wrap ((x0.length : Int)))))).f0) - 1)) (t246 != 0) bt209.1 bt209.2.1 bt209.2.2.1 bt209.2.2.2.1 bt209.2.2.2.2.1 bt209.2.2.2.2.2.1 bt209.2.2.2.2.2.2.1 bt209.2.2.2.2.2.2.2.1 bt209.2.2.2.2.2.2.2.2.1 bt209.2.2.2.2.2.2.2.2.2.1 bt209.2.2.2.2.2.2.2.2.2.2.1 bt209.2.2.2.2.2.2.2.2.2.2.2.1 bt209.2.2.2.2.2.2.2.2.2.2.2.2.1 bt209.2.2.2.2.2.2.2.2.2.2.2.2.2.1 bt209.2.2.2.2.2.2.2.2.2.2.2.2.2.2.1 bt209.2.2.2.2.2.2.2.2.2.2.2.2.2.2.2.1 bt227.1 bt227.2.1 bt227.2.2.1 bt227.2.2.2.1 bt227.2.2.2.2.1 bt227.2.2.2.2.2.1 bt227.2.2.2.2.2.2.1 bt227.2.2.2.2.2.2.2.1 bt227.2.2.2.2.2.2.2.2.1 bt227.2.2.2.2.2.2.2.2.2.1 bt227.2.2.2.2.2.2.2.2.2.2.1 bt227.2.2.2.2.2.2.2.2.2.2.2.1 bt227.2.2.2.2.2.2.2.2.2.2.2.2.1 bt227.2.2.2.2.2.2.2.2.2.2.2.2.2.1 bt227.2.2.2.2.2.2.2.2.2.2.2.2.2.2.1 bt227.2.2.2.2.2.2.2.2.2.2.2.2.2.2.2.1)) else (watchwordlaw20_GraphLess.j1 k (wrap64 (((rd_T57 x0 (wrap64 (Int.tmod (IntKind.u64.wrap (x1)) (IntKind.u64.wrap ((x0.length : Int)))))).f0) - 1)) true bt209.1 bt209.2.1 bt209.2.2.1 bt209.2.2.2.1 bt209.2.2.2.2.1 bt209.2.2.2.2.2.1 bt209.2.2.2.2.2.2.1 bt209.2.2.2.2.2.2.2.1 bt209.2.2.2.2.2.2.2.2.1 bt209.2.2.2.2.2.2.2.2.2.1 bt209.2.2.2.2.2.2.2.2.2.2.1 bt209.2.2.2.2.2.2.2.2.2.2.2.1 bt209.2.2.2.2.2.2.2.2.2.2.2.2.1 bt209.2.2.2.2.2.2.2.2.2.2.2.2.2.1 bt209.2.2.2.2.2.2.2.2.2.2.2.2.2.2.1 bt209.2.2.2.2.2.2.2.2.2.2.2.2.2.2.2.1 bt227.1 bt227.2.1 bt227.2.2.1 bt227.2.2.2.1 bt227.2.2.2.2.1 bt227.2.2.2.2.2.1 bt227.2.2.2.2.2.2.1 bt227.2.2.2.2.2.2.2.1 bt227.2.2.2.2.2.2.2.2.1 bt227.2.2.2.2.2.2.2.2.2.1 bt227.2.2.2.2.2.2.2.2.2.2.1 bt227.2.2.2.2.2.2.2.2.2.2.2.1 bt227.2.2.2.2.2.2.2.2.2.2.2.2.1 bt227.2.2.2.2.2.2.2.2.2.2.2.2.2.1 bt227.2.2.2.2.2.2.2.2.2.2.2.2.2.2.1 bt227.2.2.2.2.2.2.2.2.2.2.2.2.2.2.2.1))))) else (none)) else (none)))
def watchwordlaw20_GraphLess.j1 : Nat → Int → Bool → Int → Int → Int → Int → Int → Int → Int → Int → Int → Int → Int → Int → Int → Int → Int → Int → Int → Int → Int → Int → Int → Int → Int → Int → Int → Int → Int → Int → Int → Int → Int → Int → Option (Bool)
 | 0, _, _, _, _, _, _, _, _, _, _, _, _, _, _, _, _, _, _, _, _, _, _, _, _, _, _, _, _, _, _, _, _, _, _ => none
 | k + 1, x6, x66, x227000, x227001, x227002, x227003, x227004, x227005, x227006, x227007, x227008, x227009, x227010, x227011, x227012, x227013, x227014, x227015, x245000, x245001, x245002, x245003, x245004, x245005, x245006, x245007, x245008, x245009, x245010, x245011, x245012, x245013, x245014, x245015 => if x66 = true then (some false) else (watchwordlaw20_GraphLess.l0 k x6 0 x227000 x227001 x227002 x227003 x227004 x227005 x227006 x227007 x227008 x227009 x227010 x227011 x227012 x227013 x227014 x227015 x245000 x245001 x245002 x245003 x245004 x245005 x245006 x245007 x245008 x245009 x245010 x245011 x245012 x245013 x245014 x245015)
def watchwordlaw20_GraphLess.l0 : Nat → Int → Int → Int → Int → Int → Int → Int → Int → Int → Int → Int → Int → Int → Int → Int → Int → Int → Int → Int → Int → Int → Int → Int → Int → Int → Int → Int → Int → Int → Int → Int → Int → Int → Int → Option (Bool)
 | 0, _, _, _, _, _, _, _, _, _, _, _, _, _, _, _, _, _, _, _, _, _, _, _, _, _, _, _, _, _, _, _, _, _, _ => none
 | k + 1, x6, x12, x227000, x227001, x227002, x227003, x227004, x227005, x227006, x227007, x227008, x227009, x227010, x227011, x227012, x227013, x227014, x227015, x245000, x245001, x245002, x245003, x245004, x245005, x245006, x245007, x245008, x245009, x245010, x245011, x245012, x245013, x245014, x245015 => if x12 < 4 then (watchwordlaw20_GraphLess.l1 k x6 x12 0 x227000 x227001 x227002 x227003 x227004 x227005 x227006 x227007 x227008 x227009 x227010 x227011 x227012 x227013 x227014 x227015 x245000 x245001 x245002 x245003 x245004 x245005 x245006 x245007 x245008 x245009 x245010 x245011 x245012 x245013 x245014 x245015) else (some true)
def watchwordlaw20_GraphLess.l1 : Nat → Int → Int → Int → Int → Int → Int → Int → Int → Int → Int → Int → Int → Int → Int → Int → Int → Int → Int → Int → Int → Int → Int → Int → Int → Int → Int → Int → Int → Int → Int → Int → Int → Int → Int → Int → Option (Bool)
 | 0, _, _, _, _, _, _, _, _, _, _, _, _, _, _, _, _, _, _, _, _, _, _, _, _, _, _, _, _, _, _, _, _, _, _, _ => none
 | k + 1, x6, x12, x13, x227000, x227001, x227002, x227003, x227004, x227005, x227006, x227007, x227008, x227009, x227010, x227011, x227012, x227013, x227014, x227015, x245000, x245001, x245002, x245003, x245004, x245005, x245006, x245007, x245008, x245009, x245010, x245011, x245012, x245013, x245014, x245015 => if x13 < 4 then (if 0 ≤ x12 then (if x12 < 4 then (if 0 ≤ x13 then (if x12 = x6 then (watchwordlaw20_GraphLess.j4 k x6 x12 x13 (ix4 (ix4 x227000 x227001 x227002 x227003 x13) (ix4 x227004 x227005 x227006 x227007 x13) (ix4 x227008 x227009 x227010 x227011 x13) (ix4 x227012 x227013 x227014 x227015 x13) x12) true x227000 x227001 x227002 x227003 x227004 x227005 x227006 x227007 x227008 x227009 x227010 x227011 x227012 x227013 x227014 x227015 x245000 x245001 x245002 x245003 x245004 x245005 x245006 x245007 x245008 x245009 x245010 x245011 x245012 x245013 x245014 x245015) else (watchwordlaw20_GraphLess.j4 k x6 x12 x13 (ix4 (ix4 x227000 x227001 x227002 x227003 x13) (ix4 x227004 x227005 x227006 x227007 x13) (ix4 x227008 x227009 x227010 x227011 x13) (ix4 x227012 x227013 x227014 x227015 x13) x12) (x13 == x6) x227000 x227001 x227002 x227003 x227004 x227005 x227006 x227007 x227008 x227009 x227010 x227011 x227012 x227013 x227014 x227015 x245000 x245001 x245002 x245003 x245004 x245005 x245006 x245007 x245008 x245009 x245010 x245011 x245012 x245013 x245014 x245015)) else (none)) else (none)) else (none)) else (watchwordlaw20_GraphLess.l0 k x6 (wrap64 (x12 + 1)) x227000 x227001 x227002 x227003 x227004 x227005 x227006 x227007 x227008 x227009 x227010 x227011 x227012 x227013 x227014 x227015 x245000 x245001 x245002 x245003 x245004 x245005 x245006 x245007 x245008 x245009 x245010 x245011 x245012 x245013 x245014 x245015)
def watchwordlaw20_GraphLess.j4 : Nat → Int → Int → Int → Int → Bool → Int → Int → Int → Int → Int → Int → Int → Int → Int → Int → Int → Int → Int → Int → Int → Int → Int → Int → Int → Int → Int → Int → Int → Int → Int → Int → Int → Int → Int → Int → Int → Int → Option (Bool)
 | 0, _, _, _, _, _, _, _, _, _, _, _, _, _, _, _, _, _, _, _, _, _, _, _, _, _, _, _, _, _, _, _, _, _, _, _, _, _ => none
 | k + 1, x6, x12, x13, x14, x87, x227000, x227001, x227002, x227003, x227004, x227005, x227006, x227007, x227008, x227009, x227010, x227011, x227012, x227013, x227014, x227015, x245000, x245001, x245002, x245003, x245004, x245005, x245006, x245007, x245008, x245009, x245010, x245011, x245012, x245013, x245014, x245015 => if x87 = true then (if 0 ≤ x12 then (if x12 < 4 then (if 0 ≤ x13 then (if x13 < 4 then (if (ix4 (ix4 x245000 x245001 x245002 x245003 x13) (ix4 x245004 x245005 x245006 x245007 x13) (ix4 x245008 x245009 x245010 x245011 x13) (ix4 x245012 x245013 x245014 x245015 x13) x12) = 0 then (watchwordlaw20_GraphLess.l1 k x6 x12 (wrap64 (x13 + 1)) x227000 x227001 x227002 x227003 x227004 x227005 x227006 x227007 x227008 x227009 x227010 x227011 x227012 x227013 x227014 x227015 x245000 x245001 x245002 x245003 x245004 x245005 x245006 x245007 x245008 x245009 x245010 x245011 x245012 x245013 x245014 x245015) else (some false)) else (none)) else (none)) else (none)) else (none)) else (if 0 ≤ x12 then (if x12 < 4 then (if 0 ≤ x13 then (if x13 < 4 then (if (ix4 (ix4 x245000 x245001 x245002 x245003 x13) (ix4 x245004 x245005 x245006 x245007 x13) (ix4 x245008 x245009 x245010 x245011 x13) (ix4 x245012 x245013 x245014 x245015 x13) x12) = x14 then (watchwordlaw20_GraphLess.l1 k x6 x12 (wrap64 (x13 + 1)) x227000 x227001 x227002 x227003 x227004 x227005 x227006 x227007 x227008 x227009 x227010 x227011 x227012 x227013 x227014 x227015 x245000 x245001 x245002 x245003 x245004 x245005 x245006 x245007 x245008 x245009 x245010 x245011 x245012 x245013 x245014 x245015) else (some false)) else (none)) else (none)) else (none)) else (none))
end
def watchwordlaw20_GraphLess.f (k : Nat) (l0 : List (S57)) (a1 : Int) : Option (Bool) := (watchwordlaw20_awake.f k).bind fun t203 => (if t203 = true then ((watchwordref18_StoreMay.f k l0).bind fun t204 => (if t204 = true then (watchwordlaw20_GraphLess.j0 k l0 a1 ((l0.length : Int) == 0)) else (watchwordlaw20_GraphLess.j0 k l0 a1 true))) else (some false))
theorem watchwordlaw20_GraphLess.mono_l : ∀ k, (∀ y0 y1 y2, LeO (watchwordlaw20_GraphLess.j0 k y0 y1 y2) (watchwordlaw20_GraphLess.j0 (k + 1) y0 y1 y2)) ∧ (∀ y0 y1 y2 y3 y4 y5 y6 y7 y8 y9 y10 y11 y12 y13 y14 y15 y16 y17 y18 y19 y20 y21 y22 y23 y24 y25 y26 y27 y28 y29 y30 y31 y32 y33, LeO (watchwordlaw20_GraphLess.j1 k y0 y1 y2 y3 y4 y5 y6 y7 y8 y9 y10 y11 y12 y13 y14 y15 y16 y17 y18 y19 y20 y21 y22 y23 y24 y25 y26 y27 y28 y29 y30 y31 y32 y33) (watchwordlaw20_GraphLess.j1 (k + 1) y0 y1 y2 y3 y4 y5 y6 y7 y8 y9 y10 y11 y12 y13 y14 y15 y16 y17 y18 y19 y20 y21 y22 y23 y24 y25 y26 y27 y28 y29 y30 y31 y32 y33)) ∧ (∀ y0 y1 y2 y3 y4 y5 y6 y7 y8 y9 y10 y11 y12 y13 y14 y15 y16 y17 y18 y19 y20 y21 y22 y23 y24 y25 y26 y27 y28 y29 y30 y31 y32 y33, LeO (watchwordlaw20_GraphLess.l0 k y0 y1 y2 y3 y4 y5 y6 y7 y8 y9 y10 y11 y12 y13 y14 y15 y16 y17 y18 y19 y20 y21 y22 y23 y24 y25 y26 y27 y28 y29 y30 y31 y32 y33) (watchwordlaw20_GraphLess.l0 (k + 1) y0 y1 y2 y3 y4 y5 y6 y7 y8 y9 y10 y11 y12 y13 y14 y15 y16 y17 y18 y19 y20 y21 y22 y23 y24 y25 y26 y27 y28 y29 y30 y31 y32 y33)) ∧ (∀ y0 y1 y2 y3 y4 y5 y6 y7 y8 y9 y10 y11 y12 y13 y14 y15 y16 y17 y18 y19 y20 y21 y22 y23 y24 y25 y26 y27 y28 y29 y30 y31 y32 y33 y34, LeO (watchwordlaw20_GraphLess.l1 k y0 y1 y2 y3 y4 y5 y6 y7 y8 y9 y10 y11 y12 y13 y14 y15 y16 y17 y18 y19 y20 y21 y22 y23 y24 y25 y26 y27 y28 y29 y30 y31 y32 y33 y34) (watchwordlaw20_GraphLess.l1 (k + 1) y0 y1 y2 y3 y4 y5 y6 y7 y8 y9 y10 y11 y12 y13 y14 y15 y16 y17 y18 y19 y20 y21 y22 y23 y24 y25 y26 y27 y28 y29 y30 y31 y32 y33 y34)) ∧ (∀ y0 y1 y2 y3 y4 y5 y6 y7 y8 y9 y10 y11 y12 y13 y14 y15 y16 y17 y18 y19 y20 y21 y22 y23 y24 y25 y26 y27 y28 y29 y30 y31 y32 y33 y34 y35 y36, LeO (watchwordlaw20_GraphLess.j4 k y0 y1 y2 y3 y4 y5 y6 y7 y8 y9 y10 y11 y12 y13 y14 y15 y16 y17 y18 y19 y20 y21 y22 y23 y24 y25 y26 y27 y28 y29 y30 y31 y32 y33 y34 y35 y36) (watchwordlaw20_GraphLess.j4 (k + 1) y0 y1 y2 y3 y4 y5 y6 y7 y8 y9 y10 y11 y12 y13 y14 y15 y16 y17 y18 y19 y20 y21 y22 y23 y24 y25 y26 y27 y28 y29 y30 y31 y32 y33 y34 y35 y36))
 | 0 => ⟨fun _ _ _ r h => by simp [watchwordlaw20_GraphLess.j0] at h, fun _ _ _ _ _ _ _ _ _ _ _ _ _ _ _ _ _ _ _ _ _ _ _ _ _ _ _ _ _ _ _ _ _ _ r h => by simp [watchwordlaw20_GraphLess.j1] at h, fun _ _ _ _ _ _ _ _ _ _ _ _ _ _ _ _ _ _ _ _ _ _ _ _ _ _ _ _ _ _ _ _ _ _ r h => by simp [watchwordlaw20_GraphLess.l0] at h, fun _ _ _ _ _ _ _ _ _ _ _ _ _ _ _ _ _ _ _ _ _ _ _ _ _ _ _ _ _ _ _ _ _ _ _ r h => by simp [watchwordlaw20_GraphLess.l1] at h, fun _ _ _ _ _ _ _ _ _ _ _ _ _ _ _ _ _ _ _ _ _ _ _ _ _ _ _ _ _ _ _ _ _ _ _ _ _ r h => by simp [watchwordlaw20_GraphLess.j4] at h⟩
 | k + 1 => by
  obtain ⟨ih0, ih1, ih2, ih3, ih4⟩ := watchwordlaw20_GraphLess.mono_l k
  refine ⟨?_, ?_, ?_, ?_, ?_⟩
  ·intro y0 y1 y2
   unfold watchwordlaw20_GraphLess.j0
   repeat' first
   | (with_reducible exact ih0 _ _ _)
   | (with_reducible exact ih1 _ _ _ _ _ _ _ _ _ _ _ _ _ _ _ _ _ _ _ _ _ _ _ _ _ _ _ _ _ _ _ _ _ _)
   | (with_reducible exact ih2 _ _ _ _ _ _ _ _ _ _ _ _ _ _ _ _ _ _ _ _ _ _ _ _ _ _ _ _ _ _ _ _ _ _)
   | (with_reducible exact ih3 _ _ _ _ _ _ _ _ _ _ _ _ _ _ _ _ _ _ _ _ _ _ _ _ _ _ _ _ _ _ _ _ _ _ _)
   | (with_reducible exact ih4 _ _ _ _ _ _ _ _ _ _ _ _ _ _ _ _ _ _ _ _ _ _ _ _ _ _ _ _ _ _ _ _ _ _ _ _ _)
   | (with_reducible exact graph_Of.mono _ _)
   | (with_reducible exact watchwordlaw20_awake.mono _)
   | (with_reducible exact watchwordref18_StoreMay.mono _ _)
   | (with_reducible exact LeO.refl _)
   | (with_reducible exact LeO.none _)
   | (with_reducible refine LeO.ite ?_ ?_)
   | (with_reducible refine LeO.bind ?_ (fun _ => ?_))
   | exact ih0 _ _ _
   | exact ih1 _ _ _ _ _ _ _ _ _ _ _ _ _ _ _ _ _ _ _ _ _ _ _ _ _ _ _ _ _ _ _ _ _ _
   | exact ih2 _ _ _ _ _ _ _ _ _ _ _ _ _ _ _ _ _ _ _ _ _ _ _ _ _ _ _ _ _ _ _ _ _ _
   | exact ih3 _ _ _ _ _ _ _ _ _ _ _ _ _ _ _ _ _ _ _ _ _ _ _ _ _ _ _ _ _ _ _ _ _ _ _
   | exact ih4 _ _ _ _ _ _ _ _ _ _ _ _ _ _ _ _ _ _ _ _ _ _ _ _ _ _ _ _ _ _ _ _ _ _ _ _ _
   | exact graph_Of.mono _ _
   | exact watchwordlaw20_awake.mono _
   | exact watchwordref18_StoreMay.mono _ _
   | exact LeO.none _
   | refine LeO.ite ?_ ?_
   | refine LeO.bind ?_ (fun _ => ?_)
  ·intro y0 y1 y2 y3 y4 y5 y6 y7 y8 y9 y10 y11 y12 y13 y14 y15 y16 y17 y18 y19 y20 y21 y22 y23 y24 y25 y26 y27 y28 y29 y30 y31 y32 y33
   unfold watchwordlaw20_GraphLess.j1
   repeat' first
   | (with_reducible exact ih0 _ _ _)
   | (with_reducible exact ih1 _ _ _ _ _ _ _ _ _ _ _ _ _ _ _ _ _ _ _ _ _ _ _ _ _ _ _ _ _ _ _ _ _ _)
   | (with_reducible exact ih2 _ _ _ _ _ _ _ _ _ _ _ _ _ _ _ _ _ _ _ _ _ _ _ _ _ _ _ _ _ _ _ _ _ _)
   | (with_reducible exact ih3 _ _ _ _ _ _ _ _ _ _ _ _ _ _ _ _ _ _ _ _ _ _ _ _ _ _ _ _ _ _ _ _ _ _ _)
   | (with_reducible exact ih4 _ _ _ _ _ _ _ _ _ _ _ _ _ _ _ _ _ _ _ _ _ _ _ _ _ _ _ _ _ _ _ _ _ _ _ _ _)
   | (with_reducible exact graph_Of.mono _ _)
   | (with_reducible exact watchwordlaw20_awake.mono _)
   | (with_reducible exact watchwordref18_StoreMay.mono _ _)
   | (with_reducible exact LeO.refl _)
   | (with_reducible exact LeO.none _)
   | (with_reducible refine LeO.ite ?_ ?_)
   | (with_reducible refine LeO.bind ?_ (fun _ => ?_))
   | exact ih0 _ _ _
   | exact ih1 _ _ _ _ _ _ _ _ _ _ _ _ _ _ _ _ _ _ _ _ _ _ _ _ _ _ _ _ _ _ _ _ _ _
   | exact ih2 _ _ _ _ _ _ _ _ _ _ _ _ _ _ _ _ _ _ _ _ _ _ _ _ _ _ _ _ _ _ _ _ _ _
   | exact ih3 _ _ _ _ _ _ _ _ _ _ _ _ _ _ _ _ _ _ _ _ _ _ _ _ _ _ _ _ _ _ _ _ _ _ _
   | exact ih4 _ _ _ _ _ _ _ _ _ _ _ _ _ _ _ _ _ _ _ _ _ _ _ _ _ _ _ _ _ _ _ _ _ _ _ _ _
   | exact graph_Of.mono _ _
   | exact watchwordlaw20_awake.mono _
   | exact watchwordref18_StoreMay.mono _ _
   | exact LeO.none _
   | refine LeO.ite ?_ ?_
   | refine LeO.bind ?_ (fun _ => ?_)
  ·intro y0 y1 y2 y3 y4 y5 y6 y7 y8 y9 y10 y11 y12 y13 y14 y15 y16 y17 y18 y19 y20 y21 y22 y23 y24 y25 y26 y27 y28 y29 y30 y31 y32 y33
   unfold watchwordlaw20_GraphLess.l0
   repeat' first
   | (with_reducible exact ih0 _ _ _)
   | (with_reducible exact ih1 _ _ _ _ _ _ _ _ _ _ _ _ _ _ _ _ _ _ _ _ _ _ _ _ _ _ _ _ _ _ _ _ _ _)
   | (with_reducible exact ih2 _ _ _ _ _ _ _ _ _ _ _ _ _ _ _ _ _ _ _ _ _ _ _ _ _ _ _ _ _ _ _ _ _ _)
   | (with_reducible exact ih3 _ _ _ _ _ _ _ _ _ _ _ _ _ _ _ _ _ _ _ _ _ _ _ _ _ _ _ _ _ _ _ _ _ _ _)
   | (with_reducible exact ih4 _ _ _ _ _ _ _ _ _ _ _ _ _ _ _ _ _ _ _ _ _ _ _ _ _ _ _ _ _ _ _ _ _ _ _ _ _)
   | (with_reducible exact graph_Of.mono _ _)
   | (with_reducible exact watchwordlaw20_awake.mono _)
   | (with_reducible exact watchwordref18_StoreMay.mono _ _)
   | (with_reducible exact LeO.refl _)
   | (with_reducible exact LeO.none _)
   | (with_reducible refine LeO.ite ?_ ?_)
   | (with_reducible refine LeO.bind ?_ (fun _ => ?_))
   | exact ih0 _ _ _
   | exact ih1 _ _ _ _ _ _ _ _ _ _ _ _ _ _ _ _ _ _ _ _ _ _ _ _ _ _ _ _ _ _ _ _ _ _
   | exact ih2 _ _ _ _ _ _ _ _ _ _ _ _ _ _ _ _ _ _ _ _ _ _ _ _ _ _ _ _ _ _ _ _ _ _
   | exact ih3 _ _ _ _ _ _ _ _ _ _ _ _ _ _ _ _ _ _ _ _ _ _ _ _ _ _ _ _ _ _ _ _ _ _ _
   | exact ih4 _ _ _ _ _ _ _ _ _ _ _ _ _ _ _ _ _ _ _ _ _ _ _ _ _ _ _ _ _ _ _ _ _ _ _ _ _
   | exact graph_Of.mono _ _
   | exact watchwordlaw20_awake.mono _
   | exact watchwordref18_StoreMay.mono _ _
   | exact LeO.none _
   | refine LeO.ite ?_ ?_
   | refine LeO.bind ?_ (fun _ => ?_)
  ·intro y0 y1 y2 y3 y4 y5 y6 y7 y8 y9 y10 y11 y12 y13 y14 y15 y16 y17 y18 y19 y20 y21 y22 y23 y24 y25 y26 y27 y28 y29 y30 y31 y32 y33 y34
   unfold watchwordlaw20_GraphLess.l1
   repeat' first
   | (with_reducible exact ih0 _ _ _)
   | (with_reducible exact ih1 _ _ _ _ _ _ _ _ _ _ _ _ _ _ _ _ _ _ _ _ _ _ _ _ _ _ _ _ _ _ _ _ _ _)
   | (with_reducible exact ih2 _ _ _ _ _ _ _ _ _ _ _ _ _ _ _ _ _ _ _ _ _ _ _ _ _ _ _ _ _ _ _ _ _ _)
   | (with_reducible exact ih3 _ _ _ _ _ _ _ _ _ _ _ _ _ _ _ _ _ _ _ _ _ _ _ _ _ _ _ _ _ _ _ _ _ _ _)
   | (with_reducible exact ih4 _ _ _ _ _ _ _ _ _ _ _ _ _ _ _ _ _ _ _ _ _ _ _ _ _ _ _ _ _ _ _ _ _ _ _ _ _)
   | (with_reducible exact graph_Of.mono _ _)
   | (with_reducible exact watchwordlaw20_awake.mono _)
   | (with_reducible exact watchwordref18_StoreMay.mono _ _)
   | (with_reducible exact LeO.refl _)
   | (with_reducible exact LeO.none _)
   | (with_reducible refine LeO.ite ?_ ?_)
   | (with_reducible refine LeO.bind ?_ (fun _ => ?_))
   | exact ih0 _ _ _
   | exact ih1 _ _ _ _ _ _ _ _ _ _ _ _ _ _ _ _ _ _ _ _ _ _ _ _ _ _ _ _ _ _ _ _ _ _
   | exact ih2 _ _ _ _ _ _ _ _ _ _ _ _ _ _ _ _ _ _ _ _ _ _ _ _ _ _ _ _ _ _ _ _ _ _
   | exact ih3 _ _ _ _ _ _ _ _ _ _ _ _ _ _ _ _ _ _ _ _ _ _ _ _ _ _ _ _ _ _ _ _ _ _ _
   | exact ih4 _ _ _ _ _ _ _ _ _ _ _ _ _ _ _ _ _ _ _ _ _ _ _ _ _ _ _ _ _ _ _ _ _ _ _ _ _
   | exact graph_Of.mono _ _
   | exact watchwordlaw20_awake.mono _
   | exact watchwordref18_StoreMay.mono _ _
   | exact LeO.none _
   | refine LeO.ite ?_ ?_
   | refine LeO.bind ?_ (fun _ => ?_)
  ·intro y0 y1 y2 y3 y4 y5 y6 y7 y8 y9 y10 y11 y12 y13 y14 y15 y16 y17 y18 y19 y20 y21 y22 y23 y24 y25 y26 y27 y28 y29 y30 y31 y32 y33 y34 y35 y36
   unfold watchwordlaw20_GraphLess.j4
   repeat' first
   | (with_reducible exact ih0 _ _ _)
   | (with_reducible exact ih1 _ _ _ _ _ _ _ _ _ _ _ _ _ _ _ _ _ _ _ _ _ _ _ _ _ _ _ _ _ _ _ _ _ _)
   | (with_reducible exact ih2 _ _ _ _ _ _ _ _ _ _ _ _ _ _ _ _ _ _ _ _ _ _ _ _ _ _ _ _ _ _ _ _ _ _)
   | (with_reducible exact ih3 _ _ _ _ _ _ _ _ _ _ _ _ _ _ _ _ _ _ _ _ _ _ _ _ _ _ _ _ _ _ _ _ _ _ _)
   | (with_reducible exact ih4 _ _ _ _ _ _ _ _ _ _ _ _ _ _ _ _ _ _ _ _ _ _ _ _ _ _ _ _ _ _ _ _ _ _ _ _ _)
   | (with_reducible exact graph_Of.mono _ _)
   | (with_reducible exact watchwordlaw20_awake.mono _)
   | (with_reducible exact watchwordref18_StoreMay.mono _ _)
   | (with_reducible exact LeO.refl _)
   | (with_reducible exact LeO.none _)
   | (with_reducible refine LeO.ite ?_ ?_)
   | (with_reducible refine LeO.bind ?_ (fun _ => ?_))
   | exact ih0 _ _ _
   | exact ih1 _ _ _ _ _ _ _ _ _ _ _ _ _ _ _ _ _ _ _ _ _ _ _ _ _ _ _ _ _ _ _ _ _ _
   | exact ih2 _ _ _ _ _ _ _ _ _ _ _ _ _ _ _ _ _ _ _ _ _ _ _ _ _ _ _ _ _ _ _ _ _ _
   | exact ih3 _ _ _ _ _ _ _ _ _ _ _ _ _ _ _ _ _ _ _ _ _ _ _ _ _ _ _ _ _ _ _ _ _ _ _
   | exact ih4 _ _ _ _ _ _ _ _ _ _ _ _ _ _ _ _ _ _ _ _ _ _ _ _ _ _ _ _ _ _ _ _ _ _ _ _ _
   | exact graph_Of.mono _ _
   | exact watchwordlaw20_awake.mono _
   | exact watchwordref18_StoreMay.mono _ _
   | exact LeO.none _
   | refine LeO.ite ?_ ?_
   | refine LeO.bind ?_ (fun _ => ?_)
theorem watchwordlaw20_GraphLess.mono : ∀ a0 a1 k, LeO (watchwordlaw20_GraphLess.f k a0 a1) (watchwordlaw20_GraphLess.f (k + 1) a0 a1) := by
 intro a0 a1 k
 obtain ⟨ih0, ih1, ih2, ih3, ih4⟩ := watchwordlaw20_GraphLess.mono_l k
 unfold watchwordlaw20_GraphLess.f
 repeat' first
   | (with_reducible exact ih0 _ _ _)
   | (with_reducible exact ih1 _ _ _ _ _ _ _ _ _ _ _ _ _ _ _ _ _ _ _ _ _ _ _ _ _ _ _ _ _ _ _ _ _ _)
   | (with_reducible exact ih2 _ _ _ _ _ _ _ _ _ _ _ _ _ _ _ _ _ _ _ _ _ _ _ _ _ _ _ _ _ _ _ _ _ _)
   | (with_reducible exact ih3 _ _ _ _ _ _ _ _ _ _ _ _ _ _ _ _ _ _ _ _ _ _ _ _ _ _ _ _ _ _ _ _ _ _ _)
   | (with_reducible exact ih4 _ _ _ _ _ _ _ _ _ _ _ _ _ _ _ _ _ _ _ _ _ _ _ _ _ _ _ _ _ _ _ _ _ _ _ _ _)
   | (with_reducible exact graph_Of.mono _ _)
   | (with_reducible exact watchwordlaw20_awake.mono _)
   | (with_reducible exact watchwordref18_StoreMay.mono _ _)
   | (with_reducible exact LeO.refl _)
   | (with_reducible exact LeO.none _)
   | (with_reducible refine LeO.ite ?_ ?_)
   | (with_reducible refine LeO.bind ?_ (fun _ => ?_))
   | exact ih0 _ _ _
   | exact ih1 _ _ _ _ _ _ _ _ _ _ _ _ _ _ _ _ _ _ _ _ _ _ _ _ _ _ _ _ _ _ _ _ _ _
   | exact ih2 _ _ _ _ _ _ _ _ _ _ _ _ _ _ _ _ _ _ _ _ _ _ _ _ _ _ _ _ _ _ _ _ _ _
   | exact ih3 _ _ _ _ _ _ _ _ _ _ _ _ _ _ _ _ _ _ _ _ _ _ _ _ _ _ _ _ _ _ _ _ _ _ _
   | exact ih4 _ _ _ _ _ _ _ _ _ _ _ _ _ _ _ _ _ _ _ _ _ _ _ _ _ _ _ _ _ _ _ _ _ _ _ _ _
   | exact graph_Of.mono _ _
   | exact watchwordlaw20_awake.mono _
   | exact watchwordref18_StoreMay.mono _ _
   | exact LeO.none _
   | refine LeO.ite ?_ ?_
   | refine LeO.bind ?_ (fun _ => ?_)
set_option maxHeartbeats 8000000 in
set_option maxRecDepth 100000 in
theorem watchwordlaw20_GraphLess.calls (k : Nat) (A0 : Option Addr) (c0 : Nat) (l0 : List (S57)) (a1 : Int) (r : Bool) (w : World) (hr0 : Kd.C k57 w A0 l0.length l0) (hc0 : l0.length ≤ c0) (h : watchwordlaw20_GraphLess.f k l0 a1 = some r) (hT : r = true) :
  Calls Try.prog 12 #[.slice A0 l0.length c0, .int .i64 a1] w fun e w' => e = .returned (.bool r) ∧ Below w.heap.size w w' := by
 have hu23 := Try.underlying23
 have HR0 := Aside0.mk hr0
 have HC0 := Aside0.mk hc0
 clear hr0 hc0
 have HB := Aside0.mk (Below.refl w.heap.size w)
 have HT := Aside0.mk hT
 clear hT
 have H : ((watchwordlaw20_awake.f k).bind fun t203 => (if t203 = true then ((watchwordref18_StoreMay.f k l0).bind fun t204 => (if t204 = true then (watchwordlaw20_GraphLess.j0 k l0 a1 ((l0.length : Int) == 0)) else (watchwordlaw20_GraphLess.j0 k l0 a1 true))) else (some false))) = some r := h
 clear h
 replace H := Option.bind_eq_some_iff.mp H
 obtain ⟨t203, A30, H⟩ := H
 replace H : (if t203 = true then ((watchwordref18_StoreMay.f k l0).bind fun t204 => (if t204 = true then (watchwordlaw20_GraphLess.j0 k l0 a1 ((l0.length : Int) == 0)) else (watchwordlaw20_GraphLess.j0 k l0 a1 true))) else (some false)) = some r := H
 have A3 := Aside0.mk A30
 clear A30
 by_cases c4 : t203 = true
 ·subst c4
  have H1 : ((watchwordref18_StoreMay.f k l0).bind fun t204 => (if t204 = true then (watchwordlaw20_GraphLess.j0 k l0 a1 ((l0.length : Int) == 0)) else (watchwordlaw20_GraphLess.j0 k l0 a1 true))) = some r := by rw [if_pos rfl] at H; exact H
  clear H
  have H := H1
  clear H1
  have HC5 := Aside0.mk H
  clear H
  go_enter Try.func12, Try.ntmps12
  go_upto_region 3 with (first | ((with_reducible refine gate_callee (f := 25) rfl ?_); refine goesL_ (some 15) rfl rfl Try.func25 (by kernel_rfl) rfl #[] rfl (by (try simp only [List.map_toArray, List.map_cons, List.map_nil]); first | done | rfl | (simp only [List.length_drop, List.length_take]; rfl)) ?_; (with_reducible refine (watchwordlaw20_awake.calls k  true _ A3.out (by first | rfl | exact HT.out)).mono ?_); rintro e w6 ⟨rfl, hb⟩; refine ⟨_, rfl, ?_⟩; have n0_ := Aside0.mk (below_step (by repeat (first | (with_reducible first | exact HB.out | apply below_alloc | apply pw_below_drewN | apply below_drew1) | exact HB.out)) hb); clear HB; have HB := n0_; clear n0_; (try clear hb); (try clear hb2); (try clear hk); (try clear hi)))
  (try simp only [Act.put, List.setIfInBounds_toArray, List.set_cons_zero, List.set_cons_succ])
  go_cut [24] (fun v24 wc => ∃ (kq : Nat) (x24_4 : Bool), v24 = .bool x24_4 ∧ Aside0 (watchwordlaw20_GraphLess.j0 kq l0 a1 x24_4 = some r) ∧ Aside0 (kq ≤ k) ∧ Aside0 (Below w.heap.size w wc))
  case first =>
   have H := HC5.out
   clear HC5
   replace H := Option.bind_eq_some_iff.mp H
   obtain ⟨t204, A70, H⟩ := H
   replace H : (if t204 = true then (watchwordlaw20_GraphLess.j0 k l0 a1 ((l0.length : Int) == 0)) else (watchwordlaw20_GraphLess.j0 k l0 a1 true)) = some r := H
   have A7 := Aside0.mk A70
   clear A70
   by_cases c8 : t204 = true
   ·subst c8
    have H1 : (watchwordlaw20_GraphLess.j0 k l0 a1 ((l0.length : Int) == 0)) = some r := by rw [if_pos rfl] at H; exact H
    clear H
    have H := H1
    clear H1
    have H' := Aside0.mk H
    clear H
    go_wp2_with (first | ((with_reducible refine gate_callee (f := 26) rfl ?_); refine goesL_ (some 18) rfl rfl Try.func26 (by kernel_rfl) rfl #[.slice A0 l0.length c0] rfl (by (try simp only [List.map_toArray, List.map_cons, List.map_nil]); first | done | rfl | (simp only [List.length_drop, List.length_take]; rfl)) ?_; (with_reducible refine (watchwordref18_StoreMay.calls k _ _ l0 true _ ?side1 ?side2 A7.out).mono ?_); (case side1 => repeat (first | exact (Kd.C_below HR0.out HB.out) | (with_reducible refine Kd.C_alloc ?_ _) | (with_reducible refine Kd.C_drewN ?_ _) | (with_reducible refine Kd.C_drew ?_))); (case side2 => exact HC0.out); rintro e w9 ⟨rfl, hb⟩; refine ⟨_, rfl, ?_⟩; have n0_ := Aside0.mk (below_step (by repeat (first | (with_reducible first | exact HB.out | apply below_alloc | apply pw_below_drewN | apply below_drew1) | exact HB.out)) hb); clear HB; have HB := n0_; clear n0_; (try clear hb); (try clear hb2); (try clear hk); (try clear hi)))
    go_meet
    case rel => exact ⟨_, (((l0.length : Int) == 0)), (by first | rfl | (simp; done) | (simp [*]; done)), H', ⟨by first | omega | exact Nat.le_refl _⟩, ⟨by repeat (first | (with_reducible first | exact HB.out | apply below_alloc | apply pw_below_drewN | apply below_drew1) | exact HB.out)⟩⟩
   ·replace c8 := Bool.eq_false_iff.mpr c8
    subst c8
    have H1 : (watchwordlaw20_GraphLess.j0 k l0 a1 true) = some r := by rw [if_neg (show ¬ (false = true) by decide)] at H; exact H
    clear H
    have H := H1
    clear H1
    have H' := Aside0.mk H
    clear H
    go_wp2_with (first | ((with_reducible refine gate_callee (f := 26) rfl ?_); refine goesL_ (some 18) rfl rfl Try.func26 (by kernel_rfl) rfl #[.slice A0 l0.length c0] rfl (by (try simp only [List.map_toArray, List.map_cons, List.map_nil]); first | done | rfl | (simp only [List.length_drop, List.length_take]; rfl)) ?_; (with_reducible refine (watchwordref18_StoreMay.calls k _ _ l0 false _ ?side1 ?side2 A7.out).mono ?_); (case side1 => repeat (first | exact (Kd.C_below HR0.out HB.out) | (with_reducible refine Kd.C_alloc ?_ _) | (with_reducible refine Kd.C_drewN ?_ _) | (with_reducible refine Kd.C_drew ?_))); (case side2 => exact HC0.out); rintro e w10 ⟨rfl, hb⟩; refine ⟨_, rfl, ?_⟩; have n0_ := Aside0.mk (below_step (by repeat (first | (with_reducible first | exact HB.out | apply below_alloc | apply pw_below_drewN | apply below_drew1) | exact HB.out)) hb); clear HB; have HB := n0_; clear n0_; (try clear hb); (try clear hb2); (try clear hk); (try clear hi)))
    go_meet
    case rel => exact ⟨_, (true), (by first | rfl | (simp; done) | (simp [*]; done)), H', ⟨by first | omega | exact Nat.le_refl _⟩, ⟨by repeat (first | (with_reducible first | exact HB.out | apply below_alloc | apply pw_below_drewN | apply below_drew1) | exact HB.out)⟩⟩
  case rest =>
   clear HC5
   try clear c1
   try clear c2
   try clear p2
   try clear c4
   try clear c8
   obtain ⟨kq, x24_4, rfl, HA, HJ4, HB⟩ := hcut
   cases kq with
   | zero => exact absurd HA.out (by simp [watchwordlaw20_GraphLess.j0])
   | succ kj4 =>
    have H := HA.out
    clear HA
    simp only [watchwordlaw20_GraphLess.j0] at H
    by_cases c11 : x24_4 = true
    ·subst c11
     have H1 : (some true) = some r := by rw [if_pos rfl] at H; exact H
     clear H
     have H := H1
     clear H1
     obtain rfl := Option.some.inj H
     go_wp2
     go_ret
     exact ⟨by first | rfl | (simp [errW_none, errW_some] <;> rfl) | (simp [*, errW_none, errW_some] <;> rfl), by repeat (first | (with_reducible first | exact HB.out | apply below_alloc | apply pw_below_drewN | apply below_drew1) | exact HB.out)⟩
    ·replace c11 := Bool.eq_false_iff.mpr c11
     subst c11
     have H1 : (if (IntKind.u64.wrap ((l0.length : Int))) = 0 then (none) else (if 0 ≤ (wrap64 (Int.tmod (IntKind.u64.wrap (a1)) (IntKind.u64.wrap ((l0.length : Int))))) then (if (wrap64 (Int.tmod (IntKind.u64.wrap (a1)) (IntKind.u64.wrap ((l0.length : Int))))) < (l0.length : Int) then ((graph_Of.f kj4 l0).bind fun bt209 => ((if l0.length < 2932031007402 then graph_Of.f kj4 (lessOf l0 (wrap64 (Int.tmod (IntKind.u64.wrap (a1)) (IntKind.u64.wrap ((l0.length : Int)))))) else none).bind fun bt227 => ((watchwordlaw0_Num.f bt209.2.2.2.2.2.2.2.2.2.2.2.2.2.2.2.2).bind fun t245 => (if t245 = 0 then ((watchwordlaw0_Num.f bt227.2.2.2.2.2.2.2.2.2.2.2.2.2.2.2.2).bind fun t246 => (watchwordlaw20_GraphLess.j1 kj4 (wrap64 (((rd_T57 l0 (wrap64 (Int.tmod (IntKind.u64.wrap (a1)) (IntKind.u64.wrap ((l0.length : Int)))))).f0) - 1)) (t246 != 0) bt209.1 bt209.2.1 bt209.2.2.1 bt209.2.2.2.1 bt209.2.2.2.2.1 bt209.2.2.2.2.2.1 bt209.2.2.2.2.2.2.1 bt209.2.2.2.2.2.2.2.1 bt209.2.2.2.2.2.2.2.2.1 bt209.2.2.2.2.2.2.2.2.2.1 bt209.2.2.2.2.2.2.2.2.2.2.1 bt209.2.2.2.2.2.2.2.2.2.2.2.1 bt209.2.2.2.2.2.2.2.2.2.2.2.2.1 bt209.2.2.2.2.2.2.2.2.2.2.2.2.2.1 bt209.2.2.2.2.2.2.2.2.2.2.2.2.2.2.1 bt209.2.2.2.2.2.2.2.2.2.2.2.2.2.2.2.1 bt227.1 bt227.2.1 bt227.2.2.1 bt227.2.2.2.1 bt227.2.2.2.2.1 bt227.2.2.2.2.2.1 bt227.2.2.2.2.2.2.1 bt227.2.2.2.2.2.2.2.1 bt227.2.2.2.2.2.2.2.2.1 bt227.2.2.2.2.2.2.2.2.2.1 bt227.2.2.2.2.2.2.2.2.2.2.1 bt227.2.2.2.2.2.2.2.2.2.2.2.1 bt227.2.2.2.2.2.2.2.2.2.2.2.2.1 bt227.2.2.2.2.2.2.2.2.2.2.2.2.2.1 bt227.2.2.2.2.2.2.2.2.2.2.2.2.2.2.1 bt227.2.2.2.2.2.2.2.2.2.2.2.2.2.2.2.1)) else (watchwordlaw20_GraphLess.j1 kj4 (wrap64 (((rd_T57 l0 (wrap64 (Int.tmod (IntKind.u64.wrap (a1)) (IntKind.u64.wrap ((l0.length : Int)))))).f0) - 1)) true bt209.1 bt209.2.1 bt209.2.2.1 bt209.2.2.2.1 bt209.2.2.2.2.1 bt209.2.2.2.2.2.1 bt209.2.2.2.2.2.2.1 bt209.2.2.2.2.2.2.2.1 bt209.2.2.2.2.2.2.2.2.1 bt209.2.2.2.2.2.2.2.2.2.1 bt209.2.2.2.2.2.2.2.2.2.2.1 bt209.2.2.2.2.2.2.2.2.2.2.2.1 bt209.2.2.2.2.2.2.2.2.2.2.2.2.1 bt209.2.2.2.2.2.2.2.2.2.2.2.2.2.1 bt209.2.2.2.2.2.2.2.2.2.2.2.2.2.2.1 bt209.2.2.2.2.2.2.2.2.2.2.2.2.2.2.2.1 bt227.1 bt227.2.1 bt227.2.2.1 bt227.2.2.2.1 bt227.2.2.2.2.1 bt227.2.2.2.2.2.1 bt227.2.2.2.2.2.2.1 bt227.2.2.2.2.2.2.2.1 bt227.2.2.2.2.2.2.2.2.1 bt227.2.2.2.2.2.2.2.2.2.1 bt227.2.2.2.2.2.2.2.2.2.2.1 bt227.2.2.2.2.2.2.2.2.2.2.2.1 bt227.2.2.2.2.2.2.2.2.2.2.2.2.1 bt227.2.2.2.2.2.2.2.2.2.2.2.2.2.1 bt227.2.2.2.2.2.2.2.2.2.2.2.2.2.2.1 bt227.2.2.2.2.2.2.2.2.2.2.2.2.2.2.2.1))))) else (none)) else (none))) = some r := by rw [if_neg (show ¬ (false = true) by decide)] at H; exact H
     clear H
     have H := H1
     clear H1
     by_cases c12 : (IntKind.u64.wrap ((l0.length : Int))) = 0
     ·rw [if_pos c12] at H
      exact absurd H (by simp)
     ·rw [if_neg c12] at H
      have c12b0 : ((IntKind.u64.wrap ((l0.length : Int))) == 0) = false := beq_eq_false_iff_ne.mpr c12
      have c12b1 : ((IntKind.u64.wrap ((l0.length : Int))) != 0) = true := bne_iff_ne.mpr c12
      obtain ⟨ji13, hji13⟩ : ∃ j_ : Int, (wrap64 (Int.tmod (IntKind.u64.wrap (a1)) (IntKind.u64.wrap ((l0.length : Int))))) = j_ := ⟨_, rfl⟩
      replace H : (if 0 ≤ (ji13) then (if (ji13) < (l0.length : Int) then ((graph_Of.f kj4 l0).bind fun bt209 => ((if l0.length < 2932031007402 then graph_Of.f kj4 (lessOf l0 (ji13)) else none).bind fun bt227 => ((watchwordlaw0_Num.f bt209.2.2.2.2.2.2.2.2.2.2.2.2.2.2.2.2).bind fun t245 => (if t245 = 0 then ((watchwordlaw0_Num.f bt227.2.2.2.2.2.2.2.2.2.2.2.2.2.2.2.2).bind fun t246 => (watchwordlaw20_GraphLess.j1 kj4 (wrap64 (((rd_T57 l0 (ji13)).f0) - 1)) (t246 != 0) bt209.1 bt209.2.1 bt209.2.2.1 bt209.2.2.2.1 bt209.2.2.2.2.1 bt209.2.2.2.2.2.1 bt209.2.2.2.2.2.2.1 bt209.2.2.2.2.2.2.2.1 bt209.2.2.2.2.2.2.2.2.1 bt209.2.2.2.2.2.2.2.2.2.1 bt209.2.2.2.2.2.2.2.2.2.2.1 bt209.2.2.2.2.2.2.2.2.2.2.2.1 bt209.2.2.2.2.2.2.2.2.2.2.2.2.1 bt209.2.2.2.2.2.2.2.2.2.2.2.2.2.1 bt209.2.2.2.2.2.2.2.2.2.2.2.2.2.2.1 bt209.2.2.2.2.2.2.2.2.2.2.2.2.2.2.2.1 bt227.1 bt227.2.1 bt227.2.2.1 bt227.2.2.2.1 bt227.2.2.2.2.1 bt227.2.2.2.2.2.1 bt227.2.2.2.2.2.2.1 bt227.2.2.2.2.2.2.2.1 bt227.2.2.2.2.2.2.2.2.1 bt227.2.2.2.2.2.2.2.2.2.1 bt227.2.2.2.2.2.2.2.2.2.2.1 bt227.2.2.2.2.2.2.2.2.2.2.2.1 bt227.2.2.2.2.2.2.2.2.2.2.2.2.1 bt227.2.2.2.2.2.2.2.2.2.2.2.2.2.1 bt227.2.2.2.2.2.2.2.2.2.2.2.2.2.2.1 bt227.2.2.2.2.2.2.2.2.2.2.2.2.2.2.2.1)) else (watchwordlaw20_GraphLess.j1 kj4 (wrap64 (((rd_T57 l0 (ji13)).f0) - 1)) true bt209.1 bt209.2.1 bt209.2.2.1 bt209.2.2.2.1 bt209.2.2.2.2.1 bt209.2.2.2.2.2.1 bt209.2.2.2.2.2.2.1 bt209.2.2.2.2.2.2.2.1 bt209.2.2.2.2.2.2.2.2.1 bt209.2.2.2.2.2.2.2.2.2.1 bt209.2.2.2.2.2.2.2.2.2.2.1 bt209.2.2.2.2.2.2.2.2.2.2.2.1 bt209.2.2.2.2.2.2.2.2.2.2.2.2.1 bt209.2.2.2.2.2.2.2.2.2.2.2.2.2.1 bt209.2.2.2.2.2.2.2.2.2.2.2.2.2.2.1 bt209.2.2.2.2.2.2.2.2.2.2.2.2.2.2.2.1 bt227.1 bt227.2.1 bt227.2.2.1 bt227.2.2.2.1 bt227.2.2.2.2.1 bt227.2.2.2.2.2.1 bt227.2.2.2.2.2.2.1 bt227.2.2.2.2.2.2.2.1 bt227.2.2.2.2.2.2.2.2.1 bt227.2.2.2.2.2.2.2.2.2.1 bt227.2.2.2.2.2.2.2.2.2.2.1 bt227.2.2.2.2.2.2.2.2.2.2.2.1 bt227.2.2.2.2.2.2.2.2.2.2.2.2.1 bt227.2.2.2.2.2.2.2.2.2.2.2.2.2.1 bt227.2.2.2.2.2.2.2.2.2.2.2.2.2.2.1 bt227.2.2.2.2.2.2.2.2.2.2.2.2.2.2.2.1))))) else (none)) else (none)) = some r := by first | (rw [hji13] at H; exact H) | (simp only [hji13] at H ⊢; exact H)
      have hji13w : (IntKind.i64.wrap (Int.tmod (IntKind.u64.wrap (a1)) (IntKind.u64.wrap ((l0.length : Int))))) = ji13 := (i64_w _).trans hji13
      by_cases c14 : 0 ≤ (ji13)
      ·rw [if_pos c14] at H
       have c14b0 : decide (0 ≤ (ji13)) = true := decide_eq_true c14
       clear c14
       by_cases c15 : (ji13) < (l0.length : Int)
       ·rw [if_pos c15] at H
        have c15b0 : decide ((ji13) < (l0.length : Int)) = true := decide_eq_true c15
        clear c15
        obtain ⟨y206, hy206⟩ : ∃ y_ : List (S57), y_ = (([] : List (S57))) := ⟨_, rfl⟩
        replace H : ((graph_Of.f kj4 l0).bind fun bt209 => ((if l0.length < 2932031007402 then graph_Of.f kj4 (lessOf l0 (ji13)) else none).bind fun bt227 => ((watchwordlaw0_Num.f bt209.2.2.2.2.2.2.2.2.2.2.2.2.2.2.2.2).bind fun t245 => (if t245 = 0 then ((watchwordlaw0_Num.f bt227.2.2.2.2.2.2.2.2.2.2.2.2.2.2.2.2).bind fun t246 => (watchwordlaw20_GraphLess.j1 kj4 (wrap64 (((rd_T57 l0 (ji13)).f0) - 1)) (t246 != 0) bt209.1 bt209.2.1 bt209.2.2.1 bt209.2.2.2.1 bt209.2.2.2.2.1 bt209.2.2.2.2.2.1 bt209.2.2.2.2.2.2.1 bt209.2.2.2.2.2.2.2.1 bt209.2.2.2.2.2.2.2.2.1 bt209.2.2.2.2.2.2.2.2.2.1 bt209.2.2.2.2.2.2.2.2.2.2.1 bt209.2.2.2.2.2.2.2.2.2.2.2.1 bt209.2.2.2.2.2.2.2.2.2.2.2.2.1 bt209.2.2.2.2.2.2.2.2.2.2.2.2.2.1 bt209.2.2.2.2.2.2.2.2.2.2.2.2.2.2.1 bt209.2.2.2.2.2.2.2.2.2.2.2.2.2.2.2.1 bt227.1 bt227.2.1 bt227.2.2.1 bt227.2.2.2.1 bt227.2.2.2.2.1 bt227.2.2.2.2.2.1 bt227.2.2.2.2.2.2.1 bt227.2.2.2.2.2.2.2.1 bt227.2.2.2.2.2.2.2.2.1 bt227.2.2.2.2.2.2.2.2.2.1 bt227.2.2.2.2.2.2.2.2.2.2.1 bt227.2.2.2.2.2.2.2.2.2.2.2.1 bt227.2.2.2.2.2.2.2.2.2.2.2.2.1 bt227.2.2.2.2.2.2.2.2.2.2.2.2.2.1 bt227.2.2.2.2.2.2.2.2.2.2.2.2.2.2.1 bt227.2.2.2.2.2.2.2.2.2.2.2.2.2.2.2.1)) else (watchwordlaw20_GraphLess.j1 kj4 (wrap64 (((rd_T57 l0 (ji13)).f0) - 1)) true bt209.1 bt209.2.1 bt209.2.2.1 bt209.2.2.2.1 bt209.2.2.2.2.1 bt209.2.2.2.2.2.1 bt209.2.2.2.2.2.2.1 bt209.2.2.2.2.2.2.2.1 bt209.2.2.2.2.2.2.2.2.1 bt209.2.2.2.2.2.2.2.2.2.1 bt209.2.2.2.2.2.2.2.2.2.2.1 bt209.2.2.2.2.2.2.2.2.2.2.2.1 bt209.2.2.2.2.2.2.2.2.2.2.2.2.1 bt209.2.2.2.2.2.2.2.2.2.2.2.2.2.1 bt209.2.2.2.2.2.2.2.2.2.2.2.2.2.2.1 bt209.2.2.2.2.2.2.2.2.2.2.2.2.2.2.2.1 bt227.1 bt227.2.1 bt227.2.2.1 bt227.2.2.2.1 bt227.2.2.2.2.1 bt227.2.2.2.2.2.1 bt227.2.2.2.2.2.2.1 bt227.2.2.2.2.2.2.2.1 bt227.2.2.2.2.2.2.2.2.1 bt227.2.2.2.2.2.2.2.2.2.1 bt227.2.2.2.2.2.2.2.2.2.2.1 bt227.2.2.2.2.2.2.2.2.2.2.2.1 bt227.2.2.2.2.2.2.2.2.2.2.2.2.1 bt227.2.2.2.2.2.2.2.2.2.2.2.2.2.1 bt227.2.2.2.2.2.2.2.2.2.2.2.2.2.2.1 bt227.2.2.2.2.2.2.2.2.2.2.2.2.2.2.2.1))))) = some r := by first | (rw [hy206]; with_reducible exact H) | (have H2_ := (Option.bind_some _ _).symm.trans H; rw [hy206]; with_reducible exact H2_) | (have H2_ := (Option.bind_some _ _).symm.trans H; with_reducible exact H2_) | with_reducible exact H | (rw [hy206]; exact H) | exact H
        have Ny206 := Aside0.mk hy206
        clear hy206
        replace H := Option.bind_eq_some_iff.mp H
        obtain ⟨⟨t209, t210, t211, t212, t213, t214, t215, t216, t217, t218, t219, t220, t221, t222, t223, t224, t225⟩, A160, H⟩ := H
        replace H : ((if l0.length < 2932031007402 then graph_Of.f kj4 (lessOf l0 (ji13)) else none).bind fun bt227 => ((watchwordlaw0_Num.f t225).bind fun t245 => (if t245 = 0 then ((watchwordlaw0_Num.f bt227.2.2.2.2.2.2.2.2.2.2.2.2.2.2.2.2).bind fun t246 => (watchwordlaw20_GraphLess.j1 kj4 (wrap64 (((rd_T57 l0 (ji13)).f0) - 1)) (t246 != 0) t209 t210 t211 t212 t213 t214 t215 t216 t217 t218 t219 t220 t221 t222 t223 t224 bt227.1 bt227.2.1 bt227.2.2.1 bt227.2.2.2.1 bt227.2.2.2.2.1 bt227.2.2.2.2.2.1 bt227.2.2.2.2.2.2.1 bt227.2.2.2.2.2.2.2.1 bt227.2.2.2.2.2.2.2.2.1 bt227.2.2.2.2.2.2.2.2.2.1 bt227.2.2.2.2.2.2.2.2.2.2.1 bt227.2.2.2.2.2.2.2.2.2.2.2.1 bt227.2.2.2.2.2.2.2.2.2.2.2.2.1 bt227.2.2.2.2.2.2.2.2.2.2.2.2.2.1 bt227.2.2.2.2.2.2.2.2.2.2.2.2.2.2.1 bt227.2.2.2.2.2.2.2.2.2.2.2.2.2.2.2.1)) else (watchwordlaw20_GraphLess.j1 kj4 (wrap64 (((rd_T57 l0 (ji13)).f0) - 1)) true t209 t210 t211 t212 t213 t214 t215 t216 t217 t218 t219 t220 t221 t222 t223 t224 bt227.1 bt227.2.1 bt227.2.2.1 bt227.2.2.2.1 bt227.2.2.2.2.1 bt227.2.2.2.2.2.1 bt227.2.2.2.2.2.2.1 bt227.2.2.2.2.2.2.2.1 bt227.2.2.2.2.2.2.2.2.1 bt227.2.2.2.2.2.2.2.2.2.1 bt227.2.2.2.2.2.2.2.2.2.2.1 bt227.2.2.2.2.2.2.2.2.2.2.2.1 bt227.2.2.2.2.2.2.2.2.2.2.2.2.1 bt227.2.2.2.2.2.2.2.2.2.2.2.2.2.1 bt227.2.2.2.2.2.2.2.2.2.2.2.2.2.2.1 bt227.2.2.2.2.2.2.2.2.2.2.2.2.2.2.2.1)))) = some r := H
        have A16 := Aside0.mk A160
        clear A160
        replace H := Option.bind_eq_some_iff.mp H
        obtain ⟨⟨t227, t228, t229, t230, t231, t232, t233, t234, t235, t236, t237, t238, t239, t240, t241, t242, t243⟩, A170, H⟩ := H
        have hLm : l0.length < 2932031007402 := by
         by_cases c_ : l0.length < 2932031007402
         · exact c_
         · rw [if_neg c_] at A170; cases A170
        rw [if_pos hLm] at A170
        have HLm := Aside0.mk hLm
        clear hLm
        replace H : ((watchwordlaw0_Num.f t225).bind fun t245 => (if t245 = 0 then ((watchwordlaw0_Num.f t243).bind fun t246 => (watchwordlaw20_GraphLess.j1 kj4 (wrap64 (((rd_T57 l0 (ji13)).f0) - 1)) (t246 != 0) t209 t210 t211 t212 t213 t214 t215 t216 t217 t218 t219 t220 t221 t222 t223 t224 t227 t228 t229 t230 t231 t232 t233 t234 t235 t236 t237 t238 t239 t240 t241 t242)) else (watchwordlaw20_GraphLess.j1 kj4 (wrap64 (((rd_T57 l0 (ji13)).f0) - 1)) true t209 t210 t211 t212 t213 t214 t215 t216 t217 t218 t219 t220 t221 t222 t223 t224 t227 t228 t229 t230 t231 t232 t233 t234 t235 t236 t237 t238 t239 t240 t241 t242))) = some r := H
        have A17 := Aside0.mk A170
        clear A170
        have HC18 := Aside0.mk H
        clear H
        have p205 : 0 ≤ ((ji13) : Int) := of_decide_eq_true (by first | (with_reducible assumption) | assumption)
        have q205 : (ji13) < (l0.length : Int) := of_decide_eq_true (by first | (with_reducible assumption) | assumption)
        obtain ⟨ad205, A205_3, c205_3, e205, hx205_0, hx205_1, hx205_2, hx205_3, hl205_3, hi205_3⟩ := at_T57 HR0.out (ji13) p205 q205
        cases e205
        replace hx205_0 := (HB.out.cell (World.block_lt_of_cell? w _ hx205_0)).trans hx205_0
        replace hx205_1 := (HB.out.cell (World.block_lt_of_cell? w _ hx205_1)).trans hx205_1
        replace hx205_2 := (HB.out.cell (World.block_lt_of_cell? w _ hx205_2)).trans hx205_2
        replace hx205_3 := (HB.out.cell (World.block_lt_of_cell? w _ hx205_3)).trans hx205_3
        have HR205_3 := Aside0.mk hi205_3
        have HC205_3 := Aside0.mk hl205_3
        clear hi205_3 hl205_3
        replace p205 := eq_true p205
        replace q205 := eq_true q205
        have hLm := HLm.out
        have h0_ : 0 ≤ ji13 := of_eq_true p205
        have h1_ : ji13 < (l0.length : Int) := of_eq_true q205
        obtain ⟨i57_, hi57_, hs57_⟩ : ∃ i0, Try.prog.info? 57 = some i0 ∧ i0.size = 4 := by
         have h := info57
         cases hq : Try.prog.info? 57 with
         | none => rw [hq] at h; cases h
         | some i0 => rw [hq] at h; simp only [Option.map_some, Option.some.injEq, Prod.mk.injEq] at h; exact ⟨i0, rfl, h.2.1⟩
        have hcut1_ := cut_to (P := Try.prog) 48 57 .i64 Try.underlying48 hi57_ (some ad205) l0.length c0 ji13 h0_ (by omega) HC0.out
        have hcut2_ := cut_from (P := Try.prog) 48 57 .i64 Try.underlying48 hi57_ 4 hs57_ (some ad205) l0.length c0 (ji13 + 1) (by omega) (by omega)
        have hlen_ : l0.length ≤ 9223372036854775807 := HR0.out.2.1
        have hw1_ : IntKind.i64.wrap (ji13 + 1) = ji13 + 1 := by rw [IntKind.wrap_i64]; omega
        have hw2_ : wrap64 (ji13 + 1) = ji13 + 1 := by unfold wrap64; omega
        have HF_ := Kd.C_F k57_heap HR0.out
        have HF1_ := Kd.F_take (m := ji13.toNat) HF_ (by omega)
        have HF2_ := Kd.F_cut (m := (ji13 + 1).toNat) (c := c0) HF_ (by omega) HC0.out
        rw [show (l0.take ji13.toNat).length = ji13.toNat by rw [List.length_take]; omega] at HF1_
        rw [show (l0.drop (ji13 + 1).toNat).length = l0.length - (ji13 + 1).toNat by rw [List.length_drop]] at HF2_
        obtain ⟨Ax_, hAx_⟩ : ∃ Ax_ : Option Addr, Ax_ = (if c0 = (ji13 + 1).toNat then some ad205 else (some ad205 : Option Addr).map (·.add ((ji13 + 1).toNat * 4))) := ⟨_, rfl⟩
        rw [← hAx_] at hcut2_
        replace HF2_ : Kd.F k57 w (fun k => k < w.heap.size) Ax_ (l0.length - (ji13 + 1).toNat) (l0.drop (ji13 + 1).toNat) := by rw [hAx_]; exact HF2_
        clear hAx_
        have HF1 := Aside0.mk HF1_
        have HF2 := Aside0.mk HF2_
        clear HF_ HF1_ HF2_
        have he_ : ([] ++ l0.take ji13.toNat) ++ l0.drop (ji13 + 1).toNat = lessOf l0 ji13 := by unfold lessOf; rw [List.nil_append, show (ji13 + 1).toNat = ji13.toNat + 1 by omega]
        have hm1_ : (([] : List (S57)).length + ji13.toNat) * 48 ≤ 140737488355328 := by simp only [List.length_nil]; omega
        have hm2_ : (([] ++ l0.take ji13.toNat : List (S57)).length + (l0.length - (ji13 + 1).toNat)) * 48 ≤ 140737488355328 := by rw [List.nil_append, List.length_take]; omega
        have HE := Aside0.mk he_
        have HM1 := Aside0.mk hm1_
        have HM2 := Aside0.mk hm2_
        clear he_ hm1_ hm2_ hLm hlen_
        go_upto_region 11 with (first | ((with_reducible refine gate_dst (N := 38) rfl ?_); refine Kd.N_lit k57 _ 57 ?hg (N' := 38) ?hd (xs := ([] : List (S57))) (inner := []) (ok := fun _ => True) (okp := fun _ => True) ?hr ?hp (fun _ hk => hk) trivial (Below.refl _ _) (Nat.le_refl _) (by simp) ?_; (case hd => rfl); (case hg => rfl); (case hr => first | (go_simp; done) | (go_simp; rfl)); (case hp => exact (Reps.none _ _)); intro vL_ wL_ hoL_ hbL_ hg_ hnew_; clear hg_ hnew_; have HOL := Aside0.mk (Kd.N_lower hoL_ (below_size HB.out)); have n1_ := Aside0.mk (below_step HB.out hbL_); clear HB hoL_ hbL_; have HB := n1_; clear n1_) | ((with_reducible refine gate_builtin (b := .append) (xs := #[.tmp 38, .tmp 41]) rfl ?_); at_builtin; refine Kd.N_append_rows k57 (w0 := w) w.heap.size rfl (.tmp 38) (.tmp 41) 48 57 (.agg #[.int .i64 0, .int .i64 0, .int .i64 0, .slice none 0 0]) 48 rfl Try.underlying48 info57 rfl (by decide) (by decide) vL_ ([] : List (S57)) (l0.take ji13.toNat) (some ad205) _ _ (fun _ => True) (fun k_ => k_ < w.heap.size ∧ some k_ ≠ (vL_ : Value).ownBlock) rfl rfl HOL.out ?aR (fun _ hk => ⟨trivial, hk.2⟩) (fun _ _ => trivial) HB.out (below_size HB.out) HM1.out ?_; (case aR => exact Kd.F_mono (Kd.F_below HF1.out HB.out) (fun k_ hk_ => ⟨hk_, fun e_ => by have := Kd.N_base HOL.out k_ e_.symm; omega⟩)); intro vM_ wM_ hoM_ hbM_ hg_ hat_; clear HOL HB hg_ hat_; have HOL := Aside0.mk hoM_; have HB := Aside0.mk hbM_; clear hoM_ hbM_) | ((with_reducible refine gate_builtin (b := .append) (xs := #[.tmp 43, .tmp 47]) rfl ?_); at_builtin; refine Kd.N_append_rows k57 (w0 := w) w.heap.size rfl (.tmp 43) (.tmp 47) 48 57 (.agg #[.int .i64 0, .int .i64 0, .int .i64 0, .slice none 0 0]) 48 rfl Try.underlying48 info57 rfl (by decide) (by decide) vM_ ([] ++ l0.take ji13.toNat) (l0.drop (ji13 + 1).toNat) Ax_ _ _ (fun _ => True) (fun k_ => k_ < w.heap.size ∧ some k_ ≠ (vM_ : Value).ownBlock) rfl rfl HOL.out ?aR (fun _ hk => ⟨trivial, hk.2⟩) (fun _ _ => trivial) HB.out (below_size HB.out) HM2.out ?_; (case aR => exact Kd.F_mono (Kd.F_below HF2.out HB.out) (fun k_ hk_ => ⟨hk_, fun e_ => by have := Kd.N_base HOL.out k_ e_.symm; omega⟩)); intro vN_ wN_ hoN_ hbN_ hg_ hat_; rw [HE.out] at hoN_; clear HOL HB hg_ hat_; obtain ⟨Al_, cl_, el_⟩ := Kd.N_slice hoN_; subst el_; have HOL := Aside0.mk hoN_; have HB := Aside0.mk hbN_; clear hoN_ hbN_; obtain ⟨v207, hv207_⟩ : ∃ v_ : Value, v_ = .slice none 0 0 := ⟨_, rfl⟩; have HO208 : Aside0 (Kd.S k57 57 wN_ w.heap.size (fun _ => True) v207 y206) := ⟨by rw [hv207_, Ny206.out]; exact Kd.S_nil _ _ _ _ _⟩; clear hv207_) | ((with_reducible refine gate_callee (f := 21) rfl ?_); refine goesL_ (some 51) rfl rfl Try.func21 (by kernel_rfl) rfl #[.slice (some ad205) l0.length c0] rfl (by (try simp only [List.map_toArray, List.map_cons, List.map_nil]); first | done | rfl | (simp only [List.length_drop, List.length_take]; rfl)) ?_; (with_reducible refine (graph_Of.calls kj4 _ _ l0 t209 t210 t211 t212 t213 t214 t215 t216 t217 t218 t219 t220 t221 t222 t223 t224 t225 _ ?side1 ?side2 A16.out).mono ?_); (case side1 => repeat (first | exact (Kd.C_below HR0.out HB.out) | (with_reducible refine Kd.C_alloc ?_ _) | (with_reducible refine Kd.C_drewN ?_ _) | (with_reducible refine Kd.C_drew ?_))); (case side2 => exact HC0.out); rintro e w21 ⟨rfl, hb⟩; refine ⟨_, rfl, ?_⟩; have nL_ := Aside0.mk (Kd.N_below HOL.out hb); clear HOL; have HOL := nL_; clear nL_; have n0_ := Aside0.mk (Kd.S_below (by (with_reducible repeat (first | apply Kd.S_alloc | apply Kd.S_drewN | apply Kd.S_drew)); exact HO208.out) hb); have n1_ := Aside0.mk (below_step (by repeat (first | (with_reducible first | exact HB.out | apply below_alloc | apply pw_below_drewN | apply below_drew1) | exact HB.out)) hb); clear HO208; clear HB; have HO208 := n0_; have HB := n1_; clear n0_ n1_; (try clear hb); (try clear hb2); (try clear hk); (try clear hi)) | ((with_reducible refine gate_dst (N := 8) rfl ?_); (try (refine gate_guard (by rfl) ?_; dsimp only)); refine box_event ?hg (N := 8) ?hd (cs := #[.int .i64 0, .int .i64 0, .int .i64 0, .int .i64 0, .int .i64 0, .int .i64 0, .int .i64 0, .int .i64 0, .int .i64 0, .int .i64 0, .int .i64 0, .int .i64 0, .int .i64 0, .int .i64 0, .int .i64 0, .int .i64 0]) (t := 23) ?hr ?_; (case hd => rfl); (case hg => rfl); (case hr => first | (go_simp; done) | (go_simp; rfl)); intro gb226 hg w22 hbox hb; have nL_ := Aside0.mk (Kd.N_below (Kd.N_elderB HOL.out gb226 (Nat.le_of_eq hg.symm)) hb); clear HOL; have HOL := nL_; clear nL_; have n0_ := Aside0.mk (Kd.S_below (by (with_reducible repeat (first | apply Kd.S_alloc | apply Kd.S_drewN | apply Kd.S_drew)); exact HO208.out) hb); have n1_ := Aside0.mk (below_step (by repeat (first | (with_reducible first | exact HB.out | apply below_alloc | apply pw_below_drewN | apply below_drew1) | exact HB.out)) hb); have n2_ := Aside0.mk (hbox); have n3_ := Aside0.mk ((by rw [hg]; exact (below_size (by repeat (first | (with_reducible first | exact HB.out | apply below_alloc | apply pw_below_drewN | apply below_drew1) | exact HB.out))) : w.heap.size ≤ gb226)); have n4_ := Aside0.mk ((by rw [hg]; exact (below_size (by repeat (first | (with_reducible first | exact HB.out | apply below_alloc | apply pw_below_drewN | apply below_drew1) | exact HB.out))) : w.heap.size ≤ gb226)); clear HO208; clear HB; have HO208 := n0_; have HB := n1_; have BK226 := n2_; have GW226 := n3_; have GE226 := n4_; clear n0_ n1_ n2_ n3_ n4_; clear hb hbox hg; obtain ⟨hcz23_0, hcz23_1, hcz23_2, hcz23_3, hcz23_4, hcz23_5, hcz23_6, hcz23_7, hcz23_8, hcz23_9, hcz23_10, hcz23_11, hcz23_12, hcz23_13, hcz23_14, hcz23_15⟩ := cells16 BK226.out; have hfz23_0 := fun (j_ : Nat) => blk_frozen BK226.out j_) | ((with_reducible refine gate_store (t := 23) (p := 8) rfl ?_); refine store_event (t := 23) (p := 8) (v := ?vo_w24) (w1 := ((((((((((((((((w22.setCell ⟨gb226, 0, none⟩ (.int .i64 t209)).setCell ⟨gb226, 1, none⟩ (.int .i64 t210)).setCell ⟨gb226, 2, none⟩ (.int .i64 t211)).setCell ⟨gb226, 3, none⟩ (.int .i64 t212)).setCell ⟨gb226, 4, none⟩ (.int .i64 t213)).setCell ⟨gb226, 5, none⟩ (.int .i64 t214)).setCell ⟨gb226, 6, none⟩ (.int .i64 t215)).setCell ⟨gb226, 7, none⟩ (.int .i64 t216)).setCell ⟨gb226, 8, none⟩ (.int .i64 t217)).setCell ⟨gb226, 9, none⟩ (.int .i64 t218)).setCell ⟨gb226, 10, none⟩ (.int .i64 t219)).setCell ⟨gb226, 11, none⟩ (.int .i64 t220)).setCell ⟨gb226, 12, none⟩ (.int .i64 t221)).setCell ⟨gb226, 13, none⟩ (.int .i64 t222)).setCell ⟨gb226, 14, none⟩ (.int .i64 t223)).setCell ⟨gb226, 15, none⟩ (.int .i64 t224))) ?hg ?ho ?hn ?hr ?_; (case ho => rfl); (case hg => rfl); (case hn => rfl); (case hr => first | (go_simp; done) | (go_simp; rfl)); intro w24 hw; have nL_ : Aside0 (Kd.N k57 57 w24 w.heap.size (fun k_ => True ∧ k_ ≠ gb226) (.slice Al_ (lessOf l0 (ji13)).length cl_) (lessOf l0 (ji13))) := ⟨Kd.N_step HOL.out (fun k_ hk_ _ => by rw [hw]; simp only [setCells_other hk_.2])⟩; clear HOL; have HOL := nL_; clear nL_; have n0_ : Aside0 (Kd.S k57 57 w24 w.heap.size (fun _ => True) v207 y206) := ⟨(by rw [hw]; exact (by (with_reducible repeat (first | apply Kd.S_alloc | apply Kd.S_drewN | apply Kd.S_drew)); exact Kd.S_mono (Kd.S_far (p := ⟨gb226, 15, none⟩) (Kd.S_far (p := ⟨gb226, 14, none⟩) (Kd.S_far (p := ⟨gb226, 13, none⟩) (Kd.S_far (p := ⟨gb226, 12, none⟩) (Kd.S_far (p := ⟨gb226, 11, none⟩) (Kd.S_far (p := ⟨gb226, 10, none⟩) (Kd.S_far (p := ⟨gb226, 9, none⟩) (Kd.S_far (p := ⟨gb226, 8, none⟩) (Kd.S_far (p := ⟨gb226, 7, none⟩) (Kd.S_far (p := ⟨gb226, 6, none⟩) (Kd.S_far (p := ⟨gb226, 5, none⟩) (Kd.S_far (p := ⟨gb226, 4, none⟩) (Kd.S_far (p := ⟨gb226, 3, none⟩) (Kd.S_far (p := ⟨gb226, 2, none⟩) (Kd.S_far (p := ⟨gb226, 1, none⟩) (Kd.S_far (p := ⟨gb226, 0, none⟩) (Kd.S_types HO208.out BK226.out (by decide)) (fun _ hk => hk.2) (.int .i64 t209)) (fun _ hk => hk.2) (.int .i64 t210)) (fun _ hk => hk.2) (.int .i64 t211)) (fun _ hk => hk.2) (.int .i64 t212)) (fun _ hk => hk.2) (.int .i64 t213)) (fun _ hk => hk.2) (.int .i64 t214)) (fun _ hk => hk.2) (.int .i64 t215)) (fun _ hk => hk.2) (.int .i64 t216)) (fun _ hk => hk.2) (.int .i64 t217)) (fun _ hk => hk.2) (.int .i64 t218)) (fun _ hk => hk.2) (.int .i64 t219)) (fun _ hk => hk.2) (.int .i64 t220)) (fun _ hk => hk.2) (.int .i64 t221)) (fun _ hk => hk.2) (.int .i64 t222)) (fun _ hk => hk.2) (.int .i64 t223)) (fun _ hk => hk.2) (.int .i64 t224)) (fun _ hk => trivial)))⟩; have n1_ : Aside0 (w24.heap[gb226]? = some (.cells #[.int .i64 t209, .int .i64 t210, .int .i64 t211, .int .i64 t212, .int .i64 t213, .int .i64 t214, .int .i64 t215, .int .i64 t216, .int .i64 t217, .int .i64 t218, .int .i64 t219, .int .i64 t220, .int .i64 t221, .int .i64 t222, .int .i64 t223, .int .i64 t224] 23 (0, 0))) := ⟨(by rw [hw]; exact (by (with_reducible repeat (first | refine blk_drewN ?_ _ | refine blk_drew ?_ | refine blk_alloc ?_ _)); refine blk_put (cs := #[.int .i64 t209, .int .i64 t210, .int .i64 t211, .int .i64 t212, .int .i64 t213, .int .i64 t214, .int .i64 t215, .int .i64 t216, .int .i64 t217, .int .i64 t218, .int .i64 t219, .int .i64 t220, .int .i64 t221, .int .i64 t222, .int .i64 t223, .int .i64 0]) ?_ 15 _ rfl; (with_reducible repeat (first | refine blk_drewN ?_ _ | refine blk_drew ?_ | refine blk_alloc ?_ _)); refine blk_put (cs := #[.int .i64 t209, .int .i64 t210, .int .i64 t211, .int .i64 t212, .int .i64 t213, .int .i64 t214, .int .i64 t215, .int .i64 t216, .int .i64 t217, .int .i64 t218, .int .i64 t219, .int .i64 t220, .int .i64 t221, .int .i64 t222, .int .i64 0, .int .i64 0]) ?_ 14 _ rfl; (with_reducible repeat (first | refine blk_drewN ?_ _ | refine blk_drew ?_ | refine blk_alloc ?_ _)); refine blk_put (cs := #[.int .i64 t209, .int .i64 t210, .int .i64 t211, .int .i64 t212, .int .i64 t213, .int .i64 t214, .int .i64 t215, .int .i64 t216, .int .i64 t217, .int .i64 t218, .int .i64 t219, .int .i64 t220, .int .i64 t221, .int .i64 0, .int .i64 0, .int .i64 0]) ?_ 13 _ rfl; (with_reducible repeat (first | refine blk_drewN ?_ _ | refine blk_drew ?_ | refine blk_alloc ?_ _)); refine blk_put (cs := #[.int .i64 t209, .int .i64 t210, .int .i64 t211, .int .i64 t212, .int .i64 t213, .int .i64 t214, .int .i64 t215, .int .i64 t216, .int .i64 t217, .int .i64 t218, .int .i64 t219, .int .i64 t220, .int .i64 0, .int .i64 0, .int .i64 0, .int .i64 0]) ?_ 12 _ rfl; (with_reducible repeat (first | refine blk_drewN ?_ _ | refine blk_drew ?_ | refine blk_alloc ?_ _)); refine blk_put (cs := #[.int .i64 t209, .int .i64 t210, .int .i64 t211, .int .i64 t212, .int .i64 t213, .int .i64 t214, .int .i64 t215, .int .i64 t216, .int .i64 t217, .int .i64 t218, .int .i64 t219, .int .i64 0, .int .i64 0, .int .i64 0, .int .i64 0, .int .i64 0]) ?_ 11 _ rfl; (with_reducible repeat (first | refine blk_drewN ?_ _ | refine blk_drew ?_ | refine blk_alloc ?_ _)); refine blk_put (cs := #[.int .i64 t209, .int .i64 t210, .int .i64 t211, .int .i64 t212, .int .i64 t213, .int .i64 t214, .int .i64 t215, .int .i64 t216, .int .i64 t217, .int .i64 t218, .int .i64 0, .int .i64 0, .int .i64 0, .int .i64 0, .int .i64 0, .int .i64 0]) ?_ 10 _ rfl; (with_reducible repeat (first | refine blk_drewN ?_ _ | refine blk_drew ?_ | refine blk_alloc ?_ _)); refine blk_put (cs := #[.int .i64 t209, .int .i64 t210, .int .i64 t211, .int .i64 t212, .int .i64 t213, .int .i64 t214, .int .i64 t215, .int .i64 t216, .int .i64 t217, .int .i64 0, .int .i64 0, .int .i64 0, .int .i64 0, .int .i64 0, .int .i64 0, .int .i64 0]) ?_ 9 _ rfl; (with_reducible repeat (first | refine blk_drewN ?_ _ | refine blk_drew ?_ | refine blk_alloc ?_ _)); refine blk_put (cs := #[.int .i64 t209, .int .i64 t210, .int .i64 t211, .int .i64 t212, .int .i64 t213, .int .i64 t214, .int .i64 t215, .int .i64 t216, .int .i64 0, .int .i64 0, .int .i64 0, .int .i64 0, .int .i64 0, .int .i64 0, .int .i64 0, .int .i64 0]) ?_ 8 _ rfl; (with_reducible repeat (first | refine blk_drewN ?_ _ | refine blk_drew ?_ | refine blk_alloc ?_ _)); refine blk_put (cs := #[.int .i64 t209, .int .i64 t210, .int .i64 t211, .int .i64 t212, .int .i64 t213, .int .i64 t214, .int .i64 t215, .int .i64 0, .int .i64 0, .int .i64 0, .int .i64 0, .int .i64 0, .int .i64 0, .int .i64 0, .int .i64 0, .int .i64 0]) ?_ 7 _ rfl; (with_reducible repeat (first | refine blk_drewN ?_ _ | refine blk_drew ?_ | refine blk_alloc ?_ _)); refine blk_put (cs := #[.int .i64 t209, .int .i64 t210, .int .i64 t211, .int .i64 t212, .int .i64 t213, .int .i64 t214, .int .i64 0, .int .i64 0, .int .i64 0, .int .i64 0, .int .i64 0, .int .i64 0, .int .i64 0, .int .i64 0, .int .i64 0, .int .i64 0]) ?_ 6 _ rfl; (with_reducible repeat (first | refine blk_drewN ?_ _ | refine blk_drew ?_ | refine blk_alloc ?_ _)); refine blk_put (cs := #[.int .i64 t209, .int .i64 t210, .int .i64 t211, .int .i64 t212, .int .i64 t213, .int .i64 0, .int .i64 0, .int .i64 0, .int .i64 0, .int .i64 0, .int .i64 0, .int .i64 0, .int .i64 0, .int .i64 0, .int .i64 0, .int .i64 0]) ?_ 5 _ rfl; (with_reducible repeat (first | refine blk_drewN ?_ _ | refine blk_drew ?_ | refine blk_alloc ?_ _)); refine blk_put (cs := #[.int .i64 t209, .int .i64 t210, .int .i64 t211, .int .i64 t212, .int .i64 0, .int .i64 0, .int .i64 0, .int .i64 0, .int .i64 0, .int .i64 0, .int .i64 0, .int .i64 0, .int .i64 0, .int .i64 0, .int .i64 0, .int .i64 0]) ?_ 4 _ rfl; (with_reducible repeat (first | refine blk_drewN ?_ _ | refine blk_drew ?_ | refine blk_alloc ?_ _)); refine blk_put (cs := #[.int .i64 t209, .int .i64 t210, .int .i64 t211, .int .i64 0, .int .i64 0, .int .i64 0, .int .i64 0, .int .i64 0, .int .i64 0, .int .i64 0, .int .i64 0, .int .i64 0, .int .i64 0, .int .i64 0, .int .i64 0, .int .i64 0]) ?_ 3 _ rfl; (with_reducible repeat (first | refine blk_drewN ?_ _ | refine blk_drew ?_ | refine blk_alloc ?_ _)); refine blk_put (cs := #[.int .i64 t209, .int .i64 t210, .int .i64 0, .int .i64 0, .int .i64 0, .int .i64 0, .int .i64 0, .int .i64 0, .int .i64 0, .int .i64 0, .int .i64 0, .int .i64 0, .int .i64 0, .int .i64 0, .int .i64 0, .int .i64 0]) ?_ 2 _ rfl; (with_reducible repeat (first | refine blk_drewN ?_ _ | refine blk_drew ?_ | refine blk_alloc ?_ _)); refine blk_put (cs := #[.int .i64 t209, .int .i64 0, .int .i64 0, .int .i64 0, .int .i64 0, .int .i64 0, .int .i64 0, .int .i64 0, .int .i64 0, .int .i64 0, .int .i64 0, .int .i64 0, .int .i64 0, .int .i64 0, .int .i64 0, .int .i64 0]) ?_ 1 _ rfl; (with_reducible repeat (first | refine blk_drewN ?_ _ | refine blk_drew ?_ | refine blk_alloc ?_ _)); refine blk_put (cs := #[.int .i64 0, .int .i64 0, .int .i64 0, .int .i64 0, .int .i64 0, .int .i64 0, .int .i64 0, .int .i64 0, .int .i64 0, .int .i64 0, .int .i64 0, .int .i64 0, .int .i64 0, .int .i64 0, .int .i64 0, .int .i64 0]) ?_ 0 _ rfl; (with_reducible repeat (first | refine blk_drewN ?_ _ | refine blk_drew ?_ | refine blk_alloc ?_ _)); exact BK226.out))⟩; have n2_ : Aside0 (Below w.heap.size w w24) := ⟨(by rw [hw]; exact (by repeat (first | (with_reducible first | exact HB.out | apply below_alloc | apply pw_below_drewN | apply below_drew1 | refine below_set ?_ GE226.out) | exact HB.out)))⟩; clear hw; clear HO208; clear BK226; clear HB; have HO208 := n0_; have BK226 := n1_; have HB := n2_; clear n0_ n1_ n2_) | ((with_reducible refine gate_callee (f := 21) rfl ?_); refine goesL_ (some 56) rfl rfl Try.func21 (by kernel_rfl) rfl #[.slice Al_ (lessOf l0 (ji13)).length cl_] rfl (by (try simp only [List.map_toArray, List.map_cons, List.map_nil]); first | done | rfl | (simp only [List.length_drop, List.length_take]; rfl)) ?_; (with_reducible refine (graph_Of.calls kj4 _ _ (lessOf l0 (ji13)) t227 t228 t229 t230 t231 t232 t233 t234 t235 t236 t237 t238 t239 t240 t241 t242 t243 _ ?side1 ?side2 A17.out).mono ?_); (case side1 => exact (Kd.N_reads' HOL.out).2.2); (case side2 => exact (Kd.N_reads' HOL.out).2.1); rintro e w25 ⟨rfl, hb⟩; refine ⟨_, rfl, ?_⟩; clear HOL; have n0_ := Aside0.mk (Kd.S_below (by (with_reducible repeat (first | apply Kd.S_alloc | apply Kd.S_drewN | apply Kd.S_drew)); exact HO208.out) hb); have n1_ := Aside0.mk (blk_below (g := gb226) (o := .cells #[.int .i64 t209, .int .i64 t210, .int .i64 t211, .int .i64 t212, .int .i64 t213, .int .i64 t214, .int .i64 t215, .int .i64 t216, .int .i64 t217, .int .i64 t218, .int .i64 t219, .int .i64 t220, .int .i64 t221, .int .i64 t222, .int .i64 t223, .int .i64 t224] 23 (0, 0)) (by (with_reducible repeat (first | refine blk_drewN ?_ _ | refine blk_drew ?_ | refine blk_alloc ?_ _)); exact BK226.out) hb); have n2_ := Aside0.mk (below_step (by repeat (first | (with_reducible first | exact HB.out | apply below_alloc | apply pw_below_drewN | apply below_drew1 | refine below_set ?_ GE226.out) | exact HB.out)) hb); clear HO208; clear BK226; clear HB; have HO208 := n0_; have BK226 := n1_; have HB := n2_; clear n0_ n1_ n2_; (try clear hb); (try clear hb2); (try clear hk); (try clear hi)) | ((with_reducible refine gate_dst (N := 10) rfl ?_); (try (refine gate_guard (by rfl) ?_; dsimp only)); refine box_event ?hg (N := 10) ?hd (cs := #[.int .i64 0, .int .i64 0, .int .i64 0, .int .i64 0, .int .i64 0, .int .i64 0, .int .i64 0, .int .i64 0, .int .i64 0, .int .i64 0, .int .i64 0, .int .i64 0, .int .i64 0, .int .i64 0, .int .i64 0, .int .i64 0]) (t := 23) ?hr ?_; (case hd => rfl); (case hg => rfl); (case hr => first | (go_simp; done) | (go_simp; rfl)); intro gb244 hg w26 hbox hb; have n0_ := Aside0.mk (Kd.S_below (by (with_reducible repeat (first | apply Kd.S_alloc | apply Kd.S_drewN | apply Kd.S_drew)); exact HO208.out) hb); have n1_ := Aside0.mk (blk_below (g := gb226) (o := .cells #[.int .i64 t209, .int .i64 t210, .int .i64 t211, .int .i64 t212, .int .i64 t213, .int .i64 t214, .int .i64 t215, .int .i64 t216, .int .i64 t217, .int .i64 t218, .int .i64 t219, .int .i64 t220, .int .i64 t221, .int .i64 t222, .int .i64 t223, .int .i64 t224] 23 (0, 0)) (by (with_reducible repeat (first | refine blk_drewN ?_ _ | refine blk_drew ?_ | refine blk_alloc ?_ _)); exact BK226.out) hb); have n2_ := Aside0.mk (below_step (by repeat (first | (with_reducible first | exact HB.out | apply below_alloc | apply pw_below_drewN | apply below_drew1 | refine below_set ?_ GE226.out) | exact HB.out)) hb); have n3_ := Aside0.mk (hbox); have n4_ := Aside0.mk ((by rw [hg]; exact (below_size (by repeat (first | (with_reducible first | exact HB.out | apply below_alloc | apply pw_below_drewN | apply below_drew1 | refine below_set ?_ GE226.out) | exact HB.out))) : w.heap.size ≤ gb244)); have n5_ := Aside0.mk ((by rw [hg]; exact (below_size (by repeat (first | (with_reducible first | exact HB.out | apply below_alloc | apply pw_below_drewN | apply below_drew1 | refine below_set ?_ GE226.out) | exact HB.out))) : w.heap.size ≤ gb244)); have n6_ := Aside0.mk ((by rw [hg]; exact Nat.ne_of_lt (blk_lt (g := gb226) (o := .cells #[.int .i64 t209, .int .i64 t210, .int .i64 t211, .int .i64 t212, .int .i64 t213, .int .i64 t214, .int .i64 t215, .int .i64 t216, .int .i64 t217, .int .i64 t218, .int .i64 t219, .int .i64 t220, .int .i64 t221, .int .i64 t222, .int .i64 t223, .int .i64 t224] 23 (0, 0)) (by (with_reducible repeat (first | refine blk_drewN ?_ _ | refine blk_drew ?_ | refine blk_alloc ?_ _)); exact BK226.out)) : gb226 ≠ gb244)); have n7_ := Aside0.mk ((by rw [hg]; exact Nat.ne_of_gt (blk_lt (g := gb226) (o := .cells #[.int .i64 t209, .int .i64 t210, .int .i64 t211, .int .i64 t212, .int .i64 t213, .int .i64 t214, .int .i64 t215, .int .i64 t216, .int .i64 t217, .int .i64 t218, .int .i64 t219, .int .i64 t220, .int .i64 t221, .int .i64 t222, .int .i64 t223, .int .i64 t224] 23 (0, 0)) (by (with_reducible repeat (first | refine blk_drewN ?_ _ | refine blk_drew ?_ | refine blk_alloc ?_ _)); exact BK226.out)) : gb244 ≠ gb226)); clear HO208; clear BK226; clear HB; have HO208 := n0_; have BK226 := n1_; have HB := n2_; have BK244 := n3_; have GW244 := n4_; have GE244 := n5_; have NB226_244 := n6_; have NB244_226 := n7_; clear n0_ n1_ n2_ n3_ n4_ n5_ n6_ n7_; clear hb hbox hg; have hnb27 := NB244_226.out; have hnc27 := NB226_244.out; obtain ⟨hcz28_0, hcz28_1, hcz28_2, hcz28_3, hcz28_4, hcz28_5, hcz28_6, hcz28_7, hcz28_8, hcz28_9, hcz28_10, hcz28_11, hcz28_12, hcz28_13, hcz28_14, hcz28_15⟩ := cells16 BK244.out; have hfz28_0 := fun (j_ : Nat) => blk_frozen BK244.out j_) | ((with_reducible refine gate_store (t := 23) (p := 10) rfl ?_); refine store_event (t := 23) (p := 10) (v := ?vo_w29) (w1 := ((((((((((((((((w26.setCell ⟨gb244, 0, none⟩ (.int .i64 t227)).setCell ⟨gb244, 1, none⟩ (.int .i64 t228)).setCell ⟨gb244, 2, none⟩ (.int .i64 t229)).setCell ⟨gb244, 3, none⟩ (.int .i64 t230)).setCell ⟨gb244, 4, none⟩ (.int .i64 t231)).setCell ⟨gb244, 5, none⟩ (.int .i64 t232)).setCell ⟨gb244, 6, none⟩ (.int .i64 t233)).setCell ⟨gb244, 7, none⟩ (.int .i64 t234)).setCell ⟨gb244, 8, none⟩ (.int .i64 t235)).setCell ⟨gb244, 9, none⟩ (.int .i64 t236)).setCell ⟨gb244, 10, none⟩ (.int .i64 t237)).setCell ⟨gb244, 11, none⟩ (.int .i64 t238)).setCell ⟨gb244, 12, none⟩ (.int .i64 t239)).setCell ⟨gb244, 13, none⟩ (.int .i64 t240)).setCell ⟨gb244, 14, none⟩ (.int .i64 t241)).setCell ⟨gb244, 15, none⟩ (.int .i64 t242))) ?hg ?ho ?hn ?hr ?_; (case ho => rfl); (case hg => rfl); (case hn => rfl); (case hr => first | (go_simp; done) | (go_simp; rfl)); intro w29 hw; have n0_ : Aside0 (Kd.S k57 57 w29 w.heap.size (fun _ => True) v207 y206) := ⟨(by rw [hw]; exact (by (with_reducible repeat (first | apply Kd.S_alloc | apply Kd.S_drewN | apply Kd.S_drew)); exact Kd.S_mono (Kd.S_far (p := ⟨gb244, 15, none⟩) (Kd.S_far (p := ⟨gb244, 14, none⟩) (Kd.S_far (p := ⟨gb244, 13, none⟩) (Kd.S_far (p := ⟨gb244, 12, none⟩) (Kd.S_far (p := ⟨gb244, 11, none⟩) (Kd.S_far (p := ⟨gb244, 10, none⟩) (Kd.S_far (p := ⟨gb244, 9, none⟩) (Kd.S_far (p := ⟨gb244, 8, none⟩) (Kd.S_far (p := ⟨gb244, 7, none⟩) (Kd.S_far (p := ⟨gb244, 6, none⟩) (Kd.S_far (p := ⟨gb244, 5, none⟩) (Kd.S_far (p := ⟨gb244, 4, none⟩) (Kd.S_far (p := ⟨gb244, 3, none⟩) (Kd.S_far (p := ⟨gb244, 2, none⟩) (Kd.S_far (p := ⟨gb244, 1, none⟩) (Kd.S_far (p := ⟨gb244, 0, none⟩) (Kd.S_types HO208.out BK244.out (by decide)) (fun _ hk => hk.2) (.int .i64 t227)) (fun _ hk => hk.2) (.int .i64 t228)) (fun _ hk => hk.2) (.int .i64 t229)) (fun _ hk => hk.2) (.int .i64 t230)) (fun _ hk => hk.2) (.int .i64 t231)) (fun _ hk => hk.2) (.int .i64 t232)) (fun _ hk => hk.2) (.int .i64 t233)) (fun _ hk => hk.2) (.int .i64 t234)) (fun _ hk => hk.2) (.int .i64 t235)) (fun _ hk => hk.2) (.int .i64 t236)) (fun _ hk => hk.2) (.int .i64 t237)) (fun _ hk => hk.2) (.int .i64 t238)) (fun _ hk => hk.2) (.int .i64 t239)) (fun _ hk => hk.2) (.int .i64 t240)) (fun _ hk => hk.2) (.int .i64 t241)) (fun _ hk => hk.2) (.int .i64 t242)) (fun _ hk => trivial)))⟩; have n1_ : Aside0 (w29.heap[gb226]? = some (.cells #[.int .i64 t209, .int .i64 t210, .int .i64 t211, .int .i64 t212, .int .i64 t213, .int .i64 t214, .int .i64 t215, .int .i64 t216, .int .i64 t217, .int .i64 t218, .int .i64 t219, .int .i64 t220, .int .i64 t221, .int .i64 t222, .int .i64 t223, .int .i64 t224] 23 (0, 0))) := ⟨(by rw [hw]; exact (by (with_reducible repeat (first | refine blk_drewN ?_ _ | refine blk_drew ?_ | refine blk_alloc ?_ _)); refine blk_far ?_ NB226_244.out _; (with_reducible repeat (first | refine blk_drewN ?_ _ | refine blk_drew ?_ | refine blk_alloc ?_ _)); refine blk_far ?_ NB226_244.out _; (with_reducible repeat (first | refine blk_drewN ?_ _ | refine blk_drew ?_ | refine blk_alloc ?_ _)); refine blk_far ?_ NB226_244.out _; (with_reducible repeat (first | refine blk_drewN ?_ _ | refine blk_drew ?_ | refine blk_alloc ?_ _)); refine blk_far ?_ NB226_244.out _; (with_reducible repeat (first | refine blk_drewN ?_ _ | refine blk_drew ?_ | refine blk_alloc ?_ _)); refine blk_far ?_ NB226_244.out _; (with_reducible repeat (first | refine blk_drewN ?_ _ | refine blk_drew ?_ | refine blk_alloc ?_ _)); refine blk_far ?_ NB226_244.out _; (with_reducible repeat (first | refine blk_drewN ?_ _ | refine blk_drew ?_ | refine blk_alloc ?_ _)); refine blk_far ?_ NB226_244.out _; (with_reducible repeat (first | refine blk_drewN ?_ _ | refine blk_drew ?_ | refine blk_alloc ?_ _)); refine blk_far ?_ NB226_244.out _; (with_reducible repeat (first | refine blk_drewN ?_ _ | refine blk_drew ?_ | refine blk_alloc ?_ _)); refine blk_far ?_ NB226_244.out _; (with_reducible repeat (first | refine blk_drewN ?_ _ | refine blk_drew ?_ | refine blk_alloc ?_ _)); refine blk_far ?_ NB226_244.out _; (with_reducible repeat (first | refine blk_drewN ?_ _ | refine blk_drew ?_ | refine blk_alloc ?_ _)); refine blk_far ?_ NB226_244.out _; (with_reducible repeat (first | refine blk_drewN ?_ _ | refine blk_drew ?_ | refine blk_alloc ?_ _)); refine blk_far ?_ NB226_244.out _; (with_reducible repeat (first | refine blk_drewN ?_ _ | refine blk_drew ?_ | refine blk_alloc ?_ _)); refine blk_far ?_ NB226_244.out _; (with_reducible repeat (first | refine blk_drewN ?_ _ | refine blk_drew ?_ | refine blk_alloc ?_ _)); refine blk_far ?_ NB226_244.out _; (with_reducible repeat (first | refine blk_drewN ?_ _ | refine blk_drew ?_ | refine blk_alloc ?_ _)); refine blk_far ?_ NB226_244.out _; (with_reducible repeat (first | refine blk_drewN ?_ _ | refine blk_drew ?_ | refine blk_alloc ?_ _)); refine blk_far ?_ NB226_244.out _; (with_reducible repeat (first | refine blk_drewN ?_ _ | refine blk_drew ?_ | refine blk_alloc ?_ _)); exact BK226.out))⟩; have n2_ : Aside0 (w29.heap[gb244]? = some (.cells #[.int .i64 t227, .int .i64 t228, .int .i64 t229, .int .i64 t230, .int .i64 t231, .int .i64 t232, .int .i64 t233, .int .i64 t234, .int .i64 t235, .int .i64 t236, .int .i64 t237, .int .i64 t238, .int .i64 t239, .int .i64 t240, .int .i64 t241, .int .i64 t242] 23 (0, 0))) := ⟨(by rw [hw]; exact (by (with_reducible repeat (first | refine blk_drewN ?_ _ | refine blk_drew ?_ | refine blk_alloc ?_ _)); refine blk_put (cs := #[.int .i64 t227, .int .i64 t228, .int .i64 t229, .int .i64 t230, .int .i64 t231, .int .i64 t232, .int .i64 t233, .int .i64 t234, .int .i64 t235, .int .i64 t236, .int .i64 t237, .int .i64 t238, .int .i64 t239, .int .i64 t240, .int .i64 t241, .int .i64 0]) ?_ 15 _ rfl; (with_reducible repeat (first | refine blk_drewN ?_ _ | refine blk_drew ?_ | refine blk_alloc ?_ _)); refine blk_put (cs := #[.int .i64 t227, .int .i64 t228, .int .i64 t229, .int .i64 t230, .int .i64 t231, .int .i64 t232, .int .i64 t233, .int .i64 t234, .int .i64 t235, .int .i64 t236, .int .i64 t237, .int .i64 t238, .int .i64 t239, .int .i64 t240, .int .i64 0, .int .i64 0]) ?_ 14 _ rfl; (with_reducible repeat (first | refine blk_drewN ?_ _ | refine blk_drew ?_ | refine blk_alloc ?_ _)); refine blk_put (cs := #[.int .i64 t227, .int .i64 t228, .int .i64 t229, .int .i64 t230, .int .i64 t231, .int .i64 t232, .int .i64 t233, .int .i64 t234, .int .i64 t235, .int .i64 t236, .int .i64 t237, .int .i64 t238, .int .i64 t239, .int .i64 0, .int .i64 0, .int .i64 0]) ?_ 13 _ rfl; (with_reducible repeat (first | refine blk_drewN ?_ _ | refine blk_drew ?_ | refine blk_alloc ?_ _)); refine blk_put (cs := #[.int .i64 t227, .int .i64 t228, .int .i64 t229, .int .i64 t230, .int .i64 t231, .int .i64 t232, .int .i64 t233, .int .i64 t234, .int .i64 t235, .int .i64 t236, .int .i64 t237, .int .i64 t238, .int .i64 0, .int .i64 0, .int .i64 0, .int .i64 0]) ?_ 12 _ rfl; (with_reducible repeat (first | refine blk_drewN ?_ _ | refine blk_drew ?_ | refine blk_alloc ?_ _)); refine blk_put (cs := #[.int .i64 t227, .int .i64 t228, .int .i64 t229, .int .i64 t230, .int .i64 t231, .int .i64 t232, .int .i64 t233, .int .i64 t234, .int .i64 t235, .int .i64 t236, .int .i64 t237, .int .i64 0, .int .i64 0, .int .i64 0, .int .i64 0, .int .i64 0]) ?_ 11 _ rfl; (with_reducible repeat (first | refine blk_drewN ?_ _ | refine blk_drew ?_ | refine blk_alloc ?_ _)); refine blk_put (cs := #[.int .i64 t227, .int .i64 t228, .int .i64 t229, .int .i64 t230, .int .i64 t231, .int .i64 t232, .int .i64 t233, .int .i64 t234, .int .i64 t235, .int .i64 t236, .int .i64 0, .int .i64 0, .int .i64 0, .int .i64 0, .int .i64 0, .int .i64 0]) ?_ 10 _ rfl; (with_reducible repeat (first | refine blk_drewN ?_ _ | refine blk_drew ?_ | refine blk_alloc ?_ _)); refine blk_put (cs := #[.int .i64 t227, .int .i64 t228, .int .i64 t229, .int .i64 t230, .int .i64 t231, .int .i64 t232, .int .i64 t233, .int .i64 t234, .int .i64 t235, .int .i64 0, .int .i64 0, .int .i64 0, .int .i64 0, .int .i64 0, .int .i64 0, .int .i64 0]) ?_ 9 _ rfl; (with_reducible repeat (first | refine blk_drewN ?_ _ | refine blk_drew ?_ | refine blk_alloc ?_ _)); refine blk_put (cs := #[.int .i64 t227, .int .i64 t228, .int .i64 t229, .int .i64 t230, .int .i64 t231, .int .i64 t232, .int .i64 t233, .int .i64 t234, .int .i64 0, .int .i64 0, .int .i64 0, .int .i64 0, .int .i64 0, .int .i64 0, .int .i64 0, .int .i64 0]) ?_ 8 _ rfl; (with_reducible repeat (first | refine blk_drewN ?_ _ | refine blk_drew ?_ | refine blk_alloc ?_ _)); refine blk_put (cs := #[.int .i64 t227, .int .i64 t228, .int .i64 t229, .int .i64 t230, .int .i64 t231, .int .i64 t232, .int .i64 t233, .int .i64 0, .int .i64 0, .int .i64 0, .int .i64 0, .int .i64 0, .int .i64 0, .int .i64 0, .int .i64 0, .int .i64 0]) ?_ 7 _ rfl; (with_reducible repeat (first | refine blk_drewN ?_ _ | refine blk_drew ?_ | refine blk_alloc ?_ _)); refine blk_put (cs := #[.int .i64 t227, .int .i64 t228, .int .i64 t229, .int .i64 t230, .int .i64 t231, .int .i64 t232, .int .i64 0, .int .i64 0, .int .i64 0, .int .i64 0, .int .i64 0, .int .i64 0, .int .i64 0, .int .i64 0, .int .i64 0, .int .i64 0]) ?_ 6 _ rfl; (with_reducible repeat (first | refine blk_drewN ?_ _ | refine blk_drew ?_ | refine blk_alloc ?_ _)); refine blk_put (cs := #[.int .i64 t227, .int .i64 t228, .int .i64 t229, .int .i64 t230, .int .i64 t231, .int .i64 0, .int .i64 0, .int .i64 0, .int .i64 0, .int .i64 0, .int .i64 0, .int .i64 0, .int .i64 0, .int .i64 0, .int .i64 0, .int .i64 0]) ?_ 5 _ rfl; (with_reducible repeat (first | refine blk_drewN ?_ _ | refine blk_drew ?_ | refine blk_alloc ?_ _)); refine blk_put (cs := #[.int .i64 t227, .int .i64 t228, .int .i64 t229, .int .i64 t230, .int .i64 0, .int .i64 0, .int .i64 0, .int .i64 0, .int .i64 0, .int .i64 0, .int .i64 0, .int .i64 0, .int .i64 0, .int .i64 0, .int .i64 0, .int .i64 0]) ?_ 4 _ rfl; (with_reducible repeat (first | refine blk_drewN ?_ _ | refine blk_drew ?_ | refine blk_alloc ?_ _)); refine blk_put (cs := #[.int .i64 t227, .int .i64 t228, .int .i64 t229, .int .i64 0, .int .i64 0, .int .i64 0, .int .i64 0, .int .i64 0, .int .i64 0, .int .i64 0, .int .i64 0, .int .i64 0, .int .i64 0, .int .i64 0, .int .i64 0, .int .i64 0]) ?_ 3 _ rfl; (with_reducible repeat (first | refine blk_drewN ?_ _ | refine blk_drew ?_ | refine blk_alloc ?_ _)); refine blk_put (cs := #[.int .i64 t227, .int .i64 t228, .int .i64 0, .int .i64 0, .int .i64 0, .int .i64 0, .int .i64 0, .int .i64 0, .int .i64 0, .int .i64 0, .int .i64 0, .int .i64 0, .int .i64 0, .int .i64 0, .int .i64 0, .int .i64 0]) ?_ 2 _ rfl; (with_reducible repeat (first | refine blk_drewN ?_ _ | refine blk_drew ?_ | refine blk_alloc ?_ _)); refine blk_put (cs := #[.int .i64 t227, .int .i64 0, .int .i64 0, .int .i64 0, .int .i64 0, .int .i64 0, .int .i64 0, .int .i64 0, .int .i64 0, .int .i64 0, .int .i64 0, .int .i64 0, .int .i64 0, .int .i64 0, .int .i64 0, .int .i64 0]) ?_ 1 _ rfl; (with_reducible repeat (first | refine blk_drewN ?_ _ | refine blk_drew ?_ | refine blk_alloc ?_ _)); refine blk_put (cs := #[.int .i64 0, .int .i64 0, .int .i64 0, .int .i64 0, .int .i64 0, .int .i64 0, .int .i64 0, .int .i64 0, .int .i64 0, .int .i64 0, .int .i64 0, .int .i64 0, .int .i64 0, .int .i64 0, .int .i64 0, .int .i64 0]) ?_ 0 _ rfl; (with_reducible repeat (first | refine blk_drewN ?_ _ | refine blk_drew ?_ | refine blk_alloc ?_ _)); exact BK244.out))⟩; have n3_ : Aside0 (Below w.heap.size w w29) := ⟨(by rw [hw]; exact (by repeat (first | (with_reducible first | exact HB.out | apply below_alloc | apply pw_below_drewN | apply below_drew1 | refine below_set ?_ GE226.out | refine below_set ?_ GE244.out) | exact HB.out)))⟩; clear hw; clear HO208; clear BK226; clear BK244; clear HB; have HO208 := n0_; have BK226 := n1_; have BK244 := n2_; have HB := n3_; clear n0_ n1_ n2_ n3_))
        (try simp only [Act.put, List.setIfInBounds_toArray, List.set_cons_zero, List.set_cons_succ])
        go_cut [66] (fun v66 wc => ∃ (kq : Nat) (x66_17 : Bool), v66 = .bool x66_17 ∧ Aside0 (watchwordlaw20_GraphLess.j1 kq (wrap64 (((rd_T57 l0 (ji13)).f0) - 1)) x66_17 t209 t210 t211 t212 t213 t214 t215 t216 t217 t218 t219 t220 t221 t222 t223 t224 t227 t228 t229 t230 t231 t232 t233 t234 t235 t236 t237 t238 t239 t240 t241 t242 = some r) ∧ Aside0 (kq ≤ kj4) ∧ Aside0 (wc.heap[gb226]? = some (.cells #[.int .i64 t209, .int .i64 t210, .int .i64 t211, .int .i64 t212, .int .i64 t213, .int .i64 t214, .int .i64 t215, .int .i64 t216, .int .i64 t217, .int .i64 t218, .int .i64 t219, .int .i64 t220, .int .i64 t221, .int .i64 t222, .int .i64 t223, .int .i64 t224] 23 (0, 0))) ∧ Aside0 (wc.heap[gb244]? = some (.cells #[.int .i64 t227, .int .i64 t228, .int .i64 t229, .int .i64 t230, .int .i64 t231, .int .i64 t232, .int .i64 t233, .int .i64 t234, .int .i64 t235, .int .i64 t236, .int .i64 t237, .int .i64 t238, .int .i64 t239, .int .i64 t240, .int .i64 t241, .int .i64 t242] 23 (0, 0))) ∧ Aside0 (Below w.heap.size w wc))
        case first =>
         have H := HC18.out
         clear HC18
         replace H := Option.bind_eq_some_iff.mp H
         obtain ⟨t245, A300, H⟩ := H
         replace H : (if t245 = 0 then ((watchwordlaw0_Num.f t243).bind fun t246 => (watchwordlaw20_GraphLess.j1 kj4 (wrap64 (((rd_T57 l0 (ji13)).f0) - 1)) (t246 != 0) t209 t210 t211 t212 t213 t214 t215 t216 t217 t218 t219 t220 t221 t222 t223 t224 t227 t228 t229 t230 t231 t232 t233 t234 t235 t236 t237 t238 t239 t240 t241 t242)) else (watchwordlaw20_GraphLess.j1 kj4 (wrap64 (((rd_T57 l0 (ji13)).f0) - 1)) true t209 t210 t211 t212 t213 t214 t215 t216 t217 t218 t219 t220 t221 t222 t223 t224 t227 t228 t229 t230 t231 t232 t233 t234 t235 t236 t237 t238 t239 t240 t241 t242)) = some r := H
         have A30 := Aside0.mk A300
         clear A300
         by_cases c31 : t245 = 0
         ·rw [if_pos c31] at H
          have c31b0 : (t245 == 0) = true := beq_iff_eq.mpr c31
          have c31b1 : (t245 != 0) = false := bne_eq_false_iff_eq.mpr c31
          clear c31
          (first | rw [c31b0] | (simp only [i64_w, i32_w]; rw [c31b0]) | skip)
          replace H := Option.bind_eq_some_iff.mp H
          obtain ⟨t246, A320, H⟩ := H
          replace H : (watchwordlaw20_GraphLess.j1 kj4 (wrap64 (((rd_T57 l0 (ji13)).f0) - 1)) (t246 != 0) t209 t210 t211 t212 t213 t214 t215 t216 t217 t218 t219 t220 t221 t222 t223 t224 t227 t228 t229 t230 t231 t232 t233 t234 t235 t236 t237 t238 t239 t240 t241 t242) = some r := H
          have A32 := Aside0.mk A320
          clear A320
          have H' := Aside0.mk H
          clear H
          go_wp2_with (first | ((with_reducible refine gate_callee (f := 16) rfl ?_); refine goesL_ (some 60) rfl rfl Try.func16 (by kernel_rfl) rfl #[.int .i64 t225] rfl (by (try simp only [List.map_toArray, List.map_cons, List.map_nil]); first | done | rfl | (simp only [List.length_drop, List.length_take]; rfl)) ?_; (with_reducible refine (watchwordlaw0_Num.calls t225 t245 _ A30.out).mono ?_); rintro e w' ⟨rfl, ⟨nd, rfl⟩⟩; refine ⟨_, rfl, ?_⟩) | (go_at_call 16; (with_reducible refine (watchwordlaw0_Num.calls t243 t246 _ A32.out).mono ?_); rintro e w' ⟨rfl, ⟨nd, rfl⟩⟩))
          go_meet
          case rel => exact ⟨_, ((t246 != 0)), (by first | rfl | (simp; done) | (simp [*]; done)), H', ⟨by have := HJ4.out; first | omega | exact Nat.le_refl _⟩, ⟨by (with_reducible repeat (first | refine blk_drewN ?_ _ | refine blk_drew ?_ | refine blk_alloc ?_ _)); exact BK226.out⟩, ⟨by (with_reducible repeat (first | refine blk_drewN ?_ _ | refine blk_drew ?_ | refine blk_alloc ?_ _)); exact BK244.out⟩, ⟨by repeat (first | (with_reducible first | exact HB.out | apply below_alloc | apply pw_below_drewN | apply below_drew1 | refine below_set ?_ GE226.out | refine below_set ?_ GE244.out) | exact HB.out)⟩⟩
         ·rw [if_neg c31] at H
          have c31b0 : (t245 == 0) = false := beq_eq_false_iff_ne.mpr c31
          have c31b1 : (t245 != 0) = true := bne_iff_ne.mpr c31
          (first | rw [c31b0] | (simp only [i64_w, i32_w]; rw [c31b0]) | skip)
          exact absurd H (fun h_ => (by
           have hd_ : ∀ k_, watchwordlaw20_GraphLess.j1 k_ (wrap64 (((rd_T57 l0 (ji13)).f0) - 1)) true t209 t210 t211 t212 t213 t214 t215 t216 t217 t218 t219 t220 t221 t222 t223 t224 t227 t228 t229 t230 t231 t232 t233 t234 t235 t236 t237 t238 t239 t240 t241 t242 = some r → False := by
            intro k_ h_
            cases k_ with
            | zero => exact absurd h_ (by simp [watchwordlaw20_GraphLess.j1])
            | succ k_ =>
             simp only [watchwordlaw20_GraphLess.j1, if_true] at h_
             exact absurd (Option.some.inj h_) (by rw [HT.out]; decide)
           exact hd_ _ h_))
        case rest =>
         clear HC18
         try clear c1
         try clear c2
         try clear p2
         try clear q2
         try clear hx2
         try clear c3
         try clear c4
         try clear p6
         try clear c8
         try clear c11
         try clear c12
         try clear c12b0
         try clear c12b1
         try clear c14
         try clear c14b0
         try clear c15
         try clear c15b0
         try clear c16
         try clear c20
         try clear p20
         try clear q20
         try clear hx20
         try clear c21
         try clear c25
         try clear c26
         try clear c27
         try clear c31
         try clear c31b0
         try clear c31b1
         try clear hcz23_0
         try clear hcz23_1
         try clear hcz23_10
         try clear hcz23_11
         try clear hcz23_12
         try clear hcz23_13
         try clear hcz23_14
         try clear hcz23_15
         try clear hcz23_2
         try clear hcz23_3
         try clear hcz23_4
         try clear hcz23_5
         try clear hcz23_6
         try clear hcz23_7
         try clear hcz23_8
         try clear hcz23_9
         try clear hcz28_0
         try clear hcz28_1
         try clear hcz28_10
         try clear hcz28_11
         try clear hcz28_12
         try clear hcz28_13
         try clear hcz28_14
         try clear hcz28_15
         try clear hcz28_2
         try clear hcz28_3
         try clear hcz28_4
         try clear hcz28_5
         try clear hcz28_6
         try clear hcz28_7
         try clear hcz28_8
         try clear hcz28_9
         try clear hfz23_0
         try clear hfz28_0
         try clear hx205_0
         try clear hx205_1
         try clear hx205_2
         try clear hx205_3
         try clear p2
         try clear p205
         try clear q205
         obtain ⟨kq, x66_17, rfl, HA, HJ17, BK226, BK244, HB⟩ := hcut
         cases kq with
         | zero => exact absurd HA.out (by simp [watchwordlaw20_GraphLess.j1])
         | succ kj17 =>
          have H := HA.out
          clear HA
          simp only [watchwordlaw20_GraphLess.j1] at H
          by_cases c33 : x66_17 = true
          ·subst c33
           have H1 : (some false) = some r := by rw [if_pos rfl] at H; exact H
           clear H
           have H := H1
           clear H1
           exact absurd (Option.some.inj H) (by rw [HT.out]; decide)
          ·replace c33 := Bool.eq_false_iff.mpr c33
           subst c33
           have H1 : (watchwordlaw20_GraphLess.l0 kj17 (wrap64 (((rd_T57 l0 (ji13)).f0) - 1)) 0 t209 t210 t211 t212 t213 t214 t215 t216 t217 t218 t219 t220 t221 t222 t223 t224 t227 t228 t229 t230 t231 t232 t233 t234 t235 t236 t237 t238 t239 t240 t241 t242) = some r := by rw [if_neg (show ¬ (false = true) by decide)] at H; exact H
           clear H
           have H := H1
           clear H1
           have H' := Aside0.mk H
           clear H
           go_wp2
           go_loopg [12] kj17 (fun kq v12 w' => ∃ (x12_3 : Int), v12 = .int .i64 x12_3 ∧ Aside0 (watchwordlaw20_GraphLess.l0 kq (wrap64 (((rd_T57 l0 (ji13)).f0) - 1)) x12_3 t209 t210 t211 t212 t213 t214 t215 t216 t217 t218 t219 t220 t221 t222 t223 t224 t227 t228 t229 t230 t231 t232 t233 t234 t235 t236 t237 t238 t239 t240 t241 t242 = some r) ∧ Aside0 (kq ≤ kj17) ∧ Aside0 (w'.heap[gb226]? = some (.cells #[.int .i64 t209, .int .i64 t210, .int .i64 t211, .int .i64 t212, .int .i64 t213, .int .i64 t214, .int .i64 t215, .int .i64 t216, .int .i64 t217, .int .i64 t218, .int .i64 t219, .int .i64 t220, .int .i64 t221, .int .i64 t222, .int .i64 t223, .int .i64 t224] 23 (0, 0))) ∧ Aside0 (w'.heap[gb244]? = some (.cells #[.int .i64 t227, .int .i64 t228, .int .i64 t229, .int .i64 t230, .int .i64 t231, .int .i64 t232, .int .i64 t233, .int .i64 t234, .int .i64 t235, .int .i64 t236, .int .i64 t237, .int .i64 t238, .int .i64 t239, .int .i64 t240, .int .i64 t241, .int .i64 t242] 23 (0, 0))) ∧ Aside0 (Below w.heap.size w w'))
           case atStart => exact ⟨(0), (by first | rfl | (simp; done) | (simp [*]; done)), H', ⟨Nat.le_refl _⟩, ⟨by (with_reducible repeat (first | refine blk_drewN ?_ _ | refine blk_drew ?_ | refine blk_alloc ?_ _)); exact BK226.out⟩, ⟨by (with_reducible repeat (first | refine blk_drewN ?_ _ | refine blk_drew ?_ | refine blk_alloc ?_ _)); exact BK244.out⟩, ⟨by repeat (first | (with_reducible first | exact HB.out | apply below_alloc | apply pw_below_drewN | apply below_drew1 | refine below_set ?_ GE226.out | refine below_set ?_ GE244.out) | exact HB.out)⟩⟩
           case round =>
            clear H'
            try clear c1
            try clear c2
            try clear p2
            try clear q2
            try clear hx2
            try clear c3
            try clear c4
            try clear p6
            try clear c8
            try clear c11
            try clear c12
            try clear c12b0
            try clear c12b1
            try clear c14
            try clear c14b0
            try clear c15
            try clear c15b0
            try clear c16
            try clear c20
            try clear p20
            try clear q20
            try clear hx20
            try clear c21
            try clear c25
            try clear c26
            try clear c27
            try clear c31
            try clear c31b0
            try clear c31b1
            try clear c33
            try clear hcz23_0
            try clear hcz23_1
            try clear hcz23_10
            try clear hcz23_11
            try clear hcz23_12
            try clear hcz23_13
            try clear hcz23_14
            try clear hcz23_15
            try clear hcz23_2
            try clear hcz23_3
            try clear hcz23_4
            try clear hcz23_5
            try clear hcz23_6
            try clear hcz23_7
            try clear hcz23_8
            try clear hcz23_9
            try clear hcz28_0
            try clear hcz28_1
            try clear hcz28_10
            try clear hcz28_11
            try clear hcz28_12
            try clear hcz28_13
            try clear hcz28_14
            try clear hcz28_15
            try clear hcz28_2
            try clear hcz28_3
            try clear hcz28_4
            try clear hcz28_5
            try clear hcz28_6
            try clear hcz28_7
            try clear hcz28_8
            try clear hcz28_9
            try clear hfz23_0
            try clear hfz28_0
            try clear hx205_0
            try clear hx205_1
            try clear hx205_2
            try clear hx205_3
            try clear p2
            try clear p20
            try clear p205
            try clear p6
            try clear q2
            try clear q20
            try clear q205
            obtain ⟨x12_3, rfl, HA, HK3, BK226, BK244, HB⟩ := hrel
            cases gk with
            | zero => exact absurd HA.out (by simp [watchwordlaw20_GraphLess.l0])
            | succ k3 =>
             have H := HA.out
             clear HA
             simp only [watchwordlaw20_GraphLess.l0] at H
             by_cases c34 : x12_3 < 4
             ·rw [if_pos c34] at H
              have c34b0 : decide (x12_3 < 4) = true := decide_eq_true c34
              clear c34
              have H' := Aside0.mk H
              clear H
              go_wp2
              go_loopg [13] k3 (fun kq v13 w' => ∃ (x13_4 : Int), v13 = .int .i64 x13_4 ∧ Aside0 (watchwordlaw20_GraphLess.l1 kq (wrap64 (((rd_T57 l0 (ji13)).f0) - 1)) x12_3 x13_4 t209 t210 t211 t212 t213 t214 t215 t216 t217 t218 t219 t220 t221 t222 t223 t224 t227 t228 t229 t230 t231 t232 t233 t234 t235 t236 t237 t238 t239 t240 t241 t242 = some r) ∧ Aside0 (kq ≤ k3) ∧ Aside0 (w'.heap[gb226]? = some (.cells #[.int .i64 t209, .int .i64 t210, .int .i64 t211, .int .i64 t212, .int .i64 t213, .int .i64 t214, .int .i64 t215, .int .i64 t216, .int .i64 t217, .int .i64 t218, .int .i64 t219, .int .i64 t220, .int .i64 t221, .int .i64 t222, .int .i64 t223, .int .i64 t224] 23 (0, 0))) ∧ Aside0 (w'.heap[gb244]? = some (.cells #[.int .i64 t227, .int .i64 t228, .int .i64 t229, .int .i64 t230, .int .i64 t231, .int .i64 t232, .int .i64 t233, .int .i64 t234, .int .i64 t235, .int .i64 t236, .int .i64 t237, .int .i64 t238, .int .i64 t239, .int .i64 t240, .int .i64 t241, .int .i64 t242] 23 (0, 0))) ∧ Aside0 (Below w.heap.size w w'))
              case atStart => exact ⟨(0), (by first | rfl | (simp; done) | (simp [*]; done)), H', ⟨Nat.le_refl _⟩, ⟨by (with_reducible repeat (first | refine blk_drewN ?_ _ | refine blk_drew ?_ | refine blk_alloc ?_ _)); exact BK226.out⟩, ⟨by (with_reducible repeat (first | refine blk_drewN ?_ _ | refine blk_drew ?_ | refine blk_alloc ?_ _)); exact BK244.out⟩, ⟨by repeat (first | (with_reducible first | exact HB.out | apply below_alloc | apply pw_below_drewN | apply below_drew1 | refine below_set ?_ GE226.out | refine below_set ?_ GE244.out) | exact HB.out)⟩⟩
              case round =>
               clear H'
               try clear c1
               try clear c2
               try clear p2
               try clear q2
               try clear hx2
               try clear c3
               try clear c4
               try clear p6
               try clear c8
               try clear c11
               try clear c12
               try clear c12b0
               try clear c12b1
               try clear c14
               try clear c14b0
               try clear c15
               try clear c15b0
               try clear c16
               try clear c20
               try clear p20
               try clear q20
               try clear hx20
               try clear c21
               try clear c25
               try clear c26
               try clear c27
               try clear c31
               try clear c31b0
               try clear c31b1
               try clear c33
               try clear c34
               try clear c34b0
               try clear hcz23_0
               try clear hcz23_1
               try clear hcz23_10
               try clear hcz23_11
               try clear hcz23_12
               try clear hcz23_13
               try clear hcz23_14
               try clear hcz23_15
               try clear hcz23_2
               try clear hcz23_3
               try clear hcz23_4
               try clear hcz23_5
               try clear hcz23_6
               try clear hcz23_7
               try clear hcz23_8
               try clear hcz23_9
               try clear hcz28_0
               try clear hcz28_1
               try clear hcz28_10
               try clear hcz28_11
               try clear hcz28_12
               try clear hcz28_13
               try clear hcz28_14
               try clear hcz28_15
               try clear hcz28_2
               try clear hcz28_3
               try clear hcz28_4
               try clear hcz28_5
               try clear hcz28_6
               try clear hcz28_7
               try clear hcz28_8
               try clear hcz28_9
               try clear hfz23_0
               try clear hfz28_0
               try clear hx205_0
               try clear hx205_1
               try clear hx205_2
               try clear hx205_3
               try clear p2
               try clear p20
               try clear p205
               try clear p6
               try clear q2
               try clear q20
               try clear q205
               obtain ⟨x13_4, rfl, HA, HK4, BK226, BK244, HB⟩ := hrel
               cases gk with
               | zero => exact absurd HA.out (by simp [watchwordlaw20_GraphLess.l1])
               | succ k4 =>
                have H := HA.out
                clear HA
                simp only [watchwordlaw20_GraphLess.l1] at H
                by_cases c35 : x13_4 < 4
                ·rw [if_pos c35] at H
                 have c35b0 : decide (x13_4 < 4) = true := decide_eq_true c35
                 clear c35
                 by_cases c36 : 0 ≤ x12_3
                 ·rw [if_pos c36] at H
                  have c36b0 : decide (0 ≤ x12_3) = true := decide_eq_true c36
                  clear c36
                  by_cases c37 : x12_3 < 4
                  ·rw [if_pos c37] at H
                   have c37b0 : decide (x12_3 < 4) = true := decide_eq_true c37
                   clear c37
                   by_cases c38 : 0 ≤ x13_4
                   ·rw [if_pos c38] at H
                    have c38b0 : decide (0 ≤ x13_4) = true := decide_eq_true c38
                    clear c38
                    have HC39 := Aside0.mk H
                    clear H
                    have p40 : (0 ≤ (x12_3 : Int)) = True := eq_true (of_decide_eq_true (by first | (with_reducible assumption) | assumption))
                    have q40 : ((x12_3 : Int) < 4) = True := eq_true (of_decide_eq_true (by first | (with_reducible assumption) | assumption))
                    have p41 : (0 ≤ (x13_4 : Int)) = True := eq_true (of_decide_eq_true (by first | (with_reducible assumption) | assumption))
                    have q41 : ((x13_4 : Int) < 4) = True := eq_true (of_decide_eq_true (by first | (with_reducible assumption) | assumption))
                    have hx42_0 : wr.cell? ⟨gb226, x12_3.toNat * 4 + x13_4.toNat, none⟩ = some (.int .i64 (ix4 (ix4 t209 t210 t211 t212 x13_4) (ix4 t213 t214 t215 t216 x13_4) (ix4 t217 t218 t219 t220 x13_4) (ix4 t221 t222 t223 t224 x13_4) x12_3)) := (blk_cell BK226.out (x12_3.toNat * 4 + x13_4.toNat)).trans (ix_44 (Value.int .i64) _ _ _ _ _ _ _ _ _ _ _ _ _ _ _ _ x12_3 x13_4  (of_decide_eq_true (by first | (with_reducible assumption) | assumption)) (of_decide_eq_true (by first | (with_reducible assumption) | assumption))  (of_decide_eq_true (by first | (with_reducible assumption) | assumption)) (of_decide_eq_true (by first | (with_reducible assumption) | assumption)))
                    go_upto_region 20 with (fail)
                    go_cut [87] (fun v87 wc => ∃ (kq : Nat) (x87_38 : Bool), v87 = .bool x87_38 ∧ Aside0 (watchwordlaw20_GraphLess.j4 kq (wrap64 (((rd_T57 l0 (ji13)).f0) - 1)) x12_3 x13_4 (ix4 (ix4 t209 t210 t211 t212 x13_4) (ix4 t213 t214 t215 t216 x13_4) (ix4 t217 t218 t219 t220 x13_4) (ix4 t221 t222 t223 t224 x13_4) x12_3) x87_38 t209 t210 t211 t212 t213 t214 t215 t216 t217 t218 t219 t220 t221 t222 t223 t224 t227 t228 t229 t230 t231 t232 t233 t234 t235 t236 t237 t238 t239 t240 t241 t242 = some r) ∧ Aside0 (kq ≤ k4) ∧ Aside0 (wc.heap[gb226]? = some (.cells #[.int .i64 t209, .int .i64 t210, .int .i64 t211, .int .i64 t212, .int .i64 t213, .int .i64 t214, .int .i64 t215, .int .i64 t216, .int .i64 t217, .int .i64 t218, .int .i64 t219, .int .i64 t220, .int .i64 t221, .int .i64 t222, .int .i64 t223, .int .i64 t224] 23 (0, 0))) ∧ Aside0 (wc.heap[gb244]? = some (.cells #[.int .i64 t227, .int .i64 t228, .int .i64 t229, .int .i64 t230, .int .i64 t231, .int .i64 t232, .int .i64 t233, .int .i64 t234, .int .i64 t235, .int .i64 t236, .int .i64 t237, .int .i64 t238, .int .i64 t239, .int .i64 t240, .int .i64 t241, .int .i64 t242] 23 (0, 0))) ∧ Aside0 (Below w.heap.size w wc))
                    case first =>
                     have H := HC39.out
                     clear HC39
                     by_cases c43 : x12_3 = (wrap64 (((rd_T57 l0 (ji13)).f0) - 1))
                     ·rw [if_pos c43] at H
                      have c43b0 : (x12_3 == (wrap64 (((rd_T57 l0 (ji13)).f0) - 1))) = true := beq_iff_eq.mpr c43
                      have c43b1 : (x12_3 != (wrap64 (((rd_T57 l0 (ji13)).f0) - 1))) = false := bne_eq_false_iff_eq.mpr c43
                      clear c43
                      (first | rw [c43b0] | (simp only [i64_w, i32_w]; rw [c43b0]) | skip)
                      have H' := Aside0.mk H
                      clear H
                      go_wp2
                      go_meet
                      case rel => exact ⟨_, (true), (by first | rfl | (simp; done) | (simp [*]; done)), H', ⟨by have := HJ4.out; have := HJ17.out; have := HK3.out; have := HK4.out; first | omega | exact Nat.le_refl _⟩, ⟨by (with_reducible repeat (first | refine blk_drewN ?_ _ | refine blk_drew ?_ | refine blk_alloc ?_ _)); exact BK226.out⟩, ⟨by (with_reducible repeat (first | refine blk_drewN ?_ _ | refine blk_drew ?_ | refine blk_alloc ?_ _)); exact BK244.out⟩, ⟨by repeat (first | (with_reducible first | exact HB.out | apply below_alloc | apply pw_below_drewN | apply below_drew1 | refine below_set ?_ GE226.out | refine below_set ?_ GE244.out) | exact HB.out)⟩⟩
                     ·rw [if_neg c43] at H
                      have c43b0 : (x12_3 == (wrap64 (((rd_T57 l0 (ji13)).f0) - 1))) = false := beq_eq_false_iff_ne.mpr c43
                      have c43b1 : (x12_3 != (wrap64 (((rd_T57 l0 (ji13)).f0) - 1))) = true := bne_iff_ne.mpr c43
                      (first | rw [c43b0] | (simp only [i64_w, i32_w]; rw [c43b0]) | skip)
                      have H' := Aside0.mk H
                      clear H
                      go_wp2
                      go_meet
                      case rel => exact ⟨_, ((x13_4 == (wrap64 (((rd_T57 l0 (ji13)).f0) - 1)))), (by first | rfl | (simp; done) | (simp only [← hji13] <;> (first | rfl | simp)) | (simp [*]; done)), H', ⟨by have := HJ4.out; have := HJ17.out; have := HK3.out; have := HK4.out; first | omega | exact Nat.le_refl _⟩, ⟨by (with_reducible repeat (first | refine blk_drewN ?_ _ | refine blk_drew ?_ | refine blk_alloc ?_ _)); exact BK226.out⟩, ⟨by (with_reducible repeat (first | refine blk_drewN ?_ _ | refine blk_drew ?_ | refine blk_alloc ?_ _)); exact BK244.out⟩, ⟨by repeat (first | (with_reducible first | exact HB.out | apply below_alloc | apply pw_below_drewN | apply below_drew1 | refine below_set ?_ GE226.out | refine below_set ?_ GE244.out) | exact HB.out)⟩⟩
                    case rest =>
                     clear HC39
                     try clear c1
                     try clear c2
                     try clear p2
                     try clear q2
                     try clear hx2
                     try clear c3
                     try clear c4
                     try clear p4
                     try clear q4
                     try clear hx4
                     try clear p6
                     try clear c8
                     try clear c11
                     try clear c12
                     try clear c12b0
                     try clear c12b1
                     try clear c14
                     try clear c14b0
                     try clear c15
                     try clear c15b0
                     try clear c16
                     try clear c20
                     try clear p20
                     try clear q20
                     try clear hx20
                     try clear c21
                     try clear c25
                     try clear c26
                     try clear c27
                     try clear c31
                     try clear c31b0
                     try clear c31b1
                     try clear c33
                     try clear c34
                     try clear c34b0
                     try clear c35
                     try clear c35b0
                     try clear c36
                     try clear c36b0
                     try clear c37
                     try clear c37b0
                     try clear c38
                     try clear c38b0
                     try clear p40
                     try clear q40
                     try clear p41
                     try clear q41
                     try clear hx42
                     try clear c43
                     try clear c43b0
                     try clear c43b1
                     try clear hcz23_0
                     try clear hcz23_1
                     try clear hcz23_10
                     try clear hcz23_11
                     try clear hcz23_12
                     try clear hcz23_13
                     try clear hcz23_14
                     try clear hcz23_15
                     try clear hcz23_2
                     try clear hcz23_3
                     try clear hcz23_4
                     try clear hcz23_5
                     try clear hcz23_6
                     try clear hcz23_7
                     try clear hcz23_8
                     try clear hcz23_9
                     try clear hcz28_0
                     try clear hcz28_1
                     try clear hcz28_10
                     try clear hcz28_11
                     try clear hcz28_12
                     try clear hcz28_13
                     try clear hcz28_14
                     try clear hcz28_15
                     try clear hcz28_2
                     try clear hcz28_3
                     try clear hcz28_4
                     try clear hcz28_5
                     try clear hcz28_6
                     try clear hcz28_7
                     try clear hcz28_8
                     try clear hcz28_9
                     try clear hfz23_0
                     try clear hfz28_0
                     try clear hx205_0
                     try clear hx205_1
                     try clear hx205_2
                     try clear hx205_3
                     try clear hx42_0
                     try clear p2
                     try clear p20
                     try clear p205
                     try clear p40
                     try clear p41
                     try clear p6
                     try clear q2
                     try clear q20
                     try clear q205
                     try clear q40
                     try clear q41
                     obtain ⟨kq, x87_38, rfl, HA, HJ38, BK226, BK244, HB⟩ := hcut
                     cases kq with
                     | zero => exact absurd HA.out (by simp [watchwordlaw20_GraphLess.j4])
                     | succ kj38 =>
                      have H := HA.out
                      clear HA
                      simp only [watchwordlaw20_GraphLess.j4] at H
                      by_cases c44 : x87_38 = true
                      ·subst c44
                       have H1 : (if 0 ≤ x12_3 then (if x12_3 < 4 then (if 0 ≤ x13_4 then (if x13_4 < 4 then (if (ix4 (ix4 t227 t228 t229 t230 x13_4) (ix4 t231 t232 t233 t234 x13_4) (ix4 t235 t236 t237 t238 x13_4) (ix4 t239 t240 t241 t242 x13_4) x12_3) = 0 then (watchwordlaw20_GraphLess.l1 kj38 (wrap64 (((rd_T57 l0 (ji13)).f0) - 1)) x12_3 (wrap64 (x13_4 + 1)) t209 t210 t211 t212 t213 t214 t215 t216 t217 t218 t219 t220 t221 t222 t223 t224 t227 t228 t229 t230 t231 t232 t233 t234 t235 t236 t237 t238 t239 t240 t241 t242) else (some false)) else (none)) else (none)) else (none)) else (none)) = some r := by rw [if_pos rfl] at H; exact H
                       clear H
                       have H := H1
                       clear H1
                       by_cases c45 : 0 ≤ x12_3
                       ·rw [if_pos c45] at H
                        have c45b0 : decide (0 ≤ x12_3) = true := decide_eq_true c45
                        clear c45
                        by_cases c46 : x12_3 < 4
                        ·rw [if_pos c46] at H
                         have c46b0 : decide (x12_3 < 4) = true := decide_eq_true c46
                         clear c46
                         by_cases c47 : 0 ≤ x13_4
                         ·rw [if_pos c47] at H
                          have c47b0 : decide (0 ≤ x13_4) = true := decide_eq_true c47
                          clear c47
                          by_cases c48 : x13_4 < 4
                          ·rw [if_pos c48] at H
                           have c48b0 : decide (x13_4 < 4) = true := decide_eq_true c48
                           clear c48
                           by_cases c49 : (ix4 (ix4 t227 t228 t229 t230 x13_4) (ix4 t231 t232 t233 t234 x13_4) (ix4 t235 t236 t237 t238 x13_4) (ix4 t239 t240 t241 t242 x13_4) x12_3) = 0
                           ·rw [if_pos c49] at H
                            have c49b0 : ((ix4 (ix4 t227 t228 t229 t230 x13_4) (ix4 t231 t232 t233 t234 x13_4) (ix4 t235 t236 t237 t238 x13_4) (ix4 t239 t240 t241 t242 x13_4) x12_3) == 0) = true := beq_iff_eq.mpr c49
                            have c49b1 : ((ix4 (ix4 t227 t228 t229 t230 x13_4) (ix4 t231 t232 t233 t234 x13_4) (ix4 t235 t236 t237 t238 x13_4) (ix4 t239 t240 t241 t242 x13_4) x12_3) != 0) = false := bne_eq_false_iff_eq.mpr c49
                            clear c49
                            have H' := Aside0.mk H
                            clear H
                            have p50 : (0 ≤ (x12_3 : Int)) = True := eq_true (of_decide_eq_true (by first | (with_reducible assumption) | assumption))
                            have q50 : ((x12_3 : Int) < 4) = True := eq_true (of_decide_eq_true (by first | (with_reducible assumption) | assumption))
                            have p51 : (0 ≤ (x13_4 : Int)) = True := eq_true (of_decide_eq_true (by first | (with_reducible assumption) | assumption))
                            have q51 : ((x13_4 : Int) < 4) = True := eq_true (of_decide_eq_true (by first | (with_reducible assumption) | assumption))
                            have hx52_0 : wc.cell? ⟨gb244, x12_3.toNat * 4 + x13_4.toNat, none⟩ = some (.int .i64 (ix4 (ix4 t227 t228 t229 t230 x13_4) (ix4 t231 t232 t233 t234 x13_4) (ix4 t235 t236 t237 t238 x13_4) (ix4 t239 t240 t241 t242 x13_4) x12_3)) := (blk_cell BK244.out (x12_3.toNat * 4 + x13_4.toNat)).trans (ix_44 (Value.int .i64) _ _ _ _ _ _ _ _ _ _ _ _ _ _ _ _ x12_3 x13_4  (of_decide_eq_true (by first | (with_reducible assumption) | assumption)) (of_decide_eq_true (by first | (with_reducible assumption) | assumption))  (of_decide_eq_true (by first | (with_reducible assumption) | assumption)) (of_decide_eq_true (by first | (with_reducible assumption) | assumption)))
                            go_wp2
                            go_roundg kj38
                            case measure => have := HJ4.out; have := HJ17.out; have := HK3.out; have := HK4.out; have := HJ38.out; omega
                            case rel => exact ⟨(wrap64 (x13_4 + 1)), (by first | rfl | (simp; done) | (simp [*]; done)), H', ⟨by have := HJ4.out; have := HJ17.out; have := HK3.out; have := HK4.out; have := HJ38.out; omega⟩, ⟨by (with_reducible repeat (first | refine blk_drewN ?_ _ | refine blk_drew ?_ | refine blk_alloc ?_ _)); exact BK226.out⟩, ⟨by (with_reducible repeat (first | refine blk_drewN ?_ _ | refine blk_drew ?_ | refine blk_alloc ?_ _)); exact BK244.out⟩, ⟨by repeat (first | (with_reducible first | exact HB.out | apply below_alloc | apply pw_below_drewN | apply below_drew1 | refine below_set ?_ GE226.out | refine below_set ?_ GE244.out) | exact HB.out)⟩⟩
                           ·rw [if_neg c49] at H
                            have c49b0 : ((ix4 (ix4 t227 t228 t229 t230 x13_4) (ix4 t231 t232 t233 t234 x13_4) (ix4 t235 t236 t237 t238 x13_4) (ix4 t239 t240 t241 t242 x13_4) x12_3) == 0) = false := beq_eq_false_iff_ne.mpr c49
                            have c49b1 : ((ix4 (ix4 t227 t228 t229 t230 x13_4) (ix4 t231 t232 t233 t234 x13_4) (ix4 t235 t236 t237 t238 x13_4) (ix4 t239 t240 t241 t242 x13_4) x12_3) != 0) = true := bne_iff_ne.mpr c49
                            exact absurd (Option.some.inj H) (by rw [HT.out]; decide)
                          ·rw [if_neg c48] at H
                           exact absurd H (by simp)
                         ·rw [if_neg c47] at H
                          exact absurd H (by simp)
                        ·rw [if_neg c46] at H
                         exact absurd H (by simp)
                       ·rw [if_neg c45] at H
                        exact absurd H (by simp)
                      ·replace c44 := Bool.eq_false_iff.mpr c44
                       subst c44
                       have H1 : (if 0 ≤ x12_3 then (if x12_3 < 4 then (if 0 ≤ x13_4 then (if x13_4 < 4 then (if (ix4 (ix4 t227 t228 t229 t230 x13_4) (ix4 t231 t232 t233 t234 x13_4) (ix4 t235 t236 t237 t238 x13_4) (ix4 t239 t240 t241 t242 x13_4) x12_3) = (ix4 (ix4 t209 t210 t211 t212 x13_4) (ix4 t213 t214 t215 t216 x13_4) (ix4 t217 t218 t219 t220 x13_4) (ix4 t221 t222 t223 t224 x13_4) x12_3) then (watchwordlaw20_GraphLess.l1 kj38 (wrap64 (((rd_T57 l0 (ji13)).f0) - 1)) x12_3 (wrap64 (x13_4 + 1)) t209 t210 t211 t212 t213 t214 t215 t216 t217 t218 t219 t220 t221 t222 t223 t224 t227 t228 t229 t230 t231 t232 t233 t234 t235 t236 t237 t238 t239 t240 t241 t242) else (some false)) else (none)) else (none)) else (none)) else (none)) = some r := by rw [if_neg (show ¬ (false = true) by decide)] at H; exact H
                       clear H
                       have H := H1
                       clear H1
                       by_cases c53 : 0 ≤ x12_3
                       ·rw [if_pos c53] at H
                        have c53b0 : decide (0 ≤ x12_3) = true := decide_eq_true c53
                        clear c53
                        by_cases c54 : x12_3 < 4
                        ·rw [if_pos c54] at H
                         have c54b0 : decide (x12_3 < 4) = true := decide_eq_true c54
                         clear c54
                         by_cases c55 : 0 ≤ x13_4
                         ·rw [if_pos c55] at H
                          have c55b0 : decide (0 ≤ x13_4) = true := decide_eq_true c55
                          clear c55
                          by_cases c56 : x13_4 < 4
                          ·rw [if_pos c56] at H
                           have c56b0 : decide (x13_4 < 4) = true := decide_eq_true c56
                           clear c56
                           by_cases c57 : (ix4 (ix4 t227 t228 t229 t230 x13_4) (ix4 t231 t232 t233 t234 x13_4) (ix4 t235 t236 t237 t238 x13_4) (ix4 t239 t240 t241 t242 x13_4) x12_3) = (ix4 (ix4 t209 t210 t211 t212 x13_4) (ix4 t213 t214 t215 t216 x13_4) (ix4 t217 t218 t219 t220 x13_4) (ix4 t221 t222 t223 t224 x13_4) x12_3)
                           ·rw [if_pos c57] at H
                            have c57b0 : ((ix4 (ix4 t227 t228 t229 t230 x13_4) (ix4 t231 t232 t233 t234 x13_4) (ix4 t235 t236 t237 t238 x13_4) (ix4 t239 t240 t241 t242 x13_4) x12_3) == (ix4 (ix4 t209 t210 t211 t212 x13_4) (ix4 t213 t214 t215 t216 x13_4) (ix4 t217 t218 t219 t220 x13_4) (ix4 t221 t222 t223 t224 x13_4) x12_3)) = true := beq_iff_eq.mpr c57
                            have c57b1 : ((ix4 (ix4 t227 t228 t229 t230 x13_4) (ix4 t231 t232 t233 t234 x13_4) (ix4 t235 t236 t237 t238 x13_4) (ix4 t239 t240 t241 t242 x13_4) x12_3) != (ix4 (ix4 t209 t210 t211 t212 x13_4) (ix4 t213 t214 t215 t216 x13_4) (ix4 t217 t218 t219 t220 x13_4) (ix4 t221 t222 t223 t224 x13_4) x12_3)) = false := bne_eq_false_iff_eq.mpr c57
                            clear c57
                            have H' := Aside0.mk H
                            clear H
                            have p58 : (0 ≤ (x12_3 : Int)) = True := eq_true (of_decide_eq_true (by first | (with_reducible assumption) | assumption))
                            have q58 : ((x12_3 : Int) < 4) = True := eq_true (of_decide_eq_true (by first | (with_reducible assumption) | assumption))
                            have p59 : (0 ≤ (x13_4 : Int)) = True := eq_true (of_decide_eq_true (by first | (with_reducible assumption) | assumption))
                            have q59 : ((x13_4 : Int) < 4) = True := eq_true (of_decide_eq_true (by first | (with_reducible assumption) | assumption))
                            have hx60_0 : wc.cell? ⟨gb244, x12_3.toNat * 4 + x13_4.toNat, none⟩ = some (.int .i64 (ix4 (ix4 t227 t228 t229 t230 x13_4) (ix4 t231 t232 t233 t234 x13_4) (ix4 t235 t236 t237 t238 x13_4) (ix4 t239 t240 t241 t242 x13_4) x12_3)) := (blk_cell BK244.out (x12_3.toNat * 4 + x13_4.toNat)).trans (ix_44 (Value.int .i64) _ _ _ _ _ _ _ _ _ _ _ _ _ _ _ _ x12_3 x13_4  (of_decide_eq_true (by first | (with_reducible assumption) | assumption)) (of_decide_eq_true (by first | (with_reducible assumption) | assumption))  (of_decide_eq_true (by first | (with_reducible assumption) | assumption)) (of_decide_eq_true (by first | (with_reducible assumption) | assumption)))
                            go_wp2
                            go_roundg kj38
                            case measure => have := HJ4.out; have := HJ17.out; have := HK3.out; have := HK4.out; have := HJ38.out; omega
                            case rel => exact ⟨(wrap64 (x13_4 + 1)), (by first | rfl | (simp; done) | (simp [*]; done)), H', ⟨by have := HJ4.out; have := HJ17.out; have := HK3.out; have := HK4.out; have := HJ38.out; omega⟩, ⟨by (with_reducible repeat (first | refine blk_drewN ?_ _ | refine blk_drew ?_ | refine blk_alloc ?_ _)); exact BK226.out⟩, ⟨by (with_reducible repeat (first | refine blk_drewN ?_ _ | refine blk_drew ?_ | refine blk_alloc ?_ _)); exact BK244.out⟩, ⟨by repeat (first | (with_reducible first | exact HB.out | apply below_alloc | apply pw_below_drewN | apply below_drew1 | refine below_set ?_ GE226.out | refine below_set ?_ GE244.out) | exact HB.out)⟩⟩
                           ·rw [if_neg c57] at H
                            have c57b0 : ((ix4 (ix4 t227 t228 t229 t230 x13_4) (ix4 t231 t232 t233 t234 x13_4) (ix4 t235 t236 t237 t238 x13_4) (ix4 t239 t240 t241 t242 x13_4) x12_3) == (ix4 (ix4 t209 t210 t211 t212 x13_4) (ix4 t213 t214 t215 t216 x13_4) (ix4 t217 t218 t219 t220 x13_4) (ix4 t221 t222 t223 t224 x13_4) x12_3)) = false := beq_eq_false_iff_ne.mpr c57
                            have c57b1 : ((ix4 (ix4 t227 t228 t229 t230 x13_4) (ix4 t231 t232 t233 t234 x13_4) (ix4 t235 t236 t237 t238 x13_4) (ix4 t239 t240 t241 t242 x13_4) x12_3) != (ix4 (ix4 t209 t210 t211 t212 x13_4) (ix4 t213 t214 t215 t216 x13_4) (ix4 t217 t218 t219 t220 x13_4) (ix4 t221 t222 t223 t224 x13_4) x12_3)) = true := bne_iff_ne.mpr c57
                            exact absurd (Option.some.inj H) (by rw [HT.out]; decide)
                          ·rw [if_neg c56] at H
                           exact absurd H (by simp)
                         ·rw [if_neg c55] at H
                          exact absurd H (by simp)
                        ·rw [if_neg c54] at H
                         exact absurd H (by simp)
                       ·rw [if_neg c53] at H
                        exact absurd H (by simp)
                   ·rw [if_neg c38] at H
                    exact absurd H (by simp)
                  ·rw [if_neg c37] at H
                   exact absurd H (by simp)
                 ·rw [if_neg c36] at H
                  exact absurd H (by simp)
                ·rw [if_neg c35] at H
                 have c35b0 : decide (x13_4 < 4) = false := decide_eq_false c35
                 clear c35
                 have H' := Aside0.mk H
                 clear H
                 go_wp2
                 go_roundg k4
                 case measure => have := HJ4.out; have := HJ17.out; have := HK3.out; have := HK4.out; omega
                 case rel => exact ⟨(wrap64 (x12_3 + 1)), (by first | rfl | (simp; done) | (simp [*]; done)), H', ⟨by have := HJ4.out; have := HJ17.out; have := HK3.out; have := HK4.out; omega⟩, ⟨by (with_reducible repeat (first | refine blk_drewN ?_ _ | refine blk_drew ?_ | refine blk_alloc ?_ _)); exact BK226.out⟩, ⟨by (with_reducible repeat (first | refine blk_drewN ?_ _ | refine blk_drew ?_ | refine blk_alloc ?_ _)); exact BK244.out⟩, ⟨by repeat (first | (with_reducible first | exact HB.out | apply below_alloc | apply pw_below_drewN | apply below_drew1 | refine below_set ?_ GE226.out | refine below_set ?_ GE244.out) | exact HB.out)⟩⟩
             ·rw [if_neg c34] at H
              have c34b0 : decide (x12_3 < 4) = false := decide_eq_false c34
              clear c34
              obtain rfl := Option.some.inj H
              go_wp2
              go_ret
              exact ⟨by first | rfl | (simp [errW_none, errW_some] <;> rfl) | (simp only [← hji13]; first | rfl | (simp [errW_none, errW_some] <;> rfl)) | (simp [*, errW_none, errW_some] <;> rfl), by repeat (first | (with_reducible first | exact HB.out | apply below_alloc | apply pw_below_drewN | apply below_drew1 | refine below_set ?_ GE226.out | refine below_set ?_ GE244.out) | exact HB.out)⟩
       ·rw [if_neg c15] at H
        exact absurd H (by simp)
      ·rw [if_neg c14] at H
       exact absurd H (by simp)
 ·replace c4 := Bool.eq_false_iff.mpr c4
  subst c4
  have H1 : (some false) = some r := by rw [if_neg (show ¬ (false = true) by decide)] at H; exact H
  clear H
  have H := H1
  clear H1
  exact absurd (Option.some.inj H) (by rw [HT.out]; decide)

end Go.Proofs.Ytjbejbehbjhecaa.Q20
namespace Go.Proofs.Ytjbejbehbjhecaa.Base
open Go.RowKit Go.Proofs.YtjbejbehbjhecaaW.PrintWords Go.Proofs.YtjbejbehbjhecaaW.PrintLast Go.Proofs.YtjbejbehbjhecaaW.PrintMore
set_option linter.unusedVariables false

/-! ### Texts as_ lists of numbers -/
def B (s : ByteArray) : List Int := s.data.toList.map fun b => (b.toNat : Int)
def Byt (l : List Int) : Prop := ∀ x ∈ l, 0 ≤ x ∧ x < 256
theorem B_len (s : ByteArray) : (B s).length = s.size := by simp [B]
theorem B_byt (s : ByteArray) : Byt (B s) := by
  intro x hx
  simp only [B, List.mem_map] at hx
  obtain ⟨b, _, rfl⟩ := hx
  have := b.toNat_lt
  omega
theorem map_toNat_inj : ∀ {l l' : List UInt8}, l.map (fun b => (b.toNat : Int)) = l'.map (fun b => (b.toNat : Int)) → l = l'
  | [], [], _ => rfl
  | [], _ :: _, h => by simp at h
  | _ :: _, [], h => by simp at h
  | a :: l, b :: l', h => by
    simp only [List.map_cons, List.cons.injEq] at h
    obtain ⟨h1, h2⟩ := h
    have : a = b := UInt8.toNat_inj.mp (by exact_mod_cast h1)
    rw [this, map_toNat_inj h2]
theorem B_inj {s t : ByteArray} (h : B s = B t) : s = t := by
  have := map_toNat_inj h
  cases s; cases t
  simp only [ByteArray.mk.injEq]
  exact Array.toList_inj.mp this
theorem toList_iff (s t : ByteArray) : s.toList = t.toList ↔ B s = B t := by
  rw [Lib.toList_data, Lib.toList_data]
  constructor
  · intro h; simp only [B, h]
  · exact map_toNat_inj
theorem toList_iff_lit (s : ByteArray) (l : List UInt8) : s.toList = l ↔ B s = l.map (fun b => (b.toNat : Int)) := by
  rw [Lib.toList_data]
  constructor
  · intro h; simp only [B, h]
  · exact map_toNat_inj
theorem B_append (s t : ByteArray) : B (s ++ t) = B s ++ B t := by simp [B, ByteArray.data_append]
theorem B_mk (a : Array UInt8) : B ⟨a⟩ = a.toList.map (fun b => (b.toNat : Int)) := rfl
theorem B_strOf {l : List Int} (h : Byt l) : B (strOfNums l) = l := by
  unfold B strOfNums
  simp only [List.map_map]
  conv => rhs; rw [← List.map_id l]
  apply List.map_congr_left
  intro x hx
  obtain ⟨h0, h1⟩ := h x hx
  simp only [Function.comp, id, UInt8.toNat_ofNat']
  omega
theorem strOf_B (s : ByteArray) : strOfNums (B s) = s := B_inj (B_strOf (B_byt s))
theorem strOf_size (l : List Int) : (strOfNums l).size = l.length := by show (Array.size _) = _; simp
theorem strOf_append (l l' : List Int) : strOfNums l ++ strOfNums l' = strOfNums (l ++ l') := by
  have : (strOfNums l ++ strOfNums l').data = (strOfNums (l ++ l')).data := by simp [strOfNums, ByteArray.data_append]
  exact ByteArray.ext this
theorem B_extract (s : ByteArray) (a b : Nat) : B (s.extract a b) = ((B s).drop a).take (b - a) := by
  unfold B
  rw [Lib.extract_data, List.map_take, List.map_drop]
theorem bt_B (s : ByteArray) (i : Int) : bt s i = (B s).getD i.toNat 0 := by
  unfold bt B
  split
  · rename_i h
    rw [List.getD_eq_getElem?_getD, List.getElem?_map]
    have : i.toNat < s.data.toList.length := by simpa using h
    rw [List.getElem?_eq_getElem this]
    rfl
  · rename_i h
    rw [List.getD_eq_getElem?_getD, List.getElem?_map]
    have : s.data.toList.length ≤ i.toNat := by simp only [Array.length_toList]; have : s.size = s.data.size := rfl; omega
    rw [List.getElem?_eq_none this]
    rfl
theorem byt_mod (x : Int) : 0 ≤ x % 256 ∧ x % 256 < 256 := by omega
theorem byt_nil : Byt [] := fun _ h => by cases h
theorem byt_cons {x : Int} {l : List Int} (h : 0 ≤ x ∧ x < 256) (hl : Byt l) : Byt (x :: l) := by
  intro y hy
  rcases List.mem_cons.mp hy with rfl | hy
  · exact h
  · exact hl y hy
theorem byt_append {l l' : List Int} (h : Byt l) (h' : Byt l') : Byt (l ++ l') := by
  intro y hy
  rcases List.mem_append.mp hy with hy | hy
  · exact h y hy
  · exact h' y hy
theorem byt_take {l : List Int} (n : Nat) (h : Byt l) : Byt (l.take n) := fun y hy => h y (List.mem_of_mem_take hy)
theorem byt_drop {l : List Int} (n : Nat) (h : Byt l) : Byt (l.drop n) := fun y hy => h y (List.mem_of_mem_drop hy)

/-! ### Numbers in bytes -/
def e1 (x : Int) : List Int := [x % 256]
def e2 (x : Int) : List Int := [x / 256 % 256, x % 256]
def e4 (x : Int) : List Int := [x / 16777216 % 256, x / 65536 % 256, x / 256 % 256, x % 256]
theorem e1_byt (x : Int) : Byt (e1 x) := byt_cons (byt_mod _) byt_nil
theorem e2_byt (x : Int) : Byt (e2 x) := byt_cons (byt_mod _) (byt_cons (byt_mod _) byt_nil)
theorem e4_byt (x : Int) : Byt (e4 x) := byt_cons (byt_mod _) (byt_cons (byt_mod _) (byt_cons (byt_mod _) (byt_cons (byt_mod _) byt_nil)))
theorem e1_len (x : Int) : (e1 x).length = 1 := rfl
theorem e2_len (x : Int) : (e2 x).length = 2 := rfl
theorem e4_len (x : Int) : (e4 x).length = 4 := rfl
def num (l : List Int) : Int := l.foldl (fun a b => a * 256 + b) 0
theorem num_two (a b : Int) : num [a, b] = a * 256 + b := by simp [num]
theorem num_four (a b c d : Int) : num [a, b, c, d] = a * 16777216 + b * 65536 + c * 256 + d := by simp [num]; omega
theorem num_e2 {x : Int} (h0 : 0 ≤ x) (h1 : x < 65536) : num (e2 x) = x := by unfold e2; rw [num_two]; omega
theorem num_e4 {x : Int} (h0 : 0 ≤ x) (h1 : x < 4294967296) : num (e4 x) = x := by unfold e4; rw [num_four]; omega
theorem e2_num {a b : Int} (ha : 0 ≤ a ∧ a < 256) (hb : 0 ≤ b ∧ b < 256) : e2 (num [a, b]) = [a, b] := by
  rw [num_two]; unfold e2
  simp only [List.cons.injEq, and_true]
  omega
theorem e4_num {a b c d : Int} (ha : 0 ≤ a ∧ a < 256) (hb : 0 ≤ b ∧ b < 256) (hc : 0 ≤ c ∧ c < 256) (hd : 0 ≤ d ∧ d < 256) : e4 (num [a, b, c, d]) = [a, b, c, d] := by
  rw [num_four]; unfold e4
  simp only [List.cons.injEq, and_true]
  omega
theorem num_two_range {a b : Int} (ha : 0 ≤ a ∧ a < 256) (hb : 0 ≤ b ∧ b < 256) : 0 ≤ num [a, b] ∧ num [a, b] < 65536 := by rw [num_two]; omega
theorem num_four_range {a b c d : Int} (ha : 0 ≤ a ∧ a < 256) (hb : 0 ≤ b ∧ b < 256) (hc : 0 ≤ c ∧ c < 256) (hd : 0 ≤ d ∧ d < 256) : 0 ≤ num [a, b, c, d] ∧ num [a, b, c, d] < 4294967296 := by rw [num_four]; omega
theorem e2_inj {x y : Int} (hx : 0 ≤ x ∧ x < 65536) (hy : 0 ≤ y ∧ y < 65536) (h : e2 x = e2 y) : x = y := by
  have := congrArg num h
  rwa [num_e2 hx.1 hx.2, num_e2 hy.1 hy.2] at this
theorem e4_inj {x y : Int} (hx : 0 ≤ x ∧ x < 4294967296) (hy : 0 ≤ y ∧ y < 4294967296) (h : e4 x = e4 y) : x = y := by
  have := congrArg num h
  rwa [num_e4 hx.1 hx.2, num_e4 hy.1 hy.2] at this

/-! ### Bits -/
theorem wrap_id {x : Int} (h0 : -9223372036854775808 ≤ x) (h1 : x ≤ 9223372036854775807) : wrap64 x = x := by unfold wrap64; omega
theorem wraps_i64 (n : Int) (h₀ : 0 ≤ n) (h₁ : n < 2 ^ 63) : IntKind.i64.wrap n = n := by rw [IntKind.wrap_i64]; omega
theorem or_byte {x y : Int} (hx₀ : 0 ≤ x) (hx₁ : x < 9223372036854775808) (hx : x % 256 = 0) (h₀ : 0 ≤ y) (h₁ : y < 256) : Go.bits .or .i64 x y = x + y :=
  bits_join .i64 63 (by decide) wraps_i64 8 x y hx₀ hx hx₁ h₀ h₁ (by omega)
theorem and_mask (i : Nat) (hi : i ≤ 62) (n : Int) : Go.bits .and .i64 n ((2 ^ i - 1 : Nat) : Int) = n % ((2 ^ i : Nat) : Int) := by
  have hp : 2 ^ i ≤ 2 ^ 62 := Nat.pow_le_pow_right (by decide) hi
  have hpos : 0 < 2 ^ i := Nat.two_pow_pos i
  have hm : (BitVec.ofInt 64 ((2 ^ i - 1 : Nat) : Int)).toNat = 2 ^ i - 1 := by
    rw [BitVec.ofInt_natCast, BitVec.toNat_ofNat]
    apply Nat.mod_eq_of_lt
    omega
  have key : (BitVec.ofInt 64 n &&& BitVec.ofInt 64 ((2 ^ i - 1 : Nat) : Int)).toNat = (n % ((2 ^ 64 : Nat) : Int)).toNat % 2 ^ i := by
    rw [BitVec.toNat_and, BitVec.toNat_ofInt, hm, Nat.and_two_pow_sub_one_eq_mod]
  show IntKind.i64.wrap ((BitVec.ofInt 64 n &&& BitVec.ofInt 64 ((2 ^ i - 1 : Nat) : Int)).toNat : Nat) = _
  rw [key]
  have hd : ((2 ^ i : Nat) : Int) ∣ ((2 ^ 64 : Nat) : Int) := by
    have : (2 ^ i) ∣ (2 ^ 64) := Nat.pow_dvd_pow 2 (by omega)
    exact_mod_cast this
  have h2 : (((n % ((2 ^ 64 : Nat) : Int)).toNat % 2 ^ i : Nat) : Int) = n % ((2 ^ i : Nat) : Int) := by
    rw [Int.natCast_emod, Int.toNat_of_nonneg (by omega), Int.emod_emod_of_dvd _ hd]
  rw [h2]
  have hlt : n % ((2 ^ i : Nat) : Int) < ((2 ^ i : Nat) : Int) := Int.emod_lt_of_pos _ (by exact_mod_cast hpos)
  have h0 : 0 ≤ n % ((2 ^ i : Nat) : Int) := Int.emod_nonneg _ (by have : ((2 ^ i : Nat) : Int) ≠ 0 := by exact_mod_cast Nat.pos_iff_ne_zero.mp hpos
                                                                   exact this)
  have hle : ((2 ^ i : Nat) : Int) ≤ ((2 ^ 62 : Nat) : Int) := by exact_mod_cast hp
  exact wraps_i64 _ h0 (by have : ((2 ^ 62 : Nat) : Int) < 2 ^ 63 := by decide
                           omega)
theorem and1 (n : Int) : Go.bits .and .i64 n 1 = n % 2 := and_mask 1 (by decide) n
theorem and3 (n : Int) : Go.bits .and .i64 n 3 = n % 4 := and_mask 2 (by decide) n
theorem and15 (n : Int) : Go.bits .and .i64 n 15 = n % 16 := and_mask 4 (by decide) n
theorem and127 (n : Int) : Go.bits .and .i64 n 127 = n % 128 := and_mask 7 (by decide) n
theorem and255 (n : Int) : Go.bits .and .i64 n 255 = n % 256 := and_mask 8 (by decide) n
theorem and1023 (n : Int) : Go.bits .and .i64 n 1023 = n % 1024 := and_mask 10 (by decide) n

theorem empty_list : (⟨#[]⟩ : ByteArray).toList = ([] : List UInt8) := by rw [Lib.toList_data]
def lim : Nat → Int
  | 0 => 1
  | i + 1 => lim i * 256
theorem lim_succ (i : Nat) : lim (i + 1) = lim i * 256 := rfl
theorem lim_le6 {i : Nat} (h : i ≤ 6) : lim i ≤ 281474976710656 := by
  have : i = 0 ∨ i = 1 ∨ i = 2 ∨ i = 3 ∨ i = 4 ∨ i = 5 ∨ i = 6 := by omega
  rcases this with rfl | rfl | rfl | rfl | rfl | rfl | rfl <;> decide
theorem byt_getD {l : List Int} (h : Byt l) (i : Nat) : 0 ≤ l.getD i 0 ∧ l.getD i 0 < 256 := by
  rw [List.getD_eq_getElem?_getD]
  by_cases hi : i < l.length
  · rw [List.getElem?_eq_getElem hi]; exact h _ (List.getElem_mem hi)
  · rw [List.getElem?_eq_none (by omega)]; simp

end Go.Proofs.Ytjbejbehbjhecaa.Base
namespace Go.Proofs.Ytjbejbehbjhecaa.L20
open Go.RowKit Go.Proofs.YtjbejbehbjhecaaW.PrintWords Go.Proofs.YtjbejbehbjhecaaW.PrintMore Go.Proofs.Ytjbejbehbjhecaa.Base Go.Proofs.Ytjbejbehbjhecaa.Q20
set_option linter.unusedVariables false
set_option linter.unusedSimpArgs false
set_option maxRecDepth 100000
structure CostOk (c : Nat → Nat → Int) : Prop where
  range : ∀ i j, i < 4 → j < 4 → 0 ≤ c i j ∧ c i j ≤ 65535
  diag : ∀ i, i < 4 → c i i = 0
abbrev Mat := Nat → Nat → Int
/-- Sixteen cells as_ a matrix. -/
def mk (c0 c1 c2 c3 c4 c5 c6 c7 c8 c9 c10 c11 c12 c13 c14 c15 : Int) : Mat := fun i j => match i, j with
  | 0, 0 => c0 | 0, 1 => c1 | 0, 2 => c2 | 0, 3 => c3
  | 1, 0 => c4 | 1, 1 => c5 | 1, 2 => c6 | 1, 3 => c7
  | 2, 0 => c8 | 2, 1 => c9 | 2, 2 => c10 | 2, 3 => c11
  | 3, 0 => c12 | 3, 1 => c13 | 3, 2 => c14 | 3, 3 => c15
  | _, _ => 0
theorem four {P : Nat → Prop} (h0 : P 0) (h1 : P 1) (h2 : P 2) (h3 : P 3) : ∀ i, i < 4 → P i := by
  intro i hi
  obtain rfl | rfl | rfl | rfl : i = 0 ∨ i = 1 ∨ i = 2 ∨ i = 3 := by omega
  all_goals assumption
/-! #### a matrix read and written -/
theorem sel_at (m : Mat) {a b : Nat} (ha : a < 4) (hb : b < 4) :
    ix4 (ix4 (m 0 0) (m 0 1) (m 0 2) (m 0 3) (b : Int)) (ix4 (m 1 0) (m 1 1) (m 1 2) (m 1 3) (b : Int)) (ix4 (m 2 0) (m 2 1) (m 2 2) (m 2 3) (b : Int)) (ix4 (m 3 0) (m 3 1) (m 3 2) (m 3 3) (b : Int)) (a : Int) = m a b := by
  obtain rfl | rfl | rfl | rfl : a = 0 ∨ a = 1 ∨ a = 2 ∨ a = 3 := by omega
  all_goals (obtain rfl | rfl | rfl | rfl : b = 0 ∨ b = 1 ∨ b = 2 ∨ b = 3 := by omega)
  all_goals rfl
theorem row_at (r : Nat → Int) {b : Nat} (hb : b < 4) : ix4 (r 0) (r 1) (r 2) (r 3) (b : Int) = r b := by
  obtain rfl | rfl | rfl | rfl : b = 0 ∨ b = 1 ∨ b = 2 ∨ b = 3 := by omega
  all_goals rfl
def upd2 (m : Mat) (a b : Nat) (v : Int) : Mat := fun i j => if i = a ∧ j = b then v else m i j
theorem up_at (m : Mat) (a b : Nat) (v : Int) (i j : Nat) : up (((a : Nat) : Int) == ((i : Nat) : Int) && ((b : Nat) : Int) == ((j : Nat) : Int)) v (m i j) = upd2 m a b v i j := by
  unfold up upd2
  by_cases h : i = a ∧ j = b
  · obtain ⟨rfl, rfl⟩ := h; simp
  · rw [if_neg h, if_neg]
    simp only [Bool.and_eq_true, beq_iff_eq, not_and]
    intro e1 e2; exact h ⟨by omega, by omega⟩
theorem ups (m : Mat) (a b : Nat) (v : Int) :
    up (((a : Nat) : Int) == 0 && ((b : Nat) : Int) == 0) v (m 0 0) = upd2 m a b v 0 0 ∧ up (((a : Nat) : Int) == 0 && ((b : Nat) : Int) == 1) v (m 0 1) = upd2 m a b v 0 1 ∧
    up (((a : Nat) : Int) == 0 && ((b : Nat) : Int) == 2) v (m 0 2) = upd2 m a b v 0 2 ∧ up (((a : Nat) : Int) == 0 && ((b : Nat) : Int) == 3) v (m 0 3) = upd2 m a b v 0 3 ∧
    up (((a : Nat) : Int) == 1 && ((b : Nat) : Int) == 0) v (m 1 0) = upd2 m a b v 1 0 ∧ up (((a : Nat) : Int) == 1 && ((b : Nat) : Int) == 1) v (m 1 1) = upd2 m a b v 1 1 ∧
    up (((a : Nat) : Int) == 1 && ((b : Nat) : Int) == 2) v (m 1 2) = upd2 m a b v 1 2 ∧ up (((a : Nat) : Int) == 1 && ((b : Nat) : Int) == 3) v (m 1 3) = upd2 m a b v 1 3 ∧
    up (((a : Nat) : Int) == 2 && ((b : Nat) : Int) == 0) v (m 2 0) = upd2 m a b v 2 0 ∧ up (((a : Nat) : Int) == 2 && ((b : Nat) : Int) == 1) v (m 2 1) = upd2 m a b v 2 1 ∧
    up (((a : Nat) : Int) == 2 && ((b : Nat) : Int) == 2) v (m 2 2) = upd2 m a b v 2 2 ∧ up (((a : Nat) : Int) == 2 && ((b : Nat) : Int) == 3) v (m 2 3) = upd2 m a b v 2 3 ∧
    up (((a : Nat) : Int) == 3 && ((b : Nat) : Int) == 0) v (m 3 0) = upd2 m a b v 3 0 ∧ up (((a : Nat) : Int) == 3 && ((b : Nat) : Int) == 1) v (m 3 1) = upd2 m a b v 3 1 ∧
    up (((a : Nat) : Int) == 3 && ((b : Nat) : Int) == 2) v (m 3 2) = upd2 m a b v 3 2 ∧ up (((a : Nat) : Int) == 3 && ((b : Nat) : Int) == 3) v (m 3 3) = upd2 m a b v 3 3 :=
  ⟨up_at m a b v 0 0, up_at m a b v 0 1, up_at m a b v 0 2, up_at m a b v 0 3, up_at m a b v 1 0, up_at m a b v 1 1, up_at m a b v 1 2, up_at m a b v 1 3,
   up_at m a b v 2 0, up_at m a b v 2 1, up_at m a b v 2 2, up_at m a b v 2 3, up_at m a b v 3 0, up_at m a b v 3 1, up_at m a b v 3 2, up_at m a b v 3 3⟩
theorem next4 {b : Nat} (h : b < 4) : wrap64 ((b : Int) + 1) = ((b + 1 : Nat) : Int) := by unfold wrap64; omega
/-! #### may these costs be -/
def cellOk (a b c : Int) : Bool := decide (0 ≤ c) && decide (c ≤ 65535) && (decide (a ≠ b) || decide (c = 0))
def rowOk (a r0 r1 r2 r3 : Int) : Bool := cellOk a 0 r0 && (cellOk a 1 r1 && (cellOk a 2 r2 && cellOk a 3 r3))
def okC (c0 c1 c2 c3 c4 c5 c6 c7 c8 c9 c10 c11 c12 c13 c14 c15 : Int) : Bool := rowOk 0 c0 c1 c2 c3 && (rowOk 1 c4 c5 c6 c7 && (rowOk 2 c8 c9 c10 c11 && rowOk 3 c12 c13 c14 c15))
def okM (m : Mat) : Bool := okC (m 0 0) (m 0 1) (m 0 2) (m 0 3) (m 1 0) (m 1 1) (m 1 2) (m 1 3) (m 2 0) (m 2 1) (m 2 2) (m 2 3) (m 3 0) (m 3 1) (m 3 2) (m 3 3)
theorem May_step (k : Nat) {a b r0 r1 r2 r3 c0 c1 c2 c3 c4 c5 c6 c7 c8 c9 c10 c11 c12 c13 c14 c15 : Int} (h0 : 0 ≤ b) (h4 : b < 4) :
    graph_May.l1 (k + 1) a a b c0 c1 c2 c3 c4 c5 c6 c7 c8 c9 c10 c11 c12 c13 c14 c15 r0 r1 r2 r3 = if cellOk a b (ix4 r0 r1 r2 r3 b) = true then graph_May.l1 k a a (wrap64 (b + 1)) c0 c1 c2 c3 c4 c5 c6 c7 c8 c9 c10 c11 c12 c13 c14 c15 r0 r1 r2 r3 else some false := by
  simp only [graph_May.l1]
  rw [if_pos h4, if_pos h0]
  generalize ix4 r0 r1 r2 r3 b = x
  unfold cellOk
  by_cases h1 : x < 0
  · rw [if_pos h1, if_neg (by simp; omega)]
  · rw [if_neg h1]
    by_cases h2 : x > 65535
    · rw [if_pos h2, if_neg (by simp; omega)]
    · rw [if_neg h2]
      by_cases h3 : a = b
      · rw [if_pos h3]
        by_cases h5 : x = 0
        · rw [if_pos h5, if_pos (by simp; omega)]
        · rw [if_neg h5, if_neg (by simp; omega)]
      · rw [if_neg h3, if_pos (by simp; omega)]
theorem May_row (k : Nat) {a r0 r1 r2 r3 c0 c1 c2 c3 c4 c5 c6 c7 c8 c9 c10 c11 c12 c13 c14 c15 : Int} :
    graph_May.l1 (k + 5) a a 0 c0 c1 c2 c3 c4 c5 c6 c7 c8 c9 c10 c11 c12 c13 c14 c15 r0 r1 r2 r3 = if rowOk a r0 r1 r2 r3 = true then graph_May.l0 k (wrap64 (a + 1)) c0 c1 c2 c3 c4 c5 c6 c7 c8 c9 c10 c11 c12 c13 c14 c15 else some false := by
  rw [May_step (k + 4) (by decide) (by decide), show wrap64 (0 + 1) = 1 by decide +kernel, show ix4 r0 r1 r2 r3 0 = r0 from rfl,
    May_step (k + 3) (by decide) (by decide), show wrap64 (1 + 1) = 2 by decide +kernel, show ix4 r0 r1 r2 r3 1 = r1 from rfl,
    May_step (k + 2) (by decide) (by decide), show wrap64 (2 + 1) = 3 by decide +kernel, show ix4 r0 r1 r2 r3 2 = r2 from rfl,
    May_step (k + 1) (by decide) (by decide), show wrap64 (3 + 1) = 4 by decide +kernel, show ix4 r0 r1 r2 r3 3 = r3 from rfl]
  simp only [graph_May.l1]
  rw [if_neg (show ¬ ((4 : Int) < 4) by decide)]
  unfold rowOk
  cases cellOk a 0 r0 <;> cases cellOk a 1 r1 <;> cases cellOk a 2 r2 <;> cases cellOk a 3 r3 <;> simp
theorem May_f (k : Nat) (c0 c1 c2 c3 c4 c5 c6 c7 c8 c9 c10 c11 c12 c13 c14 c15 : Int) : graph_May.f (k + 25) c0 c1 c2 c3 c4 c5 c6 c7 c8 c9 c10 c11 c12 c13 c14 c15 = some (okC c0 c1 c2 c3 c4 c5 c6 c7 c8 c9 c10 c11 c12 c13 c14 c15) := by
  unfold graph_May.f
  have s (k : Nat) (x : Int) (h0 : 0 ≤ x) (h4 : x < 4) : graph_May.l0 (k + 1) x c0 c1 c2 c3 c4 c5 c6 c7 c8 c9 c10 c11 c12 c13 c14 c15 = graph_May.l1 k x x 0 c0 c1 c2 c3 c4 c5 c6 c7 c8 c9 c10 c11 c12 c13 c14 c15 (ix4 c0 c4 c8 c12 x) (ix4 c1 c5 c9 c13 x) (ix4 c2 c6 c10 c14 x) (ix4 c3 c7 c11 c15 x) := by
    simp only [graph_May.l0]; rw [if_pos h4, if_pos h0]
  rw [s (k + 24) 0 (by decide) (by decide), May_row (k + 19), show wrap64 (0 + 1) = 1 by decide +kernel, s (k + 18) 1 (by decide) (by decide), May_row (k + 13), show wrap64 (1 + 1) = 2 by decide +kernel,
    s (k + 12) 2 (by decide) (by decide), May_row (k + 7), show wrap64 (2 + 1) = 3 by decide +kernel, s (k + 6) 3 (by decide) (by decide), May_row (k + 1), show wrap64 (3 + 1) = 4 by decide +kernel]
  simp only [graph_May.l0]
  rw [if_neg (show ¬ ((4 : Int) < 4) by decide)]
  unfold okC
  show (if rowOk 0 c0 c1 c2 c3 = true then (if rowOk 1 c4 c5 c6 c7 = true then (if rowOk 2 c8 c9 c10 c11 = true then (if rowOk 3 c12 c13 c14 c15 = true then some true else some false) else some false) else some false) else some false) = _
  cases rowOk 0 c0 c1 c2 c3 <;> cases rowOk 1 c4 c5 c6 c7 <;> cases rowOk 2 c8 c9 c10 c11 <;> cases rowOk 3 c12 c13 c14 c15 <;> simp
theorem cellOk_iff {a b c : Int} : cellOk a b c = true ↔ (0 ≤ c ∧ c ≤ 65535 ∧ (a = b → c = 0)) := by
  unfold cellOk
  simp only [Bool.and_eq_true, Bool.or_eq_true, decide_eq_true_eq]
  constructor
  · rintro ⟨⟨h1, h2⟩, h3⟩; exact ⟨h1, h2, fun e => h3.resolve_left (fun h => h e)⟩
  · rintro ⟨h1, h2, h3⟩; refine ⟨⟨h1, h2⟩, ?_⟩
    by_cases e : a = b
    · exact .inr (h3 e)
    · exact .inl e
theorem okM_iff (m : Mat) : okM m = true ↔ CostOk m := by
  unfold okM okC rowOk
  simp only [Bool.and_eq_true]
  constructor
  · rintro ⟨⟨a, b, d, e⟩, ⟨f, g, h, i⟩, ⟨j, k, l, n⟩, o, p, q, s⟩
    rw [cellOk_iff] at a b d e f g h i j k l n o p q s
    exact ⟨fun i' j' hi hj => four (P := fun i => 0 ≤ m i j' ∧ m i j' ≤ 65535) (four (P := fun j => 0 ≤ m 0 j ∧ m 0 j ≤ 65535) ⟨a.1, a.2.1⟩ ⟨b.1, b.2.1⟩ ⟨d.1, d.2.1⟩ ⟨e.1, e.2.1⟩ j' hj) (four (P := fun j => 0 ≤ m 1 j ∧ m 1 j ≤ 65535) ⟨f.1, f.2.1⟩ ⟨g.1, g.2.1⟩ ⟨h.1, h.2.1⟩ ⟨i.1, i.2.1⟩ j' hj)
      (four (P := fun j => 0 ≤ m 2 j ∧ m 2 j ≤ 65535) ⟨j.1, j.2.1⟩ ⟨k.1, k.2.1⟩ ⟨l.1, l.2.1⟩ ⟨n.1, n.2.1⟩ j' hj) (four (P := fun j => 0 ≤ m 3 j ∧ m 3 j ≤ 65535) ⟨o.1, o.2.1⟩ ⟨p.1, p.2.1⟩ ⟨q.1, q.2.1⟩ ⟨s.1, s.2.1⟩ j' hj) i' hi,
      four (P := fun i => m i i = 0) (a.2.2 rfl) (g.2.2 rfl) (l.2.2 rfl) (s.2.2 rfl)⟩
  · rintro ⟨r, d⟩
    have z (i j : Nat) (hi : i < 4) (hj : j < 4) (a b : Int) (hab : a = (i : Int)) (hb : b = (j : Int)) : cellOk a b (m i j) = true :=
      cellOk_iff.2 ⟨(r i j hi hj).1, (r i j hi hj).2, fun e => (show i = j by omega) ▸ d i hi⟩
    exact ⟨⟨z 0 0 (by decide) (by decide) _ _ rfl rfl, z 0 1 (by decide) (by decide) _ _ rfl rfl, z 0 2 (by decide) (by decide) _ _ rfl rfl, z 0 3 (by decide) (by decide) _ _ rfl rfl⟩,
      ⟨z 1 0 (by decide) (by decide) _ _ rfl rfl, z 1 1 (by decide) (by decide) _ _ rfl rfl, z 1 2 (by decide) (by decide) _ _ rfl rfl, z 1 3 (by decide) (by decide) _ _ rfl rfl⟩,
      ⟨z 2 0 (by decide) (by decide) _ _ rfl rfl, z 2 1 (by decide) (by decide) _ _ rfl rfl, z 2 2 (by decide) (by decide) _ _ rfl rfl, z 2 3 (by decide) (by decide) _ _ rfl rfl⟩,
      z 3 0 (by decide) (by decide) _ _ rfl rfl, z 3 1 (by decide) (by decide) _ _ rfl rfl, z 3 2 (by decide) (by decide) _ _ rfl rfl, z 3 3 (by decide) (by decide) _ _ rfl rfl⟩
/-- The only link, if it costs what none may, spoils all. -/
theorem May_bad (k : Nat) {r c : Nat} (hr : r < 4) (hc : c < 4) {v : Int} (hv : v < 0 ∨ 65535 < v) : okM (upd2 (fun _ _ => 0) r c v) = false := by
  rw [Bool.eq_false_iff]
  intro h
  have h1 := ((okM_iff _).1 h).range r c hr hc
  unfold upd2 at h1
  rw [if_pos ⟨rfl, rfl⟩] at h1
  omega
end Go.Proofs.Ytjbejbehbjhecaa.L20
namespace Go.Proofs.Ytjbejbehbjhecaa.L20
open Go.RowKit Go.Proofs.YtjbejbehbjhecaaW.PrintWords Go.Proofs.YtjbejbehbjhecaaW.PrintMore Go.Proofs.Ytjbejbehbjhecaa.Base Go.Proofs.Ytjbejbehbjhecaa.Q20
set_option linter.unusedVariables false
set_option linter.unusedSimpArgs false
set_option maxRecDepth 100000
/-! ### lsa: Links, May, body, Put, Get, Head (S59: the struct Link) -/
instance : DecidableEq S59 := fun a b => decidable_of_iff (a.f0 = b.f0 ∧ a.f1 = b.f1) (by cases a; cases b; simp)
def LinkOk (rt : Int) (x : S59) : Prop := 1 ≤ x.f0 ∧ x.f0 ≤ 4 ∧ x.f0 ≠ rt ∧ 1 ≤ x.f1 ∧ x.f1 ≤ 65535
instance (rt : Int) (x : S59) : Decidable (LinkOk rt x) := by unfold LinkOk; infer_instance
def links (rt : Int) : Int → List S59 → Bool
  | _, [] => true
  | p, x :: l => if LinkOk rt x ∧ p < x.f0 then links rt x.f0 l else false
theorem links_short {rt : Int} : ∀ (l : List S59) (p : Int), 0 ≤ p → links rt p l = true → l.length = 0 ∨ (l.length : Int) ≤ 4 - p
  | [], _, _, _ => .inl rfl
  | x :: l, p, h0, h => by
    unfold links at h
    by_cases hc : LinkOk rt x ∧ p < x.f0
    · rw [if_pos hc] at h
      have h4 := hc.1.2.1
      rcases links_short l x.f0 (by omega) h with h1 | h1
      · right; simp only [List.length_cons, h1]; omega
      · right; simp only [List.length_cons]; omega
    · rw [if_neg hc] at h; cases h
theorem links_len {rt : Int} {l : List S59} (h : links rt 0 l = true) : l.length ≤ 4 := by
  rcases links_short l 0 (by omega) h with h1 | h1 <;> omega
theorem links_range {rt : Int} : ∀ (l : List S59) (p : Int), links rt p l = true → ∀ x ∈ l, LinkOk rt x
  | [], _, _, _, hx => by cases hx
  | y :: l, p, h, x, hx => by
    unfold links at h
    by_cases hc : LinkOk rt y ∧ p < y.f0
    · rw [if_pos hc] at h
      rcases List.mem_cons.mp hx with rfl | hx
      · exact hc.1
      · exact links_range l y.f0 h x hx
    · rw [if_neg hc] at h; cases h
theorem rdL_at {l : List S59} {i : Nat} (h : i < l.length) : rd_T59 l (i : Int) = l[i] := by
  unfold rd_T59; rw [Int.toNat_natCast, List.getD_eq_getElem?_getD, List.getElem?_eq_getElem h]; rfl
def prevL (l : List S59) (i : Nat) : Int := if i = 0 then 0 else (rd_T59 l ((i : Int) - 1)).f0
theorem prevL_succ (l : List S59) (i : Nat) : prevL l (i + 1) = (rd_T59 l (i : Int)).f0 := by
  unfold prevL; rw [if_neg (by omega)]
  have : ((i + 1 : Nat) : Int) - 1 = (i : Int) := by omega
  rw [this]
theorem dropL_at {l : List S59} {i : Nat} (h : i < l.length) : l.drop i = rd_T59 l (i : Int) :: l.drop (i + 1) := by
  rw [List.drop_eq_getElem_cons h, rdL_at h]
theorem lsa_Router_f (x : Int) : lsa_Router.f x = some (decide (1 ≤ x ∧ x ≤ 4)) := by
  unfold lsa_Router.f
  by_cases h : x ≥ 1
  · rw [if_pos h]; simp [show (1 : Int) ≤ x from h]
  · rw [if_neg h]; simp [show ¬ (1 : Int) ≤ x from h]
theorem lsa_Links_l {l : List S59} {rt : Int} (hn : l.length ≤ 9223372036854775807) : ∀ (d k i : Nat), i + d = l.length → d < k →
    lsa_Links.l0 k l rt l (l.length : Int) (i : Int) = some (links rt (prevL l i) (l.drop i)) := by
  intro d
  induction d with
  | zero =>
    intro k i hi hk
    obtain ⟨k, rfl⟩ : ∃ m, k = m + 1 := ⟨k - 1, by omega⟩
    simp only [lsa_Links.l0]
    rw [if_neg (by omega), List.drop_of_length_le (by omega)]
    rfl
  | succ d ih =>
    intro k i hi hk
    obtain ⟨k, rfl⟩ : ∃ m, k = m + 1 := ⟨k - 1, by omega⟩
    have hlt : i < l.length := by omega
    have h4 : wrap64 ((i : Int) + 1) = ((i + 1 : Nat) : Int) := by rw [wrap_id (by omega) (by omega)]; omega
    have h5 : wrap64 ((i : Int) - 1) = (i : Int) - 1 := wrap_id (by omega) (by omega)
    have hr := ih k (i + 1) (by omega) (by omega)
    simp only [lsa_Links.l0, lsa_Router_f, Option.bind_some, decide_eq_true_eq]
    rw [if_pos (by omega), if_pos (by omega), if_pos (by omega), h4, h5, hr, prevL_succ, dropL_at hlt]
    generalize hx : rd_T59 l (i : Int) = x
    by_cases c1 : 1 ≤ x.f0 ∧ x.f0 ≤ 4
    · rw [if_pos c1]
      by_cases c2 : x.f0 = rt
      · rw [if_pos c2]; unfold links; rw [if_neg (fun hh => hh.1.2.2.1 c2)]
      rw [if_neg c2]
      by_cases c3 : x.f1 < 1
      · rw [if_pos c3]; unfold links; rw [if_neg (fun hh => by have := hh.1.2.2.2.1; omega)]
      rw [if_neg c3]
      by_cases c4 : x.f1 > 65535
      · rw [if_pos c4]; unfold links; rw [if_neg (fun hh => by have := hh.1.2.2.2.2; omega)]
      rw [if_neg c4]
      have hok : LinkOk rt x := ⟨c1.1, c1.2, c2, by omega, by omega⟩
      by_cases h0 : (i : Int) > 0
      · rw [if_pos h0, if_pos (by omega), if_pos (by omega)]
        have hp : prevL l i = (rd_T59 l ((i : Int) - 1)).f0 := by unfold prevL; rw [if_neg (by omega)]
        by_cases hg : (rd_T59 l ((i : Int) - 1)).f0 ≥ x.f0
        · rw [if_pos hg]; unfold links; rw [if_neg (by rw [hp]; omega)]
        · rw [if_neg hg]; conv => rhs; unfold links
          rw [if_pos ⟨hok, by rw [hp]; omega⟩]
      · rw [if_neg h0]
        have hp : prevL l i = 0 := by unfold prevL; rw [if_pos (by omega)]
        conv => rhs; unfold links
        rw [if_pos ⟨hok, by rw [hp]; omega⟩]
    · rw [if_neg c1]; unfold links; rw [if_neg (fun hh => c1 ⟨hh.1.1, hh.1.2.1⟩)]
theorem lsa_Links_f {l : List S59} {rt : Int} (hn : l.length ≤ 9223372036854775807) {k : Nat} (hk : l.length < k) : lsa_Links.f k l rt = some (links rt 0 l) :=
  lsa_Links_l hn l.length k 0 (by omega) hk
def LsaOk (r s g : Int) (l : List S59) : Prop := 1 ≤ r ∧ r ≤ 4 ∧ 1 ≤ s ∧ s ≤ 2147483647 ∧ 0 ≤ g ∧ g ≤ 60 ∧ links r 0 l = true
instance (r s g : Int) (l : List S59) : Decidable (LsaOk r s g l) := by unfold LsaOk; infer_instance
theorem lsa_May_f {r s g : Int} {l : List S59} (hn : l.length ≤ 9223372036854775807) {k : Nat} (hk : l.length < k) : lsa_May.f k r s g l = some (decide (LsaOk r s g l)) := by
  simp only [lsa_May.f, lsa_Links_f hn hk, lsa_Router_f, Option.bind_some]
  unfold lsa_Serial.f lsa_Age.f
  by_cases h1 : 1 ≤ r ∧ r ≤ 4
  · unfold LsaOk
    by_cases h3 : s ≥ 1
    · by_cases h4 : s ≤ 2147483647
      · by_cases h5 : g ≥ 0
        · by_cases h6 : g ≤ 60
          · simp [h1.1, h1.2, h3, h4, h5, h6]
          · simp [h1.1, h1.2, h3, h4, h5, h6]
        · simp [h1.1, h1.2, h3, h4, h5]
      · simp [h1.1, h1.2, h3, h4]
    · simp [h1.1, h1.2, h3]
  · rw [decide_eq_false h1, if_neg (by decide), decide_eq_false (fun hh : LsaOk r s g l => h1 ⟨hh.1, hh.2.1⟩)]
/-! ### update: May, Put, Get; SameLsas (S57: the struct Lsa) -/
def UsOk (x : S57) : Prop := LsaOk x.f0 x.f1 x.f2 x.f3
instance (x : S57) : Decidable (UsOk x) := by unfold UsOk; infer_instance
instance : DecidableEq S57 := fun a b => decidable_of_iff (a.f0 = b.f0 ∧ a.f1 = b.f1 ∧ a.f2 = b.f2 ∧ a.f3 = b.f3) (by cases a; cases b; simp)
def upd : Int → List S57 → Bool
  | _, [] => true
  | p, x :: l => if UsOk x ∧ p < x.f0 then upd x.f0 l else false
theorem upd_short : ∀ (l : List S57) (p : Int), 0 ≤ p → upd p l = true → l.length = 0 ∨ (l.length : Int) ≤ 4 - p
  | [], _, _, _ => .inl rfl
  | x :: l, p, h0, h => by
    unfold upd at h
    by_cases hc : UsOk x ∧ p < x.f0
    · rw [if_pos hc] at h
      have h4 := hc.1.2.1
      rcases upd_short l x.f0 (by omega) h with h1 | h1
      · right; simp only [List.length_cons, h1]; omega
      · right; simp only [List.length_cons]; omega
    · rw [if_neg hc] at h; cases h
theorem upd_len {l : List S57} (h : upd 0 l = true) : l.length ≤ 4 := by
  rcases upd_short l 0 (by omega) h with h1 | h1 <;> omega
theorem upd_ok : ∀ (l : List S57) (p : Int), upd p l = true → ∀ x ∈ l, UsOk x
  | [], _, _, _, hx => by cases hx
  | y :: l, p, h, x, hx => by
    unfold upd at h
    by_cases hc : UsOk y ∧ p < y.f0
    · rw [if_pos hc] at h
      rcases List.mem_cons.mp hx with rfl | hx
      · exact hc.1
      · exact upd_ok l y.f0 h x hx
    · rw [if_neg hc] at h; cases h
theorem usOk_len {x : S57} (h : UsOk x) : x.f3.length ≤ 4 := links_len h.2.2.2.2.2.2
theorem rdU_at {l : List S57} {i : Nat} (h : i < l.length) : rd_T57 l (i : Int) = l[i] := by
  unfold rd_T57; rw [Int.toNat_natCast, List.getD_eq_getElem?_getD, List.getElem?_eq_getElem h]; rfl
theorem rdU_mem {l : List S57} {i : Nat} (h : i < l.length) : rd_T57 l (i : Int) ∈ l := by rw [rdU_at h]; exact List.getElem_mem h
def prevU (l : List S57) (i : Nat) : Int := if i = 0 then 0 else (rd_T57 l ((i : Int) - 1)).f0
theorem prevU_succ (l : List S57) (i : Nat) : prevU l (i + 1) = (rd_T57 l (i : Int)).f0 := by
  unfold prevU; rw [if_neg (by omega)]
  have : ((i + 1 : Nat) : Int) - 1 = (i : Int) := by omega
  rw [this]
theorem dropU_at {l : List S57} {i : Nat} (h : i < l.length) : l.drop i = rd_T57 l (i : Int) :: l.drop (i + 1) := by
  rw [List.drop_eq_getElem_cons h, rdU_at h]
theorem update_May_l {l : List S57} {M : Nat} (hn : l.length ≤ 9223372036854775807) (hM : ∀ x ∈ l, x.f3.length < M) (hM2 : M ≤ 9223372036854775807) : ∀ (d k i : Nat), i + d = l.length → d + M < k →
    update_May.l0 k l l (l.length : Int) (i : Int) = some (upd (prevU l i) (l.drop i)) := by
  intro d
  induction d with
  | zero =>
    intro k i hi hk
    obtain ⟨k, rfl⟩ : ∃ m, k = m + 1 := ⟨k - 1, by omega⟩
    simp only [update_May.l0]
    rw [if_neg (by omega), List.drop_of_length_le (by omega)]
    rfl
  | succ d ih =>
    intro k i hi hk
    obtain ⟨k, rfl⟩ : ∃ m, k = m + 1 := ⟨k - 1, by omega⟩
    have hlt : i < l.length := by omega
    have h4 : wrap64 ((i : Int) + 1) = ((i + 1 : Nat) : Int) := by rw [wrap_id (by omega) (by omega)]; omega
    have h5 : wrap64 ((i : Int) - 1) = (i : Int) - 1 := wrap_id (by omega) (by omega)
    have hr := ih k (i + 1) (by omega) (by omega)
    have hm := hM _ (rdU_mem hlt)
    simp only [update_May.l0]
    rw [if_pos (by omega), if_pos (by omega), if_pos (by omega), h4, h5, hr, prevU_succ, dropU_at hlt]
    generalize rd_T57 l (i : Int) = x at hm ⊢
    rw [lsa_May_f (by omega) (show x.f3.length < k by omega)]
    simp only [Option.bind_some, decide_eq_true_eq]
    by_cases c1 : LsaOk x.f0 x.f1 x.f2 x.f3
    · rw [if_pos c1]
      have hok : UsOk x := c1
      have h1 := c1.1
      by_cases h0 : (i : Int) > 0
      · rw [if_pos h0, if_pos (by omega), if_pos (by omega)]
        have hp : prevU l i = (rd_T57 l ((i : Int) - 1)).f0 := by unfold prevU; rw [if_neg (by omega)]
        by_cases hg : (rd_T57 l ((i : Int) - 1)).f0 ≥ x.f0
        · rw [if_pos hg]; unfold upd; rw [if_neg (by rw [hp]; omega)]
        · rw [if_neg hg]; conv => rhs; unfold upd
          rw [if_pos ⟨hok, by rw [hp]; omega⟩]
      · rw [if_neg h0]
        have hp : prevU l i = 0 := by unfold prevU; rw [if_pos (by omega)]
        conv => rhs; unfold upd
        rw [if_pos ⟨hok, by rw [hp]; omega⟩]
    · rw [if_neg c1]; unfold upd; rw [if_neg (fun hh => c1 hh.1)]
theorem update_May_f {l : List S57} {M : Nat} (hn : l.length ≤ 9223372036854775807) (hM : ∀ x ∈ l, x.f3.length < M) (hM2 : M ≤ 9223372036854775807) {k : Nat} (hk : l.length + M < k) :
    update_May.f k l = some (upd 0 l) := update_May_l hn hM hM2 l.length k 0 (by omega) hk
/-! #### may this store be -/
def young (l : List S57) : Bool := l.all fun x => decide (x.f2 < 60)
def stOk (l : List S57) : Bool := upd 0 l && young l
theorem idx_l {l : List S57} (hn : l.length ≤ 9223372036854775807) : ∀ (d k i : Nat), i + d = l.length → d < k → ∃ r, api_Lsa_43.l0 k l (l.length : Int) (i : Int) = some r ∧ (decide (r ≥ 0) = !young (l.drop i)) := by
  intro d
  induction d with
  | zero =>
    intro k i hi hk
    obtain ⟨k, rfl⟩ : ∃ m, k = m + 1 := ⟨k - 1, by omega⟩
    refine ⟨-1, ?_, ?_⟩
    · simp only [api_Lsa_43.l0]; rw [if_neg (by omega)]
    · rw [List.drop_of_length_le (by omega)]; rfl
  | succ d ih =>
    intro k i hi hk
    obtain ⟨k, rfl⟩ : ∃ m, k = m + 1 := ⟨k - 1, by omega⟩
    have hlt : i < l.length := by omega
    have h4 : wrap64 ((i : Int) + 1) = ((i + 1 : Nat) : Int) := by rw [wrap_id (by omega) (by omega)]; omega
    obtain ⟨r, hr, hy⟩ := ih k (i + 1) (by omega) (by omega)
    simp only [api_Lsa_43.l0]
    rw [if_pos (by omega), if_pos (by omega), if_pos (by omega), h4, hr, dropU_at hlt]
    unfold store_May_1.f
    simp only [Option.bind_some, decide_eq_true_eq]
    by_cases c : (rd_T57 l (i : Int)).f2 ≥ 60
    · refine ⟨i, by rw [if_pos c], ?_⟩
      unfold young
      rw [List.all_cons, decide_eq_false (show ¬ (rd_T57 l (i : Int)).f2 < 60 by omega)]
      simp
    · refine ⟨r, by rw [if_neg c], ?_⟩
      rw [hy]
      unfold young
      rw [List.all_cons, decide_eq_true (show (rd_T57 l (i : Int)).f2 < 60 by omega), Bool.true_and]
theorem store_May_f {l : List S57} {M : Nat} (hn : l.length ≤ 9223372036854775807) (hM : ∀ x ∈ l, x.f3.length < M) (hM2 : M ≤ 9223372036854775807) {k : Nat} (hk : l.length + M < k) : store_May.f k l = some (stOk l) := by
  obtain ⟨r, hr, hy⟩ := idx_l hn l.length k 0 (by omega) (by omega)
  unfold store_May.f api_Lsa_39.f api_Lsa_43.f
  rw [update_May_f hn hM hM2 hk]
  simp only [Option.bind_some]
  rw [show api_Lsa_43.l0 k l (l.length : Int) 0 = some r from hr]
  simp only [Option.bind_some]
  rw [hy, List.drop_zero]
  unfold stOk
  cases upd 0 l <;> simp
/-! #### what is told -/
def toldL (r : Int) : List S59 → Mat → Mat
  | [], m => m
  | x :: l, m => toldL r l (upd2 m (r - 1).toNat (x.f0 - 1).toNat x.f1)
def toldA : List S57 → Mat → Mat
  | [], m => m
  | a :: l, m => toldA l (toldL a.f0 a.f3 m)
def outOf (m : Mat) : Mat := fun i j => if 0 < m j i then m i j else 0
abbrev R17 := Int × Int × Int × Int × Int × Int × Int × Int × Int × Int × Int × Int × Int × Int × Int × Int × Int
def tup17 (m : Mat) (e : Int) : R17 := (m 0 0, m 0 1, m 0 2, m 0 3, m 1 0, m 1 1, m 1 2, m 1 3, m 2 0, m 2 1, m 2 2, m 2 3, m 3 0, m 3 1, m 3 2, m 3 3, e)
theorem tup17_congr {m m' : Mat} (h : ∀ i j, i < 4 → j < 4 → m i j = m' i j) (e : Int) : tup17 m e = tup17 m' e := by
  unfold tup17
  simp only [h 0 0 (by decide) (by decide), h 0 1 (by decide) (by decide), h 0 2 (by decide) (by decide), h 0 3 (by decide) (by decide),
    h 1 0 (by decide) (by decide), h 1 1 (by decide) (by decide), h 1 2 (by decide) (by decide), h 1 3 (by decide) (by decide),
    h 2 0 (by decide) (by decide), h 2 1 (by decide) (by decide), h 2 2 (by decide) (by decide), h 2 3 (by decide) (by decide),
    h 3 0 (by decide) (by decide), h 3 1 (by decide) (by decide), h 3 2 (by decide) (by decide), h 3 3 (by decide) (by decide)]
def G2 (k a : Nat) (m o : Mat) := graph_Of.l2 k (a : Int) (m 0 0) (m 0 1) (m 0 2) (m 0 3) (m 1 0) (m 1 1) (m 1 2) (m 1 3) (m 2 0) (m 2 1) (m 2 2) (m 2 3) (m 3 0) (m 3 1) (m 3 2) (m 3 3) (o 0 0) (o 0 1) (o 0 2) (o 0 3) (o 1 0) (o 1 1) (o 1 2) (o 1 3) (o 2 0) (o 2 1) (o 2 2) (o 2 3) (o 3 0) (o 3 1) (o 3 2) (o 3 3) (m 0 0) (m 0 1) (m 0 2) (m 0 3) (m 1 0) (m 1 1) (m 1 2) (m 1 3) (m 2 0) (m 2 1) (m 2 2) (m 2 3) (m 3 0) (m 3 1) (m 3 2) (m 3 3)
def G3 (k a b : Nat) (m o : Mat) := graph_Of.l3 k (a : Int) (a : Int) (b : Int) (m 0 0) (m 0 1) (m 0 2) (m 0 3) (m 1 0) (m 1 1) (m 1 2) (m 1 3) (m 2 0) (m 2 1) (m 2 2) (m 2 3) (m 3 0) (m 3 1) (m 3 2) (m 3 3) (o 0 0) (o 0 1) (o 0 2) (o 0 3) (o 1 0) (o 1 1) (o 1 2) (o 1 3) (o 2 0) (o 2 1) (o 2 2) (o 2 3) (o 3 0) (o 3 1) (o 3 2) (o 3 3) (m 0 0) (m 0 1) (m 0 2) (m 0 3) (m 1 0) (m 1 1) (m 1 2) (m 1 3) (m 2 0) (m 2 1) (m 2 2) (m 2 3) (m 3 0) (m 3 1) (m 3 2) (m 3 3) (m a 0) (m a 1) (m a 2) (m a 3)
theorem G3_step (k : Nat) {a b : Nat} (ha : a < 4) (hb : b < 4) (m o : Mat) : G3 (k + 1) a b m o = G3 k a (b + 1) m (if 0 < m b a then upd2 o a b (m a b) else o) := by
  unfold G3
  simp only [graph_Of.l3]
  rw [if_pos (show (b : Int) < 4 by omega), if_pos (show 0 ≤ (b : Int) by omega), if_pos (show 0 ≤ (a : Int) by omega), if_pos (show (a : Int) < 4 by omega), next4 hb, sel_at m hb ha, row_at (fun j => m a j) hb]
  by_cases h : 0 < m b a
  · rw [if_pos (show m b a > 0 from h), if_pos h]
    obtain ⟨u1, u2, u3, u4, u5, u6, u7, u8, u9, u10, u11, u12, u13, u14, u15, u16⟩ := ups o a b (m a b)
    rw [u1, u2, u3, u4, u5, u6, u7, u8, u9, u10, u11, u12, u13, u14, u15, u16]
  · rw [if_neg (show ¬ m b a > 0 from h), if_neg h]
theorem G3_end (k : Nat) {a : Nat} (ha : a < 4) (m o : Mat) : G3 (k + 1) a 4 m o = G2 k (a + 1) m o := by
  unfold G3 G2
  simp only [graph_Of.l3]
  rw [if_neg (show ¬ (((4 : Nat) : Int) < 4) by decide), next4 ha]
theorem G2_step (k : Nat) {a : Nat} (ha : a < 4) (m o : Mat) : G2 (k + 1) a m o = G3 k a 0 m o := by
  unfold G3 G2
  simp only [graph_Of.l2]
  rw [if_pos (show (a : Int) < 4 by omega), if_pos (show 0 ≤ (a : Int) by omega), row_at (fun i => m i 0) ha, row_at (fun i => m i 1) ha, row_at (fun i => m i 2) ha, row_at (fun i => m i 3) ha]
  rfl
theorem G2_end (k : Nat) (m o : Mat) : G2 (k + 1) 4 m o = some (tup17 o 0) := by
  unfold G2
  simp only [graph_Of.l2]
  rw [if_neg (show ¬ (((4 : Nat) : Int) < 4) by decide)]
  rfl
def GFill (m : Mat) (a b : Nat) (o : Mat) : Prop := ∀ i j, i < 4 → j < 4 → o i j = if i < a ∨ (i = a ∧ j < b) then outOf m i j else 0
theorem GFill.step {m : Mat} {a b : Nat} (hb : b < 4) {o : Mat} (F : GFill m a b o) : GFill m a (b + 1) (if 0 < m b a then upd2 o a b (m a b) else o) := by
  intro i j hi hj
  have hF := F i j hi hj
  by_cases h : i = a ∧ j = b
  · obtain ⟨rfl, rfl⟩ := h
    rw [if_pos (show i < i ∨ i = i ∧ j < j + 1 from .inr ⟨rfl, by omega⟩)]
    unfold outOf
    by_cases h0 : 0 < m j i
    · rw [if_pos h0, if_pos h0]; unfold upd2; rw [if_pos ⟨rfl, rfl⟩]
    · rw [if_neg h0, if_neg h0, hF, if_neg (by omega)]
  · have e : (if 0 < m b a then upd2 o a b (m a b) else o) i j = o i j := by
      split
      · unfold upd2; rw [if_neg h]
      · rfl
    rw [e, hF]
    by_cases h1 : i < a ∨ (i = a ∧ j < b)
    · rw [if_pos h1, if_pos (by omega)]
    · rw [if_neg h1, if_neg (by omega)]
theorem gfill_row (k : Nat) {a : Nat} (ha : a < 4) (m : Mat) : ∀ d b o, b + d = 4 → GFill m a b o → ∃ o', GFill m (a + 1) 0 o' ∧ G3 (k + 1 + d) a b m o = G2 k (a + 1) m o'
  | 0, b, o, h, F => ⟨o, fun i j hi hj => by
      rw [F i j hi hj]
      by_cases h1 : i < a ∨ (i = a ∧ j < b)
      · rw [if_pos h1, if_pos (by omega)]
      · rw [if_neg h1, if_neg (by omega)], by
      obtain rfl : b = 4 := by omega
      exact G3_end k ha m o⟩
  | d + 1, b, o, h, F => by
    obtain ⟨o', F', e⟩ := gfill_row k ha m d (b + 1) _ (by omega) (F.step (by omega))
    exact ⟨o', F', (G3_step (k + 1 + d) ha (by omega) m o).trans e⟩
theorem gfill_all (k : Nat) (m : Mat) : ∀ d a o, a + d = 4 → GFill m a 0 o → G2 (k + 1 + 6 * d) a m o = some (tup17 (outOf m) 0)
  | 0, a, o, h, F => by
    obtain rfl : a = 4 := by omega
    rw [show k + 1 + 6 * 0 = k + 1 from rfl, G2_end]
    congr 1
    exact tup17_congr (fun i j hi hj => by rw [F i j hi hj, if_pos (by omega)]) 0
  | d + 1, a, o, h, F => by
    obtain ⟨o1, F1, e1⟩ := gfill_row (k + 1 + 6 * d) (show a < 4 by omega) m 4 0 o rfl F
    rw [show k + 1 + 6 * (d + 1) = (k + 1 + 6 * d + 1 + 4) + 1 by omega, G2_step _ (by omega), e1]
    exact gfill_all k m d (a + 1) o1 (by omega) F1
def T0 (k : Nat) (sts : List S57) (i : Nat) (m o : Mat) := graph_Of.l0 k sts (sts.length : Int) (i : Int) (m 0 0) (m 0 1) (m 0 2) (m 0 3) (m 1 0) (m 1 1) (m 1 2) (m 1 3) (m 2 0) (m 2 1) (m 2 2) (m 2 3) (m 3 0) (m 3 1) (m 3 2) (m 3 3) (o 0 0) (o 0 1) (o 0 2) (o 0 3) (o 1 0) (o 1 1) (o 1 2) (o 1 3) (o 2 0) (o 2 1) (o 2 2) (o 2 3) (o 3 0) (o 3 1) (o 3 2) (o 3 3)
def T1 (k : Nat) (sts : List S57) (i : Nat) (ls : List S59) (j : Nat) (m o : Mat) (r s g : Int) (l3 : List S59) := graph_Of.l1 k sts (sts.length : Int) (i : Int) ls (ls.length : Int) (j : Int) (m 0 0) (m 0 1) (m 0 2) (m 0 3) (m 1 0) (m 1 1) (m 1 2) (m 1 3) (m 2 0) (m 2 1) (m 2 2) (m 2 3) (m 3 0) (m 3 1) (m 3 2) (m 3 3) (o 0 0) (o 0 1) (o 0 2) (o 0 3) (o 1 0) (o 1 1) (o 1 2) (o 1 3) (o 2 0) (o 2 1) (o 2 2) (o 2 3) (o 3 0) (o 3 1) (o 3 2) (o 3 3) r s g l3
theorem T1_all {sts : List S57} {i : Nat} (hi : i < sts.length) (hn : sts.length ≤ 9223372036854775807) {ls : List S59} (hl : ls.length ≤ 4) {r s g : Int} (hr : 1 ≤ r ∧ r ≤ 4) (hx : ∀ x ∈ ls, 1 ≤ x.f0 ∧ x.f0 ≤ 4) (l3 : List S59) (o : Mat) (k : Nat) :
    ∀ d j m, j + d = ls.length → T1 (k + 1 + d) sts i ls j m o r s g l3 = T0 k sts (i + 1) (toldL r (ls.drop j) m) o
  | 0, j, m, h => by
    unfold T1 T0
    simp only [graph_Of.l1]
    rw [if_neg (by omega), List.drop_of_length_le (by omega), show wrap64 ((i : Int) + 1) = ((i + 1 : Nat) : Int) by rw [wrap_id (by omega) (by omega)]; omega]
    rfl
  | d + 1, j, m, h => by
    have hj : j < ls.length := by omega
    have hm := hx _ (by rw [rdL_at hj]; exact List.getElem_mem hj : rd_T59 ls (j : Int) ∈ ls)
    have ih := T1_all (s := s) (g := g) hi hn hl hr hx l3 o k d (j + 1) (upd2 m (r - 1).toNat ((rd_T59 ls (j : Int)).f0 - 1).toNat (rd_T59 ls (j : Int)).f1) (by omega)
    rw [dropL_at hj]
    refine Eq.trans ?_ ih
    unfold T1
    rw [show k + 1 + (d + 1) = (k + 1 + d) + 1 from rfl]
    simp only [graph_Of.l1]
    generalize rd_T59 ls (j : Int) = x at hm ⊢
    obtain ⟨a, ha, ea⟩ : ∃ a : Nat, a < 4 ∧ wrap64 (r - 1) = (a : Int) := ⟨(r - 1).toNat, by omega, by rw [wrap_id (by omega) (by omega)]; omega⟩
    obtain ⟨b, hb, eb⟩ : ∃ b : Nat, b < 4 ∧ wrap64 (x.f0 - 1) = (b : Int) := ⟨(x.f0 - 1).toNat, by omega, by rw [wrap_id (by omega) (by omega)]; omega⟩
    have e1 : (r - 1).toNat = a := by rw [wrap_id (by omega) (by omega)] at ea; omega
    have e2 : (x.f0 - 1).toNat = b := by rw [wrap_id (by omega) (by omega)] at eb; omega
    rw [ea, eb, e1, e2, if_pos (by omega), if_pos (show 0 ≤ (j : Int) by omega), if_pos (by omega), if_pos (show 0 ≤ (a : Int) by omega), if_pos (show (a : Int) < 4 by omega), if_pos (show 0 ≤ (b : Int) by omega), if_pos (show (b : Int) < 4 by omega),
      show wrap64 ((j : Int) + 1) = ((j + 1 : Nat) : Int) by rw [wrap_id (by omega) (by omega)]; omega]
    obtain ⟨u1, u2, u3, u4, u5, u6, u7, u8, u9, u10, u11, u12, u13, u14, u15, u16⟩ := ups m a b x.f1
    rw [u1, u2, u3, u4, u5, u6, u7, u8, u9, u10, u11, u12, u13, u14, u15, u16]
theorem T0_all {sts : List S57} (hn : sts.length ≤ 9223372036854775807) (hok : ∀ x ∈ sts, UsOk x) : ∀ d i k m, i + d = sts.length → 40 + 7 * d ≤ k → T0 k sts i m (fun _ _ => 0) = some (tup17 (outOf (toldA (sts.drop i) m)) 0)
  | 0, i, k, m, h, hk => by
    obtain ⟨k, rfl⟩ : ∃ q, k = q + 26 := ⟨k - 26, by omega⟩
    rw [List.drop_of_length_le (by omega)]
    unfold T0
    simp only [graph_Of.l0]
    rw [if_neg (by omega)]
    show G2 (k + 1 + 6 * 4) 0 m (fun _ _ => 0) = _
    exact gfill_all k m 4 0 (fun _ _ => 0) rfl (fun i j hi hj => by rw [if_neg (by omega)])
  | d + 1, i, k, m, h, hk => by
    have hi : i < sts.length := by omega
    have hx := hok _ (rdU_mem hi)
    have hl := usOk_len hx
    rw [dropU_at hi]
    obtain ⟨q, hq⟩ : ∃ q, k = q + 1 + (rd_T57 sts (i : Int)).f3.length + 1 := ⟨k - 2 - (rd_T57 sts (i : Int)).f3.length, by omega⟩
    subst hq
    have ih := T0_all hn hok d (i + 1) q (toldL (rd_T57 sts (i : Int)).f0 (rd_T57 sts (i : Int)).f3 m) (by omega) (by omega)
    refine Eq.trans ?_ ih
    have h1 := T1_all (s := (rd_T57 sts (i : Int)).f1) (g := (rd_T57 sts (i : Int)).f2) hi hn hl ⟨hx.1, hx.2.1⟩ (fun y hy => ⟨(links_range _ _ hx.2.2.2.2.2.2 y hy).1, (links_range _ _ hx.2.2.2.2.2.2 y hy).2.1⟩) (rd_T57 sts (i : Int)).f3 (fun _ _ => 0) q (rd_T57 sts (i : Int)).f3.length 0 m (by omega)
    rw [List.drop_zero] at h1
    refine Eq.trans ?_ h1
    unfold T0 T1
    simp only [graph_Of.l0]
    rw [if_pos (by omega), if_pos (by omega), if_pos (by omega)]
    rfl
/-- What Of answers. -/
def ofAns (l : List S57) : R17 := if stOk l = true then tup17 (outOf (toldA l (fun _ _ => 0))) 0 else tup17 (fun _ _ => 0) 2000
theorem Of_f {l : List S57} {M : Nat} (hn : l.length ≤ 9223372036854775807) (hM : ∀ x ∈ l, x.f3.length < M) (hM2 : M ≤ 9223372036854775807) {k : Nat} (hk : l.length + M < k) (h100 : 100 ≤ k) : graph_Of.f k l = some (ofAns l) := by
  unfold graph_Of.f ofAns
  rw [store_May_f hn hM hM2 hk]
  simp only [Option.bind_some]
  by_cases h : stOk l = true
  · rw [if_pos h, if_pos h]
    have h1 : upd 0 l = true := by unfold stOk at h; revert h; cases upd 0 l <;> simp
    have h4 := upd_len h1
    have h2 := T0_all hn (upd_ok l 0 h1) l.length 0 k (fun _ _ => 0) (by omega) (by omega)
    rw [List.drop_zero] at h2
    exact h2
  · rw [if_neg h, if_neg h]
    rfl
end Go.Proofs.Ytjbejbehbjhecaa.L20
namespace Go.Proofs.Ytjbejbehbjhecaa.L20
open Go.RowKit Go.Proofs.YtjbejbehbjhecaaW.PrintWords Go.Proofs.YtjbejbehbjhecaaW.PrintMore Go.Proofs.Ytjbejbehbjhecaa.Base Go.Proofs.Ytjbejbehbjhecaa.Q20
set_option linter.unusedVariables false
set_option maxRecDepth 100000
theorem awake_ok {k : Nat} (hk : 100 ≤ k) : watchwordlaw20_awake.f k = some true :=
  at_rounds (g := fun k => watchwordlaw20_awake.f k) watchwordlaw20_awake.mono hk (by decide +kernel)
theorem num_ok : watchwordlaw0_Num.f 0 = some 0 := by decide +kernel
theorem num_bad : watchwordlaw0_Num.f 2000 = some 2000 := by decide +kernel
def lnk : List S59 → Int → Int → Int
  | [], _, d => d
  | x :: l, t, d => lnk l t (if x.f0 = t then x.f1 else d)
def lkA : List S57 → Int → Int → Int → Int
  | [], _, _, d => d
  | a :: l, r, t, d => lkA l r t (if a.f0 = r then lnk a.f3 t d else d)
theorem toldL_at {r : Int} (hr : 1 ≤ r) : ∀ (ls : List S59) (hx : ∀ x ∈ ls, 1 ≤ x.f0) (m : Mat) (i j : Nat), toldL r ls m i j = if (i : Int) + 1 = r then lnk ls ((j : Int) + 1) (m i j) else m i j
  | [], _, m, i, j => by unfold toldL lnk; split <;> rfl
  | x :: l, hx, m, i, j => by
    have h1 := hx x (List.mem_cons_self ..)
    unfold toldL
    rw [toldL_at hr l (fun y hy => hx y (List.mem_cons_of_mem _ hy))]
    by_cases h : (i : Int) + 1 = r
    · rw [if_pos h, if_pos h]
      show _ = lnk l _ _
      congr 1
      unfold upd2
      by_cases h2 : x.f0 = (j : Int) + 1
      · rw [if_pos (by omega), if_pos h2]
      · rw [if_neg (by omega), if_neg h2]
    · rw [if_neg h, if_neg h]
      unfold upd2
      rw [if_neg (by omega)]
theorem lnk_none {t : Int} : ∀ (ls : List S59) (d : Int), (∀ x ∈ ls, x.f0 ≠ t) → lnk ls t d = d
  | [], _, _ => rfl
  | x :: l, d, h => by
    unfold lnk
    rw [if_neg (h x (List.mem_cons_self ..))]
    exact lnk_none l d (fun y hy => h y (List.mem_cons_of_mem _ hy))
theorem links_gt {rt : Int} : ∀ (l : List S59) (p : Int), links rt p l = true → ∀ z ∈ l, p < z.f0
  | [], _, _, z, hz => by cases hz
  | y :: l, p, h, z, hz => by
    unfold links at h
    by_cases hc : LinkOk rt y ∧ p < y.f0
    · rw [if_pos hc] at h
      rcases List.mem_cons.mp hz with rfl | hz
      · exact hc.2
      · have := links_gt l y.f0 h z hz; omega
    · rw [if_neg hc] at h; cases h
theorem lnk_at {rt : Int} : ∀ (l : List S59) (p d : Int), links rt p l = true → ∀ x ∈ l, lnk l x.f0 d = x.f1
  | [], _, _, _, x, hx => by cases hx
  | y :: l, p, d, h, x, hx => by
    unfold links at h
    by_cases hc : LinkOk rt y ∧ p < y.f0
    · rw [if_pos hc] at h
      unfold lnk
      rcases List.mem_cons.mp hx with rfl | hx
      · rw [if_pos rfl]
        exact lnk_none l _ (fun z hz => by have := links_gt l x.f0 h z hz; omega)
      · exact lnk_at l y.f0 _ h x hx
    · rw [if_neg hc] at h; cases h
theorem upd_gt : ∀ (l : List S57) (p : Int), upd p l = true → ∀ z ∈ l, p < z.f0
  | [], _, _, z, hz => by cases hz
  | y :: l, p, h, z, hz => by
    unfold upd at h
    by_cases hc : UsOk y ∧ p < y.f0
    · rw [if_pos hc] at h
      rcases List.mem_cons.mp hz with rfl | hz
      · exact hc.2
      · have := upd_gt l y.f0 h z hz; omega
    · rw [if_neg hc] at h; cases h
theorem lkA_none {r t : Int} : ∀ (l : List S57) (d : Int), (∀ a ∈ l, a.f0 ≠ r) → lkA l r t d = d
  | [], _, _ => rfl
  | a :: l, d, h => by
    unfold lkA
    rw [if_neg (h a (List.mem_cons_self ..))]
    exact lkA_none l d (fun y hy => h y (List.mem_cons_of_mem _ hy))
theorem lkA_at {t : Int} : ∀ (l : List S57) (p d : Int), upd p l = true → ∀ a ∈ l, lkA l a.f0 t d = lnk a.f3 t d
  | [], _, _, _, a, ha => by cases ha
  | y :: l, p, d, h, a, ha => by
    unfold upd at h
    by_cases hc : UsOk y ∧ p < y.f0
    · rw [if_pos hc] at h
      unfold lkA
      rcases List.mem_cons.mp ha with rfl | ha
      · rw [if_pos rfl]
        exact lkA_none l _ (fun z hz => by have := upd_gt l a.f0 h z hz; omega)
      · have h2 := upd_gt l y.f0 h a ha
        rw [if_neg (by omega)]
        exact lkA_at l y.f0 d h a ha
    · rw [if_neg hc] at h; cases h
theorem usOk_links {x : S57} (h : UsOk x) : links x.f0 0 x.f3 = true := h.2.2.2.2.2.2
theorem toldA_at : ∀ (l : List S57) (hok : ∀ x ∈ l, UsOk x) (m : Mat) (i j : Nat), toldA l m i j = lkA l ((i : Int) + 1) ((j : Int) + 1) (m i j)
  | [], _, m, i, j => rfl
  | a :: l, hok, m, i, j => by
    have h1 := hok a (List.mem_cons_self ..)
    unfold toldA lkA
    rw [toldA_at l (fun y hy => hok y (List.mem_cons_of_mem _ hy)), toldL_at h1.1 _ (fun x hx => (links_range _ _ (usOk_links h1) x hx).1)]
    congr 1
    by_cases h : (i : Int) + 1 = a.f0
    · rw [if_pos h, if_pos h.symm]
    · rw [if_neg h, if_neg (fun e => h e.symm)]
theorem told_link {l : List S57} (h : upd 0 l = true) {a : S57} (ha : a ∈ l) {x : S59} (hx : x ∈ a.f3) (m : Mat) {i j : Nat} (hi : (i : Int) + 1 = a.f0) (hj : (j : Int) + 1 = x.f0) : toldA l m i j = x.f1 := by
  rw [toldA_at l (upd_ok l 0 h), hi, hj, lkA_at l 0 _ h a ha]
  exact lnk_at _ 0 _ (usOk_links (upd_ok l 0 h a ha)) x hx
theorem toldL_ok {r : Int} (hr : 1 ≤ r ∧ r ≤ 4) : ∀ (ls : List S59) (hx : ∀ x ∈ ls, LinkOk r x) (m : Mat), CostOk m → CostOk (toldL r ls m)
  | [], _, m, C => C
  | x :: l, hx, m, C => by
    have h1 := hx x (List.mem_cons_self ..)
    refine toldL_ok hr l (fun y hy => hx y (List.mem_cons_of_mem _ hy)) _ ⟨fun i j hi hj => ?_, fun i hi => ?_⟩
    · unfold upd2; split
      · exact ⟨by have := h1.2.2.2.1; omega, h1.2.2.2.2⟩
      · exact C.range i j hi hj
    · unfold upd2; rw [if_neg]
      · exact C.diag i hi
      · rintro ⟨e1, e2⟩
        have := h1.1; have := h1.2.2.1; omega
theorem toldA_ok : ∀ (l : List S57) (hok : ∀ x ∈ l, UsOk x) (m : Mat), CostOk m → CostOk (toldA l m)
  | [], _, m, C => C
  | a :: l, hok, m, C => by
    have h1 := hok a (List.mem_cons_self ..)
    exact toldA_ok l (fun y hy => hok y (List.mem_cons_of_mem _ hy)) _ (toldL_ok ⟨h1.1, h1.2.1⟩ _ (links_range _ _ (usOk_links h1)) m C)
theorem outOf_ok {m : Mat} (C : CostOk m) : CostOk (outOf m) :=
  ⟨fun i j hi hj => by unfold outOf; have := C.range i j hi hj; split <;> omega, fun i hi => by unfold outOf; rw [C.diag i hi]; simp⟩
theorem zero_ok : CostOk (fun _ _ => 0) := ⟨fun _ _ _ _ => by omega, fun _ _ => rfl⟩
end Go.Proofs.Ytjbejbehbjhecaa.L20
namespace Go.Proofs.Ytjbejbehbjhecaa.Opn
open Go.RowKit Go.Proofs.YtjbejbehbjhecaaW.PrintWords Go.Proofs.YtjbejbehbjhecaaW.PrintLast Go.Proofs.YtjbejbehbjhecaaW.PrintMore
open Go.Joins Go.ChangeShapes Go.WideShapes Go.Deep
set_option linter.unusedVariables false

/-- Whatever reads as_ data of type t, within reach, is told by the kind d; R is known of it. -/
def Opn {α : Type} (P : Program) (t : TypeId) (d : Kd α) (R : α → Prop) : Prop :=
  ∀ {H : Type} {enc : TypeId × Value → H} {w : World} {base : Nat} {spare : Nat → Bool} {held : Bool} {fuel : Nat} {cs : List Value} {x : DataW H × List MemPlace},
    DataW.trod enc P w base spare held fuel t cs = some x → (∀ n ∈ x.1.weights P t, n ≤ reachBytes) → ∃ a, d.K w a cs ∧ R a
theorem opn_int {P : Program} {t : TypeId} {k : IntKind} (ht : P.underlying t = some (.int k)) : Opn P t (Kd.int k) (fun a => (Lit.int k a).wf = true) := by
  intro H enc w base spare held fuel cs x h _
  obtain ⟨a, rfl, rfl, wa⟩ := DataW.trod_int ht h
  exact ⟨a, rfl, wa⟩
theorem opn_string {P : Program} {t : TypeId} (ht : P.underlying t = some .string) : Opn P t Kd.string (fun s => s.size ≤ 140737488351232) := by
  intro H enc w base spare held fuel cs x h hw
  obtain ⟨s, rfl, rfl, hs⟩ := DataW.trod_string ht h
  refine ⟨s, rfl, ?_⟩
  have := hw s.data.toList.length (by simp [DataW.weights])
  rw [Array.length_toList] at this
  exact this
theorem cells_at {w : World} {base : Nat} {a : Addr} {n : Nat} {cs : List Value} (h : w.cells? base a n = some cs) : ∀ i u, cs[i]? = some u → w.cell? (a.add i) = some u := by
  obtain ⟨_, hl, hat⟩ := World.cells?_some h
  intro i u hu
  have hi : i < n := by have := (List.getElem?_eq_some_iff.1 hu).1; omega
  rw [hat i hi]; exact hu
theorem opn_slice {α : Type} {P : Program} {t e : TypeId} {d : Kd α} {R : α → Prop} {B : Nat} (ht : P.underlying t = some (.slice e)) (hc : P.cellsOf e = d.sz) (hB : P.bytesOf e = B) (ho : Opn P e d R) :
    Opn P t (Kd.slice e d) (fun l => l.length * B ≤ 140737488351232 ∧ l.length ≤ maxLen ∧ ∀ a ∈ l, R a) := by
  intro H enc w base spare held fuel cs x h hw
  rcases open_slice ht h with ⟨rfl, rfl⟩ | ⟨ad, len, cap, m, n, D, Pl, rfl, hb, hl, hm, hmm, rfl, hi⟩
  · exact ⟨[], ⟨none, 0, rfl, Nat.le_refl _, rfl, by simp, fun h => absurd h (by simp)⟩, by simp, by simp [maxLen], fun a ha => by cases ha⟩
  · have hlm : len ≤ m := by rw [hmm]; split <;> omega
    have hwt : ∀ i, i < len → ∀ n ∈ (D i).weights P e, n ≤ reachBytes := by
      intro i hi' n hn
      refine hw n ?_
      simp only [DataW.weights, ht, List.mem_cons, List.mem_append]
      refine Or.inr (Or.inl ?_)
      have key : ∀ (l : List (DataW H)) (y : DataW H), y ∈ l → ∀ n ∈ y.weights P e, n ∈ DataW.weightsAll P e l := by
        intro l
        induction l with
        | nil => intro y hy; cases hy
        | cons z l ih =>
          intro y hy n hn
          simp only [DataW.weightsAll, List.mem_append]
          rcases List.mem_cons.mp hy with rfl | hy
          · exact Or.inl hn
          · exact Or.inr (ih y hy n hn)
      exact key _ (D i) (List.mem_map.mpr ⟨i, by simpa using hi', rfl⟩) n hn
    have hex : ∀ i, i < len → ∃ a cs', d.K w a cs' ∧ R a ∧ w.cells? base (ad.add (i * P.cellsOf e)) (P.cellsOf e) = some cs' := by
      intro i hi'
      obtain ⟨cs', h1, h2⟩ := hi i (by omega)
      obtain ⟨a, hK, hR⟩ := ho h2 (hwt i hi')
      exact ⟨a, cs', hK, hR, h1⟩
    have hw0 : len * B ≤ reachBytes := by
      have := hw ((((List.range len).map D).length + ((List.range (m - len)).map fun j => D (len + j)).length) * P.bytesOf e) (by simp [DataW.weights, ht])
      rw [hB] at this
      simp only [List.length_map, List.length_range] at this
      exact Nat.le_trans (Nat.mul_le_mul_right _ (by omega)) this
    obtain ⟨l, hll, hl2⟩ : ∃ l : List α, l.length = len ∧ ∀ i a, l[i]? = some a → ∃ cs', d.K w a cs' ∧ R a ∧ w.cells? base (ad.add (i * P.cellsOf e)) (P.cellsOf e) = some cs' := by
      clear hw0 hwt hw hlm hmm hm hl hi h
      induction len with
      | zero => exact ⟨[], rfl, fun i a h => by simp at h⟩
      | succ k ih =>
        obtain ⟨l, hll, hl2⟩ := ih (fun i hi' => hex i (by omega))
        obtain ⟨a, cs', h1, h2, h3⟩ := hex k (by omega)
        refine ⟨l ++ [a], by simp [hll], fun i b hb => ?_⟩
        by_cases hik : i < l.length
        · rw [List.getElem?_append_left hik] at hb
          exact hl2 i b hb
        · have hlt := (List.getElem?_eq_some_iff.1 hb).1
          rw [List.length_append, List.length_singleton] at hlt
          have : i = l.length := by omega
          subst this
          rw [List.getElem?_append_right (Nat.le_refl _)] at hb
          simp at hb
          subst hb
          rw [hll]
          exact ⟨cs', h1, h2, h3⟩
    have hmax : len ≤ maxLen := Nat.le_trans hl hm
    refine ⟨l, ⟨some ad, cap, by rw [hll], by omega, ⟨rfl, by rw [hll]; unfold maxLen at hmax; omega, fun _ => ⟨ad, rfl, fun j p hj => ?_⟩⟩⟩, by rw [hll]; exact hw0, by rw [hll]; exact hmax, fun a ha => ?_⟩
    · obtain ⟨cs', h1, _, h3⟩ := hl2 j p hj
      refine ⟨cs', d.K_len h1, h1, fun i u hu => ?_⟩
      have := cells_at h3 i u hu
      rw [Go.Deep.add_add, hc] at this
      exact this
    · obtain ⟨i, hi', rfl⟩ := List.mem_iff_getElem.mp ha
      obtain ⟨_, _, hR, _⟩ := hl2 i _ (List.getElem?_eq_getElem hi')
      exact hR
theorem wt_field {H : Type} {P : Program} {t f : TypeId} {fs : Array Field} {parts : List (DataW H)} {y : DataW H} {j : Nat} (ht : P.underlying t = some (.struct fs)) (hw : ∀ n ∈ (DataW.agg parts).weights P t, n ≤ reachBytes)
    (hf : (fs.toList.map (·.type))[j]? = some f) (hy : parts[j]? = some y) : ∀ n ∈ y.weights P f, n ≤ reachBytes := by
  intro n hn
  refine hw n ?_
  simp only [DataW.weights, ht]
  exact DataW.weights_mem_each hf hy n hn
theorem wt_arg {H : Type} {P : Program} {ts : List TypeId} {ds : List (DataW H)} {j : Nat} {t : TypeId} {d : DataW H} (h : (DataW.weightsEach P ts ds).all (· ≤ reachBytes) = true) (ht : ts[j]? = some t) (hd : ds[j]? = some d) : ∀ n ∈ d.weights P t, n ≤ reachBytes := by
  intro n hn
  have := List.all_eq_true.1 h _ (DataW.weights_mem_each ht hd n hn)
  simpa using this
section
variable {H : Type} {enc : TypeId × Value → H} {P : Program} {w : World} {base : Nat} {spare : Nat → Bool} {held : Bool}
theorem open_agg5 {r : Reach} {b0 : Nat} {t : TypeId} {f0 f1 f2 f3 f4 : Field} {v : Value} {d : DataW H} {p : List MemPlace} (hs : P.underlying t = some (.struct #[f0, f1, f2, f3, f4])) (hone : oneCellFields P #[f0, f1, f2, f3, f4] = true) (hC : P.cellsOf t = 5)
    (hv : Value.okWide P w r b0 t v) (h : DataW.Trod enc P w base spare held t v d p) :
    ∃ (v0 v1 v2 v3 v4 : Value) (y0 y1 y2 y3 y4 : DataW H × List MemPlace) (n : Nat), v = .agg #[v0, v1, v2, v3, v4] ∧ d = .agg [y0.1, y1.1, y2.1, y3.1, y4.1] ∧ p = y0.2 ++ (y1.2 ++ (y2.2 ++ (y3.2 ++ y4.2))) ∧
      DataW.trod enc P w base spare held n f0.type [v0] = some y0 ∧ DataW.trod enc P w base spare held n f1.type [v1] = some y1 ∧ DataW.trod enc P w base spare held n f2.type [v2] = some y2 ∧ DataW.trod enc P w base spare held n f3.type [v3] = some y3 ∧ DataW.trod enc P w base spare held n f4.type [v4] = some y4 := by
  obtain ⟨cs, rfl, hsz⟩ := okWide_struct hs hv
  obtain ⟨l⟩ := cs
  match l, hsz.trans hC with
  | [c0, c1, c2, c3, c4], _ =>
    obtain ⟨fuel, hf⟩ := h
    obtain ⟨xs, n, _, hx, _, hlen, hg⟩ := DataW.trod_struct hs hf
    obtain ⟨o0, k0⟩ := hone_of hone 0 f0 rfl
    obtain ⟨o1, k1⟩ := hone_of hone 1 f1 rfl
    obtain ⟨o2, k2⟩ := hone_of hone 2 f2 rfl
    obtain ⟨o3, k3⟩ := hone_of hone 3 f3 rfl
    obtain ⟨o4, k4⟩ := hone_of hone 4 f4 rfl
    match xs, hlen with
    | [y0, y1, y2, y3, y4], _ =>
      simp only [Prod.mk.injEq] at hx
      exact ⟨c0, c1, c2, c3, c4, y0, y1, y2, y3, y4, n, rfl, by simpa using hx.1, by simpa using hx.2, by simpa [Value.cells, o0, k0] using hg 0 f0 rfl, by simpa [Value.cells, o1, k1] using hg 1 f1 rfl, by simpa [Value.cells, o2, k2] using hg 2 f2 rfl, by simpa [Value.cells, o3, k3] using hg 3 f3 rfl, by simpa [Value.cells, o4, k4] using hg 4 f4 rfl⟩
theorem open_agg6 {r : Reach} {b0 : Nat} {t : TypeId} {f0 f1 f2 f3 f4 f5 : Field} {v : Value} {d : DataW H} {p : List MemPlace} (hs : P.underlying t = some (.struct #[f0, f1, f2, f3, f4, f5])) (hone : oneCellFields P #[f0, f1, f2, f3, f4, f5] = true) (hC : P.cellsOf t = 6)
    (hv : Value.okWide P w r b0 t v) (h : DataW.Trod enc P w base spare held t v d p) :
    ∃ (v0 v1 v2 v3 v4 v5 : Value) (y0 y1 y2 y3 y4 y5 : DataW H × List MemPlace) (n : Nat), v = .agg #[v0, v1, v2, v3, v4, v5] ∧ d = .agg [y0.1, y1.1, y2.1, y3.1, y4.1, y5.1] ∧ p = y0.2 ++ (y1.2 ++ (y2.2 ++ (y3.2 ++ (y4.2 ++ y5.2)))) ∧
      DataW.trod enc P w base spare held n f0.type [v0] = some y0 ∧ DataW.trod enc P w base spare held n f1.type [v1] = some y1 ∧ DataW.trod enc P w base spare held n f2.type [v2] = some y2 ∧ DataW.trod enc P w base spare held n f3.type [v3] = some y3 ∧ DataW.trod enc P w base spare held n f4.type [v4] = some y4 ∧ DataW.trod enc P w base spare held n f5.type [v5] = some y5 := by
  obtain ⟨cs, rfl, hsz⟩ := okWide_struct hs hv
  obtain ⟨l⟩ := cs
  match l, hsz.trans hC with
  | [c0, c1, c2, c3, c4, c5], _ =>
    obtain ⟨fuel, hf⟩ := h
    obtain ⟨xs, n, _, hx, _, hlen, hg⟩ := DataW.trod_struct hs hf
    obtain ⟨o0, k0⟩ := hone_of hone 0 f0 rfl
    obtain ⟨o1, k1⟩ := hone_of hone 1 f1 rfl
    obtain ⟨o2, k2⟩ := hone_of hone 2 f2 rfl
    obtain ⟨o3, k3⟩ := hone_of hone 3 f3 rfl
    obtain ⟨o4, k4⟩ := hone_of hone 4 f4 rfl
    obtain ⟨o5, k5⟩ := hone_of hone 5 f5 rfl
    match xs, hlen with
    | [y0, y1, y2, y3, y4, y5], _ =>
      simp only [Prod.mk.injEq] at hx
      exact ⟨c0, c1, c2, c3, c4, c5, y0, y1, y2, y3, y4, y5, n, rfl, by simpa using hx.1, by simpa using hx.2, by simpa [Value.cells, o0, k0] using hg 0 f0 rfl, by simpa [Value.cells, o1, k1] using hg 1 f1 rfl, by simpa [Value.cells, o2, k2] using hg 2 f2 rfl, by simpa [Value.cells, o3, k3] using hg 3 f3 rfl, by simpa [Value.cells, o4, k4] using hg 4 f4 rfl, by simpa [Value.cells, o5, k5] using hg 5 f5 rfl⟩
end

end Go.Proofs.Ytjbejbehbjhecaa.Opn
namespace Go.Proofs.Ytjbejbehbjhecaa.O20
open Go.RowKit Go.Proofs.YtjbejbehbjhecaaW.PrintWords Go.Proofs.YtjbejbehbjhecaaW.PrintLast Go.Proofs.YtjbejbehbjhecaaW.PrintMore Go.Proofs.Ytjbejbehbjhecaa.Opn Go.Proofs.Ytjbejbehbjhecaa.Q20
open Go.Joins Go.ChangeShapes Go.WideShapes Go.Deep
set_option linter.unusedVariables false

def R59 (x : S59) : Prop := (Lit.int .i64 x.f0).wf = true ∧ (Lit.int .i64 x.f1).wf = true
set_option maxRecDepth 100000 in
theorem opn59 : Opn Try.prog 59 k59 R59 := by
  intro H enc w base spare held fuel cs x h hw
  obtain ⟨xs, n, _, rfl, hl, hlen, hf⟩ := DataW.trod_struct Try.underlying59 h
  have hl' : cs.length = 2 := hl.trans (by kernel_rfl)
  match cs, hl', xs, hlen with
  | [c0, c1], _, [y0, y1], _ =>
    have g0 : DataW.trod enc Try.prog w base spare held n 3 [c0] = some y0 := by
      have hk : Try.prog.cellsOf 3 = 1 := by kernel_rfl
      have z : DataW.trod enc Try.prog w base spare held n 3 ((([c0, c1] : List Value).drop 0).take (Try.prog.cellsOf 3)) = some y0 := hf 0 _ rfl
      rw [hk] at z
      exact z
    obtain ⟨a0, e0, r0⟩ := (opn_int Try.underlying3) g0 (wt_field (j := 0) Try.underlying59 hw rfl rfl)
    have g1 : DataW.trod enc Try.prog w base spare held n 3 [c1] = some y1 := by
      have hk : Try.prog.cellsOf 3 = 1 := by kernel_rfl
      have z : DataW.trod enc Try.prog w base spare held n 3 ((([c0, c1] : List Value).drop 1).take (Try.prog.cellsOf 3)) = some y1 := hf 1 _ rfl
      rw [hk] at z
      exact z
    obtain ⟨a1, e1, r1⟩ := (opn_int Try.underlying3) g1 (wt_field (j := 1) Try.underlying59 hw rfl rfl)
    exact ⟨⟨a0, a1⟩, ⟨[c0], [c1], rfl, e0, e1⟩, ⟨r0, r1⟩⟩
def R57 (x : S57) : Prop := (Lit.int .i64 x.f0).wf = true ∧ (Lit.int .i64 x.f1).wf = true ∧ (Lit.int .i64 x.f2).wf = true ∧ (x.f3.length * 16 ≤ 140737488351232 ∧ x.f3.length ≤ maxLen ∧ ∀ y ∈ x.f3, R59 y)
set_option maxRecDepth 100000 in
theorem opn57 : Opn Try.prog 57 k57 R57 := by
  intro H enc w base spare held fuel cs x h hw
  obtain ⟨xs, n, _, rfl, hl, hlen, hf⟩ := DataW.trod_struct Try.underlying57 h
  have hl' : cs.length = 4 := hl.trans (by kernel_rfl)
  match cs, hl', xs, hlen with
  | [c0, c1, c2, c3], _, [y0, y1, y2, y3], _ =>
    have g0 : DataW.trod enc Try.prog w base spare held n 3 [c0] = some y0 := by
      have hk : Try.prog.cellsOf 3 = 1 := by kernel_rfl
      have z : DataW.trod enc Try.prog w base spare held n 3 ((([c0, c1, c2, c3] : List Value).drop 0).take (Try.prog.cellsOf 3)) = some y0 := hf 0 _ rfl
      rw [hk] at z
      exact z
    obtain ⟨a0, e0, r0⟩ := (opn_int Try.underlying3) g0 (wt_field (j := 0) Try.underlying57 hw rfl rfl)
    have g1 : DataW.trod enc Try.prog w base spare held n 3 [c1] = some y1 := by
      have hk : Try.prog.cellsOf 3 = 1 := by kernel_rfl
      have z : DataW.trod enc Try.prog w base spare held n 3 ((([c0, c1, c2, c3] : List Value).drop 1).take (Try.prog.cellsOf 3)) = some y1 := hf 1 _ rfl
      rw [hk] at z
      exact z
    obtain ⟨a1, e1, r1⟩ := (opn_int Try.underlying3) g1 (wt_field (j := 1) Try.underlying57 hw rfl rfl)
    have g2 : DataW.trod enc Try.prog w base spare held n 3 [c2] = some y2 := by
      have hk : Try.prog.cellsOf 3 = 1 := by kernel_rfl
      have z : DataW.trod enc Try.prog w base spare held n 3 ((([c0, c1, c2, c3] : List Value).drop 2).take (Try.prog.cellsOf 3)) = some y2 := hf 2 _ rfl
      rw [hk] at z
      exact z
    obtain ⟨a2, e2, r2⟩ := (opn_int Try.underlying3) g2 (wt_field (j := 2) Try.underlying57 hw rfl rfl)
    have g3 : DataW.trod enc Try.prog w base spare held n 55 [c3] = some y3 := by
      have hk : Try.prog.cellsOf 55 = 1 := by kernel_rfl
      have z : DataW.trod enc Try.prog w base spare held n 55 ((([c0, c1, c2, c3] : List Value).drop 3).take (Try.prog.cellsOf 55)) = some y3 := hf 3 _ rfl
      rw [hk] at z
      exact z
    obtain ⟨a3, e3, r3⟩ := (opn_slice (d := k59) (B := 16) Try.underlying55 (by kernel_rfl) (by kernel_rfl) opn59) g3 (wt_field (j := 3) Try.underlying57 hw rfl rfl)
    exact ⟨⟨a0, a1, a2, a3⟩, ⟨[c0], [c1, c2, c3], rfl, e0, ⟨[c1], [c2, c3], rfl, e1, ⟨[c2], [c3], rfl, e2, e3⟩⟩⟩, ⟨r0, r1, r2, r3⟩⟩

end Go.Proofs.Ytjbejbehbjhecaa.O20
namespace Go.Proofs.Ytjbejbehbjhecaa.Opn
open Go.RowKit Go.Proofs.YtjbejbehbjhecaaW.PrintWords Go.Proofs.YtjbejbehbjhecaaW.PrintLast Go.Proofs.YtjbejbehbjhecaaW.PrintMore
open Go.Joins Go.ChangeShapes Go.WideShapes Go.Deep
set_option linter.unusedVariables false
section
variable {H : Type} {enc : TypeId × Value → H} {P : Program} {w : World} {base : Nat} {spare : Nat → Bool} {held : Bool}
theorem row_open {e e2 : TypeId} (he : P.underlying e = some (.array 4 e2)) (h2 : P.underlying e2 = some (.int .i64)) (hc2 : P.cellsOf e2 = 1) {m : Nat} {c0 c1 c2 c3 : Value} {y : DataW H × List MemPlace}
    (h : DataW.trod enc P w base spare held m e [c0, c1, c2, c3] = some y) : ∃ a : Nat → Int, c0 = .int .i64 (a 0) ∧ c1 = .int .i64 (a 1) ∧ c2 = .int .i64 (a 2) ∧ c3 = .int .i64 (a 3) ∧ ∀ j, j < 4 → (Lit.int .i64 (a j)).wf = true := by
  obtain ⟨xs, q, _, _, _, hlen, hg⟩ := DataW.trod_array he h
  match xs, hlen with
  | [y0, y1, y2, y3], _ =>
    have g0 : DataW.trod enc P w base spare held q e2 [c0] = some y0 := by have := hg 0 (by decide); rw [hc2] at this; exact this
    have g1 : DataW.trod enc P w base spare held q e2 [c1] = some y1 := by have := hg 1 (by decide); rw [hc2] at this; exact this
    have g2 : DataW.trod enc P w base spare held q e2 [c2] = some y2 := by have := hg 2 (by decide); rw [hc2] at this; exact this
    have g3 : DataW.trod enc P w base spare held q e2 [c3] = some y3 := by have := hg 3 (by decide); rw [hc2] at this; exact this
    obtain ⟨a0, e0, _, w0⟩ := DataW.trod_int h2 g0
    obtain ⟨a1, e1, _, w1⟩ := DataW.trod_int h2 g1
    obtain ⟨a2, e2, _, w2⟩ := DataW.trod_int h2 g2
    obtain ⟨a3, e3, _, w3⟩ := DataW.trod_int h2 g3
    refine ⟨fun j => match j with | 0 => a0 | 1 => a1 | 2 => a2 | _ => a3, by simpa using e0, by simpa using e1, by simpa using e2, by simpa using e3, fun j hj => ?_⟩
    obtain rfl | rfl | rfl | rfl : j = 0 ∨ j = 1 ∨ j = 2 ∨ j = 3 := by omega
    all_goals assumption
theorem open_arr {r : Reach} {b0 : Nat} {t e e2 : TypeId} {v : Value} {d : DataW H} {p : List MemPlace} (ht : P.underlying t = some (.array 4 e)) (he : P.underlying e = some (.array 4 e2)) (h2 : P.underlying e2 = some (.int .i64)) (hc : P.cellsOf t = 16) (hce : P.cellsOf e = 4) (hc2 : P.cellsOf e2 = 1)
    (hv : Value.okWide P w r b0 t v) (h : DataW.Trod enc P w base spare held t v d p) :
    ∃ a : Nat → Nat → Int, v = .agg #[.int .i64 (a 0 0), .int .i64 (a 0 1), .int .i64 (a 0 2), .int .i64 (a 0 3), .int .i64 (a 1 0), .int .i64 (a 1 1), .int .i64 (a 1 2), .int .i64 (a 1 3), .int .i64 (a 2 0), .int .i64 (a 2 1), .int .i64 (a 2 2), .int .i64 (a 2 3), .int .i64 (a 3 0), .int .i64 (a 3 1), .int .i64 (a 3 2), .int .i64 (a 3 3)] ∧
      ∀ i j, i < 4 → j < 4 → (Lit.int .i64 (a i j)).wf = true := by
  simp only [Value.okWide, ht] at hv
  obtain ⟨cs, rfl, hsz, _⟩ := hv
  obtain ⟨l⟩ := cs
  match l, hsz.trans hc with
  | [c0, c1, c2, c3, c4, c5, c6, c7, c8, c9, c10, c11, c12, c13, c14, c15], _ =>
    obtain ⟨fuel, hf⟩ := h
    obtain ⟨xs, q, _, _, _, hlen, hg⟩ := DataW.trod_array ht hf
    match xs, hlen with
    | [y0, y1, y2, y3], _ =>
      have g0 : DataW.trod enc P w base spare held q e [c0, c1, c2, c3] = some y0 := by have := hg 0 (by decide); rw [hce] at this; exact this
      have g1 : DataW.trod enc P w base spare held q e [c4, c5, c6, c7] = some y1 := by have := hg 1 (by decide); rw [hce] at this; exact this
      have g2 : DataW.trod enc P w base spare held q e [c8, c9, c10, c11] = some y2 := by have := hg 2 (by decide); rw [hce] at this; exact this
      have g3 : DataW.trod enc P w base spare held q e [c12, c13, c14, c15] = some y3 := by have := hg 3 (by decide); rw [hce] at this; exact this
      obtain ⟨a0, rfl, rfl, rfl, rfl, w0⟩ := row_open he h2 hc2 g0
      obtain ⟨a1, rfl, rfl, rfl, rfl, w1⟩ := row_open he h2 hc2 g1
      obtain ⟨a2, rfl, rfl, rfl, rfl, w2⟩ := row_open he h2 hc2 g2
      obtain ⟨a3, rfl, rfl, rfl, rfl, w3⟩ := row_open he h2 hc2 g3
      refine ⟨fun i => match i with | 0 => a0 | 1 => a1 | 2 => a2 | _ => a3, rfl, fun i j hi hj => ?_⟩
      obtain rfl | rfl | rfl | rfl : i = 0 ∨ i = 1 ∨ i = 2 ∨ i = 3 := by omega
      · exact w0 j hj
      · exact w1 j hj
      · exact w2 j hj
      · exact w3 j hj
end
end Go.Proofs.Ytjbejbehbjhecaa.Opn
