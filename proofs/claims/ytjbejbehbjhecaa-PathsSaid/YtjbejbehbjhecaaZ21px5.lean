/- Written by a program of this session (out of what the print wrote for this seat): the functions' walks, packed. -/
import Derived.Test.YtjbejbehbjhecaaZ21px4
namespace Go.Proofs.Ytjbejbehbjhecaa.Q21p
open Go.RowKit Go.Proofs.YtjbejbehbjhecaaW.PrintWords Go.Proofs.YtjbejbehbjhecaaW.PrintLast Go.Proofs.YtjbejbehbjhecaaW.PrintMore
attribute [local go_sem] max2_int min2_int max_two min_two max_three min_three max_four min_four   -- for this text's walks alone
set_option linter.unusedVariables false
set_option linter.unusedSimpArgs false

/-! ### watchwordlaw0_SameRoutes: function 15 -/
def watchwordlaw0_SameRoutes.l0 : Nat → List (S41) → List (S41) → Int → Option (Bool)
 | 0, _, _, _ => none
 | k + 1, x0, x1, x5 => if x5 < (x0.length : Int) then (if 0 ≤ x5 then (if x5 < (x1.length : Int) then (if ((rd_T41 x0 x5).f0) = ((rd_T41 x1 x5).f0) then (if ((rd_T41 x0 x5).f1) = ((rd_T41 x1 x5).f1) then ((watchwordlaw0_SameInts.f k ((rd_T41 x0 x5).f2) ((rd_T41 x1 x5).f2)).bind fun t168 => (if t168 = true then (watchwordlaw0_SameRoutes.l0 k x0 x1 (wrap64 (x5 + 1))) else (some false))) else (some false)) else (some false)) else (none)) else (none)) else (some true)
def watchwordlaw0_SameRoutes.f (k : Nat) (l0 : List (S41)) (l1 : List (S41)) : Option (Bool) := if (l0.length : Int) = (l1.length : Int) then (watchwordlaw0_SameRoutes.l0 k l0 l1 0) else (some false)
theorem watchwordlaw0_SameRoutes.mono_l : ∀ k, (∀ y0 y1 y2, LeO (watchwordlaw0_SameRoutes.l0 k y0 y1 y2) (watchwordlaw0_SameRoutes.l0 (k + 1) y0 y1 y2))
 | 0 => fun _ _ _ r h => by simp [watchwordlaw0_SameRoutes.l0] at h
 | k + 1 => by
  have ih0 := watchwordlaw0_SameRoutes.mono_l k
  ·intro y0 y1 y2
   unfold watchwordlaw0_SameRoutes.l0
   repeat' first
   | (with_reducible exact ih0 _ _ _)
   | (with_reducible exact watchwordlaw0_SameInts.mono _ _ _)
   | (with_reducible exact LeO.refl _)
   | (with_reducible exact LeO.none _)
   | (with_reducible refine LeO.ite ?_ ?_)
   | (with_reducible refine LeO.bind ?_ (fun _ => ?_))
   | exact ih0 _ _ _
   | exact watchwordlaw0_SameInts.mono _ _ _
   | exact LeO.none _
   | refine LeO.ite ?_ ?_
   | refine LeO.bind ?_ (fun _ => ?_)
theorem watchwordlaw0_SameRoutes.mono : ∀ a0 a1 k, LeO (watchwordlaw0_SameRoutes.f k a0 a1) (watchwordlaw0_SameRoutes.f (k + 1) a0 a1) := by
 intro a0 a1 k
 have ih0 := watchwordlaw0_SameRoutes.mono_l k
 unfold watchwordlaw0_SameRoutes.f
 repeat' first
   | (with_reducible exact ih0 _ _ _)
   | (with_reducible exact watchwordlaw0_SameInts.mono _ _ _)
   | (with_reducible exact LeO.refl _)
   | (with_reducible exact LeO.none _)
   | (with_reducible refine LeO.ite ?_ ?_)
   | (with_reducible refine LeO.bind ?_ (fun _ => ?_))
   | exact ih0 _ _ _
   | exact watchwordlaw0_SameInts.mono _ _ _
   | exact LeO.none _
   | refine LeO.ite ?_ ?_
   | refine LeO.bind ?_ (fun _ => ?_)
def watchwordlaw0_SameRoutes.T6 : Bool × List (List Nat × List Nat) := (true, [([], []), ([], []), ([0, 1], [0, 1]), ([2], [2]), ([3], [3]), ([], []), ([], []), ([5, 6], [5, 6]), ([7], [7]), ([8], [8]), ([4, 9], [4, 9]), ([10], [10]), ([11], [11]), ([11], [11]), ([12, 13, 11], [11, 12, 13]), ([14, 11], [11, 14]), ([15, 11], [11, 15]), ([11], [11]), ([11], [11]), ([17, 18, 11], [11, 17, 18]), ([19, 11], [11, 19]), ([20, 11], [11, 20]), ([16, 21, 11], [11, 16, 21]), ([11, 22], [11, 22]), ([23, 11], [23]), ([24], [24]), ([24], [24]), ([25, 26, 24], [24, 25, 26]), ([27, 24], [24, 27]), ([28, 24], [24, 28]), ([24], [24]), ([24], [24]), ([30, 31, 24], [24, 30, 31]), ([32, 24], [24, 32]), ([33, 24], [24, 33]), ([29, 34, 24, 24], [24, 29, 34]), ([35, 24], [24, 35]), ([24, 36], [24, 36])])
def watchwordlaw0_SameRoutes.B6 : List Nat := [0, 0, 3, 7, 15, 0, 0, 96, 224, 480, 1023, 2047, 4095, 4095, 16383, 32767, 65535, 4095, 4095, 397311, 921599, 1970175, 4194303, 8388607, 16777215, 33554431, 33554431, 134217727, 268435455, 536870911, 33554431, 33554431, 3254779903, 7549747199, 16139681791, 34359738367, 68719476735, 137438953471]
theorem watchwordlaw0_SameRoutes.tab6 : rtab .any (opsOf Try.f15 6) = watchwordlaw0_SameRoutes.T6 := by kernel_rfl
theorem watchwordlaw0_SameRoutes.bits6 : waitsOk watchwordlaw0_SameRoutes.T6.2 watchwordlaw0_SameRoutes.B6 = true := by kernel_rfl
set_option maxHeartbeats 8000000 in
set_option maxRecDepth 100000 in
theorem watchwordlaw0_SameRoutes.calls (k : Nat) (A0 : Option Addr) (c0 : Nat) (l0 : List (S41)) (A1 : Option Addr) (c1 : Nat) (l1 : List (S41)) (r : Bool) (w : World) (hr0 : Kd.C k41 w A0 l0.length l0) (hc0 : l0.length ≤ c0) (hr1 : Kd.C k41 w A1 l1.length l1) (hc1 : l1.length ≤ c1) (h : watchwordlaw0_SameRoutes.f k l0 l1 = some r) :
  Calls Try.prog 15 #[.slice A0 l0.length c0, .slice A1 l1.length c1] w fun e w' => e = .returned (.bool r) ∧ Below w.heap.size w w' := by
 have HR0 := Aside0.mk hr0
 have HC0 := Aside0.mk hc0
 clear hr0 hc0
 have HR1 := Aside0.mk hr1
 have HC1 := Aside0.mk hc1
 clear hr1 hc1
 have HB := Aside0.mk (Below.refl w.heap.size w)
 have H : (if (l0.length : Int) = (l1.length : Int) then (watchwordlaw0_SameRoutes.l0 k l0 l1 0) else (some false)) = some r := h
 clear h
 by_cases c3 : (l0.length : Int) = (l1.length : Int)
 ·rw [if_pos c3] at H
  have c3b0 : ((l0.length : Int) == (l1.length : Int)) = true := beq_iff_eq.mpr c3
  have c3b1 : ((l0.length : Int) != (l1.length : Int)) = false := bne_eq_false_iff_eq.mpr c3
  have c3b2 : (l0.length == l1.length) = true := by first | simpa using c3 | (simp at c3 ⊢; omega)
  clear c3
  have H' := Aside0.mk H
  clear H
  go_enter Try.func15, Try.ntmps15
  go_wp2
  go_loopg [5] k (fun kq v5 w' => ∃ (x5_1 : Int), v5 = .int .i64 x5_1 ∧ Aside0 (watchwordlaw0_SameRoutes.l0 kq l0 l1 x5_1 = some r) ∧ Aside0 (kq ≤ k) ∧ Aside0 (Below w.heap.size w w'))
  case atStart => exact ⟨(0), (by first | rfl | (simp; done) | (simp [*]; done)), H', ⟨Nat.le_refl _⟩, ⟨by repeat (first | (with_reducible first | exact HB.out | apply below_alloc | apply pw_below_drewN | apply below_drew1) | exact HB.out)⟩⟩
  case round =>
   clear H'
   try clear c1
   try clear p2
   try clear c3
   try clear c3b0
   try clear c3b1
   try clear c3b2
   obtain ⟨x5_1, rfl, HA, HK1, HB⟩ := hrel
   cases gk with
   | zero => exact absurd HA.out (by simp [watchwordlaw0_SameRoutes.l0])
   | succ k1 =>
    have H := HA.out
    clear HA
    simp only [watchwordlaw0_SameRoutes.l0] at H
    by_cases c4 : x5_1 < (l0.length : Int)
    ·rw [if_pos c4] at H
     have c4b0 : decide (x5_1 < (l0.length : Int)) = true := decide_eq_true c4
     clear c4
     by_cases c5 : 0 ≤ x5_1
     ·rw [if_pos c5] at H
      have c5b0 : decide (0 ≤ x5_1) = true := decide_eq_true c5
      clear c5
      by_cases c6 : x5_1 < (l1.length : Int)
      ·rw [if_pos c6] at H
       have c6b0 : decide (x5_1 < (l1.length : Int)) = true := decide_eq_true c6
       clear c6
       by_cases c7 : ((rd_T41 l0 x5_1).f0) = ((rd_T41 l1 x5_1).f0)
       ·rw [if_pos c7] at H
        have c7b0 : (((rd_T41 l0 x5_1).f0) == ((rd_T41 l1 x5_1).f0)) = true := beq_iff_eq.mpr c7
        have c7b1 : (((rd_T41 l0 x5_1).f0) != ((rd_T41 l1 x5_1).f0)) = false := bne_eq_false_iff_eq.mpr c7
        clear c7
        by_cases c8 : ((rd_T41 l0 x5_1).f1) = ((rd_T41 l1 x5_1).f1)
        ·rw [if_pos c8] at H
         have c8b0 : (((rd_T41 l0 x5_1).f1) == ((rd_T41 l1 x5_1).f1)) = true := beq_iff_eq.mpr c8
         have c8b1 : (((rd_T41 l0 x5_1).f1) != ((rd_T41 l1 x5_1).f1)) = false := bne_eq_false_iff_eq.mpr c8
         clear c8
         replace H := Option.bind_eq_some_iff.mp H
         obtain ⟨t168, A90, H⟩ := H
         replace H : (if t168 = true then (watchwordlaw0_SameRoutes.l0 k1 l0 l1 (wrap64 (x5_1 + 1))) else (some false)) = some r := H
         have A9 := Aside0.mk A90
         clear A90
         by_cases c10 : t168 = true
         ·subst c10
          have H1 : (watchwordlaw0_SameRoutes.l0 k1 l0 l1 (wrap64 (x5_1 + 1))) = some r := by rw [if_pos rfl] at H; exact H
          clear H
          have H := H1
          clear H1
          have H' := Aside0.mk H
          clear H
          try go_wp2
          have n0_ := Aside0.mk (below_drew1 HB.out)
          clear HB
          have HB := n0_
          clear n0_
          have p162 : 0 ≤ (x5_1 : Int) := of_decide_eq_true (by first | (with_reducible assumption) | assumption)
          have q162 : x5_1 < (l0.length : Int) := of_decide_eq_true (by first | (with_reducible assumption) | assumption)
          obtain ⟨ad162, A162_2, c162_2, e162, hx162_0, hx162_1, hx162_2, hl162_2, hi162_2⟩ := at_T41 HR0.out x5_1 p162 q162
          have hw162_2 := hx162_2
          have hw162_1 := hx162_1
          have hw162_0 := hx162_0
          cases e162
          replace hx162_0 := (HB.out.cell (World.block_lt_of_cell? w _ hx162_0)).trans hx162_0
          replace hx162_1 := (HB.out.cell (World.block_lt_of_cell? w _ hx162_1)).trans hx162_1
          replace hx162_2 := (HB.out.cell (World.block_lt_of_cell? w _ hx162_2)).trans hx162_2
          have HR162_2 := Aside0.mk hi162_2
          have HC162_2 := Aside0.mk hl162_2
          clear hi162_2 hl162_2
          replace p162 := eq_true p162
          replace q162 := eq_true q162
          have p163 : 0 ≤ (x5_1 : Int) := of_decide_eq_true (by first | (with_reducible assumption) | assumption)
          have q163 : x5_1 < (l1.length : Int) := of_decide_eq_true (by first | (with_reducible assumption) | assumption)
          obtain ⟨ad163, A163_2, c163_2, e163, hx163_0, hx163_1, hx163_2, hl163_2, hi163_2⟩ := at_T41 HR1.out x5_1 p163 q163
          have hw163_2 := hx163_2
          have hw163_1 := hx163_1
          have hw163_0 := hx163_0
          cases e163
          replace hx163_0 := (HB.out.cell (World.block_lt_of_cell? w _ hx163_0)).trans hx163_0
          replace hx163_1 := (HB.out.cell (World.block_lt_of_cell? w _ hx163_1)).trans hx163_1
          replace hx163_2 := (HB.out.cell (World.block_lt_of_cell? w _ hx163_2)).trans hx163_2
          have HR163_2 := Aside0.mk hi163_2
          have HC163_2 := Aside0.mk hl163_2
          clear hi163_2 hl163_2
          replace p163 := eq_true p163
          replace q163 := eq_true q163
          have p164 : 0 ≤ (x5_1 : Int) := of_decide_eq_true (by first | (with_reducible assumption) | assumption)
          have q164 : x5_1 < (l0.length : Int) := of_decide_eq_true (by first | (with_reducible assumption) | assumption)
          obtain ⟨ad164, A164_2, c164_2, e164, hx164_0, hx164_1, hx164_2, hl164_2, hi164_2⟩ := at_T41 HR0.out x5_1 p164 q164
          have hw164_2 := hx164_2
          have hw164_1 := hx164_1
          have hw164_0 := hx164_0
          obtain rfl : ad162 = ad164 := (by injection e164)
          replace hx164_0 := (HB.out.cell (World.block_lt_of_cell? w _ hx164_0)).trans hx164_0
          replace hx164_1 := (HB.out.cell (World.block_lt_of_cell? w _ hx164_1)).trans hx164_1
          replace hx164_2 := (HB.out.cell (World.block_lt_of_cell? w _ hx164_2)).trans hx164_2
          have HR164_2 := Aside0.mk hi164_2
          have HC164_2 := Aside0.mk hl164_2
          clear hi164_2 hl164_2
          replace p164 := eq_true p164
          replace q164 := eq_true q164
          have ea_ := Option.some.inj (hx162_2.symm.trans hx164_2)
          injection ea_ with ea_ en_ ec_
          subst ea_
          subst ec_
          clear en_
          have p165 : 0 ≤ (x5_1 : Int) := of_decide_eq_true (by first | (with_reducible assumption) | assumption)
          have q165 : x5_1 < (l1.length : Int) := of_decide_eq_true (by first | (with_reducible assumption) | assumption)
          obtain ⟨ad165, A165_2, c165_2, e165, hx165_0, hx165_1, hx165_2, hl165_2, hi165_2⟩ := at_T41 HR1.out x5_1 p165 q165
          have hw165_2 := hx165_2
          have hw165_1 := hx165_1
          have hw165_0 := hx165_0
          obtain rfl : ad163 = ad165 := (by injection e165)
          replace hx165_0 := (HB.out.cell (World.block_lt_of_cell? w _ hx165_0)).trans hx165_0
          replace hx165_1 := (HB.out.cell (World.block_lt_of_cell? w _ hx165_1)).trans hx165_1
          replace hx165_2 := (HB.out.cell (World.block_lt_of_cell? w _ hx165_2)).trans hx165_2
          have HR165_2 := Aside0.mk hi165_2
          have HC165_2 := Aside0.mk hl165_2
          clear hi165_2 hl165_2
          replace p165 := eq_true p165
          replace q165 := eq_true q165
          have ea_ := Option.some.inj (hx163_2.symm.trans hx165_2)
          injection ea_ with ea_ en_ ec_
          subst ea_
          subst ec_
          clear en_
          have p166 : 0 ≤ (x5_1 : Int) := of_decide_eq_true (by first | (with_reducible assumption) | assumption)
          have q166 : x5_1 < (l0.length : Int) := of_decide_eq_true (by first | (with_reducible assumption) | assumption)
          obtain ⟨ad166, A166_2, c166_2, e166, hx166_0, hx166_1, hx166_2, hl166_2, hi166_2⟩ := at_T41 HR0.out x5_1 p166 q166
          have hw166_2 := hx166_2
          have hw166_1 := hx166_1
          have hw166_0 := hx166_0
          obtain rfl : ad162 = ad166 := (by injection e166)
          replace hx166_0 := (HB.out.cell (World.block_lt_of_cell? w _ hx166_0)).trans hx166_0
          replace hx166_1 := (HB.out.cell (World.block_lt_of_cell? w _ hx166_1)).trans hx166_1
          replace hx166_2 := (HB.out.cell (World.block_lt_of_cell? w _ hx166_2)).trans hx166_2
          have HR166_2 := Aside0.mk hi166_2
          have HC166_2 := Aside0.mk hl166_2
          clear hi166_2 hl166_2
          replace p166 := eq_true p166
          replace q166 := eq_true q166
          have ea_ := Option.some.inj (hx162_2.symm.trans hx166_2)
          injection ea_ with ea_ en_ ec_
          subst ea_
          subst ec_
          clear en_
          have p167 : 0 ≤ (x5_1 : Int) := of_decide_eq_true (by first | (with_reducible assumption) | assumption)
          have q167 : x5_1 < (l1.length : Int) := of_decide_eq_true (by first | (with_reducible assumption) | assumption)
          obtain ⟨ad167, A167_2, c167_2, e167, hx167_0, hx167_1, hx167_2, hl167_2, hi167_2⟩ := at_T41 HR1.out x5_1 p167 q167
          have hw167_2 := hx167_2
          have hw167_1 := hx167_1
          have hw167_0 := hx167_0
          obtain rfl : ad163 = ad167 := (by injection e167)
          replace hx167_0 := (HB.out.cell (World.block_lt_of_cell? w _ hx167_0)).trans hx167_0
          replace hx167_1 := (HB.out.cell (World.block_lt_of_cell? w _ hx167_1)).trans hx167_1
          replace hx167_2 := (HB.out.cell (World.block_lt_of_cell? w _ hx167_2)).trans hx167_2
          have HR167_2 := Aside0.mk hi167_2
          have HC167_2 := Aside0.mk hl167_2
          clear hi167_2 hl167_2
          replace p167 := eq_true p167
          replace q167 := eq_true q167
          have ea_ := Option.some.inj (hx163_2.symm.trans hx167_2)
          injection ea_ with ea_ en_ ec_
          subst ea_
          subst ec_
          clear en_
          refine start_ (n := 38) (S := fun w' => w'.cell? (ad162.add ((x5_1).toNat * 3)) = some (.int .i64 ((rd_T41 l0 x5_1).f0)) ∧ w'.cell? ⟨(ad162.add ((x5_1).toNat * 3)).block, (ad162.add ((x5_1).toNat * 3)).off + 1, none⟩ = some (.int .i64 ((rd_T41 l0 x5_1).f1)) ∧ w'.cell? ⟨(ad162.add ((x5_1).toNat * 3)).block, (ad162.add ((x5_1).toNat * 3)).off + 2, none⟩ = some (.slice A162_2 ((rd_T41 l0 x5_1).f2).length c162_2) ∧ w'.cell? (ad163.add ((x5_1).toNat * 3)) = some (.int .i64 ((rd_T41 l1 x5_1).f0)) ∧ w'.cell? ⟨(ad163.add ((x5_1).toNat * 3)).block, (ad163.add ((x5_1).toNat * 3)).off + 1, none⟩ = some (.int .i64 ((rd_T41 l1 x5_1).f1)) ∧ w'.cell? ⟨(ad163.add ((x5_1).toNat * 3)).block, (ad163.add ((x5_1).toNat * 3)).off + 2, none⟩ = some (.slice A163_2 ((rd_T41 l1 x5_1).f2).length c163_2) ∧ w'.cell? (ad162.add ((x5_1).toNat * 3)) = some (.int .i64 ((rd_T41 l0 x5_1).f0)) ∧ w'.cell? ⟨(ad162.add ((x5_1).toNat * 3)).block, (ad162.add ((x5_1).toNat * 3)).off + 1, none⟩ = some (.int .i64 ((rd_T41 l0 x5_1).f1)) ∧ w'.cell? ⟨(ad162.add ((x5_1).toNat * 3)).block, (ad162.add ((x5_1).toNat * 3)).off + 2, none⟩ = some (.slice A162_2 ((rd_T41 l0 x5_1).f2).length c162_2) ∧ w'.cell? (ad163.add ((x5_1).toNat * 3)) = some (.int .i64 ((rd_T41 l1 x5_1).f0)) ∧ w'.cell? ⟨(ad163.add ((x5_1).toNat * 3)).block, (ad163.add ((x5_1).toNat * 3)).off + 1, none⟩ = some (.int .i64 ((rd_T41 l1 x5_1).f1)) ∧ w'.cell? ⟨(ad163.add ((x5_1).toNat * 3)).block, (ad163.add ((x5_1).toNat * 3)).off + 2, none⟩ = some (.slice A163_2 ((rd_T41 l1 x5_1).f2).length c163_2) ∧ w'.cell? (ad162.add ((x5_1).toNat * 3)) = some (.int .i64 ((rd_T41 l0 x5_1).f0)) ∧ w'.cell? ⟨(ad162.add ((x5_1).toNat * 3)).block, (ad162.add ((x5_1).toNat * 3)).off + 1, none⟩ = some (.int .i64 ((rd_T41 l0 x5_1).f1)) ∧ w'.cell? ⟨(ad162.add ((x5_1).toNat * 3)).block, (ad162.add ((x5_1).toNat * 3)).off + 2, none⟩ = some (.slice A162_2 ((rd_T41 l0 x5_1).f2).length c162_2) ∧ w'.cell? (ad163.add ((x5_1).toNat * 3)) = some (.int .i64 ((rd_T41 l1 x5_1).f0)) ∧ w'.cell? ⟨(ad163.add ((x5_1).toNat * 3)).block, (ad163.add ((x5_1).toNat * 3)).off + 1, none⟩ = some (.int .i64 ((rd_T41 l1 x5_1).f1)) ∧ w'.cell? ⟨(ad163.add ((x5_1).toNat * 3)).block, (ad163.add ((x5_1).toNat * 3)).off + 2, none⟩ = some (.slice A163_2 ((rd_T41 l1 x5_1).f2).length c163_2)) (ds := []) mk_38_0 (by kernel_rfl) rfl rfl ⟨((HB.out.cell (World.block_lt_of_cell? w _ hw162_0)).trans hw162_0), ((HB.out.cell (World.block_lt_of_cell? w _ hw162_1)).trans hw162_1), ((HB.out.cell (World.block_lt_of_cell? w _ hw162_2)).trans hw162_2), ((HB.out.cell (World.block_lt_of_cell? w _ hw163_0)).trans hw163_0), ((HB.out.cell (World.block_lt_of_cell? w _ hw163_1)).trans hw163_1), ((HB.out.cell (World.block_lt_of_cell? w _ hw163_2)).trans hw163_2), ((HB.out.cell (World.block_lt_of_cell? w _ hw164_0)).trans hw164_0), ((HB.out.cell (World.block_lt_of_cell? w _ hw164_1)).trans hw164_1), ((HB.out.cell (World.block_lt_of_cell? w _ hw164_2)).trans hw164_2), ((HB.out.cell (World.block_lt_of_cell? w _ hw165_0)).trans hw165_0), ((HB.out.cell (World.block_lt_of_cell? w _ hw165_1)).trans hw165_1), ((HB.out.cell (World.block_lt_of_cell? w _ hw165_2)).trans hw165_2), ((HB.out.cell (World.block_lt_of_cell? w _ hw166_0)).trans hw166_0), ((HB.out.cell (World.block_lt_of_cell? w _ hw166_1)).trans hw166_1), ((HB.out.cell (World.block_lt_of_cell? w _ hw166_2)).trans hw166_2), ((HB.out.cell (World.block_lt_of_cell? w _ hw167_0)).trans hw167_0), ((HB.out.cell (World.block_lt_of_cell? w _ hw167_1)).trans hw167_1), ((HB.out.cell (World.block_lt_of_cell? w _ hw167_2)).trans hw167_2)⟩ (fun hHeld => ?_); refine with_tabW watchwordlaw0_SameRoutes.tab6 watchwordlaw0_SameRoutes.bits6 (fun HT_ HW_ => ?_)
          generalize wr.drew = w11 at HB HR162_2 HR163_2 HR164_2 HR165_2 HR166_2 HR167_2 hx162_0 hx162_1 hx162_2 hx163_0 hx163_1 hx163_2 hx164_0 hx164_1 hx164_2 hx165_0 hx165_1 hx165_2 hx166_0 hx166_1 hx166_2 hx167_0 hx167_1 hx167_2 hHeld ⊢
          refine pure_ (i := 0) (N := some 17) (v := ?_) (a' := ?_) mk_38_1 rfl rfl (any_of HT_.out (by kernel_rfl)) (fun _ _ _ h => h) (Or.inl ⟨by rfl, ?_⟩) ?_ ?_
          rotate_left
          ·intro w'
           go_simp
           with_reducible rfl
          rotate_left
          ·simp only [Act.put, List.setIfInBounds_toArray, List.set_cons_zero, List.set_cons_succ, i64_w, i32_w]
           rfl
          refine pure_ (i := 1) (N := some 18) (v := ?_) (a' := ?_) mk_38_2 rfl rfl (any_of HT_.out (by kernel_rfl)) (fun _ _ _ h => h) (Or.inl ⟨by rfl, ?_⟩) ?_ ?_
          rotate_left
          ·intro w'
           go_simp
           with_reducible rfl
          rotate_left
          ·simp only [Act.put, List.setIfInBounds_toArray, List.set_cons_zero, List.set_cons_succ, i64_w, i32_w]
           rfl
          refine pure_ (i := 2) (N := some 19) (v := ?_) (a' := ?_) mk_38_3 rfl rfl (any_of HT_.out (by kernel_rfl)) (fun _ _ _ h => h) (Or.inl ⟨by rfl, ?_⟩) ?_ ?_
          rotate_left
          ·intro w'
           go_simp
           with_reducible rfl
          rotate_left
          ·simp only [Act.put, List.setIfInBounds_toArray, List.set_cons_zero, List.set_cons_succ, i64_w, i32_w]
           rfl
          refine pure_ (i := 3) (N := some 20) (v := ?_) (a' := ?_) mk_38_4 rfl rfl (any_of HT_.out (by kernel_rfl)) (fun _ _ _ h => h) (Or.inl ⟨by rfl, ?_⟩) ?_ ?_
          rotate_left
          ·intro w'
           go_simp
           with_reducible rfl
          rotate_left
          ·simp only [Act.put, List.setIfInBounds_toArray, List.set_cons_zero, List.set_cons_succ, i64_w, i32_w]
           rfl
          refine pure_ (i := 5) (N := some 22) (v := ?_) (a' := ?_) #[true, true, true, true, false, true, false, false, false, false, false, false, false, false, false, false, false, false, false, false, false, false, false, false, false, false, false, false, false, false, false, false, false, false, false, false, false, false] rfl rfl (any_of HT_.out (by kernel_rfl)) (fun _ _ _ h => h) (Or.inl ⟨by rfl, ?_⟩) ?_ ?_
          rotate_left
          ·intro w'
           go_simp
           with_reducible rfl
          rotate_left
          ·simp only [Act.put, List.setIfInBounds_toArray, List.set_cons_zero, List.set_cons_succ, i64_w, i32_w]
           rfl
          refine pure_ (i := 6) (N := some 23) (v := ?_) (a' := ?_) #[true, true, true, true, false, true, true, false, false, false, false, false, false, false, false, false, false, false, false, false, false, false, false, false, false, false, false, false, false, false, false, false, false, false, false, false, false, false] rfl rfl (any_of HT_.out (by kernel_rfl)) (fun _ _ _ h => h) (Or.inl ⟨by rfl, ?_⟩) ?_ ?_
          rotate_left
          ·intro w'
           go_simp
           with_reducible rfl
          rotate_left
          ·simp only [Act.put, List.setIfInBounds_toArray, List.set_cons_zero, List.set_cons_succ, i64_w, i32_w]
           rfl
          refine pure_ (i := 7) (N := some 24) (v := ?_) (a' := ?_) #[true, true, true, true, false, true, true, true, false, false, false, false, false, false, false, false, false, false, false, false, false, false, false, false, false, false, false, false, false, false, false, false, false, false, false, false, false, false] rfl rfl (any_of HT_.out (by kernel_rfl)) (fun _ _ _ h => h) (Or.inl ⟨by rfl, ?_⟩) ?_ ?_
          rotate_left
          ·intro w'
           go_simp
           with_reducible rfl
          rotate_left
          ·simp only [Act.put, List.setIfInBounds_toArray, List.set_cons_zero, List.set_cons_succ, i64_w, i32_w]
           rfl
          refine pure_ (i := 8) (N := some 25) (v := ?_) (a' := ?_) #[true, true, true, true, false, true, true, true, true, false, false, false, false, false, false, false, false, false, false, false, false, false, false, false, false, false, false, false, false, false, false, false, false, false, false, false, false, false] rfl rfl (any_of HT_.out (by kernel_rfl)) (fun _ _ _ h => h) (Or.inl ⟨by rfl, ?_⟩) ?_ ?_
          rotate_left
          ·intro w'
           go_simp
           with_reducible rfl
          rotate_left
          ·simp only [Act.put, List.setIfInBounds_toArray, List.set_cons_zero, List.set_cons_succ, i64_w, i32_w]
           rfl
          refine take_ (i := 4) (N := some 21) (v := ?_) (a' := ?_) mk_38_9 rfl rfl (take_ofW HT_.out HW_.out (by kernel_rfl)) (fun _ _ _ h => h) (Or.inl ⟨by rfl, ?_⟩) hHeld ?_ ?_
          rotate_left
          ·rintro w' ⟨s0, s1, s2, s3, s4, s5, s6, s7, s8, s9, s10, s11, s12, s13, s14, s15, s16, s17⟩
           go_simp
           with_reducible rfl
          rotate_left
          ·simp only [Act.put, List.setIfInBounds_toArray, List.set_cons_zero, List.set_cons_succ, i64_w, i32_w]
           rfl
          refine take_ (i := 9) (N := some 26) (v := ?_) (a' := ?_) mk_38_10 rfl rfl (take_ofW HT_.out HW_.out (by kernel_rfl)) (fun _ _ _ h => h) (Or.inl ⟨by rfl, ?_⟩) hHeld ?_ ?_
          rotate_left
          ·rintro w' ⟨s0, s1, s2, s3, s4, s5, s6, s7, s8, s9, s10, s11, s12, s13, s14, s15, s16, s17⟩
           go_simp
           with_reducible rfl
          rotate_left
          ·simp only [Act.put, List.setIfInBounds_toArray, List.set_cons_zero, List.set_cons_succ, i64_w, i32_w]
           rfl
          refine pure_ (i := 10) (N := some 27) (v := ?_) (a' := ?_) mk_38_11 rfl rfl (any_of HT_.out (by kernel_rfl)) (fun _ _ _ h => h) (Or.inl ⟨by rfl, ?_⟩) ?_ ?_
          rotate_left
          ·intro w'
           go_simp
           with_reducible rfl
          rotate_left
          ·simp only [Act.put, List.setIfInBounds_toArray, List.set_cons_zero, List.set_cons_succ, i64_w, i32_w]
           rfl
          refine pure_ (i := 11) (N := some 28) (v := ?_) (a' := ?_) mk_38_12 rfl rfl (any_of HT_.out (by kernel_rfl)) (fun _ _ _ h => h) (Or.inl ⟨by rfl, ?_⟩) ?_ ?_
          rotate_left
          ·intro w'
           go_simp
           with_reducible rfl
          rotate_left
          ·simp only [Act.put, List.setIfInBounds_toArray, List.set_cons_zero, List.set_cons_succ, i64_w, i32_w]
           rfl
          refine pure_ (i := 12) (N := some 29) (v := ?_) (a' := ?_) mk_38_13 rfl rfl (any_of HT_.out (by kernel_rfl)) (fun _ _ _ h => h) (Or.inl ⟨by rfl, ?_⟩) ?_ ?_
          rotate_left
          ·intro w'
           go_simp
           with_reducible rfl
          rotate_left
          ·simp only [Act.put, List.setIfInBounds_toArray, List.set_cons_zero, List.set_cons_succ, i64_w, i32_w]
           rfl
          refine pure_ (i := 13) (N := some 30) (v := ?_) (a' := ?_) mk_38_14 rfl rfl (any_of HT_.out (by kernel_rfl)) (fun _ _ _ h => h) (Or.inl ⟨by rfl, ?_⟩) ?_ ?_
          rotate_left
          ·intro w'
           go_simp
           with_reducible rfl
          rotate_left
          ·simp only [Act.put, List.setIfInBounds_toArray, List.set_cons_zero, List.set_cons_succ, i64_w, i32_w]
           rfl
          refine pure_ (i := 14) (N := some 31) (v := ?_) (a' := ?_) mk_38_15 rfl rfl (any_of HT_.out (by kernel_rfl)) (fun _ _ _ h => h) (Or.inl ⟨by rfl, ?_⟩) ?_ ?_
          rotate_left
          ·intro w'
           go_simp
           with_reducible rfl
          rotate_left
          ·simp only [Act.put, List.setIfInBounds_toArray, List.set_cons_zero, List.set_cons_succ, i64_w, i32_w]
           rfl
          refine pure_ (i := 15) (N := some 32) (v := ?_) (a' := ?_) mk_38_16 rfl rfl (any_of HT_.out (by kernel_rfl)) (fun _ _ _ h => h) (Or.inl ⟨by rfl, ?_⟩) ?_ ?_
          rotate_left
          ·intro w'
           go_simp
           with_reducible rfl
          rotate_left
          ·simp only [Act.put, List.setIfInBounds_toArray, List.set_cons_zero, List.set_cons_succ, i64_w, i32_w]
           rfl
          refine pure_ (i := 17) (N := some 34) (v := ?_) (a' := ?_) #[true, true, true, true, true, true, true, true, true, true, true, true, true, true, true, true, false, true, false, false, false, false, false, false, false, false, false, false, false, false, false, false, false, false, false, false, false, false] rfl rfl (any_of HT_.out (by kernel_rfl)) (fun _ _ _ h => h) (Or.inl ⟨by rfl, ?_⟩) ?_ ?_
          rotate_left
          ·intro w'
           go_simp
           with_reducible rfl
          rotate_left
          ·simp only [Act.put, List.setIfInBounds_toArray, List.set_cons_zero, List.set_cons_succ, i64_w, i32_w]
           rfl
          refine pure_ (i := 18) (N := some 35) (v := ?_) (a' := ?_) #[true, true, true, true, true, true, true, true, true, true, true, true, true, true, true, true, false, true, true, false, false, false, false, false, false, false, false, false, false, false, false, false, false, false, false, false, false, false] rfl rfl (any_of HT_.out (by kernel_rfl)) (fun _ _ _ h => h) (Or.inl ⟨by rfl, ?_⟩) ?_ ?_
          rotate_left
          ·intro w'
           go_simp
           with_reducible rfl
          rotate_left
          ·simp only [Act.put, List.setIfInBounds_toArray, List.set_cons_zero, List.set_cons_succ, i64_w, i32_w]
           rfl
          refine pure_ (i := 19) (N := some 36) (v := ?_) (a' := ?_) #[true, true, true, true, true, true, true, true, true, true, true, true, true, true, true, true, false, true, true, true, false, false, false, false, false, false, false, false, false, false, false, false, false, false, false, false, false, false] rfl rfl (any_of HT_.out (by kernel_rfl)) (fun _ _ _ h => h) (Or.inl ⟨by rfl, ?_⟩) ?_ ?_
          rotate_left
          ·intro w'
           go_simp
           with_reducible rfl
          rotate_left
          ·simp only [Act.put, List.setIfInBounds_toArray, List.set_cons_zero, List.set_cons_succ, i64_w, i32_w]
           rfl
          refine pure_ (i := 20) (N := some 37) (v := ?_) (a' := ?_) #[true, true, true, true, true, true, true, true, true, true, true, true, true, true, true, true, false, true, true, true, true, false, false, false, false, false, false, false, false, false, false, false, false, false, false, false, false, false] rfl rfl (any_of HT_.out (by kernel_rfl)) (fun _ _ _ h => h) (Or.inl ⟨by rfl, ?_⟩) ?_ ?_
          rotate_left
          ·intro w'
           go_simp
           with_reducible rfl
          rotate_left
          ·simp only [Act.put, List.setIfInBounds_toArray, List.set_cons_zero, List.set_cons_succ, i64_w, i32_w]
           rfl
          refine take_ (i := 16) (N := some 33) (v := ?_) (a' := ?_) mk_38_21 rfl rfl (take_ofW HT_.out HW_.out (by kernel_rfl)) (fun _ _ _ h => h) (Or.inl ⟨by rfl, ?_⟩) hHeld ?_ ?_
          rotate_left
          ·rintro w' ⟨s0, s1, s2, s3, s4, s5, s6, s7, s8, s9, s10, s11, s12, s13, s14, s15, s16, s17⟩
           go_simp
           with_reducible rfl
          rotate_left
          ·simp only [Act.put, List.setIfInBounds_toArray, List.set_cons_zero, List.set_cons_succ, i64_w, i32_w]
           rfl
          refine take_ (i := 21) (N := some 38) (v := ?_) (a' := ?_) mk_38_22 rfl rfl (take_ofW HT_.out HW_.out (by kernel_rfl)) (fun _ _ _ h => h) (Or.inl ⟨by rfl, ?_⟩) hHeld ?_ ?_
          rotate_left
          ·rintro w' ⟨s0, s1, s2, s3, s4, s5, s6, s7, s8, s9, s10, s11, s12, s13, s14, s15, s16, s17⟩
           go_simp
           with_reducible rfl
          rotate_left
          ·simp only [Act.put, List.setIfInBounds_toArray, List.set_cons_zero, List.set_cons_succ, i64_w, i32_w]
           rfl
          refine pure_ (i := 22) (N := some 39) (v := ?_) (a' := ?_) mk_38_23 rfl rfl (any_of HT_.out (by kernel_rfl)) (fun _ _ _ h => h) (Or.inl ⟨by rfl, ?_⟩) ?_ ?_
          rotate_left
          ·intro w'
           go_simp
           with_reducible rfl
          rotate_left
          ·simp only [Act.put, List.setIfInBounds_toArray, List.set_cons_zero, List.set_cons_succ, i64_w, i32_w]
           rfl
          refine pure_ (i := 23) (N := some 40) (v := ?_) (a' := ?_) mk_38_24 rfl rfl (any_of HT_.out (by kernel_rfl)) (fun _ _ _ h => h) (Or.inl ⟨by rfl, ?_⟩) ?_ ?_
          rotate_left
          ·intro w'
           go_simp
           with_reducible rfl
          rotate_left
          ·simp only [Act.put, List.setIfInBounds_toArray, List.set_cons_zero, List.set_cons_succ, i64_w, i32_w]
           rfl
          refine pure_ (i := 24) (N := some 41) (v := ?_) (a' := ?_) mk_38_25 rfl rfl (any_of HT_.out (by kernel_rfl)) (fun _ _ _ h => h) (Or.inl ⟨by rfl, ?_⟩) ?_ ?_
          rotate_left
          ·intro w'
           go_simp
           with_reducible rfl
          rotate_left
          ·simp only [Act.put, List.setIfInBounds_toArray, List.set_cons_zero, List.set_cons_succ, i64_w, i32_w]
           rfl
          refine pure_ (i := 25) (N := some 42) (v := ?_) (a' := ?_) mk_38_26 rfl rfl (any_of HT_.out (by kernel_rfl)) (fun _ _ _ h => h) (Or.inl ⟨by rfl, ?_⟩) ?_ ?_
          rotate_left
          ·intro w'
           go_simp
           with_reducible rfl
          rotate_left
          ·simp only [Act.put, List.setIfInBounds_toArray, List.set_cons_zero, List.set_cons_succ, i64_w, i32_w]
           rfl
          refine pure_ (i := 26) (N := some 43) (v := ?_) (a' := ?_) mk_38_27 rfl rfl (any_of HT_.out (by kernel_rfl)) (fun _ _ _ h => h) (Or.inl ⟨by rfl, ?_⟩) ?_ ?_
          rotate_left
          ·intro w'
           go_simp
           with_reducible rfl
          rotate_left
          ·simp only [Act.put, List.setIfInBounds_toArray, List.set_cons_zero, List.set_cons_succ, i64_w, i32_w]
           rfl
          refine pure_ (i := 27) (N := some 44) (v := ?_) (a' := ?_) mk_38_28 rfl rfl (any_of HT_.out (by kernel_rfl)) (fun _ _ _ h => h) (Or.inl ⟨by rfl, ?_⟩) ?_ ?_
          rotate_left
          ·intro w'
           go_simp
           with_reducible rfl
          rotate_left
          ·simp only [Act.put, List.setIfInBounds_toArray, List.set_cons_zero, List.set_cons_succ, i64_w, i32_w]
           rfl
          refine pure_ (i := 28) (N := some 45) (v := ?_) (a' := ?_) mk_38_29 rfl rfl (any_of HT_.out (by kernel_rfl)) (fun _ _ _ h => h) (Or.inl ⟨by rfl, ?_⟩) ?_ ?_
          rotate_left
          ·intro w'
           go_simp
           with_reducible rfl
          rotate_left
          ·simp only [Act.put, List.setIfInBounds_toArray, List.set_cons_zero, List.set_cons_succ, i64_w, i32_w]
           rfl
          refine pure_ (i := 30) (N := some 47) (v := ?_) (a' := ?_) #[true, true, true, true, true, true, true, true, true, true, true, true, true, true, true, true, true, true, true, true, true, true, true, true, true, true, true, true, true, false, true, false, false, false, false, false, false, false] rfl rfl (any_of HT_.out (by kernel_rfl)) (fun _ _ _ h => h) (Or.inl ⟨by rfl, ?_⟩) ?_ ?_
          rotate_left
          ·intro w'
           go_simp
           with_reducible rfl
          rotate_left
          ·simp only [Act.put, List.setIfInBounds_toArray, List.set_cons_zero, List.set_cons_succ, i64_w, i32_w]
           rfl
          refine pure_ (i := 31) (N := some 48) (v := ?_) (a' := ?_) #[true, true, true, true, true, true, true, true, true, true, true, true, true, true, true, true, true, true, true, true, true, true, true, true, true, true, true, true, true, false, true, true, false, false, false, false, false, false] rfl rfl (any_of HT_.out (by kernel_rfl)) (fun _ _ _ h => h) (Or.inl ⟨by rfl, ?_⟩) ?_ ?_
          rotate_left
          ·intro w'
           go_simp
           with_reducible rfl
          rotate_left
          ·simp only [Act.put, List.setIfInBounds_toArray, List.set_cons_zero, List.set_cons_succ, i64_w, i32_w]
           rfl
          refine pure_ (i := 32) (N := some 49) (v := ?_) (a' := ?_) #[true, true, true, true, true, true, true, true, true, true, true, true, true, true, true, true, true, true, true, true, true, true, true, true, true, true, true, true, true, false, true, true, true, false, false, false, false, false] rfl rfl (any_of HT_.out (by kernel_rfl)) (fun _ _ _ h => h) (Or.inl ⟨by rfl, ?_⟩) ?_ ?_
          rotate_left
          ·intro w'
           go_simp
           with_reducible rfl
          rotate_left
          ·simp only [Act.put, List.setIfInBounds_toArray, List.set_cons_zero, List.set_cons_succ, i64_w, i32_w]
           rfl
          refine pure_ (i := 33) (N := some 50) (v := ?_) (a' := ?_) #[true, true, true, true, true, true, true, true, true, true, true, true, true, true, true, true, true, true, true, true, true, true, true, true, true, true, true, true, true, false, true, true, true, true, false, false, false, false] rfl rfl (any_of HT_.out (by kernel_rfl)) (fun _ _ _ h => h) (Or.inl ⟨by rfl, ?_⟩) ?_ ?_
          rotate_left
          ·intro w'
           go_simp
           with_reducible rfl
          rotate_left
          ·simp only [Act.put, List.setIfInBounds_toArray, List.set_cons_zero, List.set_cons_succ, i64_w, i32_w]
           rfl
          refine take_ (i := 29) (N := some 46) (v := ?_) (a' := ?_) mk_38_34 rfl rfl (take_ofW HT_.out HW_.out (by kernel_rfl)) (fun _ _ _ h => h) (Or.inl ⟨by rfl, ?_⟩) hHeld ?_ ?_
          rotate_left
          ·rintro w' ⟨s0, s1, s2, s3, s4, s5, s6, s7, s8, s9, s10, s11, s12, s13, s14, s15, s16, s17⟩
           go_simp
           with_reducible rfl
          rotate_left
          ·simp only [Act.put, List.setIfInBounds_toArray, List.set_cons_zero, List.set_cons_succ, i64_w, i32_w]
           rfl
          refine take_ (i := 34) (N := some 51) (v := ?_) (a' := ?_) mk_38_35 rfl rfl (take_ofW HT_.out HW_.out (by kernel_rfl)) (fun _ _ _ h => h) (Or.inl ⟨by rfl, ?_⟩) hHeld ?_ ?_
          rotate_left
          ·rintro w' ⟨s0, s1, s2, s3, s4, s5, s6, s7, s8, s9, s10, s11, s12, s13, s14, s15, s16, s17⟩
           go_simp
           with_reducible rfl
          rotate_left
          ·simp only [Act.put, List.setIfInBounds_toArray, List.set_cons_zero, List.set_cons_succ, i64_w, i32_w]
           rfl
          refine one_ (i := 35) (N := some 52) mk_38_36 rfl rfl (one_of HT_.out (by kernel_rfl)) (by decide) (fun K hK => ?_)
          refine goes_ Try.func20 (by kernel_rfl) rfl #[.slice A162_2 ((rd_T41 l0 x5_1).f2).length c162_2, .slice A163_2 ((rd_T41 l1 x5_1).f2).length c163_2] (by rfl) rfl rfl (by (try simp only [List.map_toArray, List.map_cons, List.map_nil]); first | done | rfl | (simp only [List.length_drop, List.length_take]; rfl)) ?_
          with_reducible refine (watchwordlaw0_SameInts.calls k1 _ _ ((rd_T41 l0 x5_1).f2) _ _ ((rd_T41 l1 x5_1).f2) true _ ?side1 ?side2 ?side3 ?side4 A9.out).mono ?_
          (case side1 => repeat (first | exact (Kd.C_below HR166_2.out HB.out) | (with_reducible refine Kd.C_alloc ?_ _) | (with_reducible refine Kd.C_drewN ?_ _) | (with_reducible refine Kd.C_drew ?_)))
          (case side2 => exact HC166_2.out)
          (case side3 => repeat (first | exact (Kd.C_below HR167_2.out HB.out) | (with_reducible refine Kd.C_alloc ?_ _) | (with_reducible refine Kd.C_drewN ?_ _) | (with_reducible refine Kd.C_drew ?_)))
          (case side4 => exact HC167_2.out)
          rintro e w' ⟨rfl, ⟨nd, rfl⟩⟩
          refine ⟨_, rfl, ?_⟩
          refine hK.out _ _ ⟨((HB.out.cell (World.block_lt_of_cell? w _ hw162_0)).trans hw162_0), ((HB.out.cell (World.block_lt_of_cell? w _ hw162_1)).trans hw162_1), ((HB.out.cell (World.block_lt_of_cell? w _ hw162_2)).trans hw162_2), ((HB.out.cell (World.block_lt_of_cell? w _ hw163_0)).trans hw163_0), ((HB.out.cell (World.block_lt_of_cell? w _ hw163_1)).trans hw163_1), ((HB.out.cell (World.block_lt_of_cell? w _ hw163_2)).trans hw163_2), ((HB.out.cell (World.block_lt_of_cell? w _ hw164_0)).trans hw164_0), ((HB.out.cell (World.block_lt_of_cell? w _ hw164_1)).trans hw164_1), ((HB.out.cell (World.block_lt_of_cell? w _ hw164_2)).trans hw164_2), ((HB.out.cell (World.block_lt_of_cell? w _ hw165_0)).trans hw165_0), ((HB.out.cell (World.block_lt_of_cell? w _ hw165_1)).trans hw165_1), ((HB.out.cell (World.block_lt_of_cell? w _ hw165_2)).trans hw165_2), ((HB.out.cell (World.block_lt_of_cell? w _ hw166_0)).trans hw166_0), ((HB.out.cell (World.block_lt_of_cell? w _ hw166_1)).trans hw166_1), ((HB.out.cell (World.block_lt_of_cell? w _ hw166_2)).trans hw166_2), ((HB.out.cell (World.block_lt_of_cell? w _ hw167_0)).trans hw167_0), ((HB.out.cell (World.block_lt_of_cell? w _ hw167_1)).trans hw167_1), ((HB.out.cell (World.block_lt_of_cell? w _ hw167_2)).trans hw167_2)⟩ (fun hHeld => ?_)
          clear hK K
          refine norm_ (a' := ?_) ?_ ?_
          rotate_left
          ·show Act.put _ (some 52) _ = _
           simp only [Act.put, List.setIfInBounds_toArray, List.set_cons_zero, List.set_cons_succ, i64_w, i32_w]
           rfl
          refine pure_ (i := 36) (N := some 53) (v := ?_) (a' := ?_) mk_38_37 rfl rfl (any_of HT_.out (by kernel_rfl)) (fun _ _ _ h => h) (Or.inl ⟨by rfl, ?_⟩) ?_ ?_
          rotate_left
          ·intro w'
           go_simp
           with_reducible rfl
          rotate_left
          ·simp only [Act.put, List.setIfInBounds_toArray, List.set_cons_zero, List.set_cons_succ, i64_w, i32_w]
           rfl
          refine pure_ (i := 37) (N := some 54) (v := ?_) (a' := ?_) mk_38_38 rfl rfl (any_of HT_.out (by kernel_rfl)) (fun _ _ _ h => h) (Or.inl ⟨by rfl, ?_⟩) ?_ ?_
          rotate_left
          ·intro w'
           go_simp
           with_reducible rfl
          rotate_left
          ·simp only [Act.put, List.setIfInBounds_toArray, List.set_cons_zero, List.set_cons_succ, i64_w, i32_w]
           rfl
          refine done_ (done_of HT_.out (by kernel_rfl)) ?_
          try go_wp2
          go_roundg k1
          case measure => have := HK1.out; omega
          case rel => exact ⟨(wrap64 (x5_1 + 1)), (by first | rfl | (simp; done) | (simp [*]; done)), H', ⟨by have := HK1.out; omega⟩, ⟨by repeat (first | (with_reducible first | exact HB.out | apply below_alloc | apply pw_below_drewN | apply below_drew1) | exact HB.out)⟩⟩
         ·replace c10 := Bool.eq_false_iff.mpr c10
          subst c10
          have H1 : (some false) = some r := by rw [if_neg (show ¬ (false = true) by decide)] at H; exact H
          clear H
          have H := H1
          clear H1
          obtain rfl := Option.some.inj H
          try go_wp2
          have n0_ := Aside0.mk (below_drew1 HB.out)
          clear HB
          have HB := n0_
          clear n0_
          have p162 : 0 ≤ (x5_1 : Int) := of_decide_eq_true (by first | (with_reducible assumption) | assumption)
          have q162 : x5_1 < (l0.length : Int) := of_decide_eq_true (by first | (with_reducible assumption) | assumption)
          obtain ⟨ad162, A162_2, c162_2, e162, hx162_0, hx162_1, hx162_2, hl162_2, hi162_2⟩ := at_T41 HR0.out x5_1 p162 q162
          have hw162_2 := hx162_2
          have hw162_1 := hx162_1
          have hw162_0 := hx162_0
          cases e162
          replace hx162_0 := (HB.out.cell (World.block_lt_of_cell? w _ hx162_0)).trans hx162_0
          replace hx162_1 := (HB.out.cell (World.block_lt_of_cell? w _ hx162_1)).trans hx162_1
          replace hx162_2 := (HB.out.cell (World.block_lt_of_cell? w _ hx162_2)).trans hx162_2
          have HR162_2 := Aside0.mk hi162_2
          have HC162_2 := Aside0.mk hl162_2
          clear hi162_2 hl162_2
          replace p162 := eq_true p162
          replace q162 := eq_true q162
          have p163 : 0 ≤ (x5_1 : Int) := of_decide_eq_true (by first | (with_reducible assumption) | assumption)
          have q163 : x5_1 < (l1.length : Int) := of_decide_eq_true (by first | (with_reducible assumption) | assumption)
          obtain ⟨ad163, A163_2, c163_2, e163, hx163_0, hx163_1, hx163_2, hl163_2, hi163_2⟩ := at_T41 HR1.out x5_1 p163 q163
          have hw163_2 := hx163_2
          have hw163_1 := hx163_1
          have hw163_0 := hx163_0
          cases e163
          replace hx163_0 := (HB.out.cell (World.block_lt_of_cell? w _ hx163_0)).trans hx163_0
          replace hx163_1 := (HB.out.cell (World.block_lt_of_cell? w _ hx163_1)).trans hx163_1
          replace hx163_2 := (HB.out.cell (World.block_lt_of_cell? w _ hx163_2)).trans hx163_2
          have HR163_2 := Aside0.mk hi163_2
          have HC163_2 := Aside0.mk hl163_2
          clear hi163_2 hl163_2
          replace p163 := eq_true p163
          replace q163 := eq_true q163
          have p164 : 0 ≤ (x5_1 : Int) := of_decide_eq_true (by first | (with_reducible assumption) | assumption)
          have q164 : x5_1 < (l0.length : Int) := of_decide_eq_true (by first | (with_reducible assumption) | assumption)
          obtain ⟨ad164, A164_2, c164_2, e164, hx164_0, hx164_1, hx164_2, hl164_2, hi164_2⟩ := at_T41 HR0.out x5_1 p164 q164
          have hw164_2 := hx164_2
          have hw164_1 := hx164_1
          have hw164_0 := hx164_0
          obtain rfl : ad162 = ad164 := (by injection e164)
          replace hx164_0 := (HB.out.cell (World.block_lt_of_cell? w _ hx164_0)).trans hx164_0
          replace hx164_1 := (HB.out.cell (World.block_lt_of_cell? w _ hx164_1)).trans hx164_1
          replace hx164_2 := (HB.out.cell (World.block_lt_of_cell? w _ hx164_2)).trans hx164_2
          have HR164_2 := Aside0.mk hi164_2
          have HC164_2 := Aside0.mk hl164_2
          clear hi164_2 hl164_2
          replace p164 := eq_true p164
          replace q164 := eq_true q164
          have ea_ := Option.some.inj (hx162_2.symm.trans hx164_2)
          injection ea_ with ea_ en_ ec_
          subst ea_
          subst ec_
          clear en_
          have p165 : 0 ≤ (x5_1 : Int) := of_decide_eq_true (by first | (with_reducible assumption) | assumption)
          have q165 : x5_1 < (l1.length : Int) := of_decide_eq_true (by first | (with_reducible assumption) | assumption)
          obtain ⟨ad165, A165_2, c165_2, e165, hx165_0, hx165_1, hx165_2, hl165_2, hi165_2⟩ := at_T41 HR1.out x5_1 p165 q165
          have hw165_2 := hx165_2
          have hw165_1 := hx165_1
          have hw165_0 := hx165_0
          obtain rfl : ad163 = ad165 := (by injection e165)
          replace hx165_0 := (HB.out.cell (World.block_lt_of_cell? w _ hx165_0)).trans hx165_0
          replace hx165_1 := (HB.out.cell (World.block_lt_of_cell? w _ hx165_1)).trans hx165_1
          replace hx165_2 := (HB.out.cell (World.block_lt_of_cell? w _ hx165_2)).trans hx165_2
          have HR165_2 := Aside0.mk hi165_2
          have HC165_2 := Aside0.mk hl165_2
          clear hi165_2 hl165_2
          replace p165 := eq_true p165
          replace q165 := eq_true q165
          have ea_ := Option.some.inj (hx163_2.symm.trans hx165_2)
          injection ea_ with ea_ en_ ec_
          subst ea_
          subst ec_
          clear en_
          have p166 : 0 ≤ (x5_1 : Int) := of_decide_eq_true (by first | (with_reducible assumption) | assumption)
          have q166 : x5_1 < (l0.length : Int) := of_decide_eq_true (by first | (with_reducible assumption) | assumption)
          obtain ⟨ad166, A166_2, c166_2, e166, hx166_0, hx166_1, hx166_2, hl166_2, hi166_2⟩ := at_T41 HR0.out x5_1 p166 q166
          have hw166_2 := hx166_2
          have hw166_1 := hx166_1
          have hw166_0 := hx166_0
          obtain rfl : ad162 = ad166 := (by injection e166)
          replace hx166_0 := (HB.out.cell (World.block_lt_of_cell? w _ hx166_0)).trans hx166_0
          replace hx166_1 := (HB.out.cell (World.block_lt_of_cell? w _ hx166_1)).trans hx166_1
          replace hx166_2 := (HB.out.cell (World.block_lt_of_cell? w _ hx166_2)).trans hx166_2
          have HR166_2 := Aside0.mk hi166_2
          have HC166_2 := Aside0.mk hl166_2
          clear hi166_2 hl166_2
          replace p166 := eq_true p166
          replace q166 := eq_true q166
          have ea_ := Option.some.inj (hx162_2.symm.trans hx166_2)
          injection ea_ with ea_ en_ ec_
          subst ea_
          subst ec_
          clear en_
          have p167 : 0 ≤ (x5_1 : Int) := of_decide_eq_true (by first | (with_reducible assumption) | assumption)
          have q167 : x5_1 < (l1.length : Int) := of_decide_eq_true (by first | (with_reducible assumption) | assumption)
          obtain ⟨ad167, A167_2, c167_2, e167, hx167_0, hx167_1, hx167_2, hl167_2, hi167_2⟩ := at_T41 HR1.out x5_1 p167 q167
          have hw167_2 := hx167_2
          have hw167_1 := hx167_1
          have hw167_0 := hx167_0
          obtain rfl : ad163 = ad167 := (by injection e167)
          replace hx167_0 := (HB.out.cell (World.block_lt_of_cell? w _ hx167_0)).trans hx167_0
          replace hx167_1 := (HB.out.cell (World.block_lt_of_cell? w _ hx167_1)).trans hx167_1
          replace hx167_2 := (HB.out.cell (World.block_lt_of_cell? w _ hx167_2)).trans hx167_2
          have HR167_2 := Aside0.mk hi167_2
          have HC167_2 := Aside0.mk hl167_2
          clear hi167_2 hl167_2
          replace p167 := eq_true p167
          replace q167 := eq_true q167
          have ea_ := Option.some.inj (hx163_2.symm.trans hx167_2)
          injection ea_ with ea_ en_ ec_
          subst ea_
          subst ec_
          clear en_
          refine start_ (n := 38) (S := fun w' => w'.cell? (ad162.add ((x5_1).toNat * 3)) = some (.int .i64 ((rd_T41 l0 x5_1).f0)) ∧ w'.cell? ⟨(ad162.add ((x5_1).toNat * 3)).block, (ad162.add ((x5_1).toNat * 3)).off + 1, none⟩ = some (.int .i64 ((rd_T41 l0 x5_1).f1)) ∧ w'.cell? ⟨(ad162.add ((x5_1).toNat * 3)).block, (ad162.add ((x5_1).toNat * 3)).off + 2, none⟩ = some (.slice A162_2 ((rd_T41 l0 x5_1).f2).length c162_2) ∧ w'.cell? (ad163.add ((x5_1).toNat * 3)) = some (.int .i64 ((rd_T41 l1 x5_1).f0)) ∧ w'.cell? ⟨(ad163.add ((x5_1).toNat * 3)).block, (ad163.add ((x5_1).toNat * 3)).off + 1, none⟩ = some (.int .i64 ((rd_T41 l1 x5_1).f1)) ∧ w'.cell? ⟨(ad163.add ((x5_1).toNat * 3)).block, (ad163.add ((x5_1).toNat * 3)).off + 2, none⟩ = some (.slice A163_2 ((rd_T41 l1 x5_1).f2).length c163_2) ∧ w'.cell? (ad162.add ((x5_1).toNat * 3)) = some (.int .i64 ((rd_T41 l0 x5_1).f0)) ∧ w'.cell? ⟨(ad162.add ((x5_1).toNat * 3)).block, (ad162.add ((x5_1).toNat * 3)).off + 1, none⟩ = some (.int .i64 ((rd_T41 l0 x5_1).f1)) ∧ w'.cell? ⟨(ad162.add ((x5_1).toNat * 3)).block, (ad162.add ((x5_1).toNat * 3)).off + 2, none⟩ = some (.slice A162_2 ((rd_T41 l0 x5_1).f2).length c162_2) ∧ w'.cell? (ad163.add ((x5_1).toNat * 3)) = some (.int .i64 ((rd_T41 l1 x5_1).f0)) ∧ w'.cell? ⟨(ad163.add ((x5_1).toNat * 3)).block, (ad163.add ((x5_1).toNat * 3)).off + 1, none⟩ = some (.int .i64 ((rd_T41 l1 x5_1).f1)) ∧ w'.cell? ⟨(ad163.add ((x5_1).toNat * 3)).block, (ad163.add ((x5_1).toNat * 3)).off + 2, none⟩ = some (.slice A163_2 ((rd_T41 l1 x5_1).f2).length c163_2) ∧ w'.cell? (ad162.add ((x5_1).toNat * 3)) = some (.int .i64 ((rd_T41 l0 x5_1).f0)) ∧ w'.cell? ⟨(ad162.add ((x5_1).toNat * 3)).block, (ad162.add ((x5_1).toNat * 3)).off + 1, none⟩ = some (.int .i64 ((rd_T41 l0 x5_1).f1)) ∧ w'.cell? ⟨(ad162.add ((x5_1).toNat * 3)).block, (ad162.add ((x5_1).toNat * 3)).off + 2, none⟩ = some (.slice A162_2 ((rd_T41 l0 x5_1).f2).length c162_2) ∧ w'.cell? (ad163.add ((x5_1).toNat * 3)) = some (.int .i64 ((rd_T41 l1 x5_1).f0)) ∧ w'.cell? ⟨(ad163.add ((x5_1).toNat * 3)).block, (ad163.add ((x5_1).toNat * 3)).off + 1, none⟩ = some (.int .i64 ((rd_T41 l1 x5_1).f1)) ∧ w'.cell? ⟨(ad163.add ((x5_1).toNat * 3)).block, (ad163.add ((x5_1).toNat * 3)).off + 2, none⟩ = some (.slice A163_2 ((rd_T41 l1 x5_1).f2).length c163_2)) (ds := []) mk_38_0 (by kernel_rfl) rfl rfl ⟨((HB.out.cell (World.block_lt_of_cell? w _ hw162_0)).trans hw162_0), ((HB.out.cell (World.block_lt_of_cell? w _ hw162_1)).trans hw162_1), ((HB.out.cell (World.block_lt_of_cell? w _ hw162_2)).trans hw162_2), ((HB.out.cell (World.block_lt_of_cell? w _ hw163_0)).trans hw163_0), ((HB.out.cell (World.block_lt_of_cell? w _ hw163_1)).trans hw163_1), ((HB.out.cell (World.block_lt_of_cell? w _ hw163_2)).trans hw163_2), ((HB.out.cell (World.block_lt_of_cell? w _ hw164_0)).trans hw164_0), ((HB.out.cell (World.block_lt_of_cell? w _ hw164_1)).trans hw164_1), ((HB.out.cell (World.block_lt_of_cell? w _ hw164_2)).trans hw164_2), ((HB.out.cell (World.block_lt_of_cell? w _ hw165_0)).trans hw165_0), ((HB.out.cell (World.block_lt_of_cell? w _ hw165_1)).trans hw165_1), ((HB.out.cell (World.block_lt_of_cell? w _ hw165_2)).trans hw165_2), ((HB.out.cell (World.block_lt_of_cell? w _ hw166_0)).trans hw166_0), ((HB.out.cell (World.block_lt_of_cell? w _ hw166_1)).trans hw166_1), ((HB.out.cell (World.block_lt_of_cell? w _ hw166_2)).trans hw166_2), ((HB.out.cell (World.block_lt_of_cell? w _ hw167_0)).trans hw167_0), ((HB.out.cell (World.block_lt_of_cell? w _ hw167_1)).trans hw167_1), ((HB.out.cell (World.block_lt_of_cell? w _ hw167_2)).trans hw167_2)⟩ (fun hHeld => ?_); refine with_tabW watchwordlaw0_SameRoutes.tab6 watchwordlaw0_SameRoutes.bits6 (fun HT_ HW_ => ?_)
          generalize wr.drew = w12 at HB HR162_2 HR163_2 HR164_2 HR165_2 HR166_2 HR167_2 hx162_0 hx162_1 hx162_2 hx163_0 hx163_1 hx163_2 hx164_0 hx164_1 hx164_2 hx165_0 hx165_1 hx165_2 hx166_0 hx166_1 hx166_2 hx167_0 hx167_1 hx167_2 hHeld ⊢
          refine pure_ (i := 0) (N := some 17) (v := ?_) (a' := ?_) mk_38_1 rfl rfl (any_of HT_.out (by kernel_rfl)) (fun _ _ _ h => h) (Or.inl ⟨by rfl, ?_⟩) ?_ ?_
          rotate_left
          ·intro w'
           go_simp
           with_reducible rfl
          rotate_left
          ·simp only [Act.put, List.setIfInBounds_toArray, List.set_cons_zero, List.set_cons_succ, i64_w, i32_w]
           rfl
          refine pure_ (i := 1) (N := some 18) (v := ?_) (a' := ?_) mk_38_2 rfl rfl (any_of HT_.out (by kernel_rfl)) (fun _ _ _ h => h) (Or.inl ⟨by rfl, ?_⟩) ?_ ?_
          rotate_left
          ·intro w'
           go_simp
           with_reducible rfl
          rotate_left
          ·simp only [Act.put, List.setIfInBounds_toArray, List.set_cons_zero, List.set_cons_succ, i64_w, i32_w]
           rfl
          refine pure_ (i := 2) (N := some 19) (v := ?_) (a' := ?_) mk_38_3 rfl rfl (any_of HT_.out (by kernel_rfl)) (fun _ _ _ h => h) (Or.inl ⟨by rfl, ?_⟩) ?_ ?_
          rotate_left
          ·intro w'
           go_simp
           with_reducible rfl
          rotate_left
          ·simp only [Act.put, List.setIfInBounds_toArray, List.set_cons_zero, List.set_cons_succ, i64_w, i32_w]
           rfl
          refine pure_ (i := 3) (N := some 20) (v := ?_) (a' := ?_) mk_38_4 rfl rfl (any_of HT_.out (by kernel_rfl)) (fun _ _ _ h => h) (Or.inl ⟨by rfl, ?_⟩) ?_ ?_
          rotate_left
          ·intro w'
           go_simp
           with_reducible rfl
          rotate_left
          ·simp only [Act.put, List.setIfInBounds_toArray, List.set_cons_zero, List.set_cons_succ, i64_w, i32_w]
           rfl
          refine pure_ (i := 5) (N := some 22) (v := ?_) (a' := ?_) #[true, true, true, true, false, true, false, false, false, false, false, false, false, false, false, false, false, false, false, false, false, false, false, false, false, false, false, false, false, false, false, false, false, false, false, false, false, false] rfl rfl (any_of HT_.out (by kernel_rfl)) (fun _ _ _ h => h) (Or.inl ⟨by rfl, ?_⟩) ?_ ?_
          rotate_left
          ·intro w'
           go_simp
           with_reducible rfl
          rotate_left
          ·simp only [Act.put, List.setIfInBounds_toArray, List.set_cons_zero, List.set_cons_succ, i64_w, i32_w]
           rfl
          refine pure_ (i := 6) (N := some 23) (v := ?_) (a' := ?_) #[true, true, true, true, false, true, true, false, false, false, false, false, false, false, false, false, false, false, false, false, false, false, false, false, false, false, false, false, false, false, false, false, false, false, false, false, false, false] rfl rfl (any_of HT_.out (by kernel_rfl)) (fun _ _ _ h => h) (Or.inl ⟨by rfl, ?_⟩) ?_ ?_
          rotate_left
          ·intro w'
           go_simp
           with_reducible rfl
          rotate_left
          ·simp only [Act.put, List.setIfInBounds_toArray, List.set_cons_zero, List.set_cons_succ, i64_w, i32_w]
           rfl
          refine pure_ (i := 7) (N := some 24) (v := ?_) (a' := ?_) #[true, true, true, true, false, true, true, true, false, false, false, false, false, false, false, false, false, false, false, false, false, false, false, false, false, false, false, false, false, false, false, false, false, false, false, false, false, false] rfl rfl (any_of HT_.out (by kernel_rfl)) (fun _ _ _ h => h) (Or.inl ⟨by rfl, ?_⟩) ?_ ?_
          rotate_left
          ·intro w'
           go_simp
           with_reducible rfl
          rotate_left
          ·simp only [Act.put, List.setIfInBounds_toArray, List.set_cons_zero, List.set_cons_succ, i64_w, i32_w]
           rfl
          refine pure_ (i := 8) (N := some 25) (v := ?_) (a' := ?_) #[true, true, true, true, false, true, true, true, true, false, false, false, false, false, false, false, false, false, false, false, false, false, false, false, false, false, false, false, false, false, false, false, false, false, false, false, false, false] rfl rfl (any_of HT_.out (by kernel_rfl)) (fun _ _ _ h => h) (Or.inl ⟨by rfl, ?_⟩) ?_ ?_
          rotate_left
          ·intro w'
           go_simp
           with_reducible rfl
          rotate_left
          ·simp only [Act.put, List.setIfInBounds_toArray, List.set_cons_zero, List.set_cons_succ, i64_w, i32_w]
           rfl
          refine take_ (i := 4) (N := some 21) (v := ?_) (a' := ?_) mk_38_9 rfl rfl (take_ofW HT_.out HW_.out (by kernel_rfl)) (fun _ _ _ h => h) (Or.inl ⟨by rfl, ?_⟩) hHeld ?_ ?_
          rotate_left
          ·rintro w' ⟨s0, s1, s2, s3, s4, s5, s6, s7, s8, s9, s10, s11, s12, s13, s14, s15, s16, s17⟩
           go_simp
           with_reducible rfl
          rotate_left
          ·simp only [Act.put, List.setIfInBounds_toArray, List.set_cons_zero, List.set_cons_succ, i64_w, i32_w]
           rfl
          refine take_ (i := 9) (N := some 26) (v := ?_) (a' := ?_) mk_38_10 rfl rfl (take_ofW HT_.out HW_.out (by kernel_rfl)) (fun _ _ _ h => h) (Or.inl ⟨by rfl, ?_⟩) hHeld ?_ ?_
          rotate_left
          ·rintro w' ⟨s0, s1, s2, s3, s4, s5, s6, s7, s8, s9, s10, s11, s12, s13, s14, s15, s16, s17⟩
           go_simp
           with_reducible rfl
          rotate_left
          ·simp only [Act.put, List.setIfInBounds_toArray, List.set_cons_zero, List.set_cons_succ, i64_w, i32_w]
           rfl
          refine pure_ (i := 10) (N := some 27) (v := ?_) (a' := ?_) mk_38_11 rfl rfl (any_of HT_.out (by kernel_rfl)) (fun _ _ _ h => h) (Or.inl ⟨by rfl, ?_⟩) ?_ ?_
          rotate_left
          ·intro w'
           go_simp
           with_reducible rfl
          rotate_left
          ·simp only [Act.put, List.setIfInBounds_toArray, List.set_cons_zero, List.set_cons_succ, i64_w, i32_w]
           rfl
          refine pure_ (i := 11) (N := some 28) (v := ?_) (a' := ?_) mk_38_12 rfl rfl (any_of HT_.out (by kernel_rfl)) (fun _ _ _ h => h) (Or.inl ⟨by rfl, ?_⟩) ?_ ?_
          rotate_left
          ·intro w'
           go_simp
           with_reducible rfl
          rotate_left
          ·simp only [Act.put, List.setIfInBounds_toArray, List.set_cons_zero, List.set_cons_succ, i64_w, i32_w]
           rfl
          refine pure_ (i := 12) (N := some 29) (v := ?_) (a' := ?_) mk_38_13 rfl rfl (any_of HT_.out (by kernel_rfl)) (fun _ _ _ h => h) (Or.inl ⟨by rfl, ?_⟩) ?_ ?_
          rotate_left
          ·intro w'
           go_simp
           with_reducible rfl
          rotate_left
          ·simp only [Act.put, List.setIfInBounds_toArray, List.set_cons_zero, List.set_cons_succ, i64_w, i32_w]
           rfl
          refine pure_ (i := 13) (N := some 30) (v := ?_) (a' := ?_) mk_38_14 rfl rfl (any_of HT_.out (by kernel_rfl)) (fun _ _ _ h => h) (Or.inl ⟨by rfl, ?_⟩) ?_ ?_
          rotate_left
          ·intro w'
           go_simp
           with_reducible rfl
          rotate_left
          ·simp only [Act.put, List.setIfInBounds_toArray, List.set_cons_zero, List.set_cons_succ, i64_w, i32_w]
           rfl
          refine pure_ (i := 14) (N := some 31) (v := ?_) (a' := ?_) mk_38_15 rfl rfl (any_of HT_.out (by kernel_rfl)) (fun _ _ _ h => h) (Or.inl ⟨by rfl, ?_⟩) ?_ ?_
          rotate_left
          ·intro w'
           go_simp
           with_reducible rfl
          rotate_left
          ·simp only [Act.put, List.setIfInBounds_toArray, List.set_cons_zero, List.set_cons_succ, i64_w, i32_w]
           rfl
          refine pure_ (i := 15) (N := some 32) (v := ?_) (a' := ?_) mk_38_16 rfl rfl (any_of HT_.out (by kernel_rfl)) (fun _ _ _ h => h) (Or.inl ⟨by rfl, ?_⟩) ?_ ?_
          rotate_left
          ·intro w'
           go_simp
           with_reducible rfl
          rotate_left
          ·simp only [Act.put, List.setIfInBounds_toArray, List.set_cons_zero, List.set_cons_succ, i64_w, i32_w]
           rfl
          refine pure_ (i := 17) (N := some 34) (v := ?_) (a' := ?_) #[true, true, true, true, true, true, true, true, true, true, true, true, true, true, true, true, false, true, false, false, false, false, false, false, false, false, false, false, false, false, false, false, false, false, false, false, false, false] rfl rfl (any_of HT_.out (by kernel_rfl)) (fun _ _ _ h => h) (Or.inl ⟨by rfl, ?_⟩) ?_ ?_
          rotate_left
          ·intro w'
           go_simp
           with_reducible rfl
          rotate_left
          ·simp only [Act.put, List.setIfInBounds_toArray, List.set_cons_zero, List.set_cons_succ, i64_w, i32_w]
           rfl
          refine pure_ (i := 18) (N := some 35) (v := ?_) (a' := ?_) #[true, true, true, true, true, true, true, true, true, true, true, true, true, true, true, true, false, true, true, false, false, false, false, false, false, false, false, false, false, false, false, false, false, false, false, false, false, false] rfl rfl (any_of HT_.out (by kernel_rfl)) (fun _ _ _ h => h) (Or.inl ⟨by rfl, ?_⟩) ?_ ?_
          rotate_left
          ·intro w'
           go_simp
           with_reducible rfl
          rotate_left
          ·simp only [Act.put, List.setIfInBounds_toArray, List.set_cons_zero, List.set_cons_succ, i64_w, i32_w]
           rfl
          refine pure_ (i := 19) (N := some 36) (v := ?_) (a' := ?_) #[true, true, true, true, true, true, true, true, true, true, true, true, true, true, true, true, false, true, true, true, false, false, false, false, false, false, false, false, false, false, false, false, false, false, false, false, false, false] rfl rfl (any_of HT_.out (by kernel_rfl)) (fun _ _ _ h => h) (Or.inl ⟨by rfl, ?_⟩) ?_ ?_
          rotate_left
          ·intro w'
           go_simp
           with_reducible rfl
          rotate_left
          ·simp only [Act.put, List.setIfInBounds_toArray, List.set_cons_zero, List.set_cons_succ, i64_w, i32_w]
           rfl
          refine pure_ (i := 20) (N := some 37) (v := ?_) (a' := ?_) #[true, true, true, true, true, true, true, true, true, true, true, true, true, true, true, true, false, true, true, true, true, false, false, false, false, false, false, false, false, false, false, false, false, false, false, false, false, false] rfl rfl (any_of HT_.out (by kernel_rfl)) (fun _ _ _ h => h) (Or.inl ⟨by rfl, ?_⟩) ?_ ?_
          rotate_left
          ·intro w'
           go_simp
           with_reducible rfl
          rotate_left
          ·simp only [Act.put, List.setIfInBounds_toArray, List.set_cons_zero, List.set_cons_succ, i64_w, i32_w]
           rfl
          refine take_ (i := 16) (N := some 33) (v := ?_) (a' := ?_) mk_38_21 rfl rfl (take_ofW HT_.out HW_.out (by kernel_rfl)) (fun _ _ _ h => h) (Or.inl ⟨by rfl, ?_⟩) hHeld ?_ ?_
          rotate_left
          ·rintro w' ⟨s0, s1, s2, s3, s4, s5, s6, s7, s8, s9, s10, s11, s12, s13, s14, s15, s16, s17⟩
           go_simp
           with_reducible rfl
          rotate_left
          ·simp only [Act.put, List.setIfInBounds_toArray, List.set_cons_zero, List.set_cons_succ, i64_w, i32_w]
           rfl
          refine take_ (i := 21) (N := some 38) (v := ?_) (a' := ?_) mk_38_22 rfl rfl (take_ofW HT_.out HW_.out (by kernel_rfl)) (fun _ _ _ h => h) (Or.inl ⟨by rfl, ?_⟩) hHeld ?_ ?_
          rotate_left
          ·rintro w' ⟨s0, s1, s2, s3, s4, s5, s6, s7, s8, s9, s10, s11, s12, s13, s14, s15, s16, s17⟩
           go_simp
           with_reducible rfl
          rotate_left
          ·simp only [Act.put, List.setIfInBounds_toArray, List.set_cons_zero, List.set_cons_succ, i64_w, i32_w]
           rfl
          refine pure_ (i := 22) (N := some 39) (v := ?_) (a' := ?_) mk_38_23 rfl rfl (any_of HT_.out (by kernel_rfl)) (fun _ _ _ h => h) (Or.inl ⟨by rfl, ?_⟩) ?_ ?_
          rotate_left
          ·intro w'
           go_simp
           with_reducible rfl
          rotate_left
          ·simp only [Act.put, List.setIfInBounds_toArray, List.set_cons_zero, List.set_cons_succ, i64_w, i32_w]
           rfl
          refine pure_ (i := 23) (N := some 40) (v := ?_) (a' := ?_) mk_38_24 rfl rfl (any_of HT_.out (by kernel_rfl)) (fun _ _ _ h => h) (Or.inl ⟨by rfl, ?_⟩) ?_ ?_
          rotate_left
          ·intro w'
           go_simp
           with_reducible rfl
          rotate_left
          ·simp only [Act.put, List.setIfInBounds_toArray, List.set_cons_zero, List.set_cons_succ, i64_w, i32_w]
           rfl
          refine pure_ (i := 24) (N := some 41) (v := ?_) (a' := ?_) mk_38_25 rfl rfl (any_of HT_.out (by kernel_rfl)) (fun _ _ _ h => h) (Or.inl ⟨by rfl, ?_⟩) ?_ ?_
          rotate_left
          ·intro w'
           go_simp
           with_reducible rfl
          rotate_left
          ·simp only [Act.put, List.setIfInBounds_toArray, List.set_cons_zero, List.set_cons_succ, i64_w, i32_w]
           rfl
          refine pure_ (i := 25) (N := some 42) (v := ?_) (a' := ?_) mk_38_26 rfl rfl (any_of HT_.out (by kernel_rfl)) (fun _ _ _ h => h) (Or.inl ⟨by rfl, ?_⟩) ?_ ?_
          rotate_left
          ·intro w'
           go_simp
           with_reducible rfl
          rotate_left
          ·simp only [Act.put, List.setIfInBounds_toArray, List.set_cons_zero, List.set_cons_succ, i64_w, i32_w]
           rfl
          refine pure_ (i := 26) (N := some 43) (v := ?_) (a' := ?_) mk_38_27 rfl rfl (any_of HT_.out (by kernel_rfl)) (fun _ _ _ h => h) (Or.inl ⟨by rfl, ?_⟩) ?_ ?_
          rotate_left
          ·intro w'
           go_simp
           with_reducible rfl
          rotate_left
          ·simp only [Act.put, List.setIfInBounds_toArray, List.set_cons_zero, List.set_cons_succ, i64_w, i32_w]
           rfl
          refine pure_ (i := 27) (N := some 44) (v := ?_) (a' := ?_) mk_38_28 rfl rfl (any_of HT_.out (by kernel_rfl)) (fun _ _ _ h => h) (Or.inl ⟨by rfl, ?_⟩) ?_ ?_
          rotate_left
          ·intro w'
           go_simp
           with_reducible rfl
          rotate_left
          ·simp only [Act.put, List.setIfInBounds_toArray, List.set_cons_zero, List.set_cons_succ, i64_w, i32_w]
           rfl
          refine pure_ (i := 28) (N := some 45) (v := ?_) (a' := ?_) mk_38_29 rfl rfl (any_of HT_.out (by kernel_rfl)) (fun _ _ _ h => h) (Or.inl ⟨by rfl, ?_⟩) ?_ ?_
          rotate_left
          ·intro w'
           go_simp
           with_reducible rfl
          rotate_left
          ·simp only [Act.put, List.setIfInBounds_toArray, List.set_cons_zero, List.set_cons_succ, i64_w, i32_w]
           rfl
          refine pure_ (i := 30) (N := some 47) (v := ?_) (a' := ?_) #[true, true, true, true, true, true, true, true, true, true, true, true, true, true, true, true, true, true, true, true, true, true, true, true, true, true, true, true, true, false, true, false, false, false, false, false, false, false] rfl rfl (any_of HT_.out (by kernel_rfl)) (fun _ _ _ h => h) (Or.inl ⟨by rfl, ?_⟩) ?_ ?_
          rotate_left
          ·intro w'
           go_simp
           with_reducible rfl
          rotate_left
          ·simp only [Act.put, List.setIfInBounds_toArray, List.set_cons_zero, List.set_cons_succ, i64_w, i32_w]
           rfl
          refine pure_ (i := 31) (N := some 48) (v := ?_) (a' := ?_) #[true, true, true, true, true, true, true, true, true, true, true, true, true, true, true, true, true, true, true, true, true, true, true, true, true, true, true, true, true, false, true, true, false, false, false, false, false, false] rfl rfl (any_of HT_.out (by kernel_rfl)) (fun _ _ _ h => h) (Or.inl ⟨by rfl, ?_⟩) ?_ ?_
          rotate_left
          ·intro w'
           go_simp
           with_reducible rfl
          rotate_left
          ·simp only [Act.put, List.setIfInBounds_toArray, List.set_cons_zero, List.set_cons_succ, i64_w, i32_w]
           rfl
          refine pure_ (i := 32) (N := some 49) (v := ?_) (a' := ?_) #[true, true, true, true, true, true, true, true, true, true, true, true, true, true, true, true, true, true, true, true, true, true, true, true, true, true, true, true, true, false, true, true, true, false, false, false, false, false] rfl rfl (any_of HT_.out (by kernel_rfl)) (fun _ _ _ h => h) (Or.inl ⟨by rfl, ?_⟩) ?_ ?_
          rotate_left
          ·intro w'
           go_simp
           with_reducible rfl
          rotate_left
          ·simp only [Act.put, List.setIfInBounds_toArray, List.set_cons_zero, List.set_cons_succ, i64_w, i32_w]
           rfl
          refine pure_ (i := 33) (N := some 50) (v := ?_) (a' := ?_) #[true, true, true, true, true, true, true, true, true, true, true, true, true, true, true, true, true, true, true, true, true, true, true, true, true, true, true, true, true, false, true, true, true, true, false, false, false, false] rfl rfl (any_of HT_.out (by kernel_rfl)) (fun _ _ _ h => h) (Or.inl ⟨by rfl, ?_⟩) ?_ ?_
          rotate_left
          ·intro w'
           go_simp
           with_reducible rfl
          rotate_left
          ·simp only [Act.put, List.setIfInBounds_toArray, List.set_cons_zero, List.set_cons_succ, i64_w, i32_w]
           rfl
          refine take_ (i := 29) (N := some 46) (v := ?_) (a' := ?_) mk_38_34 rfl rfl (take_ofW HT_.out HW_.out (by kernel_rfl)) (fun _ _ _ h => h) (Or.inl ⟨by rfl, ?_⟩) hHeld ?_ ?_
          rotate_left
          ·rintro w' ⟨s0, s1, s2, s3, s4, s5, s6, s7, s8, s9, s10, s11, s12, s13, s14, s15, s16, s17⟩
           go_simp
           with_reducible rfl
          rotate_left
          ·simp only [Act.put, List.setIfInBounds_toArray, List.set_cons_zero, List.set_cons_succ, i64_w, i32_w]
           rfl
          refine take_ (i := 34) (N := some 51) (v := ?_) (a' := ?_) mk_38_35 rfl rfl (take_ofW HT_.out HW_.out (by kernel_rfl)) (fun _ _ _ h => h) (Or.inl ⟨by rfl, ?_⟩) hHeld ?_ ?_
          rotate_left
          ·rintro w' ⟨s0, s1, s2, s3, s4, s5, s6, s7, s8, s9, s10, s11, s12, s13, s14, s15, s16, s17⟩
           go_simp
           with_reducible rfl
          rotate_left
          ·simp only [Act.put, List.setIfInBounds_toArray, List.set_cons_zero, List.set_cons_succ, i64_w, i32_w]
           rfl
          refine one_ (i := 35) (N := some 52) mk_38_36 rfl rfl (one_of HT_.out (by kernel_rfl)) (by decide) (fun K hK => ?_)
          refine goes_ Try.func20 (by kernel_rfl) rfl #[.slice A162_2 ((rd_T41 l0 x5_1).f2).length c162_2, .slice A163_2 ((rd_T41 l1 x5_1).f2).length c163_2] (by rfl) rfl rfl (by (try simp only [List.map_toArray, List.map_cons, List.map_nil]); first | done | rfl | (simp only [List.length_drop, List.length_take]; rfl)) ?_
          with_reducible refine (watchwordlaw0_SameInts.calls k1 _ _ ((rd_T41 l0 x5_1).f2) _ _ ((rd_T41 l1 x5_1).f2) false _ ?side1 ?side2 ?side3 ?side4 A9.out).mono ?_
          (case side1 => repeat (first | exact (Kd.C_below HR166_2.out HB.out) | (with_reducible refine Kd.C_alloc ?_ _) | (with_reducible refine Kd.C_drewN ?_ _) | (with_reducible refine Kd.C_drew ?_)))
          (case side2 => exact HC166_2.out)
          (case side3 => repeat (first | exact (Kd.C_below HR167_2.out HB.out) | (with_reducible refine Kd.C_alloc ?_ _) | (with_reducible refine Kd.C_drewN ?_ _) | (with_reducible refine Kd.C_drew ?_)))
          (case side4 => exact HC167_2.out)
          rintro e w' ⟨rfl, ⟨nd, rfl⟩⟩
          refine ⟨_, rfl, ?_⟩
          refine hK.out _ _ ⟨((HB.out.cell (World.block_lt_of_cell? w _ hw162_0)).trans hw162_0), ((HB.out.cell (World.block_lt_of_cell? w _ hw162_1)).trans hw162_1), ((HB.out.cell (World.block_lt_of_cell? w _ hw162_2)).trans hw162_2), ((HB.out.cell (World.block_lt_of_cell? w _ hw163_0)).trans hw163_0), ((HB.out.cell (World.block_lt_of_cell? w _ hw163_1)).trans hw163_1), ((HB.out.cell (World.block_lt_of_cell? w _ hw163_2)).trans hw163_2), ((HB.out.cell (World.block_lt_of_cell? w _ hw164_0)).trans hw164_0), ((HB.out.cell (World.block_lt_of_cell? w _ hw164_1)).trans hw164_1), ((HB.out.cell (World.block_lt_of_cell? w _ hw164_2)).trans hw164_2), ((HB.out.cell (World.block_lt_of_cell? w _ hw165_0)).trans hw165_0), ((HB.out.cell (World.block_lt_of_cell? w _ hw165_1)).trans hw165_1), ((HB.out.cell (World.block_lt_of_cell? w _ hw165_2)).trans hw165_2), ((HB.out.cell (World.block_lt_of_cell? w _ hw166_0)).trans hw166_0), ((HB.out.cell (World.block_lt_of_cell? w _ hw166_1)).trans hw166_1), ((HB.out.cell (World.block_lt_of_cell? w _ hw166_2)).trans hw166_2), ((HB.out.cell (World.block_lt_of_cell? w _ hw167_0)).trans hw167_0), ((HB.out.cell (World.block_lt_of_cell? w _ hw167_1)).trans hw167_1), ((HB.out.cell (World.block_lt_of_cell? w _ hw167_2)).trans hw167_2)⟩ (fun hHeld => ?_)
          clear hK K
          refine norm_ (a' := ?_) ?_ ?_
          rotate_left
          ·show Act.put _ (some 52) _ = _
           simp only [Act.put, List.setIfInBounds_toArray, List.set_cons_zero, List.set_cons_succ, i64_w, i32_w]
           rfl
          refine pure_ (i := 36) (N := some 53) (v := ?_) (a' := ?_) mk_38_37 rfl rfl (any_of HT_.out (by kernel_rfl)) (fun _ _ _ h => h) (Or.inl ⟨by rfl, ?_⟩) ?_ ?_
          rotate_left
          ·intro w'
           go_simp
           with_reducible rfl
          rotate_left
          ·simp only [Act.put, List.setIfInBounds_toArray, List.set_cons_zero, List.set_cons_succ, i64_w, i32_w]
           rfl
          refine pure_ (i := 37) (N := some 54) (v := ?_) (a' := ?_) mk_38_38 rfl rfl (any_of HT_.out (by kernel_rfl)) (fun _ _ _ h => h) (Or.inl ⟨by rfl, ?_⟩) ?_ ?_
          rotate_left
          ·intro w'
           go_simp
           with_reducible rfl
          rotate_left
          ·simp only [Act.put, List.setIfInBounds_toArray, List.set_cons_zero, List.set_cons_succ, i64_w, i32_w]
           rfl
          refine done_ (done_of HT_.out (by kernel_rfl)) ?_
          try go_wp2
          go_ret
          exact ⟨by first | rfl | (simp [errW_none, errW_some] <;> rfl) | (simp [*, errW_none, errW_some] <;> rfl), by repeat (first | (with_reducible first | exact HB.out | apply below_alloc | apply pw_below_drewN | apply below_drew1) | exact HB.out)⟩
        ·rw [if_neg c8] at H
         have c8b0 : (((rd_T41 l0 x5_1).f1) == ((rd_T41 l1 x5_1).f1)) = false := beq_eq_false_iff_ne.mpr c8
         have c8b1 : (((rd_T41 l0 x5_1).f1) != ((rd_T41 l1 x5_1).f1)) = true := bne_iff_ne.mpr c8
         obtain rfl := Option.some.inj H
         try go_wp2
         have n0_ := Aside0.mk (below_drew1 HB.out)
         clear HB
         have HB := n0_
         clear n0_
         have p162 : 0 ≤ (x5_1 : Int) := of_decide_eq_true (by first | (with_reducible assumption) | assumption)
         have q162 : x5_1 < (l0.length : Int) := of_decide_eq_true (by first | (with_reducible assumption) | assumption)
         obtain ⟨ad162, A162_2, c162_2, e162, hx162_0, hx162_1, hx162_2, hl162_2, hi162_2⟩ := at_T41 HR0.out x5_1 p162 q162
         have hw162_2 := hx162_2
         have hw162_1 := hx162_1
         have hw162_0 := hx162_0
         cases e162
         replace hx162_0 := (HB.out.cell (World.block_lt_of_cell? w _ hx162_0)).trans hx162_0
         replace hx162_1 := (HB.out.cell (World.block_lt_of_cell? w _ hx162_1)).trans hx162_1
         replace hx162_2 := (HB.out.cell (World.block_lt_of_cell? w _ hx162_2)).trans hx162_2
         have HR162_2 := Aside0.mk hi162_2
         have HC162_2 := Aside0.mk hl162_2
         clear hi162_2 hl162_2
         replace p162 := eq_true p162
         replace q162 := eq_true q162
         have p163 : 0 ≤ (x5_1 : Int) := of_decide_eq_true (by first | (with_reducible assumption) | assumption)
         have q163 : x5_1 < (l1.length : Int) := of_decide_eq_true (by first | (with_reducible assumption) | assumption)
         obtain ⟨ad163, A163_2, c163_2, e163, hx163_0, hx163_1, hx163_2, hl163_2, hi163_2⟩ := at_T41 HR1.out x5_1 p163 q163
         have hw163_2 := hx163_2
         have hw163_1 := hx163_1
         have hw163_0 := hx163_0
         cases e163
         replace hx163_0 := (HB.out.cell (World.block_lt_of_cell? w _ hx163_0)).trans hx163_0
         replace hx163_1 := (HB.out.cell (World.block_lt_of_cell? w _ hx163_1)).trans hx163_1
         replace hx163_2 := (HB.out.cell (World.block_lt_of_cell? w _ hx163_2)).trans hx163_2
         have HR163_2 := Aside0.mk hi163_2
         have HC163_2 := Aside0.mk hl163_2
         clear hi163_2 hl163_2
         replace p163 := eq_true p163
         replace q163 := eq_true q163
         have p164 : 0 ≤ (x5_1 : Int) := of_decide_eq_true (by first | (with_reducible assumption) | assumption)
         have q164 : x5_1 < (l0.length : Int) := of_decide_eq_true (by first | (with_reducible assumption) | assumption)
         obtain ⟨ad164, A164_2, c164_2, e164, hx164_0, hx164_1, hx164_2, hl164_2, hi164_2⟩ := at_T41 HR0.out x5_1 p164 q164
         have hw164_2 := hx164_2
         have hw164_1 := hx164_1
         have hw164_0 := hx164_0
         obtain rfl : ad162 = ad164 := (by injection e164)
         replace hx164_0 := (HB.out.cell (World.block_lt_of_cell? w _ hx164_0)).trans hx164_0
         replace hx164_1 := (HB.out.cell (World.block_lt_of_cell? w _ hx164_1)).trans hx164_1
         replace hx164_2 := (HB.out.cell (World.block_lt_of_cell? w _ hx164_2)).trans hx164_2
         have HR164_2 := Aside0.mk hi164_2
         have HC164_2 := Aside0.mk hl164_2
         clear hi164_2 hl164_2
         replace p164 := eq_true p164
         replace q164 := eq_true q164
         have ea_ := Option.some.inj (hx162_2.symm.trans hx164_2)
         injection ea_ with ea_ en_ ec_
         subst ea_
         subst ec_
         clear en_
         have p165 : 0 ≤ (x5_1 : Int) := of_decide_eq_true (by first | (with_reducible assumption) | assumption)
         have q165 : x5_1 < (l1.length : Int) := of_decide_eq_true (by first | (with_reducible assumption) | assumption)
         obtain ⟨ad165, A165_2, c165_2, e165, hx165_0, hx165_1, hx165_2, hl165_2, hi165_2⟩ := at_T41 HR1.out x5_1 p165 q165
         have hw165_2 := hx165_2
         have hw165_1 := hx165_1
         have hw165_0 := hx165_0
         obtain rfl : ad163 = ad165 := (by injection e165)
         replace hx165_0 := (HB.out.cell (World.block_lt_of_cell? w _ hx165_0)).trans hx165_0
         replace hx165_1 := (HB.out.cell (World.block_lt_of_cell? w _ hx165_1)).trans hx165_1
         replace hx165_2 := (HB.out.cell (World.block_lt_of_cell? w _ hx165_2)).trans hx165_2
         have HR165_2 := Aside0.mk hi165_2
         have HC165_2 := Aside0.mk hl165_2
         clear hi165_2 hl165_2
         replace p165 := eq_true p165
         replace q165 := eq_true q165
         have ea_ := Option.some.inj (hx163_2.symm.trans hx165_2)
         injection ea_ with ea_ en_ ec_
         subst ea_
         subst ec_
         clear en_
         refine start_ (n := 38) (S := fun w' => w'.cell? (ad162.add ((x5_1).toNat * 3)) = some (.int .i64 ((rd_T41 l0 x5_1).f0)) ∧ w'.cell? ⟨(ad162.add ((x5_1).toNat * 3)).block, (ad162.add ((x5_1).toNat * 3)).off + 1, none⟩ = some (.int .i64 ((rd_T41 l0 x5_1).f1)) ∧ w'.cell? ⟨(ad162.add ((x5_1).toNat * 3)).block, (ad162.add ((x5_1).toNat * 3)).off + 2, none⟩ = some (.slice A162_2 ((rd_T41 l0 x5_1).f2).length c162_2) ∧ w'.cell? (ad163.add ((x5_1).toNat * 3)) = some (.int .i64 ((rd_T41 l1 x5_1).f0)) ∧ w'.cell? ⟨(ad163.add ((x5_1).toNat * 3)).block, (ad163.add ((x5_1).toNat * 3)).off + 1, none⟩ = some (.int .i64 ((rd_T41 l1 x5_1).f1)) ∧ w'.cell? ⟨(ad163.add ((x5_1).toNat * 3)).block, (ad163.add ((x5_1).toNat * 3)).off + 2, none⟩ = some (.slice A163_2 ((rd_T41 l1 x5_1).f2).length c163_2) ∧ w'.cell? (ad162.add ((x5_1).toNat * 3)) = some (.int .i64 ((rd_T41 l0 x5_1).f0)) ∧ w'.cell? ⟨(ad162.add ((x5_1).toNat * 3)).block, (ad162.add ((x5_1).toNat * 3)).off + 1, none⟩ = some (.int .i64 ((rd_T41 l0 x5_1).f1)) ∧ w'.cell? ⟨(ad162.add ((x5_1).toNat * 3)).block, (ad162.add ((x5_1).toNat * 3)).off + 2, none⟩ = some (.slice A162_2 ((rd_T41 l0 x5_1).f2).length c162_2) ∧ w'.cell? (ad163.add ((x5_1).toNat * 3)) = some (.int .i64 ((rd_T41 l1 x5_1).f0)) ∧ w'.cell? ⟨(ad163.add ((x5_1).toNat * 3)).block, (ad163.add ((x5_1).toNat * 3)).off + 1, none⟩ = some (.int .i64 ((rd_T41 l1 x5_1).f1)) ∧ w'.cell? ⟨(ad163.add ((x5_1).toNat * 3)).block, (ad163.add ((x5_1).toNat * 3)).off + 2, none⟩ = some (.slice A163_2 ((rd_T41 l1 x5_1).f2).length c163_2)) (ds := []) mk_38_0 (by kernel_rfl) rfl rfl ⟨((HB.out.cell (World.block_lt_of_cell? w _ hw162_0)).trans hw162_0), ((HB.out.cell (World.block_lt_of_cell? w _ hw162_1)).trans hw162_1), ((HB.out.cell (World.block_lt_of_cell? w _ hw162_2)).trans hw162_2), ((HB.out.cell (World.block_lt_of_cell? w _ hw163_0)).trans hw163_0), ((HB.out.cell (World.block_lt_of_cell? w _ hw163_1)).trans hw163_1), ((HB.out.cell (World.block_lt_of_cell? w _ hw163_2)).trans hw163_2), ((HB.out.cell (World.block_lt_of_cell? w _ hw164_0)).trans hw164_0), ((HB.out.cell (World.block_lt_of_cell? w _ hw164_1)).trans hw164_1), ((HB.out.cell (World.block_lt_of_cell? w _ hw164_2)).trans hw164_2), ((HB.out.cell (World.block_lt_of_cell? w _ hw165_0)).trans hw165_0), ((HB.out.cell (World.block_lt_of_cell? w _ hw165_1)).trans hw165_1), ((HB.out.cell (World.block_lt_of_cell? w _ hw165_2)).trans hw165_2)⟩ (fun hHeld => ?_); refine with_tabW watchwordlaw0_SameRoutes.tab6 watchwordlaw0_SameRoutes.bits6 (fun HT_ HW_ => ?_)
         generalize wr.drew = w13 at HB HR162_2 HR163_2 HR164_2 HR165_2 hx162_0 hx162_1 hx162_2 hx163_0 hx163_1 hx163_2 hx164_0 hx164_1 hx164_2 hx165_0 hx165_1 hx165_2 hHeld ⊢
         refine pure_ (i := 0) (N := some 17) (v := ?_) (a' := ?_) mk_38_1 rfl rfl (any_of HT_.out (by kernel_rfl)) (fun _ _ _ h => h) (Or.inl ⟨by rfl, ?_⟩) ?_ ?_
         rotate_left
         ·intro w'
          go_simp
          with_reducible rfl
         rotate_left
         ·simp only [Act.put, List.setIfInBounds_toArray, List.set_cons_zero, List.set_cons_succ, i64_w, i32_w]
          rfl
         refine pure_ (i := 1) (N := some 18) (v := ?_) (a' := ?_) mk_38_2 rfl rfl (any_of HT_.out (by kernel_rfl)) (fun _ _ _ h => h) (Or.inl ⟨by rfl, ?_⟩) ?_ ?_
         rotate_left
         ·intro w'
          go_simp
          with_reducible rfl
         rotate_left
         ·simp only [Act.put, List.setIfInBounds_toArray, List.set_cons_zero, List.set_cons_succ, i64_w, i32_w]
          rfl
         refine pure_ (i := 2) (N := some 19) (v := ?_) (a' := ?_) mk_38_3 rfl rfl (any_of HT_.out (by kernel_rfl)) (fun _ _ _ h => h) (Or.inl ⟨by rfl, ?_⟩) ?_ ?_
         rotate_left
         ·intro w'
          go_simp
          with_reducible rfl
         rotate_left
         ·simp only [Act.put, List.setIfInBounds_toArray, List.set_cons_zero, List.set_cons_succ, i64_w, i32_w]
          rfl
         refine pure_ (i := 3) (N := some 20) (v := ?_) (a' := ?_) mk_38_4 rfl rfl (any_of HT_.out (by kernel_rfl)) (fun _ _ _ h => h) (Or.inl ⟨by rfl, ?_⟩) ?_ ?_
         rotate_left
         ·intro w'
          go_simp
          with_reducible rfl
         rotate_left
         ·simp only [Act.put, List.setIfInBounds_toArray, List.set_cons_zero, List.set_cons_succ, i64_w, i32_w]
          rfl
         refine pure_ (i := 5) (N := some 22) (v := ?_) (a' := ?_) #[true, true, true, true, false, true, false, false, false, false, false, false, false, false, false, false, false, false, false, false, false, false, false, false, false, false, false, false, false, false, false, false, false, false, false, false, false, false] rfl rfl (any_of HT_.out (by kernel_rfl)) (fun _ _ _ h => h) (Or.inl ⟨by rfl, ?_⟩) ?_ ?_
         rotate_left
         ·intro w'
          go_simp
          with_reducible rfl
         rotate_left
         ·simp only [Act.put, List.setIfInBounds_toArray, List.set_cons_zero, List.set_cons_succ, i64_w, i32_w]
          rfl
         refine pure_ (i := 6) (N := some 23) (v := ?_) (a' := ?_) #[true, true, true, true, false, true, true, false, false, false, false, false, false, false, false, false, false, false, false, false, false, false, false, false, false, false, false, false, false, false, false, false, false, false, false, false, false, false] rfl rfl (any_of HT_.out (by kernel_rfl)) (fun _ _ _ h => h) (Or.inl ⟨by rfl, ?_⟩) ?_ ?_
         rotate_left
         ·intro w'
          go_simp
          with_reducible rfl
         rotate_left
         ·simp only [Act.put, List.setIfInBounds_toArray, List.set_cons_zero, List.set_cons_succ, i64_w, i32_w]
          rfl
         refine pure_ (i := 7) (N := some 24) (v := ?_) (a' := ?_) #[true, true, true, true, false, true, true, true, false, false, false, false, false, false, false, false, false, false, false, false, false, false, false, false, false, false, false, false, false, false, false, false, false, false, false, false, false, false] rfl rfl (any_of HT_.out (by kernel_rfl)) (fun _ _ _ h => h) (Or.inl ⟨by rfl, ?_⟩) ?_ ?_
         rotate_left
         ·intro w'
          go_simp
          with_reducible rfl
         rotate_left
         ·simp only [Act.put, List.setIfInBounds_toArray, List.set_cons_zero, List.set_cons_succ, i64_w, i32_w]
          rfl
         refine pure_ (i := 8) (N := some 25) (v := ?_) (a' := ?_) #[true, true, true, true, false, true, true, true, true, false, false, false, false, false, false, false, false, false, false, false, false, false, false, false, false, false, false, false, false, false, false, false, false, false, false, false, false, false] rfl rfl (any_of HT_.out (by kernel_rfl)) (fun _ _ _ h => h) (Or.inl ⟨by rfl, ?_⟩) ?_ ?_
         rotate_left
         ·intro w'
          go_simp
          with_reducible rfl
         rotate_left
         ·simp only [Act.put, List.setIfInBounds_toArray, List.set_cons_zero, List.set_cons_succ, i64_w, i32_w]
          rfl
         refine take_ (i := 4) (N := some 21) (v := ?_) (a' := ?_) mk_38_9 rfl rfl (take_ofW HT_.out HW_.out (by kernel_rfl)) (fun _ _ _ h => h) (Or.inl ⟨by rfl, ?_⟩) hHeld ?_ ?_
         rotate_left
         ·rintro w' ⟨s0, s1, s2, s3, s4, s5, s6, s7, s8, s9, s10, s11⟩
          go_simp
          with_reducible rfl
         rotate_left
         ·simp only [Act.put, List.setIfInBounds_toArray, List.set_cons_zero, List.set_cons_succ, i64_w, i32_w]
          rfl
         refine take_ (i := 9) (N := some 26) (v := ?_) (a' := ?_) mk_38_10 rfl rfl (take_ofW HT_.out HW_.out (by kernel_rfl)) (fun _ _ _ h => h) (Or.inl ⟨by rfl, ?_⟩) hHeld ?_ ?_
         rotate_left
         ·rintro w' ⟨s0, s1, s2, s3, s4, s5, s6, s7, s8, s9, s10, s11⟩
          go_simp
          with_reducible rfl
         rotate_left
         ·simp only [Act.put, List.setIfInBounds_toArray, List.set_cons_zero, List.set_cons_succ, i64_w, i32_w]
          rfl
         refine pure_ (i := 10) (N := some 27) (v := ?_) (a' := ?_) mk_38_11 rfl rfl (any_of HT_.out (by kernel_rfl)) (fun _ _ _ h => h) (Or.inl ⟨by rfl, ?_⟩) ?_ ?_
         rotate_left
         ·intro w'
          go_simp
          with_reducible rfl
         rotate_left
         ·simp only [Act.put, List.setIfInBounds_toArray, List.set_cons_zero, List.set_cons_succ, i64_w, i32_w]
          rfl
         refine pure_ (i := 11) (N := some 28) (v := ?_) (a' := ?_) mk_38_12 rfl rfl (any_of HT_.out (by kernel_rfl)) (fun _ _ _ h => h) (Or.inl ⟨by rfl, ?_⟩) ?_ ?_
         rotate_left
         ·intro w'
          go_simp
          with_reducible rfl
         rotate_left
         ·simp only [Act.put, List.setIfInBounds_toArray, List.set_cons_zero, List.set_cons_succ, i64_w, i32_w]
          rfl
         refine pure_ (i := 12) (N := some 29) (v := ?_) (a' := ?_) mk_38_13 rfl rfl (any_of HT_.out (by kernel_rfl)) (fun _ _ _ h => h) (Or.inl ⟨by rfl, ?_⟩) ?_ ?_
         rotate_left
         ·intro w'
          go_simp
          with_reducible rfl
         rotate_left
         ·simp only [Act.put, List.setIfInBounds_toArray, List.set_cons_zero, List.set_cons_succ, i64_w, i32_w]
          rfl
         refine pure_ (i := 13) (N := some 30) (v := ?_) (a' := ?_) mk_38_14 rfl rfl (any_of HT_.out (by kernel_rfl)) (fun _ _ _ h => h) (Or.inl ⟨by rfl, ?_⟩) ?_ ?_
         rotate_left
         ·intro w'
          go_simp
          with_reducible rfl
         rotate_left
         ·simp only [Act.put, List.setIfInBounds_toArray, List.set_cons_zero, List.set_cons_succ, i64_w, i32_w]
          rfl
         refine pure_ (i := 14) (N := some 31) (v := ?_) (a' := ?_) mk_38_15 rfl rfl (any_of HT_.out (by kernel_rfl)) (fun _ _ _ h => h) (Or.inl ⟨by rfl, ?_⟩) ?_ ?_
         rotate_left
         ·intro w'
          go_simp
          with_reducible rfl
         rotate_left
         ·simp only [Act.put, List.setIfInBounds_toArray, List.set_cons_zero, List.set_cons_succ, i64_w, i32_w]
          rfl
         refine pure_ (i := 15) (N := some 32) (v := ?_) (a' := ?_) mk_38_16 rfl rfl (any_of HT_.out (by kernel_rfl)) (fun _ _ _ h => h) (Or.inl ⟨by rfl, ?_⟩) ?_ ?_
         rotate_left
         ·intro w'
          go_simp
          with_reducible rfl
         rotate_left
         ·simp only [Act.put, List.setIfInBounds_toArray, List.set_cons_zero, List.set_cons_succ, i64_w, i32_w]
          rfl
         refine pure_ (i := 17) (N := some 34) (v := ?_) (a' := ?_) #[true, true, true, true, true, true, true, true, true, true, true, true, true, true, true, true, false, true, false, false, false, false, false, false, false, false, false, false, false, false, false, false, false, false, false, false, false, false] rfl rfl (any_of HT_.out (by kernel_rfl)) (fun _ _ _ h => h) (Or.inl ⟨by rfl, ?_⟩) ?_ ?_
         rotate_left
         ·intro w'
          go_simp
          with_reducible rfl
         rotate_left
         ·simp only [Act.put, List.setIfInBounds_toArray, List.set_cons_zero, List.set_cons_succ, i64_w, i32_w]
          rfl
         refine pure_ (i := 18) (N := some 35) (v := ?_) (a' := ?_) #[true, true, true, true, true, true, true, true, true, true, true, true, true, true, true, true, false, true, true, false, false, false, false, false, false, false, false, false, false, false, false, false, false, false, false, false, false, false] rfl rfl (any_of HT_.out (by kernel_rfl)) (fun _ _ _ h => h) (Or.inl ⟨by rfl, ?_⟩) ?_ ?_
         rotate_left
         ·intro w'
          go_simp
          with_reducible rfl
         rotate_left
         ·simp only [Act.put, List.setIfInBounds_toArray, List.set_cons_zero, List.set_cons_succ, i64_w, i32_w]
          rfl
         refine pure_ (i := 19) (N := some 36) (v := ?_) (a' := ?_) #[true, true, true, true, true, true, true, true, true, true, true, true, true, true, true, true, false, true, true, true, false, false, false, false, false, false, false, false, false, false, false, false, false, false, false, false, false, false] rfl rfl (any_of HT_.out (by kernel_rfl)) (fun _ _ _ h => h) (Or.inl ⟨by rfl, ?_⟩) ?_ ?_
         rotate_left
         ·intro w'
          go_simp
          with_reducible rfl
         rotate_left
         ·simp only [Act.put, List.setIfInBounds_toArray, List.set_cons_zero, List.set_cons_succ, i64_w, i32_w]
          rfl
         refine pure_ (i := 20) (N := some 37) (v := ?_) (a' := ?_) #[true, true, true, true, true, true, true, true, true, true, true, true, true, true, true, true, false, true, true, true, true, false, false, false, false, false, false, false, false, false, false, false, false, false, false, false, false, false] rfl rfl (any_of HT_.out (by kernel_rfl)) (fun _ _ _ h => h) (Or.inl ⟨by rfl, ?_⟩) ?_ ?_
         rotate_left
         ·intro w'
          go_simp
          with_reducible rfl
         rotate_left
         ·simp only [Act.put, List.setIfInBounds_toArray, List.set_cons_zero, List.set_cons_succ, i64_w, i32_w]
          rfl
         refine take_ (i := 16) (N := some 33) (v := ?_) (a' := ?_) mk_38_21 rfl rfl (take_ofW HT_.out HW_.out (by kernel_rfl)) (fun _ _ _ h => h) (Or.inl ⟨by rfl, ?_⟩) hHeld ?_ ?_
         rotate_left
         ·rintro w' ⟨s0, s1, s2, s3, s4, s5, s6, s7, s8, s9, s10, s11⟩
          go_simp
          with_reducible rfl
         rotate_left
         ·simp only [Act.put, List.setIfInBounds_toArray, List.set_cons_zero, List.set_cons_succ, i64_w, i32_w]
          rfl
         refine take_ (i := 21) (N := some 38) (v := ?_) (a' := ?_) mk_38_22 rfl rfl (take_ofW HT_.out HW_.out (by kernel_rfl)) (fun _ _ _ h => h) (Or.inl ⟨by rfl, ?_⟩) hHeld ?_ ?_
         rotate_left
         ·rintro w' ⟨s0, s1, s2, s3, s4, s5, s6, s7, s8, s9, s10, s11⟩
          go_simp
          with_reducible rfl
         rotate_left
         ·simp only [Act.put, List.setIfInBounds_toArray, List.set_cons_zero, List.set_cons_succ, i64_w, i32_w]
          rfl
         refine pure_ (i := 22) (N := some 39) (v := ?_) (a' := ?_) mk_38_23 rfl rfl (any_of HT_.out (by kernel_rfl)) (fun _ _ _ h => h) (Or.inl ⟨by rfl, ?_⟩) ?_ ?_
         rotate_left
         ·intro w'
          go_simp
          with_reducible rfl
         rotate_left
         ·simp only [Act.put, List.setIfInBounds_toArray, List.set_cons_zero, List.set_cons_succ, i64_w, i32_w]
          rfl
         refine pure_ (i := 23) (N := some 40) (v := ?_) (a' := ?_) mk_38_24 rfl rfl (any_of HT_.out (by kernel_rfl)) (fun _ _ _ h => h) (Or.inl ⟨by rfl, ?_⟩) ?_ ?_
         rotate_left
         ·intro w'
          go_simp
          with_reducible rfl
         rotate_left
         ·simp only [Act.put, List.setIfInBounds_toArray, List.set_cons_zero, List.set_cons_succ, i64_w, i32_w]
          rfl
         refine pure_ (i := 24) (N := some 41) (v := ?_) (a' := ?_) mk_38_25 rfl rfl (any_of HT_.out (by kernel_rfl)) (fun _ _ _ h => h) (Or.inl ⟨by rfl, ?_⟩) ?_ ?_
         rotate_left
         ·intro w'
          go_simp
          with_reducible rfl
         rotate_left
         ·simp only [Act.put, List.setIfInBounds_toArray, List.set_cons_zero, List.set_cons_succ, i64_w, i32_w]
          rfl
         refine pure_ (i := 25) (N := some 42) (v := undef) (a' := ?_) mk_38_26 rfl rfl (any_of HT_.out (by kernel_rfl)) (fun _ _ _ h => h) (Or.inr ⟨by rfl, rfl⟩) ?_ ?_
         rotate_left
         ·simp only [Act.put, List.setIfInBounds_toArray, List.set_cons_zero, List.set_cons_succ, i64_w, i32_w]
          rfl
         refine pure_ (i := 26) (N := some 43) (v := undef) (a' := ?_) mk_38_27 rfl rfl (any_of HT_.out (by kernel_rfl)) (fun _ _ _ h => h) (Or.inr ⟨by rfl, rfl⟩) ?_ ?_
         rotate_left
         ·simp only [Act.put, List.setIfInBounds_toArray, List.set_cons_zero, List.set_cons_succ, i64_w, i32_w]
          rfl
         refine pure_ (i := 27) (N := some 44) (v := undef) (a' := ?_) mk_38_28 rfl rfl (any_of HT_.out (by kernel_rfl)) (fun _ _ _ h => h) (Or.inr ⟨by rfl, rfl⟩) ?_ ?_
         rotate_left
         ·simp only [Act.put, List.setIfInBounds_toArray, List.set_cons_zero, List.set_cons_succ, i64_w, i32_w]
          rfl
         refine pure_ (i := 28) (N := some 45) (v := undef) (a' := ?_) mk_38_29 rfl rfl (any_of HT_.out (by kernel_rfl)) (fun _ _ _ h => h) (Or.inr ⟨by rfl, rfl⟩) ?_ ?_
         rotate_left
         ·simp only [Act.put, List.setIfInBounds_toArray, List.set_cons_zero, List.set_cons_succ, i64_w, i32_w]
          rfl
         refine pure_ (i := 29) (N := some 46) (v := undef) (a' := ?_) mk_38_30 rfl rfl (any_of HT_.out (by kernel_rfl)) (fun _ _ _ h => h) (Or.inr ⟨by rfl, rfl⟩) ?_ ?_
         rotate_left
         ·simp only [Act.put, List.setIfInBounds_toArray, List.set_cons_zero, List.set_cons_succ, i64_w, i32_w]
          rfl
         refine pure_ (i := 30) (N := some 47) (v := undef) (a' := ?_) mk_38_31 rfl rfl (any_of HT_.out (by kernel_rfl)) (fun _ _ _ h => h) (Or.inr ⟨by rfl, rfl⟩) ?_ ?_
         rotate_left
         ·simp only [Act.put, List.setIfInBounds_toArray, List.set_cons_zero, List.set_cons_succ, i64_w, i32_w]
          rfl
         refine pure_ (i := 31) (N := some 48) (v := undef) (a' := ?_) mk_38_32 rfl rfl (any_of HT_.out (by kernel_rfl)) (fun _ _ _ h => h) (Or.inr ⟨by rfl, rfl⟩) ?_ ?_
         rotate_left
         ·simp only [Act.put, List.setIfInBounds_toArray, List.set_cons_zero, List.set_cons_succ, i64_w, i32_w]
          rfl
         refine pure_ (i := 32) (N := some 49) (v := undef) (a' := ?_) mk_38_33 rfl rfl (any_of HT_.out (by kernel_rfl)) (fun _ _ _ h => h) (Or.inr ⟨by rfl, rfl⟩) ?_ ?_
         rotate_left
         ·simp only [Act.put, List.setIfInBounds_toArray, List.set_cons_zero, List.set_cons_succ, i64_w, i32_w]
          rfl
         refine pure_ (i := 33) (N := some 50) (v := undef) (a' := ?_) mk_38_34 rfl rfl (any_of HT_.out (by kernel_rfl)) (fun _ _ _ h => h) (Or.inr ⟨by rfl, rfl⟩) ?_ ?_
         rotate_left
         ·simp only [Act.put, List.setIfInBounds_toArray, List.set_cons_zero, List.set_cons_succ, i64_w, i32_w]
          rfl
         refine pure_ (i := 34) (N := some 51) (v := undef) (a' := ?_) mk_38_35 rfl rfl (any_of HT_.out (by kernel_rfl)) (fun _ _ _ h => h) (Or.inr ⟨by rfl, rfl⟩) ?_ ?_
         rotate_left
         ·simp only [Act.put, List.setIfInBounds_toArray, List.set_cons_zero, List.set_cons_succ, i64_w, i32_w]
          rfl
         refine pure_ (i := 35) (N := some 52) (v := undef) (a' := ?_) mk_38_36 rfl rfl (any_of HT_.out (by kernel_rfl)) (fun _ _ _ h => h) (Or.inr ⟨by rfl, rfl⟩) ?_ ?_
         rotate_left
         ·simp only [Act.put, List.setIfInBounds_toArray, List.set_cons_zero, List.set_cons_succ, i64_w, i32_w]
          rfl
         refine pure_ (i := 36) (N := some 53) (v := undef) (a' := ?_) mk_38_37 rfl rfl (any_of HT_.out (by kernel_rfl)) (fun _ _ _ h => h) (Or.inr ⟨by rfl, rfl⟩) ?_ ?_
         rotate_left
         ·simp only [Act.put, List.setIfInBounds_toArray, List.set_cons_zero, List.set_cons_succ, i64_w, i32_w]
          rfl
         refine pure_ (i := 37) (N := some 54) (v := ?_) (a' := ?_) mk_38_38 rfl rfl (any_of HT_.out (by kernel_rfl)) (fun _ _ _ h => h) (Or.inl ⟨by rfl, ?_⟩) ?_ ?_
         rotate_left
         ·intro w'
          go_simp
          with_reducible rfl
         rotate_left
         ·simp only [Act.put, List.setIfInBounds_toArray, List.set_cons_zero, List.set_cons_succ, i64_w, i32_w]
          rfl
         refine done_ (done_of HT_.out (by kernel_rfl)) ?_
         try go_wp2
         go_ret
         exact ⟨by first | rfl | (simp [errW_none, errW_some] <;> rfl) | (simp [*, errW_none, errW_some] <;> rfl), by repeat (first | (with_reducible first | exact HB.out | apply below_alloc | apply pw_below_drewN | apply below_drew1) | exact HB.out)⟩
       ·rw [if_neg c7] at H
        have c7b0 : (((rd_T41 l0 x5_1).f0) == ((rd_T41 l1 x5_1).f0)) = false := beq_eq_false_iff_ne.mpr c7
        have c7b1 : (((rd_T41 l0 x5_1).f0) != ((rd_T41 l1 x5_1).f0)) = true := bne_iff_ne.mpr c7
        obtain rfl := Option.some.inj H
        try go_wp2
        have n0_ := Aside0.mk (below_drew1 HB.out)
        clear HB
        have HB := n0_
        clear n0_
        have p162 : 0 ≤ (x5_1 : Int) := of_decide_eq_true (by first | (with_reducible assumption) | assumption)
        have q162 : x5_1 < (l0.length : Int) := of_decide_eq_true (by first | (with_reducible assumption) | assumption)
        obtain ⟨ad162, A162_2, c162_2, e162, hx162_0, hx162_1, hx162_2, hl162_2, hi162_2⟩ := at_T41 HR0.out x5_1 p162 q162
        have hw162_2 := hx162_2
        have hw162_1 := hx162_1
        have hw162_0 := hx162_0
        cases e162
        replace hx162_0 := (HB.out.cell (World.block_lt_of_cell? w _ hx162_0)).trans hx162_0
        replace hx162_1 := (HB.out.cell (World.block_lt_of_cell? w _ hx162_1)).trans hx162_1
        replace hx162_2 := (HB.out.cell (World.block_lt_of_cell? w _ hx162_2)).trans hx162_2
        have HR162_2 := Aside0.mk hi162_2
        have HC162_2 := Aside0.mk hl162_2
        clear hi162_2 hl162_2
        replace p162 := eq_true p162
        replace q162 := eq_true q162
        have p163 : 0 ≤ (x5_1 : Int) := of_decide_eq_true (by first | (with_reducible assumption) | assumption)
        have q163 : x5_1 < (l1.length : Int) := of_decide_eq_true (by first | (with_reducible assumption) | assumption)
        obtain ⟨ad163, A163_2, c163_2, e163, hx163_0, hx163_1, hx163_2, hl163_2, hi163_2⟩ := at_T41 HR1.out x5_1 p163 q163
        have hw163_2 := hx163_2
        have hw163_1 := hx163_1
        have hw163_0 := hx163_0
        cases e163
        replace hx163_0 := (HB.out.cell (World.block_lt_of_cell? w _ hx163_0)).trans hx163_0
        replace hx163_1 := (HB.out.cell (World.block_lt_of_cell? w _ hx163_1)).trans hx163_1
        replace hx163_2 := (HB.out.cell (World.block_lt_of_cell? w _ hx163_2)).trans hx163_2
        have HR163_2 := Aside0.mk hi163_2
        have HC163_2 := Aside0.mk hl163_2
        clear hi163_2 hl163_2
        replace p163 := eq_true p163
        replace q163 := eq_true q163
        refine start_ (n := 38) (S := fun w' => w'.cell? (ad162.add ((x5_1).toNat * 3)) = some (.int .i64 ((rd_T41 l0 x5_1).f0)) ∧ w'.cell? ⟨(ad162.add ((x5_1).toNat * 3)).block, (ad162.add ((x5_1).toNat * 3)).off + 1, none⟩ = some (.int .i64 ((rd_T41 l0 x5_1).f1)) ∧ w'.cell? ⟨(ad162.add ((x5_1).toNat * 3)).block, (ad162.add ((x5_1).toNat * 3)).off + 2, none⟩ = some (.slice A162_2 ((rd_T41 l0 x5_1).f2).length c162_2) ∧ w'.cell? (ad163.add ((x5_1).toNat * 3)) = some (.int .i64 ((rd_T41 l1 x5_1).f0)) ∧ w'.cell? ⟨(ad163.add ((x5_1).toNat * 3)).block, (ad163.add ((x5_1).toNat * 3)).off + 1, none⟩ = some (.int .i64 ((rd_T41 l1 x5_1).f1)) ∧ w'.cell? ⟨(ad163.add ((x5_1).toNat * 3)).block, (ad163.add ((x5_1).toNat * 3)).off + 2, none⟩ = some (.slice A163_2 ((rd_T41 l1 x5_1).f2).length c163_2)) (ds := []) mk_38_0 (by kernel_rfl) rfl rfl ⟨((HB.out.cell (World.block_lt_of_cell? w _ hw162_0)).trans hw162_0), ((HB.out.cell (World.block_lt_of_cell? w _ hw162_1)).trans hw162_1), ((HB.out.cell (World.block_lt_of_cell? w _ hw162_2)).trans hw162_2), ((HB.out.cell (World.block_lt_of_cell? w _ hw163_0)).trans hw163_0), ((HB.out.cell (World.block_lt_of_cell? w _ hw163_1)).trans hw163_1), ((HB.out.cell (World.block_lt_of_cell? w _ hw163_2)).trans hw163_2)⟩ (fun hHeld => ?_); refine with_tabW watchwordlaw0_SameRoutes.tab6 watchwordlaw0_SameRoutes.bits6 (fun HT_ HW_ => ?_)
        generalize wr.drew = w14 at HB HR162_2 HR163_2 hx162_0 hx162_1 hx162_2 hx163_0 hx163_1 hx163_2 hHeld ⊢
        refine pure_ (i := 0) (N := some 17) (v := ?_) (a' := ?_) mk_38_1 rfl rfl (any_of HT_.out (by kernel_rfl)) (fun _ _ _ h => h) (Or.inl ⟨by rfl, ?_⟩) ?_ ?_
        rotate_left
        ·intro w'
         go_simp
         with_reducible rfl
        rotate_left
        ·simp only [Act.put, List.setIfInBounds_toArray, List.set_cons_zero, List.set_cons_succ, i64_w, i32_w]
         rfl
        refine pure_ (i := 1) (N := some 18) (v := ?_) (a' := ?_) mk_38_2 rfl rfl (any_of HT_.out (by kernel_rfl)) (fun _ _ _ h => h) (Or.inl ⟨by rfl, ?_⟩) ?_ ?_
        rotate_left
        ·intro w'
         go_simp
         with_reducible rfl
        rotate_left
        ·simp only [Act.put, List.setIfInBounds_toArray, List.set_cons_zero, List.set_cons_succ, i64_w, i32_w]
         rfl
        refine pure_ (i := 2) (N := some 19) (v := ?_) (a' := ?_) mk_38_3 rfl rfl (any_of HT_.out (by kernel_rfl)) (fun _ _ _ h => h) (Or.inl ⟨by rfl, ?_⟩) ?_ ?_
        rotate_left
        ·intro w'
         go_simp
         with_reducible rfl
        rotate_left
        ·simp only [Act.put, List.setIfInBounds_toArray, List.set_cons_zero, List.set_cons_succ, i64_w, i32_w]
         rfl
        refine pure_ (i := 3) (N := some 20) (v := ?_) (a' := ?_) mk_38_4 rfl rfl (any_of HT_.out (by kernel_rfl)) (fun _ _ _ h => h) (Or.inl ⟨by rfl, ?_⟩) ?_ ?_
        rotate_left
        ·intro w'
         go_simp
         with_reducible rfl
        rotate_left
        ·simp only [Act.put, List.setIfInBounds_toArray, List.set_cons_zero, List.set_cons_succ, i64_w, i32_w]
         rfl
        refine pure_ (i := 5) (N := some 22) (v := ?_) (a' := ?_) #[true, true, true, true, false, true, false, false, false, false, false, false, false, false, false, false, false, false, false, false, false, false, false, false, false, false, false, false, false, false, false, false, false, false, false, false, false, false] rfl rfl (any_of HT_.out (by kernel_rfl)) (fun _ _ _ h => h) (Or.inl ⟨by rfl, ?_⟩) ?_ ?_
        rotate_left
        ·intro w'
         go_simp
         with_reducible rfl
        rotate_left
        ·simp only [Act.put, List.setIfInBounds_toArray, List.set_cons_zero, List.set_cons_succ, i64_w, i32_w]
         rfl
        refine pure_ (i := 6) (N := some 23) (v := ?_) (a' := ?_) #[true, true, true, true, false, true, true, false, false, false, false, false, false, false, false, false, false, false, false, false, false, false, false, false, false, false, false, false, false, false, false, false, false, false, false, false, false, false] rfl rfl (any_of HT_.out (by kernel_rfl)) (fun _ _ _ h => h) (Or.inl ⟨by rfl, ?_⟩) ?_ ?_
        rotate_left
        ·intro w'
         go_simp
         with_reducible rfl
        rotate_left
        ·simp only [Act.put, List.setIfInBounds_toArray, List.set_cons_zero, List.set_cons_succ, i64_w, i32_w]
         rfl
        refine pure_ (i := 7) (N := some 24) (v := ?_) (a' := ?_) #[true, true, true, true, false, true, true, true, false, false, false, false, false, false, false, false, false, false, false, false, false, false, false, false, false, false, false, false, false, false, false, false, false, false, false, false, false, false] rfl rfl (any_of HT_.out (by kernel_rfl)) (fun _ _ _ h => h) (Or.inl ⟨by rfl, ?_⟩) ?_ ?_
        rotate_left
        ·intro w'
         go_simp
         with_reducible rfl
        rotate_left
        ·simp only [Act.put, List.setIfInBounds_toArray, List.set_cons_zero, List.set_cons_succ, i64_w, i32_w]
         rfl
        refine pure_ (i := 8) (N := some 25) (v := ?_) (a' := ?_) #[true, true, true, true, false, true, true, true, true, false, false, false, false, false, false, false, false, false, false, false, false, false, false, false, false, false, false, false, false, false, false, false, false, false, false, false, false, false] rfl rfl (any_of HT_.out (by kernel_rfl)) (fun _ _ _ h => h) (Or.inl ⟨by rfl, ?_⟩) ?_ ?_
        rotate_left
        ·intro w'
         go_simp
         with_reducible rfl
        rotate_left
        ·simp only [Act.put, List.setIfInBounds_toArray, List.set_cons_zero, List.set_cons_succ, i64_w, i32_w]
         rfl
        refine take_ (i := 4) (N := some 21) (v := ?_) (a' := ?_) mk_38_9 rfl rfl (take_ofW HT_.out HW_.out (by kernel_rfl)) (fun _ _ _ h => h) (Or.inl ⟨by rfl, ?_⟩) hHeld ?_ ?_
        rotate_left
        ·rintro w' ⟨s0, s1, s2, s3, s4, s5⟩
         go_simp
         with_reducible rfl
        rotate_left
        ·simp only [Act.put, List.setIfInBounds_toArray, List.set_cons_zero, List.set_cons_succ, i64_w, i32_w]
         rfl
        refine take_ (i := 9) (N := some 26) (v := ?_) (a' := ?_) mk_38_10 rfl rfl (take_ofW HT_.out HW_.out (by kernel_rfl)) (fun _ _ _ h => h) (Or.inl ⟨by rfl, ?_⟩) hHeld ?_ ?_
        rotate_left
        ·rintro w' ⟨s0, s1, s2, s3, s4, s5⟩
         go_simp
         with_reducible rfl
        rotate_left
        ·simp only [Act.put, List.setIfInBounds_toArray, List.set_cons_zero, List.set_cons_succ, i64_w, i32_w]
         rfl
        refine pure_ (i := 10) (N := some 27) (v := ?_) (a' := ?_) mk_38_11 rfl rfl (any_of HT_.out (by kernel_rfl)) (fun _ _ _ h => h) (Or.inl ⟨by rfl, ?_⟩) ?_ ?_
        rotate_left
        ·intro w'
         go_simp
         with_reducible rfl
        rotate_left
        ·simp only [Act.put, List.setIfInBounds_toArray, List.set_cons_zero, List.set_cons_succ, i64_w, i32_w]
         rfl
        refine pure_ (i := 11) (N := some 28) (v := ?_) (a' := ?_) mk_38_12 rfl rfl (any_of HT_.out (by kernel_rfl)) (fun _ _ _ h => h) (Or.inl ⟨by rfl, ?_⟩) ?_ ?_
        rotate_left
        ·intro w'
         go_simp
         with_reducible rfl
        rotate_left
        ·simp only [Act.put, List.setIfInBounds_toArray, List.set_cons_zero, List.set_cons_succ, i64_w, i32_w]
         rfl
        refine pure_ (i := 12) (N := some 29) (v := undef) (a' := ?_) mk_38_13 rfl rfl (any_of HT_.out (by kernel_rfl)) (fun _ _ _ h => h) (Or.inr ⟨by rfl, rfl⟩) ?_ ?_
        rotate_left
        ·simp only [Act.put, List.setIfInBounds_toArray, List.set_cons_zero, List.set_cons_succ, i64_w, i32_w]
         rfl
        refine pure_ (i := 13) (N := some 30) (v := undef) (a' := ?_) mk_38_14 rfl rfl (any_of HT_.out (by kernel_rfl)) (fun _ _ _ h => h) (Or.inr ⟨by rfl, rfl⟩) ?_ ?_
        rotate_left
        ·simp only [Act.put, List.setIfInBounds_toArray, List.set_cons_zero, List.set_cons_succ, i64_w, i32_w]
         rfl
        refine pure_ (i := 14) (N := some 31) (v := undef) (a' := ?_) mk_38_15 rfl rfl (any_of HT_.out (by kernel_rfl)) (fun _ _ _ h => h) (Or.inr ⟨by rfl, rfl⟩) ?_ ?_
        rotate_left
        ·simp only [Act.put, List.setIfInBounds_toArray, List.set_cons_zero, List.set_cons_succ, i64_w, i32_w]
         rfl
        refine pure_ (i := 15) (N := some 32) (v := undef) (a' := ?_) mk_38_16 rfl rfl (any_of HT_.out (by kernel_rfl)) (fun _ _ _ h => h) (Or.inr ⟨by rfl, rfl⟩) ?_ ?_
        rotate_left
        ·simp only [Act.put, List.setIfInBounds_toArray, List.set_cons_zero, List.set_cons_succ, i64_w, i32_w]
         rfl
        refine pure_ (i := 16) (N := some 33) (v := undef) (a' := ?_) mk_38_17 rfl rfl (any_of HT_.out (by kernel_rfl)) (fun _ _ _ h => h) (Or.inr ⟨by rfl, rfl⟩) ?_ ?_
        rotate_left
        ·simp only [Act.put, List.setIfInBounds_toArray, List.set_cons_zero, List.set_cons_succ, i64_w, i32_w]
         rfl
        refine pure_ (i := 17) (N := some 34) (v := undef) (a' := ?_) mk_38_18 rfl rfl (any_of HT_.out (by kernel_rfl)) (fun _ _ _ h => h) (Or.inr ⟨by rfl, rfl⟩) ?_ ?_
        rotate_left
        ·simp only [Act.put, List.setIfInBounds_toArray, List.set_cons_zero, List.set_cons_succ, i64_w, i32_w]
         rfl
        refine pure_ (i := 18) (N := some 35) (v := undef) (a' := ?_) mk_38_19 rfl rfl (any_of HT_.out (by kernel_rfl)) (fun _ _ _ h => h) (Or.inr ⟨by rfl, rfl⟩) ?_ ?_
        rotate_left
        ·simp only [Act.put, List.setIfInBounds_toArray, List.set_cons_zero, List.set_cons_succ, i64_w, i32_w]
         rfl
        refine pure_ (i := 19) (N := some 36) (v := undef) (a' := ?_) mk_38_20 rfl rfl (any_of HT_.out (by kernel_rfl)) (fun _ _ _ h => h) (Or.inr ⟨by rfl, rfl⟩) ?_ ?_
        rotate_left
        ·simp only [Act.put, List.setIfInBounds_toArray, List.set_cons_zero, List.set_cons_succ, i64_w, i32_w]
         rfl
        refine pure_ (i := 20) (N := some 37) (v := undef) (a' := ?_) mk_38_21 rfl rfl (any_of HT_.out (by kernel_rfl)) (fun _ _ _ h => h) (Or.inr ⟨by rfl, rfl⟩) ?_ ?_
        rotate_left
        ·simp only [Act.put, List.setIfInBounds_toArray, List.set_cons_zero, List.set_cons_succ, i64_w, i32_w]
         rfl
        refine pure_ (i := 21) (N := some 38) (v := undef) (a' := ?_) mk_38_22 rfl rfl (any_of HT_.out (by kernel_rfl)) (fun _ _ _ h => h) (Or.inr ⟨by rfl, rfl⟩) ?_ ?_
        rotate_left
        ·simp only [Act.put, List.setIfInBounds_toArray, List.set_cons_zero, List.set_cons_succ, i64_w, i32_w]
         rfl
        refine pure_ (i := 22) (N := some 39) (v := undef) (a' := ?_) mk_38_23 rfl rfl (any_of HT_.out (by kernel_rfl)) (fun _ _ _ h => h) (Or.inr ⟨by rfl, rfl⟩) ?_ ?_
        rotate_left
        ·simp only [Act.put, List.setIfInBounds_toArray, List.set_cons_zero, List.set_cons_succ, i64_w, i32_w]
         rfl
        refine pure_ (i := 23) (N := some 40) (v := ?_) (a' := ?_) mk_38_24 rfl rfl (any_of HT_.out (by kernel_rfl)) (fun _ _ _ h => h) (Or.inl ⟨by rfl, ?_⟩) ?_ ?_
        rotate_left
        ·intro w'
         go_simp
         with_reducible rfl
        rotate_left
        ·simp only [Act.put, List.setIfInBounds_toArray, List.set_cons_zero, List.set_cons_succ, i64_w, i32_w]
         rfl
        refine pure_ (i := 24) (N := some 41) (v := ?_) (a' := ?_) mk_38_25 rfl rfl (any_of HT_.out (by kernel_rfl)) (fun _ _ _ h => h) (Or.inl ⟨by rfl, ?_⟩) ?_ ?_
        rotate_left
        ·intro w'
         go_simp
         with_reducible rfl
        rotate_left
        ·simp only [Act.put, List.setIfInBounds_toArray, List.set_cons_zero, List.set_cons_succ, i64_w, i32_w]
         rfl
        refine pure_ (i := 25) (N := some 42) (v := undef) (a' := ?_) mk_38_26 rfl rfl (any_of HT_.out (by kernel_rfl)) (fun _ _ _ h => h) (Or.inr ⟨by rfl, rfl⟩) ?_ ?_
        rotate_left
        ·simp only [Act.put, List.setIfInBounds_toArray, List.set_cons_zero, List.set_cons_succ, i64_w, i32_w]
         rfl
        refine pure_ (i := 26) (N := some 43) (v := undef) (a' := ?_) mk_38_27 rfl rfl (any_of HT_.out (by kernel_rfl)) (fun _ _ _ h => h) (Or.inr ⟨by rfl, rfl⟩) ?_ ?_
        rotate_left
        ·simp only [Act.put, List.setIfInBounds_toArray, List.set_cons_zero, List.set_cons_succ, i64_w, i32_w]
         rfl
        refine pure_ (i := 27) (N := some 44) (v := undef) (a' := ?_) mk_38_28 rfl rfl (any_of HT_.out (by kernel_rfl)) (fun _ _ _ h => h) (Or.inr ⟨by rfl, rfl⟩) ?_ ?_
        rotate_left
        ·simp only [Act.put, List.setIfInBounds_toArray, List.set_cons_zero, List.set_cons_succ, i64_w, i32_w]
         rfl
        refine pure_ (i := 28) (N := some 45) (v := undef) (a' := ?_) mk_38_29 rfl rfl (any_of HT_.out (by kernel_rfl)) (fun _ _ _ h => h) (Or.inr ⟨by rfl, rfl⟩) ?_ ?_
        rotate_left
        ·simp only [Act.put, List.setIfInBounds_toArray, List.set_cons_zero, List.set_cons_succ, i64_w, i32_w]
         rfl
        refine pure_ (i := 29) (N := some 46) (v := undef) (a' := ?_) mk_38_30 rfl rfl (any_of HT_.out (by kernel_rfl)) (fun _ _ _ h => h) (Or.inr ⟨by rfl, rfl⟩) ?_ ?_
        rotate_left
        ·simp only [Act.put, List.setIfInBounds_toArray, List.set_cons_zero, List.set_cons_succ, i64_w, i32_w]
         rfl
        refine pure_ (i := 30) (N := some 47) (v := undef) (a' := ?_) mk_38_31 rfl rfl (any_of HT_.out (by kernel_rfl)) (fun _ _ _ h => h) (Or.inr ⟨by rfl, rfl⟩) ?_ ?_
        rotate_left
        ·simp only [Act.put, List.setIfInBounds_toArray, List.set_cons_zero, List.set_cons_succ, i64_w, i32_w]
         rfl
        refine pure_ (i := 31) (N := some 48) (v := undef) (a' := ?_) mk_38_32 rfl rfl (any_of HT_.out (by kernel_rfl)) (fun _ _ _ h => h) (Or.inr ⟨by rfl, rfl⟩) ?_ ?_
        rotate_left
        ·simp only [Act.put, List.setIfInBounds_toArray, List.set_cons_zero, List.set_cons_succ, i64_w, i32_w]
         rfl
        refine pure_ (i := 32) (N := some 49) (v := undef) (a' := ?_) mk_38_33 rfl rfl (any_of HT_.out (by kernel_rfl)) (fun _ _ _ h => h) (Or.inr ⟨by rfl, rfl⟩) ?_ ?_
        rotate_left
        ·simp only [Act.put, List.setIfInBounds_toArray, List.set_cons_zero, List.set_cons_succ, i64_w, i32_w]
         rfl
        refine pure_ (i := 33) (N := some 50) (v := undef) (a' := ?_) mk_38_34 rfl rfl (any_of HT_.out (by kernel_rfl)) (fun _ _ _ h => h) (Or.inr ⟨by rfl, rfl⟩) ?_ ?_
        rotate_left
        ·simp only [Act.put, List.setIfInBounds_toArray, List.set_cons_zero, List.set_cons_succ, i64_w, i32_w]
         rfl
        refine pure_ (i := 34) (N := some 51) (v := undef) (a' := ?_) mk_38_35 rfl rfl (any_of HT_.out (by kernel_rfl)) (fun _ _ _ h => h) (Or.inr ⟨by rfl, rfl⟩) ?_ ?_
        rotate_left
        ·simp only [Act.put, List.setIfInBounds_toArray, List.set_cons_zero, List.set_cons_succ, i64_w, i32_w]
         rfl
        refine pure_ (i := 35) (N := some 52) (v := undef) (a' := ?_) mk_38_36 rfl rfl (any_of HT_.out (by kernel_rfl)) (fun _ _ _ h => h) (Or.inr ⟨by rfl, rfl⟩) ?_ ?_
        rotate_left
        ·simp only [Act.put, List.setIfInBounds_toArray, List.set_cons_zero, List.set_cons_succ, i64_w, i32_w]
         rfl
        refine pure_ (i := 36) (N := some 53) (v := undef) (a' := ?_) mk_38_37 rfl rfl (any_of HT_.out (by kernel_rfl)) (fun _ _ _ h => h) (Or.inr ⟨by rfl, rfl⟩) ?_ ?_
        rotate_left
        ·simp only [Act.put, List.setIfInBounds_toArray, List.set_cons_zero, List.set_cons_succ, i64_w, i32_w]
         rfl
        refine pure_ (i := 37) (N := some 54) (v := ?_) (a' := ?_) mk_38_38 rfl rfl (any_of HT_.out (by kernel_rfl)) (fun _ _ _ h => h) (Or.inl ⟨by rfl, ?_⟩) ?_ ?_
        rotate_left
        ·intro w'
         go_simp
         with_reducible rfl
        rotate_left
        ·simp only [Act.put, List.setIfInBounds_toArray, List.set_cons_zero, List.set_cons_succ, i64_w, i32_w]
         rfl
        refine done_ (done_of HT_.out (by kernel_rfl)) ?_
        try go_wp2
        go_ret
        exact ⟨by first | rfl | (simp [errW_none, errW_some] <;> rfl) | (simp [*, errW_none, errW_some] <;> rfl), by repeat (first | (with_reducible first | exact HB.out | apply below_alloc | apply pw_below_drewN | apply below_drew1) | exact HB.out)⟩
      ·rw [if_neg c6] at H
       exact absurd H (by simp)
     ·rw [if_neg c5] at H
      exact absurd H (by simp)
    ·rw [if_neg c4] at H
     have c4b0 : decide (x5_1 < (l0.length : Int)) = false := decide_eq_false c4
     clear c4
     obtain rfl := Option.some.inj H
     go_wp2
     go_ret
     exact ⟨by first | rfl | (simp [errW_none, errW_some] <;> rfl) | (simp [*, errW_none, errW_some] <;> rfl), by repeat (first | (with_reducible first | exact HB.out | apply below_alloc | apply pw_below_drewN | apply below_drew1) | exact HB.out)⟩
 ·rw [if_neg c3] at H
  have c3b0 : ((l0.length : Int) == (l1.length : Int)) = false := beq_eq_false_iff_ne.mpr c3
  have c3b1 : ((l0.length : Int) != (l1.length : Int)) = true := bne_iff_ne.mpr c3
  have c3b2 : (l0.length == l1.length) = false := by first | simpa using c3 | (simp at c3 ⊢; omega)
  obtain rfl := Option.some.inj H
  go_enter Try.func15, Try.ntmps15
  go_wp2
  go_ret
  exact ⟨by first | rfl | (simp [errW_none, errW_some] <;> rfl) | (simp [*, errW_none, errW_some] <;> rfl), by repeat (first | (with_reducible first | exact HB.out | apply below_alloc | apply pw_below_drewN | apply below_drew1) | exact HB.out)⟩

end Go.Proofs.Ytjbejbehbjhecaa.Q21p
namespace Go.Proofs.Ytjbejbehbjhecaa.Q21p
open Go.RowKit Go.Proofs.YtjbejbehbjhecaaW.PrintWords Go.Proofs.YtjbejbehbjhecaaW.PrintLast Go.Proofs.YtjbejbehbjhecaaW.PrintMore
attribute [local go_sem] max2_int min2_int max_two min_two max_three min_three max_four min_four   -- for this text's walks alone
set_option linter.unusedVariables false
set_option linter.unusedSimpArgs false

/-! ### watchwordlaw0_Num: function 16 -/
def watchwordlaw0_Num.f (a0 : Int) : Option (Int) := some a0
set_option maxHeartbeats 8000000 in
set_option maxRecDepth 100000 in
theorem watchwordlaw0_Num.calls (a0 : Int) (r : Int) (w : World) (h : watchwordlaw0_Num.f a0 = some r) :
  Calls Try.prog 16 #[.int .i64 a0] w fun e w' => e = .returned (.int .i64 r) ∧ Drawn0 w w' := by
 have H : (some a0) = some r := h
 clear h
 obtain rfl := Option.some.inj H
 go_enter Try.func16, Try.ntmps16
 go_wp2
 go_ret
 exact ⟨by first | rfl | (simp; done) | (simp [*]; done), by repeat (first | exact Drawn0.refl _ | apply Drawn0.step)⟩

end Go.Proofs.Ytjbejbehbjhecaa.Q21p
namespace Go.Proofs.Ytjbejbehbjhecaa.Q21p
open Go.RowKit Go.Proofs.YtjbejbehbjhecaaW.PrintWords Go.Proofs.YtjbejbehbjhecaaW.PrintLast Go.Proofs.YtjbejbehbjhecaaW.PrintMore
attribute [local go_sem] max2_int min2_int max_two min_two max_three min_three max_four min_four   -- for this text's walks alone
set_option linter.unusedVariables false
set_option linter.unusedSimpArgs false

/-! ### watchwordlaw21_awake: function 18 -/
def watchwordlaw21_awake.f (k : Nat)  : Option (Bool) := (paths_Routes.f k 0 5 2 0 5 0 3 0 2 3 0 0 0 0 0 0 1).bind fun bt172 => ((paths_Routes.f k 0 5 2 0 5 0 3 0 2 3 0 0 0 0 0 0 5).bind fun bt176 => ((watchwordlaw0_SameRoutes.f k bt172.1 (([(⟨2, 5, (([2, 3] : List Int))⟩ : S41), (⟨3, 2, (([3] : List Int))⟩ : S41)] : List (S41)))).bind fun t189 => (if t189 = true then ((watchwordlaw0_Num.f bt172.2).bind fun t190 => (if t190 = 0 then ((watchwordlaw0_Num.f bt176.2).bind fun t191 => (some (t191 == 2100))) else (some false))) else (some false))))
theorem watchwordlaw21_awake.mono : ∀ k, LeO (watchwordlaw21_awake.f k ) (watchwordlaw21_awake.f (k + 1) ) := by
 intro  k
 unfold watchwordlaw21_awake.f
 repeat' first
   | (with_reducible exact paths_Routes.mono _ _ _ _ _ _ _ _ _ _ _ _ _ _ _ _ _ _)
   | (with_reducible exact watchwordlaw0_SameRoutes.mono _ _ _)
   | (with_reducible exact LeO.refl _)
   | (with_reducible exact LeO.none _)
   | (with_reducible refine LeO.ite ?_ ?_)
   | (with_reducible refine LeO.bind ?_ (fun _ => ?_))
   | exact paths_Routes.mono _ _ _ _ _ _ _ _ _ _ _ _ _ _ _ _ _ _
   | exact watchwordlaw0_SameRoutes.mono _ _ _
   | exact LeO.none _
   | refine LeO.ite ?_ ?_
   | refine LeO.bind ?_ (fun _ => ?_)
set_option maxHeartbeats 8000000 in
set_option maxRecDepth 100000 in
theorem watchwordlaw21_awake.calls (k : Nat)  (r : Bool) (w : World) (h : watchwordlaw21_awake.f k  = some r) (hT : r = true) :
  Calls Try.prog 18 #[] w fun e w' => e = .returned (.bool r) ∧ Below w.heap.size w w' := by
 have hu22 := Try.underlying22
 have hu23 := Try.underlying23
 have hu41 := Try.underlying41
 have HB := Aside0.mk (Below.refl w.heap.size w)
 have HT := Aside0.mk hT
 clear hT
 have H : ((paths_Routes.f k 0 5 2 0 5 0 3 0 2 3 0 0 0 0 0 0 1).bind fun bt172 => ((paths_Routes.f k 0 5 2 0 5 0 3 0 2 3 0 0 0 0 0 0 5).bind fun bt176 => ((watchwordlaw0_SameRoutes.f k bt172.1 (([(⟨2, 5, (([2, 3] : List Int))⟩ : S41), (⟨3, 2, (([3] : List Int))⟩ : S41)] : List (S41)))).bind fun t189 => (if t189 = true then ((watchwordlaw0_Num.f bt172.2).bind fun t190 => (if t190 = 0 then ((watchwordlaw0_Num.f bt176.2).bind fun t191 => (some (t191 == 2100))) else (some false))) else (some false))))) = some r := h
 clear h
 replace H := Option.bind_eq_some_iff.mp H
 obtain ⟨⟨t172, t175⟩, A10, H⟩ := H
 replace H : ((paths_Routes.f k 0 5 2 0 5 0 3 0 2 3 0 0 0 0 0 0 5).bind fun bt176 => ((watchwordlaw0_SameRoutes.f k t172 (([(⟨2, 5, (([2, 3] : List Int))⟩ : S41), (⟨3, 2, (([3] : List Int))⟩ : S41)] : List (S41)))).bind fun t189 => (if t189 = true then ((watchwordlaw0_Num.f t175).bind fun t190 => (if t190 = 0 then ((watchwordlaw0_Num.f bt176.2).bind fun t191 => (some (t191 == 2100))) else (some false))) else (some false)))) = some r := H
 have A1 := Aside0.mk A10
 clear A10
 replace H := Option.bind_eq_some_iff.mp H
 obtain ⟨⟨t176, t179⟩, A20, H⟩ := H
 replace H : ((watchwordlaw0_SameRoutes.f k t172 (([(⟨2, 5, (([2, 3] : List Int))⟩ : S41), (⟨3, 2, (([3] : List Int))⟩ : S41)] : List (S41)))).bind fun t189 => (if t189 = true then ((watchwordlaw0_Num.f t175).bind fun t190 => (if t190 = 0 then ((watchwordlaw0_Num.f t179).bind fun t191 => (some (t191 == 2100))) else (some false))) else (some false))) = some r := H
 have A2 := Aside0.mk A20
 clear A20
 obtain ⟨y180, hy180⟩ : ∃ y_ : List Int, y_ = (([2, 3] : List Int)) := ⟨_, rfl⟩
 replace H : ((watchwordlaw0_SameRoutes.f k t172 (([(⟨2, 5, y180⟩ : S41), (⟨3, 2, (([3] : List Int))⟩ : S41)] : List (S41)))).bind fun t189 => (if t189 = true then ((watchwordlaw0_Num.f t175).bind fun t190 => (if t190 = 0 then ((watchwordlaw0_Num.f t179).bind fun t191 => (some (t191 == 2100))) else (some false))) else (some false))) = some r := by first | (rw [hy180]; with_reducible exact H) | (have H2_ := (Option.bind_some _ _).symm.trans H; rw [hy180]; with_reducible exact H2_) | (have H2_ := (Option.bind_some _ _).symm.trans H; with_reducible exact H2_) | with_reducible exact H | (rw [hy180]; exact H) | exact H
 have Ny180 := Aside0.mk hy180
 clear hy180
 obtain ⟨y183, hy183⟩ : ∃ y_ : List Int, y_ = (([3] : List Int)) := ⟨_, rfl⟩
 replace H : ((watchwordlaw0_SameRoutes.f k t172 (([(⟨2, 5, y180⟩ : S41), (⟨3, 2, y183⟩ : S41)] : List (S41)))).bind fun t189 => (if t189 = true then ((watchwordlaw0_Num.f t175).bind fun t190 => (if t190 = 0 then ((watchwordlaw0_Num.f t179).bind fun t191 => (some (t191 == 2100))) else (some false))) else (some false))) = some r := by first | (rw [hy183]; with_reducible exact H) | (have H2_ := (Option.bind_some _ _).symm.trans H; rw [hy183]; with_reducible exact H2_) | (have H2_ := (Option.bind_some _ _).symm.trans H; with_reducible exact H2_) | with_reducible exact H | (rw [hy183]; exact H) | exact H
 have Ny183 := Aside0.mk hy183
 clear hy183
 obtain ⟨y186, hy186⟩ : ∃ y_ : List (S41), y_ = (([(⟨2, 5, y180⟩ : S41), (⟨3, 2, y183⟩ : S41)] : List (S41))) := ⟨_, rfl⟩
 replace H : ((watchwordlaw0_SameRoutes.f k t172 y186).bind fun t189 => (if t189 = true then ((watchwordlaw0_Num.f t175).bind fun t190 => (if t190 = 0 then ((watchwordlaw0_Num.f t179).bind fun t191 => (some (t191 == 2100))) else (some false))) else (some false))) = some r := by first | (rw [hy186]; with_reducible exact H) | (have H2_ := (Option.bind_some _ _).symm.trans H; rw [hy186]; with_reducible exact H2_) | (have H2_ := (Option.bind_some _ _).symm.trans H; with_reducible exact H2_) | with_reducible exact H | (rw [hy186]; exact H) | exact H
 have Ny186 := Aside0.mk hy186
 clear hy186
 replace H := Option.bind_eq_some_iff.mp H
 obtain ⟨t189, A30, H⟩ := H
 replace H : (if t189 = true then ((watchwordlaw0_Num.f t175).bind fun t190 => (if t190 = 0 then ((watchwordlaw0_Num.f t179).bind fun t191 => (some (t191 == 2100))) else (some false))) else (some false)) = some r := H
 have A3 := Aside0.mk A30
 clear A30
 by_cases c4 : t189 = true
 ·subst c4
  have H1 : ((watchwordlaw0_Num.f t175).bind fun t190 => (if t190 = 0 then ((watchwordlaw0_Num.f t179).bind fun t191 => (some (t191 == 2100))) else (some false))) = some r := by rw [if_pos rfl] at H; exact H
  clear H
  have H := H1
  clear H1
  replace H := Option.bind_eq_some_iff.mp H
  obtain ⟨t190, A50, H⟩ := H
  replace H : (if t190 = 0 then ((watchwordlaw0_Num.f t179).bind fun t191 => (some (t191 == 2100))) else (some false)) = some r := H
  have A5 := Aside0.mk A50
  clear A50
  by_cases c6 : t190 = 0
  ·rw [if_pos c6] at H
   have c6b0 : (t190 == 0) = true := beq_iff_eq.mpr c6
   have c6b1 : (t190 != 0) = false := bne_eq_false_iff_eq.mpr c6
   clear c6
   replace H := Option.bind_eq_some_iff.mp H
   obtain ⟨t191, A70, H⟩ := H
   replace H : (some (t191 == 2100)) = some r := H
   have A7 := Aside0.mk A70
   clear A70
   obtain rfl := Option.some.inj H
   go_enter Try.func18, Try.ntmps18
   go_wp2_with (first | ((with_reducible refine gate_dst (N := 1) rfl ?_); refine box_event ?hg (N := 1) ?hd (cs := #[.int .i64 0, .int .i64 0, .int .i64 0, .int .i64 0, .int .i64 0, .int .i64 0, .int .i64 0, .int .i64 0, .int .i64 0, .int .i64 0, .int .i64 0, .int .i64 0, .int .i64 0, .int .i64 0, .int .i64 0, .int .i64 0]) (t := 23) ?hr ?_; (case hd => rfl); (case hg => rfl); (case hr => first | (go_simp; done) | (go_simp; rfl)); intro gb171 hg w8 hbox hb; have n0_ := Aside0.mk (below_step (by repeat (first | (with_reducible first | exact HB.out | apply below_alloc | apply pw_below_drewN | apply below_drew1) | exact HB.out)) hb); have n1_ := Aside0.mk (hbox); have n2_ := Aside0.mk ((by rw [hg]; exact (below_size (by repeat (first | (with_reducible first | exact HB.out | apply below_alloc | apply pw_below_drewN | apply below_drew1) | exact HB.out))) : w.heap.size ≤ gb171)); have n3_ := Aside0.mk ((by rw [hg]; exact (below_size (by repeat (first | (with_reducible first | exact HB.out | apply below_alloc | apply pw_below_drewN | apply below_drew1) | exact HB.out))) : w.heap.size ≤ gb171)); clear HB; have HB := n0_; have BK171 := n1_; have GW171 := n2_; have GE171 := n3_; clear n0_ n1_ n2_ n3_; clear hb hbox hg; obtain ⟨hcz9_0, hcz9_1, hcz9_2, hcz9_3, hcz9_4, hcz9_5, hcz9_6, hcz9_7, hcz9_8, hcz9_9, hcz9_10, hcz9_11, hcz9_12, hcz9_13, hcz9_14, hcz9_15⟩ := cells16 BK171.out; have hfz9_0 := fun (j_ : Nat) => blk_frozen BK171.out j_) | ((with_reducible refine gate_store (t := 23) (p := 1) rfl ?_); refine store_event (t := 23) (p := 1) (v := ?vo_w10) (w1 := ((((((((((((((((w8.setCell ⟨gb171, 0, none⟩ (.int .i64 0)).setCell ⟨gb171, 1, none⟩ (.int .i64 5)).setCell ⟨gb171, 2, none⟩ (.int .i64 2)).setCell ⟨gb171, 3, none⟩ (.int .i64 0)).setCell ⟨gb171, 4, none⟩ (.int .i64 5)).setCell ⟨gb171, 5, none⟩ (.int .i64 0)).setCell ⟨gb171, 6, none⟩ (.int .i64 3)).setCell ⟨gb171, 7, none⟩ (.int .i64 0)).setCell ⟨gb171, 8, none⟩ (.int .i64 2)).setCell ⟨gb171, 9, none⟩ (.int .i64 3)).setCell ⟨gb171, 10, none⟩ (.int .i64 0)).setCell ⟨gb171, 11, none⟩ (.int .i64 0)).setCell ⟨gb171, 12, none⟩ (.int .i64 0)).setCell ⟨gb171, 13, none⟩ (.int .i64 0)).setCell ⟨gb171, 14, none⟩ (.int .i64 0)).setCell ⟨gb171, 15, none⟩ (.int .i64 0))) ?hg ?ho ?hn ?hr ?_; (case ho => rfl); (case hg => rfl); (case hn => rfl); (case hr => first | (go_simp; done) | (go_simp; rfl)); intro w10 hw; have n0_ : Aside0 (w10.heap[gb171]? = some (.cells #[.int .i64 0, .int .i64 5, .int .i64 2, .int .i64 0, .int .i64 5, .int .i64 0, .int .i64 3, .int .i64 0, .int .i64 2, .int .i64 3, .int .i64 0, .int .i64 0, .int .i64 0, .int .i64 0, .int .i64 0, .int .i64 0] 23 (0, 0))) := ⟨(by rw [hw]; exact (by (with_reducible repeat (first | refine blk_drewN ?_ _ | refine blk_drew ?_ | refine blk_alloc ?_ _)); refine blk_put (cs := #[.int .i64 0, .int .i64 5, .int .i64 2, .int .i64 0, .int .i64 5, .int .i64 0, .int .i64 3, .int .i64 0, .int .i64 2, .int .i64 3, .int .i64 0, .int .i64 0, .int .i64 0, .int .i64 0, .int .i64 0, .int .i64 0]) ?_ 15 _ rfl; (with_reducible repeat (first | refine blk_drewN ?_ _ | refine blk_drew ?_ | refine blk_alloc ?_ _)); refine blk_put (cs := #[.int .i64 0, .int .i64 5, .int .i64 2, .int .i64 0, .int .i64 5, .int .i64 0, .int .i64 3, .int .i64 0, .int .i64 2, .int .i64 3, .int .i64 0, .int .i64 0, .int .i64 0, .int .i64 0, .int .i64 0, .int .i64 0]) ?_ 14 _ rfl; (with_reducible repeat (first | refine blk_drewN ?_ _ | refine blk_drew ?_ | refine blk_alloc ?_ _)); refine blk_put (cs := #[.int .i64 0, .int .i64 5, .int .i64 2, .int .i64 0, .int .i64 5, .int .i64 0, .int .i64 3, .int .i64 0, .int .i64 2, .int .i64 3, .int .i64 0, .int .i64 0, .int .i64 0, .int .i64 0, .int .i64 0, .int .i64 0]) ?_ 13 _ rfl; (with_reducible repeat (first | refine blk_drewN ?_ _ | refine blk_drew ?_ | refine blk_alloc ?_ _)); refine blk_put (cs := #[.int .i64 0, .int .i64 5, .int .i64 2, .int .i64 0, .int .i64 5, .int .i64 0, .int .i64 3, .int .i64 0, .int .i64 2, .int .i64 3, .int .i64 0, .int .i64 0, .int .i64 0, .int .i64 0, .int .i64 0, .int .i64 0]) ?_ 12 _ rfl; (with_reducible repeat (first | refine blk_drewN ?_ _ | refine blk_drew ?_ | refine blk_alloc ?_ _)); refine blk_put (cs := #[.int .i64 0, .int .i64 5, .int .i64 2, .int .i64 0, .int .i64 5, .int .i64 0, .int .i64 3, .int .i64 0, .int .i64 2, .int .i64 3, .int .i64 0, .int .i64 0, .int .i64 0, .int .i64 0, .int .i64 0, .int .i64 0]) ?_ 11 _ rfl; (with_reducible repeat (first | refine blk_drewN ?_ _ | refine blk_drew ?_ | refine blk_alloc ?_ _)); refine blk_put (cs := #[.int .i64 0, .int .i64 5, .int .i64 2, .int .i64 0, .int .i64 5, .int .i64 0, .int .i64 3, .int .i64 0, .int .i64 2, .int .i64 3, .int .i64 0, .int .i64 0, .int .i64 0, .int .i64 0, .int .i64 0, .int .i64 0]) ?_ 10 _ rfl; (with_reducible repeat (first | refine blk_drewN ?_ _ | refine blk_drew ?_ | refine blk_alloc ?_ _)); refine blk_put (cs := #[.int .i64 0, .int .i64 5, .int .i64 2, .int .i64 0, .int .i64 5, .int .i64 0, .int .i64 3, .int .i64 0, .int .i64 2, .int .i64 0, .int .i64 0, .int .i64 0, .int .i64 0, .int .i64 0, .int .i64 0, .int .i64 0]) ?_ 9 _ rfl; (with_reducible repeat (first | refine blk_drewN ?_ _ | refine blk_drew ?_ | refine blk_alloc ?_ _)); refine blk_put (cs := #[.int .i64 0, .int .i64 5, .int .i64 2, .int .i64 0, .int .i64 5, .int .i64 0, .int .i64 3, .int .i64 0, .int .i64 0, .int .i64 0, .int .i64 0, .int .i64 0, .int .i64 0, .int .i64 0, .int .i64 0, .int .i64 0]) ?_ 8 _ rfl; (with_reducible repeat (first | refine blk_drewN ?_ _ | refine blk_drew ?_ | refine blk_alloc ?_ _)); refine blk_put (cs := #[.int .i64 0, .int .i64 5, .int .i64 2, .int .i64 0, .int .i64 5, .int .i64 0, .int .i64 3, .int .i64 0, .int .i64 0, .int .i64 0, .int .i64 0, .int .i64 0, .int .i64 0, .int .i64 0, .int .i64 0, .int .i64 0]) ?_ 7 _ rfl; (with_reducible repeat (first | refine blk_drewN ?_ _ | refine blk_drew ?_ | refine blk_alloc ?_ _)); refine blk_put (cs := #[.int .i64 0, .int .i64 5, .int .i64 2, .int .i64 0, .int .i64 5, .int .i64 0, .int .i64 0, .int .i64 0, .int .i64 0, .int .i64 0, .int .i64 0, .int .i64 0, .int .i64 0, .int .i64 0, .int .i64 0, .int .i64 0]) ?_ 6 _ rfl; (with_reducible repeat (first | refine blk_drewN ?_ _ | refine blk_drew ?_ | refine blk_alloc ?_ _)); refine blk_put (cs := #[.int .i64 0, .int .i64 5, .int .i64 2, .int .i64 0, .int .i64 5, .int .i64 0, .int .i64 0, .int .i64 0, .int .i64 0, .int .i64 0, .int .i64 0, .int .i64 0, .int .i64 0, .int .i64 0, .int .i64 0, .int .i64 0]) ?_ 5 _ rfl; (with_reducible repeat (first | refine blk_drewN ?_ _ | refine blk_drew ?_ | refine blk_alloc ?_ _)); refine blk_put (cs := #[.int .i64 0, .int .i64 5, .int .i64 2, .int .i64 0, .int .i64 0, .int .i64 0, .int .i64 0, .int .i64 0, .int .i64 0, .int .i64 0, .int .i64 0, .int .i64 0, .int .i64 0, .int .i64 0, .int .i64 0, .int .i64 0]) ?_ 4 _ rfl; (with_reducible repeat (first | refine blk_drewN ?_ _ | refine blk_drew ?_ | refine blk_alloc ?_ _)); refine blk_put (cs := #[.int .i64 0, .int .i64 5, .int .i64 2, .int .i64 0, .int .i64 0, .int .i64 0, .int .i64 0, .int .i64 0, .int .i64 0, .int .i64 0, .int .i64 0, .int .i64 0, .int .i64 0, .int .i64 0, .int .i64 0, .int .i64 0]) ?_ 3 _ rfl; (with_reducible repeat (first | refine blk_drewN ?_ _ | refine blk_drew ?_ | refine blk_alloc ?_ _)); refine blk_put (cs := #[.int .i64 0, .int .i64 5, .int .i64 0, .int .i64 0, .int .i64 0, .int .i64 0, .int .i64 0, .int .i64 0, .int .i64 0, .int .i64 0, .int .i64 0, .int .i64 0, .int .i64 0, .int .i64 0, .int .i64 0, .int .i64 0]) ?_ 2 _ rfl; (with_reducible repeat (first | refine blk_drewN ?_ _ | refine blk_drew ?_ | refine blk_alloc ?_ _)); refine blk_put (cs := #[.int .i64 0, .int .i64 0, .int .i64 0, .int .i64 0, .int .i64 0, .int .i64 0, .int .i64 0, .int .i64 0, .int .i64 0, .int .i64 0, .int .i64 0, .int .i64 0, .int .i64 0, .int .i64 0, .int .i64 0, .int .i64 0]) ?_ 1 _ rfl; (with_reducible repeat (first | refine blk_drewN ?_ _ | refine blk_drew ?_ | refine blk_alloc ?_ _)); refine blk_put (cs := #[.int .i64 0, .int .i64 0, .int .i64 0, .int .i64 0, .int .i64 0, .int .i64 0, .int .i64 0, .int .i64 0, .int .i64 0, .int .i64 0, .int .i64 0, .int .i64 0, .int .i64 0, .int .i64 0, .int .i64 0, .int .i64 0]) ?_ 0 _ rfl; (with_reducible repeat (first | refine blk_drewN ?_ _ | refine blk_drew ?_ | refine blk_alloc ?_ _)); exact BK171.out))⟩; have n1_ : Aside0 (Below w.heap.size w w10) := ⟨(by rw [hw]; exact (by repeat (first | (with_reducible first | exact HB.out | apply below_alloc | apply pw_below_drewN | apply below_drew1 | refine below_set ?_ GE171.out) | exact HB.out)))⟩; clear hw; clear BK171; clear HB; have BK171 := n0_; have HB := n1_; clear n0_ n1_; obtain ⟨hcz11_0, hcz11_1, hcz11_2, hcz11_3, hcz11_4, hcz11_5, hcz11_6, hcz11_7, hcz11_8, hcz11_9, hcz11_10, hcz11_11, hcz11_12, hcz11_13, hcz11_14, hcz11_15⟩ := cells16 BK171.out; have hfz11_0 := fun (j_ : Nat) => blk_frozen BK171.out j_) | ((with_reducible refine gate_callee (f := 13) rfl ?_); refine goesL_ (some 12) rfl rfl Try.func13 (by kernel_rfl) rfl #[.agg #[.int .i64 0, .int .i64 5, .int .i64 2, .int .i64 0, .int .i64 5, .int .i64 0, .int .i64 3, .int .i64 0, .int .i64 2, .int .i64 3, .int .i64 0, .int .i64 0, .int .i64 0, .int .i64 0, .int .i64 0, .int .i64 0], .int .i64 1] rfl (by (try simp only [List.map_toArray, List.map_cons, List.map_nil]); first | done | rfl | (simp only [List.length_drop, List.length_take]; rfl)) ?_; (with_reducible refine (paths_Routes.calls k 0 5 2 0 5 0 3 0 2 3 0 0 0 0 0 0 1 t172 t175 _ A1.out).mono ?_); rintro e w12 ⟨v173, rfl, ho0, hb⟩; refine ⟨_, rfl, ?_⟩; have n0_ := Aside0.mk (Kd.N_lower (Kd.N_mono (ok' := fun k_ => k_ ≠ gb171) (Kd.S_N (Kd.S_bound ho0)) (fun k_ hk_ => (Kd.freshB (g := gb171) (o := .cells #[.int .i64 0, .int .i64 5, .int .i64 2, .int .i64 0, .int .i64 5, .int .i64 0, .int .i64 3, .int .i64 0, .int .i64 2, .int .i64 3, .int .i64 0, .int .i64 0, .int .i64 0, .int .i64 0, .int .i64 0, .int .i64 0] 23 (0, 0)) (by (with_reducible repeat (first | refine blk_drewN ?_ _ | refine blk_drew ?_ | refine blk_alloc ?_ _)); exact BK171.out) k_ hk_.2.1))) (below_size (by repeat (first | (with_reducible first | exact HB.out | apply below_alloc | apply pw_below_drewN | apply below_drew1 | refine below_set ?_ GE171.out) | exact HB.out)))); have n1_ := Aside0.mk (blk_below (g := gb171) (o := .cells #[.int .i64 0, .int .i64 5, .int .i64 2, .int .i64 0, .int .i64 5, .int .i64 0, .int .i64 3, .int .i64 0, .int .i64 2, .int .i64 3, .int .i64 0, .int .i64 0, .int .i64 0, .int .i64 0, .int .i64 0, .int .i64 0] 23 (0, 0)) (by (with_reducible repeat (first | refine blk_drewN ?_ _ | refine blk_drew ?_ | refine blk_alloc ?_ _)); exact BK171.out) hb); have n2_ := Aside0.mk (below_step (by repeat (first | (with_reducible first | exact HB.out | apply below_alloc | apply pw_below_drewN | apply below_drew1 | refine below_set ?_ GE171.out) | exact HB.out)) hb); clear BK171; clear HB; have HO174 := n0_; have BK171 := n1_; have HB := n2_; clear n0_ n1_ n2_; (try clear hb); (try clear hb2); (try clear hk); (try clear hi); (try clear ho0); obtain ⟨hcz13_0, hcz13_1, hcz13_2, hcz13_3, hcz13_4, hcz13_5, hcz13_6, hcz13_7, hcz13_8, hcz13_9, hcz13_10, hcz13_11, hcz13_12, hcz13_13, hcz13_14, hcz13_15⟩ := cells16 BK171.out; have hfz13_0 := fun (j_ : Nat) => blk_frozen BK171.out j_) | ((with_reducible refine gate_callee (f := 13) rfl ?_); refine goesL_ (some 17) rfl rfl Try.func13 (by kernel_rfl) rfl #[.agg #[.int .i64 0, .int .i64 5, .int .i64 2, .int .i64 0, .int .i64 5, .int .i64 0, .int .i64 3, .int .i64 0, .int .i64 2, .int .i64 3, .int .i64 0, .int .i64 0, .int .i64 0, .int .i64 0, .int .i64 0, .int .i64 0], .int .i64 5] rfl (by (try simp only [List.map_toArray, List.map_cons, List.map_nil]); first | done | rfl | (simp only [List.length_drop, List.length_take]; rfl)) ?_; (with_reducible refine (paths_Routes.calls k 0 5 2 0 5 0 3 0 2 3 0 0 0 0 0 0 5 t176 t179 _ A2.out).mono ?_); rintro e w14 ⟨v177, rfl, ho0, hb⟩; refine ⟨_, rfl, ?_⟩; have n0_ := Aside0.mk (Kd.N_elder' (by (with_reducible repeat (first | apply Kd.N_alloc | apply Kd.N_drewN | apply Kd.N_drew)); exact HO174.out) (by first | exact Kd.N_base ho0 | exact Kd.N_base (Kd.S_N ho0)) hb); have n1_ := Aside0.mk (Kd.N_lower (Kd.N_mono (ok' := fun k_ => some k_ ≠ (v173 : Value).ownBlock ∧ k_ ≠ gb171) (Kd.S_N (Kd.S_bound ho0)) (fun k_ hk_ => ⟨(Kd.fresh' (Kd.N_lt (by (with_reducible repeat (first | apply Kd.N_alloc | apply Kd.N_drewN | apply Kd.N_drew)); exact HO174.out)) k_ hk_.2.1), (Kd.freshB (g := gb171) (o := .cells #[.int .i64 0, .int .i64 5, .int .i64 2, .int .i64 0, .int .i64 5, .int .i64 0, .int .i64 3, .int .i64 0, .int .i64 2, .int .i64 3, .int .i64 0, .int .i64 0, .int .i64 0, .int .i64 0, .int .i64 0, .int .i64 0] 23 (0, 0)) (by (with_reducible repeat (first | refine blk_drewN ?_ _ | refine blk_drew ?_ | refine blk_alloc ?_ _)); exact BK171.out) k_ hk_.2.1)⟩)) (below_size (by repeat (first | (with_reducible first | exact HB.out | apply below_alloc | apply pw_below_drewN | apply below_drew1 | refine below_set ?_ GE171.out) | exact HB.out)))); have n2_ := Aside0.mk (blk_below (g := gb171) (o := .cells #[.int .i64 0, .int .i64 5, .int .i64 2, .int .i64 0, .int .i64 5, .int .i64 0, .int .i64 3, .int .i64 0, .int .i64 2, .int .i64 3, .int .i64 0, .int .i64 0, .int .i64 0, .int .i64 0, .int .i64 0, .int .i64 0] 23 (0, 0)) (by (with_reducible repeat (first | refine blk_drewN ?_ _ | refine blk_drew ?_ | refine blk_alloc ?_ _)); exact BK171.out) hb); have n3_ := Aside0.mk (below_step (by repeat (first | (with_reducible first | exact HB.out | apply below_alloc | apply pw_below_drewN | apply below_drew1 | refine below_set ?_ GE171.out) | exact HB.out)) hb); clear HO174; clear BK171; clear HB; have HO174 := n0_; have HO178 := n1_; have BK171 := n2_; have HB := n3_; clear n0_ n1_ n2_ n3_; (try clear hb); (try clear hb2); (try clear hk); (try clear hi); (try clear ho0)) | ((with_reducible refine gate_dst (N := 21) rfl ?_); refine Kd.R_lit (Kd.int .i64) _ 3 ?hg (N := 21) ?hd (xs := ([2, 3] : List Int)) (inner := [.int .i64 2, .int .i64 3]) (ok := fun _ => True) (okp := fun _ => True) ?hr ?hp (fun _ hk => hk) trivial (Below.refl _ _) (Nat.le_refl _) (by simp) ?_; (case hd => rfl); (case hg => rfl); (case hr => first | (go_simp; done) | (go_simp; rfl)); (case hp => exact (Reps.one (show Kd.M (Kd.int .i64) _ _ _ 2 [.int .i64 2] from rfl) (Reps.one (show Kd.M (Kd.int .i64) _ _ _ 3 [.int .i64 3] from rfl) (Reps.none _ _)))); intro v181 w15 ho16 hb hg_ hnew_; clear hg_ hnew_; (first | rw [← Ny180.out] at ho16 | (simp only [Int.reduceToNat] at ho16; rw [← Ny180.out] at ho16)); have n0_ := Aside0.mk (Kd.N_elder' (by (with_reducible repeat (first | apply Kd.N_alloc | apply Kd.N_drewN | apply Kd.N_drew)); exact HO174.out) (Kd.R_base ho16) hb); have n1_ := Aside0.mk (Kd.N_elder' (by (with_reducible repeat (first | apply Kd.N_alloc | apply Kd.N_drewN | apply Kd.N_drew)); exact HO178.out) (Kd.R_base ho16) hb); have n2_ := Aside0.mk (Kd.R_lower ho16 (below_size (by repeat (first | (with_reducible first | exact HB.out | apply below_alloc | apply pw_below_drewN | apply below_drew1 | refine below_set ?_ GE171.out) | exact HB.out)))); have n3_ := Aside0.mk (blk_below (g := gb171) (o := .cells #[.int .i64 0, .int .i64 5, .int .i64 2, .int .i64 0, .int .i64 5, .int .i64 0, .int .i64 3, .int .i64 0, .int .i64 2, .int .i64 3, .int .i64 0, .int .i64 0, .int .i64 0, .int .i64 0, .int .i64 0, .int .i64 0] 23 (0, 0)) (by (with_reducible repeat (first | refine blk_drewN ?_ _ | refine blk_drew ?_ | refine blk_alloc ?_ _)); exact BK171.out) hb); have n4_ := Aside0.mk (below_step (by repeat (first | (with_reducible first | exact HB.out | apply below_alloc | apply pw_below_drewN | apply below_drew1 | refine below_set ?_ GE171.out) | exact HB.out)) hb); clear HO174; clear HO178; clear BK171; clear HB; have HO174 := n0_; have HO178 := n1_; have HO182 := n2_; have BK171 := n3_; have HB := n4_; clear n0_ n1_ n2_ n3_ n4_; clear hb ho16; obtain ⟨Ao17, co17, eo17⟩ := Kd.R_slice HO182.out; subst eo17) | ((with_reducible refine gate_dst (N := 23) rfl ?_); refine Kd.R_lit (Kd.int .i64) _ 3 ?hg (N := 23) ?hd (xs := ([3] : List Int)) (inner := [.int .i64 3]) (ok := fun _ => True) (okp := fun _ => True) ?hr ?hp (fun _ hk => hk) trivial (Below.refl _ _) (Nat.le_refl _) (by simp) ?_; (case hd => rfl); (case hg => rfl); (case hr => first | (go_simp; done) | (go_simp; rfl)); (case hp => exact (Reps.one (show Kd.M (Kd.int .i64) _ _ _ 3 [.int .i64 3] from rfl) (Reps.none _ _))); intro v184 w18 ho19 hb hg_ hnew_; clear hg_ hnew_; (first | rw [← Ny183.out] at ho19 | (simp only [Int.reduceToNat] at ho19; rw [← Ny183.out] at ho19)); have n0_ := Aside0.mk (Kd.N_elder' (by (with_reducible repeat (first | apply Kd.N_alloc | apply Kd.N_drewN | apply Kd.N_drew)); exact HO174.out) (Kd.R_base ho19) hb); have n1_ := Aside0.mk (Kd.N_elder' (by (with_reducible repeat (first | apply Kd.N_alloc | apply Kd.N_drewN | apply Kd.N_drew)); exact HO178.out) (Kd.R_base ho19) hb); have n2_ := Aside0.mk (Kd.R_elder' (by (with_reducible repeat (first | apply Kd.R_alloc | apply Kd.R_drewN | apply Kd.R_drew)); exact HO182.out) (Kd.R_base ho19) hb); have n3_ := Aside0.mk (Kd.R_lower (Kd.R_new' ho19 (Kd.R_lt (by (with_reducible repeat (first | apply Kd.R_alloc | apply Kd.R_drewN | apply Kd.R_drew)); exact HO182.out))) (below_size (by repeat (first | (with_reducible first | exact HB.out | apply below_alloc | apply pw_below_drewN | apply below_drew1 | refine below_set ?_ GE171.out) | exact HB.out)))); have n4_ := Aside0.mk (blk_below (g := gb171) (o := .cells #[.int .i64 0, .int .i64 5, .int .i64 2, .int .i64 0, .int .i64 5, .int .i64 0, .int .i64 3, .int .i64 0, .int .i64 2, .int .i64 3, .int .i64 0, .int .i64 0, .int .i64 0, .int .i64 0, .int .i64 0, .int .i64 0] 23 (0, 0)) (by (with_reducible repeat (first | refine blk_drewN ?_ _ | refine blk_drew ?_ | refine blk_alloc ?_ _)); exact BK171.out) hb); have n5_ := Aside0.mk (below_step (by repeat (first | (with_reducible first | exact HB.out | apply below_alloc | apply pw_below_drewN | apply below_drew1 | refine below_set ?_ GE171.out) | exact HB.out)) hb); clear HO174; clear HO178; clear HO182; clear BK171; clear HB; have HO174 := n0_; have HO178 := n1_; have HO182 := n2_; have HO185 := n3_; have BK171 := n4_; have HB := n5_; clear n0_ n1_ n2_ n3_ n4_ n5_; clear hb ho19; obtain ⟨Ao20, co20, eo20⟩ := Kd.R_slice HO185.out; subst eo20) | ((with_reducible refine gate_dst (N := 25) rfl ?_); refine Kd.N_lit k41 _ 41 ?hg (N' := 25) ?hd (xs := ([(⟨2, 5, y180⟩ : S41), (⟨3, 2, y183⟩ : S41)] : List (S41))) (inner := [.int .i64 2, .int .i64 5, .slice Ao17 y180.length co17, .int .i64 3, .int .i64 2, .slice Ao20 y183.length co20]) (ok := (fun k_ => some k_ ≠ (v173 : Value).ownBlock ∧ some k_ ≠ (v177 : Value).ownBlock ∧ k_ ≠ gb171)) (okp := (fun k_ => some k_ ≠ (v173 : Value).ownBlock ∧ some k_ ≠ (v177 : Value).ownBlock ∧ k_ ≠ gb171)) ?hr ?hp (fun _ hk => hk) ((show ∀ k_, w18.heap.size ≤ k_ → (fun k_ => some k_ ≠ (v173 : Value).ownBlock ∧ some k_ ≠ (v177 : Value).ownBlock ∧ k_ ≠ gb171) k_ from fun k_ hk => ⟨Kd.fresh' (Kd.N_lt (by (with_reducible repeat (first | apply Kd.N_alloc | apply Kd.N_drewN | apply Kd.N_drew)); exact HO174.out)) k_ hk, Kd.fresh' (Kd.N_lt (by (with_reducible repeat (first | apply Kd.N_alloc | apply Kd.N_drewN | apply Kd.N_drew)); exact HO178.out)) k_ hk, Kd.freshB (g := gb171) (o := .cells #[.int .i64 0, .int .i64 5, .int .i64 2, .int .i64 0, .int .i64 5, .int .i64 0, .int .i64 3, .int .i64 0, .int .i64 2, .int .i64 3, .int .i64 0, .int .i64 0, .int .i64 0, .int .i64 0, .int .i64 0, .int .i64 0] 23 (0, 0)) (by (with_reducible repeat (first | refine blk_drewN ?_ _ | refine blk_drew ?_ | refine blk_alloc ?_ _)); exact BK171.out) k_ hk⟩) _ (Nat.le_refl _)) (Below.refl _ _) (Nat.le_refl _) (by simp) ?_; (case hd => rfl); (case hg => rfl); (case hr => first | (go_simp; done) | (go_simp; rfl)); (case hp => exact (Reps.c3 (show Kd.FK k41 _ _ (⟨2, 5, y180⟩ : S41) [.int .i64 2, .int .i64 5, .slice Ao17 y180.length co17] from (k41_mkF _ _ (⟨2, 5, y180⟩ : S41) (Kd.R_reads' (Kd.R_mono (ok' := (fun k_ => some k_ ≠ (v173 : Value).ownBlock ∧ some k_ ≠ (v177 : Value).ownBlock ∧ k_ ≠ gb171)) (Kd.R_types (Kd.R_apart' (Kd.R_apart' (HO182.out) (Kd.N_typed HO174.out) (by decide)) (Kd.N_typed HO178.out) (by decide)) BK171.out (by decide)) (fun k_ hk => ⟨hk.1.1.2, ⟨hk.1.2, hk.2⟩⟩))).2.1 (Kd.R_F (Kd.R_mono (ok' := (fun k_ => some k_ ≠ (v173 : Value).ownBlock ∧ some k_ ≠ (v177 : Value).ownBlock ∧ k_ ≠ gb171)) (Kd.R_types (Kd.R_apart' (Kd.R_apart' (HO182.out) (Kd.N_typed HO174.out) (by decide)) (Kd.N_typed HO178.out) (by decide)) BK171.out (by decide)) (fun k_ hk => ⟨hk.1.1.2, ⟨hk.1.2, hk.2⟩⟩))))) (Reps.c3 (show Kd.FK k41 _ _ (⟨3, 2, y183⟩ : S41) [.int .i64 3, .int .i64 2, .slice Ao20 y183.length co20] from (k41_mkF _ _ (⟨3, 2, y183⟩ : S41) (Kd.R_reads' (Kd.R_mono (ok' := (fun k_ => some k_ ≠ (v173 : Value).ownBlock ∧ some k_ ≠ (v177 : Value).ownBlock ∧ k_ ≠ gb171)) (Kd.R_types (Kd.R_apart' (Kd.R_apart' (HO185.out) (Kd.N_typed HO174.out) (by decide)) (Kd.N_typed HO178.out) (by decide)) BK171.out (by decide)) (fun k_ hk => ⟨hk.1.1.2, ⟨hk.1.2, hk.2⟩⟩))).2.1 (Kd.R_F (Kd.R_mono (ok' := (fun k_ => some k_ ≠ (v173 : Value).ownBlock ∧ some k_ ≠ (v177 : Value).ownBlock ∧ k_ ≠ gb171)) (Kd.R_types (Kd.R_apart' (Kd.R_apart' (HO185.out) (Kd.N_typed HO174.out) (by decide)) (Kd.N_typed HO178.out) (by decide)) BK171.out (by decide)) (fun k_ hk => ⟨hk.1.1.2, ⟨hk.1.2, hk.2⟩⟩))))) (Reps.none _ _)))); intro v187 w21 ho22 hb hg_ hnew_; clear hg_ hnew_; (first | rw [← Ny186.out] at ho22 | (simp only [Int.reduceToNat] at ho22; rw [← Ny186.out] at ho22)); have n0_ := Aside0.mk (Kd.N_elder' (by (with_reducible repeat (first | apply Kd.N_alloc | apply Kd.N_drewN | apply Kd.N_drew)); exact HO174.out) (by first | exact Kd.N_base ho22 | exact Kd.N_base (Kd.S_N ho22)) hb); have n1_ := Aside0.mk (Kd.N_elder' (by (with_reducible repeat (first | apply Kd.N_alloc | apply Kd.N_drewN | apply Kd.N_drew)); exact HO178.out) (by first | exact Kd.N_base ho22 | exact Kd.N_base (Kd.S_N ho22)) hb); have n2_ := Aside0.mk (Kd.N_lower ho22 (below_size (by repeat (first | (with_reducible first | exact HB.out | apply below_alloc | apply pw_below_drewN | apply below_drew1 | refine below_set ?_ GE171.out) | exact HB.out)))); have n3_ := Aside0.mk (blk_below (g := gb171) (o := .cells #[.int .i64 0, .int .i64 5, .int .i64 2, .int .i64 0, .int .i64 5, .int .i64 0, .int .i64 3, .int .i64 0, .int .i64 2, .int .i64 3, .int .i64 0, .int .i64 0, .int .i64 0, .int .i64 0, .int .i64 0, .int .i64 0] 23 (0, 0)) (by (with_reducible repeat (first | refine blk_drewN ?_ _ | refine blk_drew ?_ | refine blk_alloc ?_ _)); exact BK171.out) hb); have n4_ := Aside0.mk (below_step (by repeat (first | (with_reducible first | exact HB.out | apply below_alloc | apply pw_below_drewN | apply below_drew1 | refine below_set ?_ GE171.out) | exact HB.out)) hb); clear HO174; clear HO178; clear BK171; clear HB; clear HO182; clear HO185; have HO174 := n0_; have HO178 := n1_; have HO188 := n2_; have BK171 := n3_; have HB := n4_; clear n0_ n1_ n2_ n3_ n4_; clear hb ho22; obtain ⟨Ao23, co23, eo23⟩ := Kd.N_slice HO174.out; subst eo23; obtain ⟨Ao24, co24, eo24⟩ := Kd.N_slice HO188.out; subst eo24) | ((with_reducible refine gate_callee (f := 15) rfl ?_); refine goesL_ (some 26) rfl rfl Try.func15 (by kernel_rfl) rfl #[.slice Ao23 t172.length co23, .slice Ao24 y186.length co24] rfl (by (try simp only [List.map_toArray, List.map_cons, List.map_nil]); first | done | rfl | (simp only [List.length_drop, List.length_take]; rfl)) ?_; (with_reducible refine (watchwordlaw0_SameRoutes.calls k _ _ t172 _ _ y186 true _ ?side1 ?side2 ?side3 ?side4 A3.out).mono ?_); (case side1 => repeat (first | exact (Kd.N_reads' HO174.out).2.2 | (with_reducible refine Kd.C_alloc ?_ _) | (with_reducible refine Kd.C_drewN ?_ _) | (with_reducible refine Kd.C_drew ?_))); (case side2 => exact (Kd.N_reads' HO174.out).2.1); (case side3 => repeat (first | exact (Kd.N_reads' HO188.out).2.2 | (with_reducible refine Kd.C_alloc ?_ _) | (with_reducible refine Kd.C_drewN ?_ _) | (with_reducible refine Kd.C_drew ?_))); (case side4 => exact (Kd.N_reads' HO188.out).2.1); rintro e w25 ⟨rfl, hb⟩; refine ⟨_, rfl, ?_⟩; have n0_ := Aside0.mk (Kd.N_below (by (with_reducible repeat (first | apply Kd.N_alloc | apply Kd.N_drewN | apply Kd.N_drew)); exact HO174.out) hb); have n1_ := Aside0.mk (Kd.N_below (by (with_reducible repeat (first | apply Kd.N_alloc | apply Kd.N_drewN | apply Kd.N_drew)); exact HO178.out) hb); have n2_ := Aside0.mk (Kd.N_below (by (with_reducible repeat (first | apply Kd.N_alloc | apply Kd.N_drewN | apply Kd.N_drew)); exact HO188.out) hb); have n3_ := Aside0.mk (blk_below (g := gb171) (o := .cells #[.int .i64 0, .int .i64 5, .int .i64 2, .int .i64 0, .int .i64 5, .int .i64 0, .int .i64 3, .int .i64 0, .int .i64 2, .int .i64 3, .int .i64 0, .int .i64 0, .int .i64 0, .int .i64 0, .int .i64 0, .int .i64 0] 23 (0, 0)) (by (with_reducible repeat (first | refine blk_drewN ?_ _ | refine blk_drew ?_ | refine blk_alloc ?_ _)); exact BK171.out) hb); have n4_ := Aside0.mk (below_step (by repeat (first | (with_reducible first | exact HB.out | apply below_alloc | apply pw_below_drewN | apply below_drew1 | refine below_set ?_ GE171.out) | exact HB.out)) hb); clear HO174; clear HO178; clear HO188; clear BK171; clear HB; have HO174 := n0_; have HO178 := n1_; have HO188 := n2_; have BK171 := n3_; have HB := n4_; clear n0_ n1_ n2_ n3_ n4_; (try clear hb); (try clear hb2); (try clear hk); (try clear hi)) | (go_at_call 16; (with_reducible refine (watchwordlaw0_Num.calls t175 t190 _ A5.out).mono ?_); rintro e w' ⟨rfl, ⟨nd, rfl⟩⟩) | (go_at_call 16; (with_reducible refine (watchwordlaw0_Num.calls t179 t191 _ A7.out).mono ?_); rintro e w' ⟨rfl, ⟨nd, rfl⟩⟩))
   go_ret
   exact ⟨by first | rfl | (simp [errW_none, errW_some] <;> rfl) | (simp [*, errW_none, errW_some] <;> rfl), by repeat (first | (with_reducible first | exact HB.out | apply below_alloc | apply pw_below_drewN | apply below_drew1 | refine below_set ?_ GE171.out) | exact HB.out)⟩
  ·rw [if_neg c6] at H
   have c6b0 : (t190 == 0) = false := beq_eq_false_iff_ne.mpr c6
   have c6b1 : (t190 != 0) = true := bne_iff_ne.mpr c6
   exact absurd (Option.some.inj H) (by rw [HT.out]; decide)
 ·replace c4 := Bool.eq_false_iff.mpr c4
  subst c4
  have H1 : (some false) = some r := by rw [if_neg (show ¬ (false = true) by decide)] at H; exact H
  clear H
  have H := H1
  clear H1
  exact absurd (Option.some.inj H) (by rw [HT.out]; decide)

end Go.Proofs.Ytjbejbehbjhecaa.Q21p
namespace Go.Proofs.Ytjbejbehbjhecaa.Q21p
open Go.RowKit Go.Proofs.YtjbejbehbjhecaaW.PrintWords Go.Proofs.YtjbejbehbjhecaaW.PrintLast Go.Proofs.YtjbejbehbjhecaaW.PrintMore
attribute [local go_sem] max2_int min2_int max_two min_two max_three min_three max_four min_four   -- for this text's walks alone
set_option linter.unusedVariables false
set_option linter.unusedSimpArgs false

theorem rd41_all {l : List S41} (h : ∀ y ∈ l, y.f2.length ≤ 1000) : ∀ j : Nat, j < l.length → (rd_T41 l (j : Int)).f2.length ≤ 1000 := by
  intro j hj
  unfold rd_T41
  rw [Int.toNat_natCast, List.getD_eq_getElem?_getD, List.getElem?_eq_getElem hj]
  exact h _ (List.getElem_mem hj)
/-! ### watchwordlaw21_Paths: function 3 -/
def watchwordlaw21_Paths.j0 : Nat → List (S41) → Bool → Option (Bool)
 | 0, _, _ => none
 | k + 1, x5, x30 => if x30 = true then (some false) else ((if (x5.length ≤ 1000000 ∧ ∀ y ∈ x5, y.f2.length ≤ 1000) then some true else none).bind fun t203 => ((watchwordlaw21_awake.f k).bind fun t204 => (some t204)))
def watchwordlaw21_Paths.f (k : Nat) (a0_0 : Int) (a0_1 : Int) (a0_2 : Int) (a0_3 : Int) (a0_4 : Int) (a0_5 : Int) (a0_6 : Int) (a0_7 : Int) (a0_8 : Int) (a0_9 : Int) (a0_10 : Int) (a0_11 : Int) (a0_12 : Int) (a0_13 : Int) (a0_14 : Int) (a0_15 : Int) (a1 : Int) : Option (Bool) := (paths_Routes.f k a0_0 a0_1 a0_2 a0_3 a0_4 a0_5 a0_6 a0_7 a0_8 a0_9 a0_10 a0_11 a0_12 a0_13 a0_14 a0_15 a1).bind fun bt193 => ((watchwordref18_Routes.f k a0_0 a0_1 a0_2 a0_3 a0_4 a0_5 a0_6 a0_7 a0_8 a0_9 a0_10 a0_11 a0_12 a0_13 a0_14 a0_15 a1).bind fun bt197 => ((watchwordlaw0_SameRoutes.f k bt193.1 bt197.1).bind fun t201 => (if t201 = true then ((watchwordlaw0_Num.f bt193.2).bind fun t202 => (watchwordlaw21_Paths.j0 k bt193.1 (t202 != bt197.2))) else (watchwordlaw21_Paths.j0 k bt193.1 true))))
theorem watchwordlaw21_Paths.mono_l : ∀ k, (∀ y0 y1, LeO (watchwordlaw21_Paths.j0 k y0 y1) (watchwordlaw21_Paths.j0 (k + 1) y0 y1))
 | 0 => fun _ _ r h => by simp [watchwordlaw21_Paths.j0] at h
 | k + 1 => by
  have ih0 := watchwordlaw21_Paths.mono_l k
  ·intro y0 y1
   unfold watchwordlaw21_Paths.j0
   repeat' first
   | (with_reducible exact ih0 _ _)
   | (with_reducible exact paths_Routes.mono _ _ _ _ _ _ _ _ _ _ _ _ _ _ _ _ _ _)
   | (with_reducible exact watchwordlaw0_SameRoutes.mono _ _ _)
   | (with_reducible exact watchwordlaw21_awake.mono _)
   | (with_reducible exact watchwordref18_Routes.mono _ _ _ _ _ _ _ _ _ _ _ _ _ _ _ _ _ _)
   | (with_reducible exact LeO.refl _)
   | (with_reducible exact LeO.none _)
   | (with_reducible refine LeO.ite ?_ ?_)
   | (with_reducible refine LeO.bind ?_ (fun _ => ?_))
   | exact ih0 _ _
   | exact paths_Routes.mono _ _ _ _ _ _ _ _ _ _ _ _ _ _ _ _ _ _
   | exact watchwordlaw0_SameRoutes.mono _ _ _
   | exact watchwordlaw21_awake.mono _
   | exact watchwordref18_Routes.mono _ _ _ _ _ _ _ _ _ _ _ _ _ _ _ _ _ _
   | exact LeO.none _
   | refine LeO.ite ?_ ?_
   | refine LeO.bind ?_ (fun _ => ?_)
theorem watchwordlaw21_Paths.mono : ∀ a0 a1 a2 a3 a4 a5 a6 a7 a8 a9 a10 a11 a12 a13 a14 a15 a16 k, LeO (watchwordlaw21_Paths.f k a0 a1 a2 a3 a4 a5 a6 a7 a8 a9 a10 a11 a12 a13 a14 a15 a16) (watchwordlaw21_Paths.f (k + 1) a0 a1 a2 a3 a4 a5 a6 a7 a8 a9 a10 a11 a12 a13 a14 a15 a16) := by
 intro a0 a1 a2 a3 a4 a5 a6 a7 a8 a9 a10 a11 a12 a13 a14 a15 a16 k
 have ih0 := watchwordlaw21_Paths.mono_l k
 unfold watchwordlaw21_Paths.f
 repeat' first
   | (with_reducible exact ih0 _ _)
   | (with_reducible exact paths_Routes.mono _ _ _ _ _ _ _ _ _ _ _ _ _ _ _ _ _ _)
   | (with_reducible exact watchwordlaw0_SameRoutes.mono _ _ _)
   | (with_reducible exact watchwordlaw21_awake.mono _)
   | (with_reducible exact watchwordref18_Routes.mono _ _ _ _ _ _ _ _ _ _ _ _ _ _ _ _ _ _)
   | (with_reducible exact LeO.refl _)
   | (with_reducible exact LeO.none _)
   | (with_reducible refine LeO.ite ?_ ?_)
   | (with_reducible refine LeO.bind ?_ (fun _ => ?_))
   | exact ih0 _ _
   | exact paths_Routes.mono _ _ _ _ _ _ _ _ _ _ _ _ _ _ _ _ _ _
   | exact watchwordlaw0_SameRoutes.mono _ _ _
   | exact watchwordlaw21_awake.mono _
   | exact watchwordref18_Routes.mono _ _ _ _ _ _ _ _ _ _ _ _ _ _ _ _ _ _
   | exact LeO.none _
   | refine LeO.ite ?_ ?_
   | refine LeO.bind ?_ (fun _ => ?_)
set_option maxHeartbeats 8000000 in
set_option maxRecDepth 100000 in
theorem watchwordlaw21_Paths.calls (k : Nat) (a0_0 : Int) (a0_1 : Int) (a0_2 : Int) (a0_3 : Int) (a0_4 : Int) (a0_5 : Int) (a0_6 : Int) (a0_7 : Int) (a0_8 : Int) (a0_9 : Int) (a0_10 : Int) (a0_11 : Int) (a0_12 : Int) (a0_13 : Int) (a0_14 : Int) (a0_15 : Int) (a1 : Int) (r : Bool) (w : World) (h : watchwordlaw21_Paths.f k a0_0 a0_1 a0_2 a0_3 a0_4 a0_5 a0_6 a0_7 a0_8 a0_9 a0_10 a0_11 a0_12 a0_13 a0_14 a0_15 a1 = some r) (hT : r = true) :
  Calls Try.prog 3 #[.agg #[.int .i64 a0_0, .int .i64 a0_1, .int .i64 a0_2, .int .i64 a0_3, .int .i64 a0_4, .int .i64 a0_5, .int .i64 a0_6, .int .i64 a0_7, .int .i64 a0_8, .int .i64 a0_9, .int .i64 a0_10, .int .i64 a0_11, .int .i64 a0_12, .int .i64 a0_13, .int .i64 a0_14, .int .i64 a0_15], .int .i64 a1] w fun e w' => e = .returned (.bool r) ∧ Below w.heap.size w w' := by
 have hu23 := Try.underlying23
 have HB := Aside0.mk (Below.refl w.heap.size w)
 have HT := Aside0.mk hT
 clear hT
 have H : ((paths_Routes.f k a0_0 a0_1 a0_2 a0_3 a0_4 a0_5 a0_6 a0_7 a0_8 a0_9 a0_10 a0_11 a0_12 a0_13 a0_14 a0_15 a1).bind fun bt193 => ((watchwordref18_Routes.f k a0_0 a0_1 a0_2 a0_3 a0_4 a0_5 a0_6 a0_7 a0_8 a0_9 a0_10 a0_11 a0_12 a0_13 a0_14 a0_15 a1).bind fun bt197 => ((watchwordlaw0_SameRoutes.f k bt193.1 bt197.1).bind fun t201 => (if t201 = true then ((watchwordlaw0_Num.f bt193.2).bind fun t202 => (watchwordlaw21_Paths.j0 k bt193.1 (t202 != bt197.2))) else (watchwordlaw21_Paths.j0 k bt193.1 true))))) = some r := h
 clear h
 replace H := Option.bind_eq_some_iff.mp H
 obtain ⟨⟨t193, t196⟩, A30, H⟩ := H
 replace H : ((watchwordref18_Routes.f k a0_0 a0_1 a0_2 a0_3 a0_4 a0_5 a0_6 a0_7 a0_8 a0_9 a0_10 a0_11 a0_12 a0_13 a0_14 a0_15 a1).bind fun bt197 => ((watchwordlaw0_SameRoutes.f k t193 bt197.1).bind fun t201 => (if t201 = true then ((watchwordlaw0_Num.f t196).bind fun t202 => (watchwordlaw21_Paths.j0 k t193 (t202 != bt197.2))) else (watchwordlaw21_Paths.j0 k t193 true)))) = some r := H
 have A3 := Aside0.mk A30
 clear A30
 replace H := Option.bind_eq_some_iff.mp H
 obtain ⟨⟨t197, t200⟩, A40, H⟩ := H
 replace H : ((watchwordlaw0_SameRoutes.f k t193 t197).bind fun t201 => (if t201 = true then ((watchwordlaw0_Num.f t196).bind fun t202 => (watchwordlaw21_Paths.j0 k t193 (t202 != t200))) else (watchwordlaw21_Paths.j0 k t193 true))) = some r := H
 have A4 := Aside0.mk A40
 clear A40
 have HC5 := Aside0.mk H
 clear H
 go_enter Try.func3, Try.ntmps3
 go_upto_region 3 with (first | ((with_reducible refine gate_dst (N := 2) rfl ?_); refine box_event ?hg (N := 2) ?hd (cs := #[.int .i64 a0_0, .int .i64 a0_1, .int .i64 a0_2, .int .i64 a0_3, .int .i64 a0_4, .int .i64 a0_5, .int .i64 a0_6, .int .i64 a0_7, .int .i64 a0_8, .int .i64 a0_9, .int .i64 a0_10, .int .i64 a0_11, .int .i64 a0_12, .int .i64 a0_13, .int .i64 a0_14, .int .i64 a0_15]) (t := 23) ?hr ?_; (case hd => rfl); (case hg => rfl); (case hr => first | (go_simp; done) | (go_simp; rfl)); intro gb192 hg w6 hbox hb; have n0_ := Aside0.mk (below_step (by repeat (first | (with_reducible first | exact HB.out | apply below_alloc | apply pw_below_drewN | apply below_drew1) | exact HB.out)) hb); have n1_ := Aside0.mk (hbox); have n2_ := Aside0.mk ((by rw [hg]; exact (below_size (by repeat (first | (with_reducible first | exact HB.out | apply below_alloc | apply pw_below_drewN | apply below_drew1) | exact HB.out))) : w.heap.size ≤ gb192)); have n3_ := Aside0.mk ((by rw [hg]; exact (below_size (by repeat (first | (with_reducible first | exact HB.out | apply below_alloc | apply pw_below_drewN | apply below_drew1) | exact HB.out))) : w.heap.size ≤ gb192)); clear HB; have HB := n0_; have BK192 := n1_; have GW192 := n2_; have GE192 := n3_; clear n0_ n1_ n2_ n3_; clear hb hbox hg; obtain ⟨hcz7_0, hcz7_1, hcz7_2, hcz7_3, hcz7_4, hcz7_5, hcz7_6, hcz7_7, hcz7_8, hcz7_9, hcz7_10, hcz7_11, hcz7_12, hcz7_13, hcz7_14, hcz7_15⟩ := cells16 BK192.out; have hfz7_0 := fun (j_ : Nat) => blk_frozen BK192.out j_) | ((with_reducible refine gate_callee (f := 13) rfl ?_); refine goesL_ (some 12) rfl rfl Try.func13 (by kernel_rfl) rfl #[.agg #[.int .i64 a0_0, .int .i64 a0_1, .int .i64 a0_2, .int .i64 a0_3, .int .i64 a0_4, .int .i64 a0_5, .int .i64 a0_6, .int .i64 a0_7, .int .i64 a0_8, .int .i64 a0_9, .int .i64 a0_10, .int .i64 a0_11, .int .i64 a0_12, .int .i64 a0_13, .int .i64 a0_14, .int .i64 a0_15], .int .i64 a1] rfl (by (try simp only [List.map_toArray, List.map_cons, List.map_nil]); first | done | rfl | (simp only [List.length_drop, List.length_take]; rfl)) ?_; (with_reducible refine (paths_Routes.calls k a0_0 a0_1 a0_2 a0_3 a0_4 a0_5 a0_6 a0_7 a0_8 a0_9 a0_10 a0_11 a0_12 a0_13 a0_14 a0_15 a1 t193 t196 _ A3.out).mono ?_); rintro e w8 ⟨v194, rfl, ho0, hb⟩; refine ⟨_, rfl, ?_⟩; have n0_ := Aside0.mk (Kd.S_lower ho0 (below_size (by repeat (first | (with_reducible first | exact HB.out | apply below_alloc | apply pw_below_drewN | apply below_drew1 | refine below_set ?_ GE192.out) | exact HB.out)))); have n1_ := Aside0.mk (blk_below (g := gb192) (o := .cells #[.int .i64 a0_0, .int .i64 a0_1, .int .i64 a0_2, .int .i64 a0_3, .int .i64 a0_4, .int .i64 a0_5, .int .i64 a0_6, .int .i64 a0_7, .int .i64 a0_8, .int .i64 a0_9, .int .i64 a0_10, .int .i64 a0_11, .int .i64 a0_12, .int .i64 a0_13, .int .i64 a0_14, .int .i64 a0_15] 23 (0, 0)) (by (with_reducible repeat (first | refine blk_drewN ?_ _ | refine blk_drew ?_ | refine blk_alloc ?_ _)); exact BK192.out) hb); have n2_ := Aside0.mk (below_step (by repeat (first | (with_reducible first | exact HB.out | apply below_alloc | apply pw_below_drewN | apply below_drew1 | refine below_set ?_ GE192.out) | exact HB.out)) hb); clear BK192; clear HB; have HO195 := n0_; have BK192 := n1_; have HB := n2_; clear n0_ n1_ n2_; (try clear hb); (try clear hb2); (try clear hk); (try clear hi); (try clear ho0); obtain ⟨hcz9_0, hcz9_1, hcz9_2, hcz9_3, hcz9_4, hcz9_5, hcz9_6, hcz9_7, hcz9_8, hcz9_9, hcz9_10, hcz9_11, hcz9_12, hcz9_13, hcz9_14, hcz9_15⟩ := cells16 BK192.out; have hfz9_0 := fun (j_ : Nat) => blk_frozen BK192.out j_) | ((with_reducible refine gate_callee (f := 14) rfl ?_); refine goesL_ (some 18) rfl rfl Try.func14 (by kernel_rfl) rfl #[.agg #[.int .i64 a0_0, .int .i64 a0_1, .int .i64 a0_2, .int .i64 a0_3, .int .i64 a0_4, .int .i64 a0_5, .int .i64 a0_6, .int .i64 a0_7, .int .i64 a0_8, .int .i64 a0_9, .int .i64 a0_10, .int .i64 a0_11, .int .i64 a0_12, .int .i64 a0_13, .int .i64 a0_14, .int .i64 a0_15], .int .i64 a1] rfl (by (try simp only [List.map_toArray, List.map_cons, List.map_nil]); first | done | rfl | (simp only [List.length_drop, List.length_take]; rfl)) ?_; (with_reducible refine (watchwordref18_Routes.calls k a0_0 a0_1 a0_2 a0_3 a0_4 a0_5 a0_6 a0_7 a0_8 a0_9 a0_10 a0_11 a0_12 a0_13 a0_14 a0_15 a1 t197 t200 _ A4.out).mono ?_); rintro e w10 ⟨v198, rfl, ho0, hb⟩; refine ⟨_, rfl, ?_⟩; have n0_ := Aside0.mk (Kd.S_elder' (by (with_reducible repeat (first | apply Kd.S_alloc | apply Kd.S_drewN | apply Kd.S_drew)); exact HO195.out) (Kd.S_base ho0) hb); have n1_ := Aside0.mk (Kd.S_lower (Kd.S_new' ho0 (Kd.S_lt (by (with_reducible repeat (first | apply Kd.S_alloc | apply Kd.S_drewN | apply Kd.S_drew)); exact HO195.out))) (below_size (by repeat (first | (with_reducible first | exact HB.out | apply below_alloc | apply pw_below_drewN | apply below_drew1 | refine below_set ?_ GE192.out) | exact HB.out)))); have n2_ := Aside0.mk (blk_below (g := gb192) (o := .cells #[.int .i64 a0_0, .int .i64 a0_1, .int .i64 a0_2, .int .i64 a0_3, .int .i64 a0_4, .int .i64 a0_5, .int .i64 a0_6, .int .i64 a0_7, .int .i64 a0_8, .int .i64 a0_9, .int .i64 a0_10, .int .i64 a0_11, .int .i64 a0_12, .int .i64 a0_13, .int .i64 a0_14, .int .i64 a0_15] 23 (0, 0)) (by (with_reducible repeat (first | refine blk_drewN ?_ _ | refine blk_drew ?_ | refine blk_alloc ?_ _)); exact BK192.out) hb); have n3_ := Aside0.mk (below_step (by repeat (first | (with_reducible first | exact HB.out | apply below_alloc | apply pw_below_drewN | apply below_drew1 | refine below_set ?_ GE192.out) | exact HB.out)) hb); clear HO195; clear BK192; clear HB; have HO195 := n0_; have HO199 := n1_; have BK192 := n2_; have HB := n3_; clear n0_ n1_ n2_ n3_; (try clear hb); (try clear hb2); (try clear hk); (try clear hi); (try clear ho0)))
 (try simp only [Act.put, List.setIfInBounds_toArray, List.set_cons_zero, List.set_cons_succ])
 go_cut [30] (fun v30 wc => ∃ (kq : Nat) (x30_4 : Bool), v30 = .bool x30_4 ∧ Aside0 (watchwordlaw21_Paths.j0 kq t193 x30_4 = some r) ∧ Aside0 (kq ≤ k) ∧ Aside0 (Kd.S k41 41 wc w.heap.size (fun _ => True) v194 t193) ∧ Aside0 (wc.heap[gb192]? = some (.cells #[.int .i64 a0_0, .int .i64 a0_1, .int .i64 a0_2, .int .i64 a0_3, .int .i64 a0_4, .int .i64 a0_5, .int .i64 a0_6, .int .i64 a0_7, .int .i64 a0_8, .int .i64 a0_9, .int .i64 a0_10, .int .i64 a0_11, .int .i64 a0_12, .int .i64 a0_13, .int .i64 a0_14, .int .i64 a0_15] 23 (0, 0))) ∧ Aside0 (Below w.heap.size w wc))
 case first =>
  have H := HC5.out
  clear HC5
  replace H := Option.bind_eq_some_iff.mp H
  obtain ⟨t201, A110, H⟩ := H
  replace H : (if t201 = true then ((watchwordlaw0_Num.f t196).bind fun t202 => (watchwordlaw21_Paths.j0 k t193 (t202 != t200))) else (watchwordlaw21_Paths.j0 k t193 true)) = some r := H
  have A11 := Aside0.mk A110
  clear A110
  by_cases c12 : t201 = true
  ·subst c12
   have H1 : ((watchwordlaw0_Num.f t196).bind fun t202 => (watchwordlaw21_Paths.j0 k t193 (t202 != t200))) = some r := by rw [if_pos rfl] at H; exact H
   clear H
   have H := H1
   clear H1
   replace H := Option.bind_eq_some_iff.mp H
   obtain ⟨t202, A130, H⟩ := H
   replace H : (watchwordlaw21_Paths.j0 k t193 (t202 != t200)) = some r := H
   have A13 := Aside0.mk A130
   clear A130
   have H' := Aside0.mk H
   clear H
   obtain ⟨Ao14, co14, eo14⟩ := Kd.S_slice HO195.out
   subst eo14
   obtain ⟨Ao15, co15, eo15⟩ := Kd.S_slice HO199.out
   subst eo15
   go_wp2_with (first | ((with_reducible refine gate_callee (f := 15) rfl ?_); refine goesL_ (some 23) rfl rfl Try.func15 (by kernel_rfl) rfl #[.slice Ao14 t193.length co14, .slice Ao15 t197.length co15] rfl (by (try simp only [List.map_toArray, List.map_cons, List.map_nil]); first | done | rfl | (simp only [List.length_drop, List.length_take]; rfl)) ?_; (with_reducible refine (watchwordlaw0_SameRoutes.calls k _ _ t193 _ _ t197 true _ ?side1 ?side2 ?side3 ?side4 A11.out).mono ?_); (case side1 => repeat (first | exact (Kd.S_reads' HO195.out).2.2 | (with_reducible refine Kd.C_alloc ?_ _) | (with_reducible refine Kd.C_drewN ?_ _) | (with_reducible refine Kd.C_drew ?_))); (case side2 => exact (Kd.S_reads' HO195.out).2.1); (case side3 => repeat (first | exact (Kd.S_reads' HO199.out).2.2 | (with_reducible refine Kd.C_alloc ?_ _) | (with_reducible refine Kd.C_drewN ?_ _) | (with_reducible refine Kd.C_drew ?_))); (case side4 => exact (Kd.S_reads' HO199.out).2.1); rintro e w16 ⟨rfl, hb⟩; refine ⟨_, rfl, ?_⟩; have n0_ := Aside0.mk (Kd.S_below (by (with_reducible repeat (first | apply Kd.S_alloc | apply Kd.S_drewN | apply Kd.S_drew)); exact HO195.out) hb); have n1_ := Aside0.mk (Kd.S_below (by (with_reducible repeat (first | apply Kd.S_alloc | apply Kd.S_drewN | apply Kd.S_drew)); exact HO199.out) hb); have n2_ := Aside0.mk (blk_below (g := gb192) (o := .cells #[.int .i64 a0_0, .int .i64 a0_1, .int .i64 a0_2, .int .i64 a0_3, .int .i64 a0_4, .int .i64 a0_5, .int .i64 a0_6, .int .i64 a0_7, .int .i64 a0_8, .int .i64 a0_9, .int .i64 a0_10, .int .i64 a0_11, .int .i64 a0_12, .int .i64 a0_13, .int .i64 a0_14, .int .i64 a0_15] 23 (0, 0)) (by (with_reducible repeat (first | refine blk_drewN ?_ _ | refine blk_drew ?_ | refine blk_alloc ?_ _)); exact BK192.out) hb); have n3_ := Aside0.mk (below_step (by repeat (first | (with_reducible first | exact HB.out | apply below_alloc | apply pw_below_drewN | apply below_drew1 | refine below_set ?_ GE192.out) | exact HB.out)) hb); clear HO195; clear HO199; clear BK192; clear HB; have HO195 := n0_; have HO199 := n1_; have BK192 := n2_; have HB := n3_; clear n0_ n1_ n2_ n3_; (try clear hb); (try clear hb2); (try clear hk); (try clear hi)) | (go_at_call 16; (with_reducible refine (watchwordlaw0_Num.calls t196 t202 _ A13.out).mono ?_); rintro e w' ⟨rfl, ⟨nd, rfl⟩⟩))
   go_meet
   case rel => exact ⟨_, ((t202 != t200)), (by first | rfl | (simp; done) | (simp [*]; done)), H', ⟨by first | omega | exact Nat.le_refl _⟩, ⟨by (with_reducible repeat (first | apply Kd.S_alloc | apply Kd.S_drewN | apply Kd.S_drew)); exact Kd.S_mono HO195.out (fun _ hk => trivial)⟩, ⟨by (with_reducible repeat (first | refine blk_drewN ?_ _ | refine blk_drew ?_ | refine blk_alloc ?_ _)); exact BK192.out⟩, ⟨by repeat (first | (with_reducible first | exact HB.out | apply below_alloc | apply pw_below_drewN | apply below_drew1 | refine below_set ?_ GE192.out) | exact HB.out)⟩⟩
  ·replace c12 := Bool.eq_false_iff.mpr c12
   subst c12
   have H1 : (watchwordlaw21_Paths.j0 k t193 true) = some r := by rw [if_neg (show ¬ (false = true) by decide)] at H; exact H
   clear H
   have H := H1
   clear H1
   exact absurd H (fun h_ => (by
    have hd_ : ∀ k_, watchwordlaw21_Paths.j0 k_ t193 true = some r → False := by
     intro k_ h_
     cases k_ with
     | zero => exact absurd h_ (by simp [watchwordlaw21_Paths.j0])
     | succ k_ =>
      simp only [watchwordlaw21_Paths.j0, if_true] at h_
      exact absurd (Option.some.inj h_) (by rw [HT.out]; decide)
    exact hd_ _ h_))
 case rest =>
  clear HC5
  try clear c1
  try clear p2
  try clear c3
  try clear c12
  try clear c13
  try clear c14
  try clear c15
  try clear hcz7_0
  try clear hcz7_1
  try clear hcz7_10
  try clear hcz7_11
  try clear hcz7_12
  try clear hcz7_13
  try clear hcz7_14
  try clear hcz7_15
  try clear hcz7_2
  try clear hcz7_3
  try clear hcz7_4
  try clear hcz7_5
  try clear hcz7_6
  try clear hcz7_7
  try clear hcz7_8
  try clear hcz7_9
  try clear hcz9_0
  try clear hcz9_1
  try clear hcz9_10
  try clear hcz9_11
  try clear hcz9_12
  try clear hcz9_13
  try clear hcz9_14
  try clear hcz9_15
  try clear hcz9_2
  try clear hcz9_3
  try clear hcz9_4
  try clear hcz9_5
  try clear hcz9_6
  try clear hcz9_7
  try clear hcz9_8
  try clear hcz9_9
  try clear hfz7_0
  try clear hfz9_0
  obtain ⟨kq, x30_4, rfl, HA, HJ4, HO_5, BK192, HB⟩ := hcut
  cases kq with
  | zero => exact absurd HA.out (by simp [watchwordlaw21_Paths.j0])
  | succ kj4 =>
   have H := HA.out
   clear HA
   simp only [watchwordlaw21_Paths.j0] at H
   by_cases c17 : x30_4 = true
   ·subst c17
    have H1 : (some false) = some r := by rw [if_pos rfl] at H; exact H
    clear H
    have H := H1
    clear H1
    exact absurd (Option.some.inj H) (by rw [HT.out]; decide)
   ·replace c17 := Bool.eq_false_iff.mpr c17
    subst c17
    have H1 : ((if (t193.length ≤ 1000000 ∧ ∀ y ∈ t193, y.f2.length ≤ 1000) then some true else none).bind fun t203 => ((watchwordlaw21_awake.f kj4).bind fun t204 => (some t204))) = some r := by rw [if_neg (show ¬ (false = true) by decide)] at H; exact H
    clear H
    have H := H1
    clear H1
    replace H := Option.bind_eq_some_iff.mp H
    obtain ⟨t203, A180, H⟩ := H
    replace H : ((watchwordlaw21_awake.f kj4).bind fun t204 => (some t204)) = some r := H
    have A18 := Aside0.mk A180
    clear A180
    replace H := Option.bind_eq_some_iff.mp H
    obtain ⟨t204, A190, H⟩ := H
    replace H : (some t204) = some r := H
    have A19 := Aside0.mk A190
    clear A190
    obtain rfl := Option.some.inj H
    obtain ⟨Ao20, co20, eo20⟩ := Kd.S_slice HO_5.out
    subst eo20
    have hg_ := A18.out
    have hgc_ : t193.length ≤ 1000000 ∧ ∀ y ∈ t193, y.f2.length ≤ 1000 := by
     by_cases c_ : t193.length ≤ 1000000 ∧ ∀ y ∈ t193, y.f2.length ≤ 1000
     · exact c_
     · rw [if_neg c_] at hg_; cases hg_
    have HGN_ := Aside0.mk hgc_.1
    have HGX_ := Aside0.mk (rd41_all hgc_.2)
    clear hg_ hgc_
    go_wp2_with (first | ((with_reducible refine gate_callee (f := 17) rfl ?_); refine goesL_ (some 32) rfl rfl Try.func17 (by kernel_rfl) rfl #[.slice Ao20 t193.length co20] rfl (by (try simp only [List.map_toArray, List.map_cons, List.map_nil]); first | done | rfl) ?_; (with_reducible refine (watchwordlaw0_SpoilRoutes.spoilt (.slice Ao20 t193.length co20) t193 w _ ?side1 ?side2 HGN_.out HGX_.out).mono ?_); (case side1 => exact (by repeat (first | (with_reducible first | exact HB.out | apply below_alloc | apply pw_below_drewN | apply below_drew1 | refine below_set ?_ GE192.out) | exact HB.out))); (case side2 => exact (by (with_reducible repeat (first | apply Kd.S_alloc | apply Kd.S_drewN | apply Kd.S_drew)); exact HO_5.out)); rintro e w21 ⟨rfl, ⟨ys_, ho_⟩, hb⟩; refine ⟨_, rfl, ?_⟩; have n1_ := Aside0.mk hb; clear HO_5; clear BK192; clear HB; have HB := n1_; clear n1_; (try clear hb); (try clear ho_)) | ((with_reducible refine gate_callee (f := 18) rfl ?_); refine goesL_ (some 33) rfl rfl Try.func18 (by kernel_rfl) rfl #[] rfl (by (try simp only [List.map_toArray, List.map_cons, List.map_nil]); first | done | rfl | (simp only [List.length_drop, List.length_take]; rfl)) ?_; (with_reducible refine (watchwordlaw21_awake.calls kj4  t204 _ A19.out (by first | rfl | exact HT.out)).mono ?_); rintro e w22 ⟨rfl, hb⟩; refine ⟨_, rfl, ?_⟩; have n2_ := Aside0.mk (below_step (by repeat (first | (with_reducible first | exact HB.out | apply below_alloc | apply pw_below_drewN | apply below_drew1 | refine below_set ?_ GE192.out) | exact HB.out)) hb); clear HB; have HB := n2_; clear n2_; (try clear hb); (try clear hb2); (try clear hk); (try clear hi)))
    go_ret
    exact ⟨by first | rfl | (simp [errW_none, errW_some] <;> rfl) | (simp [*, errW_none, errW_some] <;> rfl), by repeat (first | (with_reducible first | exact HB.out | apply below_alloc | apply pw_below_drewN | apply below_drew1 | refine below_set ?_ GE192.out) | exact HB.out)⟩

end Go.Proofs.Ytjbejbehbjhecaa.Q21p
namespace Go.Proofs.Ytjbejbehbjhecaa.Base
open Go.RowKit Go.Proofs.YtjbejbehbjhecaaW.PrintWords Go.Proofs.YtjbejbehbjhecaaW.PrintLast Go.Proofs.YtjbejbehbjhecaaW.PrintMore
set_option linter.unusedVariables false

/-! ### Texts as_ lists of numbers -/
def B (s : ByteArray) : List Int := s.data.toList.map fun b => (b.toNat : Int)
def Byt (l : List Int) : Prop := ∀ x ∈ l, 0 ≤ x ∧ x < 256
theorem B_len (s : ByteArray) : (B s).length = s.size := by simp [B]
theorem B_byt (s : ByteArray) : Byt (B s) := by
  intro x hx
  simp only [B, List.mem_map] at hx
  obtain ⟨b, _, rfl⟩ := hx
  have := b.toNat_lt
  omega
theorem map_toNat_inj : ∀ {l l' : List UInt8}, l.map (fun b => (b.toNat : Int)) = l'.map (fun b => (b.toNat : Int)) → l = l'
  | [], [], _ => rfl
  | [], _ :: _, h => by simp at h
  | _ :: _, [], h => by simp at h
  | a :: l, b :: l', h => by
    simp only [List.map_cons, List.cons.injEq] at h
    obtain ⟨h1, h2⟩ := h
    have : a = b := UInt8.toNat_inj.mp (by exact_mod_cast h1)
    rw [this, map_toNat_inj h2]
theorem B_inj {s t : ByteArray} (h : B s = B t) : s = t := by
  have := map_toNat_inj h
  cases s; cases t
  simp only [ByteArray.mk.injEq]
  exact Array.toList_inj.mp this
theorem toList_iff (s t : ByteArray) : s.toList = t.toList ↔ B s = B t := by
  rw [Lib.toList_data, Lib.toList_data]
  constructor
  · intro h; simp only [B, h]
  · exact map_toNat_inj
theorem toList_iff_lit (s : ByteArray) (l : List UInt8) : s.toList = l ↔ B s = l.map (fun b => (b.toNat : Int)) := by
  rw [Lib.toList_data]
  constructor
  · intro h; simp only [B, h]
  · exact map_toNat_inj
theorem B_append (s t : ByteArray) : B (s ++ t) = B s ++ B t := by simp [B, ByteArray.data_append]
theorem B_mk (a : Array UInt8) : B ⟨a⟩ = a.toList.map (fun b => (b.toNat : Int)) := rfl
theorem B_strOf {l : List Int} (h : Byt l) : B (strOfNums l) = l := by
  unfold B strOfNums
  simp only [List.map_map]
  conv => rhs; rw [← List.map_id l]
  apply List.map_congr_left
  intro x hx
  obtain ⟨h0, h1⟩ := h x hx
  simp only [Function.comp, id, UInt8.toNat_ofNat']
  omega
theorem strOf_B (s : ByteArray) : strOfNums (B s) = s := B_inj (B_strOf (B_byt s))
theorem strOf_size (l : List Int) : (strOfNums l).size = l.length := by show (Array.size _) = _; simp
theorem strOf_append (l l' : List Int) : strOfNums l ++ strOfNums l' = strOfNums (l ++ l') := by
  have : (strOfNums l ++ strOfNums l').data = (strOfNums (l ++ l')).data := by simp [strOfNums, ByteArray.data_append]
  exact ByteArray.ext this
theorem B_extract (s : ByteArray) (a b : Nat) : B (s.extract a b) = ((B s).drop a).take (b - a) := by
  unfold B
  rw [Lib.extract_data, List.map_take, List.map_drop]
theorem bt_B (s : ByteArray) (i : Int) : bt s i = (B s).getD i.toNat 0 := by
  unfold bt B
  split
  · rename_i h
    rw [List.getD_eq_getElem?_getD, List.getElem?_map]
    have : i.toNat < s.data.toList.length := by simpa using h
    rw [List.getElem?_eq_getElem this]
    rfl
  · rename_i h
    rw [List.getD_eq_getElem?_getD, List.getElem?_map]
    have : s.data.toList.length ≤ i.toNat := by simp only [Array.length_toList]; have : s.size = s.data.size := rfl; omega
    rw [List.getElem?_eq_none this]
    rfl
theorem byt_mod (x : Int) : 0 ≤ x % 256 ∧ x % 256 < 256 := by omega
theorem byt_nil : Byt [] := fun _ h => by cases h
theorem byt_cons {x : Int} {l : List Int} (h : 0 ≤ x ∧ x < 256) (hl : Byt l) : Byt (x :: l) := by
  intro y hy
  rcases List.mem_cons.mp hy with rfl | hy
  · exact h
  · exact hl y hy
theorem byt_append {l l' : List Int} (h : Byt l) (h' : Byt l') : Byt (l ++ l') := by
  intro y hy
  rcases List.mem_append.mp hy with hy | hy
  · exact h y hy
  · exact h' y hy
theorem byt_take {l : List Int} (n : Nat) (h : Byt l) : Byt (l.take n) := fun y hy => h y (List.mem_of_mem_take hy)
theorem byt_drop {l : List Int} (n : Nat) (h : Byt l) : Byt (l.drop n) := fun y hy => h y (List.mem_of_mem_drop hy)

/-! ### Numbers in bytes -/
def e1 (x : Int) : List Int := [x % 256]
def e2 (x : Int) : List Int := [x / 256 % 256, x % 256]
def e4 (x : Int) : List Int := [x / 16777216 % 256, x / 65536 % 256, x / 256 % 256, x % 256]
theorem e1_byt (x : Int) : Byt (e1 x) := byt_cons (byt_mod _) byt_nil
theorem e2_byt (x : Int) : Byt (e2 x) := byt_cons (byt_mod _) (byt_cons (byt_mod _) byt_nil)
theorem e4_byt (x : Int) : Byt (e4 x) := byt_cons (byt_mod _) (byt_cons (byt_mod _) (byt_cons (byt_mod _) (byt_cons (byt_mod _) byt_nil)))
theorem e1_len (x : Int) : (e1 x).length = 1 := rfl
theorem e2_len (x : Int) : (e2 x).length = 2 := rfl
theorem e4_len (x : Int) : (e4 x).length = 4 := rfl
def num (l : List Int) : Int := l.foldl (fun a b => a * 256 + b) 0
theorem num_two (a b : Int) : num [a, b] = a * 256 + b := by simp [num]
theorem num_four (a b c d : Int) : num [a, b, c, d] = a * 16777216 + b * 65536 + c * 256 + d := by simp [num]; omega
theorem num_e2 {x : Int} (h0 : 0 ≤ x) (h1 : x < 65536) : num (e2 x) = x := by unfold e2; rw [num_two]; omega
theorem num_e4 {x : Int} (h0 : 0 ≤ x) (h1 : x < 4294967296) : num (e4 x) = x := by unfold e4; rw [num_four]; omega
theorem e2_num {a b : Int} (ha : 0 ≤ a ∧ a < 256) (hb : 0 ≤ b ∧ b < 256) : e2 (num [a, b]) = [a, b] := by
  rw [num_two]; unfold e2
  simp only [List.cons.injEq, and_true]
  omega
theorem e4_num {a b c d : Int} (ha : 0 ≤ a ∧ a < 256) (hb : 0 ≤ b ∧ b < 256) (hc : 0 ≤ c ∧ c < 256) (hd : 0 ≤ d ∧ d < 256) : e4 (num [a, b, c, d]) = [a, b, c, d] := by
  rw [num_four]; unfold e4
  simp only [List.cons.injEq, and_true]
  omega
theorem num_two_range {a b : Int} (ha : 0 ≤ a ∧ a < 256) (hb : 0 ≤ b ∧ b < 256) : 0 ≤ num [a, b] ∧ num [a, b] < 65536 := by rw [num_two]; omega
theorem num_four_range {a b c d : Int} (ha : 0 ≤ a ∧ a < 256) (hb : 0 ≤ b ∧ b < 256) (hc : 0 ≤ c ∧ c < 256) (hd : 0 ≤ d ∧ d < 256) : 0 ≤ num [a, b, c, d] ∧ num [a, b, c, d] < 4294967296 := by rw [num_four]; omega
theorem e2_inj {x y : Int} (hx : 0 ≤ x ∧ x < 65536) (hy : 0 ≤ y ∧ y < 65536) (h : e2 x = e2 y) : x = y := by
  have := congrArg num h
  rwa [num_e2 hx.1 hx.2, num_e2 hy.1 hy.2] at this
theorem e4_inj {x y : Int} (hx : 0 ≤ x ∧ x < 4294967296) (hy : 0 ≤ y ∧ y < 4294967296) (h : e4 x = e4 y) : x = y := by
  have := congrArg num h
  rwa [num_e4 hx.1 hx.2, num_e4 hy.1 hy.2] at this

/-! ### Bits -/
theorem wrap_id {x : Int} (h0 : -9223372036854775808 ≤ x) (h1 : x ≤ 9223372036854775807) : wrap64 x = x := by unfold wrap64; omega
theorem wraps_i64 (n : Int) (h₀ : 0 ≤ n) (h₁ : n < 2 ^ 63) : IntKind.i64.wrap n = n := by rw [IntKind.wrap_i64]; omega
theorem or_byte {x y : Int} (hx₀ : 0 ≤ x) (hx₁ : x < 9223372036854775808) (hx : x % 256 = 0) (h₀ : 0 ≤ y) (h₁ : y < 256) : Go.bits .or .i64 x y = x + y :=
  bits_join .i64 63 (by decide) wraps_i64 8 x y hx₀ hx hx₁ h₀ h₁ (by omega)
theorem and_mask (i : Nat) (hi : i ≤ 62) (n : Int) : Go.bits .and .i64 n ((2 ^ i - 1 : Nat) : Int) = n % ((2 ^ i : Nat) : Int) := by
  have hp : 2 ^ i ≤ 2 ^ 62 := Nat.pow_le_pow_right (by decide) hi
  have hpos : 0 < 2 ^ i := Nat.two_pow_pos i
  have hm : (BitVec.ofInt 64 ((2 ^ i - 1 : Nat) : Int)).toNat = 2 ^ i - 1 := by
    rw [BitVec.ofInt_natCast, BitVec.toNat_ofNat]
    apply Nat.mod_eq_of_lt
    omega
  have key : (BitVec.ofInt 64 n &&& BitVec.ofInt 64 ((2 ^ i - 1 : Nat) : Int)).toNat = (n % ((2 ^ 64 : Nat) : Int)).toNat % 2 ^ i := by
    rw [BitVec.toNat_and, BitVec.toNat_ofInt, hm, Nat.and_two_pow_sub_one_eq_mod]
  show IntKind.i64.wrap ((BitVec.ofInt 64 n &&& BitVec.ofInt 64 ((2 ^ i - 1 : Nat) : Int)).toNat : Nat) = _
  rw [key]
  have hd : ((2 ^ i : Nat) : Int) ∣ ((2 ^ 64 : Nat) : Int) := by
    have : (2 ^ i) ∣ (2 ^ 64) := Nat.pow_dvd_pow 2 (by omega)
    exact_mod_cast this
  have h2 : (((n % ((2 ^ 64 : Nat) : Int)).toNat % 2 ^ i : Nat) : Int) = n % ((2 ^ i : Nat) : Int) := by
    rw [Int.natCast_emod, Int.toNat_of_nonneg (by omega), Int.emod_emod_of_dvd _ hd]
  rw [h2]
  have hlt : n % ((2 ^ i : Nat) : Int) < ((2 ^ i : Nat) : Int) := Int.emod_lt_of_pos _ (by exact_mod_cast hpos)
  have h0 : 0 ≤ n % ((2 ^ i : Nat) : Int) := Int.emod_nonneg _ (by have : ((2 ^ i : Nat) : Int) ≠ 0 := by exact_mod_cast Nat.pos_iff_ne_zero.mp hpos
                                                                   exact this)
  have hle : ((2 ^ i : Nat) : Int) ≤ ((2 ^ 62 : Nat) : Int) := by exact_mod_cast hp
  exact wraps_i64 _ h0 (by have : ((2 ^ 62 : Nat) : Int) < 2 ^ 63 := by decide
                           omega)
theorem and1 (n : Int) : Go.bits .and .i64 n 1 = n % 2 := and_mask 1 (by decide) n
theorem and3 (n : Int) : Go.bits .and .i64 n 3 = n % 4 := and_mask 2 (by decide) n
theorem and15 (n : Int) : Go.bits .and .i64 n 15 = n % 16 := and_mask 4 (by decide) n
theorem and127 (n : Int) : Go.bits .and .i64 n 127 = n % 128 := and_mask 7 (by decide) n
theorem and255 (n : Int) : Go.bits .and .i64 n 255 = n % 256 := and_mask 8 (by decide) n
theorem and1023 (n : Int) : Go.bits .and .i64 n 1023 = n % 1024 := and_mask 10 (by decide) n

theorem empty_list : (⟨#[]⟩ : ByteArray).toList = ([] : List UInt8) := by rw [Lib.toList_data]
def lim : Nat → Int
  | 0 => 1
  | i + 1 => lim i * 256
theorem lim_succ (i : Nat) : lim (i + 1) = lim i * 256 := rfl
theorem lim_le6 {i : Nat} (h : i ≤ 6) : lim i ≤ 281474976710656 := by
  have : i = 0 ∨ i = 1 ∨ i = 2 ∨ i = 3 ∨ i = 4 ∨ i = 5 ∨ i = 6 := by omega
  rcases this with rfl | rfl | rfl | rfl | rfl | rfl | rfl <;> decide
theorem byt_getD {l : List Int} (h : Byt l) (i : Nat) : 0 ≤ l.getD i 0 ∧ l.getD i 0 < 256 := by
  rw [List.getD_eq_getElem?_getD]
  by_cases hi : i < l.length
  · rw [List.getElem?_eq_getElem hi]; exact h _ (List.getElem_mem hi)
  · rw [List.getElem?_eq_none (by omega)]; simp

end Go.Proofs.Ytjbejbehbjhecaa.Base
namespace Go.Proofs.Ytjbejbehbjhecaa.L21
open Go.RowKit Go.Proofs.YtjbejbehbjhecaaW.PrintWords Go.Proofs.YtjbejbehbjhecaaW.PrintMore Go.Proofs.Ytjbejbehbjhecaa.Base Go.Proofs.Ytjbejbehbjhecaa.Q21p
set_option linter.unusedVariables false
set_option linter.unusedSimpArgs false
set_option maxRecDepth 100000
/-! ### Least sums between four: W is the least sum of three steps (a step from one to itself costs nothing) -/
structure Steps (e : Nat → Nat → Int) : Prop where
  self : ∀ i, i < 4 → e i i = 0
  nonneg : ∀ i j, i < 4 → j < 4 → 0 ≤ e i j
/-- The least of four. -/
def m4 (f : Nat → Int) : Int := min (min (f 0) (f 1)) (min (f 2) (f 3))
theorem m4_le (f : Nat → Int) {i : Nat} (h : i < 4) : m4 f ≤ f i := by
  unfold m4
  have : i = 0 ∨ i = 1 ∨ i = 2 ∨ i = 3 := by omega
  rcases this with rfl | rfl | rfl | rfl <;> omega
theorem m4_at (f : Nat → Int) : ∃ i, i < 4 ∧ m4 f = f i := by
  unfold m4
  by_cases h0 : min (min (f 0) (f 1)) (min (f 2) (f 3)) = f 0
  · exact ⟨0, by decide, h0⟩
  · by_cases h1 : min (min (f 0) (f 1)) (min (f 2) (f 3)) = f 1
    · exact ⟨1, by decide, h1⟩
    · by_cases h2 : min (min (f 0) (f 1)) (min (f 2) (f 3)) = f 2
      · exact ⟨2, by decide, h2⟩
      · exact ⟨3, by decide, by omega⟩
theorem m4_ge (f : Nat → Int) {b : Int} (h : ∀ i, i < 4 → b ≤ f i) : b ≤ m4 f := by
  obtain ⟨i, hi, e⟩ := m4_at f
  rw [e]; exact h i hi
def W (e : Nat → Nat → Int) (i j : Nat) : Int := m4 fun x => m4 fun y => e i x + e x y + e y j
theorem W_le (e : Nat → Nat → Int) (i j : Nat) {x y : Nat} (hx : x < 4) (hy : y < 4) : W e i j ≤ e i x + e x y + e y j :=
  Int.le_trans (m4_le _ hx) (m4_le (fun y => e i x + e x y + e y j) hy)
theorem W_at (e : Nat → Nat → Int) (i j : Nat) : ∃ x y, x < 4 ∧ y < 4 ∧ W e i j = e i x + e x y + e y j := by
  obtain ⟨x, hx, h1⟩ := m4_at fun x => m4 fun y => e i x + e x y + e y j
  obtain ⟨y, hy, h2⟩ := m4_at fun y => e i x + e x y + e y j
  exact ⟨x, y, hx, hy, h1.trans h2⟩
/-- Of five among four two are one: a way of four steps has a shorter one in it. -/
theorem shorter {e : Nat → Nat → Int} (S : Steps e) {f x y z j : Nat} (hf : f < 4) (hx : x < 4) (hy : y < 4) (hz : z < 4) (hj : j < 4) :
    ∃ x' y', x' < 4 ∧ y' < 4 ∧ e f x' + e x' y' + e y' j ≤ e f x + e x y + e y z + e z j ∧
      ∀ M : Int, 0 ≤ M → e f x ≤ M → e x y ≤ M → e y z ≤ M → e z j ≤ M → e f x' ≤ M ∧ e x' y' ≤ M ∧ e y' j ≤ M := by
  have n1 := S.nonneg f x hf hx
  have n2 := S.nonneg x y hx hy
  have n3 := S.nonneg y z hy hz
  have n4 := S.nonneg z j hz hj
  have sf := S.self f hf
  have sj := S.self j hj
  have : f = x ∨ x = y ∨ y = z ∨ z = j ∨ f = y ∨ x = z ∨ y = j ∨ f = z ∨ x = j ∨ f = j := by omega
  rcases this with rfl | rfl | rfl | rfl | rfl | rfl | rfl | rfl | rfl | rfl
  · exact ⟨y, z, hy, hz, by omega, fun M h0 h1 h2 h3 h4 => ⟨h2, h3, h4⟩⟩
  · exact ⟨x, z, hx, hz, by omega, fun M h0 h1 h2 h3 h4 => ⟨h1, h3, h4⟩⟩
  · exact ⟨x, y, hx, hy, by omega, fun M h0 h1 h2 h3 h4 => ⟨h1, h2, h4⟩⟩
  · exact ⟨x, y, hx, hy, by omega, fun M h0 h1 h2 h3 h4 => ⟨h1, h2, h3⟩⟩
  · exact ⟨z, j, hz, hj, by omega, fun M h0 h1 h2 h3 h4 => ⟨h3, h4, by omega⟩⟩
  · exact ⟨x, j, hx, hj, by omega, fun M h0 h1 h2 h3 h4 => ⟨h1, h4, by omega⟩⟩
  · exact ⟨x, y, hx, hy, by omega, fun M h0 h1 h2 h3 h4 => ⟨h1, h2, by omega⟩⟩
  · exact ⟨j, j, hj, hj, by omega, fun M h0 h1 h2 h3 h4 => ⟨h4, by omega, by omega⟩⟩
  · exact ⟨x, x, hx, hx, by omega, fun M h0 h1 h2 h3 h4 => ⟨h1, by omega, by omega⟩⟩
  · exact ⟨f, f, hf, hf, by omega, fun M h0 h1 h2 h3 h4 => ⟨by omega, by omega, by omega⟩⟩
theorem W_step {e : Nat → Nat → Int} (S : Steps e) {i k j : Nat} (hi : i < 4) (hk : k < 4) (hj : j < 4) : W e i j ≤ W e i k + e k j := by
  obtain ⟨x, y, hx, hy, h⟩ := W_at e i k
  obtain ⟨x', y', hx', hy', h', _⟩ := shorter S hi hx hy hk hj
  have := W_le e i j hx' hy'
  omega
theorem W_tri {e : Nat → Nat → Int} (S : Steps e) {i k j : Nat} (hi : i < 4) (hk : k < 4) (hj : j < 4) : W e i j ≤ W e i k + W e k j := by
  obtain ⟨x, y, hx, hy, h⟩ := W_at e k j
  have h1 := W_step S hi hk hx
  have h2 := W_step S hi hx hy
  have h3 := W_step S hi hy hj
  omega
theorem W_e {e : Nat → Nat → Int} (S : Steps e) {i j : Nat} (hi : i < 4) (hj : j < 4) : W e i j ≤ e i j := by
  have := W_le e i j hi hi
  have := S.self i hi
  omega
theorem W_nonneg {e : Nat → Nat → Int} (S : Steps e) {i j : Nat} (hi : i < 4) (hj : j < 4) : 0 ≤ W e i j := by
  obtain ⟨x, y, hx, hy, h⟩ := W_at e i j
  have := S.nonneg i x hi hx
  have := S.nonneg x y hx hy
  have := S.nonneg y j hy hj
  omega
theorem W_self {e : Nat → Nat → Int} (S : Steps e) {i : Nat} (hi : i < 4) : W e i i = 0 := by
  have h1 := W_e S hi hi
  have h2 := W_nonneg S hi hi
  have := S.self i hi
  omega
/-- One of the sums' rounds: ways over k. -/
def over (k : Nat) (m : Nat → Nat → Int) (i j : Nat) : Int := min (m i j) (m i k + m k j)
structure Upto (e : Nat → Nat → Int) (k : Nat) (m : Nat → Nat → Int) : Prop where
  self : ∀ i, i < 4 → m i i = 0
  ge : ∀ i j, i < 4 → j < 4 → W e i j ≤ m i j
  le : ∀ i j, i < 4 → j < 4 → m i j ≤ e i j
  tri : ∀ i q j, i < 4 → q < k → j < 4 → m i j ≤ m i q + m q j
theorem Upto.start {e : Nat → Nat → Int} (S : Steps e) : Upto e 0 e :=
  ⟨S.self, fun _ _ hi hj => W_e S hi hj, fun _ _ _ _ => Int.le_refl _, fun _ _ _ _ h _ => by omega⟩
theorem Upto.step {e m : Nat → Nat → Int} (S : Steps e) {k : Nat} (hk : k < 4) (U : Upto e k m) : Upto e (k + 1) (over k m) := by
  have nn : ∀ i j, i < 4 → j < 4 → 0 ≤ m i j := fun i j hi hj => Int.le_trans (W_nonneg S hi hj) (U.ge i j hi hj)
  have sk := U.self k hk
  refine ⟨fun i hi => ?_, fun i j hi hj => ?_, fun i j hi hj => ?_, fun i q j hi hq hj => ?_⟩
  · have := U.self i hi
    have := nn i k hi hk
    have := nn k i hk hi
    unfold over; omega
  · have h1 := U.ge i j hi hj
    have h2 := U.ge i k hi hk
    have h3 := U.ge k j hk hj
    have h4 := W_tri S hi hk hj
    unfold over; omega
  · have := U.le i j hi hj
    unfold over; omega
  · have a1 := nn i k hi hk
    have a2 := nn k j hk hj
    by_cases h : q = k
    · subst h
      unfold over
      omega
    · have hq' : q < k := by omega
      have b1 := nn k q hk (by omega)
      have b2 := nn q k (by omega) hk
      have t1 := U.tri i q j hi hq' hj
      have t2 := U.tri k q j hk hq' hj
      have t3 := U.tri i q k hi hq' hk
      unfold over
      omega
theorem Upto.done {e m : Nat → Nat → Int} (U : Upto e 4 m) {i j : Nat} (hi : i < 4) (hj : j < 4) : m i j = W e i j := by
  have h1 := U.ge i j hi hj
  obtain ⟨x, y, hx, hy, h⟩ := W_at e i j
  have t1 := U.tri i x j hi hx hj
  have t2 := U.tri x y j hx hy hj
  have l1 := U.le i x hi hx
  have l2 := U.le x y hx hy
  have l3 := U.le y j hy hj
  omega
/-! ### The document's least costs from one router: rounds of relaxing -/
def far : Int := 262144
/-- What a link costs: nothing from one to itself, far if there is none. -/
def eOf (c : Nat → Nat → Int) (i j : Nat) : Int := if i = j then 0 else if c i j = 0 then far else c i j
structure CostOk (c : Nat → Nat → Int) : Prop where
  range : ∀ i j, i < 4 → j < 4 → 0 ≤ c i j ∧ c i j ≤ 65535
  diag : ∀ i, i < 4 → c i i = 0
theorem CostOk.steps {c : Nat → Nat → Int} (C : CostOk c) : Steps (eOf c) := by
  refine ⟨fun i _ => by unfold eOf; rw [if_pos rfl], fun i j hi hj => ?_⟩
  have := C.range i j hi hj
  unfold eOf far
  split
  · omega
  · split <;> omega
theorem eOf_small {c : Nat → Nat → Int} (C : CostOk c) {i j : Nat} (hi : i < 4) (hj : j < 4) (h : eOf c i j < far) : eOf c i j ≤ 65535 := by
  have := C.range i j hi hj
  unfold eOf far at *
  split at h
  · rename_i h1; rw [if_pos h1]; omega
  · rename_i h1; rw [if_neg h1]
    split at h
    · omega
    · rename_i h2; rw [if_neg h2]; omega
theorem eOf_pos {c : Nat → Nat → Int} {i j : Nat} (h : eOf c i j < far) (hne : i ≠ j) : c i j ≠ 0 ∧ eOf c i j = c i j := by
  unfold eOf at *
  rw [if_neg hne] at h ⊢
  by_cases h0 : c i j = 0
  · rw [if_pos h0] at h; omega
  · exact ⟨h0, by rw [if_neg h0]⟩
theorem eOf_c {c : Nat → Nat → Int} (C : CostOk c) {i j : Nat} (hi : i < 4) (h : 0 < c i j) : eOf c i j = c i j ∧ i ≠ j := by
  have hne : i ≠ j := by rintro rfl; have := C.diag i hi; omega
  exact ⟨by unfold eOf; rw [if_neg hne, if_neg (by omega)], hne⟩
/-- A link behind a way that isn't far is not far. -/
theorem W_near {c : Nat → Nat → Int} (C : CostOk c) {f i j : Nat} (hf : f < 4) (hi : i < 4) (hj : j < 4) (h : W (eOf c) f i < far) (hc : 0 < c i j) : W (eOf c) f j < far := by
  have S := C.steps
  obtain ⟨x, y, hx, hy, hw⟩ := W_at (eOf c) f i
  have n1 := S.nonneg f x hf hx
  have n2 := S.nonneg x y hx hy
  have n3 := S.nonneg y i hy hi
  have s1 := eOf_small C hf hx (by omega)
  have s2 := eOf_small C hx hy (by omega)
  have s3 := eOf_small C hy hi (by omega)
  have s4 : eOf c i j ≤ 65535 := by rw [(eOf_c C hi hc).1]; exact (C.range i j hi hj).2
  obtain ⟨x', y', hx', hy', _, hM⟩ := shorter S hf hx hy hi hj
  obtain ⟨m1, m2, m3⟩ := hM 65535 (by decide) s1 s2 s3 s4
  have := W_le (eOf c) f j hx' hy'
  unfold far
  omega
def upd (d : Nat → Int) (j : Nat) (v : Int) : Nat → Int := fun q => if q = j then v else d q
/-- One step of relaxing. -/
def rlx (c : Nat → Nat → Int) (d : Nat → Int) (i j : Nat) : Nat → Int :=
  if 0 ≤ d i ∧ 0 < c i j ∧ (d j < 0 ∨ d i + c i j < d j) then upd d j (d i + c i j) else d
structure Good (c : Nat → Nat → Int) (f : Nat) (d : Nat → Int) : Prop where
  ge : ∀ j, j < 4 → 0 ≤ d j → W (eOf c) f j ≤ d j ∧ W (eOf c) f j < far
theorem Good.rlx {c : Nat → Nat → Int} (C : CostOk c) {f : Nat} (hf : f < 4) {d : Nat → Int} (G : Good c f d) {i j : Nat} (hi : i < 4) (hj : j < 4) : Good c f (rlx c d i j) := by
  unfold L21.rlx
  by_cases h : 0 ≤ d i ∧ 0 < c i j ∧ (d j < 0 ∨ d i + c i j < d j)
  · rw [if_pos h]
    refine ⟨fun q hq h0 => ?_⟩
    unfold upd at h0 ⊢
    by_cases e : q = j
    · subst e
      rw [if_pos rfl]
      obtain ⟨g1, g2⟩ := G.ge i hi h.1
      have h2 := W_step C.steps hf hi hq
      rw [(eOf_c C hi h.2.1).1] at h2
      exact ⟨by omega, W_near C hf hi hq g2 h.2.1⟩
    · rw [if_neg e] at h0 ⊢; exact G.ge q hq h0
  · rw [if_neg h]; exact G
/-- What is held stays held. -/
theorem rlx_keeps {c : Nat → Nat → Int} {d : Nat → Int} {i j q : Nat} {b : Int} (h : 0 ≤ d q ∧ d q ≤ b) : 0 ≤ rlx c d i j q ∧ rlx c d i j q ≤ b := by
  unfold rlx
  by_cases hc : 0 ≤ d i ∧ 0 < c i j ∧ (d j < 0 ∨ d i + c i j < d j)
  · rw [if_pos hc]; unfold upd
    by_cases e : q = j
    · subst e; rw [if_pos rfl]; omega
    · rw [if_neg e]; exact h
  · rw [if_neg hc]; exact h
theorem rlx_takes {c : Nat → Nat → Int} {d : Nat → Int} {i j : Nat} {b : Int} (h : 0 ≤ d i ∧ d i ≤ b) (hc : 0 < c i j) : 0 ≤ rlx c d i j j ∧ rlx c d i j j ≤ b + c i j := by
  unfold rlx
  by_cases h' : 0 ≤ d i ∧ 0 < c i j ∧ (d j < 0 ∨ d i + c i j < d j)
  · rw [if_pos h']; unfold upd; rw [if_pos rfl]; omega
  · rw [if_neg h']; omega
/-- The pairs that a round goes through, in its order: the n-th is (n / 4, n % 4). -/
def rl (c : Nat → Nat → Int) (d : Nat → Int) : Nat → (Nat → Int)
  | 0 => d
  | n + 1 => rlx c (rl c d n) (n / 4 % 4) (n % 4)
def V (e : Nat → Nat → Int) (f : Nat) : Nat → Nat → Int
  | 0, j => if j = f then 0 else far
  | r + 1, j => m4 fun i => V e f r i + e i j
theorem V_nonneg {e : Nat → Nat → Int} (S : Steps e) {f : Nat} : ∀ r j, j < 4 → 0 ≤ V e f r j
  | 0, j, _ => by unfold V far; split <;> omega
  | r + 1, j, hj => m4_ge _ fun i hi => by have := V_nonneg S (f := f) r i hi; have := S.nonneg i j hi hj; omega
theorem rl_good {c : Nat → Nat → Int} (C : CostOk c) {f : Nat} (hf : f < 4) {d : Nat → Int} (G : Good c f d) : ∀ n, Good c f (rl c d n)
  | 0 => G
  | n + 1 => (rl_good C hf G n).rlx C hf (by omega) (by omega)
theorem rl_add (c : Nat → Nat → Int) (d : Nat → Int) (m : Nat) (hm : m % 16 = 0) : ∀ n, rl c d (m + n) = rl c (rl c d m) n
  | 0 => rfl
  | n + 1 => by
    show rlx c (rl c d (m + n)) ((m + n) / 4 % 4) ((m + n) % 4) = rlx c (rl c (rl c d m) n) (n / 4 % 4) (n % 4)
    rw [rl_add c d m hm n, show (m + n) / 4 % 4 = n / 4 % 4 by omega, show (m + n) % 4 = n % 4 by omega]
theorem rl_keeps {c : Nat → Nat → Int} {d : Nat → Int} {q : Nat} {b : Int} (h : 0 ≤ d q ∧ d q ≤ b) : ∀ n, 0 ≤ rl c d n q ∧ rl c d n q ≤ b
  | 0 => h
  | n + 1 => rlx_keeps (rl_keeps h n)
theorem rl_upto {c : Nat → Nat → Int} {d : Nat → Int} {q : Nat} {b : Int} {m : Nat} (h : 0 ≤ rl c d m q ∧ rl c d m q ≤ b) : ∀ n, 0 ≤ rl c d (m + n) q ∧ rl c d (m + n) q ≤ b
  | 0 => h
  | n + 1 => rlx_keeps (rl_upto h n)
theorem rl_round {c : Nat → Nat → Int} (C : CostOk c) {f r : Nat} {d : Nat → Int} (h : ∀ j, j < 4 → V (eOf c) f r j < far → 0 ≤ d j ∧ d j ≤ V (eOf c) f r j) :
    ∀ j, j < 4 → V (eOf c) f (r + 1) j < far → 0 ≤ rl c d 16 j ∧ rl c d 16 j ≤ V (eOf c) f (r + 1) j := by
  intro j hj hv
  have S := C.steps
  obtain ⟨i, hi, e⟩ := m4_at fun i => V (eOf c) f r i + eOf c i j
  have e' : V (eOf c) f (r + 1) j = V (eOf c) f r i + eOf c i j := e
  rw [e'] at hv ⊢
  have n1 := V_nonneg S (f := f) r i hi
  have n2 := S.nonneg i j hi hj
  have hd := h i hi (by omega)
  by_cases hij : i = j
  · subst hij
    have := S.self i hi
    exact rl_keeps ⟨hd.1, by omega⟩ 16
  · obtain ⟨c1, c2⟩ := eOf_pos (c := c) (i := i) (j := j) (by omega) hij
    have c3 := C.range i j hi hj
    have hk := rl_keeps (c := c) (d := d) (q := i) hd (4 * i + j)
    have ht := rlx_takes (c := c) (j := j) hk (by omega)
    have hs : rl c d (4 * i + j + 1) = rlx c (rl c d (4 * i + j)) i j := by
      show rlx c (rl c d (4 * i + j)) ((4 * i + j) / 4 % 4) ((4 * i + j) % 4) = _
      rw [show (4 * i + j) / 4 % 4 = i by omega, show (4 * i + j) % 4 = j by omega]
    rw [← hs] at ht
    have := rl_upto ht (16 - (4 * i + j + 1))
    rw [show 4 * i + j + 1 + (16 - (4 * i + j + 1)) = 16 by omega] at this
    rw [c2]; exact this
/-- What the rounds come to. -/
theorem rl_done {c : Nat → Nat → Int} (C : CostOk c) {f : Nat} (hf : f < 4) {d : Nat → Int} (hd : d f = 0) (hn : ∀ j, j ≠ f → d j = -1) {j : Nat} (hj : j < 4) :
    (W (eOf c) f j < far → rl c d 64 j = W (eOf c) f j) ∧ (far ≤ W (eOf c) f j → rl c d 64 j < 0) := by
  have S := C.steps
  have G : Good c f d := ⟨fun q hq h0 => by
    by_cases e : q = f
    · subst e; have := W_self S hq; unfold far; omega
    · have := hn q e; omega⟩
  have G4 := rl_good C hf G 64
  have u0 : ∀ j, j < 4 → V (eOf c) f 0 j < far → 0 ≤ d j ∧ d j ≤ V (eOf c) f 0 j := by
    intro q hq hv
    unfold V at hv ⊢
    by_cases e : q = f
    · subst e; rw [if_pos rfl]; omega
    · rw [if_neg e] at hv; omega
  have e1 := rl_add c d 16 rfl 16
  have e2 := rl_add c d 32 rfl 16
  have e3 := rl_add c d 48 rfl 16
  have u1 := rl_round C u0
  have u2 := rl_round C u1
  have u3 := rl_round C u2
  have u4 := rl_round C u3
  rw [← e1] at u2 u3 u4
  rw [← e2] at u3 u4
  rw [← e3] at u4
  replace u4 : ∀ j, j < 4 → V (eOf c) f 4 j < far → 0 ≤ rl c d 64 j ∧ rl c d 64 j ≤ V (eOf c) f 4 j := u4
  refine ⟨fun hw => ?_, fun hw => ?_⟩
  · obtain ⟨x, y, hx, hy, h⟩ := W_at (eOf c) f j
    have v0 : V (eOf c) f 0 f = 0 := by unfold V; rw [if_pos rfl]
    have v1 : V (eOf c) f 1 x ≤ V (eOf c) f 0 f + eOf c f x := m4_le (fun i => V (eOf c) f 0 i + eOf c i x) hf
    have v2 : V (eOf c) f 2 y ≤ V (eOf c) f 1 x + eOf c x y := m4_le (fun i => V (eOf c) f 1 i + eOf c i y) hx
    have v3 : V (eOf c) f 3 j ≤ V (eOf c) f 2 y + eOf c y j := m4_le (fun i => V (eOf c) f 2 i + eOf c i j) hy
    have v4 : V (eOf c) f 4 j ≤ V (eOf c) f 3 j + eOf c j j := m4_le (fun i => V (eOf c) f 3 i + eOf c i j) hj
    have sj := S.self j hj
    have u := u4 j hj (by omega)
    have g := (G4.ge j hj u.1).1
    omega
  · by_cases h0 : 0 ≤ rl c d 64 j
    · have := (G4.ge j hj h0).2; omega
    · omega
abbrev Mat := Nat → Nat → Int
/-- Sixteen cells as_ a matrix. -/
def mk (c0 c1 c2 c3 c4 c5 c6 c7 c8 c9 c10 c11 c12 c13 c14 c15 : Int) : Mat := fun i j => match i, j with
  | 0, 0 => c0 | 0, 1 => c1 | 0, 2 => c2 | 0, 3 => c3
  | 1, 0 => c4 | 1, 1 => c5 | 1, 2 => c6 | 1, 3 => c7
  | 2, 0 => c8 | 2, 1 => c9 | 2, 2 => c10 | 2, 3 => c11
  | 3, 0 => c12 | 3, 1 => c13 | 3, 2 => c14 | 3, 3 => c15
  | _, _ => 0
theorem four {P : Nat → Prop} (h0 : P 0) (h1 : P 1) (h2 : P 2) (h3 : P 3) : ∀ i, i < 4 → P i := by
  intro i hi
  obtain rfl | rfl | rfl | rfl : i = 0 ∨ i = 1 ∨ i = 2 ∨ i = 3 := by omega
  all_goals assumption
/-! #### a matrix read and written -/
theorem sel_at (m : Mat) {a b : Nat} (ha : a < 4) (hb : b < 4) :
    ix4 (ix4 (m 0 0) (m 0 1) (m 0 2) (m 0 3) (b : Int)) (ix4 (m 1 0) (m 1 1) (m 1 2) (m 1 3) (b : Int)) (ix4 (m 2 0) (m 2 1) (m 2 2) (m 2 3) (b : Int)) (ix4 (m 3 0) (m 3 1) (m 3 2) (m 3 3) (b : Int)) (a : Int) = m a b := by
  obtain rfl | rfl | rfl | rfl : a = 0 ∨ a = 1 ∨ a = 2 ∨ a = 3 := by omega
  all_goals (obtain rfl | rfl | rfl | rfl : b = 0 ∨ b = 1 ∨ b = 2 ∨ b = 3 := by omega)
  all_goals rfl
theorem row_at (r : Nat → Int) {b : Nat} (hb : b < 4) : ix4 (r 0) (r 1) (r 2) (r 3) (b : Int) = r b := by
  obtain rfl | rfl | rfl | rfl : b = 0 ∨ b = 1 ∨ b = 2 ∨ b = 3 := by omega
  all_goals rfl
def upd2 (m : Mat) (a b : Nat) (v : Int) : Mat := fun i j => if i = a ∧ j = b then v else m i j
theorem up_at (m : Mat) (a b : Nat) (v : Int) (i j : Nat) : up (((a : Nat) : Int) == ((i : Nat) : Int) && ((b : Nat) : Int) == ((j : Nat) : Int)) v (m i j) = upd2 m a b v i j := by
  unfold up upd2
  by_cases h : i = a ∧ j = b
  · obtain ⟨rfl, rfl⟩ := h; simp
  · rw [if_neg h, if_neg]
    simp only [Bool.and_eq_true, beq_iff_eq, not_and]
    intro e1 e2; exact h ⟨by omega, by omega⟩
theorem ups (m : Mat) (a b : Nat) (v : Int) :
    up (((a : Nat) : Int) == 0 && ((b : Nat) : Int) == 0) v (m 0 0) = upd2 m a b v 0 0 ∧ up (((a : Nat) : Int) == 0 && ((b : Nat) : Int) == 1) v (m 0 1) = upd2 m a b v 0 1 ∧
    up (((a : Nat) : Int) == 0 && ((b : Nat) : Int) == 2) v (m 0 2) = upd2 m a b v 0 2 ∧ up (((a : Nat) : Int) == 0 && ((b : Nat) : Int) == 3) v (m 0 3) = upd2 m a b v 0 3 ∧
    up (((a : Nat) : Int) == 1 && ((b : Nat) : Int) == 0) v (m 1 0) = upd2 m a b v 1 0 ∧ up (((a : Nat) : Int) == 1 && ((b : Nat) : Int) == 1) v (m 1 1) = upd2 m a b v 1 1 ∧
    up (((a : Nat) : Int) == 1 && ((b : Nat) : Int) == 2) v (m 1 2) = upd2 m a b v 1 2 ∧ up (((a : Nat) : Int) == 1 && ((b : Nat) : Int) == 3) v (m 1 3) = upd2 m a b v 1 3 ∧
    up (((a : Nat) : Int) == 2 && ((b : Nat) : Int) == 0) v (m 2 0) = upd2 m a b v 2 0 ∧ up (((a : Nat) : Int) == 2 && ((b : Nat) : Int) == 1) v (m 2 1) = upd2 m a b v 2 1 ∧
    up (((a : Nat) : Int) == 2 && ((b : Nat) : Int) == 2) v (m 2 2) = upd2 m a b v 2 2 ∧ up (((a : Nat) : Int) == 2 && ((b : Nat) : Int) == 3) v (m 2 3) = upd2 m a b v 2 3 ∧
    up (((a : Nat) : Int) == 3 && ((b : Nat) : Int) == 0) v (m 3 0) = upd2 m a b v 3 0 ∧ up (((a : Nat) : Int) == 3 && ((b : Nat) : Int) == 1) v (m 3 1) = upd2 m a b v 3 1 ∧
    up (((a : Nat) : Int) == 3 && ((b : Nat) : Int) == 2) v (m 3 2) = upd2 m a b v 3 2 ∧ up (((a : Nat) : Int) == 3 && ((b : Nat) : Int) == 3) v (m 3 3) = upd2 m a b v 3 3 :=
  ⟨up_at m a b v 0 0, up_at m a b v 0 1, up_at m a b v 0 2, up_at m a b v 0 3, up_at m a b v 1 0, up_at m a b v 1 1, up_at m a b v 1 2, up_at m a b v 1 3,
   up_at m a b v 2 0, up_at m a b v 2 1, up_at m a b v 2 2, up_at m a b v 2 3, up_at m a b v 3 0, up_at m a b v 3 1, up_at m a b v 3 2, up_at m a b v 3 3⟩
theorem next4 {b : Nat} (h : b < 4) : wrap64 ((b : Int) + 1) = ((b + 1 : Nat) : Int) := by unfold wrap64; omega
/-! #### may these costs be -/
def cellOk (a b c : Int) : Bool := decide (0 ≤ c) && decide (c ≤ 65535) && (decide (a ≠ b) || decide (c = 0))
def rowOk (a r0 r1 r2 r3 : Int) : Bool := cellOk a 0 r0 && (cellOk a 1 r1 && (cellOk a 2 r2 && cellOk a 3 r3))
def okC (c0 c1 c2 c3 c4 c5 c6 c7 c8 c9 c10 c11 c12 c13 c14 c15 : Int) : Bool := rowOk 0 c0 c1 c2 c3 && (rowOk 1 c4 c5 c6 c7 && (rowOk 2 c8 c9 c10 c11 && rowOk 3 c12 c13 c14 c15))
def okM (m : Mat) : Bool := okC (m 0 0) (m 0 1) (m 0 2) (m 0 3) (m 1 0) (m 1 1) (m 1 2) (m 1 3) (m 2 0) (m 2 1) (m 2 2) (m 2 3) (m 3 0) (m 3 1) (m 3 2) (m 3 3)
theorem May_step (k : Nat) {a b r0 r1 r2 r3 c0 c1 c2 c3 c4 c5 c6 c7 c8 c9 c10 c11 c12 c13 c14 c15 : Int} (h0 : 0 ≤ b) (h4 : b < 4) :
    graph_May.l1 (k + 1) a a b c0 c1 c2 c3 c4 c5 c6 c7 c8 c9 c10 c11 c12 c13 c14 c15 r0 r1 r2 r3 = if cellOk a b (ix4 r0 r1 r2 r3 b) = true then graph_May.l1 k a a (wrap64 (b + 1)) c0 c1 c2 c3 c4 c5 c6 c7 c8 c9 c10 c11 c12 c13 c14 c15 r0 r1 r2 r3 else some false := by
  simp only [graph_May.l1]
  rw [if_pos h4, if_pos h0]
  generalize ix4 r0 r1 r2 r3 b = x
  unfold cellOk
  by_cases h1 : x < 0
  · rw [if_pos h1, if_neg (by simp; omega)]
  · rw [if_neg h1]
    by_cases h2 : x > 65535
    · rw [if_pos h2, if_neg (by simp; omega)]
    · rw [if_neg h2]
      by_cases h3 : a = b
      · rw [if_pos h3]
        by_cases h5 : x = 0
        · rw [if_pos h5, if_pos (by simp; omega)]
        · rw [if_neg h5, if_neg (by simp; omega)]
      · rw [if_neg h3, if_pos (by simp; omega)]
theorem May_row (k : Nat) {a r0 r1 r2 r3 c0 c1 c2 c3 c4 c5 c6 c7 c8 c9 c10 c11 c12 c13 c14 c15 : Int} :
    graph_May.l1 (k + 5) a a 0 c0 c1 c2 c3 c4 c5 c6 c7 c8 c9 c10 c11 c12 c13 c14 c15 r0 r1 r2 r3 = if rowOk a r0 r1 r2 r3 = true then graph_May.l0 k (wrap64 (a + 1)) c0 c1 c2 c3 c4 c5 c6 c7 c8 c9 c10 c11 c12 c13 c14 c15 else some false := by
  rw [May_step (k + 4) (by decide) (by decide), show wrap64 (0 + 1) = 1 by decide +kernel, show ix4 r0 r1 r2 r3 0 = r0 from rfl,
    May_step (k + 3) (by decide) (by decide), show wrap64 (1 + 1) = 2 by decide +kernel, show ix4 r0 r1 r2 r3 1 = r1 from rfl,
    May_step (k + 2) (by decide) (by decide), show wrap64 (2 + 1) = 3 by decide +kernel, show ix4 r0 r1 r2 r3 2 = r2 from rfl,
    May_step (k + 1) (by decide) (by decide), show wrap64 (3 + 1) = 4 by decide +kernel, show ix4 r0 r1 r2 r3 3 = r3 from rfl]
  simp only [graph_May.l1]
  rw [if_neg (show ¬ ((4 : Int) < 4) by decide)]
  unfold rowOk
  cases cellOk a 0 r0 <;> cases cellOk a 1 r1 <;> cases cellOk a 2 r2 <;> cases cellOk a 3 r3 <;> simp
theorem May_f (k : Nat) (c0 c1 c2 c3 c4 c5 c6 c7 c8 c9 c10 c11 c12 c13 c14 c15 : Int) : graph_May.f (k + 25) c0 c1 c2 c3 c4 c5 c6 c7 c8 c9 c10 c11 c12 c13 c14 c15 = some (okC c0 c1 c2 c3 c4 c5 c6 c7 c8 c9 c10 c11 c12 c13 c14 c15) := by
  unfold graph_May.f
  have s (k : Nat) (x : Int) (h0 : 0 ≤ x) (h4 : x < 4) : graph_May.l0 (k + 1) x c0 c1 c2 c3 c4 c5 c6 c7 c8 c9 c10 c11 c12 c13 c14 c15 = graph_May.l1 k x x 0 c0 c1 c2 c3 c4 c5 c6 c7 c8 c9 c10 c11 c12 c13 c14 c15 (ix4 c0 c4 c8 c12 x) (ix4 c1 c5 c9 c13 x) (ix4 c2 c6 c10 c14 x) (ix4 c3 c7 c11 c15 x) := by
    simp only [graph_May.l0]; rw [if_pos h4, if_pos h0]
  rw [s (k + 24) 0 (by decide) (by decide), May_row (k + 19), show wrap64 (0 + 1) = 1 by decide +kernel, s (k + 18) 1 (by decide) (by decide), May_row (k + 13), show wrap64 (1 + 1) = 2 by decide +kernel,
    s (k + 12) 2 (by decide) (by decide), May_row (k + 7), show wrap64 (2 + 1) = 3 by decide +kernel, s (k + 6) 3 (by decide) (by decide), May_row (k + 1), show wrap64 (3 + 1) = 4 by decide +kernel]
  simp only [graph_May.l0]
  rw [if_neg (show ¬ ((4 : Int) < 4) by decide)]
  unfold okC
  show (if rowOk 0 c0 c1 c2 c3 = true then (if rowOk 1 c4 c5 c6 c7 = true then (if rowOk 2 c8 c9 c10 c11 = true then (if rowOk 3 c12 c13 c14 c15 = true then some true else some false) else some false) else some false) else some false) = _
  cases rowOk 0 c0 c1 c2 c3 <;> cases rowOk 1 c4 c5 c6 c7 <;> cases rowOk 2 c8 c9 c10 c11 <;> cases rowOk 3 c12 c13 c14 c15 <;> simp
theorem cellOk_iff {a b c : Int} : cellOk a b c = true ↔ (0 ≤ c ∧ c ≤ 65535 ∧ (a = b → c = 0)) := by
  unfold cellOk
  simp only [Bool.and_eq_true, Bool.or_eq_true, decide_eq_true_eq]
  constructor
  · rintro ⟨⟨h1, h2⟩, h3⟩; exact ⟨h1, h2, fun e => h3.resolve_left (fun h => h e)⟩
  · rintro ⟨h1, h2, h3⟩; refine ⟨⟨h1, h2⟩, ?_⟩
    by_cases e : a = b
    · exact .inr (h3 e)
    · exact .inl e
theorem okM_iff (m : Mat) : okM m = true ↔ CostOk m := by
  unfold okM okC rowOk
  simp only [Bool.and_eq_true]
  constructor
  · rintro ⟨⟨a, b, d, e⟩, ⟨f, g, h, i⟩, ⟨j, k, l, n⟩, o, p, q, s⟩
    rw [cellOk_iff] at a b d e f g h i j k l n o p q s
    exact ⟨fun i' j' hi hj => four (P := fun i => 0 ≤ m i j' ∧ m i j' ≤ 65535) (four (P := fun j => 0 ≤ m 0 j ∧ m 0 j ≤ 65535) ⟨a.1, a.2.1⟩ ⟨b.1, b.2.1⟩ ⟨d.1, d.2.1⟩ ⟨e.1, e.2.1⟩ j' hj) (four (P := fun j => 0 ≤ m 1 j ∧ m 1 j ≤ 65535) ⟨f.1, f.2.1⟩ ⟨g.1, g.2.1⟩ ⟨h.1, h.2.1⟩ ⟨i.1, i.2.1⟩ j' hj)
      (four (P := fun j => 0 ≤ m 2 j ∧ m 2 j ≤ 65535) ⟨j.1, j.2.1⟩ ⟨k.1, k.2.1⟩ ⟨l.1, l.2.1⟩ ⟨n.1, n.2.1⟩ j' hj) (four (P := fun j => 0 ≤ m 3 j ∧ m 3 j ≤ 65535) ⟨o.1, o.2.1⟩ ⟨p.1, p.2.1⟩ ⟨q.1, q.2.1⟩ ⟨s.1, s.2.1⟩ j' hj) i' hi,
      four (P := fun i => m i i = 0) (a.2.2 rfl) (g.2.2 rfl) (l.2.2 rfl) (s.2.2 rfl)⟩
  · rintro ⟨r, d⟩
    have z (i j : Nat) (hi : i < 4) (hj : j < 4) (a b : Int) (hab : a = (i : Int)) (hb : b = (j : Int)) : cellOk a b (m i j) = true :=
      cellOk_iff.2 ⟨(r i j hi hj).1, (r i j hi hj).2, fun e => (show i = j by omega) ▸ d i hi⟩
    exact ⟨⟨z 0 0 (by decide) (by decide) _ _ rfl rfl, z 0 1 (by decide) (by decide) _ _ rfl rfl, z 0 2 (by decide) (by decide) _ _ rfl rfl, z 0 3 (by decide) (by decide) _ _ rfl rfl⟩,
      ⟨z 1 0 (by decide) (by decide) _ _ rfl rfl, z 1 1 (by decide) (by decide) _ _ rfl rfl, z 1 2 (by decide) (by decide) _ _ rfl rfl, z 1 3 (by decide) (by decide) _ _ rfl rfl⟩,
      ⟨z 2 0 (by decide) (by decide) _ _ rfl rfl, z 2 1 (by decide) (by decide) _ _ rfl rfl, z 2 2 (by decide) (by decide) _ _ rfl rfl, z 2 3 (by decide) (by decide) _ _ rfl rfl⟩,
      z 3 0 (by decide) (by decide) _ _ rfl rfl, z 3 1 (by decide) (by decide) _ _ rfl rfl, z 3 2 (by decide) (by decide) _ _ rfl rfl, z 3 3 (by decide) (by decide) _ _ rfl rfl⟩
/-- The only link, if it costs what none may, spoils all. -/
theorem May_bad (k : Nat) {r c : Nat} (hr : r < 4) (hc : c < 4) {v : Int} (hv : v < 0 ∨ 65535 < v) : okM (upd2 (fun _ _ => 0) r c v) = false := by
  rw [Bool.eq_false_iff]
  intro h
  have h1 := ((okM_iff _).1 h).range r c hr hc
  unfold upd2 at h1
  rw [if_pos ⟨rfl, rfl⟩] at h1
  omega
/-! #### the sums -/
abbrev R16 := Int × Int × Int × Int × Int × Int × Int × Int × Int × Int × Int × Int × Int × Int × Int × Int
def tup (m : Mat) : R16 := (m 0 0, m 0 1, m 0 2, m 0 3, m 1 0, m 1 1, m 1 2, m 1 3, m 2 0, m 2 1, m 2 2, m 2 3, m 3 0, m 3 1, m 3 2, m 3 3)
theorem tup_congr {m m' : Mat} (h : ∀ i j, i < 4 → j < 4 → m i j = m' i j) : tup m = tup m' := by
  unfold tup
  simp only [h 0 0 (by decide) (by decide), h 0 1 (by decide) (by decide), h 0 2 (by decide) (by decide), h 0 3 (by decide) (by decide),
    h 1 0 (by decide) (by decide), h 1 1 (by decide) (by decide), h 1 2 (by decide) (by decide), h 1 3 (by decide) (by decide),
    h 2 0 (by decide) (by decide), h 2 1 (by decide) (by decide), h 2 2 (by decide) (by decide), h 2 3 (by decide) (by decide),
    h 3 0 (by decide) (by decide), h 3 1 (by decide) (by decide), h 3 2 (by decide) (by decide), h 3 3 (by decide) (by decide)]
def L0 (k a : Nat) (m o : Mat) := paths_sums.l0 k (a : Int) (m 0 0) (m 0 1) (m 0 2) (m 0 3) (m 1 0) (m 1 1) (m 1 2) (m 1 3) (m 2 0) (m 2 1) (m 2 2) (m 2 3) (m 3 0) (m 3 1) (m 3 2) (m 3 3) (o 0 0) (o 0 1) (o 0 2) (o 0 3) (o 1 0) (o 1 1) (o 1 2) (o 1 3) (o 2 0) (o 2 1) (o 2 2) (o 2 3) (o 3 0) (o 3 1) (o 3 2) (o 3 3)
def L1 (k a b : Nat) (m o : Mat) := paths_sums.l1 k (a : Int) (a : Int) (b : Int) (m 0 0) (m 0 1) (m 0 2) (m 0 3) (m 1 0) (m 1 1) (m 1 2) (m 1 3) (m 2 0) (m 2 1) (m 2 2) (m 2 3) (m 3 0) (m 3 1) (m 3 2) (m 3 3) (o 0 0) (o 0 1) (o 0 2) (o 0 3) (o 1 0) (o 1 1) (o 1 2) (o 1 3) (o 2 0) (o 2 1) (o 2 2) (o 2 3) (o 3 0) (o 3 1) (o 3 2) (o 3 3)
def L2 (k v : Nat) (o : Mat) := paths_sums.l2 k (v : Int) (o 0 0) (o 0 1) (o 0 2) (o 0 3) (o 1 0) (o 1 1) (o 1 2) (o 1 3) (o 2 0) (o 2 1) (o 2 2) (o 2 3) (o 3 0) (o 3 1) (o 3 2) (o 3 3)
def L3 (k v a : Nat) (o : Mat) := paths_sums.l3 k (v : Int) (v : Int) (a : Int) (o 0 0) (o 0 1) (o 0 2) (o 0 3) (o 1 0) (o 1 1) (o 1 2) (o 1 3) (o 2 0) (o 2 1) (o 2 2) (o 2 3) (o 3 0) (o 3 1) (o 3 2) (o 3 3)
def L4 (k v a b : Nat) (o : Mat) := paths_sums.l4 k (v : Int) (a : Int) (v : Int) (a : Int) (b : Int) (o 0 0) (o 0 1) (o 0 2) (o 0 3) (o 1 0) (o 1 1) (o 1 2) (o 1 3) (o 2 0) (o 2 1) (o 2 2) (o 2 3) (o 3 0) (o 3 1) (o 3 2) (o 3 3)
theorem step_f (c : Int) : paths_step.f c = some (if c = 0 then 262144 else c) := by
  unfold paths_step.f; split <;> rfl
theorem L1_step (k : Nat) {a b : Nat} (ha : a < 4) (hb : b < 4) (m o : Mat) :
    L1 (k + 1) a b m o = L1 k a (b + 1) m (if a = b then o else upd2 o a b (if m a b = 0 then 262144 else m a b)) := by
  unfold L1
  simp only [paths_sums.l1]
  rw [if_pos (show ((b : Int) < 4) by omega), next4 hb]
  by_cases e : a = b
  · subst e
    rw [if_pos rfl, if_pos rfl]
  · rw [if_neg (show ¬ ((a : Int) = (b : Int)) by omega), if_neg e, if_pos (show 0 ≤ (a : Int) by omega), if_pos (show (a : Int) < 4 by omega), if_pos (show 0 ≤ (b : Int) by omega), sel_at m ha hb, step_f]
    simp only [Option.bind_some]
    obtain ⟨u1, u2, u3, u4, u5, u6, u7, u8, u9, u10, u11, u12, u13, u14, u15, u16⟩ := ups o a b (if m a b = 0 then 262144 else m a b)
    rw [u1, u2, u3, u4, u5, u6, u7, u8, u9, u10, u11, u12, u13, u14, u15, u16]
theorem L1_end (k a : Nat) (ha : a < 4) (m o : Mat) : L1 (k + 1) a 4 m o = L0 k (a + 1) m o := by
  unfold L1 L0
  simp only [paths_sums.l1]
  rw [if_neg (show ¬ (((4 : Nat) : Int) < 4) by decide), next4 ha]
theorem L0_step (k a : Nat) (ha : a < 4) (m o : Mat) : L0 (k + 1) a m o = L1 k a 0 m o := by
  unfold L1 L0
  simp only [paths_sums.l0]
  rw [if_pos (show ((a : Int) < 4) by omega)]
  rfl
theorem L0_end (k : Nat) (m o : Mat) : L0 (k + 1) 4 m o = L2 k 0 o := by
  unfold L2 L0
  simp only [paths_sums.l0]
  rw [if_neg (show ¬ (((4 : Nat) : Int) < 4) by decide)]
  rfl
/-- What the first rounds have filled: all rows below a, and of row a the places below b. -/
def Fill (c : Mat) (a b : Nat) (o : Mat) : Prop := ∀ i j, i < 4 → j < 4 → o i j = if i < a ∨ (i = a ∧ j < b) then eOf c i j else 0
theorem Fill.step {c : Mat} {a b : Nat} (hb : b < 4) {o : Mat} (F : Fill c a b o) : Fill c a (b + 1) (if a = b then o else upd2 o a b (if c a b = 0 then 262144 else c a b)) := by
  intro i j hi hj
  have hF := F i j hi hj
  by_cases e : a = b
  · rw [if_pos e, hF]
    by_cases h : i = a ∧ j = b
    · obtain ⟨rfl, rfl⟩ := h
      rw [if_neg (by omega), if_pos (by omega)]; unfold eOf; rw [if_pos e]
    · by_cases h1 : i < a ∨ (i = a ∧ j < b)
      · rw [if_pos h1, if_pos (by omega)]
      · rw [if_neg h1, if_neg (by omega)]
  · rw [if_neg e]
    unfold upd2
    by_cases h : i = a ∧ j = b
    · rw [if_pos h]
      obtain ⟨rfl, rfl⟩ := h
      rw [if_pos (show i < i ∨ i = i ∧ j < j + 1 from .inr ⟨rfl, by omega⟩)]; unfold eOf far; rw [if_neg e]
    · rw [if_neg h, hF]
      by_cases h1 : i < a ∨ (i = a ∧ j < b)
      · rw [if_pos h1, if_pos (by omega)]
      · rw [if_neg h1, if_neg (by omega)]
theorem fill_row (k : Nat) {a : Nat} (ha : a < 4) (m : Mat) : ∀ d b o, b + d = 4 → Fill m a b o → ∃ o', Fill m (a + 1) 0 o' ∧ L1 (k + 1 + d) a b m o = L0 k (a + 1) m o'
  | 0, b, o, h, F => ⟨o, fun i j hi hj => by
      rw [F i j hi hj]
      by_cases h1 : i < a ∨ (i = a ∧ j < b)
      · rw [if_pos h1, if_pos (by omega)]
      · rw [if_neg h1, if_neg (by omega)], by
      obtain rfl : b = 4 := by omega
      exact L1_end k a ha m o⟩
  | d + 1, b, o, h, F => by
    obtain ⟨o', F', e⟩ := fill_row k ha m d (b + 1) _ (by omega) (F.step (by omega))
    exact ⟨o', F', (L1_step (k + 1 + d) ha (by omega) m o).trans e⟩
theorem fill_all (k : Nat) (m : Mat) : ∀ d a o, a + d = 4 → Fill m a 0 o → ∃ o', (∀ i j, i < 4 → j < 4 → o' i j = eOf m i j) ∧ L0 (k + 1 + 6 * d) a m o = L2 k 0 o'
  | 0, a, o, h, F => ⟨o, fun i j hi hj => by rw [F i j hi hj, if_pos (by omega)], by
      obtain rfl : a = 4 := by omega
      exact L0_end k m o⟩
  | d + 1, a, o, h, F => by
    obtain ⟨o1, F1, e1⟩ := fill_row (k + 1 + 6 * d) (show a < 4 by omega) m 4 0 o rfl F
    obtain ⟨o', F', e⟩ := fill_all k m d (a + 1) o1 (by omega) F1
    refine ⟨o', F', ?_⟩
    rw [show k + 1 + 6 * (d + 1) = (k + 1 + 6 * d + 1 + 4) + 1 by omega, L0_step _ a (by omega), e1, e]
/-! the rounds over each router -/
theorem L4_step (k : Nat) {v a b : Nat} (hv : v < 4) (ha : a < 4) (hb : b < 4) (o : Mat) :
    L4 (k + 1) v a b o = L4 k v a (b + 1) (upd2 o a b (mn (o a b) (wrap64 (o a v + o v b)))) := by
  unfold L4
  simp only [paths_sums.l4]
  rw [if_pos (show ((b : Int) < 4) by omega), next4 hb, if_pos (show 0 ≤ (a : Int) by omega), if_pos (show (a : Int) < 4 by omega), if_pos (show 0 ≤ (b : Int) by omega), if_pos (show 0 ≤ (v : Int) by omega), if_pos (show (v : Int) < 4 by omega), sel_at o ha hb, sel_at o ha hv, sel_at o hv hb]
  obtain ⟨u1, u2, u3, u4, u5, u6, u7, u8, u9, u10, u11, u12, u13, u14, u15, u16⟩ := ups o a b (mn (o a b) (wrap64 (o a v + o v b)))
  rw [u1, u2, u3, u4, u5, u6, u7, u8, u9, u10, u11, u12, u13, u14, u15, u16]
theorem L4_end (k : Nat) {v a : Nat} (ha : a < 4) (o : Mat) : L4 (k + 1) v a 4 o = L3 k v (a + 1) o := by
  unfold L4 L3
  simp only [paths_sums.l4]
  rw [if_neg (show ¬ (((4 : Nat) : Int) < 4) by decide), next4 ha]
theorem L3_step (k : Nat) {v a : Nat} (ha : a < 4) (o : Mat) : L3 (k + 1) v a o = L4 k v a 0 o := by
  unfold L4 L3
  simp only [paths_sums.l3]
  rw [if_pos (show ((a : Int) < 4) by omega)]
  rfl
theorem L3_end (k : Nat) {v : Nat} (hv : v < 4) (o : Mat) : L3 (k + 1) v 4 o = L2 k (v + 1) o := by
  unfold L3 L2
  simp only [paths_sums.l3]
  rw [if_neg (show ¬ (((4 : Nat) : Int) < 4) by decide), next4 hv]
theorem L2_step (k : Nat) {v : Nat} (hv : v < 4) (o : Mat) : L2 (k + 1) v o = L3 k v 0 o := by
  unfold L3 L2
  simp only [paths_sums.l2]
  rw [if_pos (show ((v : Int) < 4) by omega)]
  rfl
theorem L2_end (k : Nat) (o : Mat) : L2 (k + 1) 4 o = some (tup o) := by
  unfold L2
  simp only [paths_sums.l2]
  rw [if_neg (show ¬ (((4 : Nat) : Int) < 4) by decide)]
  rfl
theorem mn_min (x y : Int) : mn x y = min x y := by unfold mn; split <;> omega
/-- One round, in the midst: what lies ahead of (a, b) has gone over v. -/
def Mid (v : Nat) (m : Mat) (a b : Nat) (o : Mat) : Prop := ∀ i j, i < 4 → j < 4 → o i j = if i < a ∨ (i = a ∧ j < b) then over v m i j else m i j
structure Bd (v : Nat) (m : Mat) : Prop where
  self : m v v = 0
  range : ∀ i j, i < 4 → j < 4 → 0 ≤ m i j ∧ m i j ≤ 262144
theorem Mid.step {v a b : Nat} (hv : v < 4) (ha : a < 4) (hb : b < 4) {m o : Mat} (B : Bd v m) (F : Mid v m a b o) : Mid v m a (b + 1) (upd2 o a b (mn (o a b) (wrap64 (o a v + o v b)))) := by
  intro i j hi hj
  have h1 : o a b = m a b := by rw [F a b ha hb, if_neg (by omega)]
  have r1 := B.range a v ha hv
  have r2 := B.range v b hv hb
  have r3 := B.range a b ha hb
  have hs := B.self
  have h2 : o a v = m a v := by
    rw [F a v ha hv]; split
    · unfold over; rw [hs]; omega
    · rfl
  have h3 : o v b = m v b := by
    rw [F v b hv hb]; split
    · unfold over; rw [hs]; omega
    · rfl
  rw [h1, h2, h3, mn_min, show wrap64 (m a v + m v b) = m a v + m v b by unfold wrap64; omega]
  unfold upd2
  by_cases h : i = a ∧ j = b
  · rw [if_pos h, if_pos (by omega)]
    obtain ⟨rfl, rfl⟩ := h
    rfl
  · rw [if_neg h, F i j hi hj]
    by_cases h1 : i < a ∨ (i = a ∧ j < b)
    · rw [if_pos h1, if_pos (by omega)]
    · rw [if_neg h1, if_neg (by omega)]
theorem mid_row (k : Nat) {v a : Nat} (hv : v < 4) (ha : a < 4) {m : Mat} (B : Bd v m) : ∀ d b o, b + d = 4 → Mid v m a b o → ∃ o', Mid v m (a + 1) 0 o' ∧ L4 (k + 1 + d) v a b o = L3 k v (a + 1) o'
  | 0, b, o, h, F => ⟨o, fun i j hi hj => by
      rw [F i j hi hj]
      by_cases h1 : i < a ∨ (i = a ∧ j < b)
      · rw [if_pos h1, if_pos (by omega)]
      · rw [if_neg h1, if_neg (by omega)], by
      obtain rfl : b = 4 := by omega
      exact L4_end k ha o⟩
  | d + 1, b, o, h, F => by
    obtain ⟨o', F', e⟩ := mid_row k hv ha B d (b + 1) _ (by omega) (F.step hv ha (by omega) B)
    exact ⟨o', F', (L4_step (k + 1 + d) hv ha (by omega) o).trans e⟩
theorem mid_all (k : Nat) {v : Nat} (hv : v < 4) {m : Mat} (B : Bd v m) : ∀ d a o, a + d = 4 → Mid v m a 0 o → ∃ o', (∀ i j, i < 4 → j < 4 → o' i j = over v m i j) ∧ L3 (k + 1 + 6 * d) v a o = L2 k (v + 1) o'
  | 0, a, o, h, F => ⟨o, fun i j hi hj => by rw [F i j hi hj, if_pos (by omega)], by
      obtain rfl : a = 4 := by omega
      exact L3_end k hv o⟩
  | d + 1, a, o, h, F => by
    obtain ⟨o1, F1, e1⟩ := mid_row (k + 1 + 6 * d) hv (show a < 4 by omega) B 4 0 o rfl F
    obtain ⟨o', F', e⟩ := mid_all k hv B d (a + 1) o1 (by omega) F1
    refine ⟨o', F', ?_⟩
    rw [show k + 1 + 6 * (d + 1) = (k + 1 + 6 * d + 1 + 4) + 1 by omega, L3_step _ (by omega), e1, e]
theorem Upto.ext {e m m' : Mat} {v : Nat} (hv : v ≤ 4) (U : Upto e v m) (h : ∀ i j, i < 4 → j < 4 → m' i j = m i j) : Upto e v m' :=
  ⟨fun i hi => by rw [h i i hi hi]; exact U.self i hi, fun i j hi hj => by rw [h i j hi hj]; exact U.ge i j hi hj, fun i j hi hj => by rw [h i j hi hj]; exact U.le i j hi hj,
   fun i q j hi hq hj => by rw [h i j hi hj, h i q hi (by omega), h q j (by omega) hj]; exact U.tri i q j hi hq hj⟩
theorem eOf_range {c : Mat} (C : CostOk c) {i j : Nat} (hi : i < 4) (hj : j < 4) : 0 ≤ eOf c i j ∧ eOf c i j ≤ 262144 := by
  have := C.range i j hi hj
  unfold eOf far
  split
  · omega
  · split <;> omega
theorem rounds (k : Nat) {c : Mat} (C : CostOk c) : ∀ d v o, v + d = 4 → Upto (eOf c) v o → ∃ o', Upto (eOf c) 4 o' ∧ L2 (k + 1 + 26 * d) v o = some (tup o')
  | 0, v, o, h, U => ⟨o, by obtain rfl : v = 4 := by omega
                            exact U, by
      obtain rfl : v = 4 := by omega
      exact L2_end k o⟩
  | d + 1, v, o, h, U => by
    have S := C.steps
    have hv : v < 4 := by omega
    have B : Bd v o := ⟨U.self v hv, fun i j hi hj => ⟨Int.le_trans (W_nonneg S hi hj) (U.ge i j hi hj), Int.le_trans (U.le i j hi hj) (eOf_range C hi hj).2⟩⟩
    obtain ⟨o1, h1, e1⟩ := mid_all (k + 1 + 26 * d) hv B 4 0 o rfl (fun i j hi hj => by rw [if_neg (by omega)])
    have U1 := Upto.ext (by omega) (U.step S hv) h1
    obtain ⟨o', U', e'⟩ := rounds k C d (v + 1) o1 (by omega) U1
    refine ⟨o', U', ?_⟩
    rw [show k + 1 + 26 * (d + 1) = (k + 1 + 26 * d + 1 + 6 * 4) + 1 by omega, L2_step _ hv, e1, e']
/-- The least sums. -/
theorem sums_f (k : Nat) {c : Mat} (C : CostOk c) : paths_sums.f (k + 130) (c 0 0) (c 0 1) (c 0 2) (c 0 3) (c 1 0) (c 1 1) (c 1 2) (c 1 3) (c 2 0) (c 2 1) (c 2 2) (c 2 3) (c 3 0) (c 3 1) (c 3 2) (c 3 3) = some (tup (W (eOf c))) := by
  have S := C.steps
  obtain ⟨o, ho, e⟩ := fill_all (k + 105) c 4 0 (fun _ _ => 0) rfl (fun i j hi hj => by rw [if_neg (by omega)])
  have U0 := Upto.ext (by decide) (Upto.start S) ho
  obtain ⟨o', U', e'⟩ := rounds k C 4 0 o rfl U0
  unfold paths_sums.f
  show L0 (k + 105 + 1 + 6 * 4) 0 c (fun _ _ => 0) = _
  rw [e, e', tup_congr (fun i j hi hj => U'.done hi hj)]
end Go.Proofs.Ytjbejbehbjhecaa.L21
namespace Go.Proofs.Ytjbejbehbjhecaa.L21
open Go.RowKit Go.Proofs.YtjbejbehbjhecaaW.PrintWords Go.Proofs.YtjbejbehbjhecaaW.PrintMore Go.Proofs.Ytjbejbehbjhecaa.Base Go.Proofs.Ytjbejbehbjhecaa.Q21p
set_option linter.unusedVariables false
set_option linter.unusedSimpArgs false
set_option maxRecDepth 100000
abbrev ws (c : Mat) : Mat := fun i j => W (eOf c) i j
/-- Is a the first router of a least way from f to t? -/
def near (c : Mat) (f t a : Nat) : Bool := decide (0 < c f a ∧ c f a + ws c a t = ws c f t)
def sfx : Nat → List Nat
  | 0 => []
  | d + 1 => (3 - d) :: sfx d
def firsts (c : Mat) (f t d : Nat) : List Int := ((sfx d).filter (near c f t)).map (fun (a : Nat) => (a : Int) + 1)
def route (c : Mat) (f t : Nat) : Option S41 := if t = f ∨ 262144 ≤ ws c f t then none else some ⟨(t : Int) + 1, ws c f t, firsts c f t 4⟩
def routes (c : Mat) (f d : Nat) : List S41 := (sfx d).filterMap (route c f)
def R1 (k f t a : Nat) (out : List S41) (sum tt cost : Int) (fs : List Int) (c s : Mat) := paths_Routes.l1 k (f : Int) out (t : Int) sum (t : Int) (a : Int) (c 0 0) (c 0 1) (c 0 2) (c 0 3) (c 1 0) (c 1 1) (c 1 2) (c 1 3) (c 2 0) (c 2 1) (c 2 2) (c 2 3) (c 3 0) (c 3 1) (c 3 2) (c 3 3) (s 0 0) (s 0 1) (s 0 2) (s 0 3) (s 1 0) (s 1 1) (s 1 2) (s 1 3) (s 2 0) (s 2 1) (s 2 2) (s 2 3) (s 3 0) (s 3 1) (s 3 2) (s 3 3) tt cost fs (s f 0) (s f 1) (s f 2) (s f 3) (c f 0) (c f 1) (c f 2) (c f 3)
def R0 (k f t : Nat) (out : List S41) (c s : Mat) := paths_Routes.l0 k (f : Int) out (t : Int) (c 0 0) (c 0 1) (c 0 2) (c 0 3) (c 1 0) (c 1 1) (c 1 2) (c 1 3) (c 2 0) (c 2 1) (c 2 2) (c 2 3) (c 3 0) (c 3 1) (c 3 2) (c 3 3) (s 0 0) (s 0 1) (s 0 2) (s 0 3) (s 1 0) (s 1 1) (s 1 2) (s 1 3) (s 2 0) (s 2 1) (s 2 2) (s 2 3) (s 3 0) (s 3 1) (s 3 2) (s 3 3) (s f 0) (s f 1) (s f 2) (s f 3)
theorem R1_step (k : Nat) {f t a : Nat} (hf : f < 4) (ht : t < 4) (ha : a < 4) (out : List S41) (sum tt cost : Int) (fs : List Int) (hl : fs.length ≤ 4) {c s : Mat} (C : CostOk c) (hs : ∀ i j, i < 4 → j < 4 → 0 ≤ s i j ∧ s i j ≤ 262144) :
    R1 (k + 1) f t a out sum tt cost fs c s = R1 k f t (a + 1) out sum tt cost (if 0 < c f a ∧ c f a + s a t = sum then fs ++ [(a : Int) + 1] else fs) c s := by
  have r := C.range f a hf ha
  have q := hs a t ha ht
  unfold R1
  simp only [paths_Routes.l1]
  rw [if_pos (show ((a : Int) < 4) by omega), if_pos (show 0 ≤ (a : Int) by omega), next4 ha, row_at (fun j => c f j) ha]
  by_cases h : 0 < c f a
  · rw [if_pos (show c f a > 0 from h), if_pos (show 0 ≤ (t : Int) by omega), if_pos (show (t : Int) < 4 by omega), sel_at s ha ht, show wrap64 (c f a + s a t) = c f a + s a t by unfold wrap64; omega]
    by_cases h2 : c f a + s a t = sum
    · rw [if_pos h2, if_pos (show fs.length < 17592186044416 by omega), if_pos ⟨h, h2⟩]
      rfl
    · rw [if_neg h2, if_neg (fun z => h2 z.2)]
  · rw [if_neg (show ¬ c f a > 0 from h), if_neg (fun z => h z.1)]
theorem R1_end (k : Nat) {f t : Nat} (ht : t < 4) (out : List S41) (ho : out.length ≤ 4) (sum tt cost : Int) (fs : List Int) (c s : Mat) :
    R1 (k + 1) f t 4 out sum tt cost fs c s = R0 k f (t + 1) (out ++ [⟨tt, cost, fs⟩]) c s := by
  unfold R1 R0
  simp only [paths_Routes.l1]
  rw [if_neg (show ¬ (((4 : Nat) : Int) < 4) by decide), if_pos (show out.length < 3518437208883 by omega), next4 ht]
theorem R0_step (k : Nat) {f t : Nat} (hf : f < 4) (ht : t < 4) (out : List S41) (c s : Mat) :
    R0 (k + 2) f t out c s = if t = f ∨ 262144 ≤ s f t then R0 k f (t + 1) out c s else R1 k f t 0 out (s f t) ((t : Int) + 1) (s f t) [] c s := by
  have hj (b : Bool) : paths_Routes.j2 (k + 1) (f : Int) out (t : Int) (s f t) (t : Int) b (c 0 0) (c 0 1) (c 0 2) (c 0 3) (c 1 0) (c 1 1) (c 1 2) (c 1 3) (c 2 0) (c 2 1) (c 2 2) (c 2 3) (c 3 0) (c 3 1) (c 3 2) (c 3 3) (s 0 0) (s 0 1) (s 0 2) (s 0 3) (s 1 0) (s 1 1) (s 1 2) (s 1 3) (s 2 0) (s 2 1) (s 2 2) (s 2 3) (s 3 0) (s 3 1) (s 3 2) (s 3 3) (s f 0) (s f 1) (s f 2) (s f 3) = if b = true then R0 k f (t + 1) out c s else R1 k f t 0 out (s f t) ((t : Int) + 1) (s f t) [] c s := by
    simp only [paths_Routes.j2]
    rw [if_pos (show 0 ≤ (f : Int) by omega), if_pos (show (f : Int) < 4 by omega), next4 ht, row_at (fun i => c i 0) hf, row_at (fun i => c i 1) hf, row_at (fun i => c i 2) hf, row_at (fun i => c i 3) hf]
    rfl
  unfold R0
  simp only [paths_Routes.l0]
  rw [if_pos (show ((t : Int) < 4) by omega), if_pos (show 0 ≤ (t : Int) by omega), row_at (fun j => s f j) ht, hj, hj]
  by_cases h : t = f
  · rw [if_pos (show (t : Int) = (f : Int) by omega), if_pos rfl, if_pos (.inl h)]
    rfl
  · rw [if_neg (show ¬ (t : Int) = (f : Int) by omega)]
    by_cases h2 : 262144 ≤ s f t
    · rw [if_pos (by simpa using h2), if_pos (.inr h2)]
      rfl
    · rw [if_neg (by simpa using h2), if_neg (by omega)]
theorem R0_end (k f : Nat) (out : List S41) (c s : Mat) : R0 (k + 1) f 4 out c s = some (out, 0) := by
  unfold R0
  simp only [paths_Routes.l0]
  rw [if_neg (show ¬ (((4 : Nat) : Int) < 4) by decide)]
theorem ws_range {c : Mat} (C : CostOk c) {i j : Nat} (hi : i < 4) (hj : j < 4) : 0 ≤ ws c i j ∧ ws c i j ≤ 262144 :=
  ⟨W_nonneg C.steps hi hj, Int.le_trans (W_e C.steps hi hj) (eOf_range C hi hj).2⟩
theorem R1_all (k : Nat) {f t : Nat} (hf : f < 4) (ht : t < 4) (out : List S41) (ho : out.length ≤ 4) (tt cost : Int) {c : Mat} (C : CostOk c) :
    ∀ d a fs, a + d = 4 → fs.length ≤ a → R1 (k + 1 + d) f t a out (ws c f t) tt cost fs c (ws c) = R0 k f (t + 1) (out ++ [⟨tt, cost, fs ++ firsts c f t d⟩]) c (ws c)
  | 0, a, fs, h, hl => by
    obtain rfl : a = 4 := by omega
    rw [show firsts c f t 0 = [] from rfl, List.append_nil]
    exact R1_end k ht out ho _ _ _ _ _ _
  | d + 1, a, fs, h, hl => by
    have h1 := R1_step (k + 1 + d) hf ht (show a < 4 by omega) out (ws c f t) tt cost fs (by omega) C (fun i j hi hj => ws_range C hi hj)
    have hn : (if 0 < c f a ∧ c f a + ws c a t = ws c f t then fs ++ [(a : Int) + 1] else fs).length ≤ a + 1 := by
      split
      · rw [List.length_append]; show fs.length + 1 ≤ a + 1; omega
      · omega
    have h2 := R1_all k hf ht out ho tt cost C d (a + 1) (if 0 < c f a ∧ c f a + ws c a t = ws c f t then fs ++ [(a : Int) + 1] else fs) (by omega) hn
    refine (h1.trans h2).trans ?_
    congr 4
    obtain rfl : a = 3 - d := by omega
    unfold firsts
    rw [show sfx (d + 1) = (3 - d) :: sfx d from rfl, List.filter_cons]
    by_cases hn : near c f t (3 - d) = true
    · rw [if_pos hn, if_pos (of_decide_eq_true hn)]
      simp
    · rw [if_neg hn, if_neg (fun z => hn (decide_eq_true z))]
theorem routes_len (c : Mat) (f d : Nat) : (routes c f d).length ≤ d := by
  unfold routes
  refine Nat.le_trans (List.length_filterMap_le _ _) ?_
  induction d with
  | zero => exact Nat.le_refl _
  | succ d ih => show (sfx d).length + 1 ≤ d + 1; omega
theorem R0_all {f : Nat} (hf : f < 4) {c : Mat} (C : CostOk c) : ∀ d t out k, t + d = 4 → out.length ≤ t → 1 + 7 * d ≤ k → R0 k f t out c (ws c) = some (out ++ routes c f d, 0)
  | 0, t, out, k, h, ho, hk => by
    obtain rfl : t = 4 := by omega
    obtain ⟨k, rfl⟩ : ∃ q, k = q + 1 := ⟨k - 1, by omega⟩
    rw [show routes c f 0 = [] from rfl, List.append_nil]
    exact R0_end k f out c _
  | d + 1, t, out, k, h, ho, hk => by
    obtain ⟨k, rfl⟩ : ∃ q, k = q + 7 := ⟨k - 7, by omega⟩
    have ht : t < 4 := by omega
    have h1 := R0_step (k + 5) hf ht out c (ws c)
    have hr : routes c f (d + 1) = match route c f t with | none => routes c f d | some x => x :: routes c f d := by
      obtain rfl : t = 3 - d := by omega
      unfold routes
      rw [show sfx (d + 1) = (3 - d) :: sfx d from rfl, List.filterMap_cons]
      cases route c f (3 - d) <;> rfl
    rw [show k + 7 = k + 5 + 2 from rfl, h1, hr]
    unfold route
    by_cases hb : t = f ∨ 262144 ≤ ws c f t
    · rw [if_pos hb, if_pos hb]
      exact R0_all hf C d (t + 1) out (k + 5) (by omega) (by omega) (by omega)
    · rw [if_neg hb, if_neg hb]
      have h2 := R1_all k hf ht out (by omega) ((t : Int) + 1) (ws c f t) C 4 0 [] rfl (by simp)
      rw [show k + 5 = k + 1 + 4 from rfl, h2, List.nil_append, R0_all hf C d (t + 1) _ k (by omega) (by simp; omega) (by omega), List.append_assoc]
      rfl
/-- What Routes answers. -/
def ans (c : Mat) (a : Int) : List S41 × Int := if okM c = true ∧ 1 ≤ a ∧ a ≤ 4 then (routes c (a - 1).toNat 4, 0) else ([], 2100)
theorem Router_f (a : Int) : lsa_Router.f a = some (decide (1 ≤ a ∧ a ≤ 4)) := by
  unfold lsa_Router.f
  by_cases h : a ≥ 1
  · rw [if_pos h]; congr 1; simp; intro _; omega
  · rw [if_neg h]; congr 1; simp; omega
theorem Routes_f (k : Nat) (c : Mat) (a : Int) : paths_Routes.f (k + 200) (c 0 0) (c 0 1) (c 0 2) (c 0 3) (c 1 0) (c 1 1) (c 1 2) (c 1 3) (c 2 0) (c 2 1) (c 2 2) (c 2 3) (c 3 0) (c 3 1) (c 3 2) (c 3 3) a = some (ans c a) := by
  unfold paths_Routes.f ans
  rw [show k + 200 = (k + 175) + 25 from rfl, May_f (k + 175), Router_f]
  have bad : paths_Routes.j0 (k + 175 + 25) a true (c 0 0) (c 0 1) (c 0 2) (c 0 3) (c 1 0) (c 1 1) (c 1 2) (c 1 3) (c 2 0) (c 2 1) (c 2 2) (c 2 3) (c 3 0) (c 3 1) (c 3 2) (c 3 3) = some ([], 2100) := by
    rw [show k + 175 + 25 = (k + 199) + 1 from rfl]; simp only [paths_Routes.j0]; rw [if_pos trivial]
  show (if okM c = true then (paths_Routes.j0 (k + 175 + 25) a (!decide (1 ≤ a ∧ a ≤ 4)) (c 0 0) (c 0 1) (c 0 2) (c 0 3) (c 1 0) (c 1 1) (c 1 2) (c 1 3) (c 2 0) (c 2 1) (c 2 2) (c 2 3) (c 3 0) (c 3 1) (c 3 2) (c 3 3)) else paths_Routes.j0 (k + 175 + 25) a true (c 0 0) (c 0 1) (c 0 2) (c 0 3) (c 1 0) (c 1 1) (c 1 2) (c 1 3) (c 2 0) (c 2 1) (c 2 2) (c 2 3) (c 3 0) (c 3 1) (c 3 2) (c 3 3)) = _
  by_cases ho : okM c = true
  · rw [if_pos ho]
    by_cases hr : 1 ≤ a ∧ a ≤ 4
    · rw [if_pos ⟨ho, hr⟩, show (!decide (1 ≤ a ∧ a ≤ 4)) = false by simp [hr]]
      have C := (okM_iff c).1 ho
      rw [show k + 175 + 25 = (k + 199) + 1 from rfl]
      simp only [paths_Routes.j0]
      rw [if_neg (by decide), show k + 199 = (k + 69) + 130 from rfl, sums_f (k + 69) C]
      obtain ⟨f, hf, rfl⟩ : ∃ f : Nat, f < 4 ∧ a = (f : Int) + 1 := ⟨(a - 1).toNat, by omega, by omega⟩
      rw [show wrap64 ((f : Int) + 1 - 1) = (f : Int) by unfold wrap64; omega, show ((f : Int) + 1 - 1).toNat = f by omega]
      simp only [Option.bind_some, tup]
      rw [if_pos (show 0 ≤ (f : Int) by omega), if_pos (show (f : Int) < 4 by omega), row_at (fun i => W (eOf c) i 0) hf, row_at (fun i => W (eOf c) i 1) hf, row_at (fun i => W (eOf c) i 2) hf, row_at (fun i => W (eOf c) i 3) hf]
      exact R0_all hf C 4 0 [] _ rfl (by simp) (by omega)
    · rw [if_neg (fun z => hr z.2), show (!decide (1 ≤ a ∧ a ≤ 4)) = true by simp only [Bool.not_eq_true', decide_eq_false_iff_not]; exact hr]
      exact bad
  · rw [if_neg ho, if_neg (fun z => ho z.1)]
    exact bad
end Go.Proofs.Ytjbejbehbjhecaa.L21
namespace Go.Proofs.Ytjbejbehbjhecaa.L21
open Go.RowKit Go.Proofs.YtjbejbehbjhecaaW.PrintWords Go.Proofs.YtjbejbehbjhecaaW.PrintMore Go.Proofs.Ytjbejbehbjhecaa.Base Go.Proofs.Ytjbejbehbjhecaa.Q21p
set_option linter.unusedVariables false
set_option maxRecDepth 100000
theorem Routes_c (k : Nat) (c0 c1 c2 c3 c4 c5 c6 c7 c8 c9 c10 c11 c12 c13 c14 c15 a : Int) : paths_Routes.f (k + 200) c0 c1 c2 c3 c4 c5 c6 c7 c8 c9 c10 c11 c12 c13 c14 c15 a = some (ans (mk c0 c1 c2 c3 c4 c5 c6 c7 c8 c9 c10 c11 c12 c13 c14 c15) a) := Routes_f k (mk c0 c1 c2 c3 c4 c5 c6 c7 c8 c9 c10 c11 c12 c13 c14 c15) a
theorem awake_f : watchwordlaw21_awake.f 200 = some true := by
  unfold watchwordlaw21_awake.f
  rw [Routes_c 0, Routes_c 0]
  have e1 : ans (mk 0 5 2 0 5 0 3 0 2 3 0 0 0 0 0 0) 1 = ([⟨2, 5, [2, 3]⟩, ⟨3, 2, [3]⟩], 0) := by kernel_rfl
  have e2 : ans (mk 0 5 2 0 5 0 3 0 2 3 0 0 0 0 0 0) 5 = ([], 2100) := by kernel_rfl
  rw [e1, e2]
  decide +kernel
theorem awake_ok {k : Nat} (hk : 200 ≤ k) : watchwordlaw21_awake.f k = some true := at_rounds (g := fun k => watchwordlaw21_awake.f k) watchwordlaw21_awake.mono hk awake_f
theorem num_ok : watchwordlaw0_Num.f 0 = some 0 := by decide +kernel
theorem num_bad : watchwordlaw0_Num.f 2100 = some 2100 := by decide +kernel
theorem ans_bad {c : Mat} {a : Int} (h : ¬ (okM c = true ∧ 1 ≤ a ∧ a ≤ 4)) : ans c a = ([], 2100) := by unfold ans; rw [if_neg h]
end Go.Proofs.Ytjbejbehbjhecaa.L21
namespace Go.Proofs.Ytjbejbehbjhecaa.L21
open Go.RowKit Go.Proofs.YtjbejbehbjhecaaW.PrintWords Go.Proofs.YtjbejbehbjhecaaW.PrintMore Go.Proofs.Ytjbejbehbjhecaa.Base Go.Proofs.Ytjbejbehbjhecaa.Q21p
set_option linter.unusedVariables false
set_option linter.unusedSimpArgs false
set_option maxRecDepth 100000
theorem upTo_f (a b c : Int) : watchwordref18_upTo.f a b c = some (decide (b ≤ a ∧ a ≤ c)) := by
  unfold watchwordref18_upTo.f
  by_cases h : a ≥ b
  · rw [if_pos h]; exact congrArg some (decide_eq_decide.2 ⟨fun x => ⟨h, x⟩, fun x => x.2⟩)
  · rw [if_neg h]; exact congrArg some (decide_eq_false (fun x => h x.1)).symm
theorem routerMay_f (a : Int) : watchwordref18_routerMay.f a = some (decide (1 ≤ a ∧ a ≤ 4)) := by
  unfold watchwordref18_routerMay.f; rw [upTo_f]; rfl
/-! #### may these costs be -/
def CM1 (k a b : Nat) (m : Mat) := watchwordref18_CostsMay.l1 k (a : Int) (b : Int) (m 0 0) (m 0 1) (m 0 2) (m 0 3) (m 1 0) (m 1 1) (m 1 2) (m 1 3) (m 2 0) (m 2 1) (m 2 2) (m 2 3) (m 3 0) (m 3 1) (m 3 2) (m 3 3)
def CM0 (k a : Nat) (m : Mat) := watchwordref18_CostsMay.l0 k (a : Int) (m 0 0) (m 0 1) (m 0 2) (m 0 3) (m 1 0) (m 1 1) (m 1 2) (m 1 3) (m 2 0) (m 2 1) (m 2 2) (m 2 3) (m 3 0) (m 3 1) (m 3 2) (m 3 3)
theorem CM1_step (k : Nat) {a b : Nat} (ha : a < 4) (hb : b < 4) (m : Mat) : CM1 (k + 1) a b m = if cellOk (a : Int) (b : Int) (m a b) = true then CM1 k a (b + 1) m else some false := by
  unfold CM1
  simp only [watchwordref18_CostsMay.l1]
  rw [if_pos (show ((b : Int) < 4) by omega), if_pos (show 0 ≤ (a : Int) by omega), if_pos (show (a : Int) < 4 by omega), if_pos (show 0 ≤ (b : Int) by omega), next4 hb, sel_at m ha hb, upTo_f]
  simp only [Option.bind_some]
  generalize m a b = x
  by_cases h : 0 ≤ x ∧ x ≤ 65535
  · rw [if_pos (decide_eq_true h)]
    by_cases e : (a : Int) = (b : Int)
    · rw [if_pos e]
      by_cases z : x = 0
      · rw [if_pos z, if_pos (cellOk_iff.2 ⟨h.1, h.2, fun _ => z⟩)]
      · rw [if_neg z, if_neg (fun q => z ((cellOk_iff.1 q).2.2 e))]
    · rw [if_neg e, if_pos (cellOk_iff.2 ⟨h.1, h.2, fun q => absurd q e⟩)]
  · rw [if_neg (fun q => h (of_decide_eq_true q)), if_neg (fun q => h ⟨(cellOk_iff.1 q).1, (cellOk_iff.1 q).2.1⟩)]
theorem CM1_end (k : Nat) {a : Nat} (ha : a < 4) (m : Mat) : CM1 (k + 1) a 4 m = CM0 k (a + 1) m := by
  unfold CM1 CM0
  simp only [watchwordref18_CostsMay.l1]
  rw [if_neg (show ¬ (((4 : Nat) : Int) < 4) by decide), next4 ha]
theorem CM0_step (k : Nat) {a : Nat} (ha : a < 4) (m : Mat) : CM0 (k + 1) a m = CM1 k a 0 m := by
  unfold CM1 CM0
  simp only [watchwordref18_CostsMay.l0]
  rw [if_pos (show ((a : Int) < 4) by omega)]
  rfl
theorem CM0_end (k : Nat) (m : Mat) : CM0 (k + 1) 4 m = some true := by
  unfold CM0
  simp only [watchwordref18_CostsMay.l0]
  rw [if_neg (show ¬ (((4 : Nat) : Int) < 4) by decide)]
theorem CM_row (k : Nat) {a : Nat} (ha : a < 4) (m : Mat) : CM1 (k + 5) a 0 m = if rowOk (a : Int) (m a 0) (m a 1) (m a 2) (m a 3) = true then CM0 k (a + 1) m else some false := by
  rw [CM1_step (k + 4) ha (by decide), CM1_step (k + 3) ha (by decide), CM1_step (k + 2) ha (by decide), CM1_step (k + 1) ha (by decide), CM1_end k ha]
  show _ = if (cellOk (a : Int) ((0 : Nat) : Int) (m a 0) && (cellOk (a : Int) ((0 + 1 : Nat) : Int) (m a (0 + 1)) && (cellOk (a : Int) ((0 + 1 + 1 : Nat) : Int) (m a (0 + 1 + 1)) && cellOk (a : Int) ((0 + 1 + 1 + 1 : Nat) : Int) (m a (0 + 1 + 1 + 1))))) = true then _ else _
  generalize cellOk (a : Int) ((0 : Nat) : Int) (m a 0) = b0
  generalize cellOk (a : Int) ((0 + 1 : Nat) : Int) (m a (0 + 1)) = b1
  generalize cellOk (a : Int) ((0 + 1 + 1 : Nat) : Int) (m a (0 + 1 + 1)) = b2
  generalize cellOk (a : Int) ((0 + 1 + 1 + 1 : Nat) : Int) (m a (0 + 1 + 1 + 1)) = b3
  cases b0 <;> cases b1 <;> cases b2 <;> cases b3 <;> rfl
theorem CM_f (k : Nat) (m : Mat) : watchwordref18_CostsMay.f (k + 25) (m 0 0) (m 0 1) (m 0 2) (m 0 3) (m 1 0) (m 1 1) (m 1 2) (m 1 3) (m 2 0) (m 2 1) (m 2 2) (m 2 3) (m 3 0) (m 3 1) (m 3 2) (m 3 3) = some (okM m) := by
  unfold watchwordref18_CostsMay.f
  show CM0 (k + 25) 0 m = _
  rw [CM0_step (k + 24) (by decide), CM_row (k + 19) (by decide), CM0_step (k + 18) (by decide), CM_row (k + 13) (by decide), CM0_step (k + 12) (by decide), CM_row (k + 7) (by decide), CM0_step (k + 6) (by decide), CM_row (k + 1) (by decide), CM0_end k]
  unfold okM okC
  show (if rowOk 0 (m 0 0) (m 0 1) (m 0 2) (m 0 3) = true then (if rowOk 1 (m 1 0) (m 1 1) (m 1 2) (m 1 3) = true then (if rowOk 2 (m 2 0) (m 2 1) (m 2 2) (m 2 3) = true then (if rowOk 3 (m 3 0) (m 3 1) (m 3 2) (m 3 3) = true then some true else some false) else some false) else some false) else some false) = _
  generalize rowOk 0 (m 0 0) (m 0 1) (m 0 2) (m 0 3) = b0
  generalize rowOk 1 (m 1 0) (m 1 1) (m 1 2) (m 1 3) = b1
  generalize rowOk 2 (m 2 0) (m 2 1) (m 2 2) (m 2 3) = b2
  generalize rowOk 3 (m 3 0) (m 3 1) (m 3 2) (m 3 3) = b3
  cases b0 <;> cases b1 <;> cases b2 <;> cases b3 <;> rfl
/-! #### the least costs from one router -/
def D3 (k r i j : Nat) (c : Mat) (d : Nat → Int) := watchwordref18_least.l3 k (r : Int) (i : Int) (j : Int) (c 0 0) (c 0 1) (c 0 2) (c 0 3) (c 1 0) (c 1 1) (c 1 2) (c 1 3) (c 2 0) (c 2 1) (c 2 2) (c 2 3) (c 3 0) (c 3 1) (c 3 2) (c 3 3) (d 0) (d 1) (d 2) (d 3)
def D2 (k r i : Nat) (c : Mat) (d : Nat → Int) := watchwordref18_least.l2 k (r : Int) (i : Int) (c 0 0) (c 0 1) (c 0 2) (c 0 3) (c 1 0) (c 1 1) (c 1 2) (c 1 3) (c 2 0) (c 2 1) (c 2 2) (c 2 3) (c 3 0) (c 3 1) (c 3 2) (c 3 3) (d 0) (d 1) (d 2) (d 3)
def D1 (k r : Nat) (c : Mat) (d : Nat → Int) := watchwordref18_least.l1 k (r : Int) (c 0 0) (c 0 1) (c 0 2) (c 0 3) (c 1 0) (c 1 1) (c 1 2) (c 1 3) (c 2 0) (c 2 1) (c 2 2) (c 2 3) (c 3 0) (c 3 1) (c 3 2) (c 3 3) (d 0) (d 1) (d 2) (d 3)
def D0 (k f j : Nat) (c : Mat) (d : Nat → Int) := watchwordref18_least.l0 k (f : Int) (j : Int) (c 0 0) (c 0 1) (c 0 2) (c 0 3) (c 1 0) (c 1 1) (c 1 2) (c 1 3) (c 2 0) (c 2 1) (c 2 2) (c 2 3) (c 3 0) (c 3 1) (c 3 2) (c 3 3) (d 0) (d 1) (d 2) (d 3)
theorem up1 (d : Nat → Int) (j q : Nat) (v : Int) : up (((j : Nat) : Int) == ((q : Nat) : Int)) v (d q) = upd d j v q := by
  unfold up upd
  by_cases h : q = j
  · subst h; simp
  · rw [if_neg h, if_neg]
    simp only [beq_iff_eq]; omega
theorem up4 (d : Nat → Int) (j : Nat) (v : Int) : up (((j : Nat) : Int) == 0) v (d 0) = upd d j v 0 ∧ up (((j : Nat) : Int) == 1) v (d 1) = upd d j v 1 ∧ up (((j : Nat) : Int) == 2) v (d 2) = upd d j v 2 ∧ up (((j : Nat) : Int) == 3) v (d 3) = upd d j v 3 :=
  ⟨up1 d j 0 v, up1 d j 1 v, up1 d j 2 v, up1 d j 3 v⟩
theorem D3_step (k r : Nat) {i j : Nat} (hi : i < 4) (hj : j < 4) {c : Mat} (C : CostOk c) {d : Nat → Int} (hd : ∀ q, q < 4 → -1 ≤ d q ∧ d q ≤ 8388608) :
    D3 (k + 1) r i j c d = D3 k r i (j + 1) c (rlx c d i j) := by
  have q1 := hd i hi
  have q2 := C.range i j hi hj
  unfold D3
  simp only [watchwordref18_least.l3]
  rw [if_pos (show ((j : Int) < 4) by omega), if_pos (show 0 ≤ (i : Int) by omega), if_pos (show (i : Int) < 4 by omega), row_at d hi, if_pos (show 0 ≤ (j : Int) by omega), sel_at c hi hj, row_at d hj, next4 hj, show wrap64 (d i + c i j) = d i + c i j by unfold wrap64; omega]
  obtain ⟨u1, u2, u3, u4⟩ := up4 d j (d i + c i j)
  rw [u1, u2, u3, u4]
  by_cases h1 : d i ≥ 0
  · rw [if_pos h1]
    by_cases h2 : c i j > 0
    · rw [if_pos h2]
      by_cases h3 : d j < 0
      · have e : rlx c d i j = upd d j (d i + c i j) := by unfold rlx; rw [if_pos ⟨h1, h2, .inl h3⟩]
        rw [if_pos h3, e]
      · rw [if_neg h3]
        by_cases h4 : d i + c i j < d j
        · have e : rlx c d i j = upd d j (d i + c i j) := by unfold rlx; rw [if_pos ⟨h1, h2, .inr h4⟩]
          rw [if_pos h4, e]
        · have e : rlx c d i j = d := by unfold rlx; rw [if_neg (fun z => z.2.2.elim h3 h4)]
          rw [if_neg h4, e]
    · have e : rlx c d i j = d := by unfold rlx; rw [if_neg (fun z => h2 z.2.1)]
      rw [if_neg h2, e]
  · have e : rlx c d i j = d := by unfold rlx; rw [if_neg (fun z => h1 z.1)]
    rw [if_neg h1, e]
theorem D3_end (k r : Nat) {i : Nat} (hi : i < 4) (c : Mat) (d : Nat → Int) : D3 (k + 1) r i 4 c d = D2 k r (i + 1) c d := by
  unfold D3 D2
  simp only [watchwordref18_least.l3]
  rw [if_neg (show ¬ (((4 : Nat) : Int) < 4) by decide), next4 hi]
theorem D2_step (k r : Nat) {i : Nat} (hi : i < 4) (c : Mat) (d : Nat → Int) : D2 (k + 1) r i c d = D3 k r i 0 c d := by
  unfold D3 D2
  simp only [watchwordref18_least.l2]
  rw [if_pos (show ((i : Int) < 4) by omega)]
  rfl
theorem D2_end (k : Nat) {r : Nat} (hr : r < 4) (c : Mat) (d : Nat → Int) : D2 (k + 1) r 4 c d = D1 k (r + 1) c d := by
  unfold D2 D1
  simp only [watchwordref18_least.l2]
  rw [if_neg (show ¬ (((4 : Nat) : Int) < 4) by decide), next4 hr]
theorem D1_step (k : Nat) {r : Nat} (hr : r < 4) (c : Mat) (d : Nat → Int) : D1 (k + 1) r c d = D2 k r 0 c d := by
  unfold D2 D1
  simp only [watchwordref18_least.l1]
  rw [if_pos (show ((r : Int) < 4) by omega)]
  rfl
theorem D1_end (k : Nat) (c : Mat) (d : Nat → Int) : D1 (k + 1) 4 c d = some (d 0, d 1, d 2, d 3) := by
  unfold D1
  simp only [watchwordref18_least.l1]
  rw [if_neg (show ¬ (((4 : Nat) : Int) < 4) by decide)]
theorem D0_step (k f : Nat) {j : Nat} (hj : j < 4) (c : Mat) (d : Nat → Int) : D0 (k + 1) f j c d = D0 k f (j + 1) c (upd d j (-1)) := by
  unfold D0
  simp only [watchwordref18_least.l0]
  obtain ⟨u1, u2, u3, u4⟩ := up4 d j (-1)
  rw [if_pos (show ((j : Int) < 4) by omega), if_pos (show 0 ≤ (j : Int) by omega), next4 hj, u1, u2, u3, u4]
theorem D0_end (k : Nat) {f : Nat} (hf : f < 4) (c : Mat) (d : Nat → Int) : D0 (k + 1) f 4 c d = D1 k 0 c (upd d f 0) := by
  unfold D0 D1
  simp only [watchwordref18_least.l0]
  obtain ⟨u1, u2, u3, u4⟩ := up4 d f 0
  rw [if_neg (show ¬ (((4 : Nat) : Int) < 4) by decide), if_pos (show 0 ≤ (f : Int) by omega), if_pos (show (f : Int) < 4 by omega), u1, u2, u3, u4]
  rfl
theorem D1_congr (k r : Nat) (c : Mat) {d d' : Nat → Int} (h : ∀ q, q < 4 → d q = d' q) : D1 k r c d = D1 k r c d' := by
  unfold D1; rw [h 0 (by decide), h 1 (by decide), h 2 (by decide), h 3 (by decide)]
def d0 (f : Nat) : Nat → Int := fun q => if q = f then 0 else -1
def lst (c : Mat) (f : Nat) : Nat → Int := rl c (d0 f) 64
theorem rl_bd {c : Mat} (C : CostOk c) (f : Nat) : ∀ (n q : Nat), q < 4 → -1 ≤ rl c (d0 f) n q ∧ rl c (d0 f) n q ≤ (n : Int) * 65535
  | 0, q, hq => by
    show -1 ≤ d0 f q ∧ d0 f q ≤ ((0 : Nat) : Int) * 65535
    unfold d0; split <;> omega
  | n + 1, q, hq => by
    have h1 := rl_bd C f n q hq
    have h2 := rl_bd C f n (n / 4 % 4) (by omega)
    have h3 := C.range (n / 4 % 4) (n % 4) (by omega) (by omega)
    show -1 ≤ rlx c (rl c (d0 f) n) (n / 4 % 4) (n % 4) q ∧ rlx c (rl c (d0 f) n) (n / 4 % 4) (n % 4) q ≤ ((n + 1 : Nat) : Int) * 65535
    unfold rlx
    split
    · rename_i g
      unfold upd
      split
      · omega
      · omega
    · omega
theorem D3_all (k : Nat) {r i f : Nat} (hr : r < 4) (hi : i < 4) {c : Mat} (C : CostOk c) : ∀ e j, j + e = 4 → D3 (k + 1 + e) r i j c (rl c (d0 f) (16 * r + 4 * i + j)) = D2 k r (i + 1) c (rl c (d0 f) (16 * r + 4 * (i + 1)))
  | 0, j, h => by
    obtain rfl : j = 4 := by omega
    exact D3_end k r hi c _
  | e + 1, j, h => by
    have h1 := D3_step (k + 1 + e) r hi (show j < 4 by omega) C (d := rl c (d0 f) (16 * r + 4 * i + j)) (fun q hq => by have := rl_bd C f (16 * r + 4 * i + j) q hq; omega)
    have h2 : rl c (d0 f) (16 * r + 4 * i + (j + 1)) = rlx c (rl c (d0 f) (16 * r + 4 * i + j)) i j := by
      show rlx c (rl c (d0 f) (16 * r + 4 * i + j)) ((16 * r + 4 * i + j) / 4 % 4) ((16 * r + 4 * i + j) % 4) = _
      rw [show (16 * r + 4 * i + j) / 4 % 4 = i by omega, show (16 * r + 4 * i + j) % 4 = j by omega]
    rw [← h2] at h1
    exact h1.trans (D3_all k hr hi C e (j + 1) (by omega))
theorem D2_all (k : Nat) {r f : Nat} (hr : r < 4) {c : Mat} (C : CostOk c) : ∀ e i, i + e = 4 → D2 (k + 1 + 6 * e) r i c (rl c (d0 f) (16 * r + 4 * i)) = D1 k (r + 1) c (rl c (d0 f) (16 * (r + 1)))
  | 0, i, h => by
    obtain rfl : i = 4 := by omega
    exact D2_end k hr c _
  | e + 1, i, h => by
    rw [show k + 1 + 6 * (e + 1) = (k + 1 + 6 * e + 1 + 4) + 1 by omega, D2_step _ r (show i < 4 by omega)]
    exact (D3_all (k + 1 + 6 * e) hr (show i < 4 by omega) C 4 0 rfl).trans (D2_all k hr C e (i + 1) (by omega))
theorem D1_all (k : Nat) {f : Nat} {c : Mat} (C : CostOk c) : ∀ e r, r + e = 4 → D1 (k + 1 + 26 * e) r c (rl c (d0 f) (16 * r)) = some (lst c f 0, lst c f 1, lst c f 2, lst c f 3)
  | 0, r, h => by
    obtain rfl : r = 4 := by omega
    exact D1_end k c _
  | e + 1, r, h => by
    rw [show k + 1 + 26 * (e + 1) = (k + 1 + 26 * e + 1 + 6 * 4) + 1 by omega, D1_step _ (show r < 4 by omega)]
    exact (D2_all (k + 1 + 26 * e) (show r < 4 by omega) C 4 0 rfl).trans (D1_all k C e (r + 1) (by omega))
theorem least_f (k : Nat) {f : Nat} (hf : f < 4) {c : Mat} (C : CostOk c) : watchwordref18_least.f (k + 110) (c 0 0) (c 0 1) (c 0 2) (c 0 3) (c 1 0) (c 1 1) (c 1 2) (c 1 3) (c 2 0) (c 2 1) (c 2 2) (c 2 3) (c 3 0) (c 3 1) (c 3 2) (c 3 3) (f : Int) = some (lst c f 0, lst c f 1, lst c f 2, lst c f 3) := by
  unfold watchwordref18_least.f
  show D0 (k + 110) f 0 c (fun _ => 0) = _
  rw [show k + 110 = (k + 105) + 1 + 1 + 1 + 1 + 1 from rfl, D0_step _ f (by decide), D0_step _ f (by decide), D0_step _ f (by decide), D0_step _ f (by decide), D0_end _ hf]
  refine (D1_congr _ 0 c (d' := rl c (d0 f) (16 * 0)) ?_).trans (D1_all k C 4 0 rfl)
  intro q hq
  show _ = d0 f q
  unfold d0 upd
  by_cases e : q = f
  · rw [if_pos e, if_pos e]
  · rw [if_neg e, if_neg e]
    obtain rfl | rfl | rfl | rfl : q = 0 ∨ q = 1 ∨ q = 2 ∨ q = 3 := by omega
    all_goals rfl
theorem lst_at {c : Mat} (C : CostOk c) {f t : Nat} (hf : f < 4) (ht : t < 4) : (ws c f t < 262144 → lst c f t = ws c f t) ∧ (262144 ≤ ws c f t → lst c f t < 0) :=
  rl_done C hf (d := d0 f) (by unfold d0; rw [if_pos rfl]) (fun j hj => by unfold d0; rw [if_neg hj]) ht
/-! #### the routes -/
def RD1 (k f t a : Nat) (out : List S41) (tt cost : Int) (fs : List Int) (c : Mat) (d : Nat → Int) := watchwordref18_Routes.l1 k ((f : Int) + 1) out (t : Int) (a : Int) (c 0 0) (c 0 1) (c 0 2) (c 0 3) (c 1 0) (c 1 1) (c 1 2) (c 1 3) (c 2 0) (c 2 1) (c 2 2) (c 2 3) (c 3 0) (c 3 1) (c 3 2) (c 3 3) (d 0) (d 1) (d 2) (d 3) tt cost fs
def RD0 (k f t : Nat) (out : List S41) (c : Mat) (d : Nat → Int) := watchwordref18_Routes.l0 k ((f : Int) + 1) out (t : Int) (c 0 0) (c 0 1) (c 0 2) (c 0 3) (c 1 0) (c 1 1) (c 1 2) (c 1 3) (c 2 0) (c 2 1) (c 2 2) (c 2 3) (c 3 0) (c 3 1) (c 3 2) (c 3 3) (d 0) (d 1) (d 2) (d 3)
theorem RD1_step (k : Nat) {f t a : Nat} (hf : f < 4) (ht : t < 4) (ha : a < 4) (out : List S41) (tt cost : Int) (fs : List Int) (hl : fs.length ≤ 4) {c : Mat} (C : CostOk c) (hn : ws c f t < 262144)
    (hL : ∀ a : Nat, a < 4 → watchwordref18_least.f k (c 0 0) (c 0 1) (c 0 2) (c 0 3) (c 1 0) (c 1 1) (c 1 2) (c 1 3) (c 2 0) (c 2 1) (c 2 2) (c 2 3) (c 3 0) (c 3 1) (c 3 2) (c 3 3) (a : Int) = some (lst c a 0, lst c a 1, lst c a 2, lst c a 3)) :
    RD1 (k + 1) f t a out tt cost fs c (lst c f) = RD1 k f t (a + 1) out tt cost (if near c f t a = true then fs ++ [(a : Int) + 1] else fs) c (lst c f) := by
  have r := C.range f a hf ha
  have q := ws_range C ha ht
  have L1 := (lst_at C hf ht).1 hn
  have L2 := lst_at C ha ht
  unfold RD1
  simp only [watchwordref18_Routes.l1]
  rw [if_pos (show ((a : Int) < 4) by omega), hL a ha]
  simp only [Option.bind_some]
  rw [show wrap64 ((f : Int) + 1 - 1) = (f : Int) by unfold wrap64; omega, next4 ha]
  by_cases e : (a : Int) = (f : Int)
  · have e' : a = f := by omega
    have g := C.diag f hf
    rw [if_pos e, if_neg (show ¬ near c f t a = true from fun z => by have := (of_decide_eq_true z).1; rw [e'] at this; omega)]
  · rw [if_neg e, if_pos (show 0 ≤ (f : Int) by omega), if_pos (show (f : Int) < 4 by omega), if_pos (show 0 ≤ (a : Int) by omega), sel_at c hf ha]
    by_cases h : 0 < c f a
    · rw [if_pos (show c f a > 0 from h), if_pos (show 0 ≤ (t : Int) by omega), if_pos (show (t : Int) < 4 by omega), row_at (lst c a) ht, row_at (lst c f) ht, L1]
      by_cases g : ws c a t < 262144
      · rw [L2.1 g, if_pos (show ws c a t ≥ 0 from q.1), show wrap64 (c f a + ws c a t) = c f a + ws c a t by unfold wrap64; omega]
        by_cases h2 : c f a + ws c a t = ws c f t
        · rw [if_pos h2, if_pos (show fs.length < 17592186044416 by omega), if_pos (show near c f t a = true from decide_eq_true ⟨h, h2⟩)]
          rw [show ((a + 1 : Nat) : Int) = (a : Int) + 1 by omega]
        · rw [if_neg h2, if_neg (show ¬ near c f t a = true from fun z => h2 (of_decide_eq_true z).2)]
      · rw [if_neg (show ¬ lst c a t ≥ 0 by have := L2.2 (by omega); omega), if_neg (show ¬ near c f t a = true from fun z => by have := (of_decide_eq_true z).2; omega)]
    · rw [if_neg (show ¬ c f a > 0 from h), if_neg (show ¬ near c f t a = true from fun z => h (of_decide_eq_true z).1)]
theorem RD1_end (k f : Nat) {t : Nat} (ht : t < 4) (out : List S41) (ho : out.length ≤ 4) (tt cost : Int) (fs : List Int) (c : Mat) (d : Nat → Int) :
    RD1 (k + 1) f t 4 out tt cost fs c d = RD0 k f (t + 1) (out ++ [⟨tt, cost, fs⟩]) c d := by
  unfold RD1 RD0
  simp only [watchwordref18_Routes.l1]
  rw [if_neg (show ¬ (((4 : Nat) : Int) < 4) by decide), if_pos (show out.length < 3518437208883 by omega), next4 ht]
theorem RD0_step (k : Nat) {f t : Nat} (hf : f < 4) (ht : t < 4) (out : List S41) (c : Mat) (d : Nat → Int) :
    RD0 (k + 2) f t out c d = if t = f ∨ d t < 0 then RD0 k f (t + 1) out c d else RD1 k f t 0 out ((t : Int) + 1) (d t) [] c d := by
  have hj (b : Bool) : watchwordref18_Routes.j2 (k + 1) ((f : Int) + 1) out (t : Int) b (c 0 0) (c 0 1) (c 0 2) (c 0 3) (c 1 0) (c 1 1) (c 1 2) (c 1 3) (c 2 0) (c 2 1) (c 2 2) (c 2 3) (c 3 0) (c 3 1) (c 3 2) (c 3 3) (d 0) (d 1) (d 2) (d 3) = if b = true then RD0 k f (t + 1) out c d else RD1 k f t 0 out ((t : Int) + 1) (d t) [] c d := by
    simp only [watchwordref18_Routes.j2]
    rw [if_pos (show 0 ≤ (t : Int) by omega), if_pos (show (t : Int) < 4 by omega), row_at d ht, next4 ht]
    rfl
  unfold RD0
  simp only [watchwordref18_Routes.l0]
  rw [if_pos (show ((t : Int) < 4) by omega), if_pos (show 0 ≤ (t : Int) by omega), show wrap64 ((f : Int) + 1 - 1) = (f : Int) by unfold wrap64; omega, row_at d ht, hj, hj]
  by_cases h : t = f
  · rw [if_pos (show (t : Int) = (f : Int) by omega), if_pos rfl, if_pos (.inl h)]
    rfl
  · rw [if_neg (show ¬ (t : Int) = (f : Int) by omega)]
    by_cases h2 : d t < 0
    · rw [if_pos (decide_eq_true h2), if_pos (.inr h2)]
      rfl
    · rw [if_neg (fun z => h2 (of_decide_eq_true z)), if_neg (fun z => z.elim h h2)]
theorem RD0_end (k f : Nat) (out : List S41) (c : Mat) (d : Nat → Int) : RD0 (k + 1) f 4 out c d = some (out, 0) := by
  unfold RD0
  simp only [watchwordref18_Routes.l0]
  rw [if_neg (show ¬ (((4 : Nat) : Int) < 4) by decide)]
theorem least_at {c : Mat} (C : CostOk c) {k : Nat} (hk : 110 ≤ k) (a : Nat) (ha : a < 4) : watchwordref18_least.f k (c 0 0) (c 0 1) (c 0 2) (c 0 3) (c 1 0) (c 1 1) (c 1 2) (c 1 3) (c 2 0) (c 2 1) (c 2 2) (c 2 3) (c 3 0) (c 3 1) (c 3 2) (c 3 3) (a : Int) = some (lst c a 0, lst c a 1, lst c a 2, lst c a 3) := by
  obtain ⟨m, rfl⟩ : ∃ m, k = m + 110 := ⟨k - 110, by omega⟩
  exact least_f m ha C
theorem RD1_all {k : Nat} (hk : 110 ≤ k) {f t : Nat} (hf : f < 4) (ht : t < 4) (out : List S41) (ho : out.length ≤ 4) (tt cost : Int) {c : Mat} (C : CostOk c) (hn : ws c f t < 262144) :
    ∀ d a fs, a + d = 4 → fs.length ≤ a → RD1 (k + 1 + d) f t a out tt cost fs c (lst c f) = RD0 k f (t + 1) (out ++ [⟨tt, cost, fs ++ firsts c f t d⟩]) c (lst c f)
  | 0, a, fs, h, hl => by
    obtain rfl : a = 4 := by omega
    rw [show firsts c f t 0 = [] from rfl, List.append_nil]
    exact RD1_end k f ht out ho _ _ _ _ _
  | d + 1, a, fs, h, hl => by
    have h1 := RD1_step (k + 1 + d) hf ht (show a < 4 by omega) out tt cost fs (by omega) C hn (least_at C (by omega))
    have hq : (if near c f t a = true then fs ++ [(a : Int) + 1] else fs).length ≤ a + 1 := by
      split
      · rw [List.length_append]; show fs.length + 1 ≤ a + 1; omega
      · omega
    have h2 := RD1_all hk hf ht out ho tt cost C hn d (a + 1) (if near c f t a = true then fs ++ [(a : Int) + 1] else fs) (by omega) hq
    refine (h1.trans h2).trans ?_
    congr 4
    obtain rfl : a = 3 - d := by omega
    unfold firsts
    rw [show sfx (d + 1) = (3 - d) :: sfx d from rfl, List.filter_cons]
    by_cases hn : near c f t (3 - d) = true
    · rw [if_pos hn, if_pos hn]
      simp
    · rw [if_neg hn, if_neg hn]
theorem RD0_all {f : Nat} (hf : f < 4) {c : Mat} (C : CostOk c) : ∀ d t out k, t + d = 4 → out.length ≤ t → 120 + 7 * d ≤ k → RD0 k f t out c (lst c f) = some (out ++ routes c f d, 0)
  | 0, t, out, k, h, ho, hk => by
    obtain rfl : t = 4 := by omega
    obtain ⟨k, rfl⟩ : ∃ q, k = q + 1 := ⟨k - 1, by omega⟩
    rw [show routes c f 0 = [] from rfl, List.append_nil]
    exact RD0_end k f out c _
  | d + 1, t, out, k, h, ho, hk => by
    obtain ⟨k, rfl⟩ : ∃ q, k = q + 7 := ⟨k - 7, by omega⟩
    have ht : t < 4 := by omega
    have h1 := RD0_step (k + 5) hf ht out c (lst c f)
    have hr : routes c f (d + 1) = match route c f t with | none => routes c f d | some x => x :: routes c f d := by
      obtain rfl : t = 3 - d := by omega
      unfold routes
      rw [show sfx (d + 1) = (3 - d) :: sfx d from rfl, List.filterMap_cons]
      cases route c f (3 - d) <;> rfl
    have L := lst_at C hf ht
    rw [show k + 7 = k + 5 + 2 from rfl, h1, hr]
    unfold route
    by_cases hb : t = f ∨ 262144 ≤ ws c f t
    · have hc : t = f ∨ lst c f t < 0 := hb.elim .inl (fun z => .inr (L.2 z))
      rw [if_pos hb, if_pos hc]
      exact RD0_all hf C d (t + 1) out (k + 5) (by omega) (by omega) (by omega)
    · have hn : ws c f t < 262144 := Int.not_le.1 (fun z => hb (.inr z))
      have e := L.1 hn
      have hc : ¬ (t = f ∨ lst c f t < 0) := fun z => z.elim (fun z => hb (.inl z)) (fun z => by have := ws_range C hf ht; omega)
      rw [if_neg hb, if_neg hc, e]
      have h2 := RD1_all (k := k) (by omega) hf ht out (by omega) ((t : Int) + 1) (ws c f t) C hn 4 0 [] rfl (by simp)
      rw [show k + 5 = k + 1 + 4 from rfl, h2, List.nil_append, RD0_all hf C d (t + 1) _ k (by omega) (by simp; omega) (by omega), List.append_assoc]
      rfl
theorem refRoutes_f (k : Nat) (c : Mat) (a : Int) : watchwordref18_Routes.f (k + 300) (c 0 0) (c 0 1) (c 0 2) (c 0 3) (c 1 0) (c 1 1) (c 1 2) (c 1 3) (c 2 0) (c 2 1) (c 2 2) (c 2 3) (c 3 0) (c 3 1) (c 3 2) (c 3 3) a = some (ans c a) := by
  unfold watchwordref18_Routes.f ans
  rw [show k + 300 = (k + 275) + 25 from rfl, CM_f (k + 275), routerMay_f]
  generalize hkk : k + 275 + 25 = kk
  obtain ⟨m, rfl⟩ : ∃ m, kk = m + 1 := ⟨kk - 1, by omega⟩
  have bad : watchwordref18_Routes.j0 (m + 1) a true (c 0 0) (c 0 1) (c 0 2) (c 0 3) (c 1 0) (c 1 1) (c 1 2) (c 1 3) (c 2 0) (c 2 1) (c 2 2) (c 2 3) (c 3 0) (c 3 1) (c 3 2) (c 3 3) = some ([], 2100) := by
    simp only [watchwordref18_Routes.j0]; rw [if_pos trivial]
  show (if okM c = true then (watchwordref18_Routes.j0 (m + 1) a (!decide (1 ≤ a ∧ a ≤ 4)) (c 0 0) (c 0 1) (c 0 2) (c 0 3) (c 1 0) (c 1 1) (c 1 2) (c 1 3) (c 2 0) (c 2 1) (c 2 2) (c 2 3) (c 3 0) (c 3 1) (c 3 2) (c 3 3)) else watchwordref18_Routes.j0 (m + 1) a true (c 0 0) (c 0 1) (c 0 2) (c 0 3) (c 1 0) (c 1 1) (c 1 2) (c 1 3) (c 2 0) (c 2 1) (c 2 2) (c 2 3) (c 3 0) (c 3 1) (c 3 2) (c 3 3)) = _
  by_cases ho : okM c = true
  · rw [if_pos ho]
    by_cases hr : 1 ≤ a ∧ a ≤ 4
    · rw [if_pos ⟨ho, hr⟩, show (!decide (1 ≤ a ∧ a ≤ 4)) = false by simp [hr]]
      have C := (okM_iff c).1 ho
      obtain ⟨f, hf, rfl⟩ : ∃ f : Nat, f < 4 ∧ a = (f : Int) + 1 := ⟨(a - 1).toNat, by omega, by omega⟩
      simp only [watchwordref18_Routes.j0]
      rw [if_neg (by decide), show wrap64 ((f : Int) + 1 - 1) = (f : Int) by unfold wrap64; omega, least_at C (by omega) f hf, show ((f : Int) + 1 - 1).toNat = f by omega]
      exact RD0_all hf C 4 0 [] m rfl (by simp) (by omega)
    · rw [if_neg (fun z => hr z.2), show (!decide (1 ≤ a ∧ a ≤ 4)) = true by simp only [Bool.not_eq_true', decide_eq_false_iff_not]; exact hr]
      exact bad
  · rw [if_neg ho, if_neg (fun z => ho z.1)]
    exact bad
theorem refRoutes_at {k : Nat} (hk : 300 ≤ k) (c : Mat) (a : Int) : watchwordref18_Routes.f k (c 0 0) (c 0 1) (c 0 2) (c 0 3) (c 1 0) (c 1 1) (c 1 2) (c 1 3) (c 2 0) (c 2 1) (c 2 2) (c 2 3) (c 3 0) (c 3 1) (c 3 2) (c 3 3) a = some (ans c a) := by
  obtain ⟨m, rfl⟩ : ∃ m, k = m + 300 := ⟨k - 300, by omega⟩
  exact refRoutes_f m c a
end Go.Proofs.Ytjbejbehbjhecaa.L21
namespace Go.Proofs.Ytjbejbehbjhecaa.Opn
open Go.RowKit Go.Proofs.YtjbejbehbjhecaaW.PrintWords Go.Proofs.YtjbejbehbjhecaaW.PrintLast Go.Proofs.YtjbejbehbjhecaaW.PrintMore
open Go.Joins Go.ChangeShapes Go.WideShapes Go.Deep
set_option linter.unusedVariables false

/-- Whatever reads as_ data of type t, within reach, is told by the kind d; R is known of it. -/
def Opn {α : Type} (P : Program) (t : TypeId) (d : Kd α) (R : α → Prop) : Prop :=
  ∀ {H : Type} {enc : TypeId × Value → H} {w : World} {base : Nat} {spare : Nat → Bool} {held : Bool} {fuel : Nat} {cs : List Value} {x : DataW H × List MemPlace},
    DataW.trod enc P w base spare held fuel t cs = some x → (∀ n ∈ x.1.weights P t, n ≤ reachBytes) → ∃ a, d.K w a cs ∧ R a
theorem opn_int {P : Program} {t : TypeId} {k : IntKind} (ht : P.underlying t = some (.int k)) : Opn P t (Kd.int k) (fun a => (Lit.int k a).wf = true) := by
  intro H enc w base spare held fuel cs x h _
  obtain ⟨a, rfl, rfl, wa⟩ := DataW.trod_int ht h
  exact ⟨a, rfl, wa⟩
theorem opn_string {P : Program} {t : TypeId} (ht : P.underlying t = some .string) : Opn P t Kd.string (fun s => s.size ≤ 140737488351232) := by
  intro H enc w base spare held fuel cs x h hw
  obtain ⟨s, rfl, rfl, hs⟩ := DataW.trod_string ht h
  refine ⟨s, rfl, ?_⟩
  have := hw s.data.toList.length (by simp [DataW.weights])
  rw [Array.length_toList] at this
  exact this
theorem cells_at {w : World} {base : Nat} {a : Addr} {n : Nat} {cs : List Value} (h : w.cells? base a n = some cs) : ∀ i u, cs[i]? = some u → w.cell? (a.add i) = some u := by
  obtain ⟨_, hl, hat⟩ := World.cells?_some h
  intro i u hu
  have hi : i < n := by have := (List.getElem?_eq_some_iff.1 hu).1; omega
  rw [hat i hi]; exact hu
theorem opn_slice {α : Type} {P : Program} {t e : TypeId} {d : Kd α} {R : α → Prop} {B : Nat} (ht : P.underlying t = some (.slice e)) (hc : P.cellsOf e = d.sz) (hB : P.bytesOf e = B) (ho : Opn P e d R) :
    Opn P t (Kd.slice e d) (fun l => l.length * B ≤ 140737488351232 ∧ l.length ≤ maxLen ∧ ∀ a ∈ l, R a) := by
  intro H enc w base spare held fuel cs x h hw
  rcases open_slice ht h with ⟨rfl, rfl⟩ | ⟨ad, len, cap, m, n, D, Pl, rfl, hb, hl, hm, hmm, rfl, hi⟩
  · exact ⟨[], ⟨none, 0, rfl, Nat.le_refl _, rfl, by simp, fun h => absurd h (by simp)⟩, by simp, by simp [maxLen], fun a ha => by cases ha⟩
  · have hlm : len ≤ m := by rw [hmm]; split <;> omega
    have hwt : ∀ i, i < len → ∀ n ∈ (D i).weights P e, n ≤ reachBytes := by
      intro i hi' n hn
      refine hw n ?_
      simp only [DataW.weights, ht, List.mem_cons, List.mem_append]
      refine Or.inr (Or.inl ?_)
      have key : ∀ (l : List (DataW H)) (y : DataW H), y ∈ l → ∀ n ∈ y.weights P e, n ∈ DataW.weightsAll P e l := by
        intro l
        induction l with
        | nil => intro y hy; cases hy
        | cons z l ih =>
          intro y hy n hn
          simp only [DataW.weightsAll, List.mem_append]
          rcases List.mem_cons.mp hy with rfl | hy
          · exact Or.inl hn
          · exact Or.inr (ih y hy n hn)
      exact key _ (D i) (List.mem_map.mpr ⟨i, by simpa using hi', rfl⟩) n hn
    have hex : ∀ i, i < len → ∃ a cs', d.K w a cs' ∧ R a ∧ w.cells? base (ad.add (i * P.cellsOf e)) (P.cellsOf e) = some cs' := by
      intro i hi'
      obtain ⟨cs', h1, h2⟩ := hi i (by omega)
      obtain ⟨a, hK, hR⟩ := ho h2 (hwt i hi')
      exact ⟨a, cs', hK, hR, h1⟩
    have hw0 : len * B ≤ reachBytes := by
      have := hw ((((List.range len).map D).length + ((List.range (m - len)).map fun j => D (len + j)).length) * P.bytesOf e) (by simp [DataW.weights, ht])
      rw [hB] at this
      simp only [List.length_map, List.length_range] at this
      exact Nat.le_trans (Nat.mul_le_mul_right _ (by omega)) this
    obtain ⟨l, hll, hl2⟩ : ∃ l : List α, l.length = len ∧ ∀ i a, l[i]? = some a → ∃ cs', d.K w a cs' ∧ R a ∧ w.cells? base (ad.add (i * P.cellsOf e)) (P.cellsOf e) = some cs' := by
      clear hw0 hwt hw hlm hmm hm hl hi h
      induction len with
      | zero => exact ⟨[], rfl, fun i a h => by simp at h⟩
      | succ k ih =>
        obtain ⟨l, hll, hl2⟩ := ih (fun i hi' => hex i (by omega))
        obtain ⟨a, cs', h1, h2, h3⟩ := hex k (by omega)
        refine ⟨l ++ [a], by simp [hll], fun i b hb => ?_⟩
        by_cases hik : i < l.length
        · rw [List.getElem?_append_left hik] at hb
          exact hl2 i b hb
        · have hlt := (List.getElem?_eq_some_iff.1 hb).1
          rw [List.length_append, List.length_singleton] at hlt
          have : i = l.length := by omega
          subst this
          rw [List.getElem?_append_right (Nat.le_refl _)] at hb
          simp at hb
          subst hb
          rw [hll]
          exact ⟨cs', h1, h2, h3⟩
    have hmax : len ≤ maxLen := Nat.le_trans hl hm
    refine ⟨l, ⟨some ad, cap, by rw [hll], by omega, ⟨rfl, by rw [hll]; unfold maxLen at hmax; omega, fun _ => ⟨ad, rfl, fun j p hj => ?_⟩⟩⟩, by rw [hll]; exact hw0, by rw [hll]; exact hmax, fun a ha => ?_⟩
    · obtain ⟨cs', h1, _, h3⟩ := hl2 j p hj
      refine ⟨cs', d.K_len h1, h1, fun i u hu => ?_⟩
      have := cells_at h3 i u hu
      rw [Go.Deep.add_add, hc] at this
      exact this
    · obtain ⟨i, hi', rfl⟩ := List.mem_iff_getElem.mp ha
      obtain ⟨_, _, hR, _⟩ := hl2 i _ (List.getElem?_eq_getElem hi')
      exact hR
theorem wt_field {H : Type} {P : Program} {t f : TypeId} {fs : Array Field} {parts : List (DataW H)} {y : DataW H} {j : Nat} (ht : P.underlying t = some (.struct fs)) (hw : ∀ n ∈ (DataW.agg parts).weights P t, n ≤ reachBytes)
    (hf : (fs.toList.map (·.type))[j]? = some f) (hy : parts[j]? = some y) : ∀ n ∈ y.weights P f, n ≤ reachBytes := by
  intro n hn
  refine hw n ?_
  simp only [DataW.weights, ht]
  exact DataW.weights_mem_each hf hy n hn
theorem wt_arg {H : Type} {P : Program} {ts : List TypeId} {ds : List (DataW H)} {j : Nat} {t : TypeId} {d : DataW H} (h : (DataW.weightsEach P ts ds).all (· ≤ reachBytes) = true) (ht : ts[j]? = some t) (hd : ds[j]? = some d) : ∀ n ∈ d.weights P t, n ≤ reachBytes := by
  intro n hn
  have := List.all_eq_true.1 h _ (DataW.weights_mem_each ht hd n hn)
  simpa using this
section
variable {H : Type} {enc : TypeId × Value → H} {P : Program} {w : World} {base : Nat} {spare : Nat → Bool} {held : Bool}
theorem open_agg5 {r : Reach} {b0 : Nat} {t : TypeId} {f0 f1 f2 f3 f4 : Field} {v : Value} {d : DataW H} {p : List MemPlace} (hs : P.underlying t = some (.struct #[f0, f1, f2, f3, f4])) (hone : oneCellFields P #[f0, f1, f2, f3, f4] = true) (hC : P.cellsOf t = 5)
    (hv : Value.okWide P w r b0 t v) (h : DataW.Trod enc P w base spare held t v d p) :
    ∃ (v0 v1 v2 v3 v4 : Value) (y0 y1 y2 y3 y4 : DataW H × List MemPlace) (n : Nat), v = .agg #[v0, v1, v2, v3, v4] ∧ d = .agg [y0.1, y1.1, y2.1, y3.1, y4.1] ∧ p = y0.2 ++ (y1.2 ++ (y2.2 ++ (y3.2 ++ y4.2))) ∧
      DataW.trod enc P w base spare held n f0.type [v0] = some y0 ∧ DataW.trod enc P w base spare held n f1.type [v1] = some y1 ∧ DataW.trod enc P w base spare held n f2.type [v2] = some y2 ∧ DataW.trod enc P w base spare held n f3.type [v3] = some y3 ∧ DataW.trod enc P w base spare held n f4.type [v4] = some y4 := by
  obtain ⟨cs, rfl, hsz⟩ := okWide_struct hs hv
  obtain ⟨l⟩ := cs
  match l, hsz.trans hC with
  | [c0, c1, c2, c3, c4], _ =>
    obtain ⟨fuel, hf⟩ := h
    obtain ⟨xs, n, _, hx, _, hlen, hg⟩ := DataW.trod_struct hs hf
    obtain ⟨o0, k0⟩ := hone_of hone 0 f0 rfl
    obtain ⟨o1, k1⟩ := hone_of hone 1 f1 rfl
    obtain ⟨o2, k2⟩ := hone_of hone 2 f2 rfl
    obtain ⟨o3, k3⟩ := hone_of hone 3 f3 rfl
    obtain ⟨o4, k4⟩ := hone_of hone 4 f4 rfl
    match xs, hlen with
    | [y0, y1, y2, y3, y4], _ =>
      simp only [Prod.mk.injEq] at hx
      exact ⟨c0, c1, c2, c3, c4, y0, y1, y2, y3, y4, n, rfl, by simpa using hx.1, by simpa using hx.2, by simpa [Value.cells, o0, k0] using hg 0 f0 rfl, by simpa [Value.cells, o1, k1] using hg 1 f1 rfl, by simpa [Value.cells, o2, k2] using hg 2 f2 rfl, by simpa [Value.cells, o3, k3] using hg 3 f3 rfl, by simpa [Value.cells, o4, k4] using hg 4 f4 rfl⟩
theorem open_agg6 {r : Reach} {b0 : Nat} {t : TypeId} {f0 f1 f2 f3 f4 f5 : Field} {v : Value} {d : DataW H} {p : List MemPlace} (hs : P.underlying t = some (.struct #[f0, f1, f2, f3, f4, f5])) (hone : oneCellFields P #[f0, f1, f2, f3, f4, f5] = true) (hC : P.cellsOf t = 6)
    (hv : Value.okWide P w r b0 t v) (h : DataW.Trod enc P w base spare held t v d p) :
    ∃ (v0 v1 v2 v3 v4 v5 : Value) (y0 y1 y2 y3 y4 y5 : DataW H × List MemPlace) (n : Nat), v = .agg #[v0, v1, v2, v3, v4, v5] ∧ d = .agg [y0.1, y1.1, y2.1, y3.1, y4.1, y5.1] ∧ p = y0.2 ++ (y1.2 ++ (y2.2 ++ (y3.2 ++ (y4.2 ++ y5.2)))) ∧
      DataW.trod enc P w base spare held n f0.type [v0] = some y0 ∧ DataW.trod enc P w base spare held n f1.type [v1] = some y1 ∧ DataW.trod enc P w base spare held n f2.type [v2] = some y2 ∧ DataW.trod enc P w base spare held n f3.type [v3] = some y3 ∧ DataW.trod enc P w base spare held n f4.type [v4] = some y4 ∧ DataW.trod enc P w base spare held n f5.type [v5] = some y5 := by
  obtain ⟨cs, rfl, hsz⟩ := okWide_struct hs hv
  obtain ⟨l⟩ := cs
  match l, hsz.trans hC with
  | [c0, c1, c2, c3, c4, c5], _ =>
    obtain ⟨fuel, hf⟩ := h
    obtain ⟨xs, n, _, hx, _, hlen, hg⟩ := DataW.trod_struct hs hf
    obtain ⟨o0, k0⟩ := hone_of hone 0 f0 rfl
    obtain ⟨o1, k1⟩ := hone_of hone 1 f1 rfl
    obtain ⟨o2, k2⟩ := hone_of hone 2 f2 rfl
    obtain ⟨o3, k3⟩ := hone_of hone 3 f3 rfl
    obtain ⟨o4, k4⟩ := hone_of hone 4 f4 rfl
    obtain ⟨o5, k5⟩ := hone_of hone 5 f5 rfl
    match xs, hlen with
    | [y0, y1, y2, y3, y4, y5], _ =>
      simp only [Prod.mk.injEq] at hx
      exact ⟨c0, c1, c2, c3, c4, c5, y0, y1, y2, y3, y4, y5, n, rfl, by simpa using hx.1, by simpa using hx.2, by simpa [Value.cells, o0, k0] using hg 0 f0 rfl, by simpa [Value.cells, o1, k1] using hg 1 f1 rfl, by simpa [Value.cells, o2, k2] using hg 2 f2 rfl, by simpa [Value.cells, o3, k3] using hg 3 f3 rfl, by simpa [Value.cells, o4, k4] using hg 4 f4 rfl, by simpa [Value.cells, o5, k5] using hg 5 f5 rfl⟩
end

end Go.Proofs.Ytjbejbehbjhecaa.Opn
namespace Go.Proofs.Ytjbejbehbjhecaa.O21p
open Go.RowKit Go.Proofs.YtjbejbehbjhecaaW.PrintWords Go.Proofs.YtjbejbehbjhecaaW.PrintLast Go.Proofs.YtjbejbehbjhecaaW.PrintMore Go.Proofs.Ytjbejbehbjhecaa.Opn Go.Proofs.Ytjbejbehbjhecaa.Q21p
open Go.Joins Go.ChangeShapes Go.WideShapes Go.Deep
set_option linter.unusedVariables false

def R41 (x : S41) : Prop := (Lit.int .i64 x.f0).wf = true ∧ (Lit.int .i64 x.f1).wf = true ∧ (x.f2.length * 8 ≤ 140737488351232 ∧ x.f2.length ≤ maxLen ∧ ∀ y ∈ x.f2, (Lit.int .i64 y).wf = true)
set_option maxRecDepth 100000 in
theorem opn41 : Opn Try.prog 41 k41 R41 := by
  intro H enc w base spare held fuel cs x h hw
  obtain ⟨xs, n, _, rfl, hl, hlen, hf⟩ := DataW.trod_struct Try.underlying41 h
  have hl' : cs.length = 3 := hl.trans (by kernel_rfl)
  match cs, hl', xs, hlen with
  | [c0, c1, c2], _, [y0, y1, y2], _ =>
    have g0 : DataW.trod enc Try.prog w base spare held n 3 [c0] = some y0 := by
      have hk : Try.prog.cellsOf 3 = 1 := by kernel_rfl
      have z : DataW.trod enc Try.prog w base spare held n 3 ((([c0, c1, c2] : List Value).drop 0).take (Try.prog.cellsOf 3)) = some y0 := hf 0 _ rfl
      rw [hk] at z
      exact z
    obtain ⟨a0, e0, r0⟩ := (opn_int Try.underlying3) g0 (wt_field (j := 0) Try.underlying41 hw rfl rfl)
    have g1 : DataW.trod enc Try.prog w base spare held n 3 [c1] = some y1 := by
      have hk : Try.prog.cellsOf 3 = 1 := by kernel_rfl
      have z : DataW.trod enc Try.prog w base spare held n 3 ((([c0, c1, c2] : List Value).drop 1).take (Try.prog.cellsOf 3)) = some y1 := hf 1 _ rfl
      rw [hk] at z
      exact z
    obtain ⟨a1, e1, r1⟩ := (opn_int Try.underlying3) g1 (wt_field (j := 1) Try.underlying41 hw rfl rfl)
    have g2 : DataW.trod enc Try.prog w base spare held n 39 [c2] = some y2 := by
      have hk : Try.prog.cellsOf 39 = 1 := by kernel_rfl
      have z : DataW.trod enc Try.prog w base spare held n 39 ((([c0, c1, c2] : List Value).drop 2).take (Try.prog.cellsOf 39)) = some y2 := hf 2 _ rfl
      rw [hk] at z
      exact z
    obtain ⟨a2, e2, r2⟩ := (opn_slice (d := (Kd.int .i64)) (B := 8) Try.underlying39 (by kernel_rfl) (by kernel_rfl) (opn_int Try.underlying3)) g2 (wt_field (j := 2) Try.underlying41 hw rfl rfl)
    exact ⟨⟨a0, a1, a2⟩, ⟨[c0], [c1, c2], rfl, e0, ⟨[c1], [c2], rfl, e1, e2⟩⟩, ⟨r0, r1, r2⟩⟩

end Go.Proofs.Ytjbejbehbjhecaa.O21p
namespace Go.Proofs.Ytjbejbehbjhecaa.Opn
open Go.RowKit Go.Proofs.YtjbejbehbjhecaaW.PrintWords Go.Proofs.YtjbejbehbjhecaaW.PrintLast Go.Proofs.YtjbejbehbjhecaaW.PrintMore
open Go.Joins Go.ChangeShapes Go.WideShapes Go.Deep
set_option linter.unusedVariables false
section
variable {H : Type} {enc : TypeId × Value → H} {P : Program} {w : World} {base : Nat} {spare : Nat → Bool} {held : Bool}
theorem row_open {e e2 : TypeId} (he : P.underlying e = some (.array 4 e2)) (h2 : P.underlying e2 = some (.int .i64)) (hc2 : P.cellsOf e2 = 1) {m : Nat} {c0 c1 c2 c3 : Value} {y : DataW H × List MemPlace}
    (h : DataW.trod enc P w base spare held m e [c0, c1, c2, c3] = some y) : ∃ a : Nat → Int, c0 = .int .i64 (a 0) ∧ c1 = .int .i64 (a 1) ∧ c2 = .int .i64 (a 2) ∧ c3 = .int .i64 (a 3) ∧ ∀ j, j < 4 → (Lit.int .i64 (a j)).wf = true := by
  obtain ⟨xs, q, _, _, _, hlen, hg⟩ := DataW.trod_array he h
  match xs, hlen with
  | [y0, y1, y2, y3], _ =>
    have g0 : DataW.trod enc P w base spare held q e2 [c0] = some y0 := by have := hg 0 (by decide); rw [hc2] at this; exact this
    have g1 : DataW.trod enc P w base spare held q e2 [c1] = some y1 := by have := hg 1 (by decide); rw [hc2] at this; exact this
    have g2 : DataW.trod enc P w base spare held q e2 [c2] = some y2 := by have := hg 2 (by decide); rw [hc2] at this; exact this
    have g3 : DataW.trod enc P w base spare held q e2 [c3] = some y3 := by have := hg 3 (by decide); rw [hc2] at this; exact this
    obtain ⟨a0, e0, _, w0⟩ := DataW.trod_int h2 g0
    obtain ⟨a1, e1, _, w1⟩ := DataW.trod_int h2 g1
    obtain ⟨a2, e2, _, w2⟩ := DataW.trod_int h2 g2
    obtain ⟨a3, e3, _, w3⟩ := DataW.trod_int h2 g3
    refine ⟨fun j => match j with | 0 => a0 | 1 => a1 | 2 => a2 | _ => a3, by simpa using e0, by simpa using e1, by simpa using e2, by simpa using e3, fun j hj => ?_⟩
    obtain rfl | rfl | rfl | rfl : j = 0 ∨ j = 1 ∨ j = 2 ∨ j = 3 := by omega
    all_goals assumption
theorem open_arr {r : Reach} {b0 : Nat} {t e e2 : TypeId} {v : Value} {d : DataW H} {p : List MemPlace} (ht : P.underlying t = some (.array 4 e)) (he : P.underlying e = some (.array 4 e2)) (h2 : P.underlying e2 = some (.int .i64)) (hc : P.cellsOf t = 16) (hce : P.cellsOf e = 4) (hc2 : P.cellsOf e2 = 1)
    (hv : Value.okWide P w r b0 t v) (h : DataW.Trod enc P w base spare held t v d p) :
    ∃ a : Nat → Nat → Int, v = .agg #[.int .i64 (a 0 0), .int .i64 (a 0 1), .int .i64 (a 0 2), .int .i64 (a 0 3), .int .i64 (a 1 0), .int .i64 (a 1 1), .int .i64 (a 1 2), .int .i64 (a 1 3), .int .i64 (a 2 0), .int .i64 (a 2 1), .int .i64 (a 2 2), .int .i64 (a 2 3), .int .i64 (a 3 0), .int .i64 (a 3 1), .int .i64 (a 3 2), .int .i64 (a 3 3)] ∧
      ∀ i j, i < 4 → j < 4 → (Lit.int .i64 (a i j)).wf = true := by
  simp only [Value.okWide, ht] at hv
  obtain ⟨cs, rfl, hsz, _⟩ := hv
  obtain ⟨l⟩ := cs
  match l, hsz.trans hc with
  | [c0, c1, c2, c3, c4, c5, c6, c7, c8, c9, c10, c11, c12, c13, c14, c15], _ =>
    obtain ⟨fuel, hf⟩ := h
    obtain ⟨xs, q, _, _, _, hlen, hg⟩ := DataW.trod_array ht hf
    match xs, hlen with
    | [y0, y1, y2, y3], _ =>
      have g0 : DataW.trod enc P w base spare held q e [c0, c1, c2, c3] = some y0 := by have := hg 0 (by decide); rw [hce] at this; exact this
      have g1 : DataW.trod enc P w base spare held q e [c4, c5, c6, c7] = some y1 := by have := hg 1 (by decide); rw [hce] at this; exact this
      have g2 : DataW.trod enc P w base spare held q e [c8, c9, c10, c11] = some y2 := by have := hg 2 (by decide); rw [hce] at this; exact this
      have g3 : DataW.trod enc P w base spare held q e [c12, c13, c14, c15] = some y3 := by have := hg 3 (by decide); rw [hce] at this; exact this
      obtain ⟨a0, rfl, rfl, rfl, rfl, w0⟩ := row_open he h2 hc2 g0
      obtain ⟨a1, rfl, rfl, rfl, rfl, w1⟩ := row_open he h2 hc2 g1
      obtain ⟨a2, rfl, rfl, rfl, rfl, w2⟩ := row_open he h2 hc2 g2
      obtain ⟨a3, rfl, rfl, rfl, rfl, w3⟩ := row_open he h2 hc2 g3
      refine ⟨fun i => match i with | 0 => a0 | 1 => a1 | 2 => a2 | _ => a3, rfl, fun i j hi hj => ?_⟩
      obtain rfl | rfl | rfl | rfl : i = 0 ∨ i = 1 ∨ i = 2 ∨ i = 3 := by omega
      · exact w0 j hj
      · exact w1 j hj
      · exact w2 j hj
      · exact w3 j hj
end
end Go.Proofs.Ytjbejbehbjhecaa.Opn
