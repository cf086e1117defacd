/- Written by a program of this session out of the print of the loaded functions: each Go function as a plain function, and that its call comes to it; for a law, the row out of its plain statement. -/
import Derived.Test.YtdmnfmkeifjmlaaQ17x0
import Derived.Test.YtdmnfmkeifjmlaaQ17x117
import Derived.Test.YtdmnfmkeifjmlaaQ17x124
namespace Go.Proofs.Ytdmnfmkeifjmlaa.Q17
open Go.RowKit Go.Proofs.YtdmnfmkeifjmlaaW.PrintWords Go.Proofs.YtdmnfmkeifjmlaaW.PrintLast Go.Proofs.YtdmnfmkeifjmlaaW.PrintMore
attribute [local go_sem] max2_int min2_int max_two min_two max_three min_three max_four min_four   -- for this text's walks alone
set_option linter.unusedVariables false
set_option linter.unusedSimpArgs false

/-! ### watchwordlaw17_awake: function 26 -/
def watchwordlaw17_awake.f (k : Nat)  : Option (Bool) := (newer_Compare.f k 2 5 0 9 2 6 0 9).bind fun bt139 => ((newer_Compare.f k 2 5 0 10 2 5 0 9).bind fun bt141 => ((newer_Compare.f k 2 5 60 9 2 5 0 9).bind fun bt143 => ((newer_Compare.f k 2 5 0 9 2 5 0 9).bind fun bt145 => ((newer_Compare.f k 2 5 0 9 0 0 0 0).bind fun bt147 => (if bt139.1 = (-1) then ((watchwordlaw0_Num.f bt139.2).bind fun t149 => (if t149 = 0 then (if bt141.1 = 1 then ((watchwordlaw0_Num.f bt141.2).bind fun t150 => (if t150 = 0 then (if bt143.1 = 1 then ((watchwordlaw0_Num.f bt143.2).bind fun t151 => (if t151 = 0 then (if bt145.1 = 0 then ((watchwordlaw0_Num.f bt145.2).bind fun t152 => (if t152 = 0 then ((watchwordlaw0_Num.f bt147.2).bind fun t153 => (some (t153 == 1700))) else (some false))) else (some false)) else (some false))) else (some false)) else (some false))) else (some false)) else (some false))) else (some false))))))
theorem watchwordlaw17_awake.mono : ∀ k, LeO (watchwordlaw17_awake.f k ) (watchwordlaw17_awake.f (k + 1) ) := by
  intro  k
  unfold watchwordlaw17_awake.f
  repeat' first
      | (with_reducible exact newer_Compare.mono _ _ _ _ _ _ _ _ _)
      | (with_reducible exact LeO.refl _)
      | (with_reducible exact LeO.none _)
      | (with_reducible refine LeO.ite ?_ ?_)
      | (with_reducible refine LeO.bind ?_ (fun _ => ?_))
      | exact newer_Compare.mono _ _ _ _ _ _ _ _ _
      | exact LeO.none _
      | refine LeO.ite ?_ ?_
      | refine LeO.bind ?_ (fun _ => ?_)
def watchwordlaw17_awake.T2 : Bool × List (List Nat × List Nat) := (true, [([], []), ([], []), ([], []), ([], []), ([], []), ([], []), ([3, 0, 0, 3, 4, 5], [0, 3]), ([4, 1, 6, 0, 1, 3, 4, 5, 6], [1, 4]), ([5, 2, 7, 0, 1, 2, 3, 4, 5, 6, 7], [2, 5])])
def watchwordlaw17_awake.B2 : List Nat := [0, 0, 0, 0, 0, 0, 57, 123, 255]
theorem watchwordlaw17_awake.tab2 : rtab .any (opsOf Try.f26 2) = watchwordlaw17_awake.T2 := by kernel_rfl
theorem watchwordlaw17_awake.bits2 : waitsOk watchwordlaw17_awake.T2.2 watchwordlaw17_awake.B2 = true := by kernel_rfl
set_option maxHeartbeats 8000000 in
set_option maxRecDepth 100000 in
theorem watchwordlaw17_awake.calls (k : Nat)  (r : Bool) (w : World) (h : watchwordlaw17_awake.f k  = some r) (hT : r = true) :
    Calls Try.prog 26 #[] w fun e w' => e = .returned (.bool r) ∧ Below w.heap.size w w' := by
  have hu40 := Try.underlying40
  have HB := Aside0.mk (Below.refl w.heap.size w)
  have HT := Aside0.mk hT
  clear hT
  have H : ((newer_Compare.f k 2 5 0 9 2 6 0 9).bind fun bt139 => ((newer_Compare.f k 2 5 0 10 2 5 0 9).bind fun bt141 => ((newer_Compare.f k 2 5 60 9 2 5 0 9).bind fun bt143 => ((newer_Compare.f k 2 5 0 9 2 5 0 9).bind fun bt145 => ((newer_Compare.f k 2 5 0 9 0 0 0 0).bind fun bt147 => (if bt139.1 = (-1) then ((watchwordlaw0_Num.f bt139.2).bind fun t149 => (if t149 = 0 then (if bt141.1 = 1 then ((watchwordlaw0_Num.f bt141.2).bind fun t150 => (if t150 = 0 then (if bt143.1 = 1 then ((watchwordlaw0_Num.f bt143.2).bind fun t151 => (if t151 = 0 then (if bt145.1 = 0 then ((watchwordlaw0_Num.f bt145.2).bind fun t152 => (if t152 = 0 then ((watchwordlaw0_Num.f bt147.2).bind fun t153 => (some (t153 == 1700))) else (some false))) else (some false)) else (some false))) else (some false)) else (some false))) else (some false)) else (some false))) else (some false))))))) = some r := h
  clear h
  replace H := Option.bind_eq_some_iff.mp H
  obtain ⟨⟨t139, t140⟩, A10, H⟩ := H
  replace H : ((newer_Compare.f k 2 5 0 10 2 5 0 9).bind fun bt141 => ((newer_Compare.f k 2 5 60 9 2 5 0 9).bind fun bt143 => ((newer_Compare.f k 2 5 0 9 2 5 0 9).bind fun bt145 => ((newer_Compare.f k 2 5 0 9 0 0 0 0).bind fun bt147 => (if t139 = (-1) then ((watchwordlaw0_Num.f t140).bind fun t149 => (if t149 = 0 then (if bt141.1 = 1 then ((watchwordlaw0_Num.f bt141.2).bind fun t150 => (if t150 = 0 then (if bt143.1 = 1 then ((watchwordlaw0_Num.f bt143.2).bind fun t151 => (if t151 = 0 then (if bt145.1 = 0 then ((watchwordlaw0_Num.f bt145.2).bind fun t152 => (if t152 = 0 then ((watchwordlaw0_Num.f bt147.2).bind fun t153 => (some (t153 == 1700))) else (some false))) else (some false)) else (some false))) else (some false)) else (some false))) else (some false)) else (some false))) else (some false)))))) = some r := H
  have A1 := Aside0.mk A10
  clear A10
  replace H := Option.bind_eq_some_iff.mp H
  obtain ⟨⟨t141, t142⟩, A20, H⟩ := H
  replace H : ((newer_Compare.f k 2 5 60 9 2 5 0 9).bind fun bt143 => ((newer_Compare.f k 2 5 0 9 2 5 0 9).bind fun bt145 => ((newer_Compare.f k 2 5 0 9 0 0 0 0).bind fun bt147 => (if t139 = (-1) then ((watchwordlaw0_Num.f t140).bind fun t149 => (if t149 = 0 then (if t141 = 1 then ((watchwordlaw0_Num.f t142).bind fun t150 => (if t150 = 0 then (if bt143.1 = 1 then ((watchwordlaw0_Num.f bt143.2).bind fun t151 => (if t151 = 0 then (if bt145.1 = 0 then ((watchwordlaw0_Num.f bt145.2).bind fun t152 => (if t152 = 0 then ((watchwordlaw0_Num.f bt147.2).bind fun t153 => (some (t153 == 1700))) else (some false))) else (some false)) else (some false))) else (some false)) else (some false))) else (some false)) else (some false))) else (some false))))) = some r := H
  have A2 := Aside0.mk A20
  clear A20
  replace H := Option.bind_eq_some_iff.mp H
  obtain ⟨⟨t143, t144⟩, A30, H⟩ := H
  replace H : ((newer_Compare.f k 2 5 0 9 2 5 0 9).bind fun bt145 => ((newer_Compare.f k 2 5 0 9 0 0 0 0).bind fun bt147 => (if t139 = (-1) then ((watchwordlaw0_Num.f t140).bind fun t149 => (if t149 = 0 then (if t141 = 1 then ((watchwordlaw0_Num.f t142).bind fun t150 => (if t150 = 0 then (if t143 = 1 then ((watchwordlaw0_Num.f t144).bind fun t151 => (if t151 = 0 then (if bt145.1 = 0 then ((watchwordlaw0_Num.f bt145.2).bind fun t152 => (if t152 = 0 then ((watchwordlaw0_Num.f bt147.2).bind fun t153 => (some (t153 == 1700))) else (some false))) else (some false)) else (some false))) else (some false)) else (some false))) else (some false)) else (some false))) else (some false)))) = some r := H
  have A3 := Aside0.mk A30
  clear A30
  replace H := Option.bind_eq_some_iff.mp H
  obtain ⟨⟨t145, t146⟩, A40, H⟩ := H
  replace H : ((newer_Compare.f k 2 5 0 9 0 0 0 0).bind fun bt147 => (if t139 = (-1) then ((watchwordlaw0_Num.f t140).bind fun t149 => (if t149 = 0 then (if t141 = 1 then ((watchwordlaw0_Num.f t142).bind fun t150 => (if t150 = 0 then (if t143 = 1 then ((watchwordlaw0_Num.f t144).bind fun t151 => (if t151 = 0 then (if t145 = 0 then ((watchwordlaw0_Num.f t146).bind fun t152 => (if t152 = 0 then ((watchwordlaw0_Num.f bt147.2).bind fun t153 => (some (t153 == 1700))) else (some false))) else (some false)) else (some false))) else (some false)) else (some false))) else (some false)) else (some false))) else (some false))) = some r := H
  have A4 := Aside0.mk A40
  clear A40
  replace H := Option.bind_eq_some_iff.mp H
  obtain ⟨⟨t147, t148⟩, A50, H⟩ := H
  replace H : (if t139 = (-1) then ((watchwordlaw0_Num.f t140).bind fun t149 => (if t149 = 0 then (if t141 = 1 then ((watchwordlaw0_Num.f t142).bind fun t150 => (if t150 = 0 then (if t143 = 1 then ((watchwordlaw0_Num.f t144).bind fun t151 => (if t151 = 0 then (if t145 = 0 then ((watchwordlaw0_Num.f t146).bind fun t152 => (if t152 = 0 then ((watchwordlaw0_Num.f t148).bind fun t153 => (some (t153 == 1700))) else (some false))) else (some false)) else (some false))) else (some false)) else (some false))) else (some false)) else (some false))) else (some false)) = some r := H
  have A5 := Aside0.mk A50
  clear A50
  by_cases c6 : t139 = (-1)
  · rw [if_pos c6] at H
    have c6b0 : (t139 == (-1)) = true := beq_iff_eq.mpr c6
    have c6b1 : (t139 != (-1)) = false := bne_eq_false_iff_eq.mpr c6
    clear c6
    replace H := Option.bind_eq_some_iff.mp H
    obtain ⟨t149, A70, H⟩ := H
    replace H : (if t149 = 0 then (if t141 = 1 then ((watchwordlaw0_Num.f t142).bind fun t150 => (if t150 = 0 then (if t143 = 1 then ((watchwordlaw0_Num.f t144).bind fun t151 => (if t151 = 0 then (if t145 = 0 then ((watchwordlaw0_Num.f t146).bind fun t152 => (if t152 = 0 then ((watchwordlaw0_Num.f t148).bind fun t153 => (some (t153 == 1700))) else (some false))) else (some false)) else (some false))) else (some false)) else (some false))) else (some false)) else (some false)) = some r := H
    have A7 := Aside0.mk A70
    clear A70
    by_cases c8 : t149 = 0
    · rw [if_pos c8] at H
      have c8b0 : (t149 == 0) = true := beq_iff_eq.mpr c8
      have c8b1 : (t149 != 0) = false := bne_eq_false_iff_eq.mpr c8
      clear c8
      by_cases c9 : t141 = 1
      · rw [if_pos c9] at H
        have c9b0 : (t141 == 1) = true := beq_iff_eq.mpr c9
        have c9b1 : (t141 != 1) = false := bne_eq_false_iff_eq.mpr c9
        clear c9
        replace H := Option.bind_eq_some_iff.mp H
        obtain ⟨t150, A100, H⟩ := H
        replace H : (if t150 = 0 then (if t143 = 1 then ((watchwordlaw0_Num.f t144).bind fun t151 => (if t151 = 0 then (if t145 = 0 then ((watchwordlaw0_Num.f t146).bind fun t152 => (if t152 = 0 then ((watchwordlaw0_Num.f t148).bind fun t153 => (some (t153 == 1700))) else (some false))) else (some false)) else (some false))) else (some false)) else (some false)) = some r := H
        have A10 := Aside0.mk A100
        clear A100
        by_cases c11 : t150 = 0
        · rw [if_pos c11] at H
          have c11b0 : (t150 == 0) = true := beq_iff_eq.mpr c11
          have c11b1 : (t150 != 0) = false := bne_eq_false_iff_eq.mpr c11
          clear c11
          by_cases c12 : t143 = 1
          · rw [if_pos c12] at H
            have c12b0 : (t143 == 1) = true := beq_iff_eq.mpr c12
            have c12b1 : (t143 != 1) = false := bne_eq_false_iff_eq.mpr c12
            clear c12
            replace H := Option.bind_eq_some_iff.mp H
            obtain ⟨t151, A130, H⟩ := H
            replace H : (if t151 = 0 then (if t145 = 0 then ((watchwordlaw0_Num.f t146).bind fun t152 => (if t152 = 0 then ((watchwordlaw0_Num.f t148).bind fun t153 => (some (t153 == 1700))) else (some false))) else (some false)) else (some false)) = some r := H
            have A13 := Aside0.mk A130
            clear A130
            by_cases c14 : t151 = 0
            · rw [if_pos c14] at H
              have c14b0 : (t151 == 0) = true := beq_iff_eq.mpr c14
              have c14b1 : (t151 != 0) = false := bne_eq_false_iff_eq.mpr c14
              clear c14
              by_cases c15 : t145 = 0
              · rw [if_pos c15] at H
                have c15b0 : (t145 == 0) = true := beq_iff_eq.mpr c15
                have c15b1 : (t145 != 0) = false := bne_eq_false_iff_eq.mpr c15
                clear c15
                replace H := Option.bind_eq_some_iff.mp H
                obtain ⟨t152, A160, H⟩ := H
                replace H : (if t152 = 0 then ((watchwordlaw0_Num.f t148).bind fun t153 => (some (t153 == 1700))) else (some false)) = some r := H
                have A16 := Aside0.mk A160
                clear A160
                by_cases c17 : t152 = 0
                · rw [if_pos c17] at H
                  have c17b0 : (t152 == 0) = true := beq_iff_eq.mpr c17
                  have c17b1 : (t152 != 0) = false := bne_eq_false_iff_eq.mpr c17
                  clear c17
                  replace H := Option.bind_eq_some_iff.mp H
                  obtain ⟨t153, A180, H⟩ := H
                  replace H : (some (t153 == 1700)) = some r := H
                  have A18 := Aside0.mk A180
                  clear A180
                  obtain rfl := Option.some.inj H
                  go_enter Try.func26, Try.ntmps26
                  try go_wp2_with (first | ((with_reducible refine gate_dst (N := 1) rfl ?_); refine box_event ?hg (N := 1) ?hd (cs := #[.int .i64 0, .int .i64 0, .int .i64 0, .int .i64 0]) (t := 40) ?hr ?_; (case hd => rfl); (case hg => rfl); (case hr => first | (go_simp; done) | (go_simp; rfl)); intro gb135 hg w19 hbox hb; have n0_ := Aside0.mk (below_step (by repeat (first | (with_reducible first | exact HB.out | apply below_alloc | apply pw_below_drewN | apply below_drew1) | exact HB.out)) hb); have n1_ := Aside0.mk (hbox); have n2_ := Aside0.mk ((by rw [hg]; exact (below_size (by repeat (first | (with_reducible first | exact HB.out | apply below_alloc | apply pw_below_drewN | apply below_drew1) | exact HB.out))) : w.heap.size ≤ gb135)); have n3_ := Aside0.mk ((by rw [hg]; exact (below_size (by repeat (first | (with_reducible first | exact HB.out | apply below_alloc | apply pw_below_drewN | apply below_drew1) | exact HB.out))) : w.heap.size ≤ gb135)); clear HB; have HB := n0_; have BK135 := n1_; have GW135 := n2_; have GE135 := n3_; clear n0_ n1_ n2_ n3_; clear hb hbox hg; have hcz20_0 : w19.cell? ⟨gb135, 0, none⟩ = some (.int .i64 0) := (blk_cell BK135.out 0).trans rfl; have hcz20_1 : w19.cell? ⟨gb135, 1, none⟩ = some (.int .i64 0) := (blk_cell BK135.out 1).trans rfl; have hcz20_2 : w19.cell? ⟨gb135, 2, none⟩ = some (.int .i64 0) := (blk_cell BK135.out 2).trans rfl; have hcz20_3 : w19.cell? ⟨gb135, 3, none⟩ = some (.int .i64 0) := (blk_cell BK135.out 3).trans rfl; have hfz20_0 := blk_frozen BK135.out 0; have hfz20_1 := blk_frozen BK135.out 1; have hfz20_2 := blk_frozen BK135.out 2; have hfz20_3 := blk_frozen BK135.out 3))
                  have n0_ : Aside0 (((((w19.setCell ⟨gb135, 0, none⟩ (.int .i64 2)).setCell ⟨gb135, 1, none⟩ (.int .i64 5)).setCell ⟨gb135, 2, none⟩ (.int .i64 0)).setCell ⟨gb135, 3, none⟩ (.int .i64 9)).heap[gb135]? = some (.cells #[.int .i64 2, .int .i64 5, .int .i64 0, .int .i64 9] 40 (0, 0))) := ⟨by (with_reducible repeat (first | refine blk_drewN ?_ _ | refine blk_drew ?_ | refine blk_alloc ?_ _)); refine blk_put (cs := #[.int .i64 2, .int .i64 5, .int .i64 0, .int .i64 0]) ?_ 3 _ rfl; (with_reducible repeat (first | refine blk_drewN ?_ _ | refine blk_drew ?_ | refine blk_alloc ?_ _)); refine blk_put (cs := #[.int .i64 2, .int .i64 5, .int .i64 0, .int .i64 0]) ?_ 2 _ rfl; (with_reducible repeat (first | refine blk_drewN ?_ _ | refine blk_drew ?_ | refine blk_alloc ?_ _)); refine blk_put (cs := #[.int .i64 2, .int .i64 0, .int .i64 0, .int .i64 0]) ?_ 1 _ rfl; (with_reducible repeat (first | refine blk_drewN ?_ _ | refine blk_drew ?_ | refine blk_alloc ?_ _)); refine blk_put (cs := #[.int .i64 0, .int .i64 0, .int .i64 0, .int .i64 0]) ?_ 0 _ rfl; (with_reducible repeat (first | refine blk_drewN ?_ _ | refine blk_drew ?_ | refine blk_alloc ?_ _)); exact BK135.out⟩
                  have n1_ : Aside0 (Below w.heap.size w ((((w19.setCell ⟨gb135, 0, none⟩ (.int .i64 2)).setCell ⟨gb135, 1, none⟩ (.int .i64 5)).setCell ⟨gb135, 2, none⟩ (.int .i64 0)).setCell ⟨gb135, 3, none⟩ (.int .i64 9))) := ⟨by repeat (first | (with_reducible first | exact HB.out | apply below_alloc | apply pw_below_drewN | apply below_drew1 | refine below_set ?_ GE135.out) | exact HB.out)⟩
                  (try clear BK135)
                  (try clear HB)
                  generalize ((((w19.setCell ⟨gb135, 0, none⟩ (.int .i64 2)).setCell ⟨gb135, 1, none⟩ (.int .i64 5)).setCell ⟨gb135, 2, none⟩ (.int .i64 0)).setCell ⟨gb135, 3, none⟩ (.int .i64 9)) = w21 at n0_ n1_ ⊢
                  have BK135 := n0_
                  have HB := n1_
                  clear n0_ n1_
                  have n0_ := Aside0.mk (blk_drew BK135.out)
                  have n1_ := Aside0.mk (below_drew1 HB.out)
                  clear BK135
                  clear HB
                  have BK135 := n0_
                  have HB := n1_
                  clear n0_ n1_
                  refine start_ (n := 9) (S := fun w' => w'.cell? ⟨gb135, 0, none⟩ = some (.int .i64 2) ∧ w'.cell? ⟨gb135, 1, none⟩ = some (.int .i64 5) ∧ w'.cell? ⟨gb135, 2, none⟩ = some (.int .i64 0) ∧ w'.cell? ⟨gb135, 3, none⟩ = some (.int .i64 9)) (ds := []) #[false, false, false, false, false, false, false, false, false] (by kernel_rfl) rfl rfl ⟨(blk_cell BK135.out 0).trans rfl, (blk_cell BK135.out 1).trans rfl, (blk_cell BK135.out 2).trans rfl, (blk_cell BK135.out 3).trans rfl⟩ (fun hHeld => ?_); refine with_tabW watchwordlaw17_awake.tab2 watchwordlaw17_awake.bits2 (fun HT_ HW_ => ?_)
                  generalize w21.drew = w22 at BK135 HB hHeld ⊢
                  refine take_ (i := 0) (N := some 16) (v := ?_) (a' := ?_) #[true, false, false, false, false, false, false, false, false] rfl rfl (take_ofW HT_.out HW_.out (by kernel_rfl)) (fun _ _ _ h => h) (Or.inl ⟨by rfl, ?_⟩) hHeld ?_ ?_
                  rotate_left
                  · rintro w' ⟨s0, s1, s2, s3⟩
                    go_simp
                    with_reducible rfl
                  rotate_left
                  · simp only [Act.put, List.setIfInBounds_toArray, List.set_cons_zero, List.set_cons_succ, i64_w, i32_w]
                    rfl
                  refine take_ (i := 1) (N := some 17) (v := ?_) (a' := ?_) #[true, true, false, false, false, false, false, false, false] rfl rfl (take_ofW HT_.out HW_.out (by kernel_rfl)) (fun _ _ _ h => h) (Or.inl ⟨by rfl, ?_⟩) hHeld ?_ ?_
                  rotate_left
                  · rintro w' ⟨s0, s1, s2, s3⟩
                    go_simp
                    with_reducible rfl
                  rotate_left
                  · simp only [Act.put, List.setIfInBounds_toArray, List.set_cons_zero, List.set_cons_succ, i64_w, i32_w]
                    rfl
                  refine take_ (i := 2) (N := some 18) (v := ?_) (a' := ?_) #[true, true, true, false, false, false, false, false, false] rfl rfl (take_ofW HT_.out HW_.out (by kernel_rfl)) (fun _ _ _ h => h) (Or.inl ⟨by rfl, ?_⟩) hHeld ?_ ?_
                  rotate_left
                  · rintro w' ⟨s0, s1, s2, s3⟩
                    go_simp
                    with_reducible rfl
                  rotate_left
                  · simp only [Act.put, List.setIfInBounds_toArray, List.set_cons_zero, List.set_cons_succ, i64_w, i32_w]
                    rfl
                  refine join_ (σ := Nat × Nat × Nat) 3 #[true, true, true, true, true, true, false, false, false] (fun s_ => [(2, .pointer (some ⟨s_.1, 0, none⟩)), (3, .pointer (some ⟨s_.2.1, 0, none⟩)), (4, .pointer (some ⟨s_.2.2, 0, none⟩))]) (fun s_ w' => (w'.cell? ⟨gb135, 0, none⟩ = some (.int .i64 2) ∧ w'.cell? ⟨gb135, 1, none⟩ = some (.int .i64 5) ∧ w'.cell? ⟨gb135, 2, none⟩ = some (.int .i64 0) ∧ w'.cell? ⟨gb135, 3, none⟩ = some (.int .i64 9)) ∧ (w'.heap[gb135]? = some (.cells #[.int .i64 2, .int .i64 5, .int .i64 0, .int .i64 9] 40 (0, 0))) ∧ (w'.heap[s_.1]? = some (.cells #[.int .i64 0, .int .i64 0, .int .i64 0, .int .i64 0] 40 (0, 0))) ∧ (w'.heap[s_.2.1]? = some (.cells #[.int .i64 0, .int .i64 0, .int .i64 0, .int .i64 0] 40 (0, 0))) ∧ (w'.heap[s_.2.2]? = some (.cells #[.int .i64 0, .int .i64 0, .int .i64 0, .int .i64 0] 40 (0, 0))) ∧ (w.heap.size ≤ s_.1) ∧ (w.heap.size ≤ s_.1) ∧ (gb135 ≠ s_.1) ∧ (s_.1 ≠ gb135) ∧ (s_.2.1 ≠ s_.1) ∧ (s_.1 ≠ s_.2.1) ∧ (s_.2.2 ≠ s_.1) ∧ (s_.1 ≠ s_.2.2) ∧ (w.heap.size ≤ s_.2.1) ∧ (w.heap.size ≤ s_.2.1) ∧ (gb135 ≠ s_.2.1) ∧ (s_.2.1 ≠ gb135) ∧ (s_.2.2 ≠ s_.2.1) ∧ (s_.2.1 ≠ s_.2.2) ∧ (w.heap.size ≤ s_.2.2) ∧ (w.heap.size ≤ s_.2.2) ∧ (gb135 ≠ s_.2.2) ∧ (s_.2.2 ≠ gb135) ∧ (Below w.heap.size w w')) ?_ ?_
                  rotate_left
                  · intro hJ3_4_5
                    refine join_ (σ := Nat × Nat) 4 #[true, true, true, true, true, false, false, false, false] (fun s_ => [(2, .pointer (some ⟨s_.1, 0, none⟩)), (3, .pointer (some ⟨s_.2, 0, none⟩))]) (fun s_ w' => (w'.cell? ⟨gb135, 0, none⟩ = some (.int .i64 2) ∧ w'.cell? ⟨gb135, 1, none⟩ = some (.int .i64 5) ∧ w'.cell? ⟨gb135, 2, none⟩ = some (.int .i64 0) ∧ w'.cell? ⟨gb135, 3, none⟩ = some (.int .i64 9)) ∧ (w'.heap[gb135]? = some (.cells #[.int .i64 2, .int .i64 5, .int .i64 0, .int .i64 9] 40 (0, 0))) ∧ (w'.heap[s_.1]? = some (.cells #[.int .i64 0, .int .i64 0, .int .i64 0, .int .i64 0] 40 (0, 0))) ∧ (w'.heap[s_.2]? = some (.cells #[.int .i64 0, .int .i64 0, .int .i64 0, .int .i64 0] 40 (0, 0))) ∧ (w.heap.size ≤ s_.1) ∧ (w.heap.size ≤ s_.1) ∧ (gb135 ≠ s_.1) ∧ (s_.1 ≠ gb135) ∧ (s_.2 ≠ s_.1) ∧ (s_.1 ≠ s_.2) ∧ (w.heap.size ≤ s_.2) ∧ (w.heap.size ≤ s_.2) ∧ (gb135 ≠ s_.2) ∧ (s_.2 ≠ gb135) ∧ (Below w.heap.size w w')) ?_ ?_
                    rotate_left
                    · intro hJ3_4
                      refine join_ (σ := Nat × Nat) 4 #[true, true, true, true, false, true, false, false, false] (fun s_ => [(2, .pointer (some ⟨s_.1, 0, none⟩)), (4, .pointer (some ⟨s_.2, 0, none⟩))]) (fun s_ w' => (w'.cell? ⟨gb135, 0, none⟩ = some (.int .i64 2) ∧ w'.cell? ⟨gb135, 1, none⟩ = some (.int .i64 5) ∧ w'.cell? ⟨gb135, 2, none⟩ = some (.int .i64 0) ∧ w'.cell? ⟨gb135, 3, none⟩ = some (.int .i64 9)) ∧ (w'.heap[gb135]? = some (.cells #[.int .i64 2, .int .i64 5, .int .i64 0, .int .i64 9] 40 (0, 0))) ∧ (w'.heap[s_.1]? = some (.cells #[.int .i64 0, .int .i64 0, .int .i64 0, .int .i64 0] 40 (0, 0))) ∧ (w'.heap[s_.2]? = some (.cells #[.int .i64 0, .int .i64 0, .int .i64 0, .int .i64 0] 40 (0, 0))) ∧ (w.heap.size ≤ s_.1) ∧ (w.heap.size ≤ s_.1) ∧ (gb135 ≠ s_.1) ∧ (s_.1 ≠ gb135) ∧ (s_.2 ≠ s_.1) ∧ (s_.1 ≠ s_.2) ∧ (w.heap.size ≤ s_.2) ∧ (w.heap.size ≤ s_.2) ∧ (gb135 ≠ s_.2) ∧ (s_.2 ≠ gb135) ∧ (Below w.heap.size w w')) ?_ ?_
                      rotate_left
                      · intro hJ3_5
                        refine join_ (σ := Nat × Nat) 4 #[true, true, true, false, true, true, false, false, false] (fun s_ => [(3, .pointer (some ⟨s_.1, 0, none⟩)), (4, .pointer (some ⟨s_.2, 0, none⟩))]) (fun s_ w' => (w'.cell? ⟨gb135, 0, none⟩ = some (.int .i64 2) ∧ w'.cell? ⟨gb135, 1, none⟩ = some (.int .i64 5) ∧ w'.cell? ⟨gb135, 2, none⟩ = some (.int .i64 0) ∧ w'.cell? ⟨gb135, 3, none⟩ = some (.int .i64 9)) ∧ (w'.heap[gb135]? = some (.cells #[.int .i64 2, .int .i64 5, .int .i64 0, .int .i64 9] 40 (0, 0))) ∧ (w'.heap[s_.1]? = some (.cells #[.int .i64 0, .int .i64 0, .int .i64 0, .int .i64 0] 40 (0, 0))) ∧ (w'.heap[s_.2]? = some (.cells #[.int .i64 0, .int .i64 0, .int .i64 0, .int .i64 0] 40 (0, 0))) ∧ (w.heap.size ≤ s_.1) ∧ (w.heap.size ≤ s_.1) ∧ (gb135 ≠ s_.1) ∧ (s_.1 ≠ gb135) ∧ (s_.2 ≠ s_.1) ∧ (s_.1 ≠ s_.2) ∧ (w.heap.size ≤ s_.2) ∧ (w.heap.size ≤ s_.2) ∧ (gb135 ≠ s_.2) ∧ (s_.2 ≠ gb135) ∧ (Below w.heap.size w w')) ?_ ?_
                        rotate_left
                        · intro hJ4_5
                          refine join_ (σ := Nat) 5 #[true, true, true, true, false, false, false, false, false] (fun s_ => [(2, .pointer (some ⟨s_, 0, none⟩))]) (fun s_ w' => (w'.cell? ⟨gb135, 0, none⟩ = some (.int .i64 2) ∧ w'.cell? ⟨gb135, 1, none⟩ = some (.int .i64 5) ∧ w'.cell? ⟨gb135, 2, none⟩ = some (.int .i64 0) ∧ w'.cell? ⟨gb135, 3, none⟩ = some (.int .i64 9)) ∧ (w'.heap[gb135]? = some (.cells #[.int .i64 2, .int .i64 5, .int .i64 0, .int .i64 9] 40 (0, 0))) ∧ (w'.heap[s_]? = some (.cells #[.int .i64 0, .int .i64 0, .int .i64 0, .int .i64 0] 40 (0, 0))) ∧ (w.heap.size ≤ s_) ∧ (w.heap.size ≤ s_) ∧ (gb135 ≠ s_) ∧ (s_ ≠ gb135) ∧ (Below w.heap.size w w')) ?_ ?_
                          rotate_left
                          · intro hJ3
                            refine join_ (σ := Nat) 5 #[true, true, true, false, true, false, false, false, false] (fun s_ => [(3, .pointer (some ⟨s_, 0, none⟩))]) (fun s_ w' => (w'.cell? ⟨gb135, 0, none⟩ = some (.int .i64 2) ∧ w'.cell? ⟨gb135, 1, none⟩ = some (.int .i64 5) ∧ w'.cell? ⟨gb135, 2, none⟩ = some (.int .i64 0) ∧ w'.cell? ⟨gb135, 3, none⟩ = some (.int .i64 9)) ∧ (w'.heap[gb135]? = some (.cells #[.int .i64 2, .int .i64 5, .int .i64 0, .int .i64 9] 40 (0, 0))) ∧ (w'.heap[s_]? = some (.cells #[.int .i64 0, .int .i64 0, .int .i64 0, .int .i64 0] 40 (0, 0))) ∧ (w.heap.size ≤ s_) ∧ (w.heap.size ≤ s_) ∧ (gb135 ≠ s_) ∧ (s_ ≠ gb135) ∧ (Below w.heap.size w w')) ?_ ?_
                            rotate_left
                            · intro hJ4
                              refine join_ (σ := Nat) 5 #[true, true, true, false, false, true, false, false, false] (fun s_ => [(4, .pointer (some ⟨s_, 0, none⟩))]) (fun s_ w' => (w'.cell? ⟨gb135, 0, none⟩ = some (.int .i64 2) ∧ w'.cell? ⟨gb135, 1, none⟩ = some (.int .i64 5) ∧ w'.cell? ⟨gb135, 2, none⟩ = some (.int .i64 0) ∧ w'.cell? ⟨gb135, 3, none⟩ = some (.int .i64 9)) ∧ (w'.heap[gb135]? = some (.cells #[.int .i64 2, .int .i64 5, .int .i64 0, .int .i64 9] 40 (0, 0))) ∧ (w'.heap[s_]? = some (.cells #[.int .i64 0, .int .i64 0, .int .i64 0, .int .i64 0] 40 (0, 0))) ∧ (w.heap.size ≤ s_) ∧ (w.heap.size ≤ s_) ∧ (gb135 ≠ s_) ∧ (s_ ≠ gb135) ∧ (Below w.heap.size w w')) ?_ ?_
                              rotate_left
                              · intro hJ5
                                refine three_ (i := 3) (j := 4) (k := 5) (Ni := some 2) (Nj := some 3) (Nk := some 4) #[true, true, true, true, false, false, false, false, false] #[true, true, true, false, true, false, false, false, false] #[true, true, true, false, false, true, false, false, false] rfl rfl rfl rfl rfl rfl (three_of HT_.out (by kernel_rfl)) (by decide) (by decide) (by decide) (fun K hK => ?_) (fun K hK => ?_) (fun K hK => ?_)
                                · skip
                                  refine box_step ?hg (N := 2) ?hd (cs := #[.int .i64 0, .int .i64 0, .int .i64 0, .int .i64 0]) (t := 40) ?hr ?_; (case hd => rfl); (case hg => rfl); (case hr => first | (go_simp; done) | (go_simp; rfl))
                                  intro gb136 hg w23 hbox hb
                                  have n0_ := Aside0.mk (blk_below (g := gb135) (o := .cells #[.int .i64 2, .int .i64 5, .int .i64 0, .int .i64 9] 40 (0, 0)) (by (with_reducible repeat (first | refine blk_drewN ?_ _ | refine blk_drew ?_ | refine blk_alloc ?_ _)); exact BK135.out) hb)
                                  have n1_ := Aside0.mk (below_step (by repeat (first | (with_reducible first | exact HB.out | apply below_alloc | apply pw_below_drewN | apply below_drew1 | refine below_set ?_ GE135.out) | exact HB.out)) hb)
                                  have n2_ := Aside0.mk (hbox)
                                  have n3_ := Aside0.mk ((by rw [hg]; exact (below_size (by repeat (first | (with_reducible first | exact HB.out | apply below_alloc | apply pw_below_drewN | apply below_drew1 | refine below_set ?_ GE135.out) | exact HB.out))) : w.heap.size ≤ gb136))
                                  have n4_ := Aside0.mk ((by rw [hg]; exact (below_size (by repeat (first | (with_reducible first | exact HB.out | apply below_alloc | apply pw_below_drewN | apply below_drew1 | refine below_set ?_ GE135.out) | exact HB.out))) : w.heap.size ≤ gb136))
                                  have n5_ := Aside0.mk ((by rw [hg]; exact Nat.ne_of_lt (blk_lt (g := gb135) (o := .cells #[.int .i64 2, .int .i64 5, .int .i64 0, .int .i64 9] 40 (0, 0)) (by (with_reducible repeat (first | refine blk_drewN ?_ _ | refine blk_drew ?_ | refine blk_alloc ?_ _)); exact BK135.out)) : gb135 ≠ gb136))
                                  have n6_ := Aside0.mk ((by rw [hg]; exact Nat.ne_of_gt (blk_lt (g := gb135) (o := .cells #[.int .i64 2, .int .i64 5, .int .i64 0, .int .i64 9] 40 (0, 0)) (by (with_reducible repeat (first | refine blk_drewN ?_ _ | refine blk_drew ?_ | refine blk_alloc ?_ _)); exact BK135.out)) : gb136 ≠ gb135))
                                  clear BK135
                                  clear HB
                                  have BK135 := n0_
                                  have HB := n1_
                                  have BK136 := n2_
                                  have GW136 := n3_
                                  have GE136 := n4_
                                  have NB135_136 := n5_
                                  have NB136_135 := n6_
                                  clear n0_ n1_ n2_ n3_ n4_ n5_ n6_
                                  clear hb hbox hg
                                  refine hK.out _ _ ⟨(blk_cell BK135.out 0).trans rfl, (blk_cell BK135.out 1).trans rfl, (blk_cell BK135.out 2).trans rfl, (blk_cell BK135.out 3).trans rfl⟩ (fun hHeld => ?_)
                                  clear hK K
                                  refine norm_ (a' := ?_) ?_ ?_
                                  rotate_left
                                  · show Act.put _ (some 2) _ = _
                                    simp only [Act.put, List.setIfInBounds_toArray, List.set_cons_zero, List.set_cons_succ, i64_w, i32_w]
                                    rfl
                                  exact norm_ (by first | (simp only [putAll, Act.put, List.setIfInBounds_toArray, List.set_cons_zero, List.set_cons_succ]; done) | (simp only [putAll, Act.put, List.setIfInBounds_toArray, List.set_cons_zero, List.set_cons_succ]; rfl)) (hJ3 (gb136) _ ⟨hHeld, (by (with_reducible repeat (first | refine blk_drewN ?_ _ | refine blk_drew ?_ | refine blk_alloc ?_ _)); exact BK135.out), (by (with_reducible repeat (first | refine blk_drewN ?_ _ | refine blk_drew ?_ | refine blk_alloc ?_ _)); exact BK136.out), GW136.out, GE136.out, NB135_136.out, NB136_135.out, (by repeat (first | (with_reducible first | exact HB.out | apply below_alloc | apply pw_below_drewN | apply below_drew1 | refine below_set ?_ GE135.out | refine below_set ?_ GE136.out) | exact HB.out))⟩)
                                · skip
                                  refine box_step ?hg (N := 3) ?hd (cs := #[.int .i64 0, .int .i64 0, .int .i64 0, .int .i64 0]) (t := 40) ?hr ?_; (case hd => rfl); (case hg => rfl); (case hr => first | (go_simp; done) | (go_simp; rfl))
                                  intro gb137 hg w23 hbox hb
                                  have n0_ := Aside0.mk (blk_below (g := gb135) (o := .cells #[.int .i64 2, .int .i64 5, .int .i64 0, .int .i64 9] 40 (0, 0)) (by (with_reducible repeat (first | refine blk_drewN ?_ _ | refine blk_drew ?_ | refine blk_alloc ?_ _)); exact BK135.out) hb)
                                  have n1_ := Aside0.mk (below_step (by repeat (first | (with_reducible first | exact HB.out | apply below_alloc | apply pw_below_drewN | apply below_drew1 | refine below_set ?_ GE135.out) | exact HB.out)) hb)
                                  have n2_ := Aside0.mk (hbox)
                                  have n3_ := Aside0.mk ((by rw [hg]; exact (below_size (by repeat (first | (with_reducible first | exact HB.out | apply below_alloc | apply pw_below_drewN | apply below_drew1 | refine below_set ?_ GE135.out) | exact HB.out))) : w.heap.size ≤ gb137))
                                  have n4_ := Aside0.mk ((by rw [hg]; exact (below_size (by repeat (first | (with_reducible first | exact HB.out | apply below_alloc | apply pw_below_drewN | apply below_drew1 | refine below_set ?_ GE135.out) | exact HB.out))) : w.heap.size ≤ gb137))
                                  have n5_ := Aside0.mk ((by rw [hg]; exact Nat.ne_of_lt (blk_lt (g := gb135) (o := .cells #[.int .i64 2, .int .i64 5, .int .i64 0, .int .i64 9] 40 (0, 0)) (by (with_reducible repeat (first | refine blk_drewN ?_ _ | refine blk_drew ?_ | refine blk_alloc ?_ _)); exact BK135.out)) : gb135 ≠ gb137))
                                  have n6_ := Aside0.mk ((by rw [hg]; exact Nat.ne_of_gt (blk_lt (g := gb135) (o := .cells #[.int .i64 2, .int .i64 5, .int .i64 0, .int .i64 9] 40 (0, 0)) (by (with_reducible repeat (first | refine blk_drewN ?_ _ | refine blk_drew ?_ | refine blk_alloc ?_ _)); exact BK135.out)) : gb137 ≠ gb135))
                                  clear BK135
                                  clear HB
                                  have BK135 := n0_
                                  have HB := n1_
                                  have BK137 := n2_
                                  have GW137 := n3_
                                  have GE137 := n4_
                                  have NB135_137 := n5_
                                  have NB137_135 := n6_
                                  clear n0_ n1_ n2_ n3_ n4_ n5_ n6_
                                  clear hb hbox hg
                                  refine hK.out _ _ ⟨(blk_cell BK135.out 0).trans rfl, (blk_cell BK135.out 1).trans rfl, (blk_cell BK135.out 2).trans rfl, (blk_cell BK135.out 3).trans rfl⟩ (fun hHeld => ?_)
                                  clear hK K
                                  refine norm_ (a' := ?_) ?_ ?_
                                  rotate_left
                                  · show Act.put _ (some 3) _ = _
                                    simp only [Act.put, List.setIfInBounds_toArray, List.set_cons_zero, List.set_cons_succ, i64_w, i32_w]
                                    rfl
                                  exact norm_ (by first | (simp only [putAll, Act.put, List.setIfInBounds_toArray, List.set_cons_zero, List.set_cons_succ]; done) | (simp only [putAll, Act.put, List.setIfInBounds_toArray, List.set_cons_zero, List.set_cons_succ]; rfl)) (hJ4 (gb137) _ ⟨hHeld, (by (with_reducible repeat (first | refine blk_drewN ?_ _ | refine blk_drew ?_ | refine blk_alloc ?_ _)); exact BK135.out), (by (with_reducible repeat (first | refine blk_drewN ?_ _ | refine blk_drew ?_ | refine blk_alloc ?_ _)); exact BK137.out), GW137.out, GE137.out, NB135_137.out, NB137_135.out, (by repeat (first | (with_reducible first | exact HB.out | apply below_alloc | apply pw_below_drewN | apply below_drew1 | refine below_set ?_ GE135.out | refine below_set ?_ GE137.out) | exact HB.out))⟩)
                                · skip
                                  refine box_step ?hg (N := 4) ?hd (cs := #[.int .i64 0, .int .i64 0, .int .i64 0, .int .i64 0]) (t := 40) ?hr ?_; (case hd => rfl); (case hg => rfl); (case hr => first | (go_simp; done) | (go_simp; rfl))
                                  intro gb138 hg w23 hbox hb
                                  have n0_ := Aside0.mk (blk_below (g := gb135) (o := .cells #[.int .i64 2, .int .i64 5, .int .i64 0, .int .i64 9] 40 (0, 0)) (by (with_reducible repeat (first | refine blk_drewN ?_ _ | refine blk_drew ?_ | refine blk_alloc ?_ _)); exact BK135.out) hb)
                                  have n1_ := Aside0.mk (below_step (by repeat (first | (with_reducible first | exact HB.out | apply below_alloc | apply pw_below_drewN | apply below_drew1 | refine below_set ?_ GE135.out) | exact HB.out)) hb)
                                  have n2_ := Aside0.mk (hbox)
                                  have n3_ := Aside0.mk ((by rw [hg]; exact (below_size (by repeat (first | (with_reducible first | exact HB.out | apply below_alloc | apply pw_below_drewN | apply below_drew1 | refine below_set ?_ GE135.out) | exact HB.out))) : w.heap.size ≤ gb138))
                                  have n4_ := Aside0.mk ((by rw [hg]; exact (below_size (by repeat (first | (with_reducible first | exact HB.out | apply below_alloc | apply pw_below_drewN | apply below_drew1 | refine below_set ?_ GE135.out) | exact HB.out))) : w.heap.size ≤ gb138))
                                  have n5_ := Aside0.mk ((by rw [hg]; exact Nat.ne_of_lt (blk_lt (g := gb135) (o := .cells #[.int .i64 2, .int .i64 5, .int .i64 0, .int .i64 9] 40 (0, 0)) (by (with_reducible repeat (first | refine blk_drewN ?_ _ | refine blk_drew ?_ | refine blk_alloc ?_ _)); exact BK135.out)) : gb135 ≠ gb138))
                                  have n6_ := Aside0.mk ((by rw [hg]; exact Nat.ne_of_gt (blk_lt (g := gb135) (o := .cells #[.int .i64 2, .int .i64 5, .int .i64 0, .int .i64 9] 40 (0, 0)) (by (with_reducible repeat (first | refine blk_drewN ?_ _ | refine blk_drew ?_ | refine blk_alloc ?_ _)); exact BK135.out)) : gb138 ≠ gb135))
                                  clear BK135
                                  clear HB
                                  have BK135 := n0_
                                  have HB := n1_
                                  have BK138 := n2_
                                  have GW138 := n3_
                                  have GE138 := n4_
                                  have NB135_138 := n5_
                                  have NB138_135 := n6_
                                  clear n0_ n1_ n2_ n3_ n4_ n5_ n6_
                                  clear hb hbox hg
                                  refine hK.out _ _ ⟨(blk_cell BK135.out 0).trans rfl, (blk_cell BK135.out 1).trans rfl, (blk_cell BK135.out 2).trans rfl, (blk_cell BK135.out 3).trans rfl⟩ (fun hHeld => ?_)
                                  clear hK K
                                  refine norm_ (a' := ?_) ?_ ?_
                                  rotate_left
                                  · show Act.put _ (some 4) _ = _
                                    simp only [Act.put, List.setIfInBounds_toArray, List.set_cons_zero, List.set_cons_succ, i64_w, i32_w]
                                    rfl
                                  exact norm_ (by first | (simp only [putAll, Act.put, List.setIfInBounds_toArray, List.set_cons_zero, List.set_cons_succ]; done) | (simp only [putAll, Act.put, List.setIfInBounds_toArray, List.set_cons_zero, List.set_cons_succ]; rfl)) (hJ5 (gb138) _ ⟨hHeld, (by (with_reducible repeat (first | refine blk_drewN ?_ _ | refine blk_drew ?_ | refine blk_alloc ?_ _)); exact BK135.out), (by (with_reducible repeat (first | refine blk_drewN ?_ _ | refine blk_drew ?_ | refine blk_alloc ?_ _)); exact BK138.out), GW138.out, GE138.out, NB135_138.out, NB138_135.out, (by repeat (first | (with_reducible first | exact HB.out | apply below_alloc | apply pw_below_drewN | apply below_drew1 | refine below_set ?_ GE135.out | refine below_set ?_ GE138.out) | exact HB.out))⟩)
                              · skip
                                rintro gb138 w24 ⟨hS_, h0_, h1_, h2_, h3_, h4_, h5_, h6_⟩
                                have n0_ : Aside0 (w24.heap[gb135]? = some (.cells #[.int .i64 2, .int .i64 5, .int .i64 0, .int .i64 9] 40 (0, 0))) := ⟨h0_⟩
                                have n1_ : Aside0 (w24.heap[gb138]? = some (.cells #[.int .i64 0, .int .i64 0, .int .i64 0, .int .i64 0] 40 (0, 0))) := ⟨h1_⟩
                                have n2_ : Aside0 (w.heap.size ≤ gb138) := ⟨h2_⟩
                                have n3_ : Aside0 (w.heap.size ≤ gb138) := ⟨h3_⟩
                                have n4_ : Aside0 (gb135 ≠ gb138) := ⟨h4_⟩
                                have n5_ : Aside0 (gb138 ≠ gb135) := ⟨h5_⟩
                                have n6_ : Aside0 (Below w.heap.size w w24) := ⟨h6_⟩
                                clear BK135
                                clear HB
                                clear h0_ h1_ h2_ h3_ h4_ h5_ h6_
                                have BK135 := n0_
                                have BK138 := n1_
                                have GW138 := n2_
                                have GE138 := n3_
                                have NB135_138 := n4_
                                have NB138_135 := n5_
                                have HB := n6_
                                clear n0_ n1_ n2_ n3_ n4_ n5_ n6_
                                have hHeld : w24.cell? ⟨gb135, 0, none⟩ = some (.int .i64 2) ∧ w24.cell? ⟨gb135, 1, none⟩ = some (.int .i64 5) ∧ w24.cell? ⟨gb135, 2, none⟩ = some (.int .i64 0) ∧ w24.cell? ⟨gb135, 3, none⟩ = some (.int .i64 9) := hS_
                                refine norm_ (a' := ?_) ?_ ?_
                                rotate_left
                                · simp only [putAll, Act.put, List.setIfInBounds_toArray, List.set_cons_zero, List.set_cons_succ]
                                  rfl
                                refine two_ (i := 3) (j := 4) (Ni := some 2) (Nj := some 3) #[true, true, true, true, false, true, false, false, false] #[true, true, true, false, true, true, false, false, false] rfl rfl rfl rfl (two_of HT_.out (by kernel_rfl)) (by decide) (by decide) (fun K hK => ?_) (fun K hK => ?_)
                                · skip
                                  refine box_step ?hg (N := 2) ?hd (cs := #[.int .i64 0, .int .i64 0, .int .i64 0, .int .i64 0]) (t := 40) ?hr ?_; (case hd => rfl); (case hg => rfl); (case hr => first | (go_simp; done) | (go_simp; rfl))
                                  intro gb136 hg w25 hbox hb
                                  have n0_ := Aside0.mk (blk_below (g := gb135) (o := .cells #[.int .i64 2, .int .i64 5, .int .i64 0, .int .i64 9] 40 (0, 0)) (by (with_reducible repeat (first | refine blk_drewN ?_ _ | refine blk_drew ?_ | refine blk_alloc ?_ _)); exact BK135.out) hb)
                                  have n1_ := Aside0.mk (blk_below (g := gb138) (o := .cells #[.int .i64 0, .int .i64 0, .int .i64 0, .int .i64 0] 40 (0, 0)) (by (with_reducible repeat (first | refine blk_drewN ?_ _ | refine blk_drew ?_ | refine blk_alloc ?_ _)); exact BK138.out) hb)
                                  have n2_ := Aside0.mk (below_step (by repeat (first | (with_reducible first | exact HB.out | apply below_alloc | apply pw_below_drewN | apply below_drew1 | refine below_set ?_ GE135.out | refine below_set ?_ GE138.out) | exact HB.out)) hb)
                                  have n3_ := Aside0.mk (hbox)
                                  have n4_ := Aside0.mk ((by rw [hg]; exact (below_size (by repeat (first | (with_reducible first | exact HB.out | apply below_alloc | apply pw_below_drewN | apply below_drew1 | refine below_set ?_ GE135.out | refine below_set ?_ GE138.out) | exact HB.out))) : w.heap.size ≤ gb136))
                                  have n5_ := Aside0.mk ((by rw [hg]; exact (below_size (by repeat (first | (with_reducible first | exact HB.out | apply below_alloc | apply pw_below_drewN | apply below_drew1 | refine below_set ?_ GE135.out | refine below_set ?_ GE138.out) | exact HB.out))) : w.heap.size ≤ gb136))
                                  have n6_ := Aside0.mk ((by rw [hg]; exact Nat.ne_of_lt (blk_lt (g := gb135) (o := .cells #[.int .i64 2, .int .i64 5, .int .i64 0, .int .i64 9] 40 (0, 0)) (by (with_reducible repeat (first | refine blk_drewN ?_ _ | refine blk_drew ?_ | refine blk_alloc ?_ _)); exact BK135.out)) : gb135 ≠ gb136))
                                  have n7_ := Aside0.mk ((by rw [hg]; exact Nat.ne_of_gt (blk_lt (g := gb135) (o := .cells #[.int .i64 2, .int .i64 5, .int .i64 0, .int .i64 9] 40 (0, 0)) (by (with_reducible repeat (first | refine blk_drewN ?_ _ | refine blk_drew ?_ | refine blk_alloc ?_ _)); exact BK135.out)) : gb136 ≠ gb135))
                                  have n8_ := Aside0.mk ((by rw [hg]; exact Nat.ne_of_lt (blk_lt (g := gb138) (o := .cells #[.int .i64 0, .int .i64 0, .int .i64 0, .int .i64 0] 40 (0, 0)) (by (with_reducible repeat (first | refine blk_drewN ?_ _ | refine blk_drew ?_ | refine blk_alloc ?_ _)); exact BK138.out)) : gb138 ≠ gb136))
                                  have n9_ := Aside0.mk ((by rw [hg]; exact Nat.ne_of_gt (blk_lt (g := gb138) (o := .cells #[.int .i64 0, .int .i64 0, .int .i64 0, .int .i64 0] 40 (0, 0)) (by (with_reducible repeat (first | refine blk_drewN ?_ _ | refine blk_drew ?_ | refine blk_alloc ?_ _)); exact BK138.out)) : gb136 ≠ gb138))
                                  clear BK135
                                  clear BK138
                                  clear HB
                                  have BK135 := n0_
                                  have BK138 := n1_
                                  have HB := n2_
                                  have BK136 := n3_
                                  have GW136 := n4_
                                  have GE136 := n5_
                                  have NB135_136 := n6_
                                  have NB136_135 := n7_
                                  have NB138_136 := n8_
                                  have NB136_138 := n9_
                                  clear n0_ n1_ n2_ n3_ n4_ n5_ n6_ n7_ n8_ n9_
                                  clear hb hbox hg
                                  refine hK.out _ _ ⟨(blk_cell BK135.out 0).trans rfl, (blk_cell BK135.out 1).trans rfl, (blk_cell BK135.out 2).trans rfl, (blk_cell BK135.out 3).trans rfl⟩ (fun hHeld => ?_)
                                  clear hK K
                                  refine norm_ (a' := ?_) ?_ ?_
                                  rotate_left
                                  · show Act.put _ (some 2) _ = _
                                    simp only [Act.put, List.setIfInBounds_toArray, List.set_cons_zero, List.set_cons_succ, i64_w, i32_w]
                                    rfl
                                  exact norm_ (by first | (simp only [putAll, Act.put, List.setIfInBounds_toArray, List.set_cons_zero, List.set_cons_succ]; done) | (simp only [putAll, Act.put, List.setIfInBounds_toArray, List.set_cons_zero, List.set_cons_succ]; rfl)) (hJ3_5 (gb136, gb138) _ ⟨hHeld, (by (with_reducible repeat (first | refine blk_drewN ?_ _ | refine blk_drew ?_ | refine blk_alloc ?_ _)); exact BK135.out), (by (with_reducible repeat (first | refine blk_drewN ?_ _ | refine blk_drew ?_ | refine blk_alloc ?_ _)); exact BK136.out), (by (with_reducible repeat (first | refine blk_drewN ?_ _ | refine blk_drew ?_ | refine blk_alloc ?_ _)); exact BK138.out), GW136.out, GE136.out, NB135_136.out, NB136_135.out, NB138_136.out, NB136_138.out, GW138.out, GE138.out, NB135_138.out, NB138_135.out, (by repeat (first | (with_reducible first | exact HB.out | apply below_alloc | apply pw_below_drewN | apply below_drew1 | refine below_set ?_ GE135.out | refine below_set ?_ GE138.out | refine below_set ?_ GE136.out) | exact HB.out))⟩)
                                · skip
                                  refine box_step ?hg (N := 3) ?hd (cs := #[.int .i64 0, .int .i64 0, .int .i64 0, .int .i64 0]) (t := 40) ?hr ?_; (case hd => rfl); (case hg => rfl); (case hr => first | (go_simp; done) | (go_simp; rfl))
                                  intro gb137 hg w25 hbox hb
                                  have n0_ := Aside0.mk (blk_below (g := gb135) (o := .cells #[.int .i64 2, .int .i64 5, .int .i64 0, .int .i64 9] 40 (0, 0)) (by (with_reducible repeat (first | refine blk_drewN ?_ _ | refine blk_drew ?_ | refine blk_alloc ?_ _)); exact BK135.out) hb)
                                  have n1_ := Aside0.mk (blk_below (g := gb138) (o := .cells #[.int .i64 0, .int .i64 0, .int .i64 0, .int .i64 0] 40 (0, 0)) (by (with_reducible repeat (first | refine blk_drewN ?_ _ | refine blk_drew ?_ | refine blk_alloc ?_ _)); exact BK138.out) hb)
                                  have n2_ := Aside0.mk (below_step (by repeat (first | (with_reducible first | exact HB.out | apply below_alloc | apply pw_below_drewN | apply below_drew1 | refine below_set ?_ GE135.out | refine below_set ?_ GE138.out) | exact HB.out)) hb)
                                  have n3_ := Aside0.mk (hbox)
                                  have n4_ := Aside0.mk ((by rw [hg]; exact (below_size (by repeat (first | (with_reducible first | exact HB.out | apply below_alloc | apply pw_below_drewN | apply below_drew1 | refine below_set ?_ GE135.out | refine below_set ?_ GE138.out) | exact HB.out))) : w.heap.size ≤ gb137))
                                  have n5_ := Aside0.mk ((by rw [hg]; exact (below_size (by repeat (first | (with_reducible first | exact HB.out | apply below_alloc | apply pw_below_drewN | apply below_drew1 | refine below_set ?_ GE135.out | refine below_set ?_ GE138.out) | exact HB.out))) : w.heap.size ≤ gb137))
                                  have n6_ := Aside0.mk ((by rw [hg]; exact Nat.ne_of_lt (blk_lt (g := gb135) (o := .cells #[.int .i64 2, .int .i64 5, .int .i64 0, .int .i64 9] 40 (0, 0)) (by (with_reducible repeat (first | refine blk_drewN ?_ _ | refine blk_drew ?_ | refine blk_alloc ?_ _)); exact BK135.out)) : gb135 ≠ gb137))
                                  have n7_ := Aside0.mk ((by rw [hg]; exact Nat.ne_of_gt (blk_lt (g := gb135) (o := .cells #[.int .i64 2, .int .i64 5, .int .i64 0, .int .i64 9] 40 (0, 0)) (by (with_reducible repeat (first | refine blk_drewN ?_ _ | refine blk_drew ?_ | refine blk_alloc ?_ _)); exact BK135.out)) : gb137 ≠ gb135))
                                  have n8_ := Aside0.mk ((by rw [hg]; exact Nat.ne_of_lt (blk_lt (g := gb138) (o := .cells #[.int .i64 0, .int .i64 0, .int .i64 0, .int .i64 0] 40 (0, 0)) (by (with_reducible repeat (first | refine blk_drewN ?_ _ | refine blk_drew ?_ | refine blk_alloc ?_ _)); exact BK138.out)) : gb138 ≠ gb137))
                                  have n9_ := Aside0.mk ((by rw [hg]; exact Nat.ne_of_gt (blk_lt (g := gb138) (o := .cells #[.int .i64 0, .int .i64 0, .int .i64 0, .int .i64 0] 40 (0, 0)) (by (with_reducible repeat (first | refine blk_drewN ?_ _ | refine blk_drew ?_ | refine blk_alloc ?_ _)); exact BK138.out)) : gb137 ≠ gb138))
                                  clear BK135
                                  clear BK138
                                  clear HB
                                  have BK135 := n0_
                                  have BK138 := n1_
                                  have HB := n2_
                                  have BK137 := n3_
                                  have GW137 := n4_
                                  have GE137 := n5_
                                  have NB135_137 := n6_
                                  have NB137_135 := n7_
                                  have NB138_137 := n8_
                                  have NB137_138 := n9_
                                  clear n0_ n1_ n2_ n3_ n4_ n5_ n6_ n7_ n8_ n9_
                                  clear hb hbox hg
                                  refine hK.out _ _ ⟨(blk_cell BK135.out 0).trans rfl, (blk_cell BK135.out 1).trans rfl, (blk_cell BK135.out 2).trans rfl, (blk_cell BK135.out 3).trans rfl⟩ (fun hHeld => ?_)
                                  clear hK K
                                  refine norm_ (a' := ?_) ?_ ?_
                                  rotate_left
                                  · show Act.put _ (some 3) _ = _
                                    simp only [Act.put, List.setIfInBounds_toArray, List.set_cons_zero, List.set_cons_succ, i64_w, i32_w]
                                    rfl
                                  exact norm_ (by first | (simp only [putAll, Act.put, List.setIfInBounds_toArray, List.set_cons_zero, List.set_cons_succ]; done) | (simp only [putAll, Act.put, List.setIfInBounds_toArray, List.set_cons_zero, List.set_cons_succ]; rfl)) (hJ4_5 (gb137, gb138) _ ⟨hHeld, (by (with_reducible repeat (first | refine blk_drewN ?_ _ | refine blk_drew ?_ | refine blk_alloc ?_ _)); exact BK135.out), (by (with_reducible repeat (first | refine blk_drewN ?_ _ | refine blk_drew ?_ | refine blk_alloc ?_ _)); exact BK137.out), (by (with_reducible repeat (first | refine blk_drewN ?_ _ | refine blk_drew ?_ | refine blk_alloc ?_ _)); exact BK138.out), GW137.out, GE137.out, NB135_137.out, NB137_135.out, NB138_137.out, NB137_138.out, GW138.out, GE138.out, NB135_138.out, NB138_135.out, (by repeat (first | (with_reducible first | exact HB.out | apply below_alloc | apply pw_below_drewN | apply below_drew1 | refine below_set ?_ GE135.out | refine below_set ?_ GE138.out | refine below_set ?_ GE137.out) | exact HB.out))⟩)
                            · skip
                              rintro gb137 w24 ⟨hS_, h0_, h1_, h2_, h3_, h4_, h5_, h6_⟩
                              have n0_ : Aside0 (w24.heap[gb135]? = some (.cells #[.int .i64 2, .int .i64 5, .int .i64 0, .int .i64 9] 40 (0, 0))) := ⟨h0_⟩
                              have n1_ : Aside0 (w24.heap[gb137]? = some (.cells #[.int .i64 0, .int .i64 0, .int .i64 0, .int .i64 0] 40 (0, 0))) := ⟨h1_⟩
                              have n2_ : Aside0 (w.heap.size ≤ gb137) := ⟨h2_⟩
                              have n3_ : Aside0 (w.heap.size ≤ gb137) := ⟨h3_⟩
                              have n4_ : Aside0 (gb135 ≠ gb137) := ⟨h4_⟩
                              have n5_ : Aside0 (gb137 ≠ gb135) := ⟨h5_⟩
                              have n6_ : Aside0 (Below w.heap.size w w24) := ⟨h6_⟩
                              clear BK135
                              clear HB
                              clear h0_ h1_ h2_ h3_ h4_ h5_ h6_
                              have BK135 := n0_
                              have BK137 := n1_
                              have GW137 := n2_
                              have GE137 := n3_
                              have NB135_137 := n4_
                              have NB137_135 := n5_
                              have HB := n6_
                              clear n0_ n1_ n2_ n3_ n4_ n5_ n6_
                              have hHeld : w24.cell? ⟨gb135, 0, none⟩ = some (.int .i64 2) ∧ w24.cell? ⟨gb135, 1, none⟩ = some (.int .i64 5) ∧ w24.cell? ⟨gb135, 2, none⟩ = some (.int .i64 0) ∧ w24.cell? ⟨gb135, 3, none⟩ = some (.int .i64 9) := hS_
                              refine norm_ (a' := ?_) ?_ ?_
                              rotate_left
                              · simp only [putAll, Act.put, List.setIfInBounds_toArray, List.set_cons_zero, List.set_cons_succ]
                                rfl
                              refine two_ (i := 3) (j := 5) (Ni := some 2) (Nj := some 4) #[true, true, true, true, true, false, false, false, false] #[true, true, true, false, true, true, false, false, false] rfl rfl rfl rfl (two_of HT_.out (by kernel_rfl)) (by decide) (by decide) (fun K hK => ?_) (fun K hK => ?_)
                              · skip
                                refine box_step ?hg (N := 2) ?hd (cs := #[.int .i64 0, .int .i64 0, .int .i64 0, .int .i64 0]) (t := 40) ?hr ?_; (case hd => rfl); (case hg => rfl); (case hr => first | (go_simp; done) | (go_simp; rfl))
                                intro gb136 hg w25 hbox hb
                                have n0_ := Aside0.mk (blk_below (g := gb135) (o := .cells #[.int .i64 2, .int .i64 5, .int .i64 0, .int .i64 9] 40 (0, 0)) (by (with_reducible repeat (first | refine blk_drewN ?_ _ | refine blk_drew ?_ | refine blk_alloc ?_ _)); exact BK135.out) hb)
                                have n1_ := Aside0.mk (blk_below (g := gb137) (o := .cells #[.int .i64 0, .int .i64 0, .int .i64 0, .int .i64 0] 40 (0, 0)) (by (with_reducible repeat (first | refine blk_drewN ?_ _ | refine blk_drew ?_ | refine blk_alloc ?_ _)); exact BK137.out) hb)
                                have n2_ := Aside0.mk (below_step (by repeat (first | (with_reducible first | exact HB.out | apply below_alloc | apply pw_below_drewN | apply below_drew1 | refine below_set ?_ GE135.out | refine below_set ?_ GE137.out) | exact HB.out)) hb)
                                have n3_ := Aside0.mk (hbox)
                                have n4_ := Aside0.mk ((by rw [hg]; exact (below_size (by repeat (first | (with_reducible first | exact HB.out | apply below_alloc | apply pw_below_drewN | apply below_drew1 | refine below_set ?_ GE135.out | refine below_set ?_ GE137.out) | exact HB.out))) : w.heap.size ≤ gb136))
                                have n5_ := Aside0.mk ((by rw [hg]; exact (below_size (by repeat (first | (with_reducible first | exact HB.out | apply below_alloc | apply pw_below_drewN | apply below_drew1 | refine below_set ?_ GE135.out | refine below_set ?_ GE137.out) | exact HB.out))) : w.heap.size ≤ gb136))
                                have n6_ := Aside0.mk ((by rw [hg]; exact Nat.ne_of_lt (blk_lt (g := gb135) (o := .cells #[.int .i64 2, .int .i64 5, .int .i64 0, .int .i64 9] 40 (0, 0)) (by (with_reducible repeat (first | refine blk_drewN ?_ _ | refine blk_drew ?_ | refine blk_alloc ?_ _)); exact BK135.out)) : gb135 ≠ gb136))
                                have n7_ := Aside0.mk ((by rw [hg]; exact Nat.ne_of_gt (blk_lt (g := gb135) (o := .cells #[.int .i64 2, .int .i64 5, .int .i64 0, .int .i64 9] 40 (0, 0)) (by (with_reducible repeat (first | refine blk_drewN ?_ _ | refine blk_drew ?_ | refine blk_alloc ?_ _)); exact BK135.out)) : gb136 ≠ gb135))
                                have n8_ := Aside0.mk ((by rw [hg]; exact Nat.ne_of_lt (blk_lt (g := gb137) (o := .cells #[.int .i64 0, .int .i64 0, .int .i64 0, .int .i64 0] 40 (0, 0)) (by (with_reducible repeat (first | refine blk_drewN ?_ _ | refine blk_drew ?_ | refine blk_alloc ?_ _)); exact BK137.out)) : gb137 ≠ gb136))
                                have n9_ := Aside0.mk ((by rw [hg]; exact Nat.ne_of_gt (blk_lt (g := gb137) (o := .cells #[.int .i64 0, .int .i64 0, .int .i64 0, .int .i64 0] 40 (0, 0)) (by (with_reducible repeat (first | refine blk_drewN ?_ _ | refine blk_drew ?_ | refine blk_alloc ?_ _)); exact BK137.out)) : gb136 ≠ gb137))
                                clear BK135
                                clear BK137
                                clear HB
                                have BK135 := n0_
                                have BK137 := n1_
                                have HB := n2_
                                have BK136 := n3_
                                have GW136 := n4_
                                have GE136 := n5_
                                have NB135_136 := n6_
                                have NB136_135 := n7_
                                have NB137_136 := n8_
                                have NB136_137 := n9_
                                clear n0_ n1_ n2_ n3_ n4_ n5_ n6_ n7_ n8_ n9_
                                clear hb hbox hg
                                refine hK.out _ _ ⟨(blk_cell BK135.out 0).trans rfl, (blk_cell BK135.out 1).trans rfl, (blk_cell BK135.out 2).trans rfl, (blk_cell BK135.out 3).trans rfl⟩ (fun hHeld => ?_)
                                clear hK K
                                refine norm_ (a' := ?_) ?_ ?_
                                rotate_left
                                · show Act.put _ (some 2) _ = _
                                  simp only [Act.put, List.setIfInBounds_toArray, List.set_cons_zero, List.set_cons_succ, i64_w, i32_w]
                                  rfl
                                exact norm_ (by first | (simp only [putAll, Act.put, List.setIfInBounds_toArray, List.set_cons_zero, List.set_cons_succ]; done) | (simp only [putAll, Act.put, List.setIfInBounds_toArray, List.set_cons_zero, List.set_cons_succ]; rfl)) (hJ3_4 (gb136, gb137) _ ⟨hHeld, (by (with_reducible repeat (first | refine blk_drewN ?_ _ | refine blk_drew ?_ | refine blk_alloc ?_ _)); exact BK135.out), (by (with_reducible repeat (first | refine blk_drewN ?_ _ | refine blk_drew ?_ | refine blk_alloc ?_ _)); exact BK136.out), (by (with_reducible repeat (first | refine blk_drewN ?_ _ | refine blk_drew ?_ | refine blk_alloc ?_ _)); exact BK137.out), GW136.out, GE136.out, NB135_136.out, NB136_135.out, NB137_136.out, NB136_137.out, GW137.out, GE137.out, NB135_137.out, NB137_135.out, (by repeat (first | (with_reducible first | exact HB.out | apply below_alloc | apply pw_below_drewN | apply below_drew1 | refine below_set ?_ GE135.out | refine below_set ?_ GE137.out | refine below_set ?_ GE136.out) | exact HB.out))⟩)
                              · skip
                                refine box_step ?hg (N := 4) ?hd (cs := #[.int .i64 0, .int .i64 0, .int .i64 0, .int .i64 0]) (t := 40) ?hr ?_; (case hd => rfl); (case hg => rfl); (case hr => first | (go_simp; done) | (go_simp; rfl))
                                intro gb138 hg w25 hbox hb
                                have n0_ := Aside0.mk (blk_below (g := gb135) (o := .cells #[.int .i64 2, .int .i64 5, .int .i64 0, .int .i64 9] 40 (0, 0)) (by (with_reducible repeat (first | refine blk_drewN ?_ _ | refine blk_drew ?_ | refine blk_alloc ?_ _)); exact BK135.out) hb)
                                have n1_ := Aside0.mk (blk_below (g := gb137) (o := .cells #[.int .i64 0, .int .i64 0, .int .i64 0, .int .i64 0] 40 (0, 0)) (by (with_reducible repeat (first | refine blk_drewN ?_ _ | refine blk_drew ?_ | refine blk_alloc ?_ _)); exact BK137.out) hb)
                                have n2_ := Aside0.mk (below_step (by repeat (first | (with_reducible first | exact HB.out | apply below_alloc | apply pw_below_drewN | apply below_drew1 | refine below_set ?_ GE135.out | refine below_set ?_ GE137.out) | exact HB.out)) hb)
                                have n3_ := Aside0.mk (hbox)
                                have n4_ := Aside0.mk ((by rw [hg]; exact (below_size (by repeat (first | (with_reducible first | exact HB.out | apply below_alloc | apply pw_below_drewN | apply below_drew1 | refine below_set ?_ GE135.out | refine below_set ?_ GE137.out) | exact HB.out))) : w.heap.size ≤ gb138))
                                have n5_ := Aside0.mk ((by rw [hg]; exact (below_size (by repeat (first | (with_reducible first | exact HB.out | apply below_alloc | apply pw_below_drewN | apply below_drew1 | refine below_set ?_ GE135.out | refine below_set ?_ GE137.out) | exact HB.out))) : w.heap.size ≤ gb138))
                                have n6_ := Aside0.mk ((by rw [hg]; exact Nat.ne_of_lt (blk_lt (g := gb135) (o := .cells #[.int .i64 2, .int .i64 5, .int .i64 0, .int .i64 9] 40 (0, 0)) (by (with_reducible repeat (first | refine blk_drewN ?_ _ | refine blk_drew ?_ | refine blk_alloc ?_ _)); exact BK135.out)) : gb135 ≠ gb138))
                                have n7_ := Aside0.mk ((by rw [hg]; exact Nat.ne_of_gt (blk_lt (g := gb135) (o := .cells #[.int .i64 2, .int .i64 5, .int .i64 0, .int .i64 9] 40 (0, 0)) (by (with_reducible repeat (first | refine blk_drewN ?_ _ | refine blk_drew ?_ | refine blk_alloc ?_ _)); exact BK135.out)) : gb138 ≠ gb135))
                                have n8_ := Aside0.mk ((by rw [hg]; exact Nat.ne_of_lt (blk_lt (g := gb137) (o := .cells #[.int .i64 0, .int .i64 0, .int .i64 0, .int .i64 0] 40 (0, 0)) (by (with_reducible repeat (first | refine blk_drewN ?_ _ | refine blk_drew ?_ | refine blk_alloc ?_ _)); exact BK137.out)) : gb137 ≠ gb138))
                                have n9_ := Aside0.mk ((by rw [hg]; exact Nat.ne_of_gt (blk_lt (g := gb137) (o := .cells #[.int .i64 0, .int .i64 0, .int .i64 0, .int .i64 0] 40 (0, 0)) (by (with_reducible repeat (first | refine blk_drewN ?_ _ | refine blk_drew ?_ | refine blk_alloc ?_ _)); exact BK137.out)) : gb138 ≠ gb137))
                                clear BK135
                                clear BK137
                                clear HB
                                have BK135 := n0_
                                have BK137 := n1_
                                have HB := n2_
                                have BK138 := n3_
                                have GW138 := n4_
                                have GE138 := n5_
                                have NB135_138 := n6_
                                have NB138_135 := n7_
                                have NB137_138 := n8_
                                have NB138_137 := n9_
                                clear n0_ n1_ n2_ n3_ n4_ n5_ n6_ n7_ n8_ n9_
                                clear hb hbox hg
                                refine hK.out _ _ ⟨(blk_cell BK135.out 0).trans rfl, (blk_cell BK135.out 1).trans rfl, (blk_cell BK135.out 2).trans rfl, (blk_cell BK135.out 3).trans rfl⟩ (fun hHeld => ?_)
                                clear hK K
                                refine norm_ (a' := ?_) ?_ ?_
                                rotate_left
                                · show Act.put _ (some 4) _ = _
                                  simp only [Act.put, List.setIfInBounds_toArray, List.set_cons_zero, List.set_cons_succ, i64_w, i32_w]
                                  rfl
                                exact norm_ (by first | (simp only [putAll, Act.put, List.setIfInBounds_toArray, List.set_cons_zero, List.set_cons_succ]; done) | (simp only [putAll, Act.put, List.setIfInBounds_toArray, List.set_cons_zero, List.set_cons_succ]; rfl)) (hJ4_5 (gb137, gb138) _ ⟨hHeld, (by (with_reducible repeat (first | refine blk_drewN ?_ _ | refine blk_drew ?_ | refine blk_alloc ?_ _)); exact BK135.out), (by (with_reducible repeat (first | refine blk_drewN ?_ _ | refine blk_drew ?_ | refine blk_alloc ?_ _)); exact BK137.out), (by (with_reducible repeat (first | refine blk_drewN ?_ _ | refine blk_drew ?_ | refine blk_alloc ?_ _)); exact BK138.out), GW137.out, GE137.out, NB135_137.out, NB137_135.out, NB138_137.out, NB137_138.out, GW138.out, GE138.out, NB135_138.out, NB138_135.out, (by repeat (first | (with_reducible first | exact HB.out | apply below_alloc | apply pw_below_drewN | apply below_drew1 | refine below_set ?_ GE135.out | refine below_set ?_ GE137.out | refine below_set ?_ GE138.out) | exact HB.out))⟩)
                          · skip
                            rintro gb136 w24 ⟨hS_, h0_, h1_, h2_, h3_, h4_, h5_, h6_⟩
                            have n0_ : Aside0 (w24.heap[gb135]? = some (.cells #[.int .i64 2, .int .i64 5, .int .i64 0, .int .i64 9] 40 (0, 0))) := ⟨h0_⟩
                            have n1_ : Aside0 (w24.heap[gb136]? = some (.cells #[.int .i64 0, .int .i64 0, .int .i64 0, .int .i64 0] 40 (0, 0))) := ⟨h1_⟩
                            have n2_ : Aside0 (w.heap.size ≤ gb136) := ⟨h2_⟩
                            have n3_ : Aside0 (w.heap.size ≤ gb136) := ⟨h3_⟩
                            have n4_ : Aside0 (gb135 ≠ gb136) := ⟨h4_⟩
                            have n5_ : Aside0 (gb136 ≠ gb135) := ⟨h5_⟩
                            have n6_ : Aside0 (Below w.heap.size w w24) := ⟨h6_⟩
                            clear BK135
                            clear HB
                            clear h0_ h1_ h2_ h3_ h4_ h5_ h6_
                            have BK135 := n0_
                            have BK136 := n1_
                            have GW136 := n2_
                            have GE136 := n3_
                            have NB135_136 := n4_
                            have NB136_135 := n5_
                            have HB := n6_
                            clear n0_ n1_ n2_ n3_ n4_ n5_ n6_
                            have hHeld : w24.cell? ⟨gb135, 0, none⟩ = some (.int .i64 2) ∧ w24.cell? ⟨gb135, 1, none⟩ = some (.int .i64 5) ∧ w24.cell? ⟨gb135, 2, none⟩ = some (.int .i64 0) ∧ w24.cell? ⟨gb135, 3, none⟩ = some (.int .i64 9) := hS_
                            refine norm_ (a' := ?_) ?_ ?_
                            rotate_left
                            · simp only [putAll, Act.put, List.setIfInBounds_toArray, List.set_cons_zero, List.set_cons_succ]
                              rfl
                            refine two_ (i := 4) (j := 5) (Ni := some 3) (Nj := some 4) #[true, true, true, true, true, false, false, false, false] #[true, true, true, true, false, true, false, false, false] rfl rfl rfl rfl (two_of HT_.out (by kernel_rfl)) (by decide) (by decide) (fun K hK => ?_) (fun K hK => ?_)
                            · skip
                              refine box_step ?hg (N := 3) ?hd (cs := #[.int .i64 0, .int .i64 0, .int .i64 0, .int .i64 0]) (t := 40) ?hr ?_; (case hd => rfl); (case hg => rfl); (case hr => first | (go_simp; done) | (go_simp; rfl))
                              intro gb137 hg w25 hbox hb
                              have n0_ := Aside0.mk (blk_below (g := gb135) (o := .cells #[.int .i64 2, .int .i64 5, .int .i64 0, .int .i64 9] 40 (0, 0)) (by (with_reducible repeat (first | refine blk_drewN ?_ _ | refine blk_drew ?_ | refine blk_alloc ?_ _)); exact BK135.out) hb)
                              have n1_ := Aside0.mk (blk_below (g := gb136) (o := .cells #[.int .i64 0, .int .i64 0, .int .i64 0, .int .i64 0] 40 (0, 0)) (by (with_reducible repeat (first | refine blk_drewN ?_ _ | refine blk_drew ?_ | refine blk_alloc ?_ _)); exact BK136.out) hb)
                              have n2_ := Aside0.mk (below_step (by repeat (first | (with_reducible first | exact HB.out | apply below_alloc | apply pw_below_drewN | apply below_drew1 | refine below_set ?_ GE135.out | refine below_set ?_ GE136.out) | exact HB.out)) hb)
                              have n3_ := Aside0.mk (hbox)
                              have n4_ := Aside0.mk ((by rw [hg]; exact (below_size (by repeat (first | (with_reducible first | exact HB.out | apply below_alloc | apply pw_below_drewN | apply below_drew1 | refine below_set ?_ GE135.out | refine below_set ?_ GE136.out) | exact HB.out))) : w.heap.size ≤ gb137))
                              have n5_ := Aside0.mk ((by rw [hg]; exact (below_size (by repeat (first | (with_reducible first | exact HB.out | apply below_alloc | apply pw_below_drewN | apply below_drew1 | refine below_set ?_ GE135.out | refine below_set ?_ GE136.out) | exact HB.out))) : w.heap.size ≤ gb137))
                              have n6_ := Aside0.mk ((by rw [hg]; exact Nat.ne_of_lt (blk_lt (g := gb135) (o := .cells #[.int .i64 2, .int .i64 5, .int .i64 0, .int .i64 9] 40 (0, 0)) (by (with_reducible repeat (first | refine blk_drewN ?_ _ | refine blk_drew ?_ | refine blk_alloc ?_ _)); exact BK135.out)) : gb135 ≠ gb137))
                              have n7_ := Aside0.mk ((by rw [hg]; exact Nat.ne_of_gt (blk_lt (g := gb135) (o := .cells #[.int .i64 2, .int .i64 5, .int .i64 0, .int .i64 9] 40 (0, 0)) (by (with_reducible repeat (first | refine blk_drewN ?_ _ | refine blk_drew ?_ | refine blk_alloc ?_ _)); exact BK135.out)) : gb137 ≠ gb135))
                              have n8_ := Aside0.mk ((by rw [hg]; exact Nat.ne_of_lt (blk_lt (g := gb136) (o := .cells #[.int .i64 0, .int .i64 0, .int .i64 0, .int .i64 0] 40 (0, 0)) (by (with_reducible repeat (first | refine blk_drewN ?_ _ | refine blk_drew ?_ | refine blk_alloc ?_ _)); exact BK136.out)) : gb136 ≠ gb137))
                              have n9_ := Aside0.mk ((by rw [hg]; exact Nat.ne_of_gt (blk_lt (g := gb136) (o := .cells #[.int .i64 0, .int .i64 0, .int .i64 0, .int .i64 0] 40 (0, 0)) (by (with_reducible repeat (first | refine blk_drewN ?_ _ | refine blk_drew ?_ | refine blk_alloc ?_ _)); exact BK136.out)) : gb137 ≠ gb136))
                              clear BK135
                              clear BK136
                              clear HB
                              have BK135 := n0_
                              have BK136 := n1_
                              have HB := n2_
                              have BK137 := n3_
                              have GW137 := n4_
                              have GE137 := n5_
                              have NB135_137 := n6_
                              have NB137_135 := n7_
                              have NB136_137 := n8_
                              have NB137_136 := n9_
                              clear n0_ n1_ n2_ n3_ n4_ n5_ n6_ n7_ n8_ n9_
                              clear hb hbox hg
                              refine hK.out _ _ ⟨(blk_cell BK135.out 0).trans rfl, (blk_cell BK135.out 1).trans rfl, (blk_cell BK135.out 2).trans rfl, (blk_cell BK135.out 3).trans rfl⟩ (fun hHeld => ?_)
                              clear hK K
                              refine norm_ (a' := ?_) ?_ ?_
                              rotate_left
                              · show Act.put _ (some 3) _ = _
                                simp only [Act.put, List.setIfInBounds_toArray, List.set_cons_zero, List.set_cons_succ, i64_w, i32_w]
                                rfl
                              exact norm_ (by first | (simp only [putAll, Act.put, List.setIfInBounds_toArray, List.set_cons_zero, List.set_cons_succ]; done) | (simp only [putAll, Act.put, List.setIfInBounds_toArray, List.set_cons_zero, List.set_cons_succ]; rfl)) (hJ3_4 (gb136, gb137) _ ⟨hHeld, (by (with_reducible repeat (first | refine blk_drewN ?_ _ | refine blk_drew ?_ | refine blk_alloc ?_ _)); exact BK135.out), (by (with_reducible repeat (first | refine blk_drewN ?_ _ | refine blk_drew ?_ | refine blk_alloc ?_ _)); exact BK136.out), (by (with_reducible repeat (first | refine blk_drewN ?_ _ | refine blk_drew ?_ | refine blk_alloc ?_ _)); exact BK137.out), GW136.out, GE136.out, NB135_136.out, NB136_135.out, NB137_136.out, NB136_137.out, GW137.out, GE137.out, NB135_137.out, NB137_135.out, (by repeat (first | (with_reducible first | exact HB.out | apply below_alloc | apply pw_below_drewN | apply below_drew1 | refine below_set ?_ GE135.out | refine below_set ?_ GE136.out | refine below_set ?_ GE137.out) | exact HB.out))⟩)
                            · skip
                              refine box_step ?hg (N := 4) ?hd (cs := #[.int .i64 0, .int .i64 0, .int .i64 0, .int .i64 0]) (t := 40) ?hr ?_; (case hd => rfl); (case hg => rfl); (case hr => first | (go_simp; done) | (go_simp; rfl))
                              intro gb138 hg w25 hbox hb
                              have n0_ := Aside0.mk (blk_below (g := gb135) (o := .cells #[.int .i64 2, .int .i64 5, .int .i64 0, .int .i64 9] 40 (0, 0)) (by (with_reducible repeat (first | refine blk_drewN ?_ _ | refine blk_drew ?_ | refine blk_alloc ?_ _)); exact BK135.out) hb)
                              have n1_ := Aside0.mk (blk_below (g := gb136) (o := .cells #[.int .i64 0, .int .i64 0, .int .i64 0, .int .i64 0] 40 (0, 0)) (by (with_reducible repeat (first | refine blk_drewN ?_ _ | refine blk_drew ?_ | refine blk_alloc ?_ _)); exact BK136.out) hb)
                              have n2_ := Aside0.mk (below_step (by repeat (first | (with_reducible first | exact HB.out | apply below_alloc | apply pw_below_drewN | apply below_drew1 | refine below_set ?_ GE135.out | refine below_set ?_ GE136.out) | exact HB.out)) hb)
                              have n3_ := Aside0.mk (hbox)
                              have n4_ := Aside0.mk ((by rw [hg]; exact (below_size (by repeat (first | (with_reducible first | exact HB.out | apply below_alloc | apply pw_below_drewN | apply below_drew1 | refine below_set ?_ GE135.out | refine below_set ?_ GE136.out) | exact HB.out))) : w.heap.size ≤ gb138))
                              have n5_ := Aside0.mk ((by rw [hg]; exact (below_size (by repeat (first | (with_reducible first | exact HB.out | apply below_alloc | apply pw_below_drewN | apply below_drew1 | refine below_set ?_ GE135.out | refine below_set ?_ GE136.out) | exact HB.out))) : w.heap.size ≤ gb138))
                              have n6_ := Aside0.mk ((by rw [hg]; exact Nat.ne_of_lt (blk_lt (g := gb135) (o := .cells #[.int .i64 2, .int .i64 5, .int .i64 0, .int .i64 9] 40 (0, 0)) (by (with_reducible repeat (first | refine blk_drewN ?_ _ | refine blk_drew ?_ | refine blk_alloc ?_ _)); exact BK135.out)) : gb135 ≠ gb138))
                              have n7_ := Aside0.mk ((by rw [hg]; exact Nat.ne_of_gt (blk_lt (g := gb135) (o := .cells #[.int .i64 2, .int .i64 5, .int .i64 0, .int .i64 9] 40 (0, 0)) (by (with_reducible repeat (first | refine blk_drewN ?_ _ | refine blk_drew ?_ | refine blk_alloc ?_ _)); exact BK135.out)) : gb138 ≠ gb135))
                              have n8_ := Aside0.mk ((by rw [hg]; exact Nat.ne_of_lt (blk_lt (g := gb136) (o := .cells #[.int .i64 0, .int .i64 0, .int .i64 0, .int .i64 0] 40 (0, 0)) (by (with_reducible repeat (first | refine blk_drewN ?_ _ | refine blk_drew ?_ | refine blk_alloc ?_ _)); exact BK136.out)) : gb136 ≠ gb138))
                              have n9_ := Aside0.mk ((by rw [hg]; exact Nat.ne_of_gt (blk_lt (g := gb136) (o := .cells #[.int .i64 0, .int .i64 0, .int .i64 0, .int .i64 0] 40 (0, 0)) (by (with_reducible repeat (first | refine blk_drewN ?_ _ | refine blk_drew ?_ | refine blk_alloc ?_ _)); exact BK136.out)) : gb138 ≠ gb136))
                              clear BK135
                              clear BK136
                              clear HB
                              have BK135 := n0_
                              have BK136 := n1_
                              have HB := n2_
                              have BK138 := n3_
                              have GW138 := n4_
                              have GE138 := n5_
                              have NB135_138 := n6_
                              have NB138_135 := n7_
                              have NB136_138 := n8_
                              have NB138_136 := n9_
                              clear n0_ n1_ n2_ n3_ n4_ n5_ n6_ n7_ n8_ n9_
                              clear hb hbox hg
                              refine hK.out _ _ ⟨(blk_cell BK135.out 0).trans rfl, (blk_cell BK135.out 1).trans rfl, (blk_cell BK135.out 2).trans rfl, (blk_cell BK135.out 3).trans rfl⟩ (fun hHeld => ?_)
                              clear hK K
                              refine norm_ (a' := ?_) ?_ ?_
                              rotate_left
                              · show Act.put _ (some 4) _ = _
                                simp only [Act.put, List.setIfInBounds_toArray, List.set_cons_zero, List.set_cons_succ, i64_w, i32_w]
                                rfl
                              exact norm_ (by first | (simp only [putAll, Act.put, List.setIfInBounds_toArray, List.set_cons_zero, List.set_cons_succ]; done) | (simp only [putAll, Act.put, List.setIfInBounds_toArray, List.set_cons_zero, List.set_cons_succ]; rfl)) (hJ3_5 (gb136, gb138) _ ⟨hHeld, (by (with_reducible repeat (first | refine blk_drewN ?_ _ | refine blk_drew ?_ | refine blk_alloc ?_ _)); exact BK135.out), (by (with_reducible repeat (first | refine blk_drewN ?_ _ | refine blk_drew ?_ | refine blk_alloc ?_ _)); exact BK136.out), (by (with_reducible repeat (first | refine blk_drewN ?_ _ | refine blk_drew ?_ | refine blk_alloc ?_ _)); exact BK138.out), GW136.out, GE136.out, NB135_136.out, NB136_135.out, NB138_136.out, NB136_138.out, GW138.out, GE138.out, NB135_138.out, NB138_135.out, (by repeat (first | (with_reducible first | exact HB.out | apply below_alloc | apply pw_below_drewN | apply below_drew1 | refine below_set ?_ GE135.out | refine below_set ?_ GE136.out | refine below_set ?_ GE138.out) | exact HB.out))⟩)
                        · skip
                          rintro ⟨gb137, gb138⟩ w25 ⟨hS_, h0_, h1_, h2_, h3_, h4_, h5_, h6_, h7_, h8_, h9_, h10_, h11_, h12_, h13_⟩
                          have n0_ : Aside0 (w25.heap[gb135]? = some (.cells #[.int .i64 2, .int .i64 5, .int .i64 0, .int .i64 9] 40 (0, 0))) := ⟨h0_⟩
                          have n1_ : Aside0 (w25.heap[gb137]? = some (.cells #[.int .i64 0, .int .i64 0, .int .i64 0, .int .i64 0] 40 (0, 0))) := ⟨h1_⟩
                          have n2_ : Aside0 (w25.heap[gb138]? = some (.cells #[.int .i64 0, .int .i64 0, .int .i64 0, .int .i64 0] 40 (0, 0))) := ⟨h2_⟩
                          have n3_ : Aside0 (w.heap.size ≤ gb137) := ⟨h3_⟩
                          have n4_ : Aside0 (w.heap.size ≤ gb137) := ⟨h4_⟩
                          have n5_ : Aside0 (gb135 ≠ gb137) := ⟨h5_⟩
                          have n6_ : Aside0 (gb137 ≠ gb135) := ⟨h6_⟩
                          have n7_ : Aside0 (gb138 ≠ gb137) := ⟨h7_⟩
                          have n8_ : Aside0 (gb137 ≠ gb138) := ⟨h8_⟩
                          have n9_ : Aside0 (w.heap.size ≤ gb138) := ⟨h9_⟩
                          have n10_ : Aside0 (w.heap.size ≤ gb138) := ⟨h10_⟩
                          have n11_ : Aside0 (gb135 ≠ gb138) := ⟨h11_⟩
                          have n12_ : Aside0 (gb138 ≠ gb135) := ⟨h12_⟩
                          have n13_ : Aside0 (Below w.heap.size w w25) := ⟨h13_⟩
                          clear BK135
                          clear HB
                          clear h0_ h1_ h2_ h3_ h4_ h5_ h6_ h7_ h8_ h9_ h10_ h11_ h12_ h13_
                          have BK135 := n0_
                          have BK137 := n1_
                          have BK138 := n2_
                          have GW137 := n3_
                          have GE137 := n4_
                          have NB135_137 := n5_
                          have NB137_135 := n6_
                          have NB138_137 := n7_
                          have NB137_138 := n8_
                          have GW138 := n9_
                          have GE138 := n10_
                          have NB135_138 := n11_
                          have NB138_135 := n12_
                          have HB := n13_
                          clear n0_ n1_ n2_ n3_ n4_ n5_ n6_ n7_ n8_ n9_ n10_ n11_ n12_ n13_
                          have hHeld : w25.cell? ⟨gb135, 0, none⟩ = some (.int .i64 2) ∧ w25.cell? ⟨gb135, 1, none⟩ = some (.int .i64 5) ∧ w25.cell? ⟨gb135, 2, none⟩ = some (.int .i64 0) ∧ w25.cell? ⟨gb135, 3, none⟩ = some (.int .i64 9) := hS_
                          refine norm_ (a' := ?_) ?_ ?_
                          rotate_left
                          · simp only [putAll, Act.put, List.setIfInBounds_toArray, List.set_cons_zero, List.set_cons_succ]
                            rfl
                          refine one_ (i := 3) (N := some 2) #[true, true, true, true, true, true, false, false, false] rfl rfl (one_of HT_.out (by kernel_rfl)) (by decide) (fun K hK => ?_)
                          refine box_step ?hg (N := 2) ?hd (cs := #[.int .i64 0, .int .i64 0, .int .i64 0, .int .i64 0]) (t := 40) ?hr ?_; (case hd => rfl); (case hg => rfl); (case hr => first | (go_simp; done) | (go_simp; rfl))
                          intro gb136 hg w26 hbox hb
                          have n0_ := Aside0.mk (blk_below (g := gb135) (o := .cells #[.int .i64 2, .int .i64 5, .int .i64 0, .int .i64 9] 40 (0, 0)) (by (with_reducible repeat (first | refine blk_drewN ?_ _ | refine blk_drew ?_ | refine blk_alloc ?_ _)); exact BK135.out) hb)
                          have n1_ := Aside0.mk (blk_below (g := gb137) (o := .cells #[.int .i64 0, .int .i64 0, .int .i64 0, .int .i64 0] 40 (0, 0)) (by (with_reducible repeat (first | refine blk_drewN ?_ _ | refine blk_drew ?_ | refine blk_alloc ?_ _)); exact BK137.out) hb)
                          have n2_ := Aside0.mk (blk_below (g := gb138) (o := .cells #[.int .i64 0, .int .i64 0, .int .i64 0, .int .i64 0] 40 (0, 0)) (by (with_reducible repeat (first | refine blk_drewN ?_ _ | refine blk_drew ?_ | refine blk_alloc ?_ _)); exact BK138.out) hb)
                          have n3_ := Aside0.mk (below_step (by repeat (first | (with_reducible first | exact HB.out | apply below_alloc | apply pw_below_drewN | apply below_drew1 | refine below_set ?_ GE135.out | refine below_set ?_ GE137.out | refine below_set ?_ GE138.out) | exact HB.out)) hb)
                          have n4_ := Aside0.mk (hbox)
                          have n5_ := Aside0.mk ((by rw [hg]; exact (below_size (by repeat (first | (with_reducible first | exact HB.out | apply below_alloc | apply pw_below_drewN | apply below_drew1 | refine below_set ?_ GE135.out | refine below_set ?_ GE137.out | refine below_set ?_ GE138.out) | exact HB.out))) : w.heap.size ≤ gb136))
                          have n6_ := Aside0.mk ((by rw [hg]; exact (below_size (by repeat (first | (with_reducible first | exact HB.out | apply below_alloc | apply pw_below_drewN | apply below_drew1 | refine below_set ?_ GE135.out | refine below_set ?_ GE137.out | refine below_set ?_ GE138.out) | exact HB.out))) : w.heap.size ≤ gb136))
                          have n7_ := Aside0.mk ((by rw [hg]; exact Nat.ne_of_lt (blk_lt (g := gb135) (o := .cells #[.int .i64 2, .int .i64 5, .int .i64 0, .int .i64 9] 40 (0, 0)) (by (with_reducible repeat (first | refine blk_drewN ?_ _ | refine blk_drew ?_ | refine blk_alloc ?_ _)); exact BK135.out)) : gb135 ≠ gb136))
                          have n8_ := Aside0.mk ((by rw [hg]; exact Nat.ne_of_gt (blk_lt (g := gb135) (o := .cells #[.int .i64 2, .int .i64 5, .int .i64 0, .int .i64 9] 40 (0, 0)) (by (with_reducible repeat (first | refine blk_drewN ?_ _ | refine blk_drew ?_ | refine blk_alloc ?_ _)); exact BK135.out)) : gb136 ≠ gb135))
                          have n9_ := Aside0.mk ((by rw [hg]; exact Nat.ne_of_lt (blk_lt (g := gb137) (o := .cells #[.int .i64 0, .int .i64 0, .int .i64 0, .int .i64 0] 40 (0, 0)) (by (with_reducible repeat (first | refine blk_drewN ?_ _ | refine blk_drew ?_ | refine blk_alloc ?_ _)); exact BK137.out)) : gb137 ≠ gb136))
                          have n10_ := Aside0.mk ((by rw [hg]; exact Nat.ne_of_gt (blk_lt (g := gb137) (o := .cells #[.int .i64 0, .int .i64 0, .int .i64 0, .int .i64 0] 40 (0, 0)) (by (with_reducible repeat (first | refine blk_drewN ?_ _ | refine blk_drew ?_ | refine blk_alloc ?_ _)); exact BK137.out)) : gb136 ≠ gb137))
                          have n11_ := Aside0.mk ((by rw [hg]; exact Nat.ne_of_lt (blk_lt (g := gb138) (o := .cells #[.int .i64 0, .int .i64 0, .int .i64 0, .int .i64 0] 40 (0, 0)) (by (with_reducible repeat (first | refine blk_drewN ?_ _ | refine blk_drew ?_ | refine blk_alloc ?_ _)); exact BK138.out)) : gb138 ≠ gb136))
                          have n12_ := Aside0.mk ((by rw [hg]; exact Nat.ne_of_gt (blk_lt (g := gb138) (o := .cells #[.int .i64 0, .int .i64 0, .int .i64 0, .int .i64 0] 40 (0, 0)) (by (with_reducible repeat (first | refine blk_drewN ?_ _ | refine blk_drew ?_ | refine blk_alloc ?_ _)); exact BK138.out)) : gb136 ≠ gb138))
                          clear BK135
                          clear BK137
                          clear BK138
                          clear HB
                          have BK135 := n0_
                          have BK137 := n1_
                          have BK138 := n2_
                          have HB := n3_
                          have BK136 := n4_
                          have GW136 := n5_
                          have GE136 := n6_
                          have NB135_136 := n7_
                          have NB136_135 := n8_
                          have NB137_136 := n9_
                          have NB136_137 := n10_
                          have NB138_136 := n11_
                          have NB136_138 := n12_
                          clear n0_ n1_ n2_ n3_ n4_ n5_ n6_ n7_ n8_ n9_ n10_ n11_ n12_
                          clear hb hbox hg
                          refine hK.out _ _ ⟨(blk_cell BK135.out 0).trans rfl, (blk_cell BK135.out 1).trans rfl, (blk_cell BK135.out 2).trans rfl, (blk_cell BK135.out 3).trans rfl⟩ (fun hHeld => ?_)
                          clear hK K
                          refine norm_ (a' := ?_) ?_ ?_
                          rotate_left
                          · show Act.put _ (some 2) _ = _
                            simp only [Act.put, List.setIfInBounds_toArray, List.set_cons_zero, List.set_cons_succ, i64_w, i32_w]
                            rfl
                          exact norm_ (by first | (simp only [putAll, Act.put, List.setIfInBounds_toArray, List.set_cons_zero, List.set_cons_succ]; done) | (simp only [putAll, Act.put, List.setIfInBounds_toArray, List.set_cons_zero, List.set_cons_succ]; rfl)) (hJ3_4_5 (gb136, gb137, gb138) _ ⟨hHeld, (by (with_reducible repeat (first | refine blk_drewN ?_ _ | refine blk_drew ?_ | refine blk_alloc ?_ _)); exact BK135.out), (by (with_reducible repeat (first | refine blk_drewN ?_ _ | refine blk_drew ?_ | refine blk_alloc ?_ _)); exact BK136.out), (by (with_reducible repeat (first | refine blk_drewN ?_ _ | refine blk_drew ?_ | refine blk_alloc ?_ _)); exact BK137.out), (by (with_reducible repeat (first | refine blk_drewN ?_ _ | refine blk_drew ?_ | refine blk_alloc ?_ _)); exact BK138.out), GW136.out, GE136.out, NB135_136.out, NB136_135.out, NB137_136.out, NB136_137.out, NB138_136.out, NB136_138.out, GW137.out, GE137.out, NB135_137.out, NB137_135.out, NB138_137.out, NB137_138.out, GW138.out, GE138.out, NB135_138.out, NB138_135.out, (by repeat (first | (with_reducible first | exact HB.out | apply below_alloc | apply pw_below_drewN | apply below_drew1 | refine below_set ?_ GE135.out | refine below_set ?_ GE137.out | refine below_set ?_ GE138.out | refine below_set ?_ GE136.out) | exact HB.out))⟩)
                      · skip
                        rintro ⟨gb136, gb138⟩ w25 ⟨hS_, h0_, h1_, h2_, h3_, h4_, h5_, h6_, h7_, h8_, h9_, h10_, h11_, h12_, h13_⟩
                        have n0_ : Aside0 (w25.heap[gb135]? = some (.cells #[.int .i64 2, .int .i64 5, .int .i64 0, .int .i64 9] 40 (0, 0))) := ⟨h0_⟩
                        have n1_ : Aside0 (w25.heap[gb136]? = some (.cells #[.int .i64 0, .int .i64 0, .int .i64 0, .int .i64 0] 40 (0, 0))) := ⟨h1_⟩
                        have n2_ : Aside0 (w25.heap[gb138]? = some (.cells #[.int .i64 0, .int .i64 0, .int .i64 0, .int .i64 0] 40 (0, 0))) := ⟨h2_⟩
                        have n3_ : Aside0 (w.heap.size ≤ gb136) := ⟨h3_⟩
                        have n4_ : Aside0 (w.heap.size ≤ gb136) := ⟨h4_⟩
                        have n5_ : Aside0 (gb135 ≠ gb136) := ⟨h5_⟩
                        have n6_ : Aside0 (gb136 ≠ gb135) := ⟨h6_⟩
                        have n7_ : Aside0 (gb138 ≠ gb136) := ⟨h7_⟩
                        have n8_ : Aside0 (gb136 ≠ gb138) := ⟨h8_⟩
                        have n9_ : Aside0 (w.heap.size ≤ gb138) := ⟨h9_⟩
                        have n10_ : Aside0 (w.heap.size ≤ gb138) := ⟨h10_⟩
                        have n11_ : Aside0 (gb135 ≠ gb138) := ⟨h11_⟩
                        have n12_ : Aside0 (gb138 ≠ gb135) := ⟨h12_⟩
                        have n13_ : Aside0 (Below w.heap.size w w25) := ⟨h13_⟩
                        clear BK135
                        clear HB
                        clear h0_ h1_ h2_ h3_ h4_ h5_ h6_ h7_ h8_ h9_ h10_ h11_ h12_ h13_
                        have BK135 := n0_
                        have BK136 := n1_
                        have BK138 := n2_
                        have GW136 := n3_
                        have GE136 := n4_
                        have NB135_136 := n5_
                        have NB136_135 := n6_
                        have NB138_136 := n7_
                        have NB136_138 := n8_
                        have GW138 := n9_
                        have GE138 := n10_
                        have NB135_138 := n11_
                        have NB138_135 := n12_
                        have HB := n13_
                        clear n0_ n1_ n2_ n3_ n4_ n5_ n6_ n7_ n8_ n9_ n10_ n11_ n12_ n13_
                        have hHeld : w25.cell? ⟨gb135, 0, none⟩ = some (.int .i64 2) ∧ w25.cell? ⟨gb135, 1, none⟩ = some (.int .i64 5) ∧ w25.cell? ⟨gb135, 2, none⟩ = some (.int .i64 0) ∧ w25.cell? ⟨gb135, 3, none⟩ = some (.int .i64 9) := hS_
                        refine norm_ (a' := ?_) ?_ ?_
                        rotate_left
                        · simp only [putAll, Act.put, List.setIfInBounds_toArray, List.set_cons_zero, List.set_cons_succ]
                          rfl
                        refine one_ (i := 4) (N := some 3) #[true, true, true, true, true, true, false, false, false] rfl rfl (one_of HT_.out (by kernel_rfl)) (by decide) (fun K hK => ?_)
                        refine box_step ?hg (N := 3) ?hd (cs := #[.int .i64 0, .int .i64 0, .int .i64 0, .int .i64 0]) (t := 40) ?hr ?_; (case hd => rfl); (case hg => rfl); (case hr => first | (go_simp; done) | (go_simp; rfl))
                        intro gb137 hg w26 hbox hb
                        have n0_ := Aside0.mk (blk_below (g := gb135) (o := .cells #[.int .i64 2, .int .i64 5, .int .i64 0, .int .i64 9] 40 (0, 0)) (by (with_reducible repeat (first | refine blk_drewN ?_ _ | refine blk_drew ?_ | refine blk_alloc ?_ _)); exact BK135.out) hb)
                        have n1_ := Aside0.mk (blk_below (g := gb136) (o := .cells #[.int .i64 0, .int .i64 0, .int .i64 0, .int .i64 0] 40 (0, 0)) (by (with_reducible repeat (first | refine blk_drewN ?_ _ | refine blk_drew ?_ | refine blk_alloc ?_ _)); exact BK136.out) hb)
                        have n2_ := Aside0.mk (blk_below (g := gb138) (o := .cells #[.int .i64 0, .int .i64 0, .int .i64 0, .int .i64 0] 40 (0, 0)) (by (with_reducible repeat (first | refine blk_drewN ?_ _ | refine blk_drew ?_ | refine blk_alloc ?_ _)); exact BK138.out) hb)
                        have n3_ := Aside0.mk (below_step (by repeat (first | (with_reducible first | exact HB.out | apply below_alloc | apply pw_below_drewN | apply below_drew1 | refine below_set ?_ GE135.out | refine below_set ?_ GE136.out | refine below_set ?_ GE138.out) | exact HB.out)) hb)
                        have n4_ := Aside0.mk (hbox)
                        have n5_ := Aside0.mk ((by rw [hg]; exact (below_size (by repeat (first | (with_reducible first | exact HB.out | apply below_alloc | apply pw_below_drewN | apply below_drew1 | refine below_set ?_ GE135.out | refine below_set ?_ GE136.out | refine below_set ?_ GE138.out) | exact HB.out))) : w.heap.size ≤ gb137))
                        have n6_ := Aside0.mk ((by rw [hg]; exact (below_size (by repeat (first | (with_reducible first | exact HB.out | apply below_alloc | apply pw_below_drewN | apply below_drew1 | refine below_set ?_ GE135.out | refine below_set ?_ GE136.out | refine below_set ?_ GE138.out) | exact HB.out))) : w.heap.size ≤ gb137))
                        have n7_ := Aside0.mk ((by rw [hg]; exact Nat.ne_of_lt (blk_lt (g := gb135) (o := .cells #[.int .i64 2, .int .i64 5, .int .i64 0, .int .i64 9] 40 (0, 0)) (by (with_reducible repeat (first | refine blk_drewN ?_ _ | refine blk_drew ?_ | refine blk_alloc ?_ _)); exact BK135.out)) : gb135 ≠ gb137))
                        have n8_ := Aside0.mk ((by rw [hg]; exact Nat.ne_of_gt (blk_lt (g := gb135) (o := .cells #[.int .i64 2, .int .i64 5, .int .i64 0, .int .i64 9] 40 (0, 0)) (by (with_reducible repeat (first | refine blk_drewN ?_ _ | refine blk_drew ?_ | refine blk_alloc ?_ _)); exact BK135.out)) : gb137 ≠ gb135))
                        have n9_ := Aside0.mk ((by rw [hg]; exact Nat.ne_of_lt (blk_lt (g := gb136) (o := .cells #[.int .i64 0, .int .i64 0, .int .i64 0, .int .i64 0] 40 (0, 0)) (by (with_reducible repeat (first | refine blk_drewN ?_ _ | refine blk_drew ?_ | refine blk_alloc ?_ _)); exact BK136.out)) : gb136 ≠ gb137))
                        have n10_ := Aside0.mk ((by rw [hg]; exact Nat.ne_of_gt (blk_lt (g := gb136) (o := .cells #[.int .i64 0, .int .i64 0, .int .i64 0, .int .i64 0] 40 (0, 0)) (by (with_reducible repeat (first | refine blk_drewN ?_ _ | refine blk_drew ?_ | refine blk_alloc ?_ _)); exact BK136.out)) : gb137 ≠ gb136))
                        have n11_ := Aside0.mk ((by rw [hg]; exact Nat.ne_of_lt (blk_lt (g := gb138) (o := .cells #[.int .i64 0, .int .i64 0, .int .i64 0, .int .i64 0] 40 (0, 0)) (by (with_reducible repeat (first | refine blk_drewN ?_ _ | refine blk_drew ?_ | refine blk_alloc ?_ _)); exact BK138.out)) : gb138 ≠ gb137))
                        have n12_ := Aside0.mk ((by rw [hg]; exact Nat.ne_of_gt (blk_lt (g := gb138) (o := .cells #[.int .i64 0, .int .i64 0, .int .i64 0, .int .i64 0] 40 (0, 0)) (by (with_reducible repeat (first | refine blk_drewN ?_ _ | refine blk_drew ?_ | refine blk_alloc ?_ _)); exact BK138.out)) : gb137 ≠ gb138))
                        clear BK135
                        clear BK136
                        clear BK138
                        clear HB
                        have BK135 := n0_
                        have BK136 := n1_
                        have BK138 := n2_
                        have HB := n3_
                        have BK137 := n4_
                        have GW137 := n5_
                        have GE137 := n6_
                        have NB135_137 := n7_
                        have NB137_135 := n8_
                        have NB136_137 := n9_
                        have NB137_136 := n10_
                        have NB138_137 := n11_
                        have NB137_138 := n12_
                        clear n0_ n1_ n2_ n3_ n4_ n5_ n6_ n7_ n8_ n9_ n10_ n11_ n12_
                        clear hb hbox hg
                        refine hK.out _ _ ⟨(blk_cell BK135.out 0).trans rfl, (blk_cell BK135.out 1).trans rfl, (blk_cell BK135.out 2).trans rfl, (blk_cell BK135.out 3).trans rfl⟩ (fun hHeld => ?_)
                        clear hK K
                        refine norm_ (a' := ?_) ?_ ?_
                        rotate_left
                        · show Act.put _ (some 3) _ = _
                          simp only [Act.put, List.setIfInBounds_toArray, List.set_cons_zero, List.set_cons_succ, i64_w, i32_w]
                          rfl
                        exact norm_ (by first | (simp only [putAll, Act.put, List.setIfInBounds_toArray, List.set_cons_zero, List.set_cons_succ]; done) | (simp only [putAll, Act.put, List.setIfInBounds_toArray, List.set_cons_zero, List.set_cons_succ]; rfl)) (hJ3_4_5 (gb136, gb137, gb138) _ ⟨hHeld, (by (with_reducible repeat (first | refine blk_drewN ?_ _ | refine blk_drew ?_ | refine blk_alloc ?_ _)); exact BK135.out), (by (with_reducible repeat (first | refine blk_drewN ?_ _ | refine blk_drew ?_ | refine blk_alloc ?_ _)); exact BK136.out), (by (with_reducible repeat (first | refine blk_drewN ?_ _ | refine blk_drew ?_ | refine blk_alloc ?_ _)); exact BK137.out), (by (with_reducible repeat (first | refine blk_drewN ?_ _ | refine blk_drew ?_ | refine blk_alloc ?_ _)); exact BK138.out), GW136.out, GE136.out, NB135_136.out, NB136_135.out, NB137_136.out, NB136_137.out, NB138_136.out, NB136_138.out, GW137.out, GE137.out, NB135_137.out, NB137_135.out, NB138_137.out, NB137_138.out, GW138.out, GE138.out, NB135_138.out, NB138_135.out, (by repeat (first | (with_reducible first | exact HB.out | apply below_alloc | apply pw_below_drewN | apply below_drew1 | refine below_set ?_ GE135.out | refine below_set ?_ GE136.out | refine below_set ?_ GE138.out | refine below_set ?_ GE137.out) | exact HB.out))⟩)
                    · skip
                      rintro ⟨gb136, gb137⟩ w25 ⟨hS_, h0_, h1_, h2_, h3_, h4_, h5_, h6_, h7_, h8_, h9_, h10_, h11_, h12_, h13_⟩
                      have n0_ : Aside0 (w25.heap[gb135]? = some (.cells #[.int .i64 2, .int .i64 5, .int .i64 0, .int .i64 9] 40 (0, 0))) := ⟨h0_⟩
                      have n1_ : Aside0 (w25.heap[gb136]? = some (.cells #[.int .i64 0, .int .i64 0, .int .i64 0, .int .i64 0] 40 (0, 0))) := ⟨h1_⟩
                      have n2_ : Aside0 (w25.heap[gb137]? = some (.cells #[.int .i64 0, .int .i64 0, .int .i64 0, .int .i64 0] 40 (0, 0))) := ⟨h2_⟩
                      have n3_ : Aside0 (w.heap.size ≤ gb136) := ⟨h3_⟩
                      have n4_ : Aside0 (w.heap.size ≤ gb136) := ⟨h4_⟩
                      have n5_ : Aside0 (gb135 ≠ gb136) := ⟨h5_⟩
                      have n6_ : Aside0 (gb136 ≠ gb135) := ⟨h6_⟩
                      have n7_ : Aside0 (gb137 ≠ gb136) := ⟨h7_⟩
                      have n8_ : Aside0 (gb136 ≠ gb137) := ⟨h8_⟩
                      have n9_ : Aside0 (w.heap.size ≤ gb137) := ⟨h9_⟩
                      have n10_ : Aside0 (w.heap.size ≤ gb137) := ⟨h10_⟩
                      have n11_ : Aside0 (gb135 ≠ gb137) := ⟨h11_⟩
                      have n12_ : Aside0 (gb137 ≠ gb135) := ⟨h12_⟩
                      have n13_ : Aside0 (Below w.heap.size w w25) := ⟨h13_⟩
                      clear BK135
                      clear HB
                      clear h0_ h1_ h2_ h3_ h4_ h5_ h6_ h7_ h8_ h9_ h10_ h11_ h12_ h13_
                      have BK135 := n0_
                      have BK136 := n1_
                      have BK137 := n2_
                      have GW136 := n3_
                      have GE136 := n4_
                      have NB135_136 := n5_
                      have NB136_135 := n6_
                      have NB137_136 := n7_
                      have NB136_137 := n8_
                      have GW137 := n9_
                      have GE137 := n10_
                      have NB135_137 := n11_
                      have NB137_135 := n12_
                      have HB := n13_
                      clear n0_ n1_ n2_ n3_ n4_ n5_ n6_ n7_ n8_ n9_ n10_ n11_ n12_ n13_
                      have hHeld : w25.cell? ⟨gb135, 0, none⟩ = some (.int .i64 2) ∧ w25.cell? ⟨gb135, 1, none⟩ = some (.int .i64 5) ∧ w25.cell? ⟨gb135, 2, none⟩ = some (.int .i64 0) ∧ w25.cell? ⟨gb135, 3, none⟩ = some (.int .i64 9) := hS_
                      refine norm_ (a' := ?_) ?_ ?_
                      rotate_left
                      · simp only [putAll, Act.put, List.setIfInBounds_toArray, List.set_cons_zero, List.set_cons_succ]
                        rfl
                      refine one_ (i := 5) (N := some 4) #[true, true, true, true, true, true, false, false, false] rfl rfl (one_of HT_.out (by kernel_rfl)) (by decide) (fun K hK => ?_)
                      refine box_step ?hg (N := 4) ?hd (cs := #[.int .i64 0, .int .i64 0, .int .i64 0, .int .i64 0]) (t := 40) ?hr ?_; (case hd => rfl); (case hg => rfl); (case hr => first | (go_simp; done) | (go_simp; rfl))
                      intro gb138 hg w26 hbox hb
                      have n0_ := Aside0.mk (blk_below (g := gb135) (o := .cells #[.int .i64 2, .int .i64 5, .int .i64 0, .int .i64 9] 40 (0, 0)) (by (with_reducible repeat (first | refine blk_drewN ?_ _ | refine blk_drew ?_ | refine blk_alloc ?_ _)); exact BK135.out) hb)
                      have n1_ := Aside0.mk (blk_below (g := gb136) (o := .cells #[.int .i64 0, .int .i64 0, .int .i64 0, .int .i64 0] 40 (0, 0)) (by (with_reducible repeat (first | refine blk_drewN ?_ _ | refine blk_drew ?_ | refine blk_alloc ?_ _)); exact BK136.out) hb)
                      have n2_ := Aside0.mk (blk_below (g := gb137) (o := .cells #[.int .i64 0, .int .i64 0, .int .i64 0, .int .i64 0] 40 (0, 0)) (by (with_reducible repeat (first | refine blk_drewN ?_ _ | refine blk_drew ?_ | refine blk_alloc ?_ _)); exact BK137.out) hb)
                      have n3_ := Aside0.mk (below_step (by repeat (first | (with_reducible first | exact HB.out | apply below_alloc | apply pw_below_drewN | apply below_drew1 | refine below_set ?_ GE135.out | refine below_set ?_ GE136.out | refine below_set ?_ GE137.out) | exact HB.out)) hb)
                      have n4_ := Aside0.mk (hbox)
                      have n5_ := Aside0.mk ((by rw [hg]; exact (below_size (by repeat (first | (with_reducible first | exact HB.out | apply below_alloc | apply pw_below_drewN | apply below_drew1 | refine below_set ?_ GE135.out | refine below_set ?_ GE136.out | refine below_set ?_ GE137.out) | exact HB.out))) : w.heap.size ≤ gb138))
                      have n6_ := Aside0.mk ((by rw [hg]; exact (below_size (by repeat (first | (with_reducible first | exact HB.out | apply below_alloc | apply pw_below_drewN | apply below_drew1 | refine below_set ?_ GE135.out | refine below_set ?_ GE136.out | refine below_set ?_ GE137.out) | exact HB.out))) : w.heap.size ≤ gb138))
                      have n7_ := Aside0.mk ((by rw [hg]; exact Nat.ne_of_lt (blk_lt (g := gb135) (o := .cells #[.int .i64 2, .int .i64 5, .int .i64 0, .int .i64 9] 40 (0, 0)) (by (with_reducible repeat (first | refine blk_drewN ?_ _ | refine blk_drew ?_ | refine blk_alloc ?_ _)); exact BK135.out)) : gb135 ≠ gb138))
                      have n8_ := Aside0.mk ((by rw [hg]; exact Nat.ne_of_gt (blk_lt (g := gb135) (o := .cells #[.int .i64 2, .int .i64 5, .int .i64 0, .int .i64 9] 40 (0, 0)) (by (with_reducible repeat (first | refine blk_drewN ?_ _ | refine blk_drew ?_ | refine blk_alloc ?_ _)); exact BK135.out)) : gb138 ≠ gb135))
                      have n9_ := Aside0.mk ((by rw [hg]; exact Nat.ne_of_lt (blk_lt (g := gb136) (o := .cells #[.int .i64 0, .int .i64 0, .int .i64 0, .int .i64 0] 40 (0, 0)) (by (with_reducible repeat (first | refine blk_drewN ?_ _ | refine blk_drew ?_ | refine blk_alloc ?_ _)); exact BK136.out)) : gb136 ≠ gb138))
                      have n10_ := Aside0.mk ((by rw [hg]; exact Nat.ne_of_gt (blk_lt (g := gb136) (o := .cells #[.int .i64 0, .int .i64 0, .int .i64 0, .int .i64 0] 40 (0, 0)) (by (with_reducible repeat (first | refine blk_drewN ?_ _ | refine blk_drew ?_ | refine blk_alloc ?_ _)); exact BK136.out)) : gb138 ≠ gb136))
                      have n11_ := Aside0.mk ((by rw [hg]; exact Nat.ne_of_lt (blk_lt (g := gb137) (o := .cells #[.int .i64 0, .int .i64 0, .int .i64 0, .int .i64 0] 40 (0, 0)) (by (with_reducible repeat (first | refine blk_drewN ?_ _ | refine blk_drew ?_ | refine blk_alloc ?_ _)); exact BK137.out)) : gb137 ≠ gb138))
                      have n12_ := Aside0.mk ((by rw [hg]; exact Nat.ne_of_gt (blk_lt (g := gb137) (o := .cells #[.int .i64 0, .int .i64 0, .int .i64 0, .int .i64 0] 40 (0, 0)) (by (with_reducible repeat (first | refine blk_drewN ?_ _ | refine blk_drew ?_ | refine blk_alloc ?_ _)); exact BK137.out)) : gb138 ≠ gb137))
                      clear BK135
                      clear BK136
                      clear BK137
                      clear HB
                      have BK135 := n0_
                      have BK136 := n1_
                      have BK137 := n2_
                      have HB := n3_
                      have BK138 := n4_
                      have GW138 := n5_
                      have GE138 := n6_
                      have NB135_138 := n7_
                      have NB138_135 := n8_
                      have NB136_138 := n9_
                      have NB138_136 := n10_
                      have NB137_138 := n11_
                      have NB138_137 := n12_
                      clear n0_ n1_ n2_ n3_ n4_ n5_ n6_ n7_ n8_ n9_ n10_ n11_ n12_
                      clear hb hbox hg
                      refine hK.out _ _ ⟨(blk_cell BK135.out 0).trans rfl, (blk_cell BK135.out 1).trans rfl, (blk_cell BK135.out 2).trans rfl, (blk_cell BK135.out 3).trans rfl⟩ (fun hHeld => ?_)
                      clear hK K
                      refine norm_ (a' := ?_) ?_ ?_
                      rotate_left
                      · show Act.put _ (some 4) _ = _
                        simp only [Act.put, List.setIfInBounds_toArray, List.set_cons_zero, List.set_cons_succ, i64_w, i32_w]
                        rfl
                      exact norm_ (by first | (simp only [putAll, Act.put, List.setIfInBounds_toArray, List.set_cons_zero, List.set_cons_succ]; done) | (simp only [putAll, Act.put, List.setIfInBounds_toArray, List.set_cons_zero, List.set_cons_succ]; rfl)) (hJ3_4_5 (gb136, gb137, gb138) _ ⟨hHeld, (by (with_reducible repeat (first | refine blk_drewN ?_ _ | refine blk_drew ?_ | refine blk_alloc ?_ _)); exact BK135.out), (by (with_reducible repeat (first | refine blk_drewN ?_ _ | refine blk_drew ?_ | refine blk_alloc ?_ _)); exact BK136.out), (by (with_reducible repeat (first | refine blk_drewN ?_ _ | refine blk_drew ?_ | refine blk_alloc ?_ _)); exact BK137.out), (by (with_reducible repeat (first | refine blk_drewN ?_ _ | refine blk_drew ?_ | refine blk_alloc ?_ _)); exact BK138.out), GW136.out, GE136.out, NB135_136.out, NB136_135.out, NB137_136.out, NB136_137.out, NB138_136.out, NB136_138.out, GW137.out, GE137.out, NB135_137.out, NB137_135.out, NB138_137.out, NB137_138.out, GW138.out, GE138.out, NB135_138.out, NB138_135.out, (by repeat (first | (with_reducible first | exact HB.out | apply below_alloc | apply pw_below_drewN | apply below_drew1 | refine below_set ?_ GE135.out | refine below_set ?_ GE136.out | refine below_set ?_ GE137.out | refine below_set ?_ GE138.out) | exact HB.out))⟩)
                  rintro ⟨gb136, gb137, gb138⟩ w26 ⟨hS_, h0_, h1_, h2_, h3_, h4_, h5_, h6_, h7_, h8_, h9_, h10_, h11_, h12_, h13_, h14_, h15_, h16_, h17_, h18_, h19_, h20_, h21_, h22_⟩
                  have n0_ : Aside0 (w26.heap[gb135]? = some (.cells #[.int .i64 2, .int .i64 5, .int .i64 0, .int .i64 9] 40 (0, 0))) := ⟨h0_⟩
                  have n1_ : Aside0 (w26.heap[gb136]? = some (.cells #[.int .i64 0, .int .i64 0, .int .i64 0, .int .i64 0] 40 (0, 0))) := ⟨h1_⟩
                  have n2_ : Aside0 (w26.heap[gb137]? = some (.cells #[.int .i64 0, .int .i64 0, .int .i64 0, .int .i64 0] 40 (0, 0))) := ⟨h2_⟩
                  have n3_ : Aside0 (w26.heap[gb138]? = some (.cells #[.int .i64 0, .int .i64 0, .int .i64 0, .int .i64 0] 40 (0, 0))) := ⟨h3_⟩
                  have n4_ : Aside0 (w.heap.size ≤ gb136) := ⟨h4_⟩
                  have n5_ : Aside0 (w.heap.size ≤ gb136) := ⟨h5_⟩
                  have n6_ : Aside0 (gb135 ≠ gb136) := ⟨h6_⟩
                  have n7_ : Aside0 (gb136 ≠ gb135) := ⟨h7_⟩
                  have n8_ : Aside0 (gb137 ≠ gb136) := ⟨h8_⟩
                  have n9_ : Aside0 (gb136 ≠ gb137) := ⟨h9_⟩
                  have n10_ : Aside0 (gb138 ≠ gb136) := ⟨h10_⟩
                  have n11_ : Aside0 (gb136 ≠ gb138) := ⟨h11_⟩
                  have n12_ : Aside0 (w.heap.size ≤ gb137) := ⟨h12_⟩
                  have n13_ : Aside0 (w.heap.size ≤ gb137) := ⟨h13_⟩
                  have n14_ : Aside0 (gb135 ≠ gb137) := ⟨h14_⟩
                  have n15_ : Aside0 (gb137 ≠ gb135) := ⟨h15_⟩
                  have n16_ : Aside0 (gb138 ≠ gb137) := ⟨h16_⟩
                  have n17_ : Aside0 (gb137 ≠ gb138) := ⟨h17_⟩
                  have n18_ : Aside0 (w.heap.size ≤ gb138) := ⟨h18_⟩
                  have n19_ : Aside0 (w.heap.size ≤ gb138) := ⟨h19_⟩
                  have n20_ : Aside0 (gb135 ≠ gb138) := ⟨h20_⟩
                  have n21_ : Aside0 (gb138 ≠ gb135) := ⟨h21_⟩
                  have n22_ : Aside0 (Below w.heap.size w w26) := ⟨h22_⟩
                  clear BK135
                  clear HB
                  clear h0_ h1_ h2_ h3_ h4_ h5_ h6_ h7_ h8_ h9_ h10_ h11_ h12_ h13_ h14_ h15_ h16_ h17_ h18_ h19_ h20_ h21_ h22_
                  have BK135 := n0_
                  have BK136 := n1_
                  have BK137 := n2_
                  have BK138 := n3_
                  have GW136 := n4_
                  have GE136 := n5_
                  have NB135_136 := n6_
                  have NB136_135 := n7_
                  have NB137_136 := n8_
                  have NB136_137 := n9_
                  have NB138_136 := n10_
                  have NB136_138 := n11_
                  have GW137 := n12_
                  have GE137 := n13_
                  have NB135_137 := n14_
                  have NB137_135 := n15_
                  have NB138_137 := n16_
                  have NB137_138 := n17_
                  have GW138 := n18_
                  have GE138 := n19_
                  have NB135_138 := n20_
                  have NB138_135 := n21_
                  have HB := n22_
                  clear n0_ n1_ n2_ n3_ n4_ n5_ n6_ n7_ n8_ n9_ n10_ n11_ n12_ n13_ n14_ n15_ n16_ n17_ n18_ n19_ n20_ n21_ n22_
                  have hHeld : w26.cell? ⟨gb135, 0, none⟩ = some (.int .i64 2) ∧ w26.cell? ⟨gb135, 1, none⟩ = some (.int .i64 5) ∧ w26.cell? ⟨gb135, 2, none⟩ = some (.int .i64 0) ∧ w26.cell? ⟨gb135, 3, none⟩ = some (.int .i64 9) := hS_
                  refine norm_ (a' := ?_) ?_ ?_
                  rotate_left
                  · simp only [putAll, Act.put, List.setIfInBounds_toArray, List.set_cons_zero, List.set_cons_succ]
                    rfl
                  refine one_ (i := 6) (N := none) #[true, true, true, true, true, true, true, false, false] rfl rfl (one_of HT_.out (by kernel_rfl)) (by decide) (fun K hK => ?_)
                  have hs27 : w26.cell? ⟨gb136, 0, none⟩ = some (.int .i64 0) := (blk_cell BK136.out 0).trans rfl
                  have hfs27 := blk_frozen BK136.out 0
                  have hns27_0 := NB135_136.out
                  have hns27_2 := NB137_136.out
                  have hns27_3 := NB138_136.out
                  have hms27_0 := NB136_135.out
                  have hms27_2 := NB136_137.out
                  have hms27_3 := NB136_138.out
                  have hs28 : w26.cell? ⟨gb136, 1, none⟩ = some (.int .i64 0) := (blk_cell BK136.out 1).trans rfl
                  have hfs28 := blk_frozen BK136.out 1
                  have hns28_0 := NB135_136.out
                  have hns28_2 := NB137_136.out
                  have hns28_3 := NB138_136.out
                  have hms28_0 := NB136_135.out
                  have hms28_2 := NB136_137.out
                  have hms28_3 := NB136_138.out
                  have hs29 : w26.cell? ⟨gb136, 2, none⟩ = some (.int .i64 0) := (blk_cell BK136.out 2).trans rfl
                  have hfs29 := blk_frozen BK136.out 2
                  have hns29_0 := NB135_136.out
                  have hns29_2 := NB137_136.out
                  have hns29_3 := NB138_136.out
                  have hms29_0 := NB136_135.out
                  have hms29_2 := NB136_137.out
                  have hms29_3 := NB136_138.out
                  have hs30 : w26.cell? ⟨gb136, 3, none⟩ = some (.int .i64 0) := (blk_cell BK136.out 3).trans rfl
                  have hfs30 := blk_frozen BK136.out 3
                  have hns30_0 := NB135_136.out
                  have hns30_2 := NB137_136.out
                  have hns30_3 := NB138_136.out
                  have hms30_0 := NB136_135.out
                  have hms30_2 := NB136_137.out
                  have hms30_3 := NB136_138.out
                  refine skip_ (w1 := ?_) (by rfl) rfl ?_ ?_
                  rotate_left
                  · go_simp
                    rfl
                  refine hK.out _ _ ⟨((cell_far (p := ⟨gb136, _, none⟩) NB135_136.out _).trans (((cell_far (p := ⟨gb136, _, none⟩) NB135_136.out _).trans (((cell_far (p := ⟨gb136, _, none⟩) NB135_136.out _).trans (((cell_far (p := ⟨gb136, _, none⟩) NB135_136.out _).trans (hHeld.1)))))))), ((cell_far (p := ⟨gb136, _, none⟩) NB135_136.out _).trans (((cell_far (p := ⟨gb136, _, none⟩) NB135_136.out _).trans (((cell_far (p := ⟨gb136, _, none⟩) NB135_136.out _).trans (((cell_far (p := ⟨gb136, _, none⟩) NB135_136.out _).trans (hHeld.2.1)))))))), ((cell_far (p := ⟨gb136, _, none⟩) NB135_136.out _).trans (((cell_far (p := ⟨gb136, _, none⟩) NB135_136.out _).trans (((cell_far (p := ⟨gb136, _, none⟩) NB135_136.out _).trans (((cell_far (p := ⟨gb136, _, none⟩) NB135_136.out _).trans (hHeld.2.2.1)))))))), ((cell_far (p := ⟨gb136, _, none⟩) NB135_136.out _).trans (((cell_far (p := ⟨gb136, _, none⟩) NB135_136.out _).trans (((cell_far (p := ⟨gb136, _, none⟩) NB135_136.out _).trans (((cell_far (p := ⟨gb136, _, none⟩) NB135_136.out _).trans (hHeld.2.2.2))))))))⟩ (fun hHeld => ?_)
                  clear hK K
                  have n0_ : Aside0 (((((w26.setCell ⟨gb136, 0, none⟩ (.int .i64 2)).setCell ⟨gb136, 1, none⟩ (.int .i64 5)).setCell ⟨gb136, 2, none⟩ (.int .i64 0)).setCell ⟨gb136, 3, none⟩ (.int .i64 9)).heap[gb135]? = some (.cells #[.int .i64 2, .int .i64 5, .int .i64 0, .int .i64 9] 40 (0, 0))) := ⟨by (iterate 4 refine blk_far ?_ NB135_136.out _); exact BK135.out⟩
                  have n1_ : Aside0 (((((w26.setCell ⟨gb136, 0, none⟩ (.int .i64 2)).setCell ⟨gb136, 1, none⟩ (.int .i64 5)).setCell ⟨gb136, 2, none⟩ (.int .i64 0)).setCell ⟨gb136, 3, none⟩ (.int .i64 9)).heap[gb136]? = some (.cells #[.int .i64 2, .int .i64 5, .int .i64 0, .int .i64 9] 40 (0, 0))) := ⟨by refine blk_put (cs := #[.int .i64 2, .int .i64 5, .int .i64 0, .int .i64 0]) ?_ 3 _ rfl; refine blk_put (cs := #[.int .i64 2, .int .i64 5, .int .i64 0, .int .i64 0]) ?_ 2 _ rfl; refine blk_put (cs := #[.int .i64 2, .int .i64 0, .int .i64 0, .int .i64 0]) ?_ 1 _ rfl; refine blk_put (cs := #[.int .i64 0, .int .i64 0, .int .i64 0, .int .i64 0]) ?_ 0 _ rfl; exact BK136.out⟩
                  have n2_ : Aside0 (((((w26.setCell ⟨gb136, 0, none⟩ (.int .i64 2)).setCell ⟨gb136, 1, none⟩ (.int .i64 5)).setCell ⟨gb136, 2, none⟩ (.int .i64 0)).setCell ⟨gb136, 3, none⟩ (.int .i64 9)).heap[gb137]? = some (.cells #[.int .i64 0, .int .i64 0, .int .i64 0, .int .i64 0] 40 (0, 0))) := ⟨by (iterate 4 refine blk_far ?_ NB137_136.out _); exact BK137.out⟩
                  have n3_ : Aside0 (((((w26.setCell ⟨gb136, 0, none⟩ (.int .i64 2)).setCell ⟨gb136, 1, none⟩ (.int .i64 5)).setCell ⟨gb136, 2, none⟩ (.int .i64 0)).setCell ⟨gb136, 3, none⟩ (.int .i64 9)).heap[gb138]? = some (.cells #[.int .i64 0, .int .i64 0, .int .i64 0, .int .i64 0] 40 (0, 0))) := ⟨by (iterate 4 refine blk_far ?_ NB138_136.out _); exact BK138.out⟩
                  have n4_ : Aside0 (Below w.heap.size w ((((w26.setCell ⟨gb136, 0, none⟩ (.int .i64 2)).setCell ⟨gb136, 1, none⟩ (.int .i64 5)).setCell ⟨gb136, 2, none⟩ (.int .i64 0)).setCell ⟨gb136, 3, none⟩ (.int .i64 9))) := ⟨by (iterate 4 refine below_set ?_ GE136.out); exact HB.out⟩
                  clear BK135 BK136 BK137 BK138 HB
                  generalize ((((w26.setCell ⟨gb136, 0, none⟩ (.int .i64 2)).setCell ⟨gb136, 1, none⟩ (.int .i64 5)).setCell ⟨gb136, 2, none⟩ (.int .i64 0)).setCell ⟨gb136, 3, none⟩ (.int .i64 9)) = w26a at n0_ n1_ n2_ n3_ n4_ hHeld ⊢
                  have BK135 := n0_
                  have BK136 := n1_
                  have BK137 := n2_
                  have BK138 := n3_
                  have HB := n4_
                  clear n0_ n1_ n2_ n3_ n4_
                  refine one_ (i := 7) (N := none) #[true, true, true, true, true, true, true, true, false] rfl rfl (one_of HT_.out (by kernel_rfl)) (by decide) (fun K hK => ?_)
                  have hs31 : w26a.cell? ⟨gb137, 0, none⟩ = some (.int .i64 0) := (blk_cell BK137.out 0).trans rfl
                  have hfs31 := blk_frozen BK137.out 0
                  have hns31_0 := NB135_137.out
                  have hns31_1 := NB136_137.out
                  have hns31_3 := NB138_137.out
                  have hms31_0 := NB137_135.out
                  have hms31_1 := NB137_136.out
                  have hms31_3 := NB137_138.out
                  have hs32 : w26a.cell? ⟨gb137, 1, none⟩ = some (.int .i64 0) := (blk_cell BK137.out 1).trans rfl
                  have hfs32 := blk_frozen BK137.out 1
                  have hns32_0 := NB135_137.out
                  have hns32_1 := NB136_137.out
                  have hns32_3 := NB138_137.out
                  have hms32_0 := NB137_135.out
                  have hms32_1 := NB137_136.out
                  have hms32_3 := NB137_138.out
                  have hs33 : w26a.cell? ⟨gb137, 2, none⟩ = some (.int .i64 0) := (blk_cell BK137.out 2).trans rfl
                  have hfs33 := blk_frozen BK137.out 2
                  have hns33_0 := NB135_137.out
                  have hns33_1 := NB136_137.out
                  have hns33_3 := NB138_137.out
                  have hms33_0 := NB137_135.out
                  have hms33_1 := NB137_136.out
                  have hms33_3 := NB137_138.out
                  have hs34 : w26a.cell? ⟨gb137, 3, none⟩ = some (.int .i64 0) := (blk_cell BK137.out 3).trans rfl
                  have hfs34 := blk_frozen BK137.out 3
                  have hns34_0 := NB135_137.out
                  have hns34_1 := NB136_137.out
                  have hns34_3 := NB138_137.out
                  have hms34_0 := NB137_135.out
                  have hms34_1 := NB137_136.out
                  have hms34_3 := NB137_138.out
                  refine skip_ (w1 := ?_) (by rfl) rfl ?_ ?_
                  rotate_left
                  · go_simp
                    rfl
                  refine hK.out _ _ ⟨((cell_far (p := ⟨gb137, _, none⟩) NB135_137.out _).trans (((cell_far (p := ⟨gb137, _, none⟩) NB135_137.out _).trans (((cell_far (p := ⟨gb137, _, none⟩) NB135_137.out _).trans (((cell_far (p := ⟨gb137, _, none⟩) NB135_137.out _).trans (hHeld.1)))))))), ((cell_far (p := ⟨gb137, _, none⟩) NB135_137.out _).trans (((cell_far (p := ⟨gb137, _, none⟩) NB135_137.out _).trans (((cell_far (p := ⟨gb137, _, none⟩) NB135_137.out _).trans (((cell_far (p := ⟨gb137, _, none⟩) NB135_137.out _).trans (hHeld.2.1)))))))), ((cell_far (p := ⟨gb137, _, none⟩) NB135_137.out _).trans (((cell_far (p := ⟨gb137, _, none⟩) NB135_137.out _).trans (((cell_far (p := ⟨gb137, _, none⟩) NB135_137.out _).trans (((cell_far (p := ⟨gb137, _, none⟩) NB135_137.out _).trans (hHeld.2.2.1)))))))), ((cell_far (p := ⟨gb137, _, none⟩) NB135_137.out _).trans (((cell_far (p := ⟨gb137, _, none⟩) NB135_137.out _).trans (((cell_far (p := ⟨gb137, _, none⟩) NB135_137.out _).trans (((cell_far (p := ⟨gb137, _, none⟩) NB135_137.out _).trans (hHeld.2.2.2))))))))⟩ (fun hHeld => ?_)
                  clear hK K
                  have n0_ : Aside0 (((((w26a.setCell ⟨gb137, 0, none⟩ (.int .i64 2)).setCell ⟨gb137, 1, none⟩ (.int .i64 5)).setCell ⟨gb137, 2, none⟩ (.int .i64 0)).setCell ⟨gb137, 3, none⟩ (.int .i64 9)).heap[gb135]? = some (.cells #[.int .i64 2, .int .i64 5, .int .i64 0, .int .i64 9] 40 (0, 0))) := ⟨by (iterate 4 refine blk_far ?_ NB135_137.out _); exact BK135.out⟩
                  have n1_ : Aside0 (((((w26a.setCell ⟨gb137, 0, none⟩ (.int .i64 2)).setCell ⟨gb137, 1, none⟩ (.int .i64 5)).setCell ⟨gb137, 2, none⟩ (.int .i64 0)).setCell ⟨gb137, 3, none⟩ (.int .i64 9)).heap[gb136]? = some (.cells #[.int .i64 2, .int .i64 5, .int .i64 0, .int .i64 9] 40 (0, 0))) := ⟨by (iterate 4 refine blk_far ?_ NB136_137.out _); exact BK136.out⟩
                  have n2_ : Aside0 (((((w26a.setCell ⟨gb137, 0, none⟩ (.int .i64 2)).setCell ⟨gb137, 1, none⟩ (.int .i64 5)).setCell ⟨gb137, 2, none⟩ (.int .i64 0)).setCell ⟨gb137, 3, none⟩ (.int .i64 9)).heap[gb137]? = some (.cells #[.int .i64 2, .int .i64 5, .int .i64 0, .int .i64 9] 40 (0, 0))) := ⟨by refine blk_put (cs := #[.int .i64 2, .int .i64 5, .int .i64 0, .int .i64 0]) ?_ 3 _ rfl; refine blk_put (cs := #[.int .i64 2, .int .i64 5, .int .i64 0, .int .i64 0]) ?_ 2 _ rfl; refine blk_put (cs := #[.int .i64 2, .int .i64 0, .int .i64 0, .int .i64 0]) ?_ 1 _ rfl; refine blk_put (cs := #[.int .i64 0, .int .i64 0, .int .i64 0, .int .i64 0]) ?_ 0 _ rfl; exact BK137.out⟩
                  have n3_ : Aside0 (((((w26a.setCell ⟨gb137, 0, none⟩ (.int .i64 2)).setCell ⟨gb137, 1, none⟩ (.int .i64 5)).setCell ⟨gb137, 2, none⟩ (.int .i64 0)).setCell ⟨gb137, 3, none⟩ (.int .i64 9)).heap[gb138]? = some (.cells #[.int .i64 0, .int .i64 0, .int .i64 0, .int .i64 0] 40 (0, 0))) := ⟨by (iterate 4 refine blk_far ?_ NB138_137.out _); exact BK138.out⟩
                  have n4_ : Aside0 (Below w.heap.size w ((((w26a.setCell ⟨gb137, 0, none⟩ (.int .i64 2)).setCell ⟨gb137, 1, none⟩ (.int .i64 5)).setCell ⟨gb137, 2, none⟩ (.int .i64 0)).setCell ⟨gb137, 3, none⟩ (.int .i64 9))) := ⟨by (iterate 4 refine below_set ?_ GE137.out); exact HB.out⟩
                  clear BK135 BK136 BK137 BK138 HB
                  generalize ((((w26a.setCell ⟨gb137, 0, none⟩ (.int .i64 2)).setCell ⟨gb137, 1, none⟩ (.int .i64 5)).setCell ⟨gb137, 2, none⟩ (.int .i64 0)).setCell ⟨gb137, 3, none⟩ (.int .i64 9)) = w26b at n0_ n1_ n2_ n3_ n4_ hHeld ⊢
                  have BK135 := n0_
                  have BK136 := n1_
                  have BK137 := n2_
                  have BK138 := n3_
                  have HB := n4_
                  clear n0_ n1_ n2_ n3_ n4_
                  refine one_ (i := 8) (N := none) #[true, true, true, true, true, true, true, true, true] rfl rfl (one_of HT_.out (by kernel_rfl)) (by decide) (fun K hK => ?_)
                  have hs35 : w26b.cell? ⟨gb138, 0, none⟩ = some (.int .i64 0) := (blk_cell BK138.out 0).trans rfl
                  have hfs35 := blk_frozen BK138.out 0
                  have hns35_0 := NB135_138.out
                  have hns35_1 := NB136_138.out
                  have hns35_2 := NB137_138.out
                  have hms35_0 := NB138_135.out
                  have hms35_1 := NB138_136.out
                  have hms35_2 := NB138_137.out
                  have hs36 : w26b.cell? ⟨gb138, 1, none⟩ = some (.int .i64 0) := (blk_cell BK138.out 1).trans rfl
                  have hfs36 := blk_frozen BK138.out 1
                  have hns36_0 := NB135_138.out
                  have hns36_1 := NB136_138.out
                  have hns36_2 := NB137_138.out
                  have hms36_0 := NB138_135.out
                  have hms36_1 := NB138_136.out
                  have hms36_2 := NB138_137.out
                  have hs37 : w26b.cell? ⟨gb138, 2, none⟩ = some (.int .i64 0) := (blk_cell BK138.out 2).trans rfl
                  have hfs37 := blk_frozen BK138.out 2
                  have hns37_0 := NB135_138.out
                  have hns37_1 := NB136_138.out
                  have hns37_2 := NB137_138.out
                  have hms37_0 := NB138_135.out
                  have hms37_1 := NB138_136.out
                  have hms37_2 := NB138_137.out
                  have hs38 : w26b.cell? ⟨gb138, 3, none⟩ = some (.int .i64 0) := (blk_cell BK138.out 3).trans rfl
                  have hfs38 := blk_frozen BK138.out 3
                  have hns38_0 := NB135_138.out
                  have hns38_1 := NB136_138.out
                  have hns38_2 := NB137_138.out
                  have hms38_0 := NB138_135.out
                  have hms38_1 := NB138_136.out
                  have hms38_2 := NB138_137.out
                  refine skip_ (w1 := ?_) (by rfl) rfl ?_ ?_
                  rotate_left
                  · go_simp
                    rfl
                  refine hK.out _ _ ⟨((cell_far (p := ⟨gb138, _, none⟩) NB135_138.out _).trans (((cell_far (p := ⟨gb138, _, none⟩) NB135_138.out _).trans (((cell_far (p := ⟨gb138, _, none⟩) NB135_138.out _).trans (((cell_far (p := ⟨gb138, _, none⟩) NB135_138.out _).trans (hHeld.1)))))))), ((cell_far (p := ⟨gb138, _, none⟩) NB135_138.out _).trans (((cell_far (p := ⟨gb138, _, none⟩) NB135_138.out _).trans (((cell_far (p := ⟨gb138, _, none⟩) NB135_138.out _).trans (((cell_far (p := ⟨gb138, _, none⟩) NB135_138.out _).trans (hHeld.2.1)))))))), ((cell_far (p := ⟨gb138, _, none⟩) NB135_138.out _).trans (((cell_far (p := ⟨gb138, _, none⟩) NB135_138.out _).trans (((cell_far (p := ⟨gb138, _, none⟩) NB135_138.out _).trans (((cell_far (p := ⟨gb138, _, none⟩) NB135_138.out _).trans (hHeld.2.2.1)))))))), ((cell_far (p := ⟨gb138, _, none⟩) NB135_138.out _).trans (((cell_far (p := ⟨gb138, _, none⟩) NB135_138.out _).trans (((cell_far (p := ⟨gb138, _, none⟩) NB135_138.out _).trans (((cell_far (p := ⟨gb138, _, none⟩) NB135_138.out _).trans (hHeld.2.2.2))))))))⟩ (fun hHeld => ?_)
                  clear hK K
                  have n0_ : Aside0 (((((w26b.setCell ⟨gb138, 0, none⟩ (.int .i64 2)).setCell ⟨gb138, 1, none⟩ (.int .i64 5)).setCell ⟨gb138, 2, none⟩ (.int .i64 0)).setCell ⟨gb138, 3, none⟩ (.int .i64 9)).heap[gb135]? = some (.cells #[.int .i64 2, .int .i64 5, .int .i64 0, .int .i64 9] 40 (0, 0))) := ⟨by (iterate 4 refine blk_far ?_ NB135_138.out _); exact BK135.out⟩
                  have n1_ : Aside0 (((((w26b.setCell ⟨gb138, 0, none⟩ (.int .i64 2)).setCell ⟨gb138, 1, none⟩ (.int .i64 5)).setCell ⟨gb138, 2, none⟩ (.int .i64 0)).setCell ⟨gb138, 3, none⟩ (.int .i64 9)).heap[gb136]? = some (.cells #[.int .i64 2, .int .i64 5, .int .i64 0, .int .i64 9] 40 (0, 0))) := ⟨by (iterate 4 refine blk_far ?_ NB136_138.out _); exact BK136.out⟩
                  have n2_ : Aside0 (((((w26b.setCell ⟨gb138, 0, none⟩ (.int .i64 2)).setCell ⟨gb138, 1, none⟩ (.int .i64 5)).setCell ⟨gb138, 2, none⟩ (.int .i64 0)).setCell ⟨gb138, 3, none⟩ (.int .i64 9)).heap[gb137]? = some (.cells #[.int .i64 2, .int .i64 5, .int .i64 0, .int .i64 9] 40 (0, 0))) := ⟨by (iterate 4 refine blk_far ?_ NB137_138.out _); exact BK137.out⟩
                  have n3_ : Aside0 (((((w26b.setCell ⟨gb138, 0, none⟩ (.int .i64 2)).setCell ⟨gb138, 1, none⟩ (.int .i64 5)).setCell ⟨gb138, 2, none⟩ (.int .i64 0)).setCell ⟨gb138, 3, none⟩ (.int .i64 9)).heap[gb138]? = some (.cells #[.int .i64 2, .int .i64 5, .int .i64 0, .int .i64 9] 40 (0, 0))) := ⟨by refine blk_put (cs := #[.int .i64 2, .int .i64 5, .int .i64 0, .int .i64 0]) ?_ 3 _ rfl; refine blk_put (cs := #[.int .i64 2, .int .i64 5, .int .i64 0, .int .i64 0]) ?_ 2 _ rfl; refine blk_put (cs := #[.int .i64 2, .int .i64 0, .int .i64 0, .int .i64 0]) ?_ 1 _ rfl; refine blk_put (cs := #[.int .i64 0, .int .i64 0, .int .i64 0, .int .i64 0]) ?_ 0 _ rfl; exact BK138.out⟩
                  have n4_ : Aside0 (Below w.heap.size w ((((w26b.setCell ⟨gb138, 0, none⟩ (.int .i64 2)).setCell ⟨gb138, 1, none⟩ (.int .i64 5)).setCell ⟨gb138, 2, none⟩ (.int .i64 0)).setCell ⟨gb138, 3, none⟩ (.int .i64 9))) := ⟨by (iterate 4 refine below_set ?_ GE138.out); exact HB.out⟩
                  clear BK135 BK136 BK137 BK138 HB
                  generalize ((((w26b.setCell ⟨gb138, 0, none⟩ (.int .i64 2)).setCell ⟨gb138, 1, none⟩ (.int .i64 5)).setCell ⟨gb138, 2, none⟩ (.int .i64 0)).setCell ⟨gb138, 3, none⟩ (.int .i64 9)) = w27 at n0_ n1_ n2_ n3_ n4_ hHeld ⊢
                  have BK135 := n0_
                  have BK136 := n1_
                  have BK137 := n2_
                  have BK138 := n3_
                  have HB := n4_
                  clear n0_ n1_ n2_ n3_ n4_
                  refine done_ (done_of HT_.out (by kernel_rfl)) ?_
                  have hnb39 := NB136_135.out
                  have hnc39 := NB135_136.out
                  have hnb40 := NB136_137.out
                  have hnc40 := NB137_136.out
                  have hnb41 := NB136_138.out
                  have hnc41 := NB138_136.out
                  have hnb43 := NB137_135.out
                  have hnc43 := NB135_137.out
                  have hnb44 := NB137_138.out
                  have hnc44 := NB138_137.out
                  have hnb46 := NB138_135.out
                  have hnc46 := NB135_138.out
                  have hcz135_0 : w27.cell? ⟨gb135, 0, none⟩ = some (.int .i64 2) := (blk_cell BK135.out 0).trans rfl
                  have hfz135_0 := blk_frozen BK135.out 0
                  have hcz135_1 : w27.cell? ⟨gb135, 1, none⟩ = some (.int .i64 5) := (blk_cell BK135.out 1).trans rfl
                  have hfz135_1 := blk_frozen BK135.out 1
                  have hcz135_2 : w27.cell? ⟨gb135, 2, none⟩ = some (.int .i64 0) := (blk_cell BK135.out 2).trans rfl
                  have hfz135_2 := blk_frozen BK135.out 2
                  have hcz135_3 : w27.cell? ⟨gb135, 3, none⟩ = some (.int .i64 9) := (blk_cell BK135.out 3).trans rfl
                  have hfz135_3 := blk_frozen BK135.out 3
                  have hcz136_0 : w27.cell? ⟨gb136, 0, none⟩ = some (.int .i64 2) := (blk_cell BK136.out 0).trans rfl
                  have hfz136_0 := blk_frozen BK136.out 0
                  have hcz136_1 : w27.cell? ⟨gb136, 1, none⟩ = some (.int .i64 5) := (blk_cell BK136.out 1).trans rfl
                  have hfz136_1 := blk_frozen BK136.out 1
                  have hcz136_2 : w27.cell? ⟨gb136, 2, none⟩ = some (.int .i64 0) := (blk_cell BK136.out 2).trans rfl
                  have hfz136_2 := blk_frozen BK136.out 2
                  have hcz136_3 : w27.cell? ⟨gb136, 3, none⟩ = some (.int .i64 9) := (blk_cell BK136.out 3).trans rfl
                  have hfz136_3 := blk_frozen BK136.out 3
                  have hcz137_0 : w27.cell? ⟨gb137, 0, none⟩ = some (.int .i64 2) := (blk_cell BK137.out 0).trans rfl
                  have hfz137_0 := blk_frozen BK137.out 0
                  have hcz137_1 : w27.cell? ⟨gb137, 1, none⟩ = some (.int .i64 5) := (blk_cell BK137.out 1).trans rfl
                  have hfz137_1 := blk_frozen BK137.out 1
                  have hcz137_2 : w27.cell? ⟨gb137, 2, none⟩ = some (.int .i64 0) := (blk_cell BK137.out 2).trans rfl
                  have hfz137_2 := blk_frozen BK137.out 2
                  have hcz137_3 : w27.cell? ⟨gb137, 3, none⟩ = some (.int .i64 9) := (blk_cell BK137.out 3).trans rfl
                  have hfz137_3 := blk_frozen BK137.out 3
                  have hcz138_0 : w27.cell? ⟨gb138, 0, none⟩ = some (.int .i64 2) := (blk_cell BK138.out 0).trans rfl
                  have hfz138_0 := blk_frozen BK138.out 0
                  have hcz138_1 : w27.cell? ⟨gb138, 1, none⟩ = some (.int .i64 5) := (blk_cell BK138.out 1).trans rfl
                  have hfz138_1 := blk_frozen BK138.out 1
                  have hcz138_2 : w27.cell? ⟨gb138, 2, none⟩ = some (.int .i64 0) := (blk_cell BK138.out 2).trans rfl
                  have hfz138_2 := blk_frozen BK138.out 2
                  have hcz138_3 : w27.cell? ⟨gb138, 3, none⟩ = some (.int .i64 9) := (blk_cell BK138.out 3).trans rfl
                  have hfz138_3 := blk_frozen BK138.out 3
                  try go_wp2_with (first | ((with_reducible refine gate_callee (f := 24) rfl ?_); refine goesL_ (some 25) rfl rfl Try.func24 (by kernel_rfl) rfl #[.agg #[.int .i64 2, .int .i64 5, .int .i64 0, .int .i64 9], .agg #[.int .i64 2, .int .i64 6, .int .i64 0, .int .i64 9]] rfl (by (try simp only [List.map_toArray, List.map_cons, List.map_nil]); first | done | rfl | (simp only [List.length_drop, List.length_take]; rfl)) ?_; (with_reducible refine (newer_Compare.calls k 2 5 0 9 2 6 0 9 t139 t140 _ A1.out).mono ?_); rintro e w49 ⟨rfl, hb⟩; refine ⟨_, rfl, ?_⟩; have n0_ := Aside0.mk (blk_below (g := gb135) (o := .cells #[.int .i64 2, .int .i64 5, .int .i64 0, .int .i64 9] 40 (0, 0)) (by (with_reducible repeat (first | refine blk_drewN ?_ _ | refine blk_drew ?_ | refine blk_alloc ?_ _)); refine blk_far ?_ NB135_138.out _; (with_reducible repeat (first | refine blk_drewN ?_ _ | refine blk_drew ?_ | refine blk_alloc ?_ _)); refine blk_far ?_ NB135_137.out _; (with_reducible repeat (first | refine blk_drewN ?_ _ | refine blk_drew ?_ | refine blk_alloc ?_ _)); refine blk_far ?_ NB135_136.out _; (with_reducible repeat (first | refine blk_drewN ?_ _ | refine blk_drew ?_ | refine blk_alloc ?_ _)); exact BK135.out) hb); have n1_ := Aside0.mk (blk_below (g := gb136) (o := .cells #[.int .i64 2, .int .i64 6, .int .i64 0, .int .i64 9] 40 (0, 0)) (by (with_reducible repeat (first | refine blk_drewN ?_ _ | refine blk_drew ?_ | refine blk_alloc ?_ _)); refine blk_far ?_ NB136_138.out _; (with_reducible repeat (first | refine blk_drewN ?_ _ | refine blk_drew ?_ | refine blk_alloc ?_ _)); refine blk_far ?_ NB136_137.out _; (with_reducible repeat (first | refine blk_drewN ?_ _ | refine blk_drew ?_ | refine blk_alloc ?_ _)); refine blk_put (cs := #[.int .i64 2, .int .i64 5, .int .i64 0, .int .i64 9]) ?_ 1 _ rfl; (with_reducible repeat (first | refine blk_drewN ?_ _ | refine blk_drew ?_ | refine blk_alloc ?_ _)); exact BK136.out) hb); have n2_ := Aside0.mk (blk_below (g := gb137) (o := .cells #[.int .i64 2, .int .i64 5, .int .i64 0, .int .i64 10] 40 (0, 0)) (by (with_reducible repeat (first | refine blk_drewN ?_ _ | refine blk_drew ?_ | refine blk_alloc ?_ _)); refine blk_far ?_ NB137_138.out _; (with_reducible repeat (first | refine blk_drewN ?_ _ | refine blk_drew ?_ | refine blk_alloc ?_ _)); refine blk_put (cs := #[.int .i64 2, .int .i64 5, .int .i64 0, .int .i64 9]) ?_ 3 _ rfl; (with_reducible repeat (first | refine blk_drewN ?_ _ | refine blk_drew ?_ | refine blk_alloc ?_ _)); refine blk_far ?_ NB137_136.out _; (with_reducible repeat (first | refine blk_drewN ?_ _ | refine blk_drew ?_ | refine blk_alloc ?_ _)); exact BK137.out) hb); have n3_ := Aside0.mk (blk_below (g := gb138) (o := .cells #[.int .i64 2, .int .i64 5, .int .i64 60, .int .i64 9] 40 (0, 0)) (by (with_reducible repeat (first | refine blk_drewN ?_ _ | refine blk_drew ?_ | refine blk_alloc ?_ _)); refine blk_put (cs := #[.int .i64 2, .int .i64 5, .int .i64 0, .int .i64 9]) ?_ 2 _ rfl; (with_reducible repeat (first | refine blk_drewN ?_ _ | refine blk_drew ?_ | refine blk_alloc ?_ _)); refine blk_far ?_ NB138_137.out _; (with_reducible repeat (first | refine blk_drewN ?_ _ | refine blk_drew ?_ | refine blk_alloc ?_ _)); refine blk_far ?_ NB138_136.out _; (with_reducible repeat (first | refine blk_drewN ?_ _ | refine blk_drew ?_ | refine blk_alloc ?_ _)); exact BK138.out) hb); have n4_ := Aside0.mk (below_step (by repeat (first | (with_reducible first | exact HB.out | apply below_alloc | apply pw_below_drewN | apply below_drew1 | refine below_set ?_ GE135.out | refine below_set ?_ GE136.out | refine below_set ?_ GE137.out | refine below_set ?_ GE138.out) | exact HB.out)) hb); clear BK135; clear BK136; clear BK137; clear BK138; clear HB; have BK135 := n0_; have BK136 := n1_; have BK137 := n2_; have BK138 := n3_; have HB := n4_; clear n0_ n1_ n2_ n3_ n4_; (try clear hb); (try clear hb2); (try clear hk); (try clear hi); have hcz50_0 : w49.cell? ⟨gb137, 0, none⟩ = some (.int .i64 2) := (blk_cell BK137.out 0).trans rfl; have hcz50_1 : w49.cell? ⟨gb137, 1, none⟩ = some (.int .i64 5) := (blk_cell BK137.out 1).trans rfl; have hcz50_2 : w49.cell? ⟨gb137, 2, none⟩ = some (.int .i64 0) := (blk_cell BK137.out 2).trans rfl; have hcz50_3 : w49.cell? ⟨gb137, 3, none⟩ = some (.int .i64 10) := (blk_cell BK137.out 3).trans rfl; have hfz50_0 := blk_frozen BK137.out 0; have hfz50_1 := blk_frozen BK137.out 1; have hfz50_2 := blk_frozen BK137.out 2; have hfz50_3 := blk_frozen BK137.out 3; have hcz51_0 : w49.cell? ⟨gb135, 0, none⟩ = some (.int .i64 2) := (blk_cell BK135.out 0).trans rfl; have hcz51_1 : w49.cell? ⟨gb135, 1, none⟩ = some (.int .i64 5) := (blk_cell BK135.out 1).trans rfl; have hcz51_2 : w49.cell? ⟨gb135, 2, none⟩ = some (.int .i64 0) := (blk_cell BK135.out 2).trans rfl; have hcz51_3 : w49.cell? ⟨gb135, 3, none⟩ = some (.int .i64 9) := (blk_cell BK135.out 3).trans rfl; have hfz51_0 := blk_frozen BK135.out 0; have hfz51_1 := blk_frozen BK135.out 1; have hfz51_2 := blk_frozen BK135.out 2; have hfz51_3 := blk_frozen BK135.out 3) | ((with_reducible refine gate_callee (f := 24) rfl ?_); refine goesL_ (some 31) rfl rfl Try.func24 (by kernel_rfl) rfl #[.agg #[.int .i64 2, .int .i64 5, .int .i64 0, .int .i64 10], .agg #[.int .i64 2, .int .i64 5, .int .i64 0, .int .i64 9]] rfl (by (try simp only [List.map_toArray, List.map_cons, List.map_nil]); first | done | rfl | (simp only [List.length_drop, List.length_take]; rfl)) ?_; (with_reducible refine (newer_Compare.calls k 2 5 0 10 2 5 0 9 t141 t142 _ A2.out).mono ?_); rintro e w52 ⟨rfl, hb⟩; refine ⟨_, rfl, ?_⟩; have n0_ := Aside0.mk (blk_below (g := gb135) (o := .cells #[.int .i64 2, .int .i64 5, .int .i64 0, .int .i64 9] 40 (0, 0)) (by (with_reducible repeat (first | refine blk_drewN ?_ _ | refine blk_drew ?_ | refine blk_alloc ?_ _)); exact BK135.out) hb); have n1_ := Aside0.mk (blk_below (g := gb136) (o := .cells #[.int .i64 2, .int .i64 6, .int .i64 0, .int .i64 9] 40 (0, 0)) (by (with_reducible repeat (first | refine blk_drewN ?_ _ | refine blk_drew ?_ | refine blk_alloc ?_ _)); exact BK136.out) hb); have n2_ := Aside0.mk (blk_below (g := gb137) (o := .cells #[.int .i64 2, .int .i64 5, .int .i64 0, .int .i64 10] 40 (0, 0)) (by (with_reducible repeat (first | refine blk_drewN ?_ _ | refine blk_drew ?_ | refine blk_alloc ?_ _)); exact BK137.out) hb); have n3_ := Aside0.mk (blk_below (g := gb138) (o := .cells #[.int .i64 2, .int .i64 5, .int .i64 60, .int .i64 9] 40 (0, 0)) (by (with_reducible repeat (first | refine blk_drewN ?_ _ | refine blk_drew ?_ | refine blk_alloc ?_ _)); exact BK138.out) hb); have n4_ := Aside0.mk (below_step (by repeat (first | (with_reducible first | exact HB.out | apply below_alloc | apply pw_below_drewN | apply below_drew1 | refine below_set ?_ GE135.out | refine below_set ?_ GE136.out | refine below_set ?_ GE137.out | refine below_set ?_ GE138.out) | exact HB.out)) hb); clear BK135; clear BK136; clear BK137; clear BK138; clear HB; have BK135 := n0_; have BK136 := n1_; have BK137 := n2_; have BK138 := n3_; have HB := n4_; clear n0_ n1_ n2_ n3_ n4_; (try clear hb); (try clear hb2); (try clear hk); (try clear hi); have hcz53_0 : w52.cell? ⟨gb138, 0, none⟩ = some (.int .i64 2) := (blk_cell BK138.out 0).trans rfl; have hcz53_1 : w52.cell? ⟨gb138, 1, none⟩ = some (.int .i64 5) := (blk_cell BK138.out 1).trans rfl; have hcz53_2 : w52.cell? ⟨gb138, 2, none⟩ = some (.int .i64 60) := (blk_cell BK138.out 2).trans rfl; have hcz53_3 : w52.cell? ⟨gb138, 3, none⟩ = some (.int .i64 9) := (blk_cell BK138.out 3).trans rfl; have hfz53_0 := blk_frozen BK138.out 0; have hfz53_1 := blk_frozen BK138.out 1; have hfz53_2 := blk_frozen BK138.out 2; have hfz53_3 := blk_frozen BK138.out 3; have hcz54_0 : w52.cell? ⟨gb135, 0, none⟩ = some (.int .i64 2) := (blk_cell BK135.out 0).trans rfl; have hcz54_1 : w52.cell? ⟨gb135, 1, none⟩ = some (.int .i64 5) := (blk_cell BK135.out 1).trans rfl; have hcz54_2 : w52.cell? ⟨gb135, 2, none⟩ = some (.int .i64 0) := (blk_cell BK135.out 2).trans rfl; have hcz54_3 : w52.cell? ⟨gb135, 3, none⟩ = some (.int .i64 9) := (blk_cell BK135.out 3).trans rfl; have hfz54_0 := blk_frozen BK135.out 0; have hfz54_1 := blk_frozen BK135.out 1; have hfz54_2 := blk_frozen BK135.out 2; have hfz54_3 := blk_frozen BK135.out 3) | ((with_reducible refine gate_callee (f := 24) rfl ?_); refine goesL_ (some 37) rfl rfl Try.func24 (by kernel_rfl) rfl #[.agg #[.int .i64 2, .int .i64 5, .int .i64 60, .int .i64 9], .agg #[.int .i64 2, .int .i64 5, .int .i64 0, .int .i64 9]] rfl (by (try simp only [List.map_toArray, List.map_cons, List.map_nil]); first | done | rfl | (simp only [List.length_drop, List.length_take]; rfl)) ?_; (with_reducible refine (newer_Compare.calls k 2 5 60 9 2 5 0 9 t143 t144 _ A3.out).mono ?_); rintro e w55 ⟨rfl, hb⟩; refine ⟨_, rfl, ?_⟩; have n0_ := Aside0.mk (blk_below (g := gb135) (o := .cells #[.int .i64 2, .int .i64 5, .int .i64 0, .int .i64 9] 40 (0, 0)) (by (with_reducible repeat (first | refine blk_drewN ?_ _ | refine blk_drew ?_ | refine blk_alloc ?_ _)); exact BK135.out) hb); have n1_ := Aside0.mk (blk_below (g := gb136) (o := .cells #[.int .i64 2, .int .i64 6, .int .i64 0, .int .i64 9] 40 (0, 0)) (by (with_reducible repeat (first | refine blk_drewN ?_ _ | refine blk_drew ?_ | refine blk_alloc ?_ _)); exact BK136.out) hb); have n2_ := Aside0.mk (blk_below (g := gb137) (o := .cells #[.int .i64 2, .int .i64 5, .int .i64 0, .int .i64 10] 40 (0, 0)) (by (with_reducible repeat (first | refine blk_drewN ?_ _ | refine blk_drew ?_ | refine blk_alloc ?_ _)); exact BK137.out) hb); have n3_ := Aside0.mk (blk_below (g := gb138) (o := .cells #[.int .i64 2, .int .i64 5, .int .i64 60, .int .i64 9] 40 (0, 0)) (by (with_reducible repeat (first | refine blk_drewN ?_ _ | refine blk_drew ?_ | refine blk_alloc ?_ _)); exact BK138.out) hb); have n4_ := Aside0.mk (below_step (by repeat (first | (with_reducible first | exact HB.out | apply below_alloc | apply pw_below_drewN | apply below_drew1 | refine below_set ?_ GE135.out | refine below_set ?_ GE136.out | refine below_set ?_ GE137.out | refine below_set ?_ GE138.out) | exact HB.out)) hb); clear BK135; clear BK136; clear BK137; clear BK138; clear HB; have BK135 := n0_; have BK136 := n1_; have BK137 := n2_; have BK138 := n3_; have HB := n4_; clear n0_ n1_ n2_ n3_ n4_; (try clear hb); (try clear hb2); (try clear hk); (try clear hi); have hcz56_0 : w55.cell? ⟨gb135, 0, none⟩ = some (.int .i64 2) := (blk_cell BK135.out 0).trans rfl; have hcz56_1 : w55.cell? ⟨gb135, 1, none⟩ = some (.int .i64 5) := (blk_cell BK135.out 1).trans rfl; have hcz56_2 : w55.cell? ⟨gb135, 2, none⟩ = some (.int .i64 0) := (blk_cell BK135.out 2).trans rfl; have hcz56_3 : w55.cell? ⟨gb135, 3, none⟩ = some (.int .i64 9) := (blk_cell BK135.out 3).trans rfl; have hfz56_0 := blk_frozen BK135.out 0; have hfz56_1 := blk_frozen BK135.out 1; have hfz56_2 := blk_frozen BK135.out 2; have hfz56_3 := blk_frozen BK135.out 3) | ((with_reducible refine gate_callee (f := 24) rfl ?_); refine goesL_ (some 43) rfl rfl Try.func24 (by kernel_rfl) rfl #[.agg #[.int .i64 2, .int .i64 5, .int .i64 0, .int .i64 9], .agg #[.int .i64 2, .int .i64 5, .int .i64 0, .int .i64 9]] rfl (by (try simp only [List.map_toArray, List.map_cons, List.map_nil]); first | done | rfl | (simp only [List.length_drop, List.length_take]; rfl)) ?_; (with_reducible refine (newer_Compare.calls k 2 5 0 9 2 5 0 9 t145 t146 _ A4.out).mono ?_); rintro e w57 ⟨rfl, hb⟩; refine ⟨_, rfl, ?_⟩; have n0_ := Aside0.mk (blk_below (g := gb135) (o := .cells #[.int .i64 2, .int .i64 5, .int .i64 0, .int .i64 9] 40 (0, 0)) (by (with_reducible repeat (first | refine blk_drewN ?_ _ | refine blk_drew ?_ | refine blk_alloc ?_ _)); exact BK135.out) hb); have n1_ := Aside0.mk (blk_below (g := gb136) (o := .cells #[.int .i64 2, .int .i64 6, .int .i64 0, .int .i64 9] 40 (0, 0)) (by (with_reducible repeat (first | refine blk_drewN ?_ _ | refine blk_drew ?_ | refine blk_alloc ?_ _)); exact BK136.out) hb); have n2_ := Aside0.mk (blk_below (g := gb137) (o := .cells #[.int .i64 2, .int .i64 5, .int .i64 0, .int .i64 10] 40 (0, 0)) (by (with_reducible repeat (first | refine blk_drewN ?_ _ | refine blk_drew ?_ | refine blk_alloc ?_ _)); exact BK137.out) hb); have n3_ := Aside0.mk (blk_below (g := gb138) (o := .cells #[.int .i64 2, .int .i64 5, .int .i64 60, .int .i64 9] 40 (0, 0)) (by (with_reducible repeat (first | refine blk_drewN ?_ _ | refine blk_drew ?_ | refine blk_alloc ?_ _)); exact BK138.out) hb); have n4_ := Aside0.mk (below_step (by repeat (first | (with_reducible first | exact HB.out | apply below_alloc | apply pw_below_drewN | apply below_drew1 | refine below_set ?_ GE135.out | refine below_set ?_ GE136.out | refine below_set ?_ GE137.out | refine below_set ?_ GE138.out) | exact HB.out)) hb); clear BK135; clear BK136; clear BK137; clear BK138; clear HB; have BK135 := n0_; have BK136 := n1_; have BK137 := n2_; have BK138 := n3_; have HB := n4_; clear n0_ n1_ n2_ n3_ n4_; (try clear hb); (try clear hb2); (try clear hk); (try clear hi); have hcz58_0 : w57.cell? ⟨gb135, 0, none⟩ = some (.int .i64 2) := (blk_cell BK135.out 0).trans rfl; have hcz58_1 : w57.cell? ⟨gb135, 1, none⟩ = some (.int .i64 5) := (blk_cell BK135.out 1).trans rfl; have hcz58_2 : w57.cell? ⟨gb135, 2, none⟩ = some (.int .i64 0) := (blk_cell BK135.out 2).trans rfl; have hcz58_3 : w57.cell? ⟨gb135, 3, none⟩ = some (.int .i64 9) := (blk_cell BK135.out 3).trans rfl; have hfz58_0 := blk_frozen BK135.out 0; have hfz58_1 := blk_frozen BK135.out 1; have hfz58_2 := blk_frozen BK135.out 2; have hfz58_3 := blk_frozen BK135.out 3) | ((with_reducible refine gate_callee (f := 24) rfl ?_); refine goesL_ (some 49) rfl rfl Try.func24 (by kernel_rfl) rfl #[.agg #[.int .i64 2, .int .i64 5, .int .i64 0, .int .i64 9], .agg #[.int .i64 0, .int .i64 0, .int .i64 0, .int .i64 0]] rfl (by (try simp only [List.map_toArray, List.map_cons, List.map_nil]); first | done | rfl | (simp only [List.length_drop, List.length_take]; rfl)) ?_; (with_reducible refine (newer_Compare.calls k 2 5 0 9 0 0 0 0 t147 t148 _ A5.out).mono ?_); rintro e w59 ⟨rfl, hb⟩; refine ⟨_, rfl, ?_⟩; have n0_ := Aside0.mk (blk_below (g := gb135) (o := .cells #[.int .i64 2, .int .i64 5, .int .i64 0, .int .i64 9] 40 (0, 0)) (by (with_reducible repeat (first | refine blk_drewN ?_ _ | refine blk_drew ?_ | refine blk_alloc ?_ _)); exact BK135.out) hb); have n1_ := Aside0.mk (blk_below (g := gb136) (o := .cells #[.int .i64 2, .int .i64 6, .int .i64 0, .int .i64 9] 40 (0, 0)) (by (with_reducible repeat (first | refine blk_drewN ?_ _ | refine blk_drew ?_ | refine blk_alloc ?_ _)); exact BK136.out) hb); have n2_ := Aside0.mk (blk_below (g := gb137) (o := .cells #[.int .i64 2, .int .i64 5, .int .i64 0, .int .i64 10] 40 (0, 0)) (by (with_reducible repeat (first | refine blk_drewN ?_ _ | refine blk_drew ?_ | refine blk_alloc ?_ _)); exact BK137.out) hb); have n3_ := Aside0.mk (blk_below (g := gb138) (o := .cells #[.int .i64 2, .int .i64 5, .int .i64 60, .int .i64 9] 40 (0, 0)) (by (with_reducible repeat (first | refine blk_drewN ?_ _ | refine blk_drew ?_ | refine blk_alloc ?_ _)); exact BK138.out) hb); have n4_ := Aside0.mk (below_step (by repeat (first | (with_reducible first | exact HB.out | apply below_alloc | apply pw_below_drewN | apply below_drew1 | refine below_set ?_ GE135.out | refine below_set ?_ GE136.out | refine below_set ?_ GE137.out | refine below_set ?_ GE138.out) | exact HB.out)) hb); clear BK135; clear BK136; clear BK137; clear BK138; clear HB; have BK135 := n0_; have BK136 := n1_; have BK137 := n2_; have BK138 := n3_; have HB := n4_; clear n0_ n1_ n2_ n3_ n4_; (try clear hb); (try clear hb2); (try clear hk); (try clear hi)) | (go_at_call 17; (with_reducible refine (watchwordlaw0_Num.calls t140 t149 _ A7.out).mono ?_); rintro e w' ⟨rfl, ⟨nd, rfl⟩⟩) | (go_at_call 17; (with_reducible refine (watchwordlaw0_Num.calls t142 t150 _ A10.out).mono ?_); rintro e w' ⟨rfl, ⟨nd, rfl⟩⟩) | (go_at_call 17; (with_reducible refine (watchwordlaw0_Num.calls t144 t151 _ A13.out).mono ?_); rintro e w' ⟨rfl, ⟨nd, rfl⟩⟩) | (go_at_call 17; (with_reducible refine (watchwordlaw0_Num.calls t146 t152 _ A16.out).mono ?_); rintro e w' ⟨rfl, ⟨nd, rfl⟩⟩) | (go_at_call 17; (with_reducible refine (watchwordlaw0_Num.calls t148 t153 _ A18.out).mono ?_); rintro e w' ⟨rfl, ⟨nd, rfl⟩⟩))
                  go_ret
                  exact ⟨by first | rfl | (simp [errW_none, errW_some] <;> rfl) | (simp [*, errW_none, errW_some] <;> rfl), by repeat (first | (with_reducible first | exact HB.out | apply below_alloc | apply pw_below_drewN | apply below_drew1 | refine below_set ?_ GE135.out | refine below_set ?_ GE136.out | refine below_set ?_ GE137.out | refine below_set ?_ GE138.out) | exact HB.out)⟩
                · rw [if_neg c17] at H
                  have c17b0 : (t152 == 0) = false := beq_eq_false_iff_ne.mpr c17
                  have c17b1 : (t152 != 0) = true := bne_iff_ne.mpr c17
                  exact absurd (Option.some.inj H) (by rw [HT.out]; decide)
              · rw [if_neg c15] at H
                have c15b0 : (t145 == 0) = false := beq_eq_false_iff_ne.mpr c15
                have c15b1 : (t145 != 0) = true := bne_iff_ne.mpr c15
                exact absurd (Option.some.inj H) (by rw [HT.out]; decide)
            · rw [if_neg c14] at H
              have c14b0 : (t151 == 0) = false := beq_eq_false_iff_ne.mpr c14
              have c14b1 : (t151 != 0) = true := bne_iff_ne.mpr c14
              exact absurd (Option.some.inj H) (by rw [HT.out]; decide)
          · rw [if_neg c12] at H
            have c12b0 : (t143 == 1) = false := beq_eq_false_iff_ne.mpr c12
            have c12b1 : (t143 != 1) = true := bne_iff_ne.mpr c12
            exact absurd (Option.some.inj H) (by rw [HT.out]; decide)
        · rw [if_neg c11] at H
          have c11b0 : (t150 == 0) = false := beq_eq_false_iff_ne.mpr c11
          have c11b1 : (t150 != 0) = true := bne_iff_ne.mpr c11
          exact absurd (Option.some.inj H) (by rw [HT.out]; decide)
      · rw [if_neg c9] at H
        have c9b0 : (t141 == 1) = false := beq_eq_false_iff_ne.mpr c9
        have c9b1 : (t141 != 1) = true := bne_iff_ne.mpr c9
        exact absurd (Option.some.inj H) (by rw [HT.out]; decide)
    · rw [if_neg c8] at H
      have c8b0 : (t149 == 0) = false := beq_eq_false_iff_ne.mpr c8
      have c8b1 : (t149 != 0) = true := bne_iff_ne.mpr c8
      exact absurd (Option.some.inj H) (by rw [HT.out]; decide)
  · rw [if_neg c6] at H
    have c6b0 : (t139 == (-1)) = false := beq_eq_false_iff_ne.mpr c6
    have c6b1 : (t139 != (-1)) = true := bne_iff_ne.mpr c6
    exact absurd (Option.some.inj H) (by rw [HT.out]; decide)

end Go.Proofs.Ytdmnfmkeifjmlaa.Q17
