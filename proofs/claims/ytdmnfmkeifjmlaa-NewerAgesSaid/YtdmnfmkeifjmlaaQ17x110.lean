/- Written by a program of this session out of the print of the loaded functions: each Go function as a plain function, and that its call comes to it; for a law, the row out of its plain statement. -/
import Derived.Test.YtdmnfmkeifjmlaaQ17x0
import Derived.Test.YtdmnfmkeifjmlaaQ17x117
import Derived.Test.YtdmnfmkeifjmlaaQ17x124
import Derived.Test.YtdmnfmkeifjmlaaQ17x126
namespace Go.Proofs.Ytdmnfmkeifjmlaa.Q17
open Go.RowKit Go.Proofs.YtdmnfmkeifjmlaaW.PrintWords Go.Proofs.YtdmnfmkeifjmlaaW.PrintLast Go.Proofs.YtdmnfmkeifjmlaaW.PrintMore
attribute [local go_sem] max2_int min2_int max_two min_two max_three min_three max_four min_four   -- for this text's walks alone
set_option linter.unusedVariables false
set_option linter.unusedSimpArgs false

/-! ### watchwordlaw17_NewerAges: function 10 -/
def watchwordlaw17_NewerAges.j0 : Nat → Int → Int → Int → Int → Int → Bool → Option (Bool)
  | 0, _, _, _, _, _, _ => none
  | k + 1, x5, x6, x7, x8, x9, x33 => if x33 = true then (if x6 = 60 then (if x5 < 60 then ((watchwordlaw0_Num.f x8).bind fun t191 => (if t191 = 0 then (some (x7 == (-1))) else (some false))) else ((watchwordlaw0_Num.f x8).bind fun t192 => (if t192 = 0 then (some (x7 == 1)) else (some false)))) else ((watchwordlaw0_Num.f x8).bind fun t193 => (if t193 = 0 then (some (x7 == 1)) else (some false)))) else (if x6 = 60 then (if x5 < 60 then ((watchwordlaw0_Num.f x8).bind fun t194 => (if t194 = 0 then (some (x7 == (-1))) else (some false))) else ((watchwordlaw0_Num.f x8).bind fun t195 => (if t195 = 0 then (some (x7 == x9)) else (some false)))) else ((watchwordlaw0_Num.f x8).bind fun t196 => (if t196 = 0 then (some (x7 == x9)) else (some false))))
def watchwordlaw17_NewerAges.f (k : Nat) (a0 : Int) (a1 : Int) : Option (Bool) := (watchwordlaw17_awake.f k).bind fun t188 => (if t188 = true then ((newer_Compare.f k 1 9 (wrap64 (Int.tmod (IntKind.u64.wrap (a0)) 61)) 3 1 9 (wrap64 (Int.tmod (IntKind.u64.wrap (a1)) 61)) 3).bind fun bt189 => (if (wrap64 (Int.tmod (IntKind.u64.wrap (a0)) 61)) = 60 then (watchwordlaw17_NewerAges.j0 k (wrap64 (Int.tmod (IntKind.u64.wrap (a0)) 61)) (wrap64 (Int.tmod (IntKind.u64.wrap (a1)) 61)) bt189.1 bt189.2 0 (decide ((wrap64 (Int.tmod (IntKind.u64.wrap (a1)) 61)) < 60))) else (watchwordlaw17_NewerAges.j0 k (wrap64 (Int.tmod (IntKind.u64.wrap (a0)) 61)) (wrap64 (Int.tmod (IntKind.u64.wrap (a1)) 61)) bt189.1 bt189.2 0 false))) else (some false))
theorem watchwordlaw17_NewerAges.mono_l : ∀ k, (∀ y0 y1 y2 y3 y4 y5, LeO (watchwordlaw17_NewerAges.j0 k y0 y1 y2 y3 y4 y5) (watchwordlaw17_NewerAges.j0 (k + 1) y0 y1 y2 y3 y4 y5))
  | 0 => fun _ _ _ _ _ _ r h => by simp [watchwordlaw17_NewerAges.j0] at h
  | k + 1 => by
    have ih0 := watchwordlaw17_NewerAges.mono_l k
    · intro y0 y1 y2 y3 y4 y5
      unfold watchwordlaw17_NewerAges.j0
      repeat' first
      | (with_reducible exact ih0 _ _ _ _ _ _)
      | (with_reducible exact newer_Compare.mono _ _ _ _ _ _ _ _ _)
      | (with_reducible exact watchwordlaw17_awake.mono _)
      | (with_reducible exact LeO.refl _)
      | (with_reducible exact LeO.none _)
      | (with_reducible refine LeO.ite ?_ ?_)
      | (with_reducible refine LeO.bind ?_ (fun _ => ?_))
      | exact ih0 _ _ _ _ _ _
      | exact newer_Compare.mono _ _ _ _ _ _ _ _ _
      | exact watchwordlaw17_awake.mono _
      | exact LeO.none _
      | refine LeO.ite ?_ ?_
      | refine LeO.bind ?_ (fun _ => ?_)
theorem watchwordlaw17_NewerAges.mono : ∀ a0 a1 k, LeO (watchwordlaw17_NewerAges.f k a0 a1) (watchwordlaw17_NewerAges.f (k + 1) a0 a1) := by
  intro a0 a1 k
  have ih0 := watchwordlaw17_NewerAges.mono_l k
  unfold watchwordlaw17_NewerAges.f
  repeat' first
      | (with_reducible exact ih0 _ _ _ _ _ _)
      | (with_reducible exact newer_Compare.mono _ _ _ _ _ _ _ _ _)
      | (with_reducible exact watchwordlaw17_awake.mono _)
      | (with_reducible exact LeO.refl _)
      | (with_reducible exact LeO.none _)
      | (with_reducible refine LeO.ite ?_ ?_)
      | (with_reducible refine LeO.bind ?_ (fun _ => ?_))
      | exact ih0 _ _ _ _ _ _
      | exact newer_Compare.mono _ _ _ _ _ _ _ _ _
      | exact watchwordlaw17_awake.mono _
      | exact LeO.none _
      | refine LeO.ite ?_ ?_
      | refine LeO.bind ?_ (fun _ => ?_)
set_option maxHeartbeats 8000000 in
set_option maxRecDepth 100000 in
theorem watchwordlaw17_NewerAges.calls (k : Nat) (a0 : Int) (a1 : Int) (r : Bool) (w : World) (h : watchwordlaw17_NewerAges.f k a0 a1 = some r) (hT : r = true) :
    Calls Try.prog 10 #[.int .i64 a0, .int .i64 a1] w fun e w' => e = .returned (.bool r) ∧ Below w.heap.size w w' := by
  have hu40 := Try.underlying40
  have HB := Aside0.mk (Below.refl w.heap.size w)
  have HT := Aside0.mk hT
  clear hT
  have H : ((watchwordlaw17_awake.f k).bind fun t188 => (if t188 = true then ((newer_Compare.f k 1 9 (wrap64 (Int.tmod (IntKind.u64.wrap (a0)) 61)) 3 1 9 (wrap64 (Int.tmod (IntKind.u64.wrap (a1)) 61)) 3).bind fun bt189 => (if (wrap64 (Int.tmod (IntKind.u64.wrap (a0)) 61)) = 60 then (watchwordlaw17_NewerAges.j0 k (wrap64 (Int.tmod (IntKind.u64.wrap (a0)) 61)) (wrap64 (Int.tmod (IntKind.u64.wrap (a1)) 61)) bt189.1 bt189.2 0 (decide ((wrap64 (Int.tmod (IntKind.u64.wrap (a1)) 61)) < 60))) else (watchwordlaw17_NewerAges.j0 k (wrap64 (Int.tmod (IntKind.u64.wrap (a0)) 61)) (wrap64 (Int.tmod (IntKind.u64.wrap (a1)) 61)) bt189.1 bt189.2 0 false))) else (some false))) = some r := h
  clear h
  replace H := Option.bind_eq_some_iff.mp H
  obtain ⟨t188, A30, H⟩ := H
  replace H : (if t188 = true then ((newer_Compare.f k 1 9 (wrap64 (Int.tmod (IntKind.u64.wrap (a0)) 61)) 3 1 9 (wrap64 (Int.tmod (IntKind.u64.wrap (a1)) 61)) 3).bind fun bt189 => (if (wrap64 (Int.tmod (IntKind.u64.wrap (a0)) 61)) = 60 then (watchwordlaw17_NewerAges.j0 k (wrap64 (Int.tmod (IntKind.u64.wrap (a0)) 61)) (wrap64 (Int.tmod (IntKind.u64.wrap (a1)) 61)) bt189.1 bt189.2 0 (decide ((wrap64 (Int.tmod (IntKind.u64.wrap (a1)) 61)) < 60))) else (watchwordlaw17_NewerAges.j0 k (wrap64 (Int.tmod (IntKind.u64.wrap (a0)) 61)) (wrap64 (Int.tmod (IntKind.u64.wrap (a1)) 61)) bt189.1 bt189.2 0 false))) else (some false)) = some r := H
  have A3 := Aside0.mk A30
  clear A30
  by_cases c4 : t188 = true
  · subst c4
    have H1 : ((newer_Compare.f k 1 9 (wrap64 (Int.tmod (IntKind.u64.wrap (a0)) 61)) 3 1 9 (wrap64 (Int.tmod (IntKind.u64.wrap (a1)) 61)) 3).bind fun bt189 => (if (wrap64 (Int.tmod (IntKind.u64.wrap (a0)) 61)) = 60 then (watchwordlaw17_NewerAges.j0 k (wrap64 (Int.tmod (IntKind.u64.wrap (a0)) 61)) (wrap64 (Int.tmod (IntKind.u64.wrap (a1)) 61)) bt189.1 bt189.2 0 (decide ((wrap64 (Int.tmod (IntKind.u64.wrap (a1)) 61)) < 60))) else (watchwordlaw17_NewerAges.j0 k (wrap64 (Int.tmod (IntKind.u64.wrap (a0)) 61)) (wrap64 (Int.tmod (IntKind.u64.wrap (a1)) 61)) bt189.1 bt189.2 0 false))) = some r := by rw [if_pos rfl] at H; exact H
    clear H
    have H := H1
    clear H1
    replace H := Option.bind_eq_some_iff.mp H
    obtain ⟨⟨t189, t190⟩, A50, H⟩ := H
    replace H : (if (wrap64 (Int.tmod (IntKind.u64.wrap (a0)) 61)) = 60 then (watchwordlaw17_NewerAges.j0 k (wrap64 (Int.tmod (IntKind.u64.wrap (a0)) 61)) (wrap64 (Int.tmod (IntKind.u64.wrap (a1)) 61)) t189 t190 0 (decide ((wrap64 (Int.tmod (IntKind.u64.wrap (a1)) 61)) < 60))) else (watchwordlaw17_NewerAges.j0 k (wrap64 (Int.tmod (IntKind.u64.wrap (a0)) 61)) (wrap64 (Int.tmod (IntKind.u64.wrap (a1)) 61)) t189 t190 0 false)) = some r := H
    have A5 := Aside0.mk A50
    clear A50
    have HC6 := Aside0.mk H
    clear H
    go_enter Try.func10, Try.ntmps10
    go_upto_region 6 with (first | ((with_reducible refine gate_callee (f := 26) rfl ?_); refine goesL_ (some 10) rfl rfl Try.func26 (by kernel_rfl) rfl #[] rfl (by (try simp only [List.map_toArray, List.map_cons, List.map_nil]); first | done | rfl | (simp only [List.length_drop, List.length_take]; rfl)) ?_; (with_reducible refine (watchwordlaw17_awake.calls k  true _ A3.out (by first | rfl | exact HT.out)).mono ?_); rintro e w7 ⟨rfl, hb⟩; refine ⟨_, rfl, ?_⟩; have n0_ := Aside0.mk (below_step (by repeat (first | (with_reducible first | exact HB.out | apply below_alloc | apply pw_below_drewN | apply below_drew1) | exact HB.out)) hb); clear HB; have HB := n0_; clear n0_; (try clear hb); (try clear hb2); (try clear hk); (try clear hi)) | ((with_reducible refine gate_callee (f := 24) rfl ?_); refine goesL_ (some 25) rfl rfl Try.func24 (by kernel_rfl) rfl #[.agg #[.int .i64 1, .int .i64 9, .int .i64 (wrap64 (Int.tmod (IntKind.u64.wrap (a0)) 61)), .int .i64 3], .agg #[.int .i64 1, .int .i64 9, .int .i64 (wrap64 (Int.tmod (IntKind.u64.wrap (a1)) 61)), .int .i64 3]] rfl (by (try simp only [List.map_toArray, List.map_cons, List.map_nil]); first | done | rfl | (simp only [List.length_drop, List.length_take]; rfl)) ?_; (with_reducible refine (newer_Compare.calls k 1 9 (wrap64 (Int.tmod (IntKind.u64.wrap (a0)) 61)) 3 1 9 (wrap64 (Int.tmod (IntKind.u64.wrap (a1)) 61)) 3 t189 t190 _ A5.out).mono ?_); rintro e w8 ⟨rfl, hb⟩; refine ⟨_, rfl, ?_⟩; have n0_ := Aside0.mk (below_step (by repeat (first | (with_reducible first | exact HB.out | apply below_alloc | apply pw_below_drewN | apply below_drew1) | exact HB.out)) hb); clear HB; have HB := n0_; clear n0_; (try clear hb); (try clear hb2); (try clear hk); (try clear hi)))
    (try simp only [Act.put, List.setIfInBounds_toArray, List.set_cons_zero, List.set_cons_succ])
    go_cut [33] (fun v33 wc => ∃ (kq : Nat) (x33_5 : Bool), v33 = .bool x33_5 ∧ Aside0 (watchwordlaw17_NewerAges.j0 kq (wrap64 (Int.tmod (IntKind.u64.wrap (a0)) 61)) (wrap64 (Int.tmod (IntKind.u64.wrap (a1)) 61)) t189 t190 0 x33_5 = some r) ∧ Aside0 (kq ≤ k) ∧ Aside0 (Below w.heap.size w wc))
    case first =>
      have H := HC6.out
      clear HC6
      by_cases c9 : (wrap64 (Int.tmod (IntKind.u64.wrap (a0)) 61)) = 60
      · rw [if_pos c9] at H
        have c9b0 : ((wrap64 (Int.tmod (IntKind.u64.wrap (a0)) 61)) == 60) = true := beq_iff_eq.mpr c9
        have c9b1 : ((wrap64 (Int.tmod (IntKind.u64.wrap (a0)) 61)) != 60) = false := bne_eq_false_iff_eq.mpr c9
        clear c9
        (first | rw [c9b0] | (simp only [i64_w, i32_w]; rw [c9b0]) | skip)
        have H' := Aside0.mk H
        clear H
        go_wp2
        go_meet
        case rel => exact ⟨_, (decide ((wrap64 (Int.tmod (IntKind.u64.wrap (a1)) 61)) < 60)), (by first | rfl | (simp; done) | (simp [*]; done)), H', ⟨by first | omega | exact Nat.le_refl _⟩, ⟨by repeat (first | (with_reducible first | exact HB.out | apply below_alloc | apply pw_below_drewN | apply below_drew1) | exact HB.out)⟩⟩
      · rw [if_neg c9] at H
        have c9b0 : ((wrap64 (Int.tmod (IntKind.u64.wrap (a0)) 61)) == 60) = false := beq_eq_false_iff_ne.mpr c9
        have c9b1 : ((wrap64 (Int.tmod (IntKind.u64.wrap (a0)) 61)) != 60) = true := bne_iff_ne.mpr c9
        (first | rw [c9b0] | (simp only [i64_w, i32_w]; rw [c9b0]) | skip)
        have H' := Aside0.mk H
        clear H
        go_wp2
        go_meet
        case rel => exact ⟨_, (false), (by first | rfl | (simp; done) | (simp [*]; done)), H', ⟨by first | omega | exact Nat.le_refl _⟩, ⟨by repeat (first | (with_reducible first | exact HB.out | apply below_alloc | apply pw_below_drewN | apply below_drew1) | exact HB.out)⟩⟩
    case rest =>
      clear HC6
      try clear c1
      try clear c2
      try clear p2
      try clear c4
      try clear p6
      try clear c9
      try clear c9b0
      try clear c9b1
      obtain ⟨kq, x33_5, rfl, HA, HJ5, HB⟩ := hcut
      cases kq with
      | zero => exact absurd HA.out (by simp [watchwordlaw17_NewerAges.j0])
      | succ kj5 =>
        have H := HA.out
        clear HA
        simp only [watchwordlaw17_NewerAges.j0] at H
        by_cases c10 : x33_5 = true
        · subst c10
          have H1 : (if (wrap64 (Int.tmod (IntKind.u64.wrap (a1)) 61)) = 60 then (if (wrap64 (Int.tmod (IntKind.u64.wrap (a0)) 61)) < 60 then ((watchwordlaw0_Num.f t190).bind fun t191 => (if t191 = 0 then (some (t189 == (-1))) else (some false))) else ((watchwordlaw0_Num.f t190).bind fun t192 => (if t192 = 0 then (some (t189 == 1)) else (some false)))) else ((watchwordlaw0_Num.f t190).bind fun t193 => (if t193 = 0 then (some (t189 == 1)) else (some false)))) = some r := by rw [if_pos rfl] at H; exact H
          clear H
          have H := H1
          clear H1
          by_cases c11 : (wrap64 (Int.tmod (IntKind.u64.wrap (a1)) 61)) = 60
          · rw [if_pos c11] at H
            have c11b0 : ((wrap64 (Int.tmod (IntKind.u64.wrap (a1)) 61)) == 60) = true := beq_iff_eq.mpr c11
            have c11b1 : ((wrap64 (Int.tmod (IntKind.u64.wrap (a1)) 61)) != 60) = false := bne_eq_false_iff_eq.mpr c11
            clear c11
            by_cases c12 : (wrap64 (Int.tmod (IntKind.u64.wrap (a0)) 61)) < 60
            · rw [if_pos c12] at H
              have c12b0 : decide ((wrap64 (Int.tmod (IntKind.u64.wrap (a0)) 61)) < 60) = true := decide_eq_true c12
              clear c12
              replace H := Option.bind_eq_some_iff.mp H
              obtain ⟨t191, A130, H⟩ := H
              replace H : (if t191 = 0 then (some (t189 == (-1))) else (some false)) = some r := H
              have A13 := Aside0.mk A130
              clear A130
              by_cases c14 : t191 = 0
              · rw [if_pos c14] at H
                have c14b0 : (t191 == 0) = true := beq_iff_eq.mpr c14
                have c14b1 : (t191 != 0) = false := bne_eq_false_iff_eq.mpr c14
                clear c14
                obtain rfl := Option.some.inj H
                go_wp2_with (first | ((with_reducible refine gate_callee (f := 17) rfl ?_); refine goesL_ (some 41) rfl rfl Try.func17 (by kernel_rfl) rfl #[.int .i64 t190] rfl (by (try simp only [List.map_toArray, List.map_cons, List.map_nil]); first | done | rfl | (simp only [List.length_drop, List.length_take]; rfl)) ?_; (with_reducible refine (watchwordlaw0_Num.calls t190 t191 _ A13.out).mono ?_); rintro e w' ⟨rfl, ⟨nd, rfl⟩⟩; refine ⟨_, rfl, ?_⟩))
                go_ret
                exact ⟨by first | rfl | (simp [errW_none, errW_some] <;> rfl) | (simp [*, errW_none, errW_some] <;> rfl), by repeat (first | (with_reducible first | exact HB.out | apply below_alloc | apply pw_below_drewN | apply below_drew1) | exact HB.out)⟩
              · rw [if_neg c14] at H
                have c14b0 : (t191 == 0) = false := beq_eq_false_iff_ne.mpr c14
                have c14b1 : (t191 != 0) = true := bne_iff_ne.mpr c14
                exact absurd (Option.some.inj H) (by rw [HT.out]; decide)
            · rw [if_neg c12] at H
              have c12b0 : decide ((wrap64 (Int.tmod (IntKind.u64.wrap (a0)) 61)) < 60) = false := decide_eq_false c12
              clear c12
              replace H := Option.bind_eq_some_iff.mp H
              obtain ⟨t192, A150, H⟩ := H
              replace H : (if t192 = 0 then (some (t189 == 1)) else (some false)) = some r := H
              have A15 := Aside0.mk A150
              clear A150
              by_cases c16 : t192 = 0
              · rw [if_pos c16] at H
                have c16b0 : (t192 == 0) = true := beq_iff_eq.mpr c16
                have c16b1 : (t192 != 0) = false := bne_eq_false_iff_eq.mpr c16
                clear c16
                obtain rfl := Option.some.inj H
                go_wp2_with (first | ((with_reducible refine gate_callee (f := 17) rfl ?_); refine goesL_ (some 41) rfl rfl Try.func17 (by kernel_rfl) rfl #[.int .i64 t190] rfl (by (try simp only [List.map_toArray, List.map_cons, List.map_nil]); first | done | rfl | (simp only [List.length_drop, List.length_take]; rfl)) ?_; (with_reducible refine (watchwordlaw0_Num.calls t190 t192 _ A15.out).mono ?_); rintro e w' ⟨rfl, ⟨nd, rfl⟩⟩; refine ⟨_, rfl, ?_⟩))
                go_ret
                exact ⟨by first | rfl | (simp [errW_none, errW_some] <;> rfl) | (simp [*, errW_none, errW_some] <;> rfl), by repeat (first | (with_reducible first | exact HB.out | apply below_alloc | apply pw_below_drewN | apply below_drew1) | exact HB.out)⟩
              · rw [if_neg c16] at H
                have c16b0 : (t192 == 0) = false := beq_eq_false_iff_ne.mpr c16
                have c16b1 : (t192 != 0) = true := bne_iff_ne.mpr c16
                exact absurd (Option.some.inj H) (by rw [HT.out]; decide)
          · rw [if_neg c11] at H
            have c11b0 : ((wrap64 (Int.tmod (IntKind.u64.wrap (a1)) 61)) == 60) = false := beq_eq_false_iff_ne.mpr c11
            have c11b1 : ((wrap64 (Int.tmod (IntKind.u64.wrap (a1)) 61)) != 60) = true := bne_iff_ne.mpr c11
            replace H := Option.bind_eq_some_iff.mp H
            obtain ⟨t193, A170, H⟩ := H
            replace H : (if t193 = 0 then (some (t189 == 1)) else (some false)) = some r := H
            have A17 := Aside0.mk A170
            clear A170
            by_cases c18 : t193 = 0
            · rw [if_pos c18] at H
              have c18b0 : (t193 == 0) = true := beq_iff_eq.mpr c18
              have c18b1 : (t193 != 0) = false := bne_eq_false_iff_eq.mpr c18
              clear c18
              obtain rfl := Option.some.inj H
              go_wp2_with (first | ((with_reducible refine gate_callee (f := 17) rfl ?_); refine goesL_ (some 41) rfl rfl Try.func17 (by kernel_rfl) rfl #[.int .i64 t190] rfl (by (try simp only [List.map_toArray, List.map_cons, List.map_nil]); first | done | rfl | (simp only [List.length_drop, List.length_take]; rfl)) ?_; (with_reducible refine (watchwordlaw0_Num.calls t190 t193 _ A17.out).mono ?_); rintro e w' ⟨rfl, ⟨nd, rfl⟩⟩; refine ⟨_, rfl, ?_⟩))
              go_ret
              exact ⟨by first | rfl | (simp [errW_none, errW_some] <;> rfl) | (simp [*, errW_none, errW_some] <;> rfl), by repeat (first | (with_reducible first | exact HB.out | apply below_alloc | apply pw_below_drewN | apply below_drew1) | exact HB.out)⟩
            · rw [if_neg c18] at H
              have c18b0 : (t193 == 0) = false := beq_eq_false_iff_ne.mpr c18
              have c18b1 : (t193 != 0) = true := bne_iff_ne.mpr c18
              exact absurd (Option.some.inj H) (by rw [HT.out]; decide)
        · replace c10 := Bool.eq_false_iff.mpr c10
          subst c10
          have H1 : (if (wrap64 (Int.tmod (IntKind.u64.wrap (a1)) 61)) = 60 then (if (wrap64 (Int.tmod (IntKind.u64.wrap (a0)) 61)) < 60 then ((watchwordlaw0_Num.f t190).bind fun t194 => (if t194 = 0 then (some (t189 == (-1))) else (some false))) else ((watchwordlaw0_Num.f t190).bind fun t195 => (if t195 = 0 then (some (t189 == 0)) else (some false)))) else ((watchwordlaw0_Num.f t190).bind fun t196 => (if t196 = 0 then (some (t189 == 0)) else (some false)))) = some r := by rw [if_neg (show ¬ (false = true) by decide)] at H; exact H
          clear H
          have H := H1
          clear H1
          by_cases c19 : (wrap64 (Int.tmod (IntKind.u64.wrap (a1)) 61)) = 60
          · rw [if_pos c19] at H
            have c19b0 : ((wrap64 (Int.tmod (IntKind.u64.wrap (a1)) 61)) == 60) = true := beq_iff_eq.mpr c19
            have c19b1 : ((wrap64 (Int.tmod (IntKind.u64.wrap (a1)) 61)) != 60) = false := bne_eq_false_iff_eq.mpr c19
            clear c19
            by_cases c20 : (wrap64 (Int.tmod (IntKind.u64.wrap (a0)) 61)) < 60
            · rw [if_pos c20] at H
              have c20b0 : decide ((wrap64 (Int.tmod (IntKind.u64.wrap (a0)) 61)) < 60) = true := decide_eq_true c20
              clear c20
              replace H := Option.bind_eq_some_iff.mp H
              obtain ⟨t194, A210, H⟩ := H
              replace H : (if t194 = 0 then (some (t189 == (-1))) else (some false)) = some r := H
              have A21 := Aside0.mk A210
              clear A210
              by_cases c22 : t194 = 0
              · rw [if_pos c22] at H
                have c22b0 : (t194 == 0) = true := beq_iff_eq.mpr c22
                have c22b1 : (t194 != 0) = false := bne_eq_false_iff_eq.mpr c22
                clear c22
                obtain rfl := Option.some.inj H
                go_wp2_with (first | ((with_reducible refine gate_callee (f := 17) rfl ?_); refine goesL_ (some 41) rfl rfl Try.func17 (by kernel_rfl) rfl #[.int .i64 t190] rfl (by (try simp only [List.map_toArray, List.map_cons, List.map_nil]); first | done | rfl | (simp only [List.length_drop, List.length_take]; rfl)) ?_; (with_reducible refine (watchwordlaw0_Num.calls t190 t194 _ A21.out).mono ?_); rintro e w' ⟨rfl, ⟨nd, rfl⟩⟩; refine ⟨_, rfl, ?_⟩))
                go_ret
                exact ⟨by first | rfl | (simp [errW_none, errW_some] <;> rfl) | (simp [*, errW_none, errW_some] <;> rfl), by repeat (first | (with_reducible first | exact HB.out | apply below_alloc | apply pw_below_drewN | apply below_drew1) | exact HB.out)⟩
              · rw [if_neg c22] at H
                have c22b0 : (t194 == 0) = false := beq_eq_false_iff_ne.mpr c22
                have c22b1 : (t194 != 0) = true := bne_iff_ne.mpr c22
                exact absurd (Option.some.inj H) (by rw [HT.out]; decide)
            · rw [if_neg c20] at H
              have c20b0 : decide ((wrap64 (Int.tmod (IntKind.u64.wrap (a0)) 61)) < 60) = false := decide_eq_false c20
              clear c20
              replace H := Option.bind_eq_some_iff.mp H
              obtain ⟨t195, A230, H⟩ := H
              replace H : (if t195 = 0 then (some (t189 == 0)) else (some false)) = some r := H
              have A23 := Aside0.mk A230
              clear A230
              by_cases c24 : t195 = 0
              · rw [if_pos c24] at H
                have c24b0 : (t195 == 0) = true := beq_iff_eq.mpr c24
                have c24b1 : (t195 != 0) = false := bne_eq_false_iff_eq.mpr c24
                clear c24
                obtain rfl := Option.some.inj H
                go_wp2_with (first | ((with_reducible refine gate_callee (f := 17) rfl ?_); refine goesL_ (some 41) rfl rfl Try.func17 (by kernel_rfl) rfl #[.int .i64 t190] rfl (by (try simp only [List.map_toArray, List.map_cons, List.map_nil]); first | done | rfl | (simp only [List.length_drop, List.length_take]; rfl)) ?_; (with_reducible refine (watchwordlaw0_Num.calls t190 t195 _ A23.out).mono ?_); rintro e w' ⟨rfl, ⟨nd, rfl⟩⟩; refine ⟨_, rfl, ?_⟩))
                go_ret
                exact ⟨by first | rfl | (simp [errW_none, errW_some] <;> rfl) | (simp [*, errW_none, errW_some] <;> rfl), by repeat (first | (with_reducible first | exact HB.out | apply below_alloc | apply pw_below_drewN | apply below_drew1) | exact HB.out)⟩
              · rw [if_neg c24] at H
                have c24b0 : (t195 == 0) = false := beq_eq_false_iff_ne.mpr c24
                have c24b1 : (t195 != 0) = true := bne_iff_ne.mpr c24
                exact absurd (Option.some.inj H) (by rw [HT.out]; decide)
          · rw [if_neg c19] at H
            have c19b0 : ((wrap64 (Int.tmod (IntKind.u64.wrap (a1)) 61)) == 60) = false := beq_eq_false_iff_ne.mpr c19
            have c19b1 : ((wrap64 (Int.tmod (IntKind.u64.wrap (a1)) 61)) != 60) = true := bne_iff_ne.mpr c19
            replace H := Option.bind_eq_some_iff.mp H
            obtain ⟨t196, A250, H⟩ := H
            replace H : (if t196 = 0 then (some (t189 == 0)) else (some false)) = some r := H
            have A25 := Aside0.mk A250
            clear A250
            by_cases c26 : t196 = 0
            · rw [if_pos c26] at H
              have c26b0 : (t196 == 0) = true := beq_iff_eq.mpr c26
              have c26b1 : (t196 != 0) = false := bne_eq_false_iff_eq.mpr c26
              clear c26
              obtain rfl := Option.some.inj H
              go_wp2_with (first | ((with_reducible refine gate_callee (f := 17) rfl ?_); refine goesL_ (some 41) rfl rfl Try.func17 (by kernel_rfl) rfl #[.int .i64 t190] rfl (by (try simp only [List.map_toArray, List.map_cons, List.map_nil]); first | done | rfl | (simp only [List.length_drop, List.length_take]; rfl)) ?_; (with_reducible refine (watchwordlaw0_Num.calls t190 t196 _ A25.out).mono ?_); rintro e w' ⟨rfl, ⟨nd, rfl⟩⟩; refine ⟨_, rfl, ?_⟩))
              go_ret
              exact ⟨by first | rfl | (simp [errW_none, errW_some] <;> rfl) | (simp [*, errW_none, errW_some] <;> rfl), by repeat (first | (with_reducible first | exact HB.out | apply below_alloc | apply pw_below_drewN | apply below_drew1) | exact HB.out)⟩
            · rw [if_neg c26] at H
              have c26b0 : (t196 == 0) = false := beq_eq_false_iff_ne.mpr c26
              have c26b1 : (t196 != 0) = true := bne_iff_ne.mpr c26
              exact absurd (Option.some.inj H) (by rw [HT.out]; decide)
  · replace c4 := Bool.eq_false_iff.mpr c4
    subst c4
    have H1 : (some false) = some r := by rw [if_neg (show ¬ (false = true) by decide)] at H; exact H
    clear H
    have H := H1
    clear H1
    exact absurd (Option.some.inj H) (by rw [HT.out]; decide)

/-- THE ONE PURE STATEMENT of watchwordlaw17_NewerAges: yours. -/
def watchwordlaw17_NewerAges.Pure : Prop := ∀ (a0 : Int) (a1 : Int), (Lit.int .i64 a0).wf = true → (Lit.int .i64 a1).wf = true → ∃ k, watchwordlaw17_NewerAges.f k a0 a1 = some true
theorem watchwordlaw17_NewerAges.walk (P : watchwordlaw17_NewerAges.Pure) (a0 : Int) (a1 : Int) (w : World) (w0 : (Lit.int .i64 a0).wf = true) (w1 : (Lit.int .i64 a1).wf = true) :
    Calls Try.prog 10 #[.int .i64 a0, .int .i64 a1] w fun e w' => e = .returned (.bool true) ∧ Below w.heap.size w w' := by
  obtain ⟨k, h⟩ := P a0 a1 w0 w1
  refine (watchwordlaw17_NewerAges.calls k a0 a1 true w h rfl).mono ?_
  rintro e w' ⟨rfl, hd⟩
  exact ⟨rfl, hd⟩

end Go.Proofs.Ytdmnfmkeifjmlaa.Q17
