/- Written by a program of this session out of the print of the loaded functions: each Go function as a plain function, and that its call comes to it; for a law, the row out of its plain statement. -/
import Derived.Test.YtkfnbnfdcfcfpaaQ9x0
import Derived.Test.YtkfnbnfdcfcfpaaQ9x118
import Derived.Test.YtkfnbnfdcfcfpaaQ9x121
import Derived.Test.YtkfnbnfdcfcfpaaQ9x123
import Derived.Test.YtkfnbnfdcfcfpaaQ9x125
import Derived.Test.YtkfnbnfdcfcfpaaQ9x130
namespace Go.Proofs.Ytkfnbnfdcfcfpaa.Q9
open Go.RowKit Go.Proofs.YtkfnbnfdcfcfpaaW.PrintWords Go.Proofs.YtkfnbnfdcfcfpaaW.PrintLast Go.Proofs.YtkfnbnfdcfcfpaaW.PrintMore
attribute [local go_sem] max2_int min2_int max_two min_two max_three min_three max_four min_four   -- for this text's walks alone
set_option linter.unusedVariables false
set_option linter.unusedSimpArgs false

/-! ### watchwordlaw9_HelloAll: function 8 -/
mutual
def watchwordlaw9_HelloAll.l0 : Nat → Int → ByteArray → List Int → Int → Option (Bool)
  | 0, _, _, _, _ => none
  | k + 1, x0, x1, x5, x6 => if x6 < 4 then (if 0 ≤ x6 then (if (Go.bits .and .i64 (shr .i64 x0 x6) 1) = 1 then (if x5.length < 17592186044416 then (watchwordlaw9_HelloAll.l0 k x0 x1 (x5 ++ [wrap64 (x6 + 1)]) (wrap64 (x6 + 1))) else (none)) else (watchwordlaw9_HelloAll.l0 k x0 x1 x5 (wrap64 (x6 + 1)))) else (none)) else ((hello_Put.f k x5).bind fun bt149 => ((hello_Get.f k bt149.1).bind fun bt151 => ((hello_Get.f k x1).bind fun bt155 => ((watchwordlaw0_Num.f bt149.2).bind fun t159 => (if t159 = 0 then ((watchwordlaw0_Num.f bt151.2).bind fun t160 => (if t160 = 0 then ((watchwordlaw0_SameInts.f k x5 bt151.1).bind fun t161 => (if t161 = true then (watchwordlaw9_HelloAll.j1 k x1 bt155.1 bt155.2 ((bt149.1.size : Int) != (wrap64 ((x5.length : Int) + 1)))) else (watchwordlaw9_HelloAll.j1 k x1 bt155.1 bt155.2 true))) else (watchwordlaw9_HelloAll.j1 k x1 bt155.1 bt155.2 true))) else (watchwordlaw9_HelloAll.j1 k x1 bt155.1 bt155.2 true))))))
def watchwordlaw9_HelloAll.j1 : Nat → ByteArray → List Int → Int → Bool → Option (Bool)
  | 0, _, _, _, _ => none
  | k + 1, x1, x11, x12, x67 => if x67 = true then (some false) else ((watchwordlaw0_Num.f x12).bind fun t162 => (if t162 = 0 then ((hello_Put.f k x11).bind fun bt163 => ((watchwordlaw0_Num.f bt163.2).bind fun t165 => (if t165 = 0 then (some (bt163.1.toList == x1.toList)) else (some false)))) else (some ((x11.length : Int) == 0))))
end
def watchwordlaw9_HelloAll.f (k : Nat) (a0 : Int) (a1 : ByteArray) : Option (Bool) := (watchwordlaw9_awake.f k).bind fun t145 => (if t145 = true then (watchwordlaw9_HelloAll.l0 k a0 a1 ([] : List Int) 0) else (some false))
theorem watchwordlaw9_HelloAll.mono_l : ∀ k, (∀ y0 y1 y2 y3, LeO (watchwordlaw9_HelloAll.l0 k y0 y1 y2 y3) (watchwordlaw9_HelloAll.l0 (k + 1) y0 y1 y2 y3)) ∧ (∀ y0 y1 y2 y3, LeO (watchwordlaw9_HelloAll.j1 k y0 y1 y2 y3) (watchwordlaw9_HelloAll.j1 (k + 1) y0 y1 y2 y3))
  | 0 => ⟨fun _ _ _ _ r h => by simp [watchwordlaw9_HelloAll.l0] at h, fun _ _ _ _ r h => by simp [watchwordlaw9_HelloAll.j1] at h⟩
  | k + 1 => by
    obtain ⟨ih0, ih1⟩ := watchwordlaw9_HelloAll.mono_l k
    refine ⟨?_, ?_⟩
    · intro y0 y1 y2 y3
      unfold watchwordlaw9_HelloAll.l0
      repeat' first
      | (with_reducible exact ih0 _ _ _ _)
      | (with_reducible exact ih1 _ _ _ _)
      | (with_reducible exact hello_Get.mono _ _)
      | (with_reducible exact hello_Put.mono _ _)
      | (with_reducible exact watchwordlaw0_SameInts.mono _ _ _)
      | (with_reducible exact watchwordlaw9_awake.mono _)
      | (with_reducible exact LeO.refl _)
      | (with_reducible exact LeO.none _)
      | (with_reducible refine LeO.ite ?_ ?_)
      | (with_reducible refine LeO.bind ?_ (fun _ => ?_))
      | exact ih0 _ _ _ _
      | exact ih1 _ _ _ _
      | exact hello_Get.mono _ _
      | exact hello_Put.mono _ _
      | exact watchwordlaw0_SameInts.mono _ _ _
      | exact watchwordlaw9_awake.mono _
      | exact LeO.none _
      | refine LeO.ite ?_ ?_
      | refine LeO.bind ?_ (fun _ => ?_)
    · intro y0 y1 y2 y3
      unfold watchwordlaw9_HelloAll.j1
      repeat' first
      | (with_reducible exact ih0 _ _ _ _)
      | (with_reducible exact ih1 _ _ _ _)
      | (with_reducible exact hello_Get.mono _ _)
      | (with_reducible exact hello_Put.mono _ _)
      | (with_reducible exact watchwordlaw0_SameInts.mono _ _ _)
      | (with_reducible exact watchwordlaw9_awake.mono _)
      | (with_reducible exact LeO.refl _)
      | (with_reducible exact LeO.none _)
      | (with_reducible refine LeO.ite ?_ ?_)
      | (with_reducible refine LeO.bind ?_ (fun _ => ?_))
      | exact ih0 _ _ _ _
      | exact ih1 _ _ _ _
      | exact hello_Get.mono _ _
      | exact hello_Put.mono _ _
      | exact watchwordlaw0_SameInts.mono _ _ _
      | exact watchwordlaw9_awake.mono _
      | exact LeO.none _
      | refine LeO.ite ?_ ?_
      | refine LeO.bind ?_ (fun _ => ?_)
theorem watchwordlaw9_HelloAll.mono : ∀ a0 a1 k, LeO (watchwordlaw9_HelloAll.f k a0 a1) (watchwordlaw9_HelloAll.f (k + 1) a0 a1) := by
  intro a0 a1 k
  obtain ⟨ih0, ih1⟩ := watchwordlaw9_HelloAll.mono_l k
  unfold watchwordlaw9_HelloAll.f
  repeat' first
      | (with_reducible exact ih0 _ _ _ _)
      | (with_reducible exact ih1 _ _ _ _)
      | (with_reducible exact hello_Get.mono _ _)
      | (with_reducible exact hello_Put.mono _ _)
      | (with_reducible exact watchwordlaw0_SameInts.mono _ _ _)
      | (with_reducible exact watchwordlaw9_awake.mono _)
      | (with_reducible exact LeO.refl _)
      | (with_reducible exact LeO.none _)
      | (with_reducible refine LeO.ite ?_ ?_)
      | (with_reducible refine LeO.bind ?_ (fun _ => ?_))
      | exact ih0 _ _ _ _
      | exact ih1 _ _ _ _
      | exact hello_Get.mono _ _
      | exact hello_Put.mono _ _
      | exact watchwordlaw0_SameInts.mono _ _ _
      | exact watchwordlaw9_awake.mono _
      | exact LeO.none _
      | refine LeO.ite ?_ ?_
      | refine LeO.bind ?_ (fun _ => ?_)
set_option maxHeartbeats 8000000 in
set_option maxRecDepth 100000 in
theorem watchwordlaw9_HelloAll.calls (k : Nat) (a0 : Int) (a1 : ByteArray) (r : Bool) (w : World) (h : watchwordlaw9_HelloAll.f k a0 a1 = some r) (hT : r = true) :
    Calls Try.prog 8 #[.int .i64 a0, .string a1] w fun e w' => e = .returned (.bool r) ∧ Below w.heap.size w w' := by
  have HB := Aside0.mk (Below.refl w.heap.size w)
  have HT := Aside0.mk hT
  clear hT
  have H : ((watchwordlaw9_awake.f k).bind fun t145 => (if t145 = true then (watchwordlaw9_HelloAll.l0 k a0 a1 ([] : List Int) 0) else (some false))) = some r := h
  clear h
  replace H := Option.bind_eq_some_iff.mp H
  obtain ⟨t145, A30, H⟩ := H
  replace H : (if t145 = true then (watchwordlaw9_HelloAll.l0 k a0 a1 ([] : List Int) 0) else (some false)) = some r := H
  have A3 := Aside0.mk A30
  clear A30
  by_cases c4 : t145 = true
  · subst c4
    have H1 : (watchwordlaw9_HelloAll.l0 k a0 a1 ([] : List Int) 0) = some r := by rw [if_pos rfl] at H; exact H
    clear H
    have H := H1
    clear H1
    have H' := Aside0.mk H
    clear H
    go_enter Try.func8, Try.ntmps8
    go_wp2_with (first | ((with_reducible refine gate_callee (f := 30) rfl ?_); refine goesL_ (some 15) rfl rfl Try.func30 (by kernel_rfl) rfl #[] rfl (by (try simp only [List.map_toArray, List.map_cons, List.map_nil]); first | done | rfl | (simp only [List.length_drop, List.length_take]; rfl)) ?_; (with_reducible refine (watchwordlaw9_awake.calls k  true _ A3.out (by first | rfl | exact HT.out)).mono ?_); rintro e w5 ⟨rfl, hb⟩; refine ⟨_, rfl, ?_⟩; have n0_ := Aside0.mk (below_step (by repeat (first | (with_reducible first | exact HB.out | apply below_alloc | apply pw_below_drewN | apply below_drew1) | exact HB.out)) hb); clear HB; have HB := n0_; clear n0_; (try clear hb); (try clear hb2); (try clear hk); (try clear hi)))
    go_loopg [5, 6] k (fun kq v5 v6 w' => ∃ (x5_1 : List Int) (x6_1 : Int), v6 = .int .i64 x6_1 ∧ Aside0 (watchwordlaw9_HelloAll.l0 kq a0 a1 x5_1 x6_1 = some r) ∧ Aside0 (kq ≤ k) ∧ Aside0 (Kd.R (Kd.int .i64) 3 w' w.heap.size (fun _ => True) v5 x5_1) ∧ Aside0 (Below w.heap.size w w'))
    case atStart => exact ⟨(([] : List Int)), (0), (by first | rfl | (simp; done) | (simp [*]; done)), H', ⟨Nat.le_refl _⟩, ⟨by first | exact Kd.R_nil _ _ _ _ _ | exact Kd.N_nil _ _ _ _ _ | exact Kd.V_nil _ _ _ _ _ | exact Kd.Q_nil _ _ _ _ _ | exact Kd.S_nil _ _ _ _ _⟩, ⟨by repeat (first | (with_reducible first | exact HB.out | apply below_alloc | apply pw_below_drewN | apply below_drew1) | exact HB.out)⟩⟩
    case round =>
      clear H'
      try clear p2
      try clear c3
      try clear c4
      obtain ⟨x5_1, x6_1, rfl, HA, HK1, HO_5, HB⟩ := hrel
      cases gk with
      | zero => exact absurd HA.out (by simp [watchwordlaw9_HelloAll.l0])
      | succ k1 =>
        have H := HA.out
        clear HA
        simp only [watchwordlaw9_HelloAll.l0] at H
        by_cases c6 : x6_1 < 4
        · rw [if_pos c6] at H
          have c6b0 : decide (x6_1 < 4) = true := decide_eq_true c6
          clear c6
          by_cases c7 : 0 ≤ x6_1
          · rw [if_pos c7] at H
            have c7b0 := eq_true c7
            have c7b1 : decide (0 ≤ x6_1) = true := decide_eq_true c7
            clear c7
            obtain ⟨ji8, hji8⟩ : ∃ j_ : Int, (shr .i64 a0 x6_1) = j_ := ⟨_, rfl⟩
            replace H : (if (Go.bits .and .i64 (ji8) 1) = 1 then (if x5_1.length < 17592186044416 then (watchwordlaw9_HelloAll.l0 k1 a0 a1 (x5_1 ++ [wrap64 (x6_1 + 1)]) (wrap64 (x6_1 + 1))) else (none)) else (watchwordlaw9_HelloAll.l0 k1 a0 a1 x5_1 (wrap64 (x6_1 + 1)))) = some r := by first | (rw [hji8] at H; exact H) | (simp only [hji8] at H ⊢; exact H)
            have hji8_ : (a0 / 2 ^ min x6_1.toNat 64) = ji8 := hji8
            have hji8z : x6_1 ≤ 64 → (a0 / 2 ^ x6_1.toNat) = ji8 := shr_small hji8
            by_cases c9 : (Go.bits .and .i64 (ji8) 1) = 1
            · rw [if_pos c9] at H
              have c9b0 : ((Go.bits .and .i64 (ji8) 1) == 1) = true := beq_iff_eq.mpr c9
              have c9b1 : ((Go.bits .and .i64 (ji8) 1) != 1) = false := bne_eq_false_iff_eq.mpr c9
              clear c9
              by_cases c10 : x5_1.length < 17592186044416
              · rw [if_pos c10] at H
                have LMc10 := Aside0.mk c10
                clear c10
                obtain ⟨y146, hy146⟩ : ∃ y_ : List Int, y_ = (x5_1 ++ [wrap64 (x6_1 + 1)]) := ⟨_, rfl⟩
                replace H : (watchwordlaw9_HelloAll.l0 k1 a0 a1 y146 (wrap64 (x6_1 + 1))) = some r := by first | (rw [hy146]; with_reducible exact H) | (have H2_ := (Option.bind_some _ _).symm.trans H; rw [hy146]; with_reducible exact H2_) | (have H2_ := (Option.bind_some _ _).symm.trans H; with_reducible exact H2_) | with_reducible exact H | (rw [hy146]; exact H) | exact H
                have Ny146 := Aside0.mk hy146
                clear hy146
                have H' := Aside0.mk H
                clear H
                go_wp2_with (first | ((with_reducible refine gate_builtin (b := .append) (xs := #[.tmp 26, .tmp 29]) rfl ?_); (try (refine gate_guard (by rfl) ?_; dsimp only)); at_builtin; refine Kd.R_append (Kd.int .i64) (w0 := w) w.heap.size rfl (.tmp 26) (.tmp 29) 34 3 (.int .i64 0) 8 rfl Try.underlying34 info3 rfl (by decide) (by omega) u5 x5_1 (wrap64 (x6_1 + 1)) [.int .i64 (wrap64 (x6_1 + 1))] (fun _ => True) (fun _ => False) rfl rfl ?aP (fun _ hk => hk.elim) ?aF ?aO ?aB ?aS ?aL ?_; (case aP => exact rfl); (case aB => exact (by repeat (first | (with_reducible first | exact HB.out | apply below_alloc | apply pw_below_drewN | apply below_drew1) | exact HB.out))); (case aF => exact (fun _ _ => trivial)); (case aO => exact (by (with_reducible repeat (first | apply Kd.R_alloc | apply Kd.R_drewN | apply Kd.R_drew)); exact HO_5.out)); (case aS => exact (below_size (by repeat (first | (with_reducible first | exact HB.out | apply below_alloc | apply pw_below_drewN | apply below_drew1) | exact HB.out)))); (case aL => have := LMc10.out; omega); intro v147 w11 ho hb hg hat; rw [← Ny146.out] at ho; have n0_ := Aside0.mk (hb); have n1_ := Aside0.mk (ho); clear HB; clear HO_5; have HB := n0_; have HO148 := n1_; clear n0_ n1_; clear ho hb hg hat))
                go_roundg k1
                case measure => have := HK1.out; omega
                case rel => exact ⟨(y146), (wrap64 (x6_1 + 1)), (by first | rfl | (simp; done) | (simp [*]; done)), H', ⟨by have := HK1.out; omega⟩, ⟨by (with_reducible repeat (first | apply Kd.R_alloc | apply Kd.R_drewN | apply Kd.R_drew)); exact HO148.out⟩, ⟨by repeat (first | (with_reducible first | exact HB.out | apply below_alloc | apply pw_below_drewN | apply below_drew1) | exact HB.out)⟩⟩
              · rw [if_neg c10] at H
                exact absurd H (by simp)
            · rw [if_neg c9] at H
              have c9b0 : ((Go.bits .and .i64 (ji8) 1) == 1) = false := beq_eq_false_iff_ne.mpr c9
              have c9b1 : ((Go.bits .and .i64 (ji8) 1) != 1) = true := bne_iff_ne.mpr c9
              have H' := Aside0.mk H
              clear H
              go_wp2
              go_roundg k1
              case measure => have := HK1.out; omega
              case rel => exact ⟨(x5_1), (wrap64 (x6_1 + 1)), (by first | rfl | (simp; done) | (simp [*]; done)), H', ⟨by have := HK1.out; omega⟩, ⟨by (with_reducible repeat (first | apply Kd.R_alloc | apply Kd.R_drewN | apply Kd.R_drew)); exact HO_5.out⟩, ⟨by repeat (first | (with_reducible first | exact HB.out | apply below_alloc | apply pw_below_drewN | apply below_drew1) | exact HB.out)⟩⟩
          · rw [if_neg c7] at H
            exact absurd H (by simp)
        · rw [if_neg c6] at H
          have c6b0 : decide (x6_1 < 4) = false := decide_eq_false c6
          clear c6
          replace H := Option.bind_eq_some_iff.mp H
          obtain ⟨⟨t149, t150⟩, A120, H⟩ := H
          replace H : ((hello_Get.f k1 t149).bind fun bt151 => ((hello_Get.f k1 a1).bind fun bt155 => ((watchwordlaw0_Num.f t150).bind fun t159 => (if t159 = 0 then ((watchwordlaw0_Num.f bt151.2).bind fun t160 => (if t160 = 0 then ((watchwordlaw0_SameInts.f k1 x5_1 bt151.1).bind fun t161 => (if t161 = true then (watchwordlaw9_HelloAll.j1 k1 a1 bt155.1 bt155.2 ((t149.size : Int) != (wrap64 ((x5_1.length : Int) + 1)))) else (watchwordlaw9_HelloAll.j1 k1 a1 bt155.1 bt155.2 true))) else (watchwordlaw9_HelloAll.j1 k1 a1 bt155.1 bt155.2 true))) else (watchwordlaw9_HelloAll.j1 k1 a1 bt155.1 bt155.2 true))))) = some r := H
          have A12 := Aside0.mk A120
          clear A120
          replace H := Option.bind_eq_some_iff.mp H
          obtain ⟨⟨t151, t152⟩, A130, H⟩ := H
          replace H : ((hello_Get.f k1 a1).bind fun bt155 => ((watchwordlaw0_Num.f t150).bind fun t159 => (if t159 = 0 then ((watchwordlaw0_Num.f t152).bind fun t160 => (if t160 = 0 then ((watchwordlaw0_SameInts.f k1 x5_1 t151).bind fun t161 => (if t161 = true then (watchwordlaw9_HelloAll.j1 k1 a1 bt155.1 bt155.2 ((t149.size : Int) != (wrap64 ((x5_1.length : Int) + 1)))) else (watchwordlaw9_HelloAll.j1 k1 a1 bt155.1 bt155.2 true))) else (watchwordlaw9_HelloAll.j1 k1 a1 bt155.1 bt155.2 true))) else (watchwordlaw9_HelloAll.j1 k1 a1 bt155.1 bt155.2 true)))) = some r := H
          have A13 := Aside0.mk A130
          clear A130
          replace H := Option.bind_eq_some_iff.mp H
          obtain ⟨⟨t155, t156⟩, A140, H⟩ := H
          replace H : ((watchwordlaw0_Num.f t150).bind fun t159 => (if t159 = 0 then ((watchwordlaw0_Num.f t152).bind fun t160 => (if t160 = 0 then ((watchwordlaw0_SameInts.f k1 x5_1 t151).bind fun t161 => (if t161 = true then (watchwordlaw9_HelloAll.j1 k1 a1 t155 t156 ((t149.size : Int) != (wrap64 ((x5_1.length : Int) + 1)))) else (watchwordlaw9_HelloAll.j1 k1 a1 t155 t156 true))) else (watchwordlaw9_HelloAll.j1 k1 a1 t155 t156 true))) else (watchwordlaw9_HelloAll.j1 k1 a1 t155 t156 true))) = some r := H
          have A14 := Aside0.mk A140
          clear A140
          have HC15 := Aside0.mk H
          clear H
          obtain ⟨Ao16, co16, eo16⟩ := Kd.R_slice HO_5.out
          subst eo16
          go_upto_region 12 with (first | ((with_reducible refine gate_callee (f := 21) rfl ?_); refine goesL_ (some 33) rfl rfl Try.func21 (by kernel_rfl) rfl #[.slice Ao16 x5_1.length co16] rfl (by (try simp only [List.map_toArray, List.map_cons, List.map_nil]); first | done | rfl | (simp only [List.length_drop, List.length_take]; rfl)) ?_; (with_reducible refine (hello_Put.calls k1 _ _ x5_1 t149 t150 _ ?side1 ?side2 A12.out).mono ?_); (case side1 => repeat (first | exact (Kd.R_reads' HO_5.out).2.2 | (with_reducible refine Kd.C_alloc ?_ _) | (with_reducible refine Kd.C_drewN ?_ _) | (with_reducible refine Kd.C_drew ?_))); (case side2 => exact (Kd.R_reads' HO_5.out).2.1); rintro e w17 ⟨rfl, hb⟩; refine ⟨_, rfl, ?_⟩; have n0_ := Aside0.mk (Kd.R_below (by (with_reducible repeat (first | apply Kd.R_alloc | apply Kd.R_drewN | apply Kd.R_drew)); exact HO_5.out) hb); have n1_ := Aside0.mk (below_step (by repeat (first | (with_reducible first | exact HB.out | apply below_alloc | apply pw_below_drewN | apply below_drew1) | exact HB.out)) hb); clear HO_5; clear HB; have HO_5 := n0_; have HB := n1_; clear n0_ n1_; (try clear hb); (try clear hb2); (try clear hk); (try clear hi)) | ((with_reducible refine gate_callee (f := 23) rfl ?_); refine goesL_ (some 38) rfl rfl Try.func23 (by kernel_rfl) rfl #[.string t149] rfl (by (try simp only [List.map_toArray, List.map_cons, List.map_nil]); first | done | rfl | (simp only [List.length_drop, List.length_take]; rfl)) ?_; (with_reducible refine (hello_Get.calls k1 t149 t151 t152 _ A13.out).mono ?_); rintro e w18 ⟨v153, rfl, ho0, hb⟩; refine ⟨_, rfl, ?_⟩; have n0_ := Aside0.mk (Kd.R_elder' (by (with_reducible repeat (first | apply Kd.R_alloc | apply Kd.R_drewN | apply Kd.R_drew)); exact HO_5.out) (Kd.R_base ho0) hb); have n1_ := Aside0.mk (Kd.R_lower (Kd.R_new' ho0 (Kd.R_lt (by (with_reducible repeat (first | apply Kd.R_alloc | apply Kd.R_drewN | apply Kd.R_drew)); exact HO_5.out))) (below_size (by repeat (first | (with_reducible first | exact HB.out | apply below_alloc | apply pw_below_drewN | apply below_drew1) | exact HB.out)))); have n2_ := Aside0.mk (below_step (by repeat (first | (with_reducible first | exact HB.out | apply below_alloc | apply pw_below_drewN | apply below_drew1) | exact HB.out)) hb); clear HO_5; clear HB; have HO_5 := n0_; have HO154 := n1_; have HB := n2_; clear n0_ n1_ n2_; (try clear hb); (try clear hb2); (try clear hk); (try clear hi); (try clear ho0)) | ((with_reducible refine gate_callee (f := 23) rfl ?_); refine goesL_ (some 43) rfl rfl Try.func23 (by kernel_rfl) rfl #[.string a1] rfl (by (try simp only [List.map_toArray, List.map_cons, List.map_nil]); first | done | rfl | (simp only [List.length_drop, List.length_take]; rfl)) ?_; (with_reducible refine (hello_Get.calls k1 a1 t155 t156 _ A14.out).mono ?_); rintro e w19 ⟨v157, rfl, ho0, hb⟩; refine ⟨_, rfl, ?_⟩; have n0_ := Aside0.mk (Kd.R_elder' (by (with_reducible repeat (first | apply Kd.R_alloc | apply Kd.R_drewN | apply Kd.R_drew)); exact HO_5.out) (Kd.R_base ho0) hb); have n1_ := Aside0.mk (Kd.R_elder' (by (with_reducible repeat (first | apply Kd.R_alloc | apply Kd.R_drewN | apply Kd.R_drew)); exact HO154.out) (Kd.R_base ho0) hb); have n2_ := Aside0.mk (Kd.R_lower (Kd.R_new' (Kd.R_new' ho0 (Kd.R_lt (by (with_reducible repeat (first | apply Kd.R_alloc | apply Kd.R_drewN | apply Kd.R_drew)); exact HO_5.out))) (Kd.R_lt (by (with_reducible repeat (first | apply Kd.R_alloc | apply Kd.R_drewN | apply Kd.R_drew)); exact HO154.out))) (below_size (by repeat (first | (with_reducible first | exact HB.out | apply below_alloc | apply pw_below_drewN | apply below_drew1) | exact HB.out)))); have n3_ := Aside0.mk (below_step (by repeat (first | (with_reducible first | exact HB.out | apply below_alloc | apply pw_below_drewN | apply below_drew1) | exact HB.out)) hb); clear HO_5; clear HO154; clear HB; have HO_5 := n0_; have HO154 := n1_; have HO158 := n2_; have HB := n3_; clear n0_ n1_ n2_ n3_; (try clear hb); (try clear hb2); (try clear hk); (try clear hi); (try clear ho0)))
          (try simp only [Act.put, List.setIfInBounds_toArray, List.set_cons_zero, List.set_cons_succ])
          go_cut [67] (fun v67 wc => ∃ (kq : Nat) (x67_14 : Bool), v67 = .bool x67_14 ∧ Aside0 (watchwordlaw9_HelloAll.j1 kq a1 t155 t156 x67_14 = some r) ∧ Aside0 (kq ≤ k1) ∧ Aside0 (Kd.R (Kd.int .i64) 3 wc w.heap.size (fun _ => True) v157 t155) ∧ Aside0 (Below w.heap.size w wc))
          case first =>
            have H := HC15.out
            clear HC15
            replace H := Option.bind_eq_some_iff.mp H
            obtain ⟨t159, A200, H⟩ := H
            replace H : (if t159 = 0 then ((watchwordlaw0_Num.f t152).bind fun t160 => (if t160 = 0 then ((watchwordlaw0_SameInts.f k1 x5_1 t151).bind fun t161 => (if t161 = true then (watchwordlaw9_HelloAll.j1 k1 a1 t155 t156 ((t149.size : Int) != (wrap64 ((x5_1.length : Int) + 1)))) else (watchwordlaw9_HelloAll.j1 k1 a1 t155 t156 true))) else (watchwordlaw9_HelloAll.j1 k1 a1 t155 t156 true))) else (watchwordlaw9_HelloAll.j1 k1 a1 t155 t156 true)) = some r := H
            have A20 := Aside0.mk A200
            clear A200
            by_cases c21 : t159 = 0
            · rw [if_pos c21] at H
              have c21b0 : (t159 == 0) = true := beq_iff_eq.mpr c21
              have c21b1 : (t159 != 0) = false := bne_eq_false_iff_eq.mpr c21
              clear c21
              (first | rw [c21b0] | (simp only [i64_w, i32_w]; rw [c21b0]) | skip)
              replace H := Option.bind_eq_some_iff.mp H
              obtain ⟨t160, A220, H⟩ := H
              replace H : (if t160 = 0 then ((watchwordlaw0_SameInts.f k1 x5_1 t151).bind fun t161 => (if t161 = true then (watchwordlaw9_HelloAll.j1 k1 a1 t155 t156 ((t149.size : Int) != (wrap64 ((x5_1.length : Int) + 1)))) else (watchwordlaw9_HelloAll.j1 k1 a1 t155 t156 true))) else (watchwordlaw9_HelloAll.j1 k1 a1 t155 t156 true)) = some r := H
              have A22 := Aside0.mk A220
              clear A220
              by_cases c23 : t160 = 0
              · rw [if_pos c23] at H
                have c23b0 : (t160 == 0) = true := beq_iff_eq.mpr c23
                have c23b1 : (t160 != 0) = false := bne_eq_false_iff_eq.mpr c23
                clear c23
                replace H := Option.bind_eq_some_iff.mp H
                obtain ⟨t161, A240, H⟩ := H
                replace H : (if t161 = true then (watchwordlaw9_HelloAll.j1 k1 a1 t155 t156 ((t149.size : Int) != (wrap64 ((x5_1.length : Int) + 1)))) else (watchwordlaw9_HelloAll.j1 k1 a1 t155 t156 true)) = some r := H
                have A24 := Aside0.mk A240
                clear A240
                by_cases c25 : t161 = true
                · subst c25
                  have H1 : (watchwordlaw9_HelloAll.j1 k1 a1 t155 t156 ((t149.size : Int) != (wrap64 ((x5_1.length : Int) + 1)))) = some r := by rw [if_pos rfl] at H; exact H
                  clear H
                  have H := H1
                  clear H1
                  have H' := Aside0.mk H
                  clear H
                  go_wp2_with (first | ((with_reducible refine gate_callee (f := 18) rfl ?_); refine goesL_ (some 47) rfl rfl Try.func18 (by kernel_rfl) rfl #[.int .i64 t150] rfl (by (try simp only [List.map_toArray, List.map_cons, List.map_nil]); first | done | rfl | (simp only [List.length_drop, List.length_take]; rfl)) ?_; (with_reducible refine (watchwordlaw0_Num.calls t150 t159 _ A20.out).mono ?_); rintro e w' ⟨rfl, ⟨nd, rfl⟩⟩; refine ⟨_, rfl, ?_⟩) | (go_at_call 18; (with_reducible refine (watchwordlaw0_Num.calls t152 t160 _ A22.out).mono ?_); rintro e w' ⟨rfl, ⟨nd, rfl⟩⟩; obtain ⟨Ao26, co26, eo26⟩ := Kd.R_slice HO154.out; subst eo26) | (go_at_call 25; (with_reducible refine (watchwordlaw0_SameInts.calls k1 _ _ x5_1 _ _ t151 true _ ?side1 ?side2 ?side3 ?side4 A24.out).mono ?_); (case side1 => repeat (first | exact (Kd.R_reads' HO_5.out).2.2 | (with_reducible refine Kd.C_alloc ?_ _) | (with_reducible refine Kd.C_drewN ?_ _) | (with_reducible refine Kd.C_drew ?_))); (case side2 => exact (Kd.R_reads' HO_5.out).2.1); (case side3 => repeat (first | exact (Kd.R_reads' HO154.out).2.2 | (with_reducible refine Kd.C_alloc ?_ _) | (with_reducible refine Kd.C_drewN ?_ _) | (with_reducible refine Kd.C_drew ?_))); (case side4 => exact (Kd.R_reads' HO154.out).2.1); rintro e w' ⟨rfl, ⟨nd, rfl⟩⟩))
                  go_meet
                  case rel => exact ⟨_, (((t149.size : Int) != (wrap64 ((x5_1.length : Int) + 1)))), (by first | rfl | (simp; done) | (simp [*]; done)), H', ⟨by have := HK1.out; first | omega | exact Nat.le_refl _⟩, ⟨by (with_reducible repeat (first | apply Kd.R_alloc | apply Kd.R_drewN | apply Kd.R_drew)); exact Kd.R_mono HO158.out (fun _ hk => trivial)⟩, ⟨by repeat (first | (with_reducible first | exact HB.out | apply below_alloc | apply pw_below_drewN | apply below_drew1) | exact HB.out)⟩⟩
                · replace c25 := Bool.eq_false_iff.mpr c25
                  subst c25
                  have H1 : (watchwordlaw9_HelloAll.j1 k1 a1 t155 t156 true) = some r := by rw [if_neg (show ¬ (false = true) by decide)] at H; exact H
                  clear H
                  have H := H1
                  clear H1
                  exact absurd H (fun h_ => (by
                    have hd_ : ∀ k_, watchwordlaw9_HelloAll.j1 k_ a1 t155 t156 true = some r → False := by
                      intro k_ h_
                      cases k_ with
                      | zero => exact absurd h_ (by simp [watchwordlaw9_HelloAll.j1])
                      | succ k_ =>
                        simp only [watchwordlaw9_HelloAll.j1, if_true] at h_
                        exact absurd (Option.some.inj h_) (by rw [HT.out]; decide)
                    exact hd_ _ h_))
              · rw [if_neg c23] at H
                have c23b0 : (t160 == 0) = false := beq_eq_false_iff_ne.mpr c23
                have c23b1 : (t160 != 0) = true := bne_iff_ne.mpr c23
                exact absurd H (fun h_ => (by
                  have hd_ : ∀ k_, watchwordlaw9_HelloAll.j1 k_ a1 t155 t156 true = some r → False := by
                    intro k_ h_
                    cases k_ with
                    | zero => exact absurd h_ (by simp [watchwordlaw9_HelloAll.j1])
                    | succ k_ =>
                      simp only [watchwordlaw9_HelloAll.j1, if_true] at h_
                      exact absurd (Option.some.inj h_) (by rw [HT.out]; decide)
                  exact hd_ _ h_))
            · rw [if_neg c21] at H
              have c21b0 : (t159 == 0) = false := beq_eq_false_iff_ne.mpr c21
              have c21b1 : (t159 != 0) = true := bne_iff_ne.mpr c21
              (first | rw [c21b0] | (simp only [i64_w, i32_w]; rw [c21b0]) | skip)
              exact absurd H (fun h_ => (by
                have hd_ : ∀ k_, watchwordlaw9_HelloAll.j1 k_ a1 t155 t156 true = some r → False := by
                  intro k_ h_
                  cases k_ with
                  | zero => exact absurd h_ (by simp [watchwordlaw9_HelloAll.j1])
                  | succ k_ =>
                    simp only [watchwordlaw9_HelloAll.j1, if_true] at h_
                    exact absurd (Option.some.inj h_) (by rw [HT.out]; decide)
                exact hd_ _ h_))
          case rest =>
            clear HC15
            try clear c1
            try clear c2
            try clear p2
            try clear c3
            try clear c4
            try clear c6
            try clear c6b0
            try clear p6
            try clear c7
            try clear c7b0
            try clear c7b1
            try clear c8
            try clear c9
            try clear c9b0
            try clear c9b1
            try clear c10
            try clear c18
            try clear c21
            try clear c21b0
            try clear c21b1
            try clear c23
            try clear c23b0
            try clear c23b1
            try clear c25
            try clear p2
            obtain ⟨kq, x67_14, rfl, HA, HJ14, HO_11, HB⟩ := hcut
            cases kq with
            | zero => exact absurd HA.out (by simp [watchwordlaw9_HelloAll.j1])
            | succ kj14 =>
              have H := HA.out
              clear HA
              simp only [watchwordlaw9_HelloAll.j1] at H
              by_cases c27 : x67_14 = true
              · subst c27
                have H1 : (some false) = some r := by rw [if_pos rfl] at H; exact H
                clear H
                have H := H1
                clear H1
                exact absurd (Option.some.inj H) (by rw [HT.out]; decide)
              · replace c27 := Bool.eq_false_iff.mpr c27
                subst c27
                have H1 : ((watchwordlaw0_Num.f t156).bind fun t162 => (if t162 = 0 then ((hello_Put.f kj14 t155).bind fun bt163 => ((watchwordlaw0_Num.f bt163.2).bind fun t165 => (if t165 = 0 then (some (bt163.1.toList == a1.toList)) else (some false)))) else (some ((t155.length : Int) == 0)))) = some r := by rw [if_neg (show ¬ (false = true) by decide)] at H; exact H
                clear H
                have H := H1
                clear H1
                replace H := Option.bind_eq_some_iff.mp H
                obtain ⟨t162, A280, H⟩ := H
                replace H : (if t162 = 0 then ((hello_Put.f kj14 t155).bind fun bt163 => ((watchwordlaw0_Num.f bt163.2).bind fun t165 => (if t165 = 0 then (some (bt163.1.toList == a1.toList)) else (some false)))) else (some ((t155.length : Int) == 0))) = some r := H
                have A28 := Aside0.mk A280
                clear A280
                by_cases c29 : t162 = 0
                · rw [if_pos c29] at H
                  have c29b0 : (t162 == 0) = true := beq_iff_eq.mpr c29
                  have c29b1 : (t162 != 0) = false := bne_eq_false_iff_eq.mpr c29
                  clear c29
                  replace H := Option.bind_eq_some_iff.mp H
                  obtain ⟨⟨t163, t164⟩, A300, H⟩ := H
                  replace H : ((watchwordlaw0_Num.f t164).bind fun t165 => (if t165 = 0 then (some (t163.toList == a1.toList)) else (some false))) = some r := H
                  have A30 := Aside0.mk A300
                  clear A300
                  replace H := Option.bind_eq_some_iff.mp H
                  obtain ⟨t165, A310, H⟩ := H
                  replace H : (if t165 = 0 then (some (t163.toList == a1.toList)) else (some false)) = some r := H
                  have A31 := Aside0.mk A310
                  clear A310
                  by_cases c32 : t165 = 0
                  · rw [if_pos c32] at H
                    have c32b0 : (t165 == 0) = true := beq_iff_eq.mpr c32
                    have c32b1 : (t165 != 0) = false := bne_eq_false_iff_eq.mpr c32
                    clear c32
                    obtain rfl := Option.some.inj H
                    go_wp2_with (first | ((with_reducible refine gate_callee (f := 18) rfl ?_); refine goesL_ (some 69) rfl rfl Try.func18 (by kernel_rfl) rfl #[.int .i64 t156] rfl (by (try simp only [List.map_toArray, List.map_cons, List.map_nil]); first | done | rfl | (simp only [List.length_drop, List.length_take]; rfl)) ?_; (with_reducible refine (watchwordlaw0_Num.calls t156 t162 _ A28.out).mono ?_); rintro e w' ⟨rfl, ⟨nd, rfl⟩⟩; refine ⟨_, rfl, ?_⟩; obtain ⟨Ao33, co33, eo33⟩ := Kd.R_slice HO_11.out; subst eo33) | ((with_reducible refine gate_callee (f := 21) rfl ?_); refine goesL_ (some 76) rfl rfl Try.func21 (by kernel_rfl) rfl #[.slice Ao33 t155.length co33] rfl (by (try simp only [List.map_toArray, List.map_cons, List.map_nil]); first | done | rfl | (simp only [List.length_drop, List.length_take]; rfl)) ?_; (with_reducible refine (hello_Put.calls kj14 _ _ t155 t163 t164 _ ?side1 ?side2 A30.out).mono ?_); (case side1 => repeat (first | exact (Kd.R_reads' HO_11.out).2.2 | (with_reducible refine Kd.C_alloc ?_ _) | (with_reducible refine Kd.C_drewN ?_ _) | (with_reducible refine Kd.C_drew ?_))); (case side2 => exact (Kd.R_reads' HO_11.out).2.1); rintro e w34 ⟨rfl, hb⟩; refine ⟨_, rfl, ?_⟩; have n0_ := Aside0.mk (Kd.R_below (by (with_reducible repeat (first | apply Kd.R_alloc | apply Kd.R_drewN | apply Kd.R_drew)); exact HO_11.out) hb); have n1_ := Aside0.mk (below_step (by repeat (first | (with_reducible first | exact HB.out | apply below_alloc | apply pw_below_drewN | apply below_drew1) | exact HB.out)) hb); clear HO_11; clear HB; have HO_11 := n0_; have HB := n1_; clear n0_ n1_; (try clear hb); (try clear hb2); (try clear hk); (try clear hi)) | ((with_reducible refine gate_callee (f := 18) rfl ?_); refine goesL_ (some 80) rfl rfl Try.func18 (by kernel_rfl) rfl #[.int .i64 t164] rfl (by (try simp only [List.map_toArray, List.map_cons, List.map_nil]); first | done | rfl | (simp only [List.length_drop, List.length_take]; rfl)) ?_; (with_reducible refine (watchwordlaw0_Num.calls t164 t165 _ A31.out).mono ?_); rintro e w' ⟨rfl, ⟨nd, rfl⟩⟩; refine ⟨_, rfl, ?_⟩))
                    go_ret
                    exact ⟨by first | rfl | (simp [errW_none, errW_some] <;> rfl) | (simp [*, errW_none, errW_some] <;> rfl), by repeat (first | (with_reducible first | exact HB.out | apply below_alloc | apply pw_below_drewN | apply below_drew1) | exact HB.out)⟩
                  · rw [if_neg c32] at H
                    have c32b0 : (t165 == 0) = false := beq_eq_false_iff_ne.mpr c32
                    have c32b1 : (t165 != 0) = true := bne_iff_ne.mpr c32
                    exact absurd (Option.some.inj H) (by rw [HT.out]; decide)
                · rw [if_neg c29] at H
                  have c29b0 : (t162 == 0) = false := beq_eq_false_iff_ne.mpr c29
                  have c29b1 : (t162 != 0) = true := bne_iff_ne.mpr c29
                  obtain rfl := Option.some.inj H
                  go_wp2_with (first | ((with_reducible refine gate_callee (f := 18) rfl ?_); refine goesL_ (some 69) rfl rfl Try.func18 (by kernel_rfl) rfl #[.int .i64 t156] rfl (by (try simp only [List.map_toArray, List.map_cons, List.map_nil]); first | done | rfl | (simp only [List.length_drop, List.length_take]; rfl)) ?_; (with_reducible refine (watchwordlaw0_Num.calls t156 t162 _ A28.out).mono ?_); rintro e w' ⟨rfl, ⟨nd, rfl⟩⟩; refine ⟨_, rfl, ?_⟩; obtain ⟨Ao35, co35, eo35⟩ := Kd.R_slice HO_11.out; subst eo35))
                  go_ret
                  exact ⟨by first | rfl | (simp [errW_none, errW_some] <;> rfl) | (simp [*, errW_none, errW_some] <;> rfl), by repeat (first | (with_reducible first | exact HB.out | apply below_alloc | apply pw_below_drewN | apply below_drew1) | exact HB.out)⟩
  · replace c4 := Bool.eq_false_iff.mpr c4
    subst c4
    have H1 : (some false) = some r := by rw [if_neg (show ¬ (false = true) by decide)] at H; exact H
    clear H
    have H := H1
    clear H1
    exact absurd (Option.some.inj H) (by rw [HT.out]; decide)

/-- THE ONE PURE STATEMENT of watchwordlaw9_HelloAll: yours. -/
def watchwordlaw9_HelloAll.Pure : Prop := ∀ (a0 : Int) (a1 : ByteArray), (Lit.int .i64 a0).wf = true → a1.size ≤ 140737488351232 → ∃ k, watchwordlaw9_HelloAll.f k a0 a1 = some true
theorem watchwordlaw9_HelloAll.walk (P : watchwordlaw9_HelloAll.Pure) (a0 : Int) (a1 : ByteArray) (w : World) (w0 : (Lit.int .i64 a0).wf = true) (w1 : a1.size ≤ 140737488351232) :
    Calls Try.prog 8 #[.int .i64 a0, .string a1] w fun e w' => e = .returned (.bool true) ∧ Below w.heap.size w w' := by
  obtain ⟨k, h⟩ := P a0 a1 w0 w1
  refine (watchwordlaw9_HelloAll.calls k a0 a1 true w h rfl).mono ?_
  rintro e w' ⟨rfl, hd⟩
  exact ⟨rfl, hd⟩

end Go.Proofs.Ytkfnbnfdcfcfpaa.Q9
