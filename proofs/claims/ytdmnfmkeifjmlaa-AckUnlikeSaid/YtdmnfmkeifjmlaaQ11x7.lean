/- Written by a program of this session out of the print of the loaded functions: each Go function as a plain function, and that its call comes to it; for a law, the row out of its plain statement. -/
import Derived.Test.YtdmnfmkeifjmlaaQ11x0
import Derived.Test.YtdmnfmkeifjmlaaQ11x4
import Derived.Test.YtdmnfmkeifjmlaaQ11x5
namespace Go.Proofs.Ytdmnfmkeifjmlaa.Q11
open Go.RowKit Go.Proofs.YtdmnfmkeifjmlaaW.PrintWords Go.Proofs.YtdmnfmkeifjmlaaW.PrintLast Go.Proofs.YtdmnfmkeifjmlaaW.PrintMore
attribute [local go_sem] max2_int min2_int max_two min_two max_three min_three max_four min_four   -- for this text's walks alone
set_option linter.unusedVariables false
set_option linter.unusedSimpArgs false

/-! ### watchwordlaw11_AckBack: function 5 -/
def watchwordlaw11_AckBack.j0 : Nat → ByteArray → Option (Bool)
  | 0, _ => none
  | k + 1, x1 => (ack_Get.f k x1).bind fun bt205 => ((watchwordlaw0_Num.f bt205.2).bind fun t209 => (if t209 = 0 then ((ack_Put.f k bt205.1).bind fun bt210 => ((watchwordlaw0_Num.f bt210.2).bind fun t212 => (if t212 = 0 then (some (bt210.1.toList == x1.toList)) else (some false)))) else (some ((bt205.1.length : Int) == 0))))
def watchwordlaw11_AckBack.f (k : Nat) (l0 : List (S40)) (a1 : ByteArray) : Option (Bool) := (watchwordlaw11_awake.f k).bind fun t195 => (if t195 = true then ((ack_Put.f k l0).bind fun bt196 => ((watchwordlaw0_Num.f bt196.2).bind fun t198 => (if t198 = 0 then ((ack_Get.f k bt196.1).bind fun bt199 => ((watchwordlaw0_Num.f bt199.2).bind fun t203 => (if t203 = 0 then ((watchwordlaw0_SameLsaHeads.f k l0 bt199.1).bind fun t204 => (if t204 = true then (if (bt196.1.size : Int) = (wrap64 (1 + (wrap64 (8 * (l0.length : Int))))) then (watchwordlaw11_AckBack.j0 k a1) else (some false)) else (some false))) else (some false)))) else (watchwordlaw11_AckBack.j0 k a1)))) else (some false))
theorem watchwordlaw11_AckBack.mono_l : ∀ k, (∀ y0, LeO (watchwordlaw11_AckBack.j0 k y0) (watchwordlaw11_AckBack.j0 (k + 1) y0))
  | 0 => fun _ r h => by simp [watchwordlaw11_AckBack.j0] at h
  | k + 1 => by
    have ih0 := watchwordlaw11_AckBack.mono_l k
    · intro y0
      unfold watchwordlaw11_AckBack.j0
      repeat' first
      | (with_reducible exact ih0 _)
      | (with_reducible exact ack_Get.mono _ _)
      | (with_reducible exact ack_Put.mono _ _)
      | (with_reducible exact watchwordlaw0_SameLsaHeads.mono _ _ _)
      | (with_reducible exact watchwordlaw11_awake.mono _)
      | (with_reducible exact LeO.refl _)
      | (with_reducible exact LeO.none _)
      | (with_reducible refine LeO.ite ?_ ?_)
      | (with_reducible refine LeO.bind ?_ (fun _ => ?_))
      | exact ih0 _
      | exact ack_Get.mono _ _
      | exact ack_Put.mono _ _
      | exact watchwordlaw0_SameLsaHeads.mono _ _ _
      | exact watchwordlaw11_awake.mono _
      | exact LeO.none _
      | refine LeO.ite ?_ ?_
      | refine LeO.bind ?_ (fun _ => ?_)
theorem watchwordlaw11_AckBack.mono : ∀ a0 a1 k, LeO (watchwordlaw11_AckBack.f k a0 a1) (watchwordlaw11_AckBack.f (k + 1) a0 a1) := by
  intro a0 a1 k
  have ih0 := watchwordlaw11_AckBack.mono_l k
  unfold watchwordlaw11_AckBack.f
  repeat' first
      | (with_reducible exact ih0 _)
      | (with_reducible exact ack_Get.mono _ _)
      | (with_reducible exact ack_Put.mono _ _)
      | (with_reducible exact watchwordlaw0_SameLsaHeads.mono _ _ _)
      | (with_reducible exact watchwordlaw11_awake.mono _)
      | (with_reducible exact LeO.refl _)
      | (with_reducible exact LeO.none _)
      | (with_reducible refine LeO.ite ?_ ?_)
      | (with_reducible refine LeO.bind ?_ (fun _ => ?_))
      | exact ih0 _
      | exact ack_Get.mono _ _
      | exact ack_Put.mono _ _
      | exact watchwordlaw0_SameLsaHeads.mono _ _ _
      | exact watchwordlaw11_awake.mono _
      | exact LeO.none _
      | refine LeO.ite ?_ ?_
      | refine LeO.bind ?_ (fun _ => ?_)
set_option maxHeartbeats 8000000 in
set_option maxRecDepth 100000 in
theorem watchwordlaw11_AckBack.calls (k : Nat) (A0 : Option Addr) (c0 : Nat) (l0 : List (S40)) (a1 : ByteArray) (r : Bool) (w : World) (hr0 : Kd.C k40 w A0 l0.length l0) (hc0 : l0.length ≤ c0) (h : watchwordlaw11_AckBack.f k l0 a1 = some r) (hT : r = true) :
    Calls Try.prog 5 #[.slice A0 l0.length c0, .string a1] w fun e w' => e = .returned (.bool r) ∧ Below w.heap.size w w' := by
  have HR0 := Aside0.mk hr0
  have HC0 := Aside0.mk hc0
  clear hr0 hc0
  have HB := Aside0.mk (Below.refl w.heap.size w)
  have HT := Aside0.mk hT
  clear hT
  have H : ((watchwordlaw11_awake.f k).bind fun t195 => (if t195 = true then ((ack_Put.f k l0).bind fun bt196 => ((watchwordlaw0_Num.f bt196.2).bind fun t198 => (if t198 = 0 then ((ack_Get.f k bt196.1).bind fun bt199 => ((watchwordlaw0_Num.f bt199.2).bind fun t203 => (if t203 = 0 then ((watchwordlaw0_SameLsaHeads.f k l0 bt199.1).bind fun t204 => (if t204 = true then (if (bt196.1.size : Int) = (wrap64 (1 + (wrap64 (8 * (l0.length : Int))))) then (watchwordlaw11_AckBack.j0 k a1) else (some false)) else (some false))) else (some false)))) else (watchwordlaw11_AckBack.j0 k a1)))) else (some false))) = some r := h
  clear h
  replace H := Option.bind_eq_some_iff.mp H
  obtain ⟨t195, A30, H⟩ := H
  replace H : (if t195 = true then ((ack_Put.f k l0).bind fun bt196 => ((watchwordlaw0_Num.f bt196.2).bind fun t198 => (if t198 = 0 then ((ack_Get.f k bt196.1).bind fun bt199 => ((watchwordlaw0_Num.f bt199.2).bind fun t203 => (if t203 = 0 then ((watchwordlaw0_SameLsaHeads.f k l0 bt199.1).bind fun t204 => (if t204 = true then (if (bt196.1.size : Int) = (wrap64 (1 + (wrap64 (8 * (l0.length : Int))))) then (watchwordlaw11_AckBack.j0 k a1) else (some false)) else (some false))) else (some false)))) else (watchwordlaw11_AckBack.j0 k a1)))) else (some false)) = some r := H
  have A3 := Aside0.mk A30
  clear A30
  by_cases c4 : t195 = true
  · subst c4
    have H1 : ((ack_Put.f k l0).bind fun bt196 => ((watchwordlaw0_Num.f bt196.2).bind fun t198 => (if t198 = 0 then ((ack_Get.f k bt196.1).bind fun bt199 => ((watchwordlaw0_Num.f bt199.2).bind fun t203 => (if t203 = 0 then ((watchwordlaw0_SameLsaHeads.f k l0 bt199.1).bind fun t204 => (if t204 = true then (if (bt196.1.size : Int) = (wrap64 (1 + (wrap64 (8 * (l0.length : Int))))) then (watchwordlaw11_AckBack.j0 k a1) else (some false)) else (some false))) else (some false)))) else (watchwordlaw11_AckBack.j0 k a1)))) = some r := by rw [if_pos rfl] at H; exact H
    clear H
    have H := H1
    clear H1
    replace H := Option.bind_eq_some_iff.mp H
    obtain ⟨⟨t196, t197⟩, A50, H⟩ := H
    replace H : ((watchwordlaw0_Num.f t197).bind fun t198 => (if t198 = 0 then ((ack_Get.f k t196).bind fun bt199 => ((watchwordlaw0_Num.f bt199.2).bind fun t203 => (if t203 = 0 then ((watchwordlaw0_SameLsaHeads.f k l0 bt199.1).bind fun t204 => (if t204 = true then (if (t196.size : Int) = (wrap64 (1 + (wrap64 (8 * (l0.length : Int))))) then (watchwordlaw11_AckBack.j0 k a1) else (some false)) else (some false))) else (some false)))) else (watchwordlaw11_AckBack.j0 k a1))) = some r := H
    have A5 := Aside0.mk A50
    clear A50
    replace H := Option.bind_eq_some_iff.mp H
    obtain ⟨t198, A60, H⟩ := H
    replace H : (if t198 = 0 then ((ack_Get.f k t196).bind fun bt199 => ((watchwordlaw0_Num.f bt199.2).bind fun t203 => (if t203 = 0 then ((watchwordlaw0_SameLsaHeads.f k l0 bt199.1).bind fun t204 => (if t204 = true then (if (t196.size : Int) = (wrap64 (1 + (wrap64 (8 * (l0.length : Int))))) then (watchwordlaw11_AckBack.j0 k a1) else (some false)) else (some false))) else (some false)))) else (watchwordlaw11_AckBack.j0 k a1)) = some r := H
    have A6 := Aside0.mk A60
    clear A60
    have HC7 := Aside0.mk H
    clear H
    go_enter Try.func5, Try.ntmps5
    go_upto_if 22 with (first | ((with_reducible refine gate_callee (f := 23) rfl ?_); refine goesL_ (some 13) rfl rfl Try.func23 (by kernel_rfl) rfl #[] rfl (by (try simp only [List.map_toArray, List.map_cons, List.map_nil]); first | done | rfl | (simp only [List.length_drop, List.length_take]; rfl)) ?_; (with_reducible refine (watchwordlaw11_awake.calls k  true _ A3.out (by first | rfl | exact HT.out)).mono ?_); rintro e w8 ⟨rfl, hb⟩; refine ⟨_, rfl, ?_⟩; have n0_ := Aside0.mk (below_step (by repeat (first | (with_reducible first | exact HB.out | apply below_alloc | apply pw_below_drewN | apply below_drew1) | exact HB.out)) hb); clear HB; have HB := n0_; clear n0_; (try clear hb); (try clear hb2); (try clear hk); (try clear hi)) | ((with_reducible refine gate_callee (f := 13) rfl ?_); refine goesL_ (some 17) rfl rfl Try.func13 (by kernel_rfl) rfl #[.slice A0 l0.length c0] rfl (by (try simp only [List.map_toArray, List.map_cons, List.map_nil]); first | done | rfl | (simp only [List.length_drop, List.length_take]; rfl)) ?_; (with_reducible refine (ack_Put.calls k _ _ l0 t196 t197 _ ?side1 ?side2 A5.out).mono ?_); (case side1 => repeat (first | exact (Kd.C_below HR0.out HB.out) | (with_reducible refine Kd.C_alloc ?_ _) | (with_reducible refine Kd.C_drewN ?_ _) | (with_reducible refine Kd.C_drew ?_))); (case side2 => exact HC0.out); rintro e w9 ⟨rfl, hb⟩; refine ⟨_, rfl, ?_⟩; have n0_ := Aside0.mk (below_step (by repeat (first | (with_reducible first | exact HB.out | apply below_alloc | apply pw_below_drewN | apply below_drew1) | exact HB.out)) hb); clear HB; have HB := n0_; clear n0_; (try clear hb); (try clear hb2); (try clear hk); (try clear hi)) | ((with_reducible refine gate_callee (f := 17) rfl ?_); refine goesL_ (some 21) rfl rfl Try.func17 (by kernel_rfl) rfl #[.int .i64 t197] rfl (by (try simp only [List.map_toArray, List.map_cons, List.map_nil]); first | done | rfl | (simp only [List.length_drop, List.length_take]; rfl)) ?_; (with_reducible refine (watchwordlaw0_Num.calls t197 t198 _ A6.out).mono ?_); rintro e w' ⟨rfl, ⟨nd, rfl⟩⟩; refine ⟨_, rfl, ?_⟩))
    (try simp only [Act.put, List.setIfInBounds_toArray, List.set_cons_zero, List.set_cons_succ])
    go_cut [] (fun wc => ∃ (kq : Nat), Aside0 (watchwordlaw11_AckBack.j0 kq a1 = some r) ∧ Aside0 (kq ≤ k) ∧ Aside0 (Below w.heap.size w wc))
    case first =>
      have H := HC7.out
      clear HC7
      by_cases c10 : t198 = 0
      · rw [if_pos c10] at H
        have c10b0 : (t198 == 0) = true := beq_iff_eq.mpr c10
        have c10b1 : (t198 != 0) = false := bne_eq_false_iff_eq.mpr c10
        clear c10
        (first | rw [c10b0] | (simp only [i64_w, i32_w]; rw [c10b0]) | skip)
        replace H := Option.bind_eq_some_iff.mp H
        obtain ⟨⟨t199, t200⟩, A110, H⟩ := H
        replace H : ((watchwordlaw0_Num.f t200).bind fun t203 => (if t203 = 0 then ((watchwordlaw0_SameLsaHeads.f k l0 t199).bind fun t204 => (if t204 = true then (if (t196.size : Int) = (wrap64 (1 + (wrap64 (8 * (l0.length : Int))))) then (watchwordlaw11_AckBack.j0 k a1) else (some false)) else (some false))) else (some false))) = some r := H
        have A11 := Aside0.mk A110
        clear A110
        replace H := Option.bind_eq_some_iff.mp H
        obtain ⟨t203, A120, H⟩ := H
        replace H : (if t203 = 0 then ((watchwordlaw0_SameLsaHeads.f k l0 t199).bind fun t204 => (if t204 = true then (if (t196.size : Int) = (wrap64 (1 + (wrap64 (8 * (l0.length : Int))))) then (watchwordlaw11_AckBack.j0 k a1) else (some false)) else (some false))) else (some false)) = some r := H
        have A12 := Aside0.mk A120
        clear A120
        by_cases c13 : t203 = 0
        · rw [if_pos c13] at H
          have c13b0 : (t203 == 0) = true := beq_iff_eq.mpr c13
          have c13b1 : (t203 != 0) = false := bne_eq_false_iff_eq.mpr c13
          clear c13
          replace H := Option.bind_eq_some_iff.mp H
          obtain ⟨t204, A140, H⟩ := H
          replace H : (if t204 = true then (if (t196.size : Int) = (wrap64 (1 + (wrap64 (8 * (l0.length : Int))))) then (watchwordlaw11_AckBack.j0 k a1) else (some false)) else (some false)) = some r := H
          have A14 := Aside0.mk A140
          clear A140
          by_cases c15 : t204 = true
          · subst c15
            have H1 : (if (t196.size : Int) = (wrap64 (1 + (wrap64 (8 * (l0.length : Int))))) then (watchwordlaw11_AckBack.j0 k a1) else (some false)) = some r := by rw [if_pos rfl] at H; exact H
            clear H
            have H := H1
            clear H1
            by_cases c16 : (t196.size : Int) = (wrap64 (1 + (wrap64 (8 * (l0.length : Int)))))
            · rw [if_pos c16] at H
              have c16b0 : ((t196.size : Int) == (wrap64 (1 + (wrap64 (8 * (l0.length : Int)))))) = true := beq_iff_eq.mpr c16
              have c16b1 : ((t196.size : Int) != (wrap64 (1 + (wrap64 (8 * (l0.length : Int)))))) = false := bne_eq_false_iff_eq.mpr c16
              clear c16
              have H' := Aside0.mk H
              clear H
              go_wp2_with (first | ((with_reducible refine gate_callee (f := 15) rfl ?_); refine goesL_ (some 25) rfl rfl Try.func15 (by kernel_rfl) rfl #[.string t196] rfl (by (try simp only [List.map_toArray, List.map_cons, List.map_nil]); first | done | rfl | (simp only [List.length_drop, List.length_take]; rfl)) ?_; (with_reducible refine (ack_Get.calls k t196 t199 t200 _ A11.out).mono ?_); rintro e w17 ⟨v201, rfl, ho0, hb⟩; refine ⟨_, rfl, ?_⟩; have n0_ := Aside0.mk (Kd.R_lower ho0 (below_size (by repeat (first | (with_reducible first | exact HB.out | apply below_alloc | apply pw_below_drewN | apply below_drew1) | exact HB.out)))); have n1_ := Aside0.mk (below_step (by repeat (first | (with_reducible first | exact HB.out | apply below_alloc | apply pw_below_drewN | apply below_drew1) | exact HB.out)) hb); clear HB; have HO202 := n0_; have HB := n1_; clear n0_ n1_; (try clear hb); (try clear hb2); (try clear hk); (try clear hi); (try clear ho0)) | ((with_reducible refine gate_callee (f := 17) rfl ?_); refine goesL_ (some 29) rfl rfl Try.func17 (by kernel_rfl) rfl #[.int .i64 t200] rfl (by (try simp only [List.map_toArray, List.map_cons, List.map_nil]); first | done | rfl | (simp only [List.length_drop, List.length_take]; rfl)) ?_; (with_reducible refine (watchwordlaw0_Num.calls t200 t203 _ A12.out).mono ?_); rintro e w' ⟨rfl, ⟨nd, rfl⟩⟩; refine ⟨_, rfl, ?_⟩; obtain ⟨Ao18, co18, eo18⟩ := Kd.R_slice HO202.out; subst eo18) | (go_at_call 18; (with_reducible refine (watchwordlaw0_SameLsaHeads.calls k _ _ l0 _ _ t199 true _ ?side1 ?side2 ?side3 ?side4 A14.out).mono ?_); (case side1 => repeat (first | exact (Kd.C_below HR0.out (by repeat (first | (with_reducible first | exact HB.out | apply below_alloc | apply pw_below_drewN | apply below_drew1) | exact HB.out))) | (with_reducible refine Kd.C_alloc ?_ _) | (with_reducible refine Kd.C_drewN ?_ _) | (with_reducible refine Kd.C_drew ?_))); (case side2 => exact HC0.out); (case side3 => repeat (first | exact (Kd.R_reads' HO202.out).2.2 | (with_reducible refine Kd.C_alloc ?_ _) | (with_reducible refine Kd.C_drewN ?_ _) | (with_reducible refine Kd.C_drew ?_))); (case side4 => exact (Kd.R_reads' HO202.out).2.1); rintro e w' ⟨rfl, ⟨nd, rfl⟩⟩))
              go_meet
              case rel => exact ⟨_, H', ⟨by first | omega | exact Nat.le_refl _⟩, ⟨by repeat (first | (with_reducible first | exact HB.out | apply below_alloc | apply pw_below_drewN | apply below_drew1) | exact HB.out)⟩⟩
            · rw [if_neg c16] at H
              have c16b0 : ((t196.size : Int) == (wrap64 (1 + (wrap64 (8 * (l0.length : Int)))))) = false := beq_eq_false_iff_ne.mpr c16
              have c16b1 : ((t196.size : Int) != (wrap64 (1 + (wrap64 (8 * (l0.length : Int)))))) = true := bne_iff_ne.mpr c16
              exact absurd (Option.some.inj H) (by rw [HT.out]; decide)
          · replace c15 := Bool.eq_false_iff.mpr c15
            subst c15
            have H1 : (some false) = some r := by rw [if_neg (show ¬ (false = true) by decide)] at H; exact H
            clear H
            have H := H1
            clear H1
            exact absurd (Option.some.inj H) (by rw [HT.out]; decide)
        · rw [if_neg c13] at H
          have c13b0 : (t203 == 0) = false := beq_eq_false_iff_ne.mpr c13
          have c13b1 : (t203 != 0) = true := bne_iff_ne.mpr c13
          exact absurd (Option.some.inj H) (by rw [HT.out]; decide)
      · rw [if_neg c10] at H
        have c10b0 : (t198 == 0) = false := beq_eq_false_iff_ne.mpr c10
        have c10b1 : (t198 != 0) = true := bne_iff_ne.mpr c10
        (first | rw [c10b0] | (simp only [i64_w, i32_w]; rw [c10b0]) | skip)
        have H' := Aside0.mk H
        clear H
        go_wp2
        go_meet
        case rel => exact ⟨_, H', ⟨by first | omega | exact Nat.le_refl _⟩, ⟨by repeat (first | (with_reducible first | exact HB.out | apply below_alloc | apply pw_below_drewN | apply below_drew1) | exact HB.out)⟩⟩
    case rest =>
      clear HC7
      try clear c1
      try clear c2
      try clear p2
      try clear c4
      try clear c5
      try clear p6
      try clear c10
      try clear c10b0
      try clear c10b1
      try clear c13
      try clear c13b0
      try clear c13b1
      try clear c15
      try clear c16
      try clear c16b0
      try clear c16b1
      try clear c17
      obtain ⟨kq, HA, HJ6, HB⟩ := hcut
      cases kq with
      | zero => exact absurd HA.out (by simp [watchwordlaw11_AckBack.j0])
      | succ kj6 =>
        have H := HA.out
        clear HA
        simp only [watchwordlaw11_AckBack.j0] at H
        replace H := Option.bind_eq_some_iff.mp H
        obtain ⟨⟨t205, t206⟩, A190, H⟩ := H
        replace H : ((watchwordlaw0_Num.f t206).bind fun t209 => (if t209 = 0 then ((ack_Put.f kj6 t205).bind fun bt210 => ((watchwordlaw0_Num.f bt210.2).bind fun t212 => (if t212 = 0 then (some (bt210.1.toList == a1.toList)) else (some false)))) else (some ((t205.length : Int) == 0)))) = some r := H
        have A19 := Aside0.mk A190
        clear A190
        replace H := Option.bind_eq_some_iff.mp H
        obtain ⟨t209, A200, H⟩ := H
        replace H : (if t209 = 0 then ((ack_Put.f kj6 t205).bind fun bt210 => ((watchwordlaw0_Num.f bt210.2).bind fun t212 => (if t212 = 0 then (some (bt210.1.toList == a1.toList)) else (some false)))) else (some ((t205.length : Int) == 0))) = some r := H
        have A20 := Aside0.mk A200
        clear A200
        by_cases c21 : t209 = 0
        · rw [if_pos c21] at H
          have c21b0 : (t209 == 0) = true := beq_iff_eq.mpr c21
          have c21b1 : (t209 != 0) = false := bne_eq_false_iff_eq.mpr c21
          clear c21
          replace H := Option.bind_eq_some_iff.mp H
          obtain ⟨⟨t210, t211⟩, A220, H⟩ := H
          replace H : ((watchwordlaw0_Num.f t211).bind fun t212 => (if t212 = 0 then (some (t210.toList == a1.toList)) else (some false))) = some r := H
          have A22 := Aside0.mk A220
          clear A220
          replace H := Option.bind_eq_some_iff.mp H
          obtain ⟨t212, A230, H⟩ := H
          replace H : (if t212 = 0 then (some (t210.toList == a1.toList)) else (some false)) = some r := H
          have A23 := Aside0.mk A230
          clear A230
          by_cases c24 : t212 = 0
          · rw [if_pos c24] at H
            have c24b0 : (t212 == 0) = true := beq_iff_eq.mpr c24
            have c24b1 : (t212 != 0) = false := bne_eq_false_iff_eq.mpr c24
            clear c24
            obtain rfl := Option.some.inj H
            go_wp2_with (first | ((with_reducible refine gate_callee (f := 15) rfl ?_); refine goesL_ (some 48) rfl rfl Try.func15 (by kernel_rfl) rfl #[.string a1] rfl (by (try simp only [List.map_toArray, List.map_cons, List.map_nil]); first | done | rfl | (simp only [List.length_drop, List.length_take]; rfl)) ?_; (with_reducible refine (ack_Get.calls kj6 a1 t205 t206 _ A19.out).mono ?_); rintro e w25 ⟨v207, rfl, ho0, hb⟩; refine ⟨_, rfl, ?_⟩; have n0_ := Aside0.mk (Kd.R_lower ho0 (below_size (by repeat (first | (with_reducible first | exact HB.out | apply below_alloc | apply pw_below_drewN | apply below_drew1) | exact HB.out)))); have n1_ := Aside0.mk (below_step (by repeat (first | (with_reducible first | exact HB.out | apply below_alloc | apply pw_below_drewN | apply below_drew1) | exact HB.out)) hb); clear HB; have HO208 := n0_; have HB := n1_; clear n0_ n1_; (try clear hb); (try clear hb2); (try clear hk); (try clear hi); (try clear ho0)) | ((with_reducible refine gate_callee (f := 17) rfl ?_); refine goesL_ (some 52) rfl rfl Try.func17 (by kernel_rfl) rfl #[.int .i64 t206] rfl (by (try simp only [List.map_toArray, List.map_cons, List.map_nil]); first | done | rfl | (simp only [List.length_drop, List.length_take]; rfl)) ?_; (with_reducible refine (watchwordlaw0_Num.calls t206 t209 _ A20.out).mono ?_); rintro e w' ⟨rfl, ⟨nd, rfl⟩⟩; refine ⟨_, rfl, ?_⟩; obtain ⟨Ao26, co26, eo26⟩ := Kd.R_slice HO208.out; subst eo26) | ((with_reducible refine gate_callee (f := 13) rfl ?_); refine goesL_ (some 59) rfl rfl Try.func13 (by kernel_rfl) rfl #[.slice Ao26 t205.length co26] rfl (by (try simp only [List.map_toArray, List.map_cons, List.map_nil]); first | done | rfl | (simp only [List.length_drop, List.length_take]; rfl)) ?_; (with_reducible refine (ack_Put.calls kj6 _ _ t205 t210 t211 _ ?side1 ?side2 A22.out).mono ?_); (case side1 => repeat (first | exact (Kd.R_reads' HO208.out).2.2 | (with_reducible refine Kd.C_alloc ?_ _) | (with_reducible refine Kd.C_drewN ?_ _) | (with_reducible refine Kd.C_drew ?_))); (case side2 => exact (Kd.R_reads' HO208.out).2.1); rintro e w27 ⟨rfl, hb⟩; refine ⟨_, rfl, ?_⟩; have n0_ := Aside0.mk (Kd.R_below (by (with_reducible repeat (first | apply Kd.R_alloc | apply Kd.R_drewN | apply Kd.R_drew)); exact HO208.out) hb); have n1_ := Aside0.mk (below_step (by repeat (first | (with_reducible first | exact HB.out | apply below_alloc | apply pw_below_drewN | apply below_drew1) | exact HB.out)) hb); clear HO208; clear HB; have HO208 := n0_; have HB := n1_; clear n0_ n1_; (try clear hb); (try clear hb2); (try clear hk); (try clear hi)) | ((with_reducible refine gate_callee (f := 17) rfl ?_); refine goesL_ (some 63) rfl rfl Try.func17 (by kernel_rfl) rfl #[.int .i64 t211] rfl (by (try simp only [List.map_toArray, List.map_cons, List.map_nil]); first | done | rfl | (simp only [List.length_drop, List.length_take]; rfl)) ?_; (with_reducible refine (watchwordlaw0_Num.calls t211 t212 _ A23.out).mono ?_); rintro e w' ⟨rfl, ⟨nd, rfl⟩⟩; refine ⟨_, rfl, ?_⟩))
            go_ret
            exact ⟨by first | rfl | (simp [errW_none, errW_some] <;> rfl) | (simp [*, errW_none, errW_some] <;> rfl), by repeat (first | (with_reducible first | exact HB.out | apply below_alloc | apply pw_below_drewN | apply below_drew1) | exact HB.out)⟩
          · rw [if_neg c24] at H
            have c24b0 : (t212 == 0) = false := beq_eq_false_iff_ne.mpr c24
            have c24b1 : (t212 != 0) = true := bne_iff_ne.mpr c24
            exact absurd (Option.some.inj H) (by rw [HT.out]; decide)
        · rw [if_neg c21] at H
          have c21b0 : (t209 == 0) = false := beq_eq_false_iff_ne.mpr c21
          have c21b1 : (t209 != 0) = true := bne_iff_ne.mpr c21
          obtain rfl := Option.some.inj H
          go_wp2_with (first | ((with_reducible refine gate_callee (f := 15) rfl ?_); refine goesL_ (some 48) rfl rfl Try.func15 (by kernel_rfl) rfl #[.string a1] rfl (by (try simp only [List.map_toArray, List.map_cons, List.map_nil]); first | done | rfl | (simp only [List.length_drop, List.length_take]; rfl)) ?_; (with_reducible refine (ack_Get.calls kj6 a1 t205 t206 _ A19.out).mono ?_); rintro e w28 ⟨v207, rfl, ho0, hb⟩; refine ⟨_, rfl, ?_⟩; have n0_ := Aside0.mk (Kd.R_lower ho0 (below_size (by repeat (first | (with_reducible first | exact HB.out | apply below_alloc | apply pw_below_drewN | apply below_drew1) | exact HB.out)))); have n1_ := Aside0.mk (below_step (by repeat (first | (with_reducible first | exact HB.out | apply below_alloc | apply pw_below_drewN | apply below_drew1) | exact HB.out)) hb); clear HB; have HO208 := n0_; have HB := n1_; clear n0_ n1_; (try clear hb); (try clear hb2); (try clear hk); (try clear hi); (try clear ho0)) | ((with_reducible refine gate_callee (f := 17) rfl ?_); refine goesL_ (some 52) rfl rfl Try.func17 (by kernel_rfl) rfl #[.int .i64 t206] rfl (by (try simp only [List.map_toArray, List.map_cons, List.map_nil]); first | done | rfl | (simp only [List.length_drop, List.length_take]; rfl)) ?_; (with_reducible refine (watchwordlaw0_Num.calls t206 t209 _ A20.out).mono ?_); rintro e w' ⟨rfl, ⟨nd, rfl⟩⟩; refine ⟨_, rfl, ?_⟩; obtain ⟨Ao29, co29, eo29⟩ := Kd.R_slice HO208.out; subst eo29))
          go_ret
          exact ⟨by first | rfl | (simp [errW_none, errW_some] <;> rfl) | (simp [*, errW_none, errW_some] <;> rfl), by repeat (first | (with_reducible first | exact HB.out | apply below_alloc | apply pw_below_drewN | apply below_drew1) | exact HB.out)⟩
  · replace c4 := Bool.eq_false_iff.mpr c4
    subst c4
    have H1 : (some false) = some r := by rw [if_neg (show ¬ (false = true) by decide)] at H; exact H
    clear H
    have H := H1
    clear H1
    exact absurd (Option.some.inj H) (by rw [HT.out]; decide)

/-! ### watchwordlaw11_AckUnlike: function 6 -/
def watchwordlaw11_AckUnlike.j0 : Nat → List (S40) → Int → Int → ByteArray → Int → Bool → Option (Bool)
  | 0, _, _, _, _, _, _ => none
  | k + 1, x0, x1, x2, x7, x8, x27 => if x27 = true then ((watchwordlaw0_Num.f x8).bind fun t217 => (if t217 = 0 then (some true) else (some (x7.toList == ([] : List UInt8))))) else ((some (([] : List (S40)) : List (S40))).bind fun y218 => (if y218.length + x0.length < 4398046511104 then ((some (y218 ++ x0 : List (S40))).bind fun y221 => (if (IntKind.u64.wrap ((y221.length : Int))) = 0 then (none) else (if (Int.tmod (IntKind.u64.wrap (x2)) 3) = 0 then (if 0 ≤ (wrap64 (Int.tmod (IntKind.u64.wrap (x1)) (IntKind.u64.wrap ((y221.length : Int))))) then (if (wrap64 (Int.tmod (IntKind.u64.wrap (x1)) (IntKind.u64.wrap ((y221.length : Int))))) < (y221.length : Int) then ((ack_Put.f k (y221.set ((wrap64 (Int.tmod (IntKind.u64.wrap (x1)) (IntKind.u64.wrap ((y221.length : Int))))) : Int).toNat (⟨(rd_T40 y221 (wrap64 (Int.tmod (IntKind.u64.wrap (x1)) (IntKind.u64.wrap ((y221.length : Int)))))).f0, (rd_T40 y221 (wrap64 (Int.tmod (IntKind.u64.wrap (x1)) (IntKind.u64.wrap ((y221.length : Int)))))).f1, Int.tmod (wrap64 (((rd_T40 y221 (wrap64 (Int.tmod (IntKind.u64.wrap (x1)) (IntKind.u64.wrap ((y221.length : Int)))))).f2) + 1)) 61, (rd_T40 y221 (wrap64 (Int.tmod (IntKind.u64.wrap (x1)) (IntKind.u64.wrap ((y221.length : Int)))))).f3⟩ : S40))).bind fun bt226 => ((watchwordlaw0_Num.f bt226.2).bind fun t228 => (if t228 = 0 then (if x7.toList = bt226.1.toList then (some false) else (some ((x7.size : Int) == (bt226.1.size : Int)))) else (some false)))) else (none)) else (none)) else (if (Int.tmod (IntKind.u64.wrap (x2)) 3) = 1 then (if 0 ≤ (wrap64 (Int.tmod (IntKind.u64.wrap (x1)) (IntKind.u64.wrap ((y221.length : Int))))) then (if (wrap64 (Int.tmod (IntKind.u64.wrap (x1)) (IntKind.u64.wrap ((y221.length : Int))))) < (y221.length : Int) then ((ack_Put.f k (y221.set ((wrap64 (Int.tmod (IntKind.u64.wrap (x1)) (IntKind.u64.wrap ((y221.length : Int))))) : Int).toNat (⟨(rd_T40 y221 (wrap64 (Int.tmod (IntKind.u64.wrap (x1)) (IntKind.u64.wrap ((y221.length : Int)))))).f0, (rd_T40 y221 (wrap64 (Int.tmod (IntKind.u64.wrap (x1)) (IntKind.u64.wrap ((y221.length : Int)))))).f1, (rd_T40 y221 (wrap64 (Int.tmod (IntKind.u64.wrap (x1)) (IntKind.u64.wrap ((y221.length : Int)))))).f2, Int.tmod (wrap64 (((rd_T40 y221 (wrap64 (Int.tmod (IntKind.u64.wrap (x1)) (IntKind.u64.wrap ((y221.length : Int)))))).f3) + 1)) 65536⟩ : S40))).bind fun bt231 => ((watchwordlaw0_Num.f bt231.2).bind fun t233 => (if t233 = 0 then (if x7.toList = bt231.1.toList then (some false) else (some ((x7.size : Int) == (bt231.1.size : Int)))) else (some false)))) else (none)) else (none)) else (if 0 ≤ (wrap64 (Int.tmod (IntKind.u64.wrap (x1)) (IntKind.u64.wrap ((y221.length : Int))))) then (if (wrap64 (Int.tmod (IntKind.u64.wrap (x1)) (IntKind.u64.wrap ((y221.length : Int))))) < (y221.length : Int) then ((ack_Put.f k (y221.set ((wrap64 (Int.tmod (IntKind.u64.wrap (x1)) (IntKind.u64.wrap ((y221.length : Int))))) : Int).toNat (⟨(rd_T40 y221 (wrap64 (Int.tmod (IntKind.u64.wrap (x1)) (IntKind.u64.wrap ((y221.length : Int)))))).f0, wrap64 (1 + (Int.tmod ((rd_T40 y221 (wrap64 (Int.tmod (IntKind.u64.wrap (x1)) (IntKind.u64.wrap ((y221.length : Int)))))).f1) 2147483647)), (rd_T40 y221 (wrap64 (Int.tmod (IntKind.u64.wrap (x1)) (IntKind.u64.wrap ((y221.length : Int)))))).f2, (rd_T40 y221 (wrap64 (Int.tmod (IntKind.u64.wrap (x1)) (IntKind.u64.wrap ((y221.length : Int)))))).f3⟩ : S40))).bind fun bt236 => ((watchwordlaw0_Num.f bt236.2).bind fun t238 => (if t238 = 0 then (if x7.toList = bt236.1.toList then (some false) else (some ((x7.size : Int) == (bt236.1.size : Int)))) else (some false)))) else (none)) else (none)))))) else (none)))
def watchwordlaw11_AckUnlike.f (k : Nat) (l0 : List (S40)) (a1 : Int) (a2 : Int) : Option (Bool) := (watchwordlaw11_awake.f k).bind fun t213 => (if t213 = true then ((ack_Put.f k l0).bind fun bt214 => ((watchwordlaw0_Num.f bt214.2).bind fun t216 => (if t216 = 0 then (watchwordlaw11_AckUnlike.j0 k l0 a1 a2 bt214.1 bt214.2 ((l0.length : Int) == 0)) else (watchwordlaw11_AckUnlike.j0 k l0 a1 a2 bt214.1 bt214.2 true)))) else (some false))
theorem watchwordlaw11_AckUnlike.mono_l : ∀ k, (∀ y0 y1 y2 y3 y4 y5, LeO (watchwordlaw11_AckUnlike.j0 k y0 y1 y2 y3 y4 y5) (watchwordlaw11_AckUnlike.j0 (k + 1) y0 y1 y2 y3 y4 y5))
  | 0 => fun _ _ _ _ _ _ r h => by simp [watchwordlaw11_AckUnlike.j0] at h
  | k + 1 => by
    have ih0 := watchwordlaw11_AckUnlike.mono_l k
    · intro y0 y1 y2 y3 y4 y5
      unfold watchwordlaw11_AckUnlike.j0
      repeat' first
      | (with_reducible exact ih0 _ _ _ _ _ _)
      | (with_reducible exact ack_Put.mono _ _)
      | (with_reducible exact watchwordlaw11_awake.mono _)
      | (with_reducible exact LeO.refl _)
      | (with_reducible exact LeO.none _)
      | (with_reducible refine LeO.ite ?_ ?_)
      | (with_reducible refine LeO.bind ?_ (fun _ => ?_))
      | exact ih0 _ _ _ _ _ _
      | exact ack_Put.mono _ _
      | exact watchwordlaw11_awake.mono _
      | exact LeO.none _
      | refine LeO.ite ?_ ?_
      | refine LeO.bind ?_ (fun _ => ?_)
theorem watchwordlaw11_AckUnlike.mono : ∀ a0 a1 a2 k, LeO (watchwordlaw11_AckUnlike.f k a0 a1 a2) (watchwordlaw11_AckUnlike.f (k + 1) a0 a1 a2) := by
  intro a0 a1 a2 k
  have ih0 := watchwordlaw11_AckUnlike.mono_l k
  unfold watchwordlaw11_AckUnlike.f
  repeat' first
      | (with_reducible exact ih0 _ _ _ _ _ _)
      | (with_reducible exact ack_Put.mono _ _)
      | (with_reducible exact watchwordlaw11_awake.mono _)
      | (with_reducible exact LeO.refl _)
      | (with_reducible exact LeO.none _)
      | (with_reducible refine LeO.ite ?_ ?_)
      | (with_reducible refine LeO.bind ?_ (fun _ => ?_))
      | exact ih0 _ _ _ _ _ _
      | exact ack_Put.mono _ _
      | exact watchwordlaw11_awake.mono _
      | exact LeO.none _
      | refine LeO.ite ?_ ?_
      | refine LeO.bind ?_ (fun _ => ?_)
set_option maxHeartbeats 8000000 in
set_option maxRecDepth 100000 in
theorem watchwordlaw11_AckUnlike.calls (k : Nat) (A0 : Option Addr) (c0 : Nat) (l0 : List (S40)) (a1 : Int) (a2 : Int) (r : Bool) (w : World) (hr0 : Kd.C k40 w A0 l0.length l0) (hc0 : l0.length ≤ c0) (h : watchwordlaw11_AckUnlike.f k l0 a1 a2 = some r) (hT : r = true) :
    Calls Try.prog 6 #[.slice A0 l0.length c0, .int .i64 a1, .int .i64 a2] w fun e w' => e = .returned (.bool r) ∧ Below w.heap.size w w' := by
  have HR0 := Aside0.mk hr0
  have HC0 := Aside0.mk hc0
  clear hr0 hc0
  have HB := Aside0.mk (Below.refl w.heap.size w)
  have HT := Aside0.mk hT
  clear hT
  have H : ((watchwordlaw11_awake.f k).bind fun t213 => (if t213 = true then ((ack_Put.f k l0).bind fun bt214 => ((watchwordlaw0_Num.f bt214.2).bind fun t216 => (if t216 = 0 then (watchwordlaw11_AckUnlike.j0 k l0 a1 a2 bt214.1 bt214.2 ((l0.length : Int) == 0)) else (watchwordlaw11_AckUnlike.j0 k l0 a1 a2 bt214.1 bt214.2 true)))) else (some false))) = some r := h
  clear h
  replace H := Option.bind_eq_some_iff.mp H
  obtain ⟨t213, A40, H⟩ := H
  replace H : (if t213 = true then ((ack_Put.f k l0).bind fun bt214 => ((watchwordlaw0_Num.f bt214.2).bind fun t216 => (if t216 = 0 then (watchwordlaw11_AckUnlike.j0 k l0 a1 a2 bt214.1 bt214.2 ((l0.length : Int) == 0)) else (watchwordlaw11_AckUnlike.j0 k l0 a1 a2 bt214.1 bt214.2 true)))) else (some false)) = some r := H
  have A4 := Aside0.mk A40
  clear A40
  by_cases c5 : t213 = true
  · subst c5
    have H1 : ((ack_Put.f k l0).bind fun bt214 => ((watchwordlaw0_Num.f bt214.2).bind fun t216 => (if t216 = 0 then (watchwordlaw11_AckUnlike.j0 k l0 a1 a2 bt214.1 bt214.2 ((l0.length : Int) == 0)) else (watchwordlaw11_AckUnlike.j0 k l0 a1 a2 bt214.1 bt214.2 true)))) = some r := by rw [if_pos rfl] at H; exact H
    clear H
    have H := H1
    clear H1
    replace H := Option.bind_eq_some_iff.mp H
    obtain ⟨⟨t214, t215⟩, A60, H⟩ := H
    replace H : ((watchwordlaw0_Num.f t215).bind fun t216 => (if t216 = 0 then (watchwordlaw11_AckUnlike.j0 k l0 a1 a2 t214 t215 ((l0.length : Int) == 0)) else (watchwordlaw11_AckUnlike.j0 k l0 a1 a2 t214 t215 true))) = some r := H
    have A6 := Aside0.mk A60
    clear A60
    have HC7 := Aside0.mk H
    clear H
    go_enter Try.func6, Try.ntmps6
    go_upto_region 4 with (first | ((with_reducible refine gate_callee (f := 23) rfl ?_); refine goesL_ (some 13) rfl rfl Try.func23 (by kernel_rfl) rfl #[] rfl (by (try simp only [List.map_toArray, List.map_cons, List.map_nil]); first | done | rfl | (simp only [List.length_drop, List.length_take]; rfl)) ?_; (with_reducible refine (watchwordlaw11_awake.calls k  true _ A4.out (by first | rfl | exact HT.out)).mono ?_); rintro e w8 ⟨rfl, hb⟩; refine ⟨_, rfl, ?_⟩; have n0_ := Aside0.mk (below_step (by repeat (first | (with_reducible first | exact HB.out | apply below_alloc | apply pw_below_drewN | apply below_drew1) | exact HB.out)) hb); clear HB; have HB := n0_; clear n0_; (try clear hb); (try clear hb2); (try clear hk); (try clear hi)) | ((with_reducible refine gate_callee (f := 13) rfl ?_); refine goesL_ (some 17) rfl rfl Try.func13 (by kernel_rfl) rfl #[.slice A0 l0.length c0] rfl (by (try simp only [List.map_toArray, List.map_cons, List.map_nil]); first | done | rfl | (simp only [List.length_drop, List.length_take]; rfl)) ?_; (with_reducible refine (ack_Put.calls k _ _ l0 t214 t215 _ ?side1 ?side2 A6.out).mono ?_); (case side1 => repeat (first | exact (Kd.C_below HR0.out HB.out) | (with_reducible refine Kd.C_alloc ?_ _) | (with_reducible refine Kd.C_drewN ?_ _) | (with_reducible refine Kd.C_drew ?_))); (case side2 => exact HC0.out); rintro e w9 ⟨rfl, hb⟩; refine ⟨_, rfl, ?_⟩; have n0_ := Aside0.mk (below_step (by repeat (first | (with_reducible first | exact HB.out | apply below_alloc | apply pw_below_drewN | apply below_drew1) | exact HB.out)) hb); clear HB; have HB := n0_; clear n0_; (try clear hb); (try clear hb2); (try clear hk); (try clear hi)))
    (try simp only [Act.put, List.setIfInBounds_toArray, List.set_cons_zero, List.set_cons_succ])
    go_cut [27] (fun v27 wc => ∃ (kq : Nat) (x27_6 : Bool), v27 = .bool x27_6 ∧ Aside0 (watchwordlaw11_AckUnlike.j0 kq l0 a1 a2 t214 t215 x27_6 = some r) ∧ Aside0 (kq ≤ k) ∧ Aside0 (Below w.heap.size w wc))
    case first =>
      have H := HC7.out
      clear HC7
      replace H := Option.bind_eq_some_iff.mp H
      obtain ⟨t216, A100, H⟩ := H
      replace H : (if t216 = 0 then (watchwordlaw11_AckUnlike.j0 k l0 a1 a2 t214 t215 ((l0.length : Int) == 0)) else (watchwordlaw11_AckUnlike.j0 k l0 a1 a2 t214 t215 true)) = some r := H
      have A10 := Aside0.mk A100
      clear A100
      by_cases c11 : t216 = 0
      · rw [if_pos c11] at H
        have c11b0 : (t216 == 0) = true := beq_iff_eq.mpr c11
        have c11b1 : (t216 != 0) = false := bne_eq_false_iff_eq.mpr c11
        clear c11
        (first | rw [c11b0] | (simp only [i64_w, i32_w]; rw [c11b0]) | skip)
        have H' := Aside0.mk H
        clear H
        go_wp2_with (first | ((with_reducible refine gate_callee (f := 17) rfl ?_); refine goesL_ (some 21) rfl rfl Try.func17 (by kernel_rfl) rfl #[.int .i64 t215] rfl (by (try simp only [List.map_toArray, List.map_cons, List.map_nil]); first | done | rfl | (simp only [List.length_drop, List.length_take]; rfl)) ?_; (with_reducible refine (watchwordlaw0_Num.calls t215 t216 _ A10.out).mono ?_); rintro e w' ⟨rfl, ⟨nd, rfl⟩⟩; refine ⟨_, rfl, ?_⟩))
        go_meet
        case rel => exact ⟨_, (((l0.length : Int) == 0)), (by first | rfl | (simp; done) | (simp [*]; done)), H', ⟨by first | omega | exact Nat.le_refl _⟩, ⟨by repeat (first | (with_reducible first | exact HB.out | apply below_alloc | apply pw_below_drewN | apply below_drew1) | exact HB.out)⟩⟩
      · rw [if_neg c11] at H
        have c11b0 : (t216 == 0) = false := beq_eq_false_iff_ne.mpr c11
        have c11b1 : (t216 != 0) = true := bne_iff_ne.mpr c11
        (first | rw [c11b0] | (simp only [i64_w, i32_w]; rw [c11b0]) | skip)
        have H' := Aside0.mk H
        clear H
        go_wp2_with (first | ((with_reducible refine gate_callee (f := 17) rfl ?_); refine goesL_ (some 21) rfl rfl Try.func17 (by kernel_rfl) rfl #[.int .i64 t215] rfl (by (try simp only [List.map_toArray, List.map_cons, List.map_nil]); first | done | rfl | (simp only [List.length_drop, List.length_take]; rfl)) ?_; (with_reducible refine (watchwordlaw0_Num.calls t215 t216 _ A10.out).mono ?_); rintro e w' ⟨rfl, ⟨nd, rfl⟩⟩; refine ⟨_, rfl, ?_⟩))
        go_meet
        case rel => exact ⟨_, (true), (by first | rfl | (simp; done) | (simp [*]; done)), H', ⟨by first | omega | exact Nat.le_refl _⟩, ⟨by repeat (first | (with_reducible first | exact HB.out | apply below_alloc | apply pw_below_drewN | apply below_drew1) | exact HB.out)⟩⟩
    case rest =>
      clear HC7
      try clear c1
      try clear c2
      try clear p2
      try clear c5
      try clear c6
      try clear c11
      try clear c11b0
      try clear c11b1
      obtain ⟨kq, x27_6, rfl, HA, HJ6, HB⟩ := hcut
      cases kq with
      | zero => exact absurd HA.out (by simp [watchwordlaw11_AckUnlike.j0])
      | succ kj6 =>
        have H := HA.out
        clear HA
        simp only [watchwordlaw11_AckUnlike.j0] at H
        by_cases c12 : x27_6 = true
        · subst c12
          have H1 : ((watchwordlaw0_Num.f t215).bind fun t217 => (if t217 = 0 then (some true) else (some (t214.toList == ([] : List UInt8))))) = some r := by rw [if_pos rfl] at H; exact H
          clear H
          have H := H1
          clear H1
          replace H := Option.bind_eq_some_iff.mp H
          obtain ⟨t217, A130, H⟩ := H
          replace H : (if t217 = 0 then (some true) else (some (t214.toList == ([] : List UInt8)))) = some r := H
          have A13 := Aside0.mk A130
          clear A130
          by_cases c14 : t217 = 0
          · rw [if_pos c14] at H
            have c14b0 : (t217 == 0) = true := beq_iff_eq.mpr c14
            have c14b1 : (t217 != 0) = false := bne_eq_false_iff_eq.mpr c14
            clear c14
            obtain rfl := Option.some.inj H
            go_wp2_with (first | ((with_reducible refine gate_callee (f := 17) rfl ?_); refine goesL_ (some 29) rfl rfl Try.func17 (by kernel_rfl) rfl #[.int .i64 t215] rfl (by (try simp only [List.map_toArray, List.map_cons, List.map_nil]); first | done | rfl | (simp only [List.length_drop, List.length_take]; rfl)) ?_; (with_reducible refine (watchwordlaw0_Num.calls t215 t217 _ A13.out).mono ?_); rintro e w' ⟨rfl, ⟨nd, rfl⟩⟩; refine ⟨_, rfl, ?_⟩))
            go_ret
            exact ⟨by first | rfl | (simp [errW_none, errW_some] <;> rfl) | (simp [*, errW_none, errW_some] <;> rfl), by repeat (first | (with_reducible first | exact HB.out | apply below_alloc | apply pw_below_drewN | apply below_drew1) | exact HB.out)⟩
          · rw [if_neg c14] at H
            have c14b0 : (t217 == 0) = false := beq_eq_false_iff_ne.mpr c14
            have c14b1 : (t217 != 0) = true := bne_iff_ne.mpr c14
            obtain rfl := Option.some.inj H
            go_wp2_with (first | ((with_reducible refine gate_callee (f := 17) rfl ?_); refine goesL_ (some 29) rfl rfl Try.func17 (by kernel_rfl) rfl #[.int .i64 t215] rfl (by (try simp only [List.map_toArray, List.map_cons, List.map_nil]); first | done | rfl | (simp only [List.length_drop, List.length_take]; rfl)) ?_; (with_reducible refine (watchwordlaw0_Num.calls t215 t217 _ A13.out).mono ?_); rintro e w' ⟨rfl, ⟨nd, rfl⟩⟩; refine ⟨_, rfl, ?_⟩))
            go_ret
            exact ⟨by first | rfl | (simp [errW_none, errW_some] <;> rfl) | (simp [*, errW_none, errW_some] <;> rfl), by repeat (first | (with_reducible first | exact HB.out | apply below_alloc | apply pw_below_drewN | apply below_drew1) | exact HB.out)⟩
        · replace c12 := Bool.eq_false_iff.mpr c12
          subst c12
          have H1 : ((some (([] : List (S40)) : List (S40))).bind fun y218 => (if y218.length + l0.length < 4398046511104 then ((some (y218 ++ l0 : List (S40))).bind fun y221 => (if (IntKind.u64.wrap ((y221.length : Int))) = 0 then (none) else (if (Int.tmod (IntKind.u64.wrap (a2)) 3) = 0 then (if 0 ≤ (wrap64 (Int.tmod (IntKind.u64.wrap (a1)) (IntKind.u64.wrap ((y221.length : Int))))) then (if (wrap64 (Int.tmod (IntKind.u64.wrap (a1)) (IntKind.u64.wrap ((y221.length : Int))))) < (y221.length : Int) then ((ack_Put.f kj6 (y221.set ((wrap64 (Int.tmod (IntKind.u64.wrap (a1)) (IntKind.u64.wrap ((y221.length : Int))))) : Int).toNat (⟨(rd_T40 y221 (wrap64 (Int.tmod (IntKind.u64.wrap (a1)) (IntKind.u64.wrap ((y221.length : Int)))))).f0, (rd_T40 y221 (wrap64 (Int.tmod (IntKind.u64.wrap (a1)) (IntKind.u64.wrap ((y221.length : Int)))))).f1, Int.tmod (wrap64 (((rd_T40 y221 (wrap64 (Int.tmod (IntKind.u64.wrap (a1)) (IntKind.u64.wrap ((y221.length : Int)))))).f2) + 1)) 61, (rd_T40 y221 (wrap64 (Int.tmod (IntKind.u64.wrap (a1)) (IntKind.u64.wrap ((y221.length : Int)))))).f3⟩ : S40))).bind fun bt226 => ((watchwordlaw0_Num.f bt226.2).bind fun t228 => (if t228 = 0 then (if t214.toList = bt226.1.toList then (some false) else (some ((t214.size : Int) == (bt226.1.size : Int)))) else (some false)))) else (none)) else (none)) else (if (Int.tmod (IntKind.u64.wrap (a2)) 3) = 1 then (if 0 ≤ (wrap64 (Int.tmod (IntKind.u64.wrap (a1)) (IntKind.u64.wrap ((y221.length : Int))))) then (if (wrap64 (Int.tmod (IntKind.u64.wrap (a1)) (IntKind.u64.wrap ((y221.length : Int))))) < (y221.length : Int) then ((ack_Put.f kj6 (y221.set ((wrap64 (Int.tmod (IntKind.u64.wrap (a1)) (IntKind.u64.wrap ((y221.length : Int))))) : Int).toNat (⟨(rd_T40 y221 (wrap64 (Int.tmod (IntKind.u64.wrap (a1)) (IntKind.u64.wrap ((y221.length : Int)))))).f0, (rd_T40 y221 (wrap64 (Int.tmod (IntKind.u64.wrap (a1)) (IntKind.u64.wrap ((y221.length : Int)))))).f1, (rd_T40 y221 (wrap64 (Int.tmod (IntKind.u64.wrap (a1)) (IntKind.u64.wrap ((y221.length : Int)))))).f2, Int.tmod (wrap64 (((rd_T40 y221 (wrap64 (Int.tmod (IntKind.u64.wrap (a1)) (IntKind.u64.wrap ((y221.length : Int)))))).f3) + 1)) 65536⟩ : S40))).bind fun bt231 => ((watchwordlaw0_Num.f bt231.2).bind fun t233 => (if t233 = 0 then (if t214.toList = bt231.1.toList then (some false) else (some ((t214.size : Int) == (bt231.1.size : Int)))) else (some false)))) else (none)) else (none)) else (if 0 ≤ (wrap64 (Int.tmod (IntKind.u64.wrap (a1)) (IntKind.u64.wrap ((y221.length : Int))))) then (if (wrap64 (Int.tmod (IntKind.u64.wrap (a1)) (IntKind.u64.wrap ((y221.length : Int))))) < (y221.length : Int) then ((ack_Put.f kj6 (y221.set ((wrap64 (Int.tmod (IntKind.u64.wrap (a1)) (IntKind.u64.wrap ((y221.length : Int))))) : Int).toNat (⟨(rd_T40 y221 (wrap64 (Int.tmod (IntKind.u64.wrap (a1)) (IntKind.u64.wrap ((y221.length : Int)))))).f0, wrap64 (1 + (Int.tmod ((rd_T40 y221 (wrap64 (Int.tmod (IntKind.u64.wrap (a1)) (IntKind.u64.wrap ((y221.length : Int)))))).f1) 2147483647)), (rd_T40 y221 (wrap64 (Int.tmod (IntKind.u64.wrap (a1)) (IntKind.u64.wrap ((y221.length : Int)))))).f2, (rd_T40 y221 (wrap64 (Int.tmod (IntKind.u64.wrap (a1)) (IntKind.u64.wrap ((y221.length : Int)))))).f3⟩ : S40))).bind fun bt236 => ((watchwordlaw0_Num.f bt236.2).bind fun t238 => (if t238 = 0 then (if t214.toList = bt236.1.toList then (some false) else (some ((t214.size : Int) == (bt236.1.size : Int)))) else (some false)))) else (none)) else (none)))))) else (none))) = some r := by rw [if_neg (show ¬ (false = true) by decide)] at H; exact H
          clear H
          have H := H1
          clear H1
          obtain ⟨y218, hy218⟩ : ∃ y_ : List (S40), y_ = (([] : List (S40))) := ⟨_, rfl⟩
          replace H : (if y218.length + l0.length < 4398046511104 then ((some (y218 ++ l0 : List (S40))).bind fun y221 => (if (IntKind.u64.wrap ((y221.length : Int))) = 0 then (none) else (if (Int.tmod (IntKind.u64.wrap (a2)) 3) = 0 then (if 0 ≤ (wrap64 (Int.tmod (IntKind.u64.wrap (a1)) (IntKind.u64.wrap ((y221.length : Int))))) then (if (wrap64 (Int.tmod (IntKind.u64.wrap (a1)) (IntKind.u64.wrap ((y221.length : Int))))) < (y221.length : Int) then ((ack_Put.f kj6 (y221.set ((wrap64 (Int.tmod (IntKind.u64.wrap (a1)) (IntKind.u64.wrap ((y221.length : Int))))) : Int).toNat (⟨(rd_T40 y221 (wrap64 (Int.tmod (IntKind.u64.wrap (a1)) (IntKind.u64.wrap ((y221.length : Int)))))).f0, (rd_T40 y221 (wrap64 (Int.tmod (IntKind.u64.wrap (a1)) (IntKind.u64.wrap ((y221.length : Int)))))).f1, Int.tmod (wrap64 (((rd_T40 y221 (wrap64 (Int.tmod (IntKind.u64.wrap (a1)) (IntKind.u64.wrap ((y221.length : Int)))))).f2) + 1)) 61, (rd_T40 y221 (wrap64 (Int.tmod (IntKind.u64.wrap (a1)) (IntKind.u64.wrap ((y221.length : Int)))))).f3⟩ : S40))).bind fun bt226 => ((watchwordlaw0_Num.f bt226.2).bind fun t228 => (if t228 = 0 then (if t214.toList = bt226.1.toList then (some false) else (some ((t214.size : Int) == (bt226.1.size : Int)))) else (some false)))) else (none)) else (none)) else (if (Int.tmod (IntKind.u64.wrap (a2)) 3) = 1 then (if 0 ≤ (wrap64 (Int.tmod (IntKind.u64.wrap (a1)) (IntKind.u64.wrap ((y221.length : Int))))) then (if (wrap64 (Int.tmod (IntKind.u64.wrap (a1)) (IntKind.u64.wrap ((y221.length : Int))))) < (y221.length : Int) then ((ack_Put.f kj6 (y221.set ((wrap64 (Int.tmod (IntKind.u64.wrap (a1)) (IntKind.u64.wrap ((y221.length : Int))))) : Int).toNat (⟨(rd_T40 y221 (wrap64 (Int.tmod (IntKind.u64.wrap (a1)) (IntKind.u64.wrap ((y221.length : Int)))))).f0, (rd_T40 y221 (wrap64 (Int.tmod (IntKind.u64.wrap (a1)) (IntKind.u64.wrap ((y221.length : Int)))))).f1, (rd_T40 y221 (wrap64 (Int.tmod (IntKind.u64.wrap (a1)) (IntKind.u64.wrap ((y221.length : Int)))))).f2, Int.tmod (wrap64 (((rd_T40 y221 (wrap64 (Int.tmod (IntKind.u64.wrap (a1)) (IntKind.u64.wrap ((y221.length : Int)))))).f3) + 1)) 65536⟩ : S40))).bind fun bt231 => ((watchwordlaw0_Num.f bt231.2).bind fun t233 => (if t233 = 0 then (if t214.toList = bt231.1.toList then (some false) else (some ((t214.size : Int) == (bt231.1.size : Int)))) else (some false)))) else (none)) else (none)) else (if 0 ≤ (wrap64 (Int.tmod (IntKind.u64.wrap (a1)) (IntKind.u64.wrap ((y221.length : Int))))) then (if (wrap64 (Int.tmod (IntKind.u64.wrap (a1)) (IntKind.u64.wrap ((y221.length : Int))))) < (y221.length : Int) then ((ack_Put.f kj6 (y221.set ((wrap64 (Int.tmod (IntKind.u64.wrap (a1)) (IntKind.u64.wrap ((y221.length : Int))))) : Int).toNat (⟨(rd_T40 y221 (wrap64 (Int.tmod (IntKind.u64.wrap (a1)) (IntKind.u64.wrap ((y221.length : Int)))))).f0, wrap64 (1 + (Int.tmod ((rd_T40 y221 (wrap64 (Int.tmod (IntKind.u64.wrap (a1)) (IntKind.u64.wrap ((y221.length : Int)))))).f1) 2147483647)), (rd_T40 y221 (wrap64 (Int.tmod (IntKind.u64.wrap (a1)) (IntKind.u64.wrap ((y221.length : Int)))))).f2, (rd_T40 y221 (wrap64 (Int.tmod (IntKind.u64.wrap (a1)) (IntKind.u64.wrap ((y221.length : Int)))))).f3⟩ : S40))).bind fun bt236 => ((watchwordlaw0_Num.f bt236.2).bind fun t238 => (if t238 = 0 then (if t214.toList = bt236.1.toList then (some false) else (some ((t214.size : Int) == (bt236.1.size : Int)))) else (some false)))) else (none)) else (none)))))) else (none)) = some r := by first | (rw [hy218]; with_reducible exact H) | (have H2_ := (Option.bind_some _ _).symm.trans H; rw [hy218]; with_reducible exact H2_) | (have H2_ := (Option.bind_some _ _).symm.trans H; with_reducible exact H2_) | with_reducible exact H | (rw [hy218]; exact H) | exact H
          have Ny218 := Aside0.mk hy218
          clear hy218
          by_cases c15 : y218.length + l0.length < 4398046511104
          · rw [if_pos c15] at H
            have LMc15 := Aside0.mk c15
            clear c15
            obtain ⟨y221, hy221⟩ : ∃ y_ : List (S40), y_ = (y218 ++ l0) := ⟨_, rfl⟩
            replace H : (if (IntKind.u64.wrap ((y221.length : Int))) = 0 then (none) else (if (Int.tmod (IntKind.u64.wrap (a2)) 3) = 0 then (if 0 ≤ (wrap64 (Int.tmod (IntKind.u64.wrap (a1)) (IntKind.u64.wrap ((y221.length : Int))))) then (if (wrap64 (Int.tmod (IntKind.u64.wrap (a1)) (IntKind.u64.wrap ((y221.length : Int))))) < (y221.length : Int) then ((ack_Put.f kj6 (y221.set ((wrap64 (Int.tmod (IntKind.u64.wrap (a1)) (IntKind.u64.wrap ((y221.length : Int))))) : Int).toNat (⟨(rd_T40 y221 (wrap64 (Int.tmod (IntKind.u64.wrap (a1)) (IntKind.u64.wrap ((y221.length : Int)))))).f0, (rd_T40 y221 (wrap64 (Int.tmod (IntKind.u64.wrap (a1)) (IntKind.u64.wrap ((y221.length : Int)))))).f1, Int.tmod (wrap64 (((rd_T40 y221 (wrap64 (Int.tmod (IntKind.u64.wrap (a1)) (IntKind.u64.wrap ((y221.length : Int)))))).f2) + 1)) 61, (rd_T40 y221 (wrap64 (Int.tmod (IntKind.u64.wrap (a1)) (IntKind.u64.wrap ((y221.length : Int)))))).f3⟩ : S40))).bind fun bt226 => ((watchwordlaw0_Num.f bt226.2).bind fun t228 => (if t228 = 0 then (if t214.toList = bt226.1.toList then (some false) else (some ((t214.size : Int) == (bt226.1.size : Int)))) else (some false)))) else (none)) else (none)) else (if (Int.tmod (IntKind.u64.wrap (a2)) 3) = 1 then (if 0 ≤ (wrap64 (Int.tmod (IntKind.u64.wrap (a1)) (IntKind.u64.wrap ((y221.length : Int))))) then (if (wrap64 (Int.tmod (IntKind.u64.wrap (a1)) (IntKind.u64.wrap ((y221.length : Int))))) < (y221.length : Int) then ((ack_Put.f kj6 (y221.set ((wrap64 (Int.tmod (IntKind.u64.wrap (a1)) (IntKind.u64.wrap ((y221.length : Int))))) : Int).toNat (⟨(rd_T40 y221 (wrap64 (Int.tmod (IntKind.u64.wrap (a1)) (IntKind.u64.wrap ((y221.length : Int)))))).f0, (rd_T40 y221 (wrap64 (Int.tmod (IntKind.u64.wrap (a1)) (IntKind.u64.wrap ((y221.length : Int)))))).f1, (rd_T40 y221 (wrap64 (Int.tmod (IntKind.u64.wrap (a1)) (IntKind.u64.wrap ((y221.length : Int)))))).f2, Int.tmod (wrap64 (((rd_T40 y221 (wrap64 (Int.tmod (IntKind.u64.wrap (a1)) (IntKind.u64.wrap ((y221.length : Int)))))).f3) + 1)) 65536⟩ : S40))).bind fun bt231 => ((watchwordlaw0_Num.f bt231.2).bind fun t233 => (if t233 = 0 then (if t214.toList = bt231.1.toList then (some false) else (some ((t214.size : Int) == (bt231.1.size : Int)))) else (some false)))) else (none)) else (none)) else (if 0 ≤ (wrap64 (Int.tmod (IntKind.u64.wrap (a1)) (IntKind.u64.wrap ((y221.length : Int))))) then (if (wrap64 (Int.tmod (IntKind.u64.wrap (a1)) (IntKind.u64.wrap ((y221.length : Int))))) < (y221.length : Int) then ((ack_Put.f kj6 (y221.set ((wrap64 (Int.tmod (IntKind.u64.wrap (a1)) (IntKind.u64.wrap ((y221.length : Int))))) : Int).toNat (⟨(rd_T40 y221 (wrap64 (Int.tmod (IntKind.u64.wrap (a1)) (IntKind.u64.wrap ((y221.length : Int)))))).f0, wrap64 (1 + (Int.tmod ((rd_T40 y221 (wrap64 (Int.tmod (IntKind.u64.wrap (a1)) (IntKind.u64.wrap ((y221.length : Int)))))).f1) 2147483647)), (rd_T40 y221 (wrap64 (Int.tmod (IntKind.u64.wrap (a1)) (IntKind.u64.wrap ((y221.length : Int)))))).f2, (rd_T40 y221 (wrap64 (Int.tmod (IntKind.u64.wrap (a1)) (IntKind.u64.wrap ((y221.length : Int)))))).f3⟩ : S40))).bind fun bt236 => ((watchwordlaw0_Num.f bt236.2).bind fun t238 => (if t238 = 0 then (if t214.toList = bt236.1.toList then (some false) else (some ((t214.size : Int) == (bt236.1.size : Int)))) else (some false)))) else (none)) else (none))))) = some r := by first | (rw [hy221]; with_reducible exact H) | (have H2_ := (Option.bind_some _ _).symm.trans H; rw [hy221]; with_reducible exact H2_) | (have H2_ := (Option.bind_some _ _).symm.trans H; with_reducible exact H2_) | with_reducible exact H | (rw [hy221]; exact H) | exact H
            have Ny221 := Aside0.mk hy221
            clear hy221
            by_cases c16 : (IntKind.u64.wrap ((y221.length : Int))) = 0
            · rw [if_pos c16] at H
              exact absurd H (by simp)
            · rw [if_neg c16] at H
              have c16b0 : ((IntKind.u64.wrap ((y221.length : Int))) == 0) = false := beq_eq_false_iff_ne.mpr c16
              have c16b1 : ((IntKind.u64.wrap ((y221.length : Int))) != 0) = true := bne_iff_ne.mpr c16
              by_cases c17 : (Int.tmod (IntKind.u64.wrap (a2)) 3) = 0
              · rw [if_pos c17] at H
                have c17b0 : ((Int.tmod (IntKind.u64.wrap (a2)) 3) == 0) = true := beq_iff_eq.mpr c17
                have c17b1 : ((Int.tmod (IntKind.u64.wrap (a2)) 3) != 0) = false := bne_eq_false_iff_eq.mpr c17
                clear c17
                obtain ⟨ji18, hji18⟩ : ∃ j_ : Int, (wrap64 (Int.tmod (IntKind.u64.wrap (a1)) (IntKind.u64.wrap ((y221.length : Int))))) = j_ := ⟨_, rfl⟩
                replace H : (if 0 ≤ (ji18) then (if (ji18) < (y221.length : Int) then ((ack_Put.f kj6 (y221.set ((ji18) : Int).toNat (⟨(rd_T40 y221 (ji18)).f0, (rd_T40 y221 (ji18)).f1, Int.tmod (wrap64 (((rd_T40 y221 (ji18)).f2) + 1)) 61, (rd_T40 y221 (ji18)).f3⟩ : S40))).bind fun bt226 => ((watchwordlaw0_Num.f bt226.2).bind fun t228 => (if t228 = 0 then (if t214.toList = bt226.1.toList then (some false) else (some ((t214.size : Int) == (bt226.1.size : Int)))) else (some false)))) else (none)) else (none)) = some r := by first | (rw [hji18] at H; exact H) | (simp only [hji18] at H ⊢; exact H)
                have hji18w : (IntKind.i64.wrap (Int.tmod (IntKind.u64.wrap (a1)) (IntKind.u64.wrap ((y221.length : Int))))) = ji18 := (i64_w _).trans hji18
                by_cases c19 : 0 ≤ (ji18)
                · rw [if_pos c19] at H
                  have c19b0 : decide (0 ≤ (ji18)) = true := decide_eq_true c19
                  clear c19
                  by_cases c20 : (ji18) < (y221.length : Int)
                  · rw [if_pos c20] at H
                    have c20b0 : decide ((ji18) < (y221.length : Int)) = true := decide_eq_true c20
                    clear c20
                    obtain ⟨y225, hy225⟩ : ∃ y_ : List (S40), y_ = (y221.set ((ji18) : Int).toNat (⟨(rd_T40 y221 (ji18)).f0, (rd_T40 y221 (ji18)).f1, Int.tmod (wrap64 (((rd_T40 y221 (ji18)).f2) + 1)) 61, (rd_T40 y221 (ji18)).f3⟩ : S40)) := ⟨_, rfl⟩
                    replace H : ((ack_Put.f kj6 y225).bind fun bt226 => ((watchwordlaw0_Num.f bt226.2).bind fun t228 => (if t228 = 0 then (if t214.toList = bt226.1.toList then (some false) else (some ((t214.size : Int) == (bt226.1.size : Int)))) else (some false)))) = some r := by first | (rw [hy225]; with_reducible exact H) | (have H2_ := (Option.bind_some _ _).symm.trans H; rw [hy225]; with_reducible exact H2_) | (have H2_ := (Option.bind_some _ _).symm.trans H; with_reducible exact H2_) | with_reducible exact H | (rw [hy225]; exact H) | exact H
                    have Ny225 := Aside0.mk hy225
                    clear hy225
                    replace H := Option.bind_eq_some_iff.mp H
                    obtain ⟨⟨t226, t227⟩, A220, H⟩ := H
                    replace H : ((watchwordlaw0_Num.f t227).bind fun t228 => (if t228 = 0 then (if t214.toList = t226.toList then (some false) else (some ((t214.size : Int) == (t226.size : Int)))) else (some false))) = some r := H
                    have A22 := Aside0.mk A220
                    clear A220
                    replace H := Option.bind_eq_some_iff.mp H
                    obtain ⟨t228, A230, H⟩ := H
                    replace H : (if t228 = 0 then (if t214.toList = t226.toList then (some false) else (some ((t214.size : Int) == (t226.size : Int)))) else (some false)) = some r := H
                    have A23 := Aside0.mk A230
                    clear A230
                    by_cases c24 : t228 = 0
                    · rw [if_pos c24] at H
                      have c24b0 : (t228 == 0) = true := beq_iff_eq.mpr c24
                      have c24b1 : (t228 != 0) = false := bne_eq_false_iff_eq.mpr c24
                      clear c24
                      by_cases c25 : t214.toList = t226.toList
                      · rw [if_pos c25] at H
                        have c25b0 : (t214.toList == t226.toList) = true := beq_iff_eq.mpr c25
                        have c25b1 : (t214.toList != t226.toList) = false := bne_eq_false_iff_eq.mpr c25
                        clear c25
                        exact absurd (Option.some.inj H) (by rw [HT.out]; decide)
                      · rw [if_neg c25] at H
                        have c25b0 : (t214.toList == t226.toList) = false := beq_eq_false_iff_ne.mpr c25
                        have c25b1 : (t214.toList != t226.toList) = true := bne_iff_ne.mpr c25
                        obtain rfl := Option.some.inj H
                        go_wp2_with (first | ((with_reducible refine gate_dst (N := 35) rfl ?_); (try (refine gate_guard (by rfl) ?_; dsimp only)); refine Kd.R_lit k40 _ 40 ?hg (N := 35) ?hd (xs := ([] : List (S40))) (inner := []) (ok := fun _ => True) (okp := fun _ => True) ?hr ?hp (fun _ hk => hk) trivial (Below.refl _ _) (Nat.le_refl _) (by simp) ?_; (case hd => rfl); (case hg => rfl); (case hr => first | (go_simp; done) | (go_simp; rfl)); (case hp => exact (Reps.none _ _)); intro v219 w26 ho27 hb hg_ hnew_; clear hg_ hnew_; (first | rw [← Ny218.out] at ho27 | (simp only [Int.reduceToNat] at ho27; rw [← Ny218.out] at ho27)); have n0_ := Aside0.mk (Kd.R_lower ho27 (below_size (by repeat (first | (with_reducible first | exact HB.out | apply below_alloc | apply pw_below_drewN | apply below_drew1) | exact HB.out)))); have n1_ := Aside0.mk (below_step (by repeat (first | (with_reducible first | exact HB.out | apply below_alloc | apply pw_below_drewN | apply below_drew1) | exact HB.out)) hb); clear HB; have HO220 := n0_; have HB := n1_; clear n0_ n1_; clear hb ho27) | ((with_reducible refine gate_builtin (b := .append) (xs := #[.tmp 35, .tmp 36]) rfl ?_); (try (refine gate_guard (by rfl) ?_; dsimp only)); at_builtin; refine Kd.R_append_rows k40 (w0 := w) w.heap.size rfl (.tmp 35) (.tmp 36) 22 40 (.agg #[(.int .i64 0), (.int .i64 0), (.int .i64 0), (.int .i64 0)]) 32 rfl Try.underlying22 info40 rfl (by decide) (by omega) v219 y218 l0 _ _ _ (fun _ => True) (fun _ => False) rfl rfl ?aO ?aR (fun _ _ h => h) (fun _ h => h.elim) ?aF ?aB ?aS ?aL ?_; (case aR => repeat (first | exact (Kd.C_below HR0.out HB.out) | (with_reducible refine Kd.C_alloc ?_ _) | (with_reducible refine Kd.C_drewN ?_ _) | (with_reducible refine Kd.C_drew ?_))); (case aB => exact (by repeat (first | (with_reducible first | exact HB.out | apply below_alloc | apply pw_below_drewN | apply below_drew1) | exact HB.out))); (case aF => exact (fun _ _ => trivial)); (case aO => exact (by (with_reducible repeat (first | apply Kd.R_alloc | apply Kd.R_drewN | apply Kd.R_drew)); exact HO220.out)); (case aS => exact (below_size (by repeat (first | (with_reducible first | exact HB.out | apply below_alloc | apply pw_below_drewN | apply below_drew1) | exact HB.out)))); (case aL => have := LMc15.out; omega); intro v222 w28 ho hb hg hat; rw [← Ny221.out] at ho; have n0_ := Aside0.mk (hb); have n1_ := Aside0.mk (ho); clear HB; clear HO220; have HB := n0_; have HO223 := n1_; clear n0_ n1_; clear ho hb hg hat; obtain ⟨Ao29, co29, eo29⟩ := Kd.R_slice HO223.out; subst eo29; have p224 : 0 ≤ ((ji18) : Int) := of_decide_eq_true (by first | (with_reducible assumption) | assumption); have q224 : (ji18) < (y221.length : Int) := of_decide_eq_true (by first | (with_reducible assumption) | assumption); obtain ⟨ad224, e224, hx224_0, hx224_1, hx224_2, hx224_3⟩ := at_T40 (Kd.R_reads' HO223.out).2.2 (ji18) p224 q224; cases e224; replace p224 := eq_true p224; replace q224 := eq_true q224; have p21 : 0 ≤ ((ji18) : Int) := of_decide_eq_true (by first | (with_reducible assumption) | assumption); have q21 : ((ji18) : Int) < ((y221.length : Int) : Int) := of_decide_eq_true (by first | (with_reducible assumption) | assumption); obtain ⟨go21, co21, eo21, gb21, gl21, cl21, HG21⟩ := Kd.R_form HO223.out (by omega); (first | cases eo21 | (injection eo21 with ea_ en_ ec_; (first | subst ea_ | (injection ea_ with ea_; subst ea_)); subst ec_; clear en_)); have GB21 := Aside0.mk gb21; have GG21 := Aside0.mk HG21; clear gb21 gl21 HG21; (first | simp only [add_plain] at hx224_0 | skip); (first | simp only [add_plain] at hx224_1 | skip); (first | simp only [add_plain] at hx224_2 | skip); (first | simp only [add_plain] at hx224_3 | skip); obtain ⟨ce21, hcl21, hM21, hcc21, hfr21⟩ := Kd.R_elem HO223.out z40 ((ji18) : Int) p21 q21; obtain rfl := k40_openM hM21; have hx21_0 : w28.cell? ⟨go21, ((ji18) : Int).toNat * 4, none⟩ = some (.int .i64 ((rd_T40 y221 (ji18)).f0)) := hcc21 0 _ rfl; have hx21_1 : w28.cell? ⟨go21, ((ji18) : Int).toNat * 4 + 1, none⟩ = some (.int .i64 ((rd_T40 y221 (ji18)).f1)) := hcc21 1 _ rfl; have hx21_2 : w28.cell? ⟨go21, ((ji18) : Int).toNat * 4 + 2, none⟩ = some (.int .i64 ((rd_T40 y221 (ji18)).f2)) := hcc21 2 _ rfl; have hx21_3 : w28.cell? ⟨go21, ((ji18) : Int).toNat * 4 + 3, none⟩ = some (.int .i64 ((rd_T40 y221 (ji18)).f3)) := hcc21 3 _ rfl; have hf21_0 : w28.frozen? ⟨go21, ((ji18) : Int).toNat * 4, none⟩ = false := hfr21 0; have hf21_1 : w28.frozen? ⟨go21, ((ji18) : Int).toNat * 4 + 1, none⟩ = false := hfr21 1; have hf21_2 : w28.frozen? ⟨go21, ((ji18) : Int).toNat * 4 + 2, none⟩ = false := hfr21 2; have hf21_3 : w28.frozen? ⟨go21, ((ji18) : Int).toNat * 4 + 3, none⟩ = false := hfr21 3; clear hcl21 hcc21 hfr21 hM21; replace p21 := eq_true p21; replace q21 := eq_true q21; have HX30 := Aside0.mk (show Kd.R k40 40 w28 w.heap.size (fun _ => True) (.slice (some ⟨go21, 0, none⟩) y221.length co29) y221 from (by (with_reducible repeat (first | apply Kd.R_alloc | apply Kd.R_drewN | apply Kd.R_drew)); exact HO223.out)); obtain ⟨ce30, hcl30, hM30, hcc30, hfr30⟩ := Kd.R_elem HX30.out z40 ((ji18) : Int) (of_decide_eq_true (by first | (with_reducible assumption) | assumption)) (by have h_ : ((ji18) : Int) < ((y221.length : Int) : Int) := of_decide_eq_true (by first | (with_reducible assumption) | assumption); first | exact h_ | (have e_ := (Kd.R_reads' HO223.out).1; omega) | simpa using h_); obtain rfl := k40_openM hM30; have HP30 := Kd.R_seg HX30.out ((ji18) : Int) (of_decide_eq_true (by first | (with_reducible assumption) | assumption)) (by have h_ : ((ji18) : Int) < ((y221.length : Int) : Int) := of_decide_eq_true (by first | (with_reducible assumption) | assumption); first | exact h_ | (have e_ := (Kd.R_reads' HO223.out).1; omega) | simpa using h_) (seg := [.int .i64 (Int.tmod (wrap64 (((rd_T40 y221 (ji18)).f2) + 1)) 61)]) (j := 2) hcl30 hcc30 (show 3 ≤ 4 from by decide) (x' := (⟨(rd_T40 y221 (ji18)).f0, (rd_T40 y221 (ji18)).f1, Int.tmod (wrap64 (((rd_T40 y221 (ji18)).f2) + 1)) 61, (rd_T40 y221 (ji18)).f3⟩ : S40)) (k40_mkM _ _ _ (⟨(rd_T40 y221 (ji18)).f0, (rd_T40 y221 (ji18)).f1, Int.tmod (wrap64 (((rd_T40 y221 (ji18)).f2) + 1)) 61, (rd_T40 y221 (ji18)).f3⟩ : S40) ) (fun _ hk => hk); have hx30_2 := hcc30 2 _ rfl; (try simp only [show (k40).sz = 4 from rfl, Nat.mul_one, Nat.add_zero] at hx30_2); have hf30_2 := hfr30 2; (try simp only [show (k40).sz = 4 from rfl, Nat.mul_one, Nat.add_zero] at hf30_2); clear hcl30 hcc30 hfr30 hM30) | ((with_reducible refine gate_store (t := 3) (p := 71) rfl ?_); refine store_event (t := 3) (p := 71) (v := ?vo_w31) (w1 := (w28.setCell ⟨go21, ((ji18) : Int).toNat * 4 + 2, none⟩ (.int .i64 (Int.tmod (wrap64 (((rd_T40 y221 (ji18)).f2) + 1)) 61)))) ?hg ?ho ?hn ?hr ?_; (case ho => rfl); (case hg => rfl); (case hn => rfl); (case hr => first | (go_simp; done) | (go_simp; rfl)); intro w31 hw; have hg : w28.grownBy w31 (some go21) := (by rw [hw]; exact HP30.2); have hp_ : Kd.R k40 40 w31 w.heap.size (fun _ => True) (.slice (some ⟨go21, 0, none⟩) y221.length co29) y225 := (by rw [hw, Ny225.out]; exact HP30.1); clear HP30; have n0_ := Aside0.mk (hp_); have n1_ := Aside0.mk ((by rw [hw]; exact below_set (HB.out) GB21.out : Below w.heap.size w w31)); clear HO223; clear HB; have HO223 := n0_; have HB := n1_; clear n0_ n1_; clear hg hw hp_) | ((with_reducible refine gate_callee (f := 13) rfl ?_); refine goesL_ (some 87) rfl rfl Try.func13 (by kernel_rfl) rfl #[.slice (some ⟨go21, 0, none⟩) y225.length co29] rfl (by (try simp only [List.map_toArray, List.map_cons, List.map_nil]); first | done | (rw [show y225.length = y221.length from (Kd.R_reads' HO223.out).1.symm] <;> rfl) | rfl | (simp only [List.length_drop, List.length_take]; rfl)) ?_; (with_reducible refine (ack_Put.calls kj6 _ _ y225 t226 t227 _ ?side1 ?side2 A22.out).mono ?_); (case side1 => repeat (first | exact (Kd.R_reads' HO223.out).2.2 | (with_reducible refine Kd.C_alloc ?_ _) | (with_reducible refine Kd.C_drewN ?_ _) | (with_reducible refine Kd.C_drew ?_))); (case side2 => rw [show y225.length = y221.length from (Kd.R_reads' HO223.out).1.symm]; exact (Kd.R_reads' HO223.out).2.1); rintro e w32 ⟨rfl, hb⟩; refine ⟨_, rfl, ?_⟩; have n0_ := Aside0.mk (Kd.R_below (by (with_reducible repeat (first | apply Kd.R_alloc | apply Kd.R_drewN | apply Kd.R_drew)); exact HO223.out) hb); have n1_ := Aside0.mk (below_step (by repeat (first | (with_reducible first | exact HB.out | apply below_alloc | apply pw_below_drewN | apply below_drew1) | exact HB.out)) hb); clear HO223; clear HB; have HO223 := n0_; have HB := n1_; clear n0_ n1_; (try clear hb); (try clear hb2); (try clear hk); (try clear hi)) | ((with_reducible refine gate_callee (f := 17) rfl ?_); refine goesL_ (some 91) rfl rfl Try.func17 (by kernel_rfl) rfl #[.int .i64 t227] rfl (by (try simp only [List.map_toArray, List.map_cons, List.map_nil]); first | done | rfl | (simp only [List.length_drop, List.length_take]; rfl)) ?_; (with_reducible refine (watchwordlaw0_Num.calls t227 t228 _ A23.out).mono ?_); rintro e w' ⟨rfl, ⟨nd, rfl⟩⟩; refine ⟨_, rfl, ?_⟩))
                        go_ret
                        exact ⟨by first | rfl | (simp [errW_none, errW_some] <;> rfl) | (simp only [← hji18]; first | rfl | (simp [errW_none, errW_some] <;> rfl)) | (simp [*, errW_none, errW_some] <;> rfl), by repeat (first | (with_reducible first | exact HB.out | apply below_alloc | apply pw_below_drewN | apply below_drew1) | exact HB.out)⟩
                    · rw [if_neg c24] at H
                      have c24b0 : (t228 == 0) = false := beq_eq_false_iff_ne.mpr c24
                      have c24b1 : (t228 != 0) = true := bne_iff_ne.mpr c24
                      exact absurd (Option.some.inj H) (by rw [HT.out]; decide)
                  · rw [if_neg c20] at H
                    exact absurd H (by simp)
                · rw [if_neg c19] at H
                  exact absurd H (by simp)
              · rw [if_neg c17] at H
                have c17b0 : ((Int.tmod (IntKind.u64.wrap (a2)) 3) == 0) = false := beq_eq_false_iff_ne.mpr c17
                have c17b1 : ((Int.tmod (IntKind.u64.wrap (a2)) 3) != 0) = true := bne_iff_ne.mpr c17
                by_cases c33 : (Int.tmod (IntKind.u64.wrap (a2)) 3) = 1
                · rw [if_pos c33] at H
                  have c33b0 : ((Int.tmod (IntKind.u64.wrap (a2)) 3) == 1) = true := beq_iff_eq.mpr c33
                  have c33b1 : ((Int.tmod (IntKind.u64.wrap (a2)) 3) != 1) = false := bne_eq_false_iff_eq.mpr c33
                  clear c33
                  obtain ⟨ji34, hji34⟩ : ∃ j_ : Int, (wrap64 (Int.tmod (IntKind.u64.wrap (a1)) (IntKind.u64.wrap ((y221.length : Int))))) = j_ := ⟨_, rfl⟩
                  replace H : (if 0 ≤ (ji34) then (if (ji34) < (y221.length : Int) then ((ack_Put.f kj6 (y221.set ((ji34) : Int).toNat (⟨(rd_T40 y221 (ji34)).f0, (rd_T40 y221 (ji34)).f1, (rd_T40 y221 (ji34)).f2, Int.tmod (wrap64 (((rd_T40 y221 (ji34)).f3) + 1)) 65536⟩ : S40))).bind fun bt231 => ((watchwordlaw0_Num.f bt231.2).bind fun t233 => (if t233 = 0 then (if t214.toList = bt231.1.toList then (some false) else (some ((t214.size : Int) == (bt231.1.size : Int)))) else (some false)))) else (none)) else (none)) = some r := by first | (rw [hji34] at H; exact H) | (simp only [hji34] at H ⊢; exact H)
                  have hji34w : (IntKind.i64.wrap (Int.tmod (IntKind.u64.wrap (a1)) (IntKind.u64.wrap ((y221.length : Int))))) = ji34 := (i64_w _).trans hji34
                  by_cases c35 : 0 ≤ (ji34)
                  · rw [if_pos c35] at H
                    have c35b0 : decide (0 ≤ (ji34)) = true := decide_eq_true c35
                    clear c35
                    by_cases c36 : (ji34) < (y221.length : Int)
                    · rw [if_pos c36] at H
                      have c36b0 : decide ((ji34) < (y221.length : Int)) = true := decide_eq_true c36
                      clear c36
                      obtain ⟨y230, hy230⟩ : ∃ y_ : List (S40), y_ = (y221.set ((ji34) : Int).toNat (⟨(rd_T40 y221 (ji34)).f0, (rd_T40 y221 (ji34)).f1, (rd_T40 y221 (ji34)).f2, Int.tmod (wrap64 (((rd_T40 y221 (ji34)).f3) + 1)) 65536⟩ : S40)) := ⟨_, rfl⟩
                      replace H : ((ack_Put.f kj6 y230).bind fun bt231 => ((watchwordlaw0_Num.f bt231.2).bind fun t233 => (if t233 = 0 then (if t214.toList = bt231.1.toList then (some false) else (some ((t214.size : Int) == (bt231.1.size : Int)))) else (some false)))) = some r := by first | (rw [hy230]; with_reducible exact H) | (have H2_ := (Option.bind_some _ _).symm.trans H; rw [hy230]; with_reducible exact H2_) | (have H2_ := (Option.bind_some _ _).symm.trans H; with_reducible exact H2_) | with_reducible exact H | (rw [hy230]; exact H) | exact H
                      have Ny230 := Aside0.mk hy230
                      clear hy230
                      replace H := Option.bind_eq_some_iff.mp H
                      obtain ⟨⟨t231, t232⟩, A380, H⟩ := H
                      replace H : ((watchwordlaw0_Num.f t232).bind fun t233 => (if t233 = 0 then (if t214.toList = t231.toList then (some false) else (some ((t214.size : Int) == (t231.size : Int)))) else (some false))) = some r := H
                      have A38 := Aside0.mk A380
                      clear A380
                      replace H := Option.bind_eq_some_iff.mp H
                      obtain ⟨t233, A390, H⟩ := H
                      replace H : (if t233 = 0 then (if t214.toList = t231.toList then (some false) else (some ((t214.size : Int) == (t231.size : Int)))) else (some false)) = some r := H
                      have A39 := Aside0.mk A390
                      clear A390
                      by_cases c40 : t233 = 0
                      · rw [if_pos c40] at H
                        have c40b0 : (t233 == 0) = true := beq_iff_eq.mpr c40
                        have c40b1 : (t233 != 0) = false := bne_eq_false_iff_eq.mpr c40
                        clear c40
                        by_cases c41 : t214.toList = t231.toList
                        · rw [if_pos c41] at H
                          have c41b0 : (t214.toList == t231.toList) = true := beq_iff_eq.mpr c41
                          have c41b1 : (t214.toList != t231.toList) = false := bne_eq_false_iff_eq.mpr c41
                          clear c41
                          exact absurd (Option.some.inj H) (by rw [HT.out]; decide)
                        · rw [if_neg c41] at H
                          have c41b0 : (t214.toList == t231.toList) = false := beq_eq_false_iff_ne.mpr c41
                          have c41b1 : (t214.toList != t231.toList) = true := bne_iff_ne.mpr c41
                          obtain rfl := Option.some.inj H
                          go_wp2_with (first | ((with_reducible refine gate_dst (N := 35) rfl ?_); (try (refine gate_guard (by rfl) ?_; dsimp only)); refine Kd.R_lit k40 _ 40 ?hg (N := 35) ?hd (xs := ([] : List (S40))) (inner := []) (ok := fun _ => True) (okp := fun _ => True) ?hr ?hp (fun _ hk => hk) trivial (Below.refl _ _) (Nat.le_refl _) (by simp) ?_; (case hd => rfl); (case hg => rfl); (case hr => first | (go_simp; done) | (go_simp; rfl)); (case hp => exact (Reps.none _ _)); intro v219 w42 ho43 hb hg_ hnew_; clear hg_ hnew_; (first | rw [← Ny218.out] at ho43 | (simp only [Int.reduceToNat] at ho43; rw [← Ny218.out] at ho43)); have n0_ := Aside0.mk (Kd.R_lower ho43 (below_size (by repeat (first | (with_reducible first | exact HB.out | apply below_alloc | apply pw_below_drewN | apply below_drew1) | exact HB.out)))); have n1_ := Aside0.mk (below_step (by repeat (first | (with_reducible first | exact HB.out | apply below_alloc | apply pw_below_drewN | apply below_drew1) | exact HB.out)) hb); clear HB; have HO220 := n0_; have HB := n1_; clear n0_ n1_; clear hb ho43) | ((with_reducible refine gate_builtin (b := .append) (xs := #[.tmp 35, .tmp 36]) rfl ?_); (try (refine gate_guard (by rfl) ?_; dsimp only)); at_builtin; refine Kd.R_append_rows k40 (w0 := w) w.heap.size rfl (.tmp 35) (.tmp 36) 22 40 (.agg #[(.int .i64 0), (.int .i64 0), (.int .i64 0), (.int .i64 0)]) 32 rfl Try.underlying22 info40 rfl (by decide) (by omega) v219 y218 l0 _ _ _ (fun _ => True) (fun _ => False) rfl rfl ?aO ?aR (fun _ _ h => h) (fun _ h => h.elim) ?aF ?aB ?aS ?aL ?_; (case aR => repeat (first | exact (Kd.C_below HR0.out HB.out) | (with_reducible refine Kd.C_alloc ?_ _) | (with_reducible refine Kd.C_drewN ?_ _) | (with_reducible refine Kd.C_drew ?_))); (case aB => exact (by repeat (first | (with_reducible first | exact HB.out | apply below_alloc | apply pw_below_drewN | apply below_drew1) | exact HB.out))); (case aF => exact (fun _ _ => trivial)); (case aO => exact (by (with_reducible repeat (first | apply Kd.R_alloc | apply Kd.R_drewN | apply Kd.R_drew)); exact HO220.out)); (case aS => exact (below_size (by repeat (first | (with_reducible first | exact HB.out | apply below_alloc | apply pw_below_drewN | apply below_drew1) | exact HB.out)))); (case aL => have := LMc15.out; omega); intro v222 w44 ho hb hg hat; rw [← Ny221.out] at ho; have n0_ := Aside0.mk (hb); have n1_ := Aside0.mk (ho); clear HB; clear HO220; have HB := n0_; have HO223 := n1_; clear n0_ n1_; clear ho hb hg hat; obtain ⟨Ao45, co45, eo45⟩ := Kd.R_slice HO223.out; subst eo45; have p229 : 0 ≤ ((ji34) : Int) := of_decide_eq_true (by first | (with_reducible assumption) | assumption); have q229 : (ji34) < (y221.length : Int) := of_decide_eq_true (by first | (with_reducible assumption) | assumption); obtain ⟨ad229, e229, hx229_0, hx229_1, hx229_2, hx229_3⟩ := at_T40 (Kd.R_reads' HO223.out).2.2 (ji34) p229 q229; cases e229; replace p229 := eq_true p229; replace q229 := eq_true q229; have p37 : 0 ≤ ((ji34) : Int) := of_decide_eq_true (by first | (with_reducible assumption) | assumption); have q37 : ((ji34) : Int) < ((y221.length : Int) : Int) := of_decide_eq_true (by first | (with_reducible assumption) | assumption); obtain ⟨go37, co37, eo37, gb37, gl37, cl37, HG37⟩ := Kd.R_form HO223.out (by omega); (first | cases eo37 | (injection eo37 with ea_ en_ ec_; (first | subst ea_ | (injection ea_ with ea_; subst ea_)); subst ec_; clear en_)); have GB37 := Aside0.mk gb37; have GG37 := Aside0.mk HG37; clear gb37 gl37 HG37; (first | simp only [add_plain] at hx229_0 | skip); (first | simp only [add_plain] at hx229_1 | skip); (first | simp only [add_plain] at hx229_2 | skip); (first | simp only [add_plain] at hx229_3 | skip); obtain ⟨ce37, hcl37, hM37, hcc37, hfr37⟩ := Kd.R_elem HO223.out z40 ((ji34) : Int) p37 q37; obtain rfl := k40_openM hM37; have hx37_0 : w44.cell? ⟨go37, ((ji34) : Int).toNat * 4, none⟩ = some (.int .i64 ((rd_T40 y221 (ji34)).f0)) := hcc37 0 _ rfl; have hx37_1 : w44.cell? ⟨go37, ((ji34) : Int).toNat * 4 + 1, none⟩ = some (.int .i64 ((rd_T40 y221 (ji34)).f1)) := hcc37 1 _ rfl; have hx37_2 : w44.cell? ⟨go37, ((ji34) : Int).toNat * 4 + 2, none⟩ = some (.int .i64 ((rd_T40 y221 (ji34)).f2)) := hcc37 2 _ rfl; have hx37_3 : w44.cell? ⟨go37, ((ji34) : Int).toNat * 4 + 3, none⟩ = some (.int .i64 ((rd_T40 y221 (ji34)).f3)) := hcc37 3 _ rfl; have hf37_0 : w44.frozen? ⟨go37, ((ji34) : Int).toNat * 4, none⟩ = false := hfr37 0; have hf37_1 : w44.frozen? ⟨go37, ((ji34) : Int).toNat * 4 + 1, none⟩ = false := hfr37 1; have hf37_2 : w44.frozen? ⟨go37, ((ji34) : Int).toNat * 4 + 2, none⟩ = false := hfr37 2; have hf37_3 : w44.frozen? ⟨go37, ((ji34) : Int).toNat * 4 + 3, none⟩ = false := hfr37 3; clear hcl37 hcc37 hfr37 hM37; replace p37 := eq_true p37; replace q37 := eq_true q37; have HX46 := Aside0.mk (show Kd.R k40 40 w44 w.heap.size (fun _ => True) (.slice (some ⟨go37, 0, none⟩) y221.length co45) y221 from (by (with_reducible repeat (first | apply Kd.R_alloc | apply Kd.R_drewN | apply Kd.R_drew)); exact HO223.out)); obtain ⟨ce46, hcl46, hM46, hcc46, hfr46⟩ := Kd.R_elem HX46.out z40 ((ji34) : Int) (of_decide_eq_true (by first | (with_reducible assumption) | assumption)) (by have h_ : ((ji34) : Int) < ((y221.length : Int) : Int) := of_decide_eq_true (by first | (with_reducible assumption) | assumption); first | exact h_ | (have e_ := (Kd.R_reads' HO223.out).1; omega) | simpa using h_); obtain rfl := k40_openM hM46; have HP46 := Kd.R_seg HX46.out ((ji34) : Int) (of_decide_eq_true (by first | (with_reducible assumption) | assumption)) (by have h_ : ((ji34) : Int) < ((y221.length : Int) : Int) := of_decide_eq_true (by first | (with_reducible assumption) | assumption); first | exact h_ | (have e_ := (Kd.R_reads' HO223.out).1; omega) | simpa using h_) (seg := [.int .i64 (Int.tmod (wrap64 (((rd_T40 y221 (ji34)).f3) + 1)) 65536)]) (j := 3) hcl46 hcc46 (show 4 ≤ 4 from by decide) (x' := (⟨(rd_T40 y221 (ji34)).f0, (rd_T40 y221 (ji34)).f1, (rd_T40 y221 (ji34)).f2, Int.tmod (wrap64 (((rd_T40 y221 (ji34)).f3) + 1)) 65536⟩ : S40)) (k40_mkM _ _ _ (⟨(rd_T40 y221 (ji34)).f0, (rd_T40 y221 (ji34)).f1, (rd_T40 y221 (ji34)).f2, Int.tmod (wrap64 (((rd_T40 y221 (ji34)).f3) + 1)) 65536⟩ : S40) ) (fun _ hk => hk); have hx46_3 := hcc46 3 _ rfl; (try simp only [show (k40).sz = 4 from rfl, Nat.mul_one, Nat.add_zero] at hx46_3); have hf46_3 := hfr46 3; (try simp only [show (k40).sz = 4 from rfl, Nat.mul_one, Nat.add_zero] at hf46_3); clear hcl46 hcc46 hfr46 hM46) | ((with_reducible refine gate_store (t := 3) (p := 84) rfl ?_); refine store_event (t := 3) (p := 84) (v := ?vo_w47) (w1 := (w44.setCell ⟨go37, ((ji34) : Int).toNat * 4 + 3, none⟩ (.int .i64 (Int.tmod (wrap64 (((rd_T40 y221 (ji34)).f3) + 1)) 65536)))) ?hg ?ho ?hn ?hr ?_; (case ho => rfl); (case hg => rfl); (case hn => rfl); (case hr => first | (go_simp; done) | (go_simp; rfl)); intro w47 hw; have hg : w44.grownBy w47 (some go37) := (by rw [hw]; exact HP46.2); have hp_ : Kd.R k40 40 w47 w.heap.size (fun _ => True) (.slice (some ⟨go37, 0, none⟩) y221.length co45) y230 := (by rw [hw, Ny230.out]; exact HP46.1); clear HP46; have n0_ := Aside0.mk (hp_); have n1_ := Aside0.mk ((by rw [hw]; exact below_set (HB.out) GB37.out : Below w.heap.size w w47)); clear HO223; clear HB; have HO223 := n0_; have HB := n1_; clear n0_ n1_; clear hg hw hp_) | ((with_reducible refine gate_callee (f := 13) rfl ?_); refine goesL_ (some 87) rfl rfl Try.func13 (by kernel_rfl) rfl #[.slice (some ⟨go37, 0, none⟩) y230.length co45] rfl (by (try simp only [List.map_toArray, List.map_cons, List.map_nil]); first | done | (rw [show y230.length = y221.length from (Kd.R_reads' HO223.out).1.symm] <;> rfl) | rfl | (simp only [List.length_drop, List.length_take]; rfl)) ?_; (with_reducible refine (ack_Put.calls kj6 _ _ y230 t231 t232 _ ?side1 ?side2 A38.out).mono ?_); (case side1 => repeat (first | exact (Kd.R_reads' HO223.out).2.2 | (with_reducible refine Kd.C_alloc ?_ _) | (with_reducible refine Kd.C_drewN ?_ _) | (with_reducible refine Kd.C_drew ?_))); (case side2 => rw [show y230.length = y221.length from (Kd.R_reads' HO223.out).1.symm]; exact (Kd.R_reads' HO223.out).2.1); rintro e w48 ⟨rfl, hb⟩; refine ⟨_, rfl, ?_⟩; have n0_ := Aside0.mk (Kd.R_below (by (with_reducible repeat (first | apply Kd.R_alloc | apply Kd.R_drewN | apply Kd.R_drew)); exact HO223.out) hb); have n1_ := Aside0.mk (below_step (by repeat (first | (with_reducible first | exact HB.out | apply below_alloc | apply pw_below_drewN | apply below_drew1) | exact HB.out)) hb); clear HO223; clear HB; have HO223 := n0_; have HB := n1_; clear n0_ n1_; (try clear hb); (try clear hb2); (try clear hk); (try clear hi)) | ((with_reducible refine gate_callee (f := 17) rfl ?_); refine goesL_ (some 91) rfl rfl Try.func17 (by kernel_rfl) rfl #[.int .i64 t232] rfl (by (try simp only [List.map_toArray, List.map_cons, List.map_nil]); first | done | rfl | (simp only [List.length_drop, List.length_take]; rfl)) ?_; (with_reducible refine (watchwordlaw0_Num.calls t232 t233 _ A39.out).mono ?_); rintro e w' ⟨rfl, ⟨nd, rfl⟩⟩; refine ⟨_, rfl, ?_⟩))
                          go_ret
                          exact ⟨by first | rfl | (simp [errW_none, errW_some] <;> rfl) | (simp only [← hji34]; first | rfl | (simp [errW_none, errW_some] <;> rfl)) | (simp [*, errW_none, errW_some] <;> rfl), by repeat (first | (with_reducible first | exact HB.out | apply below_alloc | apply pw_below_drewN | apply below_drew1) | exact HB.out)⟩
                      · rw [if_neg c40] at H
                        have c40b0 : (t233 == 0) = false := beq_eq_false_iff_ne.mpr c40
                        have c40b1 : (t233 != 0) = true := bne_iff_ne.mpr c40
                        exact absurd (Option.some.inj H) (by rw [HT.out]; decide)
                    · rw [if_neg c36] at H
                      exact absurd H (by simp)
                  · rw [if_neg c35] at H
                    exact absurd H (by simp)
                · rw [if_neg c33] at H
                  have c33b0 : ((Int.tmod (IntKind.u64.wrap (a2)) 3) == 1) = false := beq_eq_false_iff_ne.mpr c33
                  have c33b1 : ((Int.tmod (IntKind.u64.wrap (a2)) 3) != 1) = true := bne_iff_ne.mpr c33
                  obtain ⟨ji49, hji49⟩ : ∃ j_ : Int, (wrap64 (Int.tmod (IntKind.u64.wrap (a1)) (IntKind.u64.wrap ((y221.length : Int))))) = j_ := ⟨_, rfl⟩
                  replace H : (if 0 ≤ (ji49) then (if (ji49) < (y221.length : Int) then ((ack_Put.f kj6 (y221.set ((ji49) : Int).toNat (⟨(rd_T40 y221 (ji49)).f0, wrap64 (1 + (Int.tmod ((rd_T40 y221 (ji49)).f1) 2147483647)), (rd_T40 y221 (ji49)).f2, (rd_T40 y221 (ji49)).f3⟩ : S40))).bind fun bt236 => ((watchwordlaw0_Num.f bt236.2).bind fun t238 => (if t238 = 0 then (if t214.toList = bt236.1.toList then (some false) else (some ((t214.size : Int) == (bt236.1.size : Int)))) else (some false)))) else (none)) else (none)) = some r := by first | (rw [hji49] at H; exact H) | (simp only [hji49] at H ⊢; exact H)
                  have hji49w : (IntKind.i64.wrap (Int.tmod (IntKind.u64.wrap (a1)) (IntKind.u64.wrap ((y221.length : Int))))) = ji49 := (i64_w _).trans hji49
                  by_cases c50 : 0 ≤ (ji49)
                  · rw [if_pos c50] at H
                    have c50b0 : decide (0 ≤ (ji49)) = true := decide_eq_true c50
                    clear c50
                    by_cases c51 : (ji49) < (y221.length : Int)
                    · rw [if_pos c51] at H
                      have c51b0 : decide ((ji49) < (y221.length : Int)) = true := decide_eq_true c51
                      clear c51
                      obtain ⟨y235, hy235⟩ : ∃ y_ : List (S40), y_ = (y221.set ((ji49) : Int).toNat (⟨(rd_T40 y221 (ji49)).f0, wrap64 (1 + (Int.tmod ((rd_T40 y221 (ji49)).f1) 2147483647)), (rd_T40 y221 (ji49)).f2, (rd_T40 y221 (ji49)).f3⟩ : S40)) := ⟨_, rfl⟩
                      replace H : ((ack_Put.f kj6 y235).bind fun bt236 => ((watchwordlaw0_Num.f bt236.2).bind fun t238 => (if t238 = 0 then (if t214.toList = bt236.1.toList then (some false) else (some ((t214.size : Int) == (bt236.1.size : Int)))) else (some false)))) = some r := by first | (rw [hy235]; with_reducible exact H) | (have H2_ := (Option.bind_some _ _).symm.trans H; rw [hy235]; with_reducible exact H2_) | (have H2_ := (Option.bind_some _ _).symm.trans H; with_reducible exact H2_) | with_reducible exact H | (rw [hy235]; exact H) | exact H
                      have Ny235 := Aside0.mk hy235
                      clear hy235
                      replace H := Option.bind_eq_some_iff.mp H
                      obtain ⟨⟨t236, t237⟩, A530, H⟩ := H
                      replace H : ((watchwordlaw0_Num.f t237).bind fun t238 => (if t238 = 0 then (if t214.toList = t236.toList then (some false) else (some ((t214.size : Int) == (t236.size : Int)))) else (some false))) = some r := H
                      have A53 := Aside0.mk A530
                      clear A530
                      replace H := Option.bind_eq_some_iff.mp H
                      obtain ⟨t238, A540, H⟩ := H
                      replace H : (if t238 = 0 then (if t214.toList = t236.toList then (some false) else (some ((t214.size : Int) == (t236.size : Int)))) else (some false)) = some r := H
                      have A54 := Aside0.mk A540
                      clear A540
                      by_cases c55 : t238 = 0
                      · rw [if_pos c55] at H
                        have c55b0 : (t238 == 0) = true := beq_iff_eq.mpr c55
                        have c55b1 : (t238 != 0) = false := bne_eq_false_iff_eq.mpr c55
                        clear c55
                        by_cases c56 : t214.toList = t236.toList
                        · rw [if_pos c56] at H
                          have c56b0 : (t214.toList == t236.toList) = true := beq_iff_eq.mpr c56
                          have c56b1 : (t214.toList != t236.toList) = false := bne_eq_false_iff_eq.mpr c56
                          clear c56
                          exact absurd (Option.some.inj H) (by rw [HT.out]; decide)
                        · rw [if_neg c56] at H
                          have c56b0 : (t214.toList == t236.toList) = false := beq_eq_false_iff_ne.mpr c56
                          have c56b1 : (t214.toList != t236.toList) = true := bne_iff_ne.mpr c56
                          obtain rfl := Option.some.inj H
                          go_wp2_with (first | ((with_reducible refine gate_dst (N := 35) rfl ?_); (try (refine gate_guard (by rfl) ?_; dsimp only)); refine Kd.R_lit k40 _ 40 ?hg (N := 35) ?hd (xs := ([] : List (S40))) (inner := []) (ok := fun _ => True) (okp := fun _ => True) ?hr ?hp (fun _ hk => hk) trivial (Below.refl _ _) (Nat.le_refl _) (by simp) ?_; (case hd => rfl); (case hg => rfl); (case hr => first | (go_simp; done) | (go_simp; rfl)); (case hp => exact (Reps.none _ _)); intro v219 w57 ho58 hb hg_ hnew_; clear hg_ hnew_; (first | rw [← Ny218.out] at ho58 | (simp only [Int.reduceToNat] at ho58; rw [← Ny218.out] at ho58)); have n0_ := Aside0.mk (Kd.R_lower ho58 (below_size (by repeat (first | (with_reducible first | exact HB.out | apply below_alloc | apply pw_below_drewN | apply below_drew1) | exact HB.out)))); have n1_ := Aside0.mk (below_step (by repeat (first | (with_reducible first | exact HB.out | apply below_alloc | apply pw_below_drewN | apply below_drew1) | exact HB.out)) hb); clear HB; have HO220 := n0_; have HB := n1_; clear n0_ n1_; clear hb ho58) | ((with_reducible refine gate_builtin (b := .append) (xs := #[.tmp 35, .tmp 36]) rfl ?_); (try (refine gate_guard (by rfl) ?_; dsimp only)); at_builtin; refine Kd.R_append_rows k40 (w0 := w) w.heap.size rfl (.tmp 35) (.tmp 36) 22 40 (.agg #[(.int .i64 0), (.int .i64 0), (.int .i64 0), (.int .i64 0)]) 32 rfl Try.underlying22 info40 rfl (by decide) (by omega) v219 y218 l0 _ _ _ (fun _ => True) (fun _ => False) rfl rfl ?aO ?aR (fun _ _ h => h) (fun _ h => h.elim) ?aF ?aB ?aS ?aL ?_; (case aR => repeat (first | exact (Kd.C_below HR0.out HB.out) | (with_reducible refine Kd.C_alloc ?_ _) | (with_reducible refine Kd.C_drewN ?_ _) | (with_reducible refine Kd.C_drew ?_))); (case aB => exact (by repeat (first | (with_reducible first | exact HB.out | apply below_alloc | apply pw_below_drewN | apply below_drew1) | exact HB.out))); (case aF => exact (fun _ _ => trivial)); (case aO => exact (by (with_reducible repeat (first | apply Kd.R_alloc | apply Kd.R_drewN | apply Kd.R_drew)); exact HO220.out)); (case aS => exact (below_size (by repeat (first | (with_reducible first | exact HB.out | apply below_alloc | apply pw_below_drewN | apply below_drew1) | exact HB.out)))); (case aL => have := LMc15.out; omega); intro v222 w59 ho hb hg hat; rw [← Ny221.out] at ho; have n0_ := Aside0.mk (hb); have n1_ := Aside0.mk (ho); clear HB; clear HO220; have HB := n0_; have HO223 := n1_; clear n0_ n1_; clear ho hb hg hat; obtain ⟨Ao60, co60, eo60⟩ := Kd.R_slice HO223.out; subst eo60; have p234 : 0 ≤ ((ji49) : Int) := of_decide_eq_true (by first | (with_reducible assumption) | assumption); have q234 : (ji49) < (y221.length : Int) := of_decide_eq_true (by first | (with_reducible assumption) | assumption); obtain ⟨ad234, e234, hx234_0, hx234_1, hx234_2, hx234_3⟩ := at_T40 (Kd.R_reads' HO223.out).2.2 (ji49) p234 q234; cases e234; replace p234 := eq_true p234; replace q234 := eq_true q234; have p52 : 0 ≤ ((ji49) : Int) := of_decide_eq_true (by first | (with_reducible assumption) | assumption); have q52 : ((ji49) : Int) < ((y221.length : Int) : Int) := of_decide_eq_true (by first | (with_reducible assumption) | assumption); obtain ⟨go52, co52, eo52, gb52, gl52, cl52, HG52⟩ := Kd.R_form HO223.out (by omega); (first | cases eo52 | (injection eo52 with ea_ en_ ec_; (first | subst ea_ | (injection ea_ with ea_; subst ea_)); subst ec_; clear en_)); have GB52 := Aside0.mk gb52; have GG52 := Aside0.mk HG52; clear gb52 gl52 HG52; (first | simp only [add_plain] at hx234_0 | skip); (first | simp only [add_plain] at hx234_1 | skip); (first | simp only [add_plain] at hx234_2 | skip); (first | simp only [add_plain] at hx234_3 | skip); obtain ⟨ce52, hcl52, hM52, hcc52, hfr52⟩ := Kd.R_elem HO223.out z40 ((ji49) : Int) p52 q52; obtain rfl := k40_openM hM52; have hx52_0 : w59.cell? ⟨go52, ((ji49) : Int).toNat * 4, none⟩ = some (.int .i64 ((rd_T40 y221 (ji49)).f0)) := hcc52 0 _ rfl; have hx52_1 : w59.cell? ⟨go52, ((ji49) : Int).toNat * 4 + 1, none⟩ = some (.int .i64 ((rd_T40 y221 (ji49)).f1)) := hcc52 1 _ rfl; have hx52_2 : w59.cell? ⟨go52, ((ji49) : Int).toNat * 4 + 2, none⟩ = some (.int .i64 ((rd_T40 y221 (ji49)).f2)) := hcc52 2 _ rfl; have hx52_3 : w59.cell? ⟨go52, ((ji49) : Int).toNat * 4 + 3, none⟩ = some (.int .i64 ((rd_T40 y221 (ji49)).f3)) := hcc52 3 _ rfl; have hf52_0 : w59.frozen? ⟨go52, ((ji49) : Int).toNat * 4, none⟩ = false := hfr52 0; have hf52_1 : w59.frozen? ⟨go52, ((ji49) : Int).toNat * 4 + 1, none⟩ = false := hfr52 1; have hf52_2 : w59.frozen? ⟨go52, ((ji49) : Int).toNat * 4 + 2, none⟩ = false := hfr52 2; have hf52_3 : w59.frozen? ⟨go52, ((ji49) : Int).toNat * 4 + 3, none⟩ = false := hfr52 3; clear hcl52 hcc52 hfr52 hM52; replace p52 := eq_true p52; replace q52 := eq_true q52; have HX61 := Aside0.mk (show Kd.R k40 40 w59 w.heap.size (fun _ => True) (.slice (some ⟨go52, 0, none⟩) y221.length co60) y221 from (by (with_reducible repeat (first | apply Kd.R_alloc | apply Kd.R_drewN | apply Kd.R_drew)); exact HO223.out)); obtain ⟨ce61, hcl61, hM61, hcc61, hfr61⟩ := Kd.R_elem HX61.out z40 ((ji49) : Int) (of_decide_eq_true (by first | (with_reducible assumption) | assumption)) (by have h_ : ((ji49) : Int) < ((y221.length : Int) : Int) := of_decide_eq_true (by first | (with_reducible assumption) | assumption); first | exact h_ | (have e_ := (Kd.R_reads' HO223.out).1; omega) | simpa using h_); obtain rfl := k40_openM hM61; have HP61 := Kd.R_seg HX61.out ((ji49) : Int) (of_decide_eq_true (by first | (with_reducible assumption) | assumption)) (by have h_ : ((ji49) : Int) < ((y221.length : Int) : Int) := of_decide_eq_true (by first | (with_reducible assumption) | assumption); first | exact h_ | (have e_ := (Kd.R_reads' HO223.out).1; omega) | simpa using h_) (seg := [.int .i64 (wrap64 (1 + (Int.tmod ((rd_T40 y221 (ji49)).f1) 2147483647)))]) (j := 1) hcl61 hcc61 (show 2 ≤ 4 from by decide) (x' := (⟨(rd_T40 y221 (ji49)).f0, wrap64 (1 + (Int.tmod ((rd_T40 y221 (ji49)).f1) 2147483647)), (rd_T40 y221 (ji49)).f2, (rd_T40 y221 (ji49)).f3⟩ : S40)) (k40_mkM _ _ _ (⟨(rd_T40 y221 (ji49)).f0, wrap64 (1 + (Int.tmod ((rd_T40 y221 (ji49)).f1) 2147483647)), (rd_T40 y221 (ji49)).f2, (rd_T40 y221 (ji49)).f3⟩ : S40) ) (fun _ hk => hk); have hx61_1 := hcc61 1 _ rfl; (try simp only [show (k40).sz = 4 from rfl, Nat.mul_one, Nat.add_zero] at hx61_1); have hf61_1 := hfr61 1; (try simp only [show (k40).sz = 4 from rfl, Nat.mul_one, Nat.add_zero] at hf61_1); clear hcl61 hcc61 hfr61 hM61) | ((with_reducible refine gate_store (t := 3) (p := 58) rfl ?_); refine store_event (t := 3) (p := 58) (v := ?vo_w62) (w1 := (w59.setCell ⟨go52, ((ji49) : Int).toNat * 4 + 1, none⟩ (.int .i64 (wrap64 (1 + (Int.tmod ((rd_T40 y221 (ji49)).f1) 2147483647)))))) ?hg ?ho ?hn ?hr ?_; (case ho => rfl); (case hg => rfl); (case hn => rfl); (case hr => first | (go_simp; done) | (go_simp; rfl)); intro w62 hw; have hg : w59.grownBy w62 (some go52) := (by rw [hw]; exact HP61.2); have hp_ : Kd.R k40 40 w62 w.heap.size (fun _ => True) (.slice (some ⟨go52, 0, none⟩) y221.length co60) y235 := (by rw [hw, Ny235.out]; exact HP61.1); clear HP61; have n0_ := Aside0.mk (hp_); have n1_ := Aside0.mk ((by rw [hw]; exact below_set (HB.out) GB52.out : Below w.heap.size w w62)); clear HO223; clear HB; have HO223 := n0_; have HB := n1_; clear n0_ n1_; clear hg hw hp_) | ((with_reducible refine gate_callee (f := 13) rfl ?_); refine goesL_ (some 87) rfl rfl Try.func13 (by kernel_rfl) rfl #[.slice (some ⟨go52, 0, none⟩) y235.length co60] rfl (by (try simp only [List.map_toArray, List.map_cons, List.map_nil]); first | done | (rw [show y235.length = y221.length from (Kd.R_reads' HO223.out).1.symm] <;> rfl) | rfl | (simp only [List.length_drop, List.length_take]; rfl)) ?_; (with_reducible refine (ack_Put.calls kj6 _ _ y235 t236 t237 _ ?side1 ?side2 A53.out).mono ?_); (case side1 => repeat (first | exact (Kd.R_reads' HO223.out).2.2 | (with_reducible refine Kd.C_alloc ?_ _) | (with_reducible refine Kd.C_drewN ?_ _) | (with_reducible refine Kd.C_drew ?_))); (case side2 => rw [show y235.length = y221.length from (Kd.R_reads' HO223.out).1.symm]; exact (Kd.R_reads' HO223.out).2.1); rintro e w63 ⟨rfl, hb⟩; refine ⟨_, rfl, ?_⟩; have n0_ := Aside0.mk (Kd.R_below (by (with_reducible repeat (first | apply Kd.R_alloc | apply Kd.R_drewN | apply Kd.R_drew)); exact HO223.out) hb); have n1_ := Aside0.mk (below_step (by repeat (first | (with_reducible first | exact HB.out | apply below_alloc | apply pw_below_drewN | apply below_drew1) | exact HB.out)) hb); clear HO223; clear HB; have HO223 := n0_; have HB := n1_; clear n0_ n1_; (try clear hb); (try clear hb2); (try clear hk); (try clear hi)) | ((with_reducible refine gate_callee (f := 17) rfl ?_); refine goesL_ (some 91) rfl rfl Try.func17 (by kernel_rfl) rfl #[.int .i64 t237] rfl (by (try simp only [List.map_toArray, List.map_cons, List.map_nil]); first | done | rfl | (simp only [List.length_drop, List.length_take]; rfl)) ?_; (with_reducible refine (watchwordlaw0_Num.calls t237 t238 _ A54.out).mono ?_); rintro e w' ⟨rfl, ⟨nd, rfl⟩⟩; refine ⟨_, rfl, ?_⟩))
                          go_ret
                          exact ⟨by first | rfl | (simp [errW_none, errW_some] <;> rfl) | (simp only [← hji49]; first | rfl | (simp [errW_none, errW_some] <;> rfl)) | (simp [*, errW_none, errW_some] <;> rfl), by repeat (first | (with_reducible first | exact HB.out | apply below_alloc | apply pw_below_drewN | apply below_drew1) | exact HB.out)⟩
                      · rw [if_neg c55] at H
                        have c55b0 : (t238 == 0) = false := beq_eq_false_iff_ne.mpr c55
                        have c55b1 : (t238 != 0) = true := bne_iff_ne.mpr c55
                        exact absurd (Option.some.inj H) (by rw [HT.out]; decide)
                    · rw [if_neg c51] at H
                      exact absurd H (by simp)
                  · rw [if_neg c50] at H
                    exact absurd H (by simp)
          · rw [if_neg c15] at H
            exact absurd H (by simp)
  · replace c5 := Bool.eq_false_iff.mpr c5
    subst c5
    have H1 : (some false) = some r := by rw [if_neg (show ¬ (false = true) by decide)] at H; exact H
    clear H
    have H := H1
    clear H1
    exact absurd (Option.some.inj H) (by rw [HT.out]; decide)

end Go.Proofs.Ytdmnfmkeifjmlaa.Q11
