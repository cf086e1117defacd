/- Written by a program of this session out of the print of the loaded functions: each Go function as a plain function, and that its call comes to it; for a law, the row out of its plain statement. -/
import Derived.Test.YtdmnfmkeifjmlaaQ11ax0
import Derived.Test.YtdmnfmkeifjmlaaQ11ax1
import Derived.Test.YtdmnfmkeifjmlaaQ11ax113
import Derived.Test.YtdmnfmkeifjmlaaQ11ax115
import Derived.Test.YtdmnfmkeifjmlaaQ11ax117
import Derived.Test.YtdmnfmkeifjmlaaQ11ax118
import Derived.Test.YtdmnfmkeifjmlaaQ11ax119
namespace Go.Proofs.Ytdmnfmkeifjmlaa.Q11a
open Go.RowKit Go.Proofs.YtdmnfmkeifjmlaaW.PrintWords Go.Proofs.YtdmnfmkeifjmlaaW.PrintLast Go.Proofs.YtdmnfmkeifjmlaaW.PrintMore
attribute [local go_sem] max2_int min2_int max_two min_two max_three min_three max_four min_four   -- for this text's walks alone
set_option linter.unusedVariables false
set_option linter.unusedSimpArgs false

attribute [local go_sem high] eqA40
/-! ### watchwordlaw11_awake: function 23 -/
def watchwordlaw11_awake.f (k : Nat)  : Option (Bool) := (some (([(⟨2, 258, 3, 513⟩ : S40)] : List (S40)) : List (S40))).bind fun y184 => ((ack_Put.f k y184).bind fun bt187 => ((ack_Get.f k bt187.1).bind fun bt189 => ((ack_Put.f k (([(⟨0, 0, 0, 0⟩ : S40)] : List (S40)))).bind fun bt196 => ((ack_Get.f k (⟨#[]⟩ : ByteArray)).bind fun bt198 => (if bt187.1.toList = ([1, 2, 3, 0, 0, 1, 2, 2, 1] : List UInt8) then ((watchwordlaw0_Num.f bt187.2).bind fun t202 => (if t202 = 0 then ((watchwordlaw0_SameLsaHeads.f k y184 bt189.1).bind fun t203 => (if t203 = true then ((watchwordlaw0_Num.f bt189.2).bind fun t204 => (if t204 = 0 then ((watchwordlaw0_Num.f bt196.2).bind fun t205 => (if t205 = 1100 then ((watchwordlaw0_Num.f bt198.2).bind fun t206 => (if t206 = 1100 then ((ack_May.f k y184).bind fun t207 => (some t207)) else (some false))) else (some false))) else (some false))) else (some false))) else (some false))) else (some false))))))
theorem watchwordlaw11_awake.mono : ∀ k, LeO (watchwordlaw11_awake.f k ) (watchwordlaw11_awake.f (k + 1) ) := by
  intro  k
  unfold watchwordlaw11_awake.f
  repeat' first
      | (with_reducible exact ack_Get.mono _ _)
      | (with_reducible exact ack_May.mono _ _)
      | (with_reducible exact ack_Put.mono _ _)
      | (with_reducible exact watchwordlaw0_SameLsaHeads.mono _ _ _)
      | (with_reducible exact LeO.refl _)
      | (with_reducible exact LeO.none _)
      | (with_reducible refine LeO.ite ?_ ?_)
      | (with_reducible refine LeO.bind ?_ (fun _ => ?_))
      | exact ack_Get.mono _ _
      | exact ack_May.mono _ _
      | exact ack_Put.mono _ _
      | exact watchwordlaw0_SameLsaHeads.mono _ _ _
      | exact LeO.none _
      | refine LeO.ite ?_ ?_
      | refine LeO.bind ?_ (fun _ => ?_)
set_option maxHeartbeats 8000000 in
set_option maxRecDepth 100000 in
theorem watchwordlaw11_awake.calls (k : Nat)  (r : Bool) (w : World) (h : watchwordlaw11_awake.f k  = some r) (hT : r = true) :
    Calls Try.prog 23 #[] w fun e w' => e = .returned (.bool r) ∧ Below w.heap.size w w' := by
  have hu40 := Try.underlying40
  have HB := Aside0.mk (Below.refl w.heap.size w)
  have HT := Aside0.mk hT
  clear hT
  have H : ((some (([(⟨2, 258, 3, 513⟩ : S40)] : List (S40)) : List (S40))).bind fun y184 => ((ack_Put.f k y184).bind fun bt187 => ((ack_Get.f k bt187.1).bind fun bt189 => ((ack_Put.f k (([(⟨0, 0, 0, 0⟩ : S40)] : List (S40)))).bind fun bt196 => ((ack_Get.f k (⟨#[]⟩ : ByteArray)).bind fun bt198 => (if bt187.1.toList = ([1, 2, 3, 0, 0, 1, 2, 2, 1] : List UInt8) then ((watchwordlaw0_Num.f bt187.2).bind fun t202 => (if t202 = 0 then ((watchwordlaw0_SameLsaHeads.f k y184 bt189.1).bind fun t203 => (if t203 = true then ((watchwordlaw0_Num.f bt189.2).bind fun t204 => (if t204 = 0 then ((watchwordlaw0_Num.f bt196.2).bind fun t205 => (if t205 = 1100 then ((watchwordlaw0_Num.f bt198.2).bind fun t206 => (if t206 = 1100 then ((ack_May.f k y184).bind fun t207 => (some t207)) else (some false))) else (some false))) else (some false))) else (some false))) else (some false))) else (some false))))))) = some r := h
  clear h
  obtain ⟨y184, hy184⟩ : ∃ y_ : List (S40), y_ = (([(⟨2, 258, 3, 513⟩ : S40)] : List (S40))) := ⟨_, rfl⟩
  replace H : ((ack_Put.f k y184).bind fun bt187 => ((ack_Get.f k bt187.1).bind fun bt189 => ((ack_Put.f k (([(⟨0, 0, 0, 0⟩ : S40)] : List (S40)))).bind fun bt196 => ((ack_Get.f k (⟨#[]⟩ : ByteArray)).bind fun bt198 => (if bt187.1.toList = ([1, 2, 3, 0, 0, 1, 2, 2, 1] : List UInt8) then ((watchwordlaw0_Num.f bt187.2).bind fun t202 => (if t202 = 0 then ((watchwordlaw0_SameLsaHeads.f k y184 bt189.1).bind fun t203 => (if t203 = true then ((watchwordlaw0_Num.f bt189.2).bind fun t204 => (if t204 = 0 then ((watchwordlaw0_Num.f bt196.2).bind fun t205 => (if t205 = 1100 then ((watchwordlaw0_Num.f bt198.2).bind fun t206 => (if t206 = 1100 then ((ack_May.f k y184).bind fun t207 => (some t207)) else (some false))) else (some false))) else (some false))) else (some false))) else (some false))) else (some false)))))) = some r := by first | (rw [hy184]; with_reducible exact H) | (have H2_ := (Option.bind_some _ _).symm.trans H; rw [hy184]; with_reducible exact H2_) | (have H2_ := (Option.bind_some _ _).symm.trans H; with_reducible exact H2_) | with_reducible exact H | (rw [hy184]; exact H) | exact H
  have Ny184 := Aside0.mk hy184
  clear hy184
  replace H := Option.bind_eq_some_iff.mp H
  obtain ⟨⟨t187, t188⟩, A10, H⟩ := H
  replace H : ((ack_Get.f k t187).bind fun bt189 => ((ack_Put.f k (([(⟨0, 0, 0, 0⟩ : S40)] : List (S40)))).bind fun bt196 => ((ack_Get.f k (⟨#[]⟩ : ByteArray)).bind fun bt198 => (if t187.toList = ([1, 2, 3, 0, 0, 1, 2, 2, 1] : List UInt8) then ((watchwordlaw0_Num.f t188).bind fun t202 => (if t202 = 0 then ((watchwordlaw0_SameLsaHeads.f k y184 bt189.1).bind fun t203 => (if t203 = true then ((watchwordlaw0_Num.f bt189.2).bind fun t204 => (if t204 = 0 then ((watchwordlaw0_Num.f bt196.2).bind fun t205 => (if t205 = 1100 then ((watchwordlaw0_Num.f bt198.2).bind fun t206 => (if t206 = 1100 then ((ack_May.f k y184).bind fun t207 => (some t207)) else (some false))) else (some false))) else (some false))) else (some false))) else (some false))) else (some false))))) = some r := H
  have A1 := Aside0.mk A10
  clear A10
  replace H := Option.bind_eq_some_iff.mp H
  obtain ⟨⟨t189, t190⟩, A20, H⟩ := H
  replace H : ((ack_Put.f k (([(⟨0, 0, 0, 0⟩ : S40)] : List (S40)))).bind fun bt196 => ((ack_Get.f k (⟨#[]⟩ : ByteArray)).bind fun bt198 => (if t187.toList = ([1, 2, 3, 0, 0, 1, 2, 2, 1] : List UInt8) then ((watchwordlaw0_Num.f t188).bind fun t202 => (if t202 = 0 then ((watchwordlaw0_SameLsaHeads.f k y184 t189).bind fun t203 => (if t203 = true then ((watchwordlaw0_Num.f t190).bind fun t204 => (if t204 = 0 then ((watchwordlaw0_Num.f bt196.2).bind fun t205 => (if t205 = 1100 then ((watchwordlaw0_Num.f bt198.2).bind fun t206 => (if t206 = 1100 then ((ack_May.f k y184).bind fun t207 => (some t207)) else (some false))) else (some false))) else (some false))) else (some false))) else (some false))) else (some false)))) = some r := H
  have A2 := Aside0.mk A20
  clear A20
  obtain ⟨y193, hy193⟩ : ∃ y_ : List (S40), y_ = (([(⟨0, 0, 0, 0⟩ : S40)] : List (S40))) := ⟨_, rfl⟩
  replace H : ((ack_Put.f k y193).bind fun bt196 => ((ack_Get.f k (⟨#[]⟩ : ByteArray)).bind fun bt198 => (if t187.toList = ([1, 2, 3, 0, 0, 1, 2, 2, 1] : List UInt8) then ((watchwordlaw0_Num.f t188).bind fun t202 => (if t202 = 0 then ((watchwordlaw0_SameLsaHeads.f k y184 t189).bind fun t203 => (if t203 = true then ((watchwordlaw0_Num.f t190).bind fun t204 => (if t204 = 0 then ((watchwordlaw0_Num.f bt196.2).bind fun t205 => (if t205 = 1100 then ((watchwordlaw0_Num.f bt198.2).bind fun t206 => (if t206 = 1100 then ((ack_May.f k y184).bind fun t207 => (some t207)) else (some false))) else (some false))) else (some false))) else (some false))) else (some false))) else (some false)))) = some r := by first | (rw [hy193]; with_reducible exact H) | (have H2_ := (Option.bind_some _ _).symm.trans H; rw [hy193]; with_reducible exact H2_) | (have H2_ := (Option.bind_some _ _).symm.trans H; with_reducible exact H2_) | with_reducible exact H | (rw [hy193]; exact H) | exact H
  have Ny193 := Aside0.mk hy193
  clear hy193
  replace H := Option.bind_eq_some_iff.mp H
  obtain ⟨⟨t196, t197⟩, A30, H⟩ := H
  replace H : ((ack_Get.f k (⟨#[]⟩ : ByteArray)).bind fun bt198 => (if t187.toList = ([1, 2, 3, 0, 0, 1, 2, 2, 1] : List UInt8) then ((watchwordlaw0_Num.f t188).bind fun t202 => (if t202 = 0 then ((watchwordlaw0_SameLsaHeads.f k y184 t189).bind fun t203 => (if t203 = true then ((watchwordlaw0_Num.f t190).bind fun t204 => (if t204 = 0 then ((watchwordlaw0_Num.f t197).bind fun t205 => (if t205 = 1100 then ((watchwordlaw0_Num.f bt198.2).bind fun t206 => (if t206 = 1100 then ((ack_May.f k y184).bind fun t207 => (some t207)) else (some false))) else (some false))) else (some false))) else (some false))) else (some false))) else (some false))) = some r := H
  have A3 := Aside0.mk A30
  clear A30
  replace H := Option.bind_eq_some_iff.mp H
  obtain ⟨⟨t198, t199⟩, A40, H⟩ := H
  replace H : (if t187.toList = ([1, 2, 3, 0, 0, 1, 2, 2, 1] : List UInt8) then ((watchwordlaw0_Num.f t188).bind fun t202 => (if t202 = 0 then ((watchwordlaw0_SameLsaHeads.f k y184 t189).bind fun t203 => (if t203 = true then ((watchwordlaw0_Num.f t190).bind fun t204 => (if t204 = 0 then ((watchwordlaw0_Num.f t197).bind fun t205 => (if t205 = 1100 then ((watchwordlaw0_Num.f t199).bind fun t206 => (if t206 = 1100 then ((ack_May.f k y184).bind fun t207 => (some t207)) else (some false))) else (some false))) else (some false))) else (some false))) else (some false))) else (some false)) = some r := H
  have A4 := Aside0.mk A40
  clear A40
  by_cases c5 : t187.toList = ([1, 2, 3, 0, 0, 1, 2, 2, 1] : List UInt8)
  · rw [if_pos c5] at H
    have c5b0 : (t187.toList == ([1, 2, 3, 0, 0, 1, 2, 2, 1] : List UInt8)) = true := beq_iff_eq.mpr c5
    have c5b1 : (t187.toList != ([1, 2, 3, 0, 0, 1, 2, 2, 1] : List UInt8)) = false := bne_eq_false_iff_eq.mpr c5
    clear c5
    replace H := Option.bind_eq_some_iff.mp H
    obtain ⟨t202, A60, H⟩ := H
    replace H : (if t202 = 0 then ((watchwordlaw0_SameLsaHeads.f k y184 t189).bind fun t203 => (if t203 = true then ((watchwordlaw0_Num.f t190).bind fun t204 => (if t204 = 0 then ((watchwordlaw0_Num.f t197).bind fun t205 => (if t205 = 1100 then ((watchwordlaw0_Num.f t199).bind fun t206 => (if t206 = 1100 then ((ack_May.f k y184).bind fun t207 => (some t207)) else (some false))) else (some false))) else (some false))) else (some false))) else (some false)) = some r := H
    have A6 := Aside0.mk A60
    clear A60
    by_cases c7 : t202 = 0
    · rw [if_pos c7] at H
      have c7b0 : (t202 == 0) = true := beq_iff_eq.mpr c7
      have c7b1 : (t202 != 0) = false := bne_eq_false_iff_eq.mpr c7
      clear c7
      replace H := Option.bind_eq_some_iff.mp H
      obtain ⟨t203, A80, H⟩ := H
      replace H : (if t203 = true then ((watchwordlaw0_Num.f t190).bind fun t204 => (if t204 = 0 then ((watchwordlaw0_Num.f t197).bind fun t205 => (if t205 = 1100 then ((watchwordlaw0_Num.f t199).bind fun t206 => (if t206 = 1100 then ((ack_May.f k y184).bind fun t207 => (some t207)) else (some false))) else (some false))) else (some false))) else (some false)) = some r := H
      have A8 := Aside0.mk A80
      clear A80
      by_cases c9 : t203 = true
      · subst c9
        have H1 : ((watchwordlaw0_Num.f t190).bind fun t204 => (if t204 = 0 then ((watchwordlaw0_Num.f t197).bind fun t205 => (if t205 = 1100 then ((watchwordlaw0_Num.f t199).bind fun t206 => (if t206 = 1100 then ((ack_May.f k y184).bind fun t207 => (some t207)) else (some false))) else (some false))) else (some false))) = some r := by rw [if_pos rfl] at H; exact H
        clear H
        have H := H1
        clear H1
        replace H := Option.bind_eq_some_iff.mp H
        obtain ⟨t204, A100, H⟩ := H
        replace H : (if t204 = 0 then ((watchwordlaw0_Num.f t197).bind fun t205 => (if t205 = 1100 then ((watchwordlaw0_Num.f t199).bind fun t206 => (if t206 = 1100 then ((ack_May.f k y184).bind fun t207 => (some t207)) else (some false))) else (some false))) else (some false)) = some r := H
        have A10 := Aside0.mk A100
        clear A100
        by_cases c11 : t204 = 0
        · rw [if_pos c11] at H
          have c11b0 : (t204 == 0) = true := beq_iff_eq.mpr c11
          have c11b1 : (t204 != 0) = false := bne_eq_false_iff_eq.mpr c11
          clear c11
          replace H := Option.bind_eq_some_iff.mp H
          obtain ⟨t205, A120, H⟩ := H
          replace H : (if t205 = 1100 then ((watchwordlaw0_Num.f t199).bind fun t206 => (if t206 = 1100 then ((ack_May.f k y184).bind fun t207 => (some t207)) else (some false))) else (some false)) = some r := H
          have A12 := Aside0.mk A120
          clear A120
          by_cases c13 : t205 = 1100
          · rw [if_pos c13] at H
            have c13b0 : (t205 == 1100) = true := beq_iff_eq.mpr c13
            have c13b1 : (t205 != 1100) = false := bne_eq_false_iff_eq.mpr c13
            clear c13
            replace H := Option.bind_eq_some_iff.mp H
            obtain ⟨t206, A140, H⟩ := H
            replace H : (if t206 = 1100 then ((ack_May.f k y184).bind fun t207 => (some t207)) else (some false)) = some r := H
            have A14 := Aside0.mk A140
            clear A140
            by_cases c15 : t206 = 1100
            · rw [if_pos c15] at H
              have c15b0 : (t206 == 1100) = true := beq_iff_eq.mpr c15
              have c15b1 : (t206 != 1100) = false := bne_eq_false_iff_eq.mpr c15
              clear c15
              replace H := Option.bind_eq_some_iff.mp H
              obtain ⟨t207, A160, H⟩ := H
              replace H : (some t207) = some r := H
              have A16 := Aside0.mk A160
              clear A160
              obtain rfl := Option.some.inj H
              go_enter Try.func23, Try.ntmps23
              go_wp2_with (first | ((with_reducible refine gate_dst (N := 11) rfl ?_); refine Kd.R_lit k40 _ 40 ?hg (N := 11) ?hd (xs := ([(⟨2, 258, 3, 513⟩ : S40)] : List (S40))) (inner := [.int .i64 2, .int .i64 258, .int .i64 3, .int .i64 513]) (ok := fun _ => True) (okp := fun _ => True) ?hr ?hp (fun _ hk => hk) trivial (Below.refl _ _) (Nat.le_refl _) (by simp) ?_; (case hd => rfl); (case hg => rfl); (case hr => first | (go_simp; done) | (go_simp; rfl)); (case hp => exact (Reps.c4 (show Kd.M k40 _ _ _ (⟨2, 258, 3, 513⟩ : S40) [.int .i64 2, .int .i64 258, .int .i64 3, .int .i64 513] from (k40_mkM _ _ _ (⟨2, 258, 3, 513⟩ : S40) )) (Reps.none _ _))); intro v185 w17 ho18 hb hg_ hnew_; clear hg_ hnew_; (first | rw [← Ny184.out] at ho18 | (simp only [Int.reduceToNat] at ho18; rw [← Ny184.out] at ho18)); have n0_ := Aside0.mk (Kd.R_lower ho18 (below_size (by repeat (first | (with_reducible first | exact HB.out | apply below_alloc | apply pw_below_drewN | apply below_drew1) | exact HB.out)))); have n1_ := Aside0.mk (below_step (by repeat (first | (with_reducible first | exact HB.out | apply below_alloc | apply pw_below_drewN | apply below_drew1) | exact HB.out)) hb); clear HB; have HO186 := n0_; have HB := n1_; clear n0_ n1_; clear hb ho18; obtain ⟨Ao19, co19, eo19⟩ := Kd.R_slice HO186.out; subst eo19) | ((with_reducible refine gate_callee (f := 13) rfl ?_); refine goesL_ (some 14) rfl rfl Try.func13 (by kernel_rfl) rfl #[.slice Ao19 y184.length co19] rfl (by (try simp only [List.map_toArray, List.map_cons, List.map_nil]); first | done | rfl | (simp only [List.length_drop, List.length_take]; rfl)) ?_; (with_reducible refine (ack_Put.calls k _ _ y184 t187 t188 _ ?side1 ?side2 A1.out).mono ?_); (case side1 => repeat (first | exact (Kd.R_reads' HO186.out).2.2 | (with_reducible refine Kd.C_alloc ?_ _) | (with_reducible refine Kd.C_drewN ?_ _) | (with_reducible refine Kd.C_drew ?_))); (case side2 => exact (Kd.R_reads' HO186.out).2.1); rintro e w20 ⟨rfl, hb⟩; refine ⟨_, rfl, ?_⟩; have n0_ := Aside0.mk (Kd.R_below (by (with_reducible repeat (first | apply Kd.R_alloc | apply Kd.R_drewN | apply Kd.R_drew)); exact HO186.out) hb); have n1_ := Aside0.mk (below_step (by repeat (first | (with_reducible first | exact HB.out | apply below_alloc | apply pw_below_drewN | apply below_drew1) | exact HB.out)) hb); clear HO186; clear HB; have HO186 := n0_; have HB := n1_; clear n0_ n1_; (try clear hb); (try clear hb2); (try clear hk); (try clear hi)) | ((with_reducible refine gate_callee (f := 15) rfl ?_); refine goesL_ (some 19) rfl rfl Try.func15 (by kernel_rfl) rfl #[.string t187] rfl (by (try simp only [List.map_toArray, List.map_cons, List.map_nil]); first | done | rfl | (simp only [List.length_drop, List.length_take]; rfl)) ?_; (with_reducible refine (ack_Get.calls k t187 t189 t190 _ A2.out).mono ?_); rintro e w21 ⟨v191, rfl, ho0, hb⟩; refine ⟨_, rfl, ?_⟩; have n0_ := Aside0.mk (Kd.R_elder' (by (with_reducible repeat (first | apply Kd.R_alloc | apply Kd.R_drewN | apply Kd.R_drew)); exact HO186.out) (Kd.R_base ho0) hb); have n1_ := Aside0.mk (Kd.R_lower (Kd.R_new' ho0 (Kd.R_lt (by (with_reducible repeat (first | apply Kd.R_alloc | apply Kd.R_drewN | apply Kd.R_drew)); exact HO186.out))) (below_size (by repeat (first | (with_reducible first | exact HB.out | apply below_alloc | apply pw_below_drewN | apply below_drew1) | exact HB.out)))); have n2_ := Aside0.mk (below_step (by repeat (first | (with_reducible first | exact HB.out | apply below_alloc | apply pw_below_drewN | apply below_drew1) | exact HB.out)) hb); clear HO186; clear HB; have HO186 := n0_; have HO192 := n1_; have HB := n2_; clear n0_ n1_ n2_; (try clear hb); (try clear hb2); (try clear hk); (try clear hi); (try clear ho0)) | ((with_reducible refine gate_dst (N := 24) rfl ?_); refine Kd.R_lit k40 _ 40 ?hg (N := 24) ?hd (xs := ([(⟨0, 0, 0, 0⟩ : S40)] : List (S40))) (inner := [.int .i64 0, .int .i64 0, .int .i64 0, .int .i64 0]) (ok := fun _ => True) (okp := fun _ => True) ?hr ?hp (fun _ hk => hk) trivial (Below.refl _ _) (Nat.le_refl _) (by simp) ?_; (case hd => rfl); (case hg => rfl); (case hr => first | (go_simp; done) | (go_simp; rfl)); (case hp => exact (Reps.c4 (show Kd.M k40 _ _ _ (⟨0, 0, 0, 0⟩ : S40) [.int .i64 0, .int .i64 0, .int .i64 0, .int .i64 0] from (k40_mkM _ _ _ (⟨0, 0, 0, 0⟩ : S40) )) (Reps.none _ _))); intro v194 w22 ho23 hb hg_ hnew_; clear hg_ hnew_; (first | rw [← Ny193.out] at ho23 | (simp only [Int.reduceToNat] at ho23; rw [← Ny193.out] at ho23)); have n0_ := Aside0.mk (Kd.R_elder' (by (with_reducible repeat (first | apply Kd.R_alloc | apply Kd.R_drewN | apply Kd.R_drew)); exact HO186.out) (Kd.R_base ho23) hb); have n1_ := Aside0.mk (Kd.R_elder' (by (with_reducible repeat (first | apply Kd.R_alloc | apply Kd.R_drewN | apply Kd.R_drew)); exact HO192.out) (Kd.R_base ho23) hb); have n2_ := Aside0.mk (Kd.R_lower (Kd.R_new' (Kd.R_new' ho23 (Kd.R_lt (by (with_reducible repeat (first | apply Kd.R_alloc | apply Kd.R_drewN | apply Kd.R_drew)); exact HO186.out))) (Kd.R_lt (by (with_reducible repeat (first | apply Kd.R_alloc | apply Kd.R_drewN | apply Kd.R_drew)); exact HO192.out))) (below_size (by repeat (first | (with_reducible first | exact HB.out | apply below_alloc | apply pw_below_drewN | apply below_drew1) | exact HB.out)))); have n3_ := Aside0.mk (below_step (by repeat (first | (with_reducible first | exact HB.out | apply below_alloc | apply pw_below_drewN | apply below_drew1) | exact HB.out)) hb); clear HO186; clear HO192; clear HB; have HO186 := n0_; have HO192 := n1_; have HO195 := n2_; have HB := n3_; clear n0_ n1_ n2_ n3_; clear hb ho23; obtain ⟨Ao24, co24, eo24⟩ := Kd.R_slice HO195.out; subst eo24) | ((with_reducible refine gate_callee (f := 13) rfl ?_); refine goesL_ (some 25) rfl rfl Try.func13 (by kernel_rfl) rfl #[.slice Ao24 y193.length co24] rfl (by (try simp only [List.map_toArray, List.map_cons, List.map_nil]); first | done | rfl | (simp only [List.length_drop, List.length_take]; rfl)) ?_; (with_reducible refine (ack_Put.calls k _ _ y193 t196 t197 _ ?side1 ?side2 A3.out).mono ?_); (case side1 => repeat (first | exact (Kd.R_reads' HO195.out).2.2 | (with_reducible refine Kd.C_alloc ?_ _) | (with_reducible refine Kd.C_drewN ?_ _) | (with_reducible refine Kd.C_drew ?_))); (case side2 => exact (Kd.R_reads' HO195.out).2.1); rintro e w25 ⟨rfl, hb⟩; refine ⟨_, rfl, ?_⟩; have n0_ := Aside0.mk (Kd.R_below (by (with_reducible repeat (first | apply Kd.R_alloc | apply Kd.R_drewN | apply Kd.R_drew)); exact HO186.out) hb); have n1_ := Aside0.mk (Kd.R_below (by (with_reducible repeat (first | apply Kd.R_alloc | apply Kd.R_drewN | apply Kd.R_drew)); exact HO192.out) hb); have n2_ := Aside0.mk (Kd.R_below (by (with_reducible repeat (first | apply Kd.R_alloc | apply Kd.R_drewN | apply Kd.R_drew)); exact HO195.out) hb); have n3_ := Aside0.mk (below_step (by repeat (first | (with_reducible first | exact HB.out | apply below_alloc | apply pw_below_drewN | apply below_drew1) | exact HB.out)) hb); clear HO186; clear HO192; clear HO195; clear HB; have HO186 := n0_; have HO192 := n1_; have HO195 := n2_; have HB := n3_; clear n0_ n1_ n2_ n3_; (try clear hb); (try clear hb2); (try clear hk); (try clear hi)) | ((with_reducible refine gate_callee (f := 15) rfl ?_); refine goesL_ (some 29) rfl rfl Try.func15 (by kernel_rfl) rfl #[.string (⟨#[]⟩ : ByteArray)] rfl (by (try simp only [List.map_toArray, List.map_cons, List.map_nil]); first | done | rfl | (simp only [List.length_drop, List.length_take]; rfl)) ?_; (with_reducible refine (ack_Get.calls k (⟨#[]⟩ : ByteArray) t198 t199 _ A4.out).mono ?_); rintro e w26 ⟨v200, rfl, ho0, hb⟩; refine ⟨_, rfl, ?_⟩; have n0_ := Aside0.mk (Kd.R_elder' (by (with_reducible repeat (first | apply Kd.R_alloc | apply Kd.R_drewN | apply Kd.R_drew)); exact HO186.out) (Kd.R_base ho0) hb); have n1_ := Aside0.mk (Kd.R_elder' (by (with_reducible repeat (first | apply Kd.R_alloc | apply Kd.R_drewN | apply Kd.R_drew)); exact HO192.out) (Kd.R_base ho0) hb); have n2_ := Aside0.mk (Kd.R_elder' (by (with_reducible repeat (first | apply Kd.R_alloc | apply Kd.R_drewN | apply Kd.R_drew)); exact HO195.out) (Kd.R_base ho0) hb); have n3_ := Aside0.mk (Kd.R_lower (Kd.R_new' (Kd.R_new' (Kd.R_new' ho0 (Kd.R_lt (by (with_reducible repeat (first | apply Kd.R_alloc | apply Kd.R_drewN | apply Kd.R_drew)); exact HO186.out))) (Kd.R_lt (by (with_reducible repeat (first | apply Kd.R_alloc | apply Kd.R_drewN | apply Kd.R_drew)); exact HO192.out))) (Kd.R_lt (by (with_reducible repeat (first | apply Kd.R_alloc | apply Kd.R_drewN | apply Kd.R_drew)); exact HO195.out))) (below_size (by repeat (first | (with_reducible first | exact HB.out | apply below_alloc | apply pw_below_drewN | apply below_drew1) | exact HB.out)))); have n4_ := Aside0.mk (below_step (by repeat (first | (with_reducible first | exact HB.out | apply below_alloc | apply pw_below_drewN | apply below_drew1) | exact HB.out)) hb); clear HO186; clear HO192; clear HO195; clear HB; have HO186 := n0_; have HO192 := n1_; have HO195 := n2_; have HO201 := n3_; have HB := n4_; clear n0_ n1_ n2_ n3_ n4_; (try clear hb); (try clear hb2); (try clear hk); (try clear hi); (try clear ho0)) | (go_at_call 17; (with_reducible refine (watchwordlaw0_Num.calls t188 t202 _ A6.out).mono ?_); rintro e w' ⟨rfl, ⟨nd, rfl⟩⟩; obtain ⟨Ao27, co27, eo27⟩ := Kd.R_slice HO192.out; subst eo27) | (go_at_call 18; (with_reducible refine (watchwordlaw0_SameLsaHeads.calls k _ _ y184 _ _ t189 true _ ?side1 ?side2 ?side3 ?side4 A8.out).mono ?_); (case side1 => repeat (first | exact (Kd.R_reads' HO186.out).2.2 | (with_reducible refine Kd.C_alloc ?_ _) | (with_reducible refine Kd.C_drewN ?_ _) | (with_reducible refine Kd.C_drew ?_))); (case side2 => exact (Kd.R_reads' HO186.out).2.1); (case side3 => repeat (first | exact (Kd.R_reads' HO192.out).2.2 | (with_reducible refine Kd.C_alloc ?_ _) | (with_reducible refine Kd.C_drewN ?_ _) | (with_reducible refine Kd.C_drew ?_))); (case side4 => exact (Kd.R_reads' HO192.out).2.1); rintro e w' ⟨rfl, ⟨nd, rfl⟩⟩) | (go_at_call 17; (with_reducible refine (watchwordlaw0_Num.calls t190 t204 _ A10.out).mono ?_); rintro e w' ⟨rfl, ⟨nd, rfl⟩⟩) | (go_at_call 17; (with_reducible refine (watchwordlaw0_Num.calls t197 t205 _ A12.out).mono ?_); rintro e w' ⟨rfl, ⟨nd, rfl⟩⟩) | (go_at_call 17; (with_reducible refine (watchwordlaw0_Num.calls t199 t206 _ A14.out).mono ?_); rintro e w' ⟨rfl, ⟨nd, rfl⟩⟩) | (go_at_call 19; (with_reducible refine (ack_May.calls k _ _ y184 t207 _ ?side1 ?side2 A16.out).mono ?_); (case side1 => repeat (first | exact (Kd.R_reads' HO186.out).2.2 | (with_reducible refine Kd.C_alloc ?_ _) | (with_reducible refine Kd.C_drewN ?_ _) | (with_reducible refine Kd.C_drew ?_))); (case side2 => exact (Kd.R_reads' HO186.out).2.1); rintro e w28 ⟨rfl, hb⟩; have n0_ := Aside0.mk (Kd.R_below (by (with_reducible repeat (first | apply Kd.R_alloc | apply Kd.R_drewN | apply Kd.R_drew)); exact HO186.out) hb); have n1_ := Aside0.mk (Kd.R_below (by (with_reducible repeat (first | apply Kd.R_alloc | apply Kd.R_drewN | apply Kd.R_drew)); exact HO192.out) hb); have n2_ := Aside0.mk (Kd.R_below (by (with_reducible repeat (first | apply Kd.R_alloc | apply Kd.R_drewN | apply Kd.R_drew)); exact HO195.out) hb); have n3_ := Aside0.mk (Kd.R_below (by (with_reducible repeat (first | apply Kd.R_alloc | apply Kd.R_drewN | apply Kd.R_drew)); exact HO201.out) hb); have n4_ := Aside0.mk (below_step (by repeat (first | (with_reducible first | exact HB.out | apply below_alloc | apply pw_below_drewN | apply below_drew1) | exact HB.out)) hb); clear HO186; clear HO192; clear HO195; clear HO201; clear HB; have HO186 := n0_; have HO192 := n1_; have HO195 := n2_; have HO201 := n3_; have HB := n4_; clear n0_ n1_ n2_ n3_ n4_; (try clear hb); (try clear hb2); (try clear hk); (try clear hi)))
              go_ret
              exact ⟨by first | rfl | (simp [errW_none, errW_some] <;> rfl) | (simp [*, errW_none, errW_some] <;> rfl), by repeat (first | (with_reducible first | exact HB.out | apply below_alloc | apply pw_below_drewN | apply below_drew1) | exact HB.out)⟩
            · rw [if_neg c15] at H
              have c15b0 : (t206 == 1100) = false := beq_eq_false_iff_ne.mpr c15
              have c15b1 : (t206 != 1100) = true := bne_iff_ne.mpr c15
              exact absurd (Option.some.inj H) (by rw [HT.out]; decide)
          · rw [if_neg c13] at H
            have c13b0 : (t205 == 1100) = false := beq_eq_false_iff_ne.mpr c13
            have c13b1 : (t205 != 1100) = true := bne_iff_ne.mpr c13
            exact absurd (Option.some.inj H) (by rw [HT.out]; decide)
        · rw [if_neg c11] at H
          have c11b0 : (t204 == 0) = false := beq_eq_false_iff_ne.mpr c11
          have c11b1 : (t204 != 0) = true := bne_iff_ne.mpr c11
          exact absurd (Option.some.inj H) (by rw [HT.out]; decide)
      · replace c9 := Bool.eq_false_iff.mpr c9
        subst c9
        have H1 : (some false) = some r := by rw [if_neg (show ¬ (false = true) by decide)] at H; exact H
        clear H
        have H := H1
        clear H1
        exact absurd (Option.some.inj H) (by rw [HT.out]; decide)
    · rw [if_neg c7] at H
      have c7b0 : (t202 == 0) = false := beq_eq_false_iff_ne.mpr c7
      have c7b1 : (t202 != 0) = true := bne_iff_ne.mpr c7
      exact absurd (Option.some.inj H) (by rw [HT.out]; decide)
  · rw [if_neg c5] at H
    have c5b0 : (t187.toList == ([1, 2, 3, 0, 0, 1, 2, 2, 1] : List UInt8)) = false := beq_eq_false_iff_ne.mpr c5
    have c5b1 : (t187.toList != ([1, 2, 3, 0, 0, 1, 2, 2, 1] : List UInt8)) = true := bne_iff_ne.mpr c5
    exact absurd (Option.some.inj H) (by rw [HT.out]; decide)

end Go.Proofs.Ytdmnfmkeifjmlaa.Q11a
