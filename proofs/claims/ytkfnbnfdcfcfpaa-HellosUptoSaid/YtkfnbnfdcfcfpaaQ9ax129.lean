/- Written by a program of this session out of the print of the loaded functions: each Go function as a plain function, and that its call comes to it; for a law, the row out of its plain statement. -/
import Derived.Test.YtkfnbnfdcfcfpaaQ9ax0
import Derived.Test.YtkfnbnfdcfcfpaaQ9ax125
namespace Go.Proofs.Ytkfnbnfdcfcfpaa.Q9a
open Go.RowKit Go.Proofs.YtkfnbnfdcfcfpaaW.PrintWords Go.Proofs.YtkfnbnfdcfcfpaaW.PrintLast Go.Proofs.YtkfnbnfdcfcfpaaW.PrintMore
attribute [local go_sem] max2_int min2_int max_two min_two max_three min_three max_four min_four   -- for this text's walks alone
set_option linter.unusedVariables false
set_option linter.unusedSimpArgs false

/-! ### watchwordlaw0_KeptInts: function 29 -/
def watchwordlaw0_KeptInts.f (k : Nat) (l0 : List Int) (l1 : List Int) (l2 : List Int) : Option (Bool) := (watchwordlaw0_SameInts.f k l0 l1).bind fun t155 => (if t155 = true then (if 0 ≤ (l1.length : Int) then (if (l1.length : Int) < (l2.length : Int) then (if (rd l2 (l1.length : Int)) = (-7777) then (if 0 ≤ (wrap64 ((l1.length : Int) + 1)) then (if (wrap64 ((l1.length : Int) + 1)) < (l2.length : Int) then (some ((rd l2 (wrap64 ((l1.length : Int) + 1))) == (-8888))) else (none)) else (none)) else (some false)) else (none)) else (none)) else (some false))
theorem watchwordlaw0_KeptInts.mono : ∀ a0 a1 a2 k, LeO (watchwordlaw0_KeptInts.f k a0 a1 a2) (watchwordlaw0_KeptInts.f (k + 1) a0 a1 a2) := by
  intro a0 a1 a2 k
  unfold watchwordlaw0_KeptInts.f
  repeat' first
      | (with_reducible exact watchwordlaw0_SameInts.mono _ _ _)
      | (with_reducible exact LeO.refl _)
      | (with_reducible exact LeO.none _)
      | (with_reducible refine LeO.ite ?_ ?_)
      | (with_reducible refine LeO.bind ?_ (fun _ => ?_))
      | exact watchwordlaw0_SameInts.mono _ _ _
      | exact LeO.none _
      | refine LeO.ite ?_ ?_
      | refine LeO.bind ?_ (fun _ => ?_)
theorem watchwordlaw0_KeptInts.cut {P : Program} (t e : TypeId) (kh : IntKind) {i : TypeInfo} (ht : P.underlying t = some (.slice e)) (hi : P.info? e = some i) (A : Option Addr) (n c : Nat) (j : Int) (h0 : 0 ≤ j) (hm : j ≤ c) :
    ∀ W : World, (Instr.slice t (.slice A n c) none (some (.int kh j)) none).run P W = .ok (.slice A j.toNat c) W := by
  intro W
  have hel : P.elem t = e := by simp [Program.elem, ht]
  have hu : P.underlying t = some (.slice (P.elem t)) := by rw [hel]; exact ht
  have ha : (A.map fun x => x.add 0) = A := by cases A <;> simp [Addr.add]
  rw [run_slice_h W t A n c hu kh j h0 (by omega), hel]
  simp [sizeOf, typeInfo, hi, sliced, Result.andThen, ha]
set_option maxHeartbeats 8000000 in
set_option maxRecDepth 100000 in
theorem watchwordlaw0_KeptInts.kept (k : Nat) (A0 : Option Addr) (c0 : Nat) (l0 : List Int) (A1 : Option Addr) (c1 : Nat) (l1 : List Int) (A2 : Option Addr) (c2 : Nat) (l2 : List Int) (r : Bool) (w : World) (hr0 : Kd.C (Kd.int .i64) w A0 l0.length l0) (hc0 : l0.length ≤ c0) (hr1 : Kd.C (Kd.int .i64) w A1 l1.length l1) (hc1 : l1.length ≤ c1) (hr2 : Kd.C (Kd.int .i64) w A2 l2.length l2) (hc2 : l2.length ≤ c2) (h : watchwordlaw0_KeptInts.f k l0 l1 l2 = some r) (hA : A2 = A0) (hcc : c2 = c0) (hlen : l2.length = l0.length + 2) (hsz : l0.length ≤ 1000000000000000) :
    Calls Try.prog 29 #[.slice A0 l0.length c0, .slice A1 l1.length c1] w fun e w' => e = .returned (.bool r) ∧ Drawn0 w w' := by
  have HR0 := Aside0.mk hr0
  have HC0 := Aside0.mk hc0
  clear hr0 hc0
  have HR1 := Aside0.mk hr1
  have HC1 := Aside0.mk hc1
  clear hr1 hc1
  have HR2 := Aside0.mk hr2
  have HC2 := Aside0.mk hc2
  clear hr2 hc2
  have H : ((watchwordlaw0_SameInts.f k l0 l1).bind fun t155 => (if t155 = true then (if 0 ≤ (l1.length : Int) then (if (l1.length : Int) < (l2.length : Int) then (if (rd l2 (l1.length : Int)) = (-7777) then (if 0 ≤ (wrap64 ((l1.length : Int) + 1)) then (if (wrap64 ((l1.length : Int) + 1)) < (l2.length : Int) then (some ((rd l2 (wrap64 ((l1.length : Int) + 1))) == (-8888))) else (none)) else (none)) else (some false)) else (none)) else (none)) else (some false))) = some r := h
  clear h
  replace H := Option.bind_eq_some_iff.mp H
  obtain ⟨t155, A40, H⟩ := H
  replace H : (if t155 = true then (if 0 ≤ (l1.length : Int) then (if (l1.length : Int) < (l2.length : Int) then (if (rd l2 (l1.length : Int)) = (-7777) then (if 0 ≤ (wrap64 ((l1.length : Int) + 1)) then (if (wrap64 ((l1.length : Int) + 1)) < (l2.length : Int) then (some ((rd l2 (wrap64 ((l1.length : Int) + 1))) == (-8888))) else (none)) else (none)) else (some false)) else (none)) else (none)) else (some false)) = some r := H
  have A4 := Aside0.mk A40
  clear A40
  by_cases c5 : t155 = true
  · subst c5
    have H1 : (if 0 ≤ (l1.length : Int) then (if (l1.length : Int) < (l2.length : Int) then (if (rd l2 (l1.length : Int)) = (-7777) then (if 0 ≤ (wrap64 ((l1.length : Int) + 1)) then (if (wrap64 ((l1.length : Int) + 1)) < (l2.length : Int) then (some ((rd l2 (wrap64 ((l1.length : Int) + 1))) == (-8888))) else (none)) else (none)) else (some false)) else (none)) else (none)) = some r := by rw [if_pos rfl] at H; exact H
    clear H
    have H := H1
    clear H1
    by_cases c6 : 0 ≤ (l1.length : Int)
    · rw [if_pos c6] at H
      have c6b0 : decide (0 ≤ (l1.length : Int)) = true := decide_eq_true c6
      have c6b1 : decide (0 ≤ l1.length) = true := decide_eq_true (by omega)
      clear c6
      by_cases c7 : (l1.length : Int) < (l2.length : Int)
      · rw [if_pos c7] at H
        have c7b0 : decide ((l1.length : Int) < (l2.length : Int)) = true := decide_eq_true c7
        have c7b1 : decide (l1.length < l2.length) = true := decide_eq_true (Int.ofNat_lt.mp c7)
        clear c7
        by_cases c8 : (rd l2 (l1.length : Int)) = (-7777)
        · rw [if_pos c8] at H
          have c8b0 : ((rd l2 (l1.length : Int)) == (-7777)) = true := beq_iff_eq.mpr c8
          have c8b1 : ((rd l2 (l1.length : Int)) != (-7777)) = false := bne_eq_false_iff_eq.mpr c8
          clear c8
          obtain ⟨ji9, hji9⟩ : ∃ j_ : Int, (wrap64 ((l1.length : Int) + 1)) = j_ := ⟨_, rfl⟩
          replace H : (if 0 ≤ (ji9) then (if (ji9) < (l2.length : Int) then (some ((rd l2 (ji9)) == (-8888))) else (none)) else (none)) = some r := by first | (rw [hji9] at H; exact H) | (simp only [hji9] at H ⊢; exact H)
          (try rw [hji9] at A4)
          have hji9w : (IntKind.i64.wrap ((l1.length : Int) + 1)) = ji9 := (i64_w _).trans hji9
          by_cases c10 : 0 ≤ (ji9)
          · rw [if_pos c10] at H
            have c10b0 : decide (0 ≤ (ji9)) = true := decide_eq_true c10
            clear c10
            by_cases c11 : (ji9) < (l2.length : Int)
            · rw [if_pos c11] at H
              have c11b0 : decide ((ji9) < (l2.length : Int)) = true := decide_eq_true c11
              clear c11
              obtain rfl := Option.some.inj H
              have hwk : wrap64 ((l0.length : Int) + 2) = (l2.length : Int) := by rw [IntWalk.wrap64_in _ ⟨by omega, by omega⟩, hlen]; omega
              have hwk2 : IntKind.i64.wrap ((l0.length : Int) + 2) = (l2.length : Int) := (i64_w _).trans hwk
              obtain ⟨i0k, hi0k, _, _, _⟩ := info_parts info3
              have hcutk : ∀ W : World, (Instr.slice 34 (.slice A0 l0.length c0) none (some (.int .i64 (l2.length : Int))) none).run Try.prog W = .ok (.slice A2 l2.length c2) W := by
                have h_ := watchwordlaw0_KeptInts.cut (P := Try.prog) 34 3 .i64 Try.underlying34 hi0k A0 l0.length c0 (l2.length : Int) (Int.natCast_nonneg _) (by have := HC2.out; rw [hcc] at this; omega)
                rw [Int.toNat_natCast] at h_; rw [hA, hcc]; exact h_
              have hcutk2 : ∀ W : World, (Instr.slice 34 (.slice A0 l0.length c0) none (some (.int .i64 ((l0.length : Int) + 2))) none).run Try.prog W = .ok (.slice A2 l2.length c2) W := by
                rw [show (l0.length : Int) + 2 = (l2.length : Int) by omega]; exact hcutk
              clear hi0k hsz hlen hA hcc
              go_enter Try.func29, Try.ntmps29
              go_wp2_with (first | ((with_reducible refine gate_callee (f := 25) rfl ?_); refine goesL_ (some 13) rfl rfl Try.func25 (by kernel_rfl) rfl #[.slice A0 l0.length c0, .slice A1 l1.length c1] rfl (by (try simp only [List.map_toArray, List.map_cons, List.map_nil]); first | done | rfl | (simp only [List.length_drop, List.length_take]; rfl)) ?_; (with_reducible refine (watchwordlaw0_SameInts.calls k _ _ l0 _ _ l1 true _ ?side1 ?side2 ?side3 ?side4 A4.out).mono ?_); (case side1 => repeat (first | exact HR0.out | (with_reducible refine Kd.C_alloc ?_ _) | (with_reducible refine Kd.C_drewN ?_ _) | (with_reducible refine Kd.C_drew ?_))); (case side2 => exact HC0.out); (case side3 => repeat (first | exact HR1.out | (with_reducible refine Kd.C_alloc ?_ _) | (with_reducible refine Kd.C_drewN ?_ _) | (with_reducible refine Kd.C_drew ?_))); (case side4 => exact HC1.out); rintro e w' ⟨rfl, ⟨nd, rfl⟩⟩; refine ⟨_, rfl, ?_⟩; have p156 : 0 ≤ ((l1.length : Int) : Int) := of_decide_eq_true (by first | (with_reducible assumption) | assumption); have q156 : (l1.length : Int) < (l2.length : Int) := of_decide_eq_true (by first | (with_reducible assumption) | assumption); obtain ⟨ad156, e156, hx156_0⟩ := Kd.at_int HR2.out (l1.length : Int) p156 q156; cases e156; (try simp only [Go.IntWalk.toNatUp] at hx156_0); replace p156 := eq_true p156; replace q156 := eq_true q156; have p157 : 0 ≤ ((ji9) : Int) := of_decide_eq_true (by first | (with_reducible assumption) | assumption); have q157 : (ji9) < (l2.length : Int) := of_decide_eq_true (by first | (with_reducible assumption) | assumption); obtain ⟨ad157, e157, hx157_0⟩ := Kd.at_int HR2.out (ji9) p157 q157; obtain rfl : ad156 = ad157 := (by injection e157); replace p157 := eq_true p157; replace q157 := eq_true q157))
              go_ret
              exact ⟨by first | rfl | (simp; done) | (simp only [← hji9] <;> (first | rfl | simp)) | (simp [*]; done), by repeat (first | exact Drawn0.refl _ | apply Drawn0.step)⟩
            · rw [if_neg c11] at H
              exact absurd H (by simp)
          · rw [if_neg c10] at H
            exact absurd H (by simp)
        · rw [if_neg c8] at H
          have c8b0 : ((rd l2 (l1.length : Int)) == (-7777)) = false := beq_eq_false_iff_ne.mpr c8
          have c8b1 : ((rd l2 (l1.length : Int)) != (-7777)) = true := bne_iff_ne.mpr c8
          obtain rfl := Option.some.inj H
          have hwk : wrap64 ((l0.length : Int) + 2) = (l2.length : Int) := by rw [IntWalk.wrap64_in _ ⟨by omega, by omega⟩, hlen]; omega
          have hwk2 : IntKind.i64.wrap ((l0.length : Int) + 2) = (l2.length : Int) := (i64_w _).trans hwk
          obtain ⟨i0k, hi0k, _, _, _⟩ := info_parts info3
          have hcutk : ∀ W : World, (Instr.slice 34 (.slice A0 l0.length c0) none (some (.int .i64 (l2.length : Int))) none).run Try.prog W = .ok (.slice A2 l2.length c2) W := by
            have h_ := watchwordlaw0_KeptInts.cut (P := Try.prog) 34 3 .i64 Try.underlying34 hi0k A0 l0.length c0 (l2.length : Int) (Int.natCast_nonneg _) (by have := HC2.out; rw [hcc] at this; omega)
            rw [Int.toNat_natCast] at h_; rw [hA, hcc]; exact h_
          have hcutk2 : ∀ W : World, (Instr.slice 34 (.slice A0 l0.length c0) none (some (.int .i64 ((l0.length : Int) + 2))) none).run Try.prog W = .ok (.slice A2 l2.length c2) W := by
            rw [show (l0.length : Int) + 2 = (l2.length : Int) by omega]; exact hcutk
          clear hi0k hsz hlen hA hcc
          go_enter Try.func29, Try.ntmps29
          go_wp2_with (first | ((with_reducible refine gate_callee (f := 25) rfl ?_); refine goesL_ (some 13) rfl rfl Try.func25 (by kernel_rfl) rfl #[.slice A0 l0.length c0, .slice A1 l1.length c1] rfl (by (try simp only [List.map_toArray, List.map_cons, List.map_nil]); first | done | rfl | (simp only [List.length_drop, List.length_take]; rfl)) ?_; (with_reducible refine (watchwordlaw0_SameInts.calls k _ _ l0 _ _ l1 true _ ?side1 ?side2 ?side3 ?side4 A4.out).mono ?_); (case side1 => repeat (first | exact HR0.out | (with_reducible refine Kd.C_alloc ?_ _) | (with_reducible refine Kd.C_drewN ?_ _) | (with_reducible refine Kd.C_drew ?_))); (case side2 => exact HC0.out); (case side3 => repeat (first | exact HR1.out | (with_reducible refine Kd.C_alloc ?_ _) | (with_reducible refine Kd.C_drewN ?_ _) | (with_reducible refine Kd.C_drew ?_))); (case side4 => exact HC1.out); rintro e w' ⟨rfl, ⟨nd, rfl⟩⟩; refine ⟨_, rfl, ?_⟩; have p156 : 0 ≤ ((l1.length : Int) : Int) := of_decide_eq_true (by first | (with_reducible assumption) | assumption); have q156 : (l1.length : Int) < (l2.length : Int) := of_decide_eq_true (by first | (with_reducible assumption) | assumption); obtain ⟨ad156, e156, hx156_0⟩ := Kd.at_int HR2.out (l1.length : Int) p156 q156; cases e156; (try simp only [Go.IntWalk.toNatUp] at hx156_0); replace p156 := eq_true p156; replace q156 := eq_true q156))
          go_ret
          exact ⟨by first | rfl | (simp; done) | (simp [*]; done), by repeat (first | exact Drawn0.refl _ | apply Drawn0.step)⟩
      · rw [if_neg c7] at H
        exact absurd H (by simp)
    · rw [if_neg c6] at H
      exact absurd H (by simp)
  · replace c5 := Bool.eq_false_iff.mpr c5
    subst c5
    have H1 : (some false) = some r := by rw [if_neg (show ¬ (false = true) by decide)] at H; exact H
    clear H
    have H := H1
    clear H1
    obtain rfl := Option.some.inj H
    have hwk : wrap64 ((l0.length : Int) + 2) = (l2.length : Int) := by rw [IntWalk.wrap64_in _ ⟨by omega, by omega⟩, hlen]; omega
    have hwk2 : IntKind.i64.wrap ((l0.length : Int) + 2) = (l2.length : Int) := (i64_w _).trans hwk
    obtain ⟨i0k, hi0k, _, _, _⟩ := info_parts info3
    have hcutk : ∀ W : World, (Instr.slice 34 (.slice A0 l0.length c0) none (some (.int .i64 (l2.length : Int))) none).run Try.prog W = .ok (.slice A2 l2.length c2) W := by
      have h_ := watchwordlaw0_KeptInts.cut (P := Try.prog) 34 3 .i64 Try.underlying34 hi0k A0 l0.length c0 (l2.length : Int) (Int.natCast_nonneg _) (by have := HC2.out; rw [hcc] at this; omega)
      rw [Int.toNat_natCast] at h_; rw [hA, hcc]; exact h_
    have hcutk2 : ∀ W : World, (Instr.slice 34 (.slice A0 l0.length c0) none (some (.int .i64 ((l0.length : Int) + 2))) none).run Try.prog W = .ok (.slice A2 l2.length c2) W := by
      rw [show (l0.length : Int) + 2 = (l2.length : Int) by omega]; exact hcutk
    clear hi0k hsz hlen hA hcc
    go_enter Try.func29, Try.ntmps29
    go_wp2_with (first | ((with_reducible refine gate_callee (f := 25) rfl ?_); refine goesL_ (some 13) rfl rfl Try.func25 (by kernel_rfl) rfl #[.slice A0 l0.length c0, .slice A1 l1.length c1] rfl (by (try simp only [List.map_toArray, List.map_cons, List.map_nil]); first | done | rfl | (simp only [List.length_drop, List.length_take]; rfl)) ?_; (with_reducible refine (watchwordlaw0_SameInts.calls k _ _ l0 _ _ l1 false _ ?side1 ?side2 ?side3 ?side4 A4.out).mono ?_); (case side1 => repeat (first | exact HR0.out | (with_reducible refine Kd.C_alloc ?_ _) | (with_reducible refine Kd.C_drewN ?_ _) | (with_reducible refine Kd.C_drew ?_))); (case side2 => exact HC0.out); (case side3 => repeat (first | exact HR1.out | (with_reducible refine Kd.C_alloc ?_ _) | (with_reducible refine Kd.C_drewN ?_ _) | (with_reducible refine Kd.C_drew ?_))); (case side4 => exact HC1.out); rintro e w' ⟨rfl, ⟨nd, rfl⟩⟩; refine ⟨_, rfl, ?_⟩))
    go_ret
    exact ⟨by first | rfl | (simp; done) | (simp [*]; done), by repeat (first | exact Drawn0.refl _ | apply Drawn0.step)⟩

end Go.Proofs.Ytkfnbnfdcfcfpaa.Q9a
