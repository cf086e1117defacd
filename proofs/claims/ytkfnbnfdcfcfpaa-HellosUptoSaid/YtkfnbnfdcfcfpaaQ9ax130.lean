/- Written by a program of this session out of the print of the loaded functions: each Go function as a plain function, and that its call comes to it; for a law, the row out of its plain statement. -/
import Derived.Test.YtkfnbnfdcfcfpaaQ9ax0
import Derived.Test.YtkfnbnfdcfcfpaaQ9ax118
import Derived.Test.YtkfnbnfdcfcfpaaQ9ax121
import Derived.Test.YtkfnbnfdcfcfpaaQ9ax123
import Derived.Test.YtkfnbnfdcfcfpaaQ9ax125
import Derived.Test.YtkfnbnfdcfcfpaaQ9ax126
namespace Go.Proofs.Ytkfnbnfdcfcfpaa.Q9a
open Go.RowKit Go.Proofs.YtkfnbnfdcfcfpaaW.PrintWords Go.Proofs.YtkfnbnfdcfcfpaaW.PrintLast Go.Proofs.YtkfnbnfdcfcfpaaW.PrintMore
attribute [local go_sem] max2_int min2_int max_two min_two max_three min_three max_four min_four   -- for this text's walks alone
set_option linter.unusedVariables false
set_option linter.unusedSimpArgs false

/-! ### watchwordlaw9_awake: function 30 -/
def watchwordlaw9_awake.f (k : Nat)  : Option (Bool) := (hello_Put.f k (([1, 3] : List Int))).bind fun bt161 => ((hello_Get.f k bt161.1).bind fun bt163 => ((hello_Put.f k (([3, 1] : List Int))).bind fun bt170 => ((hello_Get.f k (⟨#[]⟩ : ByteArray)).bind fun bt172 => (if bt161.1.toList = ([2, 1, 3] : List UInt8) then ((watchwordlaw0_Num.f bt161.2).bind fun t176 => (if t176 = 0 then ((watchwordlaw0_SameInts.f k bt163.1 (([1, 3] : List Int))).bind fun t180 => (if t180 = true then ((watchwordlaw0_Num.f bt163.2).bind fun t181 => (if t181 = 0 then ((watchwordlaw0_Num.f bt170.2).bind fun t182 => (if t182 = 900 then ((watchwordlaw0_Num.f bt172.2).bind fun t183 => (if t183 = 900 then ((hello_May.f k bt163.1).bind fun t184 => (some t184)) else (some false))) else (some false))) else (some false))) else (some false))) else (some false))) else (some false)))))
theorem watchwordlaw9_awake.mono : ∀ k, LeO (watchwordlaw9_awake.f k ) (watchwordlaw9_awake.f (k + 1) ) := by
  intro  k
  unfold watchwordlaw9_awake.f
  repeat' first
      | (with_reducible exact hello_Get.mono _ _)
      | (with_reducible exact hello_May.mono _ _)
      | (with_reducible exact hello_Put.mono _ _)
      | (with_reducible exact watchwordlaw0_SameInts.mono _ _ _)
      | (with_reducible exact LeO.refl _)
      | (with_reducible exact LeO.none _)
      | (with_reducible refine LeO.ite ?_ ?_)
      | (with_reducible refine LeO.bind ?_ (fun _ => ?_))
      | exact hello_Get.mono _ _
      | exact hello_May.mono _ _
      | exact hello_Put.mono _ _
      | exact watchwordlaw0_SameInts.mono _ _ _
      | exact LeO.none _
      | refine LeO.ite ?_ ?_
      | refine LeO.bind ?_ (fun _ => ?_)
set_option maxHeartbeats 8000000 in
set_option maxRecDepth 100000 in
theorem watchwordlaw9_awake.calls (k : Nat)  (r : Bool) (w : World) (h : watchwordlaw9_awake.f k  = some r) (hT : r = true) :
    Calls Try.prog 30 #[] w fun e w' => e = .returned (.bool r) ∧ Below w.heap.size w w' := by
  have HB := Aside0.mk (Below.refl w.heap.size w)
  have HT := Aside0.mk hT
  clear hT
  have H : ((hello_Put.f k (([1, 3] : List Int))).bind fun bt161 => ((hello_Get.f k bt161.1).bind fun bt163 => ((hello_Put.f k (([3, 1] : List Int))).bind fun bt170 => ((hello_Get.f k (⟨#[]⟩ : ByteArray)).bind fun bt172 => (if bt161.1.toList = ([2, 1, 3] : List UInt8) then ((watchwordlaw0_Num.f bt161.2).bind fun t176 => (if t176 = 0 then ((watchwordlaw0_SameInts.f k bt163.1 (([1, 3] : List Int))).bind fun t180 => (if t180 = true then ((watchwordlaw0_Num.f bt163.2).bind fun t181 => (if t181 = 0 then ((watchwordlaw0_Num.f bt170.2).bind fun t182 => (if t182 = 900 then ((watchwordlaw0_Num.f bt172.2).bind fun t183 => (if t183 = 900 then ((hello_May.f k bt163.1).bind fun t184 => (some t184)) else (some false))) else (some false))) else (some false))) else (some false))) else (some false))) else (some false)))))) = some r := h
  clear h
  obtain ⟨y158, hy158⟩ : ∃ y_ : List Int, y_ = (([1, 3] : List Int)) := ⟨_, rfl⟩
  replace H : ((hello_Put.f k y158).bind fun bt161 => ((hello_Get.f k bt161.1).bind fun bt163 => ((hello_Put.f k (([3, 1] : List Int))).bind fun bt170 => ((hello_Get.f k (⟨#[]⟩ : ByteArray)).bind fun bt172 => (if bt161.1.toList = ([2, 1, 3] : List UInt8) then ((watchwordlaw0_Num.f bt161.2).bind fun t176 => (if t176 = 0 then ((watchwordlaw0_SameInts.f k bt163.1 (([1, 3] : List Int))).bind fun t180 => (if t180 = true then ((watchwordlaw0_Num.f bt163.2).bind fun t181 => (if t181 = 0 then ((watchwordlaw0_Num.f bt170.2).bind fun t182 => (if t182 = 900 then ((watchwordlaw0_Num.f bt172.2).bind fun t183 => (if t183 = 900 then ((hello_May.f k bt163.1).bind fun t184 => (some t184)) else (some false))) else (some false))) else (some false))) else (some false))) else (some false))) else (some false)))))) = some r := by first | (rw [hy158]; with_reducible exact H) | (have H2_ := (Option.bind_some _ _).symm.trans H; rw [hy158]; with_reducible exact H2_) | (have H2_ := (Option.bind_some _ _).symm.trans H; with_reducible exact H2_) | with_reducible exact H | (rw [hy158]; exact H) | exact H
  have Ny158 := Aside0.mk hy158
  clear hy158
  replace H := Option.bind_eq_some_iff.mp H
  obtain ⟨⟨t161, t162⟩, A10, H⟩ := H
  replace H : ((hello_Get.f k t161).bind fun bt163 => ((hello_Put.f k (([3, 1] : List Int))).bind fun bt170 => ((hello_Get.f k (⟨#[]⟩ : ByteArray)).bind fun bt172 => (if t161.toList = ([2, 1, 3] : List UInt8) then ((watchwordlaw0_Num.f t162).bind fun t176 => (if t176 = 0 then ((watchwordlaw0_SameInts.f k bt163.1 (([1, 3] : List Int))).bind fun t180 => (if t180 = true then ((watchwordlaw0_Num.f bt163.2).bind fun t181 => (if t181 = 0 then ((watchwordlaw0_Num.f bt170.2).bind fun t182 => (if t182 = 900 then ((watchwordlaw0_Num.f bt172.2).bind fun t183 => (if t183 = 900 then ((hello_May.f k bt163.1).bind fun t184 => (some t184)) else (some false))) else (some false))) else (some false))) else (some false))) else (some false))) else (some false))))) = some r := H
  have A1 := Aside0.mk A10
  clear A10
  replace H := Option.bind_eq_some_iff.mp H
  obtain ⟨⟨t163, t164⟩, A20, H⟩ := H
  replace H : ((hello_Put.f k (([3, 1] : List Int))).bind fun bt170 => ((hello_Get.f k (⟨#[]⟩ : ByteArray)).bind fun bt172 => (if t161.toList = ([2, 1, 3] : List UInt8) then ((watchwordlaw0_Num.f t162).bind fun t176 => (if t176 = 0 then ((watchwordlaw0_SameInts.f k t163 (([1, 3] : List Int))).bind fun t180 => (if t180 = true then ((watchwordlaw0_Num.f t164).bind fun t181 => (if t181 = 0 then ((watchwordlaw0_Num.f bt170.2).bind fun t182 => (if t182 = 900 then ((watchwordlaw0_Num.f bt172.2).bind fun t183 => (if t183 = 900 then ((hello_May.f k t163).bind fun t184 => (some t184)) else (some false))) else (some false))) else (some false))) else (some false))) else (some false))) else (some false)))) = some r := H
  have A2 := Aside0.mk A20
  clear A20
  obtain ⟨y167, hy167⟩ : ∃ y_ : List Int, y_ = (([3, 1] : List Int)) := ⟨_, rfl⟩
  replace H : ((hello_Put.f k y167).bind fun bt170 => ((hello_Get.f k (⟨#[]⟩ : ByteArray)).bind fun bt172 => (if t161.toList = ([2, 1, 3] : List UInt8) then ((watchwordlaw0_Num.f t162).bind fun t176 => (if t176 = 0 then ((watchwordlaw0_SameInts.f k t163 (([1, 3] : List Int))).bind fun t180 => (if t180 = true then ((watchwordlaw0_Num.f t164).bind fun t181 => (if t181 = 0 then ((watchwordlaw0_Num.f bt170.2).bind fun t182 => (if t182 = 900 then ((watchwordlaw0_Num.f bt172.2).bind fun t183 => (if t183 = 900 then ((hello_May.f k t163).bind fun t184 => (some t184)) else (some false))) else (some false))) else (some false))) else (some false))) else (some false))) else (some false)))) = some r := by first | (rw [hy167]; with_reducible exact H) | (have H2_ := (Option.bind_some _ _).symm.trans H; rw [hy167]; with_reducible exact H2_) | (have H2_ := (Option.bind_some _ _).symm.trans H; with_reducible exact H2_) | with_reducible exact H | (rw [hy167]; exact H) | exact H
  have Ny167 := Aside0.mk hy167
  clear hy167
  replace H := Option.bind_eq_some_iff.mp H
  obtain ⟨⟨t170, t171⟩, A30, H⟩ := H
  replace H : ((hello_Get.f k (⟨#[]⟩ : ByteArray)).bind fun bt172 => (if t161.toList = ([2, 1, 3] : List UInt8) then ((watchwordlaw0_Num.f t162).bind fun t176 => (if t176 = 0 then ((watchwordlaw0_SameInts.f k t163 (([1, 3] : List Int))).bind fun t180 => (if t180 = true then ((watchwordlaw0_Num.f t164).bind fun t181 => (if t181 = 0 then ((watchwordlaw0_Num.f t171).bind fun t182 => (if t182 = 900 then ((watchwordlaw0_Num.f bt172.2).bind fun t183 => (if t183 = 900 then ((hello_May.f k t163).bind fun t184 => (some t184)) else (some false))) else (some false))) else (some false))) else (some false))) else (some false))) else (some false))) = some r := H
  have A3 := Aside0.mk A30
  clear A30
  replace H := Option.bind_eq_some_iff.mp H
  obtain ⟨⟨t172, t173⟩, A40, H⟩ := H
  replace H : (if t161.toList = ([2, 1, 3] : List UInt8) then ((watchwordlaw0_Num.f t162).bind fun t176 => (if t176 = 0 then ((watchwordlaw0_SameInts.f k t163 (([1, 3] : List Int))).bind fun t180 => (if t180 = true then ((watchwordlaw0_Num.f t164).bind fun t181 => (if t181 = 0 then ((watchwordlaw0_Num.f t171).bind fun t182 => (if t182 = 900 then ((watchwordlaw0_Num.f t173).bind fun t183 => (if t183 = 900 then ((hello_May.f k t163).bind fun t184 => (some t184)) else (some false))) else (some false))) else (some false))) else (some false))) else (some false))) else (some false)) = some r := H
  have A4 := Aside0.mk A40
  clear A40
  by_cases c5 : t161.toList = ([2, 1, 3] : List UInt8)
  · rw [if_pos c5] at H
    have c5b0 : (t161.toList == ([2, 1, 3] : List UInt8)) = true := beq_iff_eq.mpr c5
    have c5b1 : (t161.toList != ([2, 1, 3] : List UInt8)) = false := bne_eq_false_iff_eq.mpr c5
    clear c5
    replace H := Option.bind_eq_some_iff.mp H
    obtain ⟨t176, A60, H⟩ := H
    replace H : (if t176 = 0 then ((watchwordlaw0_SameInts.f k t163 (([1, 3] : List Int))).bind fun t180 => (if t180 = true then ((watchwordlaw0_Num.f t164).bind fun t181 => (if t181 = 0 then ((watchwordlaw0_Num.f t171).bind fun t182 => (if t182 = 900 then ((watchwordlaw0_Num.f t173).bind fun t183 => (if t183 = 900 then ((hello_May.f k t163).bind fun t184 => (some t184)) else (some false))) else (some false))) else (some false))) else (some false))) else (some false)) = some r := H
    have A6 := Aside0.mk A60
    clear A60
    by_cases c7 : t176 = 0
    · rw [if_pos c7] at H
      have c7b0 : (t176 == 0) = true := beq_iff_eq.mpr c7
      have c7b1 : (t176 != 0) = false := bne_eq_false_iff_eq.mpr c7
      clear c7
      obtain ⟨y177, hy177⟩ : ∃ y_ : List Int, y_ = (([1, 3] : List Int)) := ⟨_, rfl⟩
      replace H : ((watchwordlaw0_SameInts.f k t163 y177).bind fun t180 => (if t180 = true then ((watchwordlaw0_Num.f t164).bind fun t181 => (if t181 = 0 then ((watchwordlaw0_Num.f t171).bind fun t182 => (if t182 = 900 then ((watchwordlaw0_Num.f t173).bind fun t183 => (if t183 = 900 then ((hello_May.f k t163).bind fun t184 => (some t184)) else (some false))) else (some false))) else (some false))) else (some false))) = some r := by first | (rw [hy177]; with_reducible exact H) | (have H2_ := (Option.bind_some _ _).symm.trans H; rw [hy177]; with_reducible exact H2_) | (have H2_ := (Option.bind_some _ _).symm.trans H; with_reducible exact H2_) | with_reducible exact H | (rw [hy177]; exact H) | exact H
      have Ny177 := Aside0.mk hy177
      clear hy177
      replace H := Option.bind_eq_some_iff.mp H
      obtain ⟨t180, A80, H⟩ := H
      replace H : (if t180 = true then ((watchwordlaw0_Num.f t164).bind fun t181 => (if t181 = 0 then ((watchwordlaw0_Num.f t171).bind fun t182 => (if t182 = 900 then ((watchwordlaw0_Num.f t173).bind fun t183 => (if t183 = 900 then ((hello_May.f k t163).bind fun t184 => (some t184)) else (some false))) else (some false))) else (some false))) else (some false)) = some r := H
      have A8 := Aside0.mk A80
      clear A80
      by_cases c9 : t180 = true
      · subst c9
        have H1 : ((watchwordlaw0_Num.f t164).bind fun t181 => (if t181 = 0 then ((watchwordlaw0_Num.f t171).bind fun t182 => (if t182 = 900 then ((watchwordlaw0_Num.f t173).bind fun t183 => (if t183 = 900 then ((hello_May.f k t163).bind fun t184 => (some t184)) else (some false))) else (some false))) else (some false))) = some r := by rw [if_pos rfl] at H; exact H
        clear H
        have H := H1
        clear H1
        replace H := Option.bind_eq_some_iff.mp H
        obtain ⟨t181, A100, H⟩ := H
        replace H : (if t181 = 0 then ((watchwordlaw0_Num.f t171).bind fun t182 => (if t182 = 900 then ((watchwordlaw0_Num.f t173).bind fun t183 => (if t183 = 900 then ((hello_May.f k t163).bind fun t184 => (some t184)) else (some false))) else (some false))) else (some false)) = some r := H
        have A10 := Aside0.mk A100
        clear A100
        by_cases c11 : t181 = 0
        · rw [if_pos c11] at H
          have c11b0 : (t181 == 0) = true := beq_iff_eq.mpr c11
          have c11b1 : (t181 != 0) = false := bne_eq_false_iff_eq.mpr c11
          clear c11
          replace H := Option.bind_eq_some_iff.mp H
          obtain ⟨t182, A120, H⟩ := H
          replace H : (if t182 = 900 then ((watchwordlaw0_Num.f t173).bind fun t183 => (if t183 = 900 then ((hello_May.f k t163).bind fun t184 => (some t184)) else (some false))) else (some false)) = some r := H
          have A12 := Aside0.mk A120
          clear A120
          by_cases c13 : t182 = 900
          · rw [if_pos c13] at H
            have c13b0 : (t182 == 900) = true := beq_iff_eq.mpr c13
            have c13b1 : (t182 != 900) = false := bne_eq_false_iff_eq.mpr c13
            clear c13
            replace H := Option.bind_eq_some_iff.mp H
            obtain ⟨t183, A140, H⟩ := H
            replace H : (if t183 = 900 then ((hello_May.f k t163).bind fun t184 => (some t184)) else (some false)) = some r := H
            have A14 := Aside0.mk A140
            clear A140
            by_cases c15 : t183 = 900
            · rw [if_pos c15] at H
              have c15b0 : (t183 == 900) = true := beq_iff_eq.mpr c15
              have c15b1 : (t183 != 900) = false := bne_eq_false_iff_eq.mpr c15
              clear c15
              replace H := Option.bind_eq_some_iff.mp H
              obtain ⟨t184, A160, H⟩ := H
              replace H : (some t184) = some r := H
              have A16 := Aside0.mk A160
              clear A160
              obtain rfl := Option.some.inj H
              go_enter Try.func30, Try.ntmps30
              go_wp2_with (first | ((with_reducible refine gate_dst (N := 10) rfl ?_); (try (refine gate_guard (by rfl) ?_; dsimp only)); refine Kd.R_lit (Kd.int .i64) _ 3 ?hg (N := 10) ?hd (xs := ([1, 3] : List Int)) (inner := [.int .i64 1, .int .i64 3]) (ok := fun _ => True) (okp := fun _ => True) ?hr ?hp (fun _ hk => hk) trivial (Below.refl _ _) (Nat.le_refl _) (by simp) ?_; (case hd => rfl); (case hg => rfl); (case hr => first | (go_simp; done) | (go_simp; rfl)); (case hp => exact (Reps.one (show Kd.M (Kd.int .i64) _ _ _ 1 [.int .i64 1] from rfl) (Reps.one (show Kd.M (Kd.int .i64) _ _ _ 3 [.int .i64 3] from rfl) (Reps.none _ _)))); intro v159 w17 ho18 hb hg_ hnew_; clear hg_ hnew_; (first | rw [← Ny158.out] at ho18 | (simp only [Int.reduceToNat] at ho18; rw [← Ny158.out] at ho18)); have n0_ := Aside0.mk (Kd.R_lower ho18 (below_size (by repeat (first | (with_reducible first | exact HB.out | apply below_alloc | apply pw_below_drewN | apply below_drew1) | exact HB.out)))); have n1_ := Aside0.mk (below_step (by repeat (first | (with_reducible first | exact HB.out | apply below_alloc | apply pw_below_drewN | apply below_drew1) | exact HB.out)) hb); clear HB; have HO160 := n0_; have HB := n1_; clear n0_ n1_; clear hb ho18; obtain ⟨Ao19, co19, eo19⟩ := Kd.R_slice HO160.out; subst eo19) | ((with_reducible refine gate_callee (f := 21) rfl ?_); refine goesL_ (some 11) rfl rfl Try.func21 (by kernel_rfl) rfl #[.slice Ao19 y158.length co19] rfl (by (try simp only [List.map_toArray, List.map_cons, List.map_nil]); first | done | rfl | (simp only [List.length_drop, List.length_take]; rfl)) ?_; (with_reducible refine (hello_Put.calls k _ _ y158 t161 t162 _ ?side1 ?side2 A1.out).mono ?_); (case side1 => repeat (first | exact (Kd.R_reads' HO160.out).2.2 | (with_reducible refine Kd.C_alloc ?_ _) | (with_reducible refine Kd.C_drewN ?_ _) | (with_reducible refine Kd.C_drew ?_))); (case side2 => exact (Kd.R_reads' HO160.out).2.1); rintro e w20 ⟨rfl, hb⟩; refine ⟨_, rfl, ?_⟩; have n0_ := Aside0.mk (Kd.R_below (by (with_reducible repeat (first | apply Kd.R_alloc | apply Kd.R_drewN | apply Kd.R_drew)); exact HO160.out) hb); have n1_ := Aside0.mk (below_step (by repeat (first | (with_reducible first | exact HB.out | apply below_alloc | apply pw_below_drewN | apply below_drew1) | exact HB.out)) hb); clear HO160; clear HB; have HO160 := n0_; have HB := n1_; clear n0_ n1_; (try clear hb); (try clear hb2); (try clear hk); (try clear hi)) | ((with_reducible refine gate_callee (f := 23) rfl ?_); refine goesL_ (some 16) rfl rfl Try.func23 (by kernel_rfl) rfl #[.string t161] rfl (by (try simp only [List.map_toArray, List.map_cons, List.map_nil]); first | done | rfl | (simp only [List.length_drop, List.length_take]; rfl)) ?_; (with_reducible refine (hello_Get.calls k t161 t163 t164 _ A2.out).mono ?_); rintro e w21 ⟨v165, rfl, ho0, hb⟩; refine ⟨_, rfl, ?_⟩; have n0_ := Aside0.mk (Kd.R_elder' (by (with_reducible repeat (first | apply Kd.R_alloc | apply Kd.R_drewN | apply Kd.R_drew)); exact HO160.out) (Kd.R_base ho0) hb); have n1_ := Aside0.mk (Kd.R_lower (Kd.R_new' ho0 (Kd.R_lt (by (with_reducible repeat (first | apply Kd.R_alloc | apply Kd.R_drewN | apply Kd.R_drew)); exact HO160.out))) (below_size (by repeat (first | (with_reducible first | exact HB.out | apply below_alloc | apply pw_below_drewN | apply below_drew1) | exact HB.out)))); have n2_ := Aside0.mk (below_step (by repeat (first | (with_reducible first | exact HB.out | apply below_alloc | apply pw_below_drewN | apply below_drew1) | exact HB.out)) hb); clear HO160; clear HB; have HO160 := n0_; have HO166 := n1_; have HB := n2_; clear n0_ n1_ n2_; (try clear hb); (try clear hb2); (try clear hk); (try clear hi); (try clear ho0)) | ((with_reducible refine gate_dst (N := 20) rfl ?_); (try (refine gate_guard (by rfl) ?_; dsimp only)); refine Kd.R_lit (Kd.int .i64) _ 3 ?hg (N := 20) ?hd (xs := ([3, 1] : List Int)) (inner := [.int .i64 3, .int .i64 1]) (ok := fun _ => True) (okp := fun _ => True) ?hr ?hp (fun _ hk => hk) trivial (Below.refl _ _) (Nat.le_refl _) (by simp) ?_; (case hd => rfl); (case hg => rfl); (case hr => first | (go_simp; done) | (go_simp; rfl)); (case hp => exact (Reps.one (show Kd.M (Kd.int .i64) _ _ _ 3 [.int .i64 3] from rfl) (Reps.one (show Kd.M (Kd.int .i64) _ _ _ 1 [.int .i64 1] from rfl) (Reps.none _ _)))); intro v168 w22 ho23 hb hg_ hnew_; clear hg_ hnew_; (first | rw [← Ny167.out] at ho23 | (simp only [Int.reduceToNat] at ho23; rw [← Ny167.out] at ho23)); have n0_ := Aside0.mk (Kd.R_elder' (by (with_reducible repeat (first | apply Kd.R_alloc | apply Kd.R_drewN | apply Kd.R_drew)); exact HO160.out) (Kd.R_base ho23) hb); have n1_ := Aside0.mk (Kd.R_elder' (by (with_reducible repeat (first | apply Kd.R_alloc | apply Kd.R_drewN | apply Kd.R_drew)); exact HO166.out) (Kd.R_base ho23) hb); have n2_ := Aside0.mk (Kd.R_lower (Kd.R_new' (Kd.R_new' ho23 (Kd.R_lt (by (with_reducible repeat (first | apply Kd.R_alloc | apply Kd.R_drewN | apply Kd.R_drew)); exact HO160.out))) (Kd.R_lt (by (with_reducible repeat (first | apply Kd.R_alloc | apply Kd.R_drewN | apply Kd.R_drew)); exact HO166.out))) (below_size (by repeat (first | (with_reducible first | exact HB.out | apply below_alloc | apply pw_below_drewN | apply below_drew1) | exact HB.out)))); have n3_ := Aside0.mk (below_step (by repeat (first | (with_reducible first | exact HB.out | apply below_alloc | apply pw_below_drewN | apply below_drew1) | exact HB.out)) hb); clear HO160; clear HO166; clear HB; have HO160 := n0_; have HO166 := n1_; have HO169 := n2_; have HB := n3_; clear n0_ n1_ n2_ n3_; clear hb ho23; obtain ⟨Ao24, co24, eo24⟩ := Kd.R_slice HO169.out; subst eo24) | ((with_reducible refine gate_callee (f := 21) rfl ?_); refine goesL_ (some 21) rfl rfl Try.func21 (by kernel_rfl) rfl #[.slice Ao24 y167.length co24] rfl (by (try simp only [List.map_toArray, List.map_cons, List.map_nil]); first | done | rfl | (simp only [List.length_drop, List.length_take]; rfl)) ?_; (with_reducible refine (hello_Put.calls k _ _ y167 t170 t171 _ ?side1 ?side2 A3.out).mono ?_); (case side1 => repeat (first | exact (Kd.R_reads' HO169.out).2.2 | (with_reducible refine Kd.C_alloc ?_ _) | (with_reducible refine Kd.C_drewN ?_ _) | (with_reducible refine Kd.C_drew ?_))); (case side2 => exact (Kd.R_reads' HO169.out).2.1); rintro e w25 ⟨rfl, hb⟩; refine ⟨_, rfl, ?_⟩; have n0_ := Aside0.mk (Kd.R_below (by (with_reducible repeat (first | apply Kd.R_alloc | apply Kd.R_drewN | apply Kd.R_drew)); exact HO160.out) hb); have n1_ := Aside0.mk (Kd.R_below (by (with_reducible repeat (first | apply Kd.R_alloc | apply Kd.R_drewN | apply Kd.R_drew)); exact HO166.out) hb); have n2_ := Aside0.mk (Kd.R_below (by (with_reducible repeat (first | apply Kd.R_alloc | apply Kd.R_drewN | apply Kd.R_drew)); exact HO169.out) hb); have n3_ := Aside0.mk (below_step (by repeat (first | (with_reducible first | exact HB.out | apply below_alloc | apply pw_below_drewN | apply below_drew1) | exact HB.out)) hb); clear HO160; clear HO166; clear HO169; clear HB; have HO160 := n0_; have HO166 := n1_; have HO169 := n2_; have HB := n3_; clear n0_ n1_ n2_ n3_; (try clear hb); (try clear hb2); (try clear hk); (try clear hi)) | ((with_reducible refine gate_callee (f := 23) rfl ?_); refine goesL_ (some 25) rfl rfl Try.func23 (by kernel_rfl) rfl #[.string (⟨#[]⟩ : ByteArray)] rfl (by (try simp only [List.map_toArray, List.map_cons, List.map_nil]); first | done | rfl | (simp only [List.length_drop, List.length_take]; rfl)) ?_; (with_reducible refine (hello_Get.calls k (⟨#[]⟩ : ByteArray) t172 t173 _ A4.out).mono ?_); rintro e w26 ⟨v174, rfl, ho0, hb⟩; refine ⟨_, rfl, ?_⟩; have n0_ := Aside0.mk (Kd.R_elder' (by (with_reducible repeat (first | apply Kd.R_alloc | apply Kd.R_drewN | apply Kd.R_drew)); exact HO160.out) (Kd.R_base ho0) hb); have n1_ := Aside0.mk (Kd.R_elder' (by (with_reducible repeat (first | apply Kd.R_alloc | apply Kd.R_drewN | apply Kd.R_drew)); exact HO166.out) (Kd.R_base ho0) hb); have n2_ := Aside0.mk (Kd.R_elder' (by (with_reducible repeat (first | apply Kd.R_alloc | apply Kd.R_drewN | apply Kd.R_drew)); exact HO169.out) (Kd.R_base ho0) hb); have n3_ := Aside0.mk (Kd.R_lower (Kd.R_new' (Kd.R_new' (Kd.R_new' ho0 (Kd.R_lt (by (with_reducible repeat (first | apply Kd.R_alloc | apply Kd.R_drewN | apply Kd.R_drew)); exact HO160.out))) (Kd.R_lt (by (with_reducible repeat (first | apply Kd.R_alloc | apply Kd.R_drewN | apply Kd.R_drew)); exact HO166.out))) (Kd.R_lt (by (with_reducible repeat (first | apply Kd.R_alloc | apply Kd.R_drewN | apply Kd.R_drew)); exact HO169.out))) (below_size (by repeat (first | (with_reducible first | exact HB.out | apply below_alloc | apply pw_below_drewN | apply below_drew1) | exact HB.out)))); have n4_ := Aside0.mk (below_step (by repeat (first | (with_reducible first | exact HB.out | apply below_alloc | apply pw_below_drewN | apply below_drew1) | exact HB.out)) hb); clear HO160; clear HO166; clear HO169; clear HB; have HO160 := n0_; have HO166 := n1_; have HO169 := n2_; have HO175 := n3_; have HB := n4_; clear n0_ n1_ n2_ n3_ n4_; (try clear hb); (try clear hb2); (try clear hk); (try clear hi); (try clear ho0)) | (go_at_call 18; (with_reducible refine (watchwordlaw0_Num.calls t162 t176 _ A6.out).mono ?_); rintro e w' ⟨rfl, ⟨nd, rfl⟩⟩) | ((with_reducible refine gate_dst (N := 37) rfl ?_); (try (refine gate_guard (by rfl) ?_; dsimp only)); refine Kd.R_lit (Kd.int .i64) _ 3 ?hg (N := 37) ?hd (xs := ([1, 3] : List Int)) (inner := [.int .i64 1, .int .i64 3]) (ok := fun _ => True) (okp := fun _ => True) ?hr ?hp (fun _ hk => hk) trivial (Below.refl _ _) (Nat.le_refl _) (by simp) ?_; (case hd => rfl); (case hg => rfl); (case hr => first | (go_simp; done) | (go_simp; rfl)); (case hp => exact (Reps.one (show Kd.M (Kd.int .i64) _ _ _ 1 [.int .i64 1] from rfl) (Reps.one (show Kd.M (Kd.int .i64) _ _ _ 3 [.int .i64 3] from rfl) (Reps.none _ _)))); intro v178 w27 ho28 hb hg_ hnew_; clear hg_ hnew_; (first | rw [← Ny177.out] at ho28 | (simp only [Int.reduceToNat] at ho28; rw [← Ny177.out] at ho28)); have n0_ := Aside0.mk (Kd.R_elder' (by (with_reducible repeat (first | apply Kd.R_alloc | apply Kd.R_drewN | apply Kd.R_drew)); exact HO160.out) (Kd.R_base ho28) hb); have n1_ := Aside0.mk (Kd.R_elder' (by (with_reducible repeat (first | apply Kd.R_alloc | apply Kd.R_drewN | apply Kd.R_drew)); exact HO166.out) (Kd.R_base ho28) hb); have n2_ := Aside0.mk (Kd.R_elder' (by (with_reducible repeat (first | apply Kd.R_alloc | apply Kd.R_drewN | apply Kd.R_drew)); exact HO169.out) (Kd.R_base ho28) hb); have n3_ := Aside0.mk (Kd.R_elder' (by (with_reducible repeat (first | apply Kd.R_alloc | apply Kd.R_drewN | apply Kd.R_drew)); exact HO175.out) (Kd.R_base ho28) hb); have n4_ := Aside0.mk (Kd.R_lower (Kd.R_new' (Kd.R_new' (Kd.R_new' (Kd.R_new' ho28 (Kd.R_lt (by (with_reducible repeat (first | apply Kd.R_alloc | apply Kd.R_drewN | apply Kd.R_drew)); exact HO160.out))) (Kd.R_lt (by (with_reducible repeat (first | apply Kd.R_alloc | apply Kd.R_drewN | apply Kd.R_drew)); exact HO166.out))) (Kd.R_lt (by (with_reducible repeat (first | apply Kd.R_alloc | apply Kd.R_drewN | apply Kd.R_drew)); exact HO169.out))) (Kd.R_lt (by (with_reducible repeat (first | apply Kd.R_alloc | apply Kd.R_drewN | apply Kd.R_drew)); exact HO175.out))) (below_size (by repeat (first | (with_reducible first | exact HB.out | apply below_alloc | apply pw_below_drewN | apply below_drew1) | exact HB.out)))); have n5_ := Aside0.mk (below_step (by repeat (first | (with_reducible first | exact HB.out | apply below_alloc | apply pw_below_drewN | apply below_drew1) | exact HB.out)) hb); clear HO160; clear HO166; clear HO169; clear HO175; clear HB; have HO160 := n0_; have HO166 := n1_; have HO169 := n2_; have HO175 := n3_; have HO179 := n4_; have HB := n5_; clear n0_ n1_ n2_ n3_ n4_ n5_; clear hb ho28; obtain ⟨Ao29, co29, eo29⟩ := Kd.R_slice HO166.out; subst eo29; obtain ⟨Ao30, co30, eo30⟩ := Kd.R_slice HO179.out; subst eo30) | (go_at_call 25; (with_reducible refine (watchwordlaw0_SameInts.calls k _ _ t163 _ _ y177 true _ ?side1 ?side2 ?side3 ?side4 A8.out).mono ?_); (case side1 => repeat (first | exact (Kd.R_reads' HO166.out).2.2 | (with_reducible refine Kd.C_alloc ?_ _) | (with_reducible refine Kd.C_drewN ?_ _) | (with_reducible refine Kd.C_drew ?_))); (case side2 => exact (Kd.R_reads' HO166.out).2.1); (case side3 => repeat (first | exact (Kd.R_reads' HO179.out).2.2 | (with_reducible refine Kd.C_alloc ?_ _) | (with_reducible refine Kd.C_drewN ?_ _) | (with_reducible refine Kd.C_drew ?_))); (case side4 => exact (Kd.R_reads' HO179.out).2.1); rintro e w' ⟨rfl, ⟨nd, rfl⟩⟩) | (go_at_call 18; (with_reducible refine (watchwordlaw0_Num.calls t164 t181 _ A10.out).mono ?_); rintro e w' ⟨rfl, ⟨nd, rfl⟩⟩) | (go_at_call 18; (with_reducible refine (watchwordlaw0_Num.calls t171 t182 _ A12.out).mono ?_); rintro e w' ⟨rfl, ⟨nd, rfl⟩⟩) | (go_at_call 18; (with_reducible refine (watchwordlaw0_Num.calls t173 t183 _ A14.out).mono ?_); rintro e w' ⟨rfl, ⟨nd, rfl⟩⟩) | (go_at_call 26; (with_reducible refine (hello_May.calls k _ _ t163 t184 _ ?side1 ?side2 A16.out).mono ?_); (case side1 => repeat (first | exact (Kd.R_reads' HO166.out).2.2 | (with_reducible refine Kd.C_alloc ?_ _) | (with_reducible refine Kd.C_drewN ?_ _) | (with_reducible refine Kd.C_drew ?_))); (case side2 => exact (Kd.R_reads' HO166.out).2.1); rintro e w' ⟨rfl, ⟨nd, rfl⟩⟩))
              go_ret
              exact ⟨by first | rfl | (simp [errW_none, errW_some] <;> rfl) | (simp [*, errW_none, errW_some] <;> rfl), by repeat (first | (with_reducible first | exact HB.out | apply below_alloc | apply pw_below_drewN | apply below_drew1) | exact HB.out)⟩
            · rw [if_neg c15] at H
              have c15b0 : (t183 == 900) = false := beq_eq_false_iff_ne.mpr c15
              have c15b1 : (t183 != 900) = true := bne_iff_ne.mpr c15
              exact absurd (Option.some.inj H) (by rw [HT.out]; decide)
          · rw [if_neg c13] at H
            have c13b0 : (t182 == 900) = false := beq_eq_false_iff_ne.mpr c13
            have c13b1 : (t182 != 900) = true := bne_iff_ne.mpr c13
            exact absurd (Option.some.inj H) (by rw [HT.out]; decide)
        · rw [if_neg c11] at H
          have c11b0 : (t181 == 0) = false := beq_eq_false_iff_ne.mpr c11
          have c11b1 : (t181 != 0) = true := bne_iff_ne.mpr c11
          exact absurd (Option.some.inj H) (by rw [HT.out]; decide)
      · replace c9 := Bool.eq_false_iff.mpr c9
        subst c9
        have H1 : (some false) = some r := by rw [if_neg (show ¬ (false = true) by decide)] at H; exact H
        clear H
        have H := H1
        clear H1
        exact absurd (Option.some.inj H) (by rw [HT.out]; decide)
    · rw [if_neg c7] at H
      have c7b0 : (t176 == 0) = false := beq_eq_false_iff_ne.mpr c7
      have c7b1 : (t176 != 0) = true := bne_iff_ne.mpr c7
      exact absurd (Option.some.inj H) (by rw [HT.out]; decide)
  · rw [if_neg c5] at H
    have c5b0 : (t161.toList == ([2, 1, 3] : List UInt8)) = false := beq_eq_false_iff_ne.mpr c5
    have c5b1 : (t161.toList != ([2, 1, 3] : List UInt8)) = true := bne_iff_ne.mpr c5
    exact absurd (Option.some.inj H) (by rw [HT.out]; decide)

end Go.Proofs.Ytkfnbnfdcfcfpaa.Q9a
