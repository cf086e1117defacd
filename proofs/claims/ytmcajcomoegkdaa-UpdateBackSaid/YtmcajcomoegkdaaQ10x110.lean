/- Written by a program of this session out of the print of the loaded functions: each Go function as a plain function, and that its call comes to it; for a law, the row out of its plain statement. -/
import Derived.Test.YtmcajcomoegkdaaQ10x0
import Derived.Test.YtmcajcomoegkdaaQ10x119
import Derived.Test.YtmcajcomoegkdaaQ10x126
import Derived.Test.YtmcajcomoegkdaaQ10x128
import Derived.Test.YtmcajcomoegkdaaQ10x130
import Derived.Test.YtmcajcomoegkdaaQ10x131
import Derived.Test.YtmcajcomoegkdaaQ10x134
namespace Go.Proofs.Ytmcajcomoegkdaa.Q10
open Go.RowKit Go.Proofs.YtmcajcomoegkdaaW.PrintWords Go.Proofs.YtmcajcomoegkdaaW.PrintLast Go.Proofs.YtmcajcomoegkdaaW.PrintMore
attribute [local go_sem] max2_int min2_int max_two min_two max_three min_three max_four min_four   -- for this text's walks alone
set_option linter.unusedVariables false
set_option linter.unusedSimpArgs false

/-! ### watchwordlaw10_UpdateBack: function 10 -/
def watchwordlaw10_UpdateBack.j0 : Nat → ByteArray → Option (Bool)
 | 0, _ => none
 | k + 1, x1 => (update_Get.f k x1).bind fun bt215 => ((watchwordlaw0_Num.f bt215.2).bind fun t219 => (if t219 = 0 then ((update_Put.f k bt215.1).bind fun bt220 => ((watchwordlaw0_Num.f bt220.2).bind fun t222 => (if t222 = 0 then (if bt220.1.toList = x1.toList then ((update_May.f k bt215.1).bind fun t223 => (some t223)) else (some false)) else (some false)))) else (some ((bt215.1.length : Int) == 0))))
def watchwordlaw10_UpdateBack.f (k : Nat) (l0 : List (S24)) (a1 : ByteArray) : Option (Bool) := (watchwordlaw10_awake.f k).bind fun t205 => (if t205 = true then ((update_Put.f k l0).bind fun bt206 => ((watchwordlaw0_Num.f bt206.2).bind fun t208 => (if t208 = 0 then ((update_Get.f k bt206.1).bind fun bt209 => ((watchwordlaw0_Num.f bt209.2).bind fun t213 => (if t213 = 0 then ((watchwordlaw0_SameLsas.f k l0 bt209.1).bind fun t214 => (if t214 = true then (watchwordlaw10_UpdateBack.j0 k a1) else (some false))) else (some false)))) else (watchwordlaw10_UpdateBack.j0 k a1)))) else (some false))
theorem watchwordlaw10_UpdateBack.mono_l : ∀ k, (∀ y0, LeO (watchwordlaw10_UpdateBack.j0 k y0) (watchwordlaw10_UpdateBack.j0 (k + 1) y0))
 | 0 => fun _ r h => by simp [watchwordlaw10_UpdateBack.j0] at h
 | k + 1 => by
  have ih0 := watchwordlaw10_UpdateBack.mono_l k
  ·intro y0
   unfold watchwordlaw10_UpdateBack.j0
   repeat' first
   | (with_reducible exact ih0 _)
   | (with_reducible exact update_Get.mono _ _)
   | (with_reducible exact update_May.mono _ _)
   | (with_reducible exact update_Put.mono _ _)
   | (with_reducible exact watchwordlaw0_SameLsas.mono _ _ _)
   | (with_reducible exact watchwordlaw10_awake.mono _)
   | (with_reducible exact LeO.refl _)
   | (with_reducible exact LeO.none _)
   | (with_reducible refine LeO.ite ?_ ?_)
   | (with_reducible refine LeO.bind ?_ (fun _ => ?_))
   | exact ih0 _
   | exact update_Get.mono _ _
   | exact update_May.mono _ _
   | exact update_Put.mono _ _
   | exact watchwordlaw0_SameLsas.mono _ _ _
   | exact watchwordlaw10_awake.mono _
   | exact LeO.none _
   | refine LeO.ite ?_ ?_
   | refine LeO.bind ?_ (fun _ => ?_)
theorem watchwordlaw10_UpdateBack.mono : ∀ a0 a1 k, LeO (watchwordlaw10_UpdateBack.f k a0 a1) (watchwordlaw10_UpdateBack.f (k + 1) a0 a1) := by
 intro a0 a1 k
 have ih0 := watchwordlaw10_UpdateBack.mono_l k
 unfold watchwordlaw10_UpdateBack.f
 repeat' first
   | (with_reducible exact ih0 _)
   | (with_reducible exact update_Get.mono _ _)
   | (with_reducible exact update_May.mono _ _)
   | (with_reducible exact update_Put.mono _ _)
   | (with_reducible exact watchwordlaw0_SameLsas.mono _ _ _)
   | (with_reducible exact watchwordlaw10_awake.mono _)
   | (with_reducible exact LeO.refl _)
   | (with_reducible exact LeO.none _)
   | (with_reducible refine LeO.ite ?_ ?_)
   | (with_reducible refine LeO.bind ?_ (fun _ => ?_))
   | exact ih0 _
   | exact update_Get.mono _ _
   | exact update_May.mono _ _
   | exact update_Put.mono _ _
   | exact watchwordlaw0_SameLsas.mono _ _ _
   | exact watchwordlaw10_awake.mono _
   | exact LeO.none _
   | refine LeO.ite ?_ ?_
   | refine LeO.bind ?_ (fun _ => ?_)
set_option maxHeartbeats 8000000 in
set_option maxRecDepth 100000 in
theorem watchwordlaw10_UpdateBack.calls (k : Nat) (A0 : Option Addr) (c0 : Nat) (l0 : List (S24)) (a1 : ByteArray) (r : Bool) (w : World) (hr0 : Kd.C k24 w A0 l0.length l0) (hc0 : l0.length ≤ c0) (h : watchwordlaw10_UpdateBack.f k l0 a1 = some r) (hT : r = true) :
  Calls Try.prog 10 #[.slice A0 l0.length c0, .string a1] w fun e w' => e = .returned (.bool r) ∧ Below w.heap.size w w' := by
 have HR0 := Aside0.mk hr0
 have HC0 := Aside0.mk hc0
 clear hr0 hc0
 have HB := Aside0.mk (Below.refl w.heap.size w)
 have HT := Aside0.mk hT
 clear hT
 have H : ((watchwordlaw10_awake.f k).bind fun t205 => (if t205 = true then ((update_Put.f k l0).bind fun bt206 => ((watchwordlaw0_Num.f bt206.2).bind fun t208 => (if t208 = 0 then ((update_Get.f k bt206.1).bind fun bt209 => ((watchwordlaw0_Num.f bt209.2).bind fun t213 => (if t213 = 0 then ((watchwordlaw0_SameLsas.f k l0 bt209.1).bind fun t214 => (if t214 = true then (watchwordlaw10_UpdateBack.j0 k a1) else (some false))) else (some false)))) else (watchwordlaw10_UpdateBack.j0 k a1)))) else (some false))) = some r := h
 clear h
 replace H := Option.bind_eq_some_iff.mp H
 obtain ⟨t205, A30, H⟩ := H
 replace H : (if t205 = true then ((update_Put.f k l0).bind fun bt206 => ((watchwordlaw0_Num.f bt206.2).bind fun t208 => (if t208 = 0 then ((update_Get.f k bt206.1).bind fun bt209 => ((watchwordlaw0_Num.f bt209.2).bind fun t213 => (if t213 = 0 then ((watchwordlaw0_SameLsas.f k l0 bt209.1).bind fun t214 => (if t214 = true then (watchwordlaw10_UpdateBack.j0 k a1) else (some false))) else (some false)))) else (watchwordlaw10_UpdateBack.j0 k a1)))) else (some false)) = some r := H
 have A3 := Aside0.mk A30
 clear A30
 by_cases c4 : t205 = true
 ·subst c4
  have H1 : ((update_Put.f k l0).bind fun bt206 => ((watchwordlaw0_Num.f bt206.2).bind fun t208 => (if t208 = 0 then ((update_Get.f k bt206.1).bind fun bt209 => ((watchwordlaw0_Num.f bt209.2).bind fun t213 => (if t213 = 0 then ((watchwordlaw0_SameLsas.f k l0 bt209.1).bind fun t214 => (if t214 = true then (watchwordlaw10_UpdateBack.j0 k a1) else (some false))) else (some false)))) else (watchwordlaw10_UpdateBack.j0 k a1)))) = some r := by rw [if_pos rfl] at H; exact H
  clear H
  have H := H1
  clear H1
  replace H := Option.bind_eq_some_iff.mp H
  obtain ⟨⟨t206, t207⟩, A50, H⟩ := H
  replace H : ((watchwordlaw0_Num.f t207).bind fun t208 => (if t208 = 0 then ((update_Get.f k t206).bind fun bt209 => ((watchwordlaw0_Num.f bt209.2).bind fun t213 => (if t213 = 0 then ((watchwordlaw0_SameLsas.f k l0 bt209.1).bind fun t214 => (if t214 = true then (watchwordlaw10_UpdateBack.j0 k a1) else (some false))) else (some false)))) else (watchwordlaw10_UpdateBack.j0 k a1))) = some r := H
  have A5 := Aside0.mk A50
  clear A50
  replace H := Option.bind_eq_some_iff.mp H
  obtain ⟨t208, A60, H⟩ := H
  replace H : (if t208 = 0 then ((update_Get.f k t206).bind fun bt209 => ((watchwordlaw0_Num.f bt209.2).bind fun t213 => (if t213 = 0 then ((watchwordlaw0_SameLsas.f k l0 bt209.1).bind fun t214 => (if t214 = true then (watchwordlaw10_UpdateBack.j0 k a1) else (some false))) else (some false)))) else (watchwordlaw10_UpdateBack.j0 k a1)) = some r := H
  have A6 := Aside0.mk A60
  clear A60
  have HC7 := Aside0.mk H
  clear H
  go_enter Try.func10, Try.ntmps10
  go_upto_if 22 with (first | ((with_reducible refine gate_callee (f := 34) rfl ?_); refine goesL_ (some 13) rfl rfl Try.func34 (by kernel_rfl) rfl #[] rfl (by (try simp only [List.map_toArray, List.map_cons, List.map_nil]); first | done | rfl | (simp only [List.length_drop, List.length_take]; rfl)) ?_; (with_reducible refine (watchwordlaw10_awake.calls k  true _ A3.out (by first | rfl | exact HT.out)).mono ?_); rintro e w8 ⟨rfl, hb⟩; refine ⟨_, rfl, ?_⟩; have n0_ := Aside0.mk (below_step (by repeat (first | (with_reducible first | exact HB.out | apply below_alloc | apply pw_below_drewN | apply below_drew1) | exact HB.out)) hb); clear HB; have HB := n0_; clear n0_; (try clear hb); (try clear hb2); (try clear hk); (try clear hi)) | ((with_reducible refine gate_callee (f := 26) rfl ?_); refine goesL_ (some 17) rfl rfl Try.func26 (by kernel_rfl) rfl #[.slice A0 l0.length c0] rfl (by (try simp only [List.map_toArray, List.map_cons, List.map_nil]); first | done | rfl | (simp only [List.length_drop, List.length_take]; rfl)) ?_; (with_reducible refine (update_Put.calls k _ _ l0 t206 t207 _ ?side1 ?side2 A5.out).mono ?_); (case side1 => repeat (first | exact (Kd.C_below HR0.out HB.out) | (with_reducible refine Kd.C_alloc ?_ _) | (with_reducible refine Kd.C_drewN ?_ _) | (with_reducible refine Kd.C_drew ?_))); (case side2 => exact HC0.out); rintro e w9 ⟨rfl, hb⟩; refine ⟨_, rfl, ?_⟩; have n0_ := Aside0.mk (below_step (by repeat (first | (with_reducible first | exact HB.out | apply below_alloc | apply pw_below_drewN | apply below_drew1) | exact HB.out)) hb); clear HB; have HB := n0_; clear n0_; (try clear hb); (try clear hb2); (try clear hk); (try clear hi)) | ((with_reducible refine gate_callee (f := 19) rfl ?_); refine goesL_ (some 21) rfl rfl Try.func19 (by kernel_rfl) rfl #[.int .i64 t207] rfl (by (try simp only [List.map_toArray, List.map_cons, List.map_nil]); first | done | rfl | (simp only [List.length_drop, List.length_take]; rfl)) ?_; (with_reducible refine (watchwordlaw0_Num.calls t207 t208 _ A6.out).mono ?_); rintro e w' ⟨rfl, ⟨nd, rfl⟩⟩; refine ⟨_, rfl, ?_⟩))
  (try simp only [Act.put, List.setIfInBounds_toArray, List.set_cons_zero, List.set_cons_succ])
  go_cut [] (fun wc => ∃ (kq : Nat), Aside0 (watchwordlaw10_UpdateBack.j0 kq a1 = some r) ∧ Aside0 (kq ≤ k) ∧ Aside0 (Below w.heap.size w wc))
  case first =>
   have H := HC7.out
   clear HC7
   by_cases c10 : t208 = 0
   ·rw [if_pos c10] at H
    have c10b0 : (t208 == 0) = true := beq_iff_eq.mpr c10
    have c10b1 : (t208 != 0) = false := bne_eq_false_iff_eq.mpr c10
    clear c10
    (first | rw [c10b0] | (simp only [i64_w, i32_w]; rw [c10b0]) | skip)
    replace H := Option.bind_eq_some_iff.mp H
    obtain ⟨⟨t209, t210⟩, A110, H⟩ := H
    replace H : ((watchwordlaw0_Num.f t210).bind fun t213 => (if t213 = 0 then ((watchwordlaw0_SameLsas.f k l0 t209).bind fun t214 => (if t214 = true then (watchwordlaw10_UpdateBack.j0 k a1) else (some false))) else (some false))) = some r := H
    have A11 := Aside0.mk A110
    clear A110
    replace H := Option.bind_eq_some_iff.mp H
    obtain ⟨t213, A120, H⟩ := H
    replace H : (if t213 = 0 then ((watchwordlaw0_SameLsas.f k l0 t209).bind fun t214 => (if t214 = true then (watchwordlaw10_UpdateBack.j0 k a1) else (some false))) else (some false)) = some r := H
    have A12 := Aside0.mk A120
    clear A120
    by_cases c13 : t213 = 0
    ·rw [if_pos c13] at H
     have c13b0 : (t213 == 0) = true := beq_iff_eq.mpr c13
     have c13b1 : (t213 != 0) = false := bne_eq_false_iff_eq.mpr c13
     clear c13
     replace H := Option.bind_eq_some_iff.mp H
     obtain ⟨t214, A140, H⟩ := H
     replace H : (if t214 = true then (watchwordlaw10_UpdateBack.j0 k a1) else (some false)) = some r := H
     have A14 := Aside0.mk A140
     clear A140
     by_cases c15 : t214 = true
     ·subst c15
      have H1 : (watchwordlaw10_UpdateBack.j0 k a1) = some r := by rw [if_pos rfl] at H; exact H
      clear H
      have H := H1
      clear H1
      have H' := Aside0.mk H
      clear H
      go_wp2_with (first | ((with_reducible refine gate_callee (f := 28) rfl ?_); refine goesL_ (some 25) rfl rfl Try.func28 (by kernel_rfl) rfl #[.string t206] rfl (by (try simp only [List.map_toArray, List.map_cons, List.map_nil]); first | done | rfl | (simp only [List.length_drop, List.length_take]; rfl)) ?_; (with_reducible refine (update_Get.calls k t206 t209 t210 _ A11.out).mono ?_); rintro e w16 ⟨v211, rfl, ho0, hb⟩; refine ⟨_, rfl, ?_⟩; have n0_ := Aside0.mk (Kd.S_lower ho0 (below_size (by repeat (first | (with_reducible first | exact HB.out | apply below_alloc | apply pw_below_drewN | apply below_drew1) | exact HB.out)))); have n1_ := Aside0.mk (below_step (by repeat (first | (with_reducible first | exact HB.out | apply below_alloc | apply pw_below_drewN | apply below_drew1) | exact HB.out)) hb); clear HB; have HO212 := n0_; have HB := n1_; clear n0_ n1_; (try clear hb); (try clear hb2); (try clear hk); (try clear hi); (try clear ho0)) | ((with_reducible refine gate_callee (f := 19) rfl ?_); refine goesL_ (some 29) rfl rfl Try.func19 (by kernel_rfl) rfl #[.int .i64 t210] rfl (by (try simp only [List.map_toArray, List.map_cons, List.map_nil]); first | done | rfl | (simp only [List.length_drop, List.length_take]; rfl)) ?_; (with_reducible refine (watchwordlaw0_Num.calls t210 t213 _ A12.out).mono ?_); rintro e w' ⟨rfl, ⟨nd, rfl⟩⟩; refine ⟨_, rfl, ?_⟩; obtain ⟨Ao17, co17, eo17⟩ := Kd.S_slice HO212.out; subst eo17) | (go_at_call 30; (with_reducible refine (watchwordlaw0_SameLsas.calls k _ _ l0 _ _ t209 true _ ?side1 ?side2 ?side3 ?side4 A14.out).mono ?_); (case side1 => repeat (first | exact (Kd.C_below HR0.out (by repeat (first | (with_reducible first | exact HB.out | apply below_alloc | apply pw_below_drewN | apply below_drew1) | exact HB.out))) | (with_reducible refine Kd.C_alloc ?_ _) | (with_reducible refine Kd.C_drewN ?_ _) | (with_reducible refine Kd.C_drew ?_))); (case side2 => exact HC0.out); (case side3 => repeat (first | exact (Kd.S_reads' HO212.out).2.2 | (with_reducible refine Kd.C_alloc ?_ _) | (with_reducible refine Kd.C_drewN ?_ _) | (with_reducible refine Kd.C_drew ?_))); (case side4 => exact (Kd.S_reads' HO212.out).2.1); rintro e w18 ⟨rfl, hb⟩; have n0_ := Aside0.mk (Kd.S_below (by (with_reducible repeat (first | apply Kd.S_alloc | apply Kd.S_drewN | apply Kd.S_drew)); exact HO212.out) hb); have n1_ := Aside0.mk (below_step (by repeat (first | (with_reducible first | exact HB.out | apply below_alloc | apply pw_below_drewN | apply below_drew1) | exact HB.out)) hb); clear HO212; clear HB; have HO212 := n0_; have HB := n1_; clear n0_ n1_; (try clear hb); (try clear hb2); (try clear hk); (try clear hi)))
      go_meet
      case rel => exact ⟨_, H', ⟨by first | omega | exact Nat.le_refl _⟩, ⟨by repeat (first | (with_reducible first | exact HB.out | apply below_alloc | apply pw_below_drewN | apply below_drew1) | exact HB.out)⟩⟩
     ·replace c15 := Bool.eq_false_iff.mpr c15
      subst c15
      have H1 : (some false) = some r := by rw [if_neg (show ¬ (false = true) by decide)] at H; exact H
      clear H
      have H := H1
      clear H1
      exact absurd (Option.some.inj H) (by rw [HT.out]; decide)
    ·rw [if_neg c13] at H
     have c13b0 : (t213 == 0) = false := beq_eq_false_iff_ne.mpr c13
     have c13b1 : (t213 != 0) = true := bne_iff_ne.mpr c13
     exact absurd (Option.some.inj H) (by rw [HT.out]; decide)
   ·rw [if_neg c10] at H
    have c10b0 : (t208 == 0) = false := beq_eq_false_iff_ne.mpr c10
    have c10b1 : (t208 != 0) = true := bne_iff_ne.mpr c10
    (first | rw [c10b0] | (simp only [i64_w, i32_w]; rw [c10b0]) | skip)
    have H' := Aside0.mk H
    clear H
    go_wp2
    go_meet
    case rel => exact ⟨_, H', ⟨by first | omega | exact Nat.le_refl _⟩, ⟨by repeat (first | (with_reducible first | exact HB.out | apply below_alloc | apply pw_below_drewN | apply below_drew1) | exact HB.out)⟩⟩
  case rest =>
   clear HC7
   try clear c1
   try clear c2
   try clear p2
   try clear c3
   try clear c4
   try clear c10
   try clear c10b0
   try clear c10b1
   try clear c13
   try clear c13b0
   try clear c13b1
   try clear c15
   obtain ⟨kq, HA, HJ6, HB⟩ := hcut
   cases kq with
   | zero => exact absurd HA.out (by simp [watchwordlaw10_UpdateBack.j0])
   | succ kj6 =>
    have H := HA.out
    clear HA
    simp only [watchwordlaw10_UpdateBack.j0] at H
    replace H := Option.bind_eq_some_iff.mp H
    obtain ⟨⟨t215, t216⟩, A190, H⟩ := H
    replace H : ((watchwordlaw0_Num.f t216).bind fun t219 => (if t219 = 0 then ((update_Put.f kj6 t215).bind fun bt220 => ((watchwordlaw0_Num.f bt220.2).bind fun t222 => (if t222 = 0 then (if bt220.1.toList = a1.toList then ((update_May.f kj6 t215).bind fun t223 => (some t223)) else (some false)) else (some false)))) else (some ((t215.length : Int) == 0)))) = some r := H
    have A19 := Aside0.mk A190
    clear A190
    replace H := Option.bind_eq_some_iff.mp H
    obtain ⟨t219, A200, H⟩ := H
    replace H : (if t219 = 0 then ((update_Put.f kj6 t215).bind fun bt220 => ((watchwordlaw0_Num.f bt220.2).bind fun t222 => (if t222 = 0 then (if bt220.1.toList = a1.toList then ((update_May.f kj6 t215).bind fun t223 => (some t223)) else (some false)) else (some false)))) else (some ((t215.length : Int) == 0))) = some r := H
    have A20 := Aside0.mk A200
    clear A200
    by_cases c21 : t219 = 0
    ·rw [if_pos c21] at H
     have c21b0 : (t219 == 0) = true := beq_iff_eq.mpr c21
     have c21b1 : (t219 != 0) = false := bne_eq_false_iff_eq.mpr c21
     clear c21
     replace H := Option.bind_eq_some_iff.mp H
     obtain ⟨⟨t220, t221⟩, A220, H⟩ := H
     replace H : ((watchwordlaw0_Num.f t221).bind fun t222 => (if t222 = 0 then (if t220.toList = a1.toList then ((update_May.f kj6 t215).bind fun t223 => (some t223)) else (some false)) else (some false))) = some r := H
     have A22 := Aside0.mk A220
     clear A220
     replace H := Option.bind_eq_some_iff.mp H
     obtain ⟨t222, A230, H⟩ := H
     replace H : (if t222 = 0 then (if t220.toList = a1.toList then ((update_May.f kj6 t215).bind fun t223 => (some t223)) else (some false)) else (some false)) = some r := H
     have A23 := Aside0.mk A230
     clear A230
     by_cases c24 : t222 = 0
     ·rw [if_pos c24] at H
      have c24b0 : (t222 == 0) = true := beq_iff_eq.mpr c24
      have c24b1 : (t222 != 0) = false := bne_eq_false_iff_eq.mpr c24
      clear c24
      by_cases c25 : t220.toList = a1.toList
      ·rw [if_pos c25] at H
       have c25b0 : (t220.toList == a1.toList) = true := beq_iff_eq.mpr c25
       have c25b1 : (t220.toList != a1.toList) = false := bne_eq_false_iff_eq.mpr c25
       clear c25
       replace H := Option.bind_eq_some_iff.mp H
       obtain ⟨t223, A260, H⟩ := H
       replace H : (some t223) = some r := H
       have A26 := Aside0.mk A260
       clear A260
       obtain rfl := Option.some.inj H
       go_wp2_with (first | ((with_reducible refine gate_callee (f := 28) rfl ?_); refine goesL_ (some 39) rfl rfl Try.func28 (by kernel_rfl) rfl #[.string a1] rfl (by (try simp only [List.map_toArray, List.map_cons, List.map_nil]); first | done | rfl | (simp only [List.length_drop, List.length_take]; rfl)) ?_; (with_reducible refine (update_Get.calls kj6 a1 t215 t216 _ A19.out).mono ?_); rintro e w27 ⟨v217, rfl, ho0, hb⟩; refine ⟨_, rfl, ?_⟩; have n0_ := Aside0.mk (Kd.S_lower ho0 (below_size (by repeat (first | (with_reducible first | exact HB.out | apply below_alloc | apply pw_below_drewN | apply below_drew1) | exact HB.out)))); have n1_ := Aside0.mk (below_step (by repeat (first | (with_reducible first | exact HB.out | apply below_alloc | apply pw_below_drewN | apply below_drew1) | exact HB.out)) hb); clear HB; have HO218 := n0_; have HB := n1_; clear n0_ n1_; (try clear hb); (try clear hb2); (try clear hk); (try clear hi); (try clear ho0)) | ((with_reducible refine gate_callee (f := 19) rfl ?_); refine goesL_ (some 43) rfl rfl Try.func19 (by kernel_rfl) rfl #[.int .i64 t216] rfl (by (try simp only [List.map_toArray, List.map_cons, List.map_nil]); first | done | rfl | (simp only [List.length_drop, List.length_take]; rfl)) ?_; (with_reducible refine (watchwordlaw0_Num.calls t216 t219 _ A20.out).mono ?_); rintro e w' ⟨rfl, ⟨nd, rfl⟩⟩; refine ⟨_, rfl, ?_⟩; obtain ⟨Ao28, co28, eo28⟩ := Kd.S_slice HO218.out; subst eo28) | ((with_reducible refine gate_callee (f := 26) rfl ?_); refine goesL_ (some 50) rfl rfl Try.func26 (by kernel_rfl) rfl #[.slice Ao28 t215.length co28] rfl (by (try simp only [List.map_toArray, List.map_cons, List.map_nil]); first | done | rfl | (simp only [List.length_drop, List.length_take]; rfl)) ?_; (with_reducible refine (update_Put.calls kj6 _ _ t215 t220 t221 _ ?side1 ?side2 A22.out).mono ?_); (case side1 => repeat (first | exact (Kd.S_reads' HO218.out).2.2 | (with_reducible refine Kd.C_alloc ?_ _) | (with_reducible refine Kd.C_drewN ?_ _) | (with_reducible refine Kd.C_drew ?_))); (case side2 => exact (Kd.S_reads' HO218.out).2.1); rintro e w29 ⟨rfl, hb⟩; refine ⟨_, rfl, ?_⟩; have n0_ := Aside0.mk (Kd.S_below (by (with_reducible repeat (first | apply Kd.S_alloc | apply Kd.S_drewN | apply Kd.S_drew)); exact HO218.out) hb); have n1_ := Aside0.mk (below_step (by repeat (first | (with_reducible first | exact HB.out | apply below_alloc | apply pw_below_drewN | apply below_drew1) | exact HB.out)) hb); clear HO218; clear HB; have HO218 := n0_; have HB := n1_; clear n0_ n1_; (try clear hb); (try clear hb2); (try clear hk); (try clear hi)) | ((with_reducible refine gate_callee (f := 19) rfl ?_); refine goesL_ (some 54) rfl rfl Try.func19 (by kernel_rfl) rfl #[.int .i64 t221] rfl (by (try simp only [List.map_toArray, List.map_cons, List.map_nil]); first | done | rfl | (simp only [List.length_drop, List.length_take]; rfl)) ?_; (with_reducible refine (watchwordlaw0_Num.calls t221 t222 _ A23.out).mono ?_); rintro e w' ⟨rfl, ⟨nd, rfl⟩⟩; refine ⟨_, rfl, ?_⟩) | (go_at_call 31; (with_reducible refine (update_May.calls kj6 _ _ t215 t223 _ ?side1 ?side2 A26.out).mono ?_); (case side1 => repeat (first | exact (Kd.S_reads' HO218.out).2.2 | (with_reducible refine Kd.C_alloc ?_ _) | (with_reducible refine Kd.C_drewN ?_ _) | (with_reducible refine Kd.C_drew ?_))); (case side2 => exact (Kd.S_reads' HO218.out).2.1); rintro e w30 ⟨rfl, hb⟩; have n0_ := Aside0.mk (Kd.S_below (by (with_reducible repeat (first | apply Kd.S_alloc | apply Kd.S_drewN | apply Kd.S_drew)); exact HO218.out) hb); have n1_ := Aside0.mk (below_step (by repeat (first | (with_reducible first | exact HB.out | apply below_alloc | apply pw_below_drewN | apply below_drew1) | exact HB.out)) hb); clear HO218; clear HB; have HO218 := n0_; have HB := n1_; clear n0_ n1_; (try clear hb); (try clear hb2); (try clear hk); (try clear hi)))
       go_ret
       exact ⟨by first | rfl | (simp [errW_none, errW_some] <;> rfl) | (simp [*, errW_none, errW_some] <;> rfl), by repeat (first | (with_reducible first | exact HB.out | apply below_alloc | apply pw_below_drewN | apply below_drew1) | exact HB.out)⟩
      ·rw [if_neg c25] at H
       have c25b0 : (t220.toList == a1.toList) = false := beq_eq_false_iff_ne.mpr c25
       have c25b1 : (t220.toList != a1.toList) = true := bne_iff_ne.mpr c25
       exact absurd (Option.some.inj H) (by rw [HT.out]; decide)
     ·rw [if_neg c24] at H
      have c24b0 : (t222 == 0) = false := beq_eq_false_iff_ne.mpr c24
      have c24b1 : (t222 != 0) = true := bne_iff_ne.mpr c24
      exact absurd (Option.some.inj H) (by rw [HT.out]; decide)
    ·rw [if_neg c21] at H
     have c21b0 : (t219 == 0) = false := beq_eq_false_iff_ne.mpr c21
     have c21b1 : (t219 != 0) = true := bne_iff_ne.mpr c21
     obtain rfl := Option.some.inj H
     go_wp2_with (first | ((with_reducible refine gate_callee (f := 28) rfl ?_); refine goesL_ (some 39) rfl rfl Try.func28 (by kernel_rfl) rfl #[.string a1] rfl (by (try simp only [List.map_toArray, List.map_cons, List.map_nil]); first | done | rfl | (simp only [List.length_drop, List.length_take]; rfl)) ?_; (with_reducible refine (update_Get.calls kj6 a1 t215 t216 _ A19.out).mono ?_); rintro e w31 ⟨v217, rfl, ho0, hb⟩; refine ⟨_, rfl, ?_⟩; have n0_ := Aside0.mk (Kd.S_lower ho0 (below_size (by repeat (first | (with_reducible first | exact HB.out | apply below_alloc | apply pw_below_drewN | apply below_drew1) | exact HB.out)))); have n1_ := Aside0.mk (below_step (by repeat (first | (with_reducible first | exact HB.out | apply below_alloc | apply pw_below_drewN | apply below_drew1) | exact HB.out)) hb); clear HB; have HO218 := n0_; have HB := n1_; clear n0_ n1_; (try clear hb); (try clear hb2); (try clear hk); (try clear hi); (try clear ho0)) | ((with_reducible refine gate_callee (f := 19) rfl ?_); refine goesL_ (some 43) rfl rfl Try.func19 (by kernel_rfl) rfl #[.int .i64 t216] rfl (by (try simp only [List.map_toArray, List.map_cons, List.map_nil]); first | done | rfl | (simp only [List.length_drop, List.length_take]; rfl)) ?_; (with_reducible refine (watchwordlaw0_Num.calls t216 t219 _ A20.out).mono ?_); rintro e w' ⟨rfl, ⟨nd, rfl⟩⟩; refine ⟨_, rfl, ?_⟩; obtain ⟨Ao32, co32, eo32⟩ := Kd.S_slice HO218.out; subst eo32))
     go_ret
     exact ⟨by first | rfl | (simp [errW_none, errW_some] <;> rfl) | (simp [*, errW_none, errW_some] <;> rfl), by repeat (first | (with_reducible first | exact HB.out | apply below_alloc | apply pw_below_drewN | apply below_drew1) | exact HB.out)⟩
 ·replace c4 := Bool.eq_false_iff.mpr c4
  subst c4
  have H1 : (some false) = some r := by rw [if_neg (show ¬ (false = true) by decide)] at H; exact H
  clear H
  have H := H1
  clear H1
  exact absurd (Option.some.inj H) (by rw [HT.out]; decide)

end Go.Proofs.Ytmcajcomoegkdaa.Q10
