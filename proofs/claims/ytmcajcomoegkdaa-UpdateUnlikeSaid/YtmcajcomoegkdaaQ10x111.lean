/- Written by a program of this session out of the print of the loaded functions: each Go function as a plain function, and that its call comes to it; for a law, the row out of its plain statement. -/
import Derived.Test.YtmcajcomoegkdaaQ10x0
import Derived.Test.YtmcajcomoegkdaaQ10x119
import Derived.Test.YtmcajcomoegkdaaQ10x126
import Derived.Test.YtmcajcomoegkdaaQ10x130
import Derived.Test.YtmcajcomoegkdaaQ10x134
namespace Go.Proofs.Ytmcajcomoegkdaa.Q10
open Go.RowKit Go.Proofs.YtmcajcomoegkdaaW.PrintWords Go.Proofs.YtmcajcomoegkdaaW.PrintLast Go.Proofs.YtmcajcomoegkdaaW.PrintMore
attribute [local go_sem] max2_int min2_int max_two min_two max_three min_three max_four min_four   -- for this text's walks alone
set_option linter.unusedVariables false
set_option linter.unusedSimpArgs false

/-! ### watchwordlaw10_UpdateUnlike: function 11 -/
def watchwordlaw10_UpdateUnlike.j0 : Nat → List (S24) → List (S24) → ByteArray → Int → ByteArray → Int → Bool → Option (Bool)
 | 0, _, _, _, _, _, _, _ => none
 | k + 1, x0, x1, x5, x6, x7, x8, x28 => if x28 = true then ((watchwordlaw0_Num.f x6).bind fun t231 => (if t231 = 0 then ((watchwordlaw0_Num.f x8).bind fun t232 => (if t232 = 0 then (some true) else (some (x7.toList == ([] : List UInt8))))) else (if x5.toList = ([] : List UInt8) then ((watchwordlaw0_Num.f x8).bind fun t233 => (if t233 = 0 then (some true) else (some (x7.toList == ([] : List UInt8))))) else (some false)))) else ((watchwordlaw0_SameLsas.f k x0 x1).bind fun t234 => (some ((x5.toList == x7.toList) == t234)))
def watchwordlaw10_UpdateUnlike.f (k : Nat) (l0 : List (S24)) (l1 : List (S24)) : Option (Bool) := (watchwordlaw10_awake.f k).bind fun t224 => (if t224 = true then ((update_Put.f k l0).bind fun bt225 => ((update_Put.f k l1).bind fun bt227 => ((watchwordlaw0_Num.f bt225.2).bind fun t229 => (if t229 = 0 then ((watchwordlaw0_Num.f bt227.2).bind fun t230 => (watchwordlaw10_UpdateUnlike.j0 k l0 l1 bt225.1 bt225.2 bt227.1 bt227.2 (t230 != 0))) else (watchwordlaw10_UpdateUnlike.j0 k l0 l1 bt225.1 bt225.2 bt227.1 bt227.2 true))))) else (some false))
theorem watchwordlaw10_UpdateUnlike.mono_l : ∀ k, (∀ y0 y1 y2 y3 y4 y5 y6, LeO (watchwordlaw10_UpdateUnlike.j0 k y0 y1 y2 y3 y4 y5 y6) (watchwordlaw10_UpdateUnlike.j0 (k + 1) y0 y1 y2 y3 y4 y5 y6))
 | 0 => fun _ _ _ _ _ _ _ r h => by simp [watchwordlaw10_UpdateUnlike.j0] at h
 | k + 1 => by
  have ih0 := watchwordlaw10_UpdateUnlike.mono_l k
  ·intro y0 y1 y2 y3 y4 y5 y6
   unfold watchwordlaw10_UpdateUnlike.j0
   repeat' first
   | (with_reducible exact ih0 _ _ _ _ _ _ _)
   | (with_reducible exact update_Put.mono _ _)
   | (with_reducible exact watchwordlaw0_SameLsas.mono _ _ _)
   | (with_reducible exact watchwordlaw10_awake.mono _)
   | (with_reducible exact LeO.refl _)
   | (with_reducible exact LeO.none _)
   | (with_reducible refine LeO.ite ?_ ?_)
   | (with_reducible refine LeO.bind ?_ (fun _ => ?_))
   | exact ih0 _ _ _ _ _ _ _
   | exact update_Put.mono _ _
   | exact watchwordlaw0_SameLsas.mono _ _ _
   | exact watchwordlaw10_awake.mono _
   | exact LeO.none _
   | refine LeO.ite ?_ ?_
   | refine LeO.bind ?_ (fun _ => ?_)
theorem watchwordlaw10_UpdateUnlike.mono : ∀ a0 a1 k, LeO (watchwordlaw10_UpdateUnlike.f k a0 a1) (watchwordlaw10_UpdateUnlike.f (k + 1) a0 a1) := by
 intro a0 a1 k
 have ih0 := watchwordlaw10_UpdateUnlike.mono_l k
 unfold watchwordlaw10_UpdateUnlike.f
 repeat' first
   | (with_reducible exact ih0 _ _ _ _ _ _ _)
   | (with_reducible exact update_Put.mono _ _)
   | (with_reducible exact watchwordlaw0_SameLsas.mono _ _ _)
   | (with_reducible exact watchwordlaw10_awake.mono _)
   | (with_reducible exact LeO.refl _)
   | (with_reducible exact LeO.none _)
   | (with_reducible refine LeO.ite ?_ ?_)
   | (with_reducible refine LeO.bind ?_ (fun _ => ?_))
   | exact ih0 _ _ _ _ _ _ _
   | exact update_Put.mono _ _
   | exact watchwordlaw0_SameLsas.mono _ _ _
   | exact watchwordlaw10_awake.mono _
   | exact LeO.none _
   | refine LeO.ite ?_ ?_
   | refine LeO.bind ?_ (fun _ => ?_)
set_option maxHeartbeats 8000000 in
set_option maxRecDepth 100000 in
theorem watchwordlaw10_UpdateUnlike.calls (k : Nat) (A0 : Option Addr) (c0 : Nat) (l0 : List (S24)) (A1 : Option Addr) (c1 : Nat) (l1 : List (S24)) (r : Bool) (w : World) (hr0 : Kd.C k24 w A0 l0.length l0) (hc0 : l0.length ≤ c0) (hr1 : Kd.C k24 w A1 l1.length l1) (hc1 : l1.length ≤ c1) (h : watchwordlaw10_UpdateUnlike.f k l0 l1 = some r) (hT : r = true) :
  Calls Try.prog 11 #[.slice A0 l0.length c0, .slice A1 l1.length c1] w fun e w' => e = .returned (.bool r) ∧ Below w.heap.size w w' := by
 have HR0 := Aside0.mk hr0
 have HC0 := Aside0.mk hc0
 clear hr0 hc0
 have HR1 := Aside0.mk hr1
 have HC1 := Aside0.mk hc1
 clear hr1 hc1
 have HB := Aside0.mk (Below.refl w.heap.size w)
 have HT := Aside0.mk hT
 clear hT
 have H : ((watchwordlaw10_awake.f k).bind fun t224 => (if t224 = true then ((update_Put.f k l0).bind fun bt225 => ((update_Put.f k l1).bind fun bt227 => ((watchwordlaw0_Num.f bt225.2).bind fun t229 => (if t229 = 0 then ((watchwordlaw0_Num.f bt227.2).bind fun t230 => (watchwordlaw10_UpdateUnlike.j0 k l0 l1 bt225.1 bt225.2 bt227.1 bt227.2 (t230 != 0))) else (watchwordlaw10_UpdateUnlike.j0 k l0 l1 bt225.1 bt225.2 bt227.1 bt227.2 true))))) else (some false))) = some r := h
 clear h
 replace H := Option.bind_eq_some_iff.mp H
 obtain ⟨t224, A30, H⟩ := H
 replace H : (if t224 = true then ((update_Put.f k l0).bind fun bt225 => ((update_Put.f k l1).bind fun bt227 => ((watchwordlaw0_Num.f bt225.2).bind fun t229 => (if t229 = 0 then ((watchwordlaw0_Num.f bt227.2).bind fun t230 => (watchwordlaw10_UpdateUnlike.j0 k l0 l1 bt225.1 bt225.2 bt227.1 bt227.2 (t230 != 0))) else (watchwordlaw10_UpdateUnlike.j0 k l0 l1 bt225.1 bt225.2 bt227.1 bt227.2 true))))) else (some false)) = some r := H
 have A3 := Aside0.mk A30
 clear A30
 by_cases c4 : t224 = true
 ·subst c4
  have H1 : ((update_Put.f k l0).bind fun bt225 => ((update_Put.f k l1).bind fun bt227 => ((watchwordlaw0_Num.f bt225.2).bind fun t229 => (if t229 = 0 then ((watchwordlaw0_Num.f bt227.2).bind fun t230 => (watchwordlaw10_UpdateUnlike.j0 k l0 l1 bt225.1 bt225.2 bt227.1 bt227.2 (t230 != 0))) else (watchwordlaw10_UpdateUnlike.j0 k l0 l1 bt225.1 bt225.2 bt227.1 bt227.2 true))))) = some r := by rw [if_pos rfl] at H; exact H
  clear H
  have H := H1
  clear H1
  replace H := Option.bind_eq_some_iff.mp H
  obtain ⟨⟨t225, t226⟩, A50, H⟩ := H
  replace H : ((update_Put.f k l1).bind fun bt227 => ((watchwordlaw0_Num.f t226).bind fun t229 => (if t229 = 0 then ((watchwordlaw0_Num.f bt227.2).bind fun t230 => (watchwordlaw10_UpdateUnlike.j0 k l0 l1 t225 t226 bt227.1 bt227.2 (t230 != 0))) else (watchwordlaw10_UpdateUnlike.j0 k l0 l1 t225 t226 bt227.1 bt227.2 true)))) = some r := H
  have A5 := Aside0.mk A50
  clear A50
  replace H := Option.bind_eq_some_iff.mp H
  obtain ⟨⟨t227, t228⟩, A60, H⟩ := H
  replace H : ((watchwordlaw0_Num.f t226).bind fun t229 => (if t229 = 0 then ((watchwordlaw0_Num.f t228).bind fun t230 => (watchwordlaw10_UpdateUnlike.j0 k l0 l1 t225 t226 t227 t228 (t230 != 0))) else (watchwordlaw10_UpdateUnlike.j0 k l0 l1 t225 t226 t227 t228 true))) = some r := H
  have A6 := Aside0.mk A60
  clear A60
  have HC7 := Aside0.mk H
  clear H
  go_enter Try.func11, Try.ntmps11
  go_upto_region 5 with (first | ((with_reducible refine gate_callee (f := 34) rfl ?_); refine goesL_ (some 9) rfl rfl Try.func34 (by kernel_rfl) rfl #[] rfl (by (try simp only [List.map_toArray, List.map_cons, List.map_nil]); first | done | rfl | (simp only [List.length_drop, List.length_take]; rfl)) ?_; (with_reducible refine (watchwordlaw10_awake.calls k  true _ A3.out (by first | rfl | exact HT.out)).mono ?_); rintro e w8 ⟨rfl, hb⟩; refine ⟨_, rfl, ?_⟩; have n0_ := Aside0.mk (below_step (by repeat (first | (with_reducible first | exact HB.out | apply below_alloc | apply pw_below_drewN | apply below_drew1) | exact HB.out)) hb); clear HB; have HB := n0_; clear n0_; (try clear hb); (try clear hb2); (try clear hk); (try clear hi)) | ((with_reducible refine gate_callee (f := 26) rfl ?_); refine goesL_ (some 13) rfl rfl Try.func26 (by kernel_rfl) rfl #[.slice A0 l0.length c0] rfl (by (try simp only [List.map_toArray, List.map_cons, List.map_nil]); first | done | rfl | (simp only [List.length_drop, List.length_take]; rfl)) ?_; (with_reducible refine (update_Put.calls k _ _ l0 t225 t226 _ ?side1 ?side2 A5.out).mono ?_); (case side1 => repeat (first | exact (Kd.C_below HR0.out HB.out) | (with_reducible refine Kd.C_alloc ?_ _) | (with_reducible refine Kd.C_drewN ?_ _) | (with_reducible refine Kd.C_drew ?_))); (case side2 => exact HC0.out); rintro e w9 ⟨rfl, hb⟩; refine ⟨_, rfl, ?_⟩; have n0_ := Aside0.mk (below_step (by repeat (first | (with_reducible first | exact HB.out | apply below_alloc | apply pw_below_drewN | apply below_drew1) | exact HB.out)) hb); clear HB; have HB := n0_; clear n0_; (try clear hb); (try clear hb2); (try clear hk); (try clear hi)) | ((with_reducible refine gate_callee (f := 26) rfl ?_); refine goesL_ (some 18) rfl rfl Try.func26 (by kernel_rfl) rfl #[.slice A1 l1.length c1] rfl (by (try simp only [List.map_toArray, List.map_cons, List.map_nil]); first | done | rfl | (simp only [List.length_drop, List.length_take]; rfl)) ?_; (with_reducible refine (update_Put.calls k _ _ l1 t227 t228 _ ?side1 ?side2 A6.out).mono ?_); (case side1 => repeat (first | exact (Kd.C_below HR1.out HB.out) | (with_reducible refine Kd.C_alloc ?_ _) | (with_reducible refine Kd.C_drewN ?_ _) | (with_reducible refine Kd.C_drew ?_))); (case side2 => exact HC1.out); rintro e w10 ⟨rfl, hb⟩; refine ⟨_, rfl, ?_⟩; have n0_ := Aside0.mk (below_step (by repeat (first | (with_reducible first | exact HB.out | apply below_alloc | apply pw_below_drewN | apply below_drew1) | exact HB.out)) hb); clear HB; have HB := n0_; clear n0_; (try clear hb); (try clear hb2); (try clear hk); (try clear hi)))
  (try simp only [Act.put, List.setIfInBounds_toArray, List.set_cons_zero, List.set_cons_succ])
  go_cut [28] (fun v28 wc => ∃ (kq : Nat) (x28_6 : Bool), v28 = .bool x28_6 ∧ Aside0 (watchwordlaw10_UpdateUnlike.j0 kq l0 l1 t225 t226 t227 t228 x28_6 = some r) ∧ Aside0 (kq ≤ k) ∧ Aside0 (Below w.heap.size w wc))
  case first =>
   have H := HC7.out
   clear HC7
   replace H := Option.bind_eq_some_iff.mp H
   obtain ⟨t229, A110, H⟩ := H
   replace H : (if t229 = 0 then ((watchwordlaw0_Num.f t228).bind fun t230 => (watchwordlaw10_UpdateUnlike.j0 k l0 l1 t225 t226 t227 t228 (t230 != 0))) else (watchwordlaw10_UpdateUnlike.j0 k l0 l1 t225 t226 t227 t228 true)) = some r := H
   have A11 := Aside0.mk A110
   clear A110
   by_cases c12 : t229 = 0
   ·rw [if_pos c12] at H
    have c12b0 : (t229 == 0) = true := beq_iff_eq.mpr c12
    have c12b1 : (t229 != 0) = false := bne_eq_false_iff_eq.mpr c12
    clear c12
    (first | rw [c12b0] | (simp only [i64_w, i32_w]; rw [c12b0]) | skip)
    replace H := Option.bind_eq_some_iff.mp H
    obtain ⟨t230, A130, H⟩ := H
    replace H : (watchwordlaw10_UpdateUnlike.j0 k l0 l1 t225 t226 t227 t228 (t230 != 0)) = some r := H
    have A13 := Aside0.mk A130
    clear A130
    have H' := Aside0.mk H
    clear H
    go_wp2_with (first | ((with_reducible refine gate_callee (f := 19) rfl ?_); refine goesL_ (some 22) rfl rfl Try.func19 (by kernel_rfl) rfl #[.int .i64 t226] rfl (by (try simp only [List.map_toArray, List.map_cons, List.map_nil]); first | done | rfl | (simp only [List.length_drop, List.length_take]; rfl)) ?_; (with_reducible refine (watchwordlaw0_Num.calls t226 t229 _ A11.out).mono ?_); rintro e w' ⟨rfl, ⟨nd, rfl⟩⟩; refine ⟨_, rfl, ?_⟩) | (go_at_call 19; (with_reducible refine (watchwordlaw0_Num.calls t228 t230 _ A13.out).mono ?_); rintro e w' ⟨rfl, ⟨nd, rfl⟩⟩))
    go_meet
    case rel => exact ⟨_, ((t230 != 0)), (by first | rfl | (simp; done) | (simp [*]; done)), H', ⟨by first | omega | exact Nat.le_refl _⟩, ⟨by repeat (first | (with_reducible first | exact HB.out | apply below_alloc | apply pw_below_drewN | apply below_drew1) | exact HB.out)⟩⟩
   ·rw [if_neg c12] at H
    have c12b0 : (t229 == 0) = false := beq_eq_false_iff_ne.mpr c12
    have c12b1 : (t229 != 0) = true := bne_iff_ne.mpr c12
    (first | rw [c12b0] | (simp only [i64_w, i32_w]; rw [c12b0]) | skip)
    have H' := Aside0.mk H
    clear H
    go_wp2_with (first | ((with_reducible refine gate_callee (f := 19) rfl ?_); refine goesL_ (some 22) rfl rfl Try.func19 (by kernel_rfl) rfl #[.int .i64 t226] rfl (by (try simp only [List.map_toArray, List.map_cons, List.map_nil]); first | done | rfl | (simp only [List.length_drop, List.length_take]; rfl)) ?_; (with_reducible refine (watchwordlaw0_Num.calls t226 t229 _ A11.out).mono ?_); rintro e w' ⟨rfl, ⟨nd, rfl⟩⟩; refine ⟨_, rfl, ?_⟩))
    go_meet
    case rel => exact ⟨_, (true), (by first | rfl | (simp; done) | (simp [*]; done)), H', ⟨by first | omega | exact Nat.le_refl _⟩, ⟨by repeat (first | (with_reducible first | exact HB.out | apply below_alloc | apply pw_below_drewN | apply below_drew1) | exact HB.out)⟩⟩
  case rest =>
   clear HC7
   try clear c1
   try clear c2
   try clear p2
   try clear c3
   try clear c4
   try clear c11
   try clear c12
   try clear c12b0
   try clear c12b1
   obtain ⟨kq, x28_6, rfl, HA, HJ6, HB⟩ := hcut
   cases kq with
   | zero => exact absurd HA.out (by simp [watchwordlaw10_UpdateUnlike.j0])
   | succ kj6 =>
    have H := HA.out
    clear HA
    simp only [watchwordlaw10_UpdateUnlike.j0] at H
    by_cases c14 : x28_6 = true
    ·subst c14
     have H1 : ((watchwordlaw0_Num.f t226).bind fun t231 => (if t231 = 0 then ((watchwordlaw0_Num.f t228).bind fun t232 => (if t232 = 0 then (some true) else (some (t227.toList == ([] : List UInt8))))) else (if t225.toList = ([] : List UInt8) then ((watchwordlaw0_Num.f t228).bind fun t233 => (if t233 = 0 then (some true) else (some (t227.toList == ([] : List UInt8))))) else (some false)))) = some r := by rw [if_pos rfl] at H; exact H
     clear H
     have H := H1
     clear H1
     replace H := Option.bind_eq_some_iff.mp H
     obtain ⟨t231, A150, H⟩ := H
     replace H : (if t231 = 0 then ((watchwordlaw0_Num.f t228).bind fun t232 => (if t232 = 0 then (some true) else (some (t227.toList == ([] : List UInt8))))) else (if t225.toList = ([] : List UInt8) then ((watchwordlaw0_Num.f t228).bind fun t233 => (if t233 = 0 then (some true) else (some (t227.toList == ([] : List UInt8))))) else (some false))) = some r := H
     have A15 := Aside0.mk A150
     clear A150
     by_cases c16 : t231 = 0
     ·rw [if_pos c16] at H
      have c16b0 : (t231 == 0) = true := beq_iff_eq.mpr c16
      have c16b1 : (t231 != 0) = false := bne_eq_false_iff_eq.mpr c16
      clear c16
      replace H := Option.bind_eq_some_iff.mp H
      obtain ⟨t232, A170, H⟩ := H
      replace H : (if t232 = 0 then (some true) else (some (t227.toList == ([] : List UInt8)))) = some r := H
      have A17 := Aside0.mk A170
      clear A170
      by_cases c18 : t232 = 0
      ·rw [if_pos c18] at H
       have c18b0 : (t232 == 0) = true := beq_iff_eq.mpr c18
       have c18b1 : (t232 != 0) = false := bne_eq_false_iff_eq.mpr c18
       clear c18
       obtain rfl := Option.some.inj H
       go_wp2_with (first | ((with_reducible refine gate_callee (f := 19) rfl ?_); refine goesL_ (some 30) rfl rfl Try.func19 (by kernel_rfl) rfl #[.int .i64 t226] rfl (by (try simp only [List.map_toArray, List.map_cons, List.map_nil]); first | done | rfl | (simp only [List.length_drop, List.length_take]; rfl)) ?_; (with_reducible refine (watchwordlaw0_Num.calls t226 t231 _ A15.out).mono ?_); rintro e w' ⟨rfl, ⟨nd, rfl⟩⟩; refine ⟨_, rfl, ?_⟩) | (go_at_call 19; (with_reducible refine (watchwordlaw0_Num.calls t228 t232 _ A17.out).mono ?_); rintro e w' ⟨rfl, ⟨nd, rfl⟩⟩))
       go_ret
       exact ⟨by first | rfl | (simp [errW_none, errW_some] <;> rfl) | (simp [*, errW_none, errW_some] <;> rfl), by repeat (first | (with_reducible first | exact HB.out | apply below_alloc | apply pw_below_drewN | apply below_drew1) | exact HB.out)⟩
      ·rw [if_neg c18] at H
       have c18b0 : (t232 == 0) = false := beq_eq_false_iff_ne.mpr c18
       have c18b1 : (t232 != 0) = true := bne_iff_ne.mpr c18
       obtain rfl := Option.some.inj H
       go_wp2_with (first | ((with_reducible refine gate_callee (f := 19) rfl ?_); refine goesL_ (some 30) rfl rfl Try.func19 (by kernel_rfl) rfl #[.int .i64 t226] rfl (by (try simp only [List.map_toArray, List.map_cons, List.map_nil]); first | done | rfl | (simp only [List.length_drop, List.length_take]; rfl)) ?_; (with_reducible refine (watchwordlaw0_Num.calls t226 t231 _ A15.out).mono ?_); rintro e w' ⟨rfl, ⟨nd, rfl⟩⟩; refine ⟨_, rfl, ?_⟩) | (go_at_call 19; (with_reducible refine (watchwordlaw0_Num.calls t228 t232 _ A17.out).mono ?_); rintro e w' ⟨rfl, ⟨nd, rfl⟩⟩))
       go_ret
       exact ⟨by first | rfl | (simp [errW_none, errW_some] <;> rfl) | (simp [*, errW_none, errW_some] <;> rfl), by repeat (first | (with_reducible first | exact HB.out | apply below_alloc | apply pw_below_drewN | apply below_drew1) | exact HB.out)⟩
     ·rw [if_neg c16] at H
      have c16b0 : (t231 == 0) = false := beq_eq_false_iff_ne.mpr c16
      have c16b1 : (t231 != 0) = true := bne_iff_ne.mpr c16
      by_cases c19 : t225.toList = ([] : List UInt8)
      ·rw [if_pos c19] at H
       have c19b0 : (t225.toList == ([] : List UInt8)) = true := beq_iff_eq.mpr c19
       have c19b1 : (t225.toList != ([] : List UInt8)) = false := bne_eq_false_iff_eq.mpr c19
       clear c19
       replace H := Option.bind_eq_some_iff.mp H
       obtain ⟨t233, A200, H⟩ := H
       replace H : (if t233 = 0 then (some true) else (some (t227.toList == ([] : List UInt8)))) = some r := H
       have A20 := Aside0.mk A200
       clear A200
       by_cases c21 : t233 = 0
       ·rw [if_pos c21] at H
        have c21b0 : (t233 == 0) = true := beq_iff_eq.mpr c21
        have c21b1 : (t233 != 0) = false := bne_eq_false_iff_eq.mpr c21
        clear c21
        obtain rfl := Option.some.inj H
        go_wp2_with (first | ((with_reducible refine gate_callee (f := 19) rfl ?_); refine goesL_ (some 30) rfl rfl Try.func19 (by kernel_rfl) rfl #[.int .i64 t226] rfl (by (try simp only [List.map_toArray, List.map_cons, List.map_nil]); first | done | rfl | (simp only [List.length_drop, List.length_take]; rfl)) ?_; (with_reducible refine (watchwordlaw0_Num.calls t226 t231 _ A15.out).mono ?_); rintro e w' ⟨rfl, ⟨nd, rfl⟩⟩; refine ⟨_, rfl, ?_⟩) | (go_at_call 19; (with_reducible refine (watchwordlaw0_Num.calls t228 t233 _ A20.out).mono ?_); rintro e w' ⟨rfl, ⟨nd, rfl⟩⟩))
        go_ret
        exact ⟨by first | rfl | (simp [errW_none, errW_some] <;> rfl) | (simp [*, errW_none, errW_some] <;> rfl), by repeat (first | (with_reducible first | exact HB.out | apply below_alloc | apply pw_below_drewN | apply below_drew1) | exact HB.out)⟩
       ·rw [if_neg c21] at H
        have c21b0 : (t233 == 0) = false := beq_eq_false_iff_ne.mpr c21
        have c21b1 : (t233 != 0) = true := bne_iff_ne.mpr c21
        obtain rfl := Option.some.inj H
        go_wp2_with (first | ((with_reducible refine gate_callee (f := 19) rfl ?_); refine goesL_ (some 30) rfl rfl Try.func19 (by kernel_rfl) rfl #[.int .i64 t226] rfl (by (try simp only [List.map_toArray, List.map_cons, List.map_nil]); first | done | rfl | (simp only [List.length_drop, List.length_take]; rfl)) ?_; (with_reducible refine (watchwordlaw0_Num.calls t226 t231 _ A15.out).mono ?_); rintro e w' ⟨rfl, ⟨nd, rfl⟩⟩; refine ⟨_, rfl, ?_⟩) | (go_at_call 19; (with_reducible refine (watchwordlaw0_Num.calls t228 t233 _ A20.out).mono ?_); rintro e w' ⟨rfl, ⟨nd, rfl⟩⟩))
        go_ret
        exact ⟨by first | rfl | (simp [errW_none, errW_some] <;> rfl) | (simp [*, errW_none, errW_some] <;> rfl), by repeat (first | (with_reducible first | exact HB.out | apply below_alloc | apply pw_below_drewN | apply below_drew1) | exact HB.out)⟩
      ·rw [if_neg c19] at H
       have c19b0 : (t225.toList == ([] : List UInt8)) = false := beq_eq_false_iff_ne.mpr c19
       have c19b1 : (t225.toList != ([] : List UInt8)) = true := bne_iff_ne.mpr c19
       exact absurd (Option.some.inj H) (by rw [HT.out]; decide)
    ·replace c14 := Bool.eq_false_iff.mpr c14
     subst c14
     have H1 : ((watchwordlaw0_SameLsas.f kj6 l0 l1).bind fun t234 => (some ((t225.toList == t227.toList) == t234))) = some r := by rw [if_neg (show ¬ (false = true) by decide)] at H; exact H
     clear H
     have H := H1
     clear H1
     replace H := Option.bind_eq_some_iff.mp H
     obtain ⟨t234, A220, H⟩ := H
     replace H : (some ((t225.toList == t227.toList) == t234)) = some r := H
     have A22 := Aside0.mk A220
     clear A220
     obtain rfl := Option.some.inj H
     go_wp2_with (first | ((with_reducible refine gate_callee (f := 30) rfl ?_); refine goesL_ (some 50) rfl rfl Try.func30 (by kernel_rfl) rfl #[.slice A0 l0.length c0, .slice A1 l1.length c1] rfl (by (try simp only [List.map_toArray, List.map_cons, List.map_nil]); first | done | rfl | (simp only [List.length_drop, List.length_take]; rfl)) ?_; (with_reducible refine (watchwordlaw0_SameLsas.calls kj6 _ _ l0 _ _ l1 t234 _ ?side1 ?side2 ?side3 ?side4 A22.out).mono ?_); (case side1 => repeat (first | exact (Kd.C_below HR0.out HB.out) | (with_reducible refine Kd.C_alloc ?_ _) | (with_reducible refine Kd.C_drewN ?_ _) | (with_reducible refine Kd.C_drew ?_))); (case side2 => exact HC0.out); (case side3 => repeat (first | exact (Kd.C_below HR1.out HB.out) | (with_reducible refine Kd.C_alloc ?_ _) | (with_reducible refine Kd.C_drewN ?_ _) | (with_reducible refine Kd.C_drew ?_))); (case side4 => exact HC1.out); rintro e w23 ⟨rfl, hb⟩; refine ⟨_, rfl, ?_⟩; have n0_ := Aside0.mk (below_step (by repeat (first | (with_reducible first | exact HB.out | apply below_alloc | apply pw_below_drewN | apply below_drew1) | exact HB.out)) hb); clear HB; have HB := n0_; clear n0_; (try clear hb); (try clear hb2); (try clear hk); (try clear hi)))
     go_ret
     exact ⟨by first | rfl | (simp [errW_none, errW_some] <;> rfl) | (simp [*, errW_none, errW_some] <;> rfl), by repeat (first | (with_reducible first | exact HB.out | apply below_alloc | apply pw_below_drewN | apply below_drew1) | exact HB.out)⟩
 ·replace c4 := Bool.eq_false_iff.mpr c4
  subst c4
  have H1 : (some false) = some r := by rw [if_neg (show ¬ (false = true) by decide)] at H; exact H
  clear H
  have H := H1
  clear H1
  exact absurd (Option.some.inj H) (by rw [HT.out]; decide)

end Go.Proofs.Ytmcajcomoegkdaa.Q10
