/- Written by a program of this session out of the print of the loaded functions: each Go function as a plain function, and that its call comes to it; for a law, the row out of its plain statement. -/
import Derived.Test.YtkfnbnfdcfcfpaaQ9ax120
import Derived.Test.YtkfnbnfdcfcfpaaQ9ax0
import Derived.Test.YtkfnbnfdcfcfpaaQ9ax118
import Derived.Test.YtkfnbnfdcfcfpaaQ9ax121
import Derived.Test.YtkfnbnfdcfcfpaaQ9ax122
import Derived.Test.YtkfnbnfdcfcfpaaQ9ax123
import Derived.Test.YtkfnbnfdcfcfpaaQ9ax124
import Derived.Test.YtkfnbnfdcfcfpaaQ9ax125
import Derived.Test.YtkfnbnfdcfcfpaaQ9ax126
import Derived.Test.YtkfnbnfdcfcfpaaQ9ax127
import Derived.Test.YtkfnbnfdcfcfpaaQ9ax128
import Derived.Test.YtkfnbnfdcfcfpaaQ9ax129
import Derived.Test.YtkfnbnfdcfcfpaaQ9ax130
namespace Go.Proofs.Ytkfnbnfdcfcfpaa.Q9a
open Go.RowKit Go.Proofs.YtkfnbnfdcfcfpaaW.PrintWords Go.Proofs.YtkfnbnfdcfcfpaaW.PrintLast Go.Proofs.YtkfnbnfdcfcfpaaW.PrintMore
attribute [local go_sem] max2_int min2_int max_two min_two max_three min_three max_four min_four   -- for this text's walks alone
set_option linter.unusedVariables false
set_option linter.unusedSimpArgs false

/-! ### watchwordlaw9_Hellos: function 7 -/
def watchwordlaw9_Hellos.j0 : Nat → List Int → List Int → List Int → List Int → Bool → Option (Bool)
  | 0, _, _, _, _, _ => none
  | k + 1, x0, x3, x5, x10, x63 => if x63 = true then (some false) else ((watchwordlaw0_SpoilInts.f k x10).bind fun t202 => ((watchwordlaw0_KeptInts.f k x5 x0 x3).bind fun t203 => (if t203 = true then ((watchwordlaw9_awake.f k).bind fun t204 => (some t204)) else (some false))))
def watchwordlaw9_Hellos.g (k : Nat) (l0 : List Int) (a1 : ByteArray) (l2 : List Int) (l3 : List Int) : Option (Bool) := (hello_Put.f k l2).bind fun bt185 => ((watchwordref9_PutHello.f k l0).bind fun bt187 => ((hello_Get.f k a1).bind fun bt189 => ((watchwordref9_GetHello.f k a1).bind fun bt193 => (if bt185.1.toList = bt187.1.toList then ((watchwordlaw0_Num.f bt185.2).bind fun t197 => (if t197 = bt187.2 then ((watchwordlaw0_SameInts.f k bt189.1 bt193.1).bind fun t198 => (if t198 = true then ((watchwordlaw0_Num.f bt189.2).bind fun t199 => (if t199 = bt193.2 then ((hello_May.f k l2).bind fun t200 => ((watchwordref9_HeardMay.f k l0).bind fun t201 => (watchwordlaw9_Hellos.j0 k l0 l3 l2 bt189.1 (t200 != t201)))) else (watchwordlaw9_Hellos.j0 k l0 l3 l2 bt189.1 true))) else (watchwordlaw9_Hellos.j0 k l0 l3 l2 bt189.1 true))) else (watchwordlaw9_Hellos.j0 k l0 l3 l2 bt189.1 true))) else (watchwordlaw9_Hellos.j0 k l0 l3 l2 bt189.1 true)))))
theorem watchwordlaw9_Hellos.mono_l : ∀ k, (∀ y0 y1 y2 y3 y4, LeO (watchwordlaw9_Hellos.j0 k y0 y1 y2 y3 y4) (watchwordlaw9_Hellos.j0 (k + 1) y0 y1 y2 y3 y4))
  | 0 => fun _ _ _ _ _ r h => by simp [watchwordlaw9_Hellos.j0] at h
  | k + 1 => by
    have ih0 := watchwordlaw9_Hellos.mono_l k
    · intro y0 y1 y2 y3 y4
      unfold watchwordlaw9_Hellos.j0
      repeat' first
      | (with_reducible exact ih0 _ _ _ _ _)
      | (with_reducible exact hello_Get.mono _ _)
      | (with_reducible exact hello_May.mono _ _)
      | (with_reducible exact hello_Put.mono _ _)
      | (with_reducible exact watchwordlaw0_KeptInts.mono _ _ _ _)
      | (with_reducible exact watchwordlaw0_SameInts.mono _ _ _)
      | (with_reducible exact watchwordlaw0_SpoilInts.mono _ _)
      | (with_reducible exact watchwordlaw9_awake.mono _)
      | (with_reducible exact watchwordref9_GetHello.mono _ _)
      | (with_reducible exact watchwordref9_HeardMay.mono _ _)
      | (with_reducible exact watchwordref9_PutHello.mono _ _)
      | (with_reducible exact LeO.refl _)
      | (with_reducible exact LeO.none _)
      | (with_reducible refine LeO.ite ?_ ?_)
      | (with_reducible refine LeO.bind ?_ (fun _ => ?_))
      | exact ih0 _ _ _ _ _
      | exact hello_Get.mono _ _
      | exact hello_May.mono _ _
      | exact hello_Put.mono _ _
      | exact watchwordlaw0_KeptInts.mono _ _ _ _
      | exact watchwordlaw0_SameInts.mono _ _ _
      | exact watchwordlaw0_SpoilInts.mono _ _
      | exact watchwordlaw9_awake.mono _
      | exact watchwordref9_GetHello.mono _ _
      | exact watchwordref9_HeardMay.mono _ _
      | exact watchwordref9_PutHello.mono _ _
      | exact LeO.none _
      | refine LeO.ite ?_ ?_
      | refine LeO.bind ?_ (fun _ => ?_)
theorem watchwordlaw9_Hellos.mono : ∀ a0 a1 a2 a3 k, LeO (watchwordlaw9_Hellos.g k a0 a1 a2 a3) (watchwordlaw9_Hellos.g (k + 1) a0 a1 a2 a3) := by
  intro a0 a1 a2 a3 k
  have ih0 := watchwordlaw9_Hellos.mono_l k
  unfold watchwordlaw9_Hellos.g
  repeat' first
      | (with_reducible exact ih0 _ _ _ _ _)
      | (with_reducible exact hello_Get.mono _ _)
      | (with_reducible exact hello_May.mono _ _)
      | (with_reducible exact hello_Put.mono _ _)
      | (with_reducible exact watchwordlaw0_KeptInts.mono _ _ _ _)
      | (with_reducible exact watchwordlaw0_SameInts.mono _ _ _)
      | (with_reducible exact watchwordlaw0_SpoilInts.mono _ _)
      | (with_reducible exact watchwordlaw9_awake.mono _)
      | (with_reducible exact watchwordref9_GetHello.mono _ _)
      | (with_reducible exact watchwordref9_HeardMay.mono _ _)
      | (with_reducible exact watchwordref9_PutHello.mono _ _)
      | (with_reducible exact LeO.refl _)
      | (with_reducible exact LeO.none _)
      | (with_reducible refine LeO.ite ?_ ?_)
      | (with_reducible refine LeO.bind ?_ (fun _ => ?_))
      | exact ih0 _ _ _ _ _
      | exact hello_Get.mono _ _
      | exact hello_May.mono _ _
      | exact hello_Put.mono _ _
      | exact watchwordlaw0_KeptInts.mono _ _ _ _
      | exact watchwordlaw0_SameInts.mono _ _ _
      | exact watchwordlaw0_SpoilInts.mono _ _
      | exact watchwordlaw9_awake.mono _
      | exact watchwordref9_GetHello.mono _ _
      | exact watchwordref9_HeardMay.mono _ _
      | exact watchwordref9_PutHello.mono _ _
      | exact LeO.none _
      | refine LeO.ite ?_ ?_
      | refine LeO.bind ?_ (fun _ => ?_)
set_option maxHeartbeats 8000000 in
set_option maxRecDepth 100000 in
theorem watchwordlaw9_Hellos.walk (k : Nat) (A0 : Option Addr) (c0 : Nat) (l0 : List Int) (a1 : ByteArray) (l2 : List Int) (l3 : List Int) (r : Bool) (w : World) (hr0 : Kd.C (Kd.int .i64) w A0 l0.length l0) (hc0 : l0.length ≤ c0) (hL : watchwordlaw0_LendInts.f l0 = some l2) (h3 : ∀ t_, watchwordlaw0_CopyInts.f l0 = some t_ → t_ ++ ([(-7777), (-8888)] : List Int) = l3) (hlen : l3.length = l2.length + 2) (hsz : l2.length ≤ 1000000000000000) (hle : l0.length ≤ l3.length) (h : watchwordlaw9_Hellos.g k l0 a1 l2 l3 = some r) (hT : r = true) :
    Calls Try.prog 7 #[.slice A0 l0.length c0, .string a1] w fun e w' => e = .returned (.bool r) ∧ Below w.heap.size w w' := by
  have HL_ := Aside0.mk hL
  have H3_ := Aside0.mk h3
  have HN_ := Aside0.mk hlen
  have HS_ := Aside0.mk hsz
  have HE_ := Aside0.mk hle
  clear hL h3 hlen hsz hle
  have HR0 := Aside0.mk hr0
  have HC0 := Aside0.mk hc0
  clear hr0 hc0
  have HB := Aside0.mk (Below.refl w.heap.size w)
  have HT := Aside0.mk hT
  clear hT
  have H : ((hello_Put.f k l2).bind fun bt185 => ((watchwordref9_PutHello.f k l0).bind fun bt187 => ((hello_Get.f k a1).bind fun bt189 => ((watchwordref9_GetHello.f k a1).bind fun bt193 => (if bt185.1.toList = bt187.1.toList then ((watchwordlaw0_Num.f bt185.2).bind fun t197 => (if t197 = bt187.2 then ((watchwordlaw0_SameInts.f k bt189.1 bt193.1).bind fun t198 => (if t198 = true then ((watchwordlaw0_Num.f bt189.2).bind fun t199 => (if t199 = bt193.2 then ((hello_May.f k l2).bind fun t200 => ((watchwordref9_HeardMay.f k l0).bind fun t201 => (watchwordlaw9_Hellos.j0 k l0 l3 l2 bt189.1 (t200 != t201)))) else (watchwordlaw9_Hellos.j0 k l0 l3 l2 bt189.1 true))) else (watchwordlaw9_Hellos.j0 k l0 l3 l2 bt189.1 true))) else (watchwordlaw9_Hellos.j0 k l0 l3 l2 bt189.1 true))) else (watchwordlaw9_Hellos.j0 k l0 l3 l2 bt189.1 true)))))) = some r := h
  clear h
  replace H := Option.bind_eq_some_iff.mp H
  obtain ⟨⟨t185, t186⟩, A50, H⟩ := H
  replace H : ((watchwordref9_PutHello.f k l0).bind fun bt187 => ((hello_Get.f k a1).bind fun bt189 => ((watchwordref9_GetHello.f k a1).bind fun bt193 => (if t185.toList = bt187.1.toList then ((watchwordlaw0_Num.f t186).bind fun t197 => (if t197 = bt187.2 then ((watchwordlaw0_SameInts.f k bt189.1 bt193.1).bind fun t198 => (if t198 = true then ((watchwordlaw0_Num.f bt189.2).bind fun t199 => (if t199 = bt193.2 then ((hello_May.f k l2).bind fun t200 => ((watchwordref9_HeardMay.f k l0).bind fun t201 => (watchwordlaw9_Hellos.j0 k l0 l3 l2 bt189.1 (t200 != t201)))) else (watchwordlaw9_Hellos.j0 k l0 l3 l2 bt189.1 true))) else (watchwordlaw9_Hellos.j0 k l0 l3 l2 bt189.1 true))) else (watchwordlaw9_Hellos.j0 k l0 l3 l2 bt189.1 true))) else (watchwordlaw9_Hellos.j0 k l0 l3 l2 bt189.1 true))))) = some r := H
  have A5 := Aside0.mk A50
  clear A50
  replace H := Option.bind_eq_some_iff.mp H
  obtain ⟨⟨t187, t188⟩, A60, H⟩ := H
  replace H : ((hello_Get.f k a1).bind fun bt189 => ((watchwordref9_GetHello.f k a1).bind fun bt193 => (if t185.toList = t187.toList then ((watchwordlaw0_Num.f t186).bind fun t197 => (if t197 = t188 then ((watchwordlaw0_SameInts.f k bt189.1 bt193.1).bind fun t198 => (if t198 = true then ((watchwordlaw0_Num.f bt189.2).bind fun t199 => (if t199 = bt193.2 then ((hello_May.f k l2).bind fun t200 => ((watchwordref9_HeardMay.f k l0).bind fun t201 => (watchwordlaw9_Hellos.j0 k l0 l3 l2 bt189.1 (t200 != t201)))) else (watchwordlaw9_Hellos.j0 k l0 l3 l2 bt189.1 true))) else (watchwordlaw9_Hellos.j0 k l0 l3 l2 bt189.1 true))) else (watchwordlaw9_Hellos.j0 k l0 l3 l2 bt189.1 true))) else (watchwordlaw9_Hellos.j0 k l0 l3 l2 bt189.1 true)))) = some r := H
  have A6 := Aside0.mk A60
  clear A60
  replace H := Option.bind_eq_some_iff.mp H
  obtain ⟨⟨t189, t190⟩, A70, H⟩ := H
  replace H : ((watchwordref9_GetHello.f k a1).bind fun bt193 => (if t185.toList = t187.toList then ((watchwordlaw0_Num.f t186).bind fun t197 => (if t197 = t188 then ((watchwordlaw0_SameInts.f k t189 bt193.1).bind fun t198 => (if t198 = true then ((watchwordlaw0_Num.f t190).bind fun t199 => (if t199 = bt193.2 then ((hello_May.f k l2).bind fun t200 => ((watchwordref9_HeardMay.f k l0).bind fun t201 => (watchwordlaw9_Hellos.j0 k l0 l3 l2 t189 (t200 != t201)))) else (watchwordlaw9_Hellos.j0 k l0 l3 l2 t189 true))) else (watchwordlaw9_Hellos.j0 k l0 l3 l2 t189 true))) else (watchwordlaw9_Hellos.j0 k l0 l3 l2 t189 true))) else (watchwordlaw9_Hellos.j0 k l0 l3 l2 t189 true))) = some r := H
  have A7 := Aside0.mk A70
  clear A70
  replace H := Option.bind_eq_some_iff.mp H
  obtain ⟨⟨t193, t194⟩, A80, H⟩ := H
  replace H : (if t185.toList = t187.toList then ((watchwordlaw0_Num.f t186).bind fun t197 => (if t197 = t188 then ((watchwordlaw0_SameInts.f k t189 t193).bind fun t198 => (if t198 = true then ((watchwordlaw0_Num.f t190).bind fun t199 => (if t199 = t194 then ((hello_May.f k l2).bind fun t200 => ((watchwordref9_HeardMay.f k l0).bind fun t201 => (watchwordlaw9_Hellos.j0 k l0 l3 l2 t189 (t200 != t201)))) else (watchwordlaw9_Hellos.j0 k l0 l3 l2 t189 true))) else (watchwordlaw9_Hellos.j0 k l0 l3 l2 t189 true))) else (watchwordlaw9_Hellos.j0 k l0 l3 l2 t189 true))) else (watchwordlaw9_Hellos.j0 k l0 l3 l2 t189 true)) = some r := H
  have A8 := Aside0.mk A80
  clear A80
  have HC9 := Aside0.mk H
  clear H
  go_enter Try.func7, Try.ntmps7
  go_upto_region 2 with (first | ((with_reducible refine gate_callee (f := 20) rfl ?_); refine goesL_ (some 15) rfl rfl Try.func20 (by kernel_rfl) rfl #[.slice A0 l0.length c0] rfl (by (try simp only [List.map_toArray, List.map_cons, List.map_nil]); first | done | rfl) ?_; (with_reducible refine (watchwordlaw0_LendInts.lent _ _ l0 l2 _ ?side1 ?side2 HL_.out).mono ?_); (case side1 => repeat (first | exact HR0.out | (with_reducible refine Kd.C_alloc ?_ _) | (with_reducible refine Kd.C_drewN ?_ _) | (with_reducible refine Kd.C_drew ?_))); (case side2 => exact HC0.out); rintro e w1 ⟨A2, c2, y_, t_, rfl, hc1_, hy_, hr_, hk_, hn_, hb⟩; refine ⟨_, rfl, ?_⟩; have HB0 := Aside0.mk (below_step (by repeat (first | (with_reducible first | exact HB.out | apply below_alloc | apply pw_below_drewN | apply below_drew1) | exact HB.out)) hb); have HY1 := Aside0.mk hc1_; have HY2 := Aside0.mk hy_; have HY3 := Aside0.mk hr_; have HY4 := Aside0.mk hk_; have HY5 := Aside0.mk hn_; clear hb hc1_ hy_ hr_ hk_ hn_))
  have hye_ : y_ = l3 := HY2.out.trans (H3_.out _ HY1.out)
  have HC2 := Aside0.mk (show l2.length ≤ c2 by have hn_ := HY5.out; rw [hye_, HN_.out] at hn_; omega)
  have HC3 := Aside0.mk (show l3.length ≤ c2 by have hn_ := HY5.out; rw [hye_] at hn_; exact hn_)
  have HR2 := Aside0.mk (show Kd.C (Kd.int .i64) w1 A2 l2.length l2 by rw [HY3.out]; exact Kd.C_take HY4.out (by rw [hye_]; exact HE_.out))
  have HR3 := Aside0.mk (show Kd.C (Kd.int .i64) w1 A2 l3.length l3 by rw [← hye_]; exact HY4.out)
  have hr0_ := Kd.C_below HR0.out HB0.out
  clear HR0 HB HY1 HY2 HY3 HY4 HY5 hye_
  have HR0 := Aside0.mk hr0_
  clear hr0_
  have HB := Aside0.mk (Below.refl w1.heap.size w1)
  go_upto_region 6 with (first | ((with_reducible refine gate_callee (f := 21) rfl ?_); refine goesL_ (some 18) rfl rfl Try.func21 (by kernel_rfl) rfl #[.slice A2 l2.length c2] rfl (by (try simp only [List.map_toArray, List.map_cons, List.map_nil]); first | done | rfl | (simp only [List.length_drop, List.length_take]; rfl)) ?_; (with_reducible refine (hello_Put.calls k _ _ l2 t185 t186 _ ?side1 ?side2 A5.out).mono ?_); (case side1 => repeat (first | exact HR2.out | (with_reducible refine Kd.C_alloc ?_ _) | (with_reducible refine Kd.C_drewN ?_ _) | (with_reducible refine Kd.C_drew ?_))); (case side2 => exact HC2.out); rintro e w10 ⟨rfl, hb⟩; refine ⟨_, rfl, ?_⟩; have n0_ := Aside0.mk (below_step (by repeat (first | (with_reducible first | exact HB.out | apply below_alloc | apply pw_below_drewN | apply below_drew1) | exact HB.out)) hb); clear HB; have HB := n0_; clear n0_; (try clear hb); (try clear hb2); (try clear hk); (try clear hi)) | ((with_reducible refine gate_callee (f := 22) rfl ?_); refine goesL_ (some 23) rfl rfl Try.func22 (by kernel_rfl) rfl #[.slice A0 l0.length c0] rfl (by (try simp only [List.map_toArray, List.map_cons, List.map_nil]); first | done | rfl | (simp only [List.length_drop, List.length_take]; rfl)) ?_; (with_reducible refine (watchwordref9_PutHello.calls k _ _ l0 t187 t188 _ ?side1 ?side2 A6.out).mono ?_); (case side1 => repeat (first | exact (Kd.C_below HR0.out HB.out) | (with_reducible refine Kd.C_alloc ?_ _) | (with_reducible refine Kd.C_drewN ?_ _) | (with_reducible refine Kd.C_drew ?_))); (case side2 => exact HC0.out); rintro e w11 ⟨rfl, hb⟩; refine ⟨_, rfl, ?_⟩; have n0_ := Aside0.mk (below_step (by repeat (first | (with_reducible first | exact HB.out | apply below_alloc | apply pw_below_drewN | apply below_drew1) | exact HB.out)) hb); clear HB; have HB := n0_; clear n0_; (try clear hb); (try clear hb2); (try clear hk); (try clear hi)) | ((with_reducible refine gate_callee (f := 23) rfl ?_); refine goesL_ (some 28) rfl rfl Try.func23 (by kernel_rfl) rfl #[.string a1] rfl (by (try simp only [List.map_toArray, List.map_cons, List.map_nil]); first | done | rfl | (simp only [List.length_drop, List.length_take]; rfl)) ?_; (with_reducible refine (hello_Get.calls k a1 t189 t190 _ A7.out).mono ?_); rintro e w12 ⟨v191, rfl, ho0, hb⟩; refine ⟨_, rfl, ?_⟩; have n0_ := Aside0.mk (Kd.R_lower ho0 (below_size (by repeat (first | (with_reducible first | exact HB.out | apply below_alloc | apply pw_below_drewN | apply below_drew1) | exact HB.out)))); have n1_ := Aside0.mk (below_step (by repeat (first | (with_reducible first | exact HB.out | apply below_alloc | apply pw_below_drewN | apply below_drew1) | exact HB.out)) hb); clear HB; have HO192 := n0_; have HB := n1_; clear n0_ n1_; (try clear hb); (try clear hb2); (try clear hk); (try clear hi); (try clear ho0)) | ((with_reducible refine gate_callee (f := 24) rfl ?_); refine goesL_ (some 33) rfl rfl Try.func24 (by kernel_rfl) rfl #[.string a1] rfl (by (try simp only [List.map_toArray, List.map_cons, List.map_nil]); first | done | rfl | (simp only [List.length_drop, List.length_take]; rfl)) ?_; (with_reducible refine (watchwordref9_GetHello.calls k a1 t193 t194 _ A8.out).mono ?_); rintro e w13 ⟨v195, rfl, ho0, hb⟩; refine ⟨_, rfl, ?_⟩; have n0_ := Aside0.mk (Kd.R_elder' (by (with_reducible repeat (first | apply Kd.R_alloc | apply Kd.R_drewN | apply Kd.R_drew)); exact HO192.out) (Kd.R_base ho0) hb); have n1_ := Aside0.mk (Kd.R_lower (Kd.R_new' ho0 (Kd.R_lt (by (with_reducible repeat (first | apply Kd.R_alloc | apply Kd.R_drewN | apply Kd.R_drew)); exact HO192.out))) (below_size (by repeat (first | (with_reducible first | exact HB.out | apply below_alloc | apply pw_below_drewN | apply below_drew1) | exact HB.out)))); have n2_ := Aside0.mk (below_step (by repeat (first | (with_reducible first | exact HB.out | apply below_alloc | apply pw_below_drewN | apply below_drew1) | exact HB.out)) hb); clear HO192; clear HB; have HO192 := n0_; have HO196 := n1_; have HB := n2_; clear n0_ n1_ n2_; (try clear hb); (try clear hb2); (try clear hk); (try clear hi); (try clear ho0)))
  (try simp only [Act.put, List.setIfInBounds_toArray, List.set_cons_zero, List.set_cons_succ])
  go_cut [63] (fun v63 wc => ∃ (kq : Nat) (x63_8 : Bool), v63 = .bool x63_8 ∧ Aside0 (watchwordlaw9_Hellos.j0 kq l0 l3 l2 t189 x63_8 = some r) ∧ Aside0 (kq ≤ k) ∧ Aside0 (Kd.R (Kd.int .i64) 3 wc w1.heap.size (fun _ => True) v191 t189) ∧ Aside0 (Below w1.heap.size w1 wc))
  case first =>
    have H := HC9.out
    clear HC9
    by_cases c14 : t185.toList = t187.toList
    · rw [if_pos c14] at H
      have c14b0 : (t185.toList == t187.toList) = true := beq_iff_eq.mpr c14
      have c14b1 : (t185.toList != t187.toList) = false := bne_eq_false_iff_eq.mpr c14
      clear c14
      (first | rw [c14b0] | (simp only [i64_w, i32_w]; rw [c14b0]) | skip)
      replace H := Option.bind_eq_some_iff.mp H
      obtain ⟨t197, A150, H⟩ := H
      replace H : (if t197 = t188 then ((watchwordlaw0_SameInts.f k t189 t193).bind fun t198 => (if t198 = true then ((watchwordlaw0_Num.f t190).bind fun t199 => (if t199 = t194 then ((hello_May.f k l2).bind fun t200 => ((watchwordref9_HeardMay.f k l0).bind fun t201 => (watchwordlaw9_Hellos.j0 k l0 l3 l2 t189 (t200 != t201)))) else (watchwordlaw9_Hellos.j0 k l0 l3 l2 t189 true))) else (watchwordlaw9_Hellos.j0 k l0 l3 l2 t189 true))) else (watchwordlaw9_Hellos.j0 k l0 l3 l2 t189 true)) = some r := H
      have A15 := Aside0.mk A150
      clear A150
      by_cases c16 : t197 = t188
      · rw [if_pos c16] at H
        have c16b0 : (t197 == t188) = true := beq_iff_eq.mpr c16
        have c16b1 : (t197 != t188) = false := bne_eq_false_iff_eq.mpr c16
        clear c16
        replace H := Option.bind_eq_some_iff.mp H
        obtain ⟨t198, A170, H⟩ := H
        replace H : (if t198 = true then ((watchwordlaw0_Num.f t190).bind fun t199 => (if t199 = t194 then ((hello_May.f k l2).bind fun t200 => ((watchwordref9_HeardMay.f k l0).bind fun t201 => (watchwordlaw9_Hellos.j0 k l0 l3 l2 t189 (t200 != t201)))) else (watchwordlaw9_Hellos.j0 k l0 l3 l2 t189 true))) else (watchwordlaw9_Hellos.j0 k l0 l3 l2 t189 true)) = some r := H
        have A17 := Aside0.mk A170
        clear A170
        by_cases c18 : t198 = true
        · subst c18
          have H1 : ((watchwordlaw0_Num.f t190).bind fun t199 => (if t199 = t194 then ((hello_May.f k l2).bind fun t200 => ((watchwordref9_HeardMay.f k l0).bind fun t201 => (watchwordlaw9_Hellos.j0 k l0 l3 l2 t189 (t200 != t201)))) else (watchwordlaw9_Hellos.j0 k l0 l3 l2 t189 true))) = some r := by rw [if_pos rfl] at H; exact H
          clear H
          have H := H1
          clear H1
          replace H := Option.bind_eq_some_iff.mp H
          obtain ⟨t199, A190, H⟩ := H
          replace H : (if t199 = t194 then ((hello_May.f k l2).bind fun t200 => ((watchwordref9_HeardMay.f k l0).bind fun t201 => (watchwordlaw9_Hellos.j0 k l0 l3 l2 t189 (t200 != t201)))) else (watchwordlaw9_Hellos.j0 k l0 l3 l2 t189 true)) = some r := H
          have A19 := Aside0.mk A190
          clear A190
          by_cases c20 : t199 = t194
          · rw [if_pos c20] at H
            have c20b0 : (t199 == t194) = true := beq_iff_eq.mpr c20
            have c20b1 : (t199 != t194) = false := bne_eq_false_iff_eq.mpr c20
            clear c20
            replace H := Option.bind_eq_some_iff.mp H
            obtain ⟨t200, A210, H⟩ := H
            replace H : ((watchwordref9_HeardMay.f k l0).bind fun t201 => (watchwordlaw9_Hellos.j0 k l0 l3 l2 t189 (t200 != t201))) = some r := H
            have A21 := Aside0.mk A210
            clear A210
            replace H := Option.bind_eq_some_iff.mp H
            obtain ⟨t201, A220, H⟩ := H
            replace H : (watchwordlaw9_Hellos.j0 k l0 l3 l2 t189 (t200 != t201)) = some r := H
            have A22 := Aside0.mk A220
            clear A220
            have H' := Aside0.mk H
            clear H
            go_wp2_with (first | (go_at_call 18; (with_reducible refine (watchwordlaw0_Num.calls t186 t197 _ A15.out).mono ?_); rintro e w' ⟨rfl, ⟨nd, rfl⟩⟩; obtain ⟨Ao23, co23, eo23⟩ := Kd.R_slice HO192.out; subst eo23; obtain ⟨Ao24, co24, eo24⟩ := Kd.R_slice HO196.out; subst eo24) | (go_at_call 25; (with_reducible refine (watchwordlaw0_SameInts.calls k _ _ t189 _ _ t193 true _ ?side1 ?side2 ?side3 ?side4 A17.out).mono ?_); (case side1 => repeat (first | exact (Kd.R_reads' HO192.out).2.2 | (with_reducible refine Kd.C_alloc ?_ _) | (with_reducible refine Kd.C_drewN ?_ _) | (with_reducible refine Kd.C_drew ?_))); (case side2 => exact (Kd.R_reads' HO192.out).2.1); (case side3 => repeat (first | exact (Kd.R_reads' HO196.out).2.2 | (with_reducible refine Kd.C_alloc ?_ _) | (with_reducible refine Kd.C_drewN ?_ _) | (with_reducible refine Kd.C_drew ?_))); (case side4 => exact (Kd.R_reads' HO196.out).2.1); rintro e w' ⟨rfl, ⟨nd, rfl⟩⟩) | (go_at_call 18; (with_reducible refine (watchwordlaw0_Num.calls t190 t199 _ A19.out).mono ?_); rintro e w' ⟨rfl, ⟨nd, rfl⟩⟩) | (go_at_call 26; (with_reducible refine (hello_May.calls k _ _ l2 t200 _ ?side1 ?side2 A21.out).mono ?_); (case side1 => repeat (first | exact (Kd.C_below HR2.out (by repeat (first | (with_reducible first | exact HB.out | apply below_alloc | apply pw_below_drewN | apply below_drew1) | exact HB.out))) | (with_reducible refine Kd.C_alloc ?_ _) | (with_reducible refine Kd.C_drewN ?_ _) | (with_reducible refine Kd.C_drew ?_))); (case side2 => exact HC2.out); rintro e w' ⟨rfl, ⟨nd, rfl⟩⟩) | (go_at_call 27; (with_reducible refine (watchwordref9_HeardMay.calls k _ _ l0 t201 _ ?side1 ?side2 A22.out).mono ?_); (case side1 => repeat (first | exact (Kd.C_below HR0.out (by repeat (first | (with_reducible first | exact HB.out | apply below_alloc | apply pw_below_drewN | apply below_drew1) | exact HB.out))) | (with_reducible refine Kd.C_alloc ?_ _) | (with_reducible refine Kd.C_drewN ?_ _) | (with_reducible refine Kd.C_drew ?_))); (case side2 => exact HC0.out); rintro e w' ⟨rfl, ⟨nd, rfl⟩⟩))
            go_meet
            case rel => exact ⟨_, ((t200 != t201)), (by first | rfl | (simp; done) | (simp [*]; done)), H', ⟨by first | omega | exact Nat.le_refl _⟩, ⟨by (with_reducible repeat (first | apply Kd.R_alloc | apply Kd.R_drewN | apply Kd.R_drew)); exact Kd.R_mono HO192.out (fun _ hk => trivial)⟩, ⟨by repeat (first | (with_reducible first | exact HB.out | apply below_alloc | apply pw_below_drewN | apply below_drew1) | exact HB.out)⟩⟩
          · rw [if_neg c20] at H
            have c20b0 : (t199 == t194) = false := beq_eq_false_iff_ne.mpr c20
            have c20b1 : (t199 != t194) = true := bne_iff_ne.mpr c20
            exact absurd H (fun h_ => (by
              have hd_ : ∀ k_, watchwordlaw9_Hellos.j0 k_ l0 l3 l2 t189 true = some r → False := by
                intro k_ h_
                cases k_ with
                | zero => exact absurd h_ (by simp [watchwordlaw9_Hellos.j0])
                | succ k_ =>
                  simp only [watchwordlaw9_Hellos.j0, if_true] at h_
                  exact absurd (Option.some.inj h_) (by rw [HT.out]; decide)
              exact hd_ _ h_))
        · replace c18 := Bool.eq_false_iff.mpr c18
          subst c18
          have H1 : (watchwordlaw9_Hellos.j0 k l0 l3 l2 t189 true) = some r := by rw [if_neg (show ¬ (false = true) by decide)] at H; exact H
          clear H
          have H := H1
          clear H1
          exact absurd H (fun h_ => (by
            have hd_ : ∀ k_, watchwordlaw9_Hellos.j0 k_ l0 l3 l2 t189 true = some r → False := by
              intro k_ h_
              cases k_ with
              | zero => exact absurd h_ (by simp [watchwordlaw9_Hellos.j0])
              | succ k_ =>
                simp only [watchwordlaw9_Hellos.j0, if_true] at h_
                exact absurd (Option.some.inj h_) (by rw [HT.out]; decide)
            exact hd_ _ h_))
      · rw [if_neg c16] at H
        have c16b0 : (t197 == t188) = false := beq_eq_false_iff_ne.mpr c16
        have c16b1 : (t197 != t188) = true := bne_iff_ne.mpr c16
        exact absurd H (fun h_ => (by
          have hd_ : ∀ k_, watchwordlaw9_Hellos.j0 k_ l0 l3 l2 t189 true = some r → False := by
            intro k_ h_
            cases k_ with
            | zero => exact absurd h_ (by simp [watchwordlaw9_Hellos.j0])
            | succ k_ =>
              simp only [watchwordlaw9_Hellos.j0, if_true] at h_
              exact absurd (Option.some.inj h_) (by rw [HT.out]; decide)
          exact hd_ _ h_))
    · rw [if_neg c14] at H
      have c14b0 : (t185.toList == t187.toList) = false := beq_eq_false_iff_ne.mpr c14
      have c14b1 : (t185.toList != t187.toList) = true := bne_iff_ne.mpr c14
      (first | rw [c14b0] | (simp only [i64_w, i32_w]; rw [c14b0]) | skip)
      exact absurd H (fun h_ => (by
        have hd_ : ∀ k_, watchwordlaw9_Hellos.j0 k_ l0 l3 l2 t189 true = some r → False := by
          intro k_ h_
          cases k_ with
          | zero => exact absurd h_ (by simp [watchwordlaw9_Hellos.j0])
          | succ k_ =>
            simp only [watchwordlaw9_Hellos.j0, if_true] at h_
            exact absurd (Option.some.inj h_) (by rw [HT.out]; decide)
        exact hd_ _ h_))
  case rest =>
    clear HC9
    try clear c1
    try clear c2
    try clear p2
    try clear c2
    try clear c7
    try clear c14
    try clear c14b0
    try clear c14b1
    try clear c16
    try clear c16b0
    try clear c16b1
    try clear c18
    try clear c20
    try clear c20b0
    try clear c20b1
    try clear c21
    try clear c22
    try clear c23
    try clear c24
    obtain ⟨kq, x63_8, rfl, HA, HJ8, HO_10, HB⟩ := hcut
    cases kq with
    | zero => exact absurd HA.out (by simp [watchwordlaw9_Hellos.j0])
    | succ kj8 =>
      have H := HA.out
      clear HA
      simp only [watchwordlaw9_Hellos.j0] at H
      by_cases c25 : x63_8 = true
      · subst c25
        have H1 : (some false) = some r := by rw [if_pos rfl] at H; exact H
        clear H
        have H := H1
        clear H1
        exact absurd (Option.some.inj H) (by rw [HT.out]; decide)
      · replace c25 := Bool.eq_false_iff.mpr c25
        subst c25
        have H1 : ((watchwordlaw0_SpoilInts.f kj8 t189).bind fun t202 => ((watchwordlaw0_KeptInts.f kj8 l2 l0 l3).bind fun t203 => (if t203 = true then ((watchwordlaw9_awake.f kj8).bind fun t204 => (some t204)) else (some false)))) = some r := by rw [if_neg (show ¬ (false = true) by decide)] at H; exact H
        clear H
        have H := H1
        clear H1
        replace H := Option.bind_eq_some_iff.mp H
        obtain ⟨t202, A260, H⟩ := H
        replace H : ((watchwordlaw0_KeptInts.f kj8 l2 l0 l3).bind fun t203 => (if t203 = true then ((watchwordlaw9_awake.f kj8).bind fun t204 => (some t204)) else (some false))) = some r := H
        have A26 := Aside0.mk A260
        clear A260
        replace H := Option.bind_eq_some_iff.mp H
        obtain ⟨t203, A270, H⟩ := H
        replace H : (if t203 = true then ((watchwordlaw9_awake.f kj8).bind fun t204 => (some t204)) else (some false)) = some r := H
        have A27 := Aside0.mk A270
        clear A270
        by_cases c28 : t203 = true
        · subst c28
          have H1 : ((watchwordlaw9_awake.f kj8).bind fun t204 => (some t204)) = some r := by rw [if_pos rfl] at H; exact H
          clear H
          have H := H1
          clear H1
          replace H := Option.bind_eq_some_iff.mp H
          obtain ⟨t204, A290, H⟩ := H
          replace H : (some t204) = some r := H
          have A29 := Aside0.mk A290
          clear A290
          obtain rfl := Option.some.inj H
          obtain ⟨Ao30, co30, eo30⟩ := Kd.R_slice HO_10.out
          subst eo30
          go_wp2_with (first | ((with_reducible refine gate_callee (f := 28) rfl ?_); refine goesL_ (some 65) rfl rfl Try.func28 (by kernel_rfl) rfl #[.slice Ao30 t189.length co30] rfl (by (try simp only [List.map_toArray, List.map_cons, List.map_nil]); first | done | rfl | (simp only [List.length_drop, List.length_take]; rfl)) ?_; (with_reducible refine (watchwordlaw0_SpoilInts.calls kj8 (fun k_ => some k_ = (.slice Ao30 t189.length co30 : Value).ownBlock) (.slice Ao30 t189.length co30) t189 t202 w1 _ ?side1 ?side2 A26.out).mono ?_); (case side1 => repeat (first | (with_reducible first | exact HB.out | apply below_alloc | apply pw_below_drewN | apply below_drew1) | exact HB.out)); (case side2 => exact Kd.R_tight rfl HO_10.out); rintro e w31 ⟨rfl, hy0, hb, hkp⟩; refine ⟨_, rfl, ?_⟩; have n0_ := Aside0.mk (Kd.R_reok rfl hy0 (fun k_ e_ => HO_10.out.1 k_ e_)); have n1_ := Aside0.mk (hb); clear HO_10; clear HB; have HO_10 := n0_; have HB := n1_; clear n0_ n1_; (try clear hb); (try clear hkp); (try clear hy0)) | ((with_reducible refine gate_callee (f := 29) rfl ?_); refine goesL_ (some 68) rfl rfl Try.func29 (by kernel_rfl) rfl #[.slice A2 l2.length c2, .slice A0 l0.length c0] rfl (by (try simp only [List.map_toArray, List.map_cons, List.map_nil]); first | done | rfl | (simp only [List.length_drop, List.length_take]; rfl)) ?_; (with_reducible refine (watchwordlaw0_KeptInts.kept kj8 _ _ l2 _ _ l0 _ _ l3 true _ ?side1 ?side2 ?side3 ?side4 ?side5 ?side6 A27.out rfl rfl HN_.out HS_.out).mono ?_); (case side1 => repeat (first | exact (Kd.C_below HR2.out HB.out) | (with_reducible refine Kd.C_alloc ?_ _) | (with_reducible refine Kd.C_drewN ?_ _) | (with_reducible refine Kd.C_drew ?_))); (case side2 => exact HC2.out); (case side3 => repeat (first | exact (Kd.C_below HR0.out HB.out) | (with_reducible refine Kd.C_alloc ?_ _) | (with_reducible refine Kd.C_drewN ?_ _) | (with_reducible refine Kd.C_drew ?_))); (case side4 => exact HC0.out); (case side5 => repeat (first | exact (Kd.C_below HR3.out HB.out) | (with_reducible refine Kd.C_alloc ?_ _) | (with_reducible refine Kd.C_drewN ?_ _) | (with_reducible refine Kd.C_drew ?_))); (case side6 => exact HC3.out); rintro e w' ⟨rfl, ⟨nd, rfl⟩⟩; refine ⟨_, rfl, ?_⟩) | (go_at_call 30; (with_reducible refine (watchwordlaw9_awake.calls kj8  t204 _ A29.out (by first | rfl | exact HT.out)).mono ?_); rintro e w32 ⟨rfl, hb⟩; have n0_ := Aside0.mk (Kd.R_below (by (with_reducible repeat (first | apply Kd.R_alloc | apply Kd.R_drewN | apply Kd.R_drew)); exact HO_10.out) hb); have n1_ := Aside0.mk (below_step (by repeat (first | (with_reducible first | exact HB.out | apply below_alloc | apply pw_below_drewN | apply below_drew1) | exact HB.out)) hb); clear HO_10; clear HB; have HO_10 := n0_; have HB := n1_; clear n0_ n1_; (try clear hb); (try clear hb2); (try clear hk); (try clear hi)))
          go_ret
          exact ⟨by first | rfl | (simp [errW_none, errW_some] <;> rfl) | (simp [*, errW_none, errW_some] <;> rfl), below_step HB0.out (by repeat (first | (with_reducible first | exact HB.out | apply below_alloc | apply pw_below_drewN | apply below_drew1) | exact HB.out))⟩
        · replace c28 := Bool.eq_false_iff.mpr c28
          subst c28
          have H1 : (some false) = some r := by rw [if_neg (show ¬ (false = true) by decide)] at H; exact H
          clear H
          have H := H1
          clear H1
          exact absurd (Option.some.inj H) (by rw [HT.out]; decide)

/-- What the law comes to. -/
def watchwordlaw9_Hellos.f (k : Nat) (l0 : List Int) (a1 : ByteArray) : Option Bool := if l0.length ≤ 4398046511000 then watchwordlaw9_Hellos.g k l0 a1 l0 (l0 ++ [(-7777), (-8888)]) else none
theorem watchwordlaw9_Hellos.copy {l0 : List Int} (hs : l0.length ≤ 4398046511000) : watchwordlaw0_CopyInts.f l0 = some l0 := by
  unfold watchwordlaw0_CopyInts.f
  simp only [Option.bind_some, List.length_nil, List.nil_append]
  rw [if_pos (by omega)]
theorem watchwordlaw9_Hellos.lend {l0 : List Int} (hs : l0.length ≤ 4398046511000) : watchwordlaw0_LendInts.f l0 = some l0 := by
  unfold watchwordlaw0_LendInts.f
  simp only [watchwordlaw9_Hellos.copy hs, Option.bind_some]
  rw [if_pos (by simp only [List.length_cons, List.length_nil]; omega), if_pos (by omega), if_pos (by rw [List.length_append]; omega), Int.toNat_natCast, List.take_left]
theorem watchwordlaw9_Hellos.calls (k : Nat) (A0 : Option Addr) (c0 : Nat) (l0 : List Int) (a1 : ByteArray) (r : Bool) (w : World) (hr0 : Kd.C (Kd.int .i64) w A0 l0.length l0) (hc0 : l0.length ≤ c0) (h : watchwordlaw9_Hellos.f k l0 a1 = some r) (hT : r = true) :
    Calls Try.prog 7 #[.slice A0 l0.length c0, .string a1] w fun e w' => e = .returned (.bool r) ∧ Below w.heap.size w w' := by
  unfold watchwordlaw9_Hellos.f at h
  by_cases hs : l0.length ≤ 4398046511000
  · rw [if_pos hs] at h
    exact watchwordlaw9_Hellos.walk k A0 c0 l0 a1 l0 (l0 ++ [(-7777), (-8888)]) r w hr0 hc0 (watchwordlaw9_Hellos.lend hs) (fun t_ h_ => by rw [watchwordlaw9_Hellos.copy hs] at h_; rw [Option.some.inj h_]) (by rw [List.length_append]; rfl) (by omega) (by rw [List.length_append]; omega) h hT
  · rw [if_neg hs] at h; cases h

end Go.Proofs.Ytkfnbnfdcfcfpaa.Q9a
