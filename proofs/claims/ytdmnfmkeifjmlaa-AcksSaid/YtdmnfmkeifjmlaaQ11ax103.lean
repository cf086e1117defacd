/- Written by a program of this session out of the print of the loaded functions: each Go function as a plain function, and that its call comes to it; for a law, the row out of its plain statement. -/
import Derived.Test.YtdmnfmkeifjmlaaQ11ax112
import Derived.Test.YtdmnfmkeifjmlaaQ11ax0
import Derived.Test.YtdmnfmkeifjmlaaQ11ax1
import Derived.Test.YtdmnfmkeifjmlaaQ11ax113
import Derived.Test.YtdmnfmkeifjmlaaQ11ax114
import Derived.Test.YtdmnfmkeifjmlaaQ11ax115
import Derived.Test.YtdmnfmkeifjmlaaQ11ax116
import Derived.Test.YtdmnfmkeifjmlaaQ11ax117
import Derived.Test.YtdmnfmkeifjmlaaQ11ax118
import Derived.Test.YtdmnfmkeifjmlaaQ11ax119
import Derived.Test.YtdmnfmkeifjmlaaQ11ax120
import Derived.Test.YtdmnfmkeifjmlaaQ11ax121
import Derived.Test.YtdmnfmkeifjmlaaQ11ax122
import Derived.Test.YtdmnfmkeifjmlaaQ11ax123
namespace Go.Proofs.Ytdmnfmkeifjmlaa.Q11a
open Go.RowKit Go.Proofs.YtdmnfmkeifjmlaaW.PrintWords Go.Proofs.YtdmnfmkeifjmlaaW.PrintLast Go.Proofs.YtdmnfmkeifjmlaaW.PrintMore
attribute [local go_sem] max2_int min2_int max_two min_two max_three min_three max_four min_four   -- for this text's walks alone
set_option linter.unusedVariables false
set_option linter.unusedSimpArgs false

attribute [local go_sem high] eqA40
/-! ### watchwordlaw11_Acks: function 3 -/
def watchwordlaw11_Acks.j0 : Nat → List (S40) → List (S40) → List (S40) → List (S40) → Bool → Option (Bool)
  | 0, _, _, _, _, _ => none
  | k + 1, x0, x3, x5, x10, x63 => if x63 = true then (some false) else ((watchwordlaw0_SpoilLsaHeads.f k x10).bind fun t225 => ((watchwordlaw0_KeptLsaHeads.f k x5 x0 x3).bind fun t226 => (if t226 = true then ((watchwordlaw11_awake.f k).bind fun t227 => (some t227)) else (some false))))
def watchwordlaw11_Acks.g (k : Nat) (l0 : List (S40)) (a1 : ByteArray) (l2 : List (S40)) (l3 : List (S40)) : Option (Bool) := (ack_Put.f k l2).bind fun bt208 => ((watchwordref9_PutAck.f k l0).bind fun bt210 => ((ack_Get.f k a1).bind fun bt212 => ((watchwordref9_GetAck.f k a1).bind fun bt216 => (if bt208.1.toList = bt210.1.toList then ((watchwordlaw0_Num.f bt208.2).bind fun t220 => (if t220 = bt210.2 then ((watchwordlaw0_SameLsaHeads.f k bt212.1 bt216.1).bind fun t221 => (if t221 = true then ((watchwordlaw0_Num.f bt212.2).bind fun t222 => (if t222 = bt216.2 then ((ack_May.f k l2).bind fun t223 => ((watchwordref9_AckMay.f k l0).bind fun t224 => (watchwordlaw11_Acks.j0 k l0 l3 l2 bt212.1 (t223 != t224)))) else (watchwordlaw11_Acks.j0 k l0 l3 l2 bt212.1 true))) else (watchwordlaw11_Acks.j0 k l0 l3 l2 bt212.1 true))) else (watchwordlaw11_Acks.j0 k l0 l3 l2 bt212.1 true))) else (watchwordlaw11_Acks.j0 k l0 l3 l2 bt212.1 true)))))
theorem watchwordlaw11_Acks.mono_l : ∀ k, (∀ y0 y1 y2 y3 y4, LeO (watchwordlaw11_Acks.j0 k y0 y1 y2 y3 y4) (watchwordlaw11_Acks.j0 (k + 1) y0 y1 y2 y3 y4))
  | 0 => fun _ _ _ _ _ r h => by simp [watchwordlaw11_Acks.j0] at h
  | k + 1 => by
    have ih0 := watchwordlaw11_Acks.mono_l k
    · intro y0 y1 y2 y3 y4
      unfold watchwordlaw11_Acks.j0
      repeat' first
      | (with_reducible exact ih0 _ _ _ _ _)
      | (with_reducible exact ack_Get.mono _ _)
      | (with_reducible exact ack_May.mono _ _)
      | (with_reducible exact ack_Put.mono _ _)
      | (with_reducible exact watchwordlaw0_KeptLsaHeads.mono _ _ _ _)
      | (with_reducible exact watchwordlaw0_SameLsaHeads.mono _ _ _)
      | (with_reducible exact watchwordlaw0_SpoilLsaHeads.mono _ _)
      | (with_reducible exact watchwordlaw11_awake.mono _)
      | (with_reducible exact watchwordref9_AckMay.mono _ _)
      | (with_reducible exact watchwordref9_GetAck.mono _ _)
      | (with_reducible exact watchwordref9_PutAck.mono _ _)
      | (with_reducible exact LeO.refl _)
      | (with_reducible exact LeO.none _)
      | (with_reducible refine LeO.ite ?_ ?_)
      | (with_reducible refine LeO.bind ?_ (fun _ => ?_))
      | exact ih0 _ _ _ _ _
      | exact ack_Get.mono _ _
      | exact ack_May.mono _ _
      | exact ack_Put.mono _ _
      | exact watchwordlaw0_KeptLsaHeads.mono _ _ _ _
      | exact watchwordlaw0_SameLsaHeads.mono _ _ _
      | exact watchwordlaw0_SpoilLsaHeads.mono _ _
      | exact watchwordlaw11_awake.mono _
      | exact watchwordref9_AckMay.mono _ _
      | exact watchwordref9_GetAck.mono _ _
      | exact watchwordref9_PutAck.mono _ _
      | exact LeO.none _
      | refine LeO.ite ?_ ?_
      | refine LeO.bind ?_ (fun _ => ?_)
theorem watchwordlaw11_Acks.mono : ∀ a0 a1 a2 a3 k, LeO (watchwordlaw11_Acks.g k a0 a1 a2 a3) (watchwordlaw11_Acks.g (k + 1) a0 a1 a2 a3) := by
  intro a0 a1 a2 a3 k
  have ih0 := watchwordlaw11_Acks.mono_l k
  unfold watchwordlaw11_Acks.g
  repeat' first
      | (with_reducible exact ih0 _ _ _ _ _)
      | (with_reducible exact ack_Get.mono _ _)
      | (with_reducible exact ack_May.mono _ _)
      | (with_reducible exact ack_Put.mono _ _)
      | (with_reducible exact watchwordlaw0_KeptLsaHeads.mono _ _ _ _)
      | (with_reducible exact watchwordlaw0_SameLsaHeads.mono _ _ _)
      | (with_reducible exact watchwordlaw0_SpoilLsaHeads.mono _ _)
      | (with_reducible exact watchwordlaw11_awake.mono _)
      | (with_reducible exact watchwordref9_AckMay.mono _ _)
      | (with_reducible exact watchwordref9_GetAck.mono _ _)
      | (with_reducible exact watchwordref9_PutAck.mono _ _)
      | (with_reducible exact LeO.refl _)
      | (with_reducible exact LeO.none _)
      | (with_reducible refine LeO.ite ?_ ?_)
      | (with_reducible refine LeO.bind ?_ (fun _ => ?_))
      | exact ih0 _ _ _ _ _
      | exact ack_Get.mono _ _
      | exact ack_May.mono _ _
      | exact ack_Put.mono _ _
      | exact watchwordlaw0_KeptLsaHeads.mono _ _ _ _
      | exact watchwordlaw0_SameLsaHeads.mono _ _ _
      | exact watchwordlaw0_SpoilLsaHeads.mono _ _
      | exact watchwordlaw11_awake.mono _
      | exact watchwordref9_AckMay.mono _ _
      | exact watchwordref9_GetAck.mono _ _
      | exact watchwordref9_PutAck.mono _ _
      | exact LeO.none _
      | refine LeO.ite ?_ ?_
      | refine LeO.bind ?_ (fun _ => ?_)
set_option maxHeartbeats 8000000 in
set_option maxRecDepth 100000 in
theorem watchwordlaw11_Acks.walk (k : Nat) (A0 : Option Addr) (c0 : Nat) (l0 : List (S40)) (a1 : ByteArray) (l2 : List (S40)) (l3 : List (S40)) (r : Bool) (w : World) (hr0 : Kd.C k40 w A0 l0.length l0) (hc0 : l0.length ≤ c0) (hL : watchwordlaw0_LendLsaHeads.f l0 = some l2) (h3 : ∀ t_, watchwordlaw0_CopyLsaHeads.f l0 = some t_ → t_ ++ ([(⟨77777, 0, 0, 0⟩ : S40), (⟨77777, 0, 0, 0⟩ : S40)] : List S40) = l3) (hlen : l3.length = l2.length + 2) (hsz : l2.length ≤ 1000000000000000) (hle : l0.length ≤ l3.length) (h : watchwordlaw11_Acks.g k l0 a1 l2 l3 = some r) (hT : r = true) :
    Calls Try.prog 3 #[.slice A0 l0.length c0, .string a1] w fun e w' => e = .returned (.bool r) ∧ Below w.heap.size w w' := by
  have HL_ := Aside0.mk hL
  have H3_ := Aside0.mk h3
  have HN_ := Aside0.mk hlen
  have HS_ := Aside0.mk hsz
  have HE_ := Aside0.mk hle
  clear hL h3 hlen hsz hle
  have HR0 := Aside0.mk hr0
  have HC0 := Aside0.mk hc0
  clear hr0 hc0
  have HB := Aside0.mk (Below.refl w.heap.size w)
  have HT := Aside0.mk hT
  clear hT
  have H : ((ack_Put.f k l2).bind fun bt208 => ((watchwordref9_PutAck.f k l0).bind fun bt210 => ((ack_Get.f k a1).bind fun bt212 => ((watchwordref9_GetAck.f k a1).bind fun bt216 => (if bt208.1.toList = bt210.1.toList then ((watchwordlaw0_Num.f bt208.2).bind fun t220 => (if t220 = bt210.2 then ((watchwordlaw0_SameLsaHeads.f k bt212.1 bt216.1).bind fun t221 => (if t221 = true then ((watchwordlaw0_Num.f bt212.2).bind fun t222 => (if t222 = bt216.2 then ((ack_May.f k l2).bind fun t223 => ((watchwordref9_AckMay.f k l0).bind fun t224 => (watchwordlaw11_Acks.j0 k l0 l3 l2 bt212.1 (t223 != t224)))) else (watchwordlaw11_Acks.j0 k l0 l3 l2 bt212.1 true))) else (watchwordlaw11_Acks.j0 k l0 l3 l2 bt212.1 true))) else (watchwordlaw11_Acks.j0 k l0 l3 l2 bt212.1 true))) else (watchwordlaw11_Acks.j0 k l0 l3 l2 bt212.1 true)))))) = some r := h
  clear h
  replace H := Option.bind_eq_some_iff.mp H
  obtain ⟨⟨t208, t209⟩, A50, H⟩ := H
  replace H : ((watchwordref9_PutAck.f k l0).bind fun bt210 => ((ack_Get.f k a1).bind fun bt212 => ((watchwordref9_GetAck.f k a1).bind fun bt216 => (if t208.toList = bt210.1.toList then ((watchwordlaw0_Num.f t209).bind fun t220 => (if t220 = bt210.2 then ((watchwordlaw0_SameLsaHeads.f k bt212.1 bt216.1).bind fun t221 => (if t221 = true then ((watchwordlaw0_Num.f bt212.2).bind fun t222 => (if t222 = bt216.2 then ((ack_May.f k l2).bind fun t223 => ((watchwordref9_AckMay.f k l0).bind fun t224 => (watchwordlaw11_Acks.j0 k l0 l3 l2 bt212.1 (t223 != t224)))) else (watchwordlaw11_Acks.j0 k l0 l3 l2 bt212.1 true))) else (watchwordlaw11_Acks.j0 k l0 l3 l2 bt212.1 true))) else (watchwordlaw11_Acks.j0 k l0 l3 l2 bt212.1 true))) else (watchwordlaw11_Acks.j0 k l0 l3 l2 bt212.1 true))))) = some r := H
  have A5 := Aside0.mk A50
  clear A50
  replace H := Option.bind_eq_some_iff.mp H
  obtain ⟨⟨t210, t211⟩, A60, H⟩ := H
  replace H : ((ack_Get.f k a1).bind fun bt212 => ((watchwordref9_GetAck.f k a1).bind fun bt216 => (if t208.toList = t210.toList then ((watchwordlaw0_Num.f t209).bind fun t220 => (if t220 = t211 then ((watchwordlaw0_SameLsaHeads.f k bt212.1 bt216.1).bind fun t221 => (if t221 = true then ((watchwordlaw0_Num.f bt212.2).bind fun t222 => (if t222 = bt216.2 then ((ack_May.f k l2).bind fun t223 => ((watchwordref9_AckMay.f k l0).bind fun t224 => (watchwordlaw11_Acks.j0 k l0 l3 l2 bt212.1 (t223 != t224)))) else (watchwordlaw11_Acks.j0 k l0 l3 l2 bt212.1 true))) else (watchwordlaw11_Acks.j0 k l0 l3 l2 bt212.1 true))) else (watchwordlaw11_Acks.j0 k l0 l3 l2 bt212.1 true))) else (watchwordlaw11_Acks.j0 k l0 l3 l2 bt212.1 true)))) = some r := H
  have A6 := Aside0.mk A60
  clear A60
  replace H := Option.bind_eq_some_iff.mp H
  obtain ⟨⟨t212, t213⟩, A70, H⟩ := H
  replace H : ((watchwordref9_GetAck.f k a1).bind fun bt216 => (if t208.toList = t210.toList then ((watchwordlaw0_Num.f t209).bind fun t220 => (if t220 = t211 then ((watchwordlaw0_SameLsaHeads.f k t212 bt216.1).bind fun t221 => (if t221 = true then ((watchwordlaw0_Num.f t213).bind fun t222 => (if t222 = bt216.2 then ((ack_May.f k l2).bind fun t223 => ((watchwordref9_AckMay.f k l0).bind fun t224 => (watchwordlaw11_Acks.j0 k l0 l3 l2 t212 (t223 != t224)))) else (watchwordlaw11_Acks.j0 k l0 l3 l2 t212 true))) else (watchwordlaw11_Acks.j0 k l0 l3 l2 t212 true))) else (watchwordlaw11_Acks.j0 k l0 l3 l2 t212 true))) else (watchwordlaw11_Acks.j0 k l0 l3 l2 t212 true))) = some r := H
  have A7 := Aside0.mk A70
  clear A70
  replace H := Option.bind_eq_some_iff.mp H
  obtain ⟨⟨t216, t217⟩, A80, H⟩ := H
  replace H : (if t208.toList = t210.toList then ((watchwordlaw0_Num.f t209).bind fun t220 => (if t220 = t211 then ((watchwordlaw0_SameLsaHeads.f k t212 t216).bind fun t221 => (if t221 = true then ((watchwordlaw0_Num.f t213).bind fun t222 => (if t222 = t217 then ((ack_May.f k l2).bind fun t223 => ((watchwordref9_AckMay.f k l0).bind fun t224 => (watchwordlaw11_Acks.j0 k l0 l3 l2 t212 (t223 != t224)))) else (watchwordlaw11_Acks.j0 k l0 l3 l2 t212 true))) else (watchwordlaw11_Acks.j0 k l0 l3 l2 t212 true))) else (watchwordlaw11_Acks.j0 k l0 l3 l2 t212 true))) else (watchwordlaw11_Acks.j0 k l0 l3 l2 t212 true)) = some r := H
  have A8 := Aside0.mk A80
  clear A80
  have HC9 := Aside0.mk H
  clear H
  go_enter Try.func3, Try.ntmps3
  go_upto_region 2 with (first | ((with_reducible refine gate_callee (f := 12) rfl ?_); refine goesL_ (some 15) rfl rfl Try.func12 (by kernel_rfl) rfl #[.slice A0 l0.length c0] rfl (by (try simp only [List.map_toArray, List.map_cons, List.map_nil]); first | done | rfl) ?_; (with_reducible refine (watchwordlaw0_LendLsaHeads.lent _ _ l0 l2 _ ?side1 ?side2 HL_.out).mono ?_); (case side1 => repeat (first | exact HR0.out | (with_reducible refine Kd.C_alloc ?_ _) | (with_reducible refine Kd.C_drewN ?_ _) | (with_reducible refine Kd.C_drew ?_))); (case side2 => exact HC0.out); rintro e w1 ⟨A2, c2, y_, t_, rfl, hc1_, hy_, hr_, hk_, hn_, hb⟩; refine ⟨_, rfl, ?_⟩; have HB0 := Aside0.mk (below_step (by repeat (first | (with_reducible first | exact HB.out | apply below_alloc | apply pw_below_drewN | apply below_drew1) | exact HB.out)) hb); have HY1 := Aside0.mk hc1_; have HY2 := Aside0.mk hy_; have HY3 := Aside0.mk hr_; have HY4 := Aside0.mk hk_; have HY5 := Aside0.mk hn_; clear hb hc1_ hy_ hr_ hk_ hn_))
  have hye_ : y_ = l3 := HY2.out.trans (H3_.out _ HY1.out)
  have HC2 := Aside0.mk (show l2.length ≤ c2 by have hn_ := HY5.out; rw [hye_, HN_.out] at hn_; omega)
  have HC3 := Aside0.mk (show l3.length ≤ c2 by have hn_ := HY5.out; rw [hye_] at hn_; exact hn_)
  have HR2 := Aside0.mk (show Kd.C k40 w1 A2 l2.length l2 by rw [HY3.out]; exact Kd.C_take HY4.out (by rw [hye_]; exact HE_.out))
  have HR3 := Aside0.mk (show Kd.C k40 w1 A2 l3.length l3 by rw [← hye_]; exact HY4.out)
  have hr0_ := Kd.C_below HR0.out HB0.out
  clear HR0 HB HY1 HY2 HY3 HY4 HY5 hye_
  have HR0 := Aside0.mk hr0_
  clear hr0_
  have HB := Aside0.mk (Below.refl w1.heap.size w1)
  go_upto_region 6 with (first | ((with_reducible refine gate_callee (f := 13) rfl ?_); refine goesL_ (some 18) rfl rfl Try.func13 (by kernel_rfl) rfl #[.slice A2 l2.length c2] rfl (by (try simp only [List.map_toArray, List.map_cons, List.map_nil]); first | done | rfl | (simp only [List.length_drop, List.length_take]; rfl)) ?_; (with_reducible refine (ack_Put.calls k _ _ l2 t208 t209 _ ?side1 ?side2 A5.out).mono ?_); (case side1 => repeat (first | exact HR2.out | (with_reducible refine Kd.C_alloc ?_ _) | (with_reducible refine Kd.C_drewN ?_ _) | (with_reducible refine Kd.C_drew ?_))); (case side2 => exact HC2.out); rintro e w10 ⟨rfl, hb⟩; refine ⟨_, rfl, ?_⟩; have n0_ := Aside0.mk (below_step (by repeat (first | (with_reducible first | exact HB.out | apply below_alloc | apply pw_below_drewN | apply below_drew1) | exact HB.out)) hb); clear HB; have HB := n0_; clear n0_; (try clear hb); (try clear hb2); (try clear hk); (try clear hi)) | ((with_reducible refine gate_callee (f := 14) rfl ?_); refine goesL_ (some 23) rfl rfl Try.func14 (by kernel_rfl) rfl #[.slice A0 l0.length c0] rfl (by (try simp only [List.map_toArray, List.map_cons, List.map_nil]); first | done | rfl | (simp only [List.length_drop, List.length_take]; rfl)) ?_; (with_reducible refine (watchwordref9_PutAck.calls k _ _ l0 t210 t211 _ ?side1 ?side2 A6.out).mono ?_); (case side1 => repeat (first | exact (Kd.C_below HR0.out HB.out) | (with_reducible refine Kd.C_alloc ?_ _) | (with_reducible refine Kd.C_drewN ?_ _) | (with_reducible refine Kd.C_drew ?_))); (case side2 => exact HC0.out); rintro e w11 ⟨rfl, hb⟩; refine ⟨_, rfl, ?_⟩; have n0_ := Aside0.mk (below_step (by repeat (first | (with_reducible first | exact HB.out | apply below_alloc | apply pw_below_drewN | apply below_drew1) | exact HB.out)) hb); clear HB; have HB := n0_; clear n0_; (try clear hb); (try clear hb2); (try clear hk); (try clear hi)) | ((with_reducible refine gate_callee (f := 15) rfl ?_); refine goesL_ (some 28) rfl rfl Try.func15 (by kernel_rfl) rfl #[.string a1] rfl (by (try simp only [List.map_toArray, List.map_cons, List.map_nil]); first | done | rfl | (simp only [List.length_drop, List.length_take]; rfl)) ?_; (with_reducible refine (ack_Get.calls k a1 t212 t213 _ A7.out).mono ?_); rintro e w12 ⟨v214, rfl, ho0, hb⟩; refine ⟨_, rfl, ?_⟩; have n0_ := Aside0.mk (Kd.R_lower ho0 (below_size (by repeat (first | (with_reducible first | exact HB.out | apply below_alloc | apply pw_below_drewN | apply below_drew1) | exact HB.out)))); have n1_ := Aside0.mk (below_step (by repeat (first | (with_reducible first | exact HB.out | apply below_alloc | apply pw_below_drewN | apply below_drew1) | exact HB.out)) hb); clear HB; have HO215 := n0_; have HB := n1_; clear n0_ n1_; (try clear hb); (try clear hb2); (try clear hk); (try clear hi); (try clear ho0)) | ((with_reducible refine gate_callee (f := 16) rfl ?_); refine goesL_ (some 33) rfl rfl Try.func16 (by kernel_rfl) rfl #[.string a1] rfl (by (try simp only [List.map_toArray, List.map_cons, List.map_nil]); first | done | rfl | (simp only [List.length_drop, List.length_take]; rfl)) ?_; (with_reducible refine (watchwordref9_GetAck.calls k a1 t216 t217 _ A8.out).mono ?_); rintro e w13 ⟨v218, rfl, ho0, hb⟩; refine ⟨_, rfl, ?_⟩; have n0_ := Aside0.mk (Kd.R_elder' (by (with_reducible repeat (first | apply Kd.R_alloc | apply Kd.R_drewN | apply Kd.R_drew)); exact HO215.out) (Kd.R_base ho0) hb); have n1_ := Aside0.mk (Kd.R_lower (Kd.R_new' ho0 (Kd.R_lt (by (with_reducible repeat (first | apply Kd.R_alloc | apply Kd.R_drewN | apply Kd.R_drew)); exact HO215.out))) (below_size (by repeat (first | (with_reducible first | exact HB.out | apply below_alloc | apply pw_below_drewN | apply below_drew1) | exact HB.out)))); have n2_ := Aside0.mk (below_step (by repeat (first | (with_reducible first | exact HB.out | apply below_alloc | apply pw_below_drewN | apply below_drew1) | exact HB.out)) hb); clear HO215; clear HB; have HO215 := n0_; have HO219 := n1_; have HB := n2_; clear n0_ n1_ n2_; (try clear hb); (try clear hb2); (try clear hk); (try clear hi); (try clear ho0)))
  (try simp only [Act.put, List.setIfInBounds_toArray, List.set_cons_zero, List.set_cons_succ])
  go_cut [63] (fun v63 wc => ∃ (kq : Nat) (x63_8 : Bool), v63 = .bool x63_8 ∧ Aside0 (watchwordlaw11_Acks.j0 kq l0 l3 l2 t212 x63_8 = some r) ∧ Aside0 (kq ≤ k) ∧ Aside0 (Kd.R k40 40 wc w1.heap.size (fun _ => True) v214 t212) ∧ Aside0 (Below w1.heap.size w1 wc))
  case first =>
    have H := HC9.out
    clear HC9
    by_cases c14 : t208.toList = t210.toList
    · rw [if_pos c14] at H
      have c14b0 : (t208.toList == t210.toList) = true := beq_iff_eq.mpr c14
      have c14b1 : (t208.toList != t210.toList) = false := bne_eq_false_iff_eq.mpr c14
      clear c14
      (first | rw [c14b0] | (simp only [i64_w, i32_w]; rw [c14b0]) | skip)
      replace H := Option.bind_eq_some_iff.mp H
      obtain ⟨t220, A150, H⟩ := H
      replace H : (if t220 = t211 then ((watchwordlaw0_SameLsaHeads.f k t212 t216).bind fun t221 => (if t221 = true then ((watchwordlaw0_Num.f t213).bind fun t222 => (if t222 = t217 then ((ack_May.f k l2).bind fun t223 => ((watchwordref9_AckMay.f k l0).bind fun t224 => (watchwordlaw11_Acks.j0 k l0 l3 l2 t212 (t223 != t224)))) else (watchwordlaw11_Acks.j0 k l0 l3 l2 t212 true))) else (watchwordlaw11_Acks.j0 k l0 l3 l2 t212 true))) else (watchwordlaw11_Acks.j0 k l0 l3 l2 t212 true)) = some r := H
      have A15 := Aside0.mk A150
      clear A150
      by_cases c16 : t220 = t211
      · rw [if_pos c16] at H
        have c16b0 : (t220 == t211) = true := beq_iff_eq.mpr c16
        have c16b1 : (t220 != t211) = false := bne_eq_false_iff_eq.mpr c16
        clear c16
        replace H := Option.bind_eq_some_iff.mp H
        obtain ⟨t221, A170, H⟩ := H
        replace H : (if t221 = true then ((watchwordlaw0_Num.f t213).bind fun t222 => (if t222 = t217 then ((ack_May.f k l2).bind fun t223 => ((watchwordref9_AckMay.f k l0).bind fun t224 => (watchwordlaw11_Acks.j0 k l0 l3 l2 t212 (t223 != t224)))) else (watchwordlaw11_Acks.j0 k l0 l3 l2 t212 true))) else (watchwordlaw11_Acks.j0 k l0 l3 l2 t212 true)) = some r := H
        have A17 := Aside0.mk A170
        clear A170
        by_cases c18 : t221 = true
        · subst c18
          have H1 : ((watchwordlaw0_Num.f t213).bind fun t222 => (if t222 = t217 then ((ack_May.f k l2).bind fun t223 => ((watchwordref9_AckMay.f k l0).bind fun t224 => (watchwordlaw11_Acks.j0 k l0 l3 l2 t212 (t223 != t224)))) else (watchwordlaw11_Acks.j0 k l0 l3 l2 t212 true))) = some r := by rw [if_pos rfl] at H; exact H
          clear H
          have H := H1
          clear H1
          replace H := Option.bind_eq_some_iff.mp H
          obtain ⟨t222, A190, H⟩ := H
          replace H : (if t222 = t217 then ((ack_May.f k l2).bind fun t223 => ((watchwordref9_AckMay.f k l0).bind fun t224 => (watchwordlaw11_Acks.j0 k l0 l3 l2 t212 (t223 != t224)))) else (watchwordlaw11_Acks.j0 k l0 l3 l2 t212 true)) = some r := H
          have A19 := Aside0.mk A190
          clear A190
          by_cases c20 : t222 = t217
          · rw [if_pos c20] at H
            have c20b0 : (t222 == t217) = true := beq_iff_eq.mpr c20
            have c20b1 : (t222 != t217) = false := bne_eq_false_iff_eq.mpr c20
            clear c20
            replace H := Option.bind_eq_some_iff.mp H
            obtain ⟨t223, A210, H⟩ := H
            replace H : ((watchwordref9_AckMay.f k l0).bind fun t224 => (watchwordlaw11_Acks.j0 k l0 l3 l2 t212 (t223 != t224))) = some r := H
            have A21 := Aside0.mk A210
            clear A210
            replace H := Option.bind_eq_some_iff.mp H
            obtain ⟨t224, A220, H⟩ := H
            replace H : (watchwordlaw11_Acks.j0 k l0 l3 l2 t212 (t223 != t224)) = some r := H
            have A22 := Aside0.mk A220
            clear A220
            have H' := Aside0.mk H
            clear H
            go_wp2_with (first | (go_at_call 17; (with_reducible refine (watchwordlaw0_Num.calls t209 t220 _ A15.out).mono ?_); rintro e w' ⟨rfl, ⟨nd, rfl⟩⟩; obtain ⟨Ao23, co23, eo23⟩ := Kd.R_slice HO215.out; subst eo23; obtain ⟨Ao24, co24, eo24⟩ := Kd.R_slice HO219.out; subst eo24) | (go_at_call 18; (with_reducible refine (watchwordlaw0_SameLsaHeads.calls k _ _ t212 _ _ t216 true _ ?side1 ?side2 ?side3 ?side4 A17.out).mono ?_); (case side1 => repeat (first | exact (Kd.R_reads' HO215.out).2.2 | (with_reducible refine Kd.C_alloc ?_ _) | (with_reducible refine Kd.C_drewN ?_ _) | (with_reducible refine Kd.C_drew ?_))); (case side2 => exact (Kd.R_reads' HO215.out).2.1); (case side3 => repeat (first | exact (Kd.R_reads' HO219.out).2.2 | (with_reducible refine Kd.C_alloc ?_ _) | (with_reducible refine Kd.C_drewN ?_ _) | (with_reducible refine Kd.C_drew ?_))); (case side4 => exact (Kd.R_reads' HO219.out).2.1); rintro e w' ⟨rfl, ⟨nd, rfl⟩⟩) | (go_at_call 17; (with_reducible refine (watchwordlaw0_Num.calls t213 t222 _ A19.out).mono ?_); rintro e w' ⟨rfl, ⟨nd, rfl⟩⟩) | (go_at_call 19; (with_reducible refine (ack_May.calls k _ _ l2 t223 _ ?side1 ?side2 A21.out).mono ?_); (case side1 => repeat (first | exact (Kd.C_below HR2.out (by repeat (first | (with_reducible first | exact HB.out | apply below_alloc | apply pw_below_drewN | apply below_drew1) | exact HB.out))) | (with_reducible refine Kd.C_alloc ?_ _) | (with_reducible refine Kd.C_drewN ?_ _) | (with_reducible refine Kd.C_drew ?_))); (case side2 => exact HC2.out); rintro e w25 ⟨rfl, hb⟩; have n0_ := Aside0.mk (Kd.R_below (by (with_reducible repeat (first | apply Kd.R_alloc | apply Kd.R_drewN | apply Kd.R_drew)); exact HO215.out) hb); have n1_ := Aside0.mk (Kd.R_below (by (with_reducible repeat (first | apply Kd.R_alloc | apply Kd.R_drewN | apply Kd.R_drew)); exact HO219.out) hb); have n2_ := Aside0.mk (below_step (by repeat (first | (with_reducible first | exact HB.out | apply below_alloc | apply pw_below_drewN | apply below_drew1) | exact HB.out)) hb); clear HO215; clear HO219; clear HB; have HO215 := n0_; have HO219 := n1_; have HB := n2_; clear n0_ n1_ n2_; (try clear hb); (try clear hb2); (try clear hk); (try clear hi)) | (go_at_call 20; (with_reducible refine (watchwordref9_AckMay.calls k _ _ l0 t224 _ ?side1 ?side2 A22.out).mono ?_); (case side1 => repeat (first | exact (Kd.C_below HR0.out HB.out) | (with_reducible refine Kd.C_alloc ?_ _) | (with_reducible refine Kd.C_drewN ?_ _) | (with_reducible refine Kd.C_drew ?_))); (case side2 => exact HC0.out); rintro e w26 ⟨rfl, hb⟩; have n0_ := Aside0.mk (Kd.R_below (by (with_reducible repeat (first | apply Kd.R_alloc | apply Kd.R_drewN | apply Kd.R_drew)); exact HO215.out) hb); have n1_ := Aside0.mk (Kd.R_below (by (with_reducible repeat (first | apply Kd.R_alloc | apply Kd.R_drewN | apply Kd.R_drew)); exact HO219.out) hb); have n2_ := Aside0.mk (below_step (by repeat (first | (with_reducible first | exact HB.out | apply below_alloc | apply pw_below_drewN | apply below_drew1) | exact HB.out)) hb); clear HO215; clear HO219; clear HB; have HO215 := n0_; have HO219 := n1_; have HB := n2_; clear n0_ n1_ n2_; (try clear hb); (try clear hb2); (try clear hk); (try clear hi)))
            go_meet
            case rel => exact ⟨_, ((t223 != t224)), (by first | rfl | (simp; done) | (simp [*]; done)), H', ⟨by first | omega | exact Nat.le_refl _⟩, ⟨by (with_reducible repeat (first | apply Kd.R_alloc | apply Kd.R_drewN | apply Kd.R_drew)); exact Kd.R_mono HO215.out (fun _ hk => trivial)⟩, ⟨by repeat (first | (with_reducible first | exact HB.out | apply below_alloc | apply pw_below_drewN | apply below_drew1) | exact HB.out)⟩⟩
          · rw [if_neg c20] at H
            have c20b0 : (t222 == t217) = false := beq_eq_false_iff_ne.mpr c20
            have c20b1 : (t222 != t217) = true := bne_iff_ne.mpr c20
            exact absurd H (fun h_ => (by
              have hd_ : ∀ k_, watchwordlaw11_Acks.j0 k_ l0 l3 l2 t212 true = some r → False := by
                intro k_ h_
                cases k_ with
                | zero => exact absurd h_ (by simp [watchwordlaw11_Acks.j0])
                | succ k_ =>
                  simp only [watchwordlaw11_Acks.j0, if_true] at h_
                  exact absurd (Option.some.inj h_) (by rw [HT.out]; decide)
              exact hd_ _ h_))
        · replace c18 := Bool.eq_false_iff.mpr c18
          subst c18
          have H1 : (watchwordlaw11_Acks.j0 k l0 l3 l2 t212 true) = some r := by rw [if_neg (show ¬ (false = true) by decide)] at H; exact H
          clear H
          have H := H1
          clear H1
          exact absurd H (fun h_ => (by
            have hd_ : ∀ k_, watchwordlaw11_Acks.j0 k_ l0 l3 l2 t212 true = some r → False := by
              intro k_ h_
              cases k_ with
              | zero => exact absurd h_ (by simp [watchwordlaw11_Acks.j0])
              | succ k_ =>
                simp only [watchwordlaw11_Acks.j0, if_true] at h_
                exact absurd (Option.some.inj h_) (by rw [HT.out]; decide)
            exact hd_ _ h_))
      · rw [if_neg c16] at H
        have c16b0 : (t220 == t211) = false := beq_eq_false_iff_ne.mpr c16
        have c16b1 : (t220 != t211) = true := bne_iff_ne.mpr c16
        exact absurd H (fun h_ => (by
          have hd_ : ∀ k_, watchwordlaw11_Acks.j0 k_ l0 l3 l2 t212 true = some r → False := by
            intro k_ h_
            cases k_ with
            | zero => exact absurd h_ (by simp [watchwordlaw11_Acks.j0])
            | succ k_ =>
              simp only [watchwordlaw11_Acks.j0, if_true] at h_
              exact absurd (Option.some.inj h_) (by rw [HT.out]; decide)
          exact hd_ _ h_))
    · rw [if_neg c14] at H
      have c14b0 : (t208.toList == t210.toList) = false := beq_eq_false_iff_ne.mpr c14
      have c14b1 : (t208.toList != t210.toList) = true := bne_iff_ne.mpr c14
      (first | rw [c14b0] | (simp only [i64_w, i32_w]; rw [c14b0]) | skip)
      exact absurd H (fun h_ => (by
        have hd_ : ∀ k_, watchwordlaw11_Acks.j0 k_ l0 l3 l2 t212 true = some r → False := by
          intro k_ h_
          cases k_ with
          | zero => exact absurd h_ (by simp [watchwordlaw11_Acks.j0])
          | succ k_ =>
            simp only [watchwordlaw11_Acks.j0, if_true] at h_
            exact absurd (Option.some.inj h_) (by rw [HT.out]; decide)
        exact hd_ _ h_))
  case rest =>
    clear HC9
    try clear c1
    try clear c2
    try clear p2
    try clear c2
    try clear c13
    try clear c14
    try clear c14b0
    try clear c14b1
    try clear c15
    try clear c16
    try clear c16b0
    try clear c16b1
    try clear c18
    try clear c20
    try clear c20b0
    try clear c20b1
    obtain ⟨kq, x63_8, rfl, HA, HJ8, HO_10, HB⟩ := hcut
    cases kq with
    | zero => exact absurd HA.out (by simp [watchwordlaw11_Acks.j0])
    | succ kj8 =>
      have H := HA.out
      clear HA
      simp only [watchwordlaw11_Acks.j0] at H
      by_cases c27 : x63_8 = true
      · subst c27
        have H1 : (some false) = some r := by rw [if_pos rfl] at H; exact H
        clear H
        have H := H1
        clear H1
        exact absurd (Option.some.inj H) (by rw [HT.out]; decide)
      · replace c27 := Bool.eq_false_iff.mpr c27
        subst c27
        have H1 : ((watchwordlaw0_SpoilLsaHeads.f kj8 t212).bind fun t225 => ((watchwordlaw0_KeptLsaHeads.f kj8 l2 l0 l3).bind fun t226 => (if t226 = true then ((watchwordlaw11_awake.f kj8).bind fun t227 => (some t227)) else (some false)))) = some r := by rw [if_neg (show ¬ (false = true) by decide)] at H; exact H
        clear H
        have H := H1
        clear H1
        replace H := Option.bind_eq_some_iff.mp H
        obtain ⟨t225, A280, H⟩ := H
        replace H : ((watchwordlaw0_KeptLsaHeads.f kj8 l2 l0 l3).bind fun t226 => (if t226 = true then ((watchwordlaw11_awake.f kj8).bind fun t227 => (some t227)) else (some false))) = some r := H
        have A28 := Aside0.mk A280
        clear A280
        replace H := Option.bind_eq_some_iff.mp H
        obtain ⟨t226, A290, H⟩ := H
        replace H : (if t226 = true then ((watchwordlaw11_awake.f kj8).bind fun t227 => (some t227)) else (some false)) = some r := H
        have A29 := Aside0.mk A290
        clear A290
        by_cases c30 : t226 = true
        · subst c30
          have H1 : ((watchwordlaw11_awake.f kj8).bind fun t227 => (some t227)) = some r := by rw [if_pos rfl] at H; exact H
          clear H
          have H := H1
          clear H1
          replace H := Option.bind_eq_some_iff.mp H
          obtain ⟨t227, A310, H⟩ := H
          replace H : (some t227) = some r := H
          have A31 := Aside0.mk A310
          clear A310
          obtain rfl := Option.some.inj H
          obtain ⟨Ao32, co32, eo32⟩ := Kd.R_slice HO_10.out
          subst eo32
          go_wp2_with (first | ((with_reducible refine gate_callee (f := 21) rfl ?_); refine goesL_ (some 65) rfl rfl Try.func21 (by kernel_rfl) rfl #[.slice Ao32 t212.length co32] rfl (by (try simp only [List.map_toArray, List.map_cons, List.map_nil]); first | done | rfl | (simp only [List.length_drop, List.length_take]; rfl)) ?_; (with_reducible refine (watchwordlaw0_SpoilLsaHeads.calls kj8 (fun k_ => some k_ = (.slice Ao32 t212.length co32 : Value).ownBlock) (.slice Ao32 t212.length co32) t212 t225 w1 _ ?side1 ?side2 A28.out).mono ?_); (case side1 => repeat (first | (with_reducible first | exact HB.out | apply below_alloc | apply pw_below_drewN | apply below_drew1) | exact HB.out)); (case side2 => exact Kd.R_tight rfl HO_10.out); rintro e w33 ⟨rfl, hy0, hb, hkp⟩; refine ⟨_, rfl, ?_⟩; have n0_ := Aside0.mk (Kd.R_reok rfl hy0 (fun k_ e_ => HO_10.out.1 k_ e_)); have n1_ := Aside0.mk (hb); clear HO_10; clear HB; have HO_10 := n0_; have HB := n1_; clear n0_ n1_; (try clear hb); (try clear hkp); (try clear hy0)) | ((with_reducible refine gate_callee (f := 22) rfl ?_); refine goesL_ (some 68) rfl rfl Try.func22 (by kernel_rfl) rfl #[.slice A2 l2.length c2, .slice A0 l0.length c0] rfl (by (try simp only [List.map_toArray, List.map_cons, List.map_nil]); first | done | rfl | (simp only [List.length_drop, List.length_take]; rfl)) ?_; (with_reducible refine (watchwordlaw0_KeptLsaHeads.kept kj8 _ _ l2 _ _ l0 _ _ l3 true _ ?side1 ?side2 ?side3 ?side4 ?side5 ?side6 A29.out rfl rfl HN_.out HS_.out).mono ?_); (case side1 => repeat (first | exact (Kd.C_below HR2.out HB.out) | (with_reducible refine Kd.C_alloc ?_ _) | (with_reducible refine Kd.C_drewN ?_ _) | (with_reducible refine Kd.C_drew ?_))); (case side2 => exact HC2.out); (case side3 => repeat (first | exact (Kd.C_below HR0.out HB.out) | (with_reducible refine Kd.C_alloc ?_ _) | (with_reducible refine Kd.C_drewN ?_ _) | (with_reducible refine Kd.C_drew ?_))); (case side4 => exact HC0.out); (case side5 => repeat (first | exact (Kd.C_below HR3.out HB.out) | (with_reducible refine Kd.C_alloc ?_ _) | (with_reducible refine Kd.C_drewN ?_ _) | (with_reducible refine Kd.C_drew ?_))); (case side6 => exact HC3.out); rintro e w' ⟨rfl, ⟨nd, rfl⟩⟩; refine ⟨_, rfl, ?_⟩) | (go_at_call 23; (with_reducible refine (watchwordlaw11_awake.calls kj8  t227 _ A31.out (by first | rfl | exact HT.out)).mono ?_); rintro e w34 ⟨rfl, hb⟩; have n0_ := Aside0.mk (Kd.R_below (by (with_reducible repeat (first | apply Kd.R_alloc | apply Kd.R_drewN | apply Kd.R_drew)); exact HO_10.out) hb); have n1_ := Aside0.mk (below_step (by repeat (first | (with_reducible first | exact HB.out | apply below_alloc | apply pw_below_drewN | apply below_drew1) | exact HB.out)) hb); clear HO_10; clear HB; have HO_10 := n0_; have HB := n1_; clear n0_ n1_; (try clear hb); (try clear hb2); (try clear hk); (try clear hi)))
          go_ret
          exact ⟨by first | rfl | (simp [errW_none, errW_some] <;> rfl) | (simp [*, errW_none, errW_some] <;> rfl), below_step HB0.out (by repeat (first | (with_reducible first | exact HB.out | apply below_alloc | apply pw_below_drewN | apply below_drew1) | exact HB.out))⟩
        · replace c30 := Bool.eq_false_iff.mpr c30
          subst c30
          have H1 : (some false) = some r := by rw [if_neg (show ¬ (false = true) by decide)] at H; exact H
          clear H
          have H := H1
          clear H1
          exact absurd (Option.some.inj H) (by rw [HT.out]; decide)

/-- What the law comes to. -/
def watchwordlaw11_Acks.f (k : Nat) (l0 : List (S40)) (a1 : ByteArray) : Option Bool := if l0.length ≤ 4398046511000 then watchwordlaw11_Acks.g k l0 a1 l0 (l0 ++ [(⟨77777, 0, 0, 0⟩ : S40), (⟨77777, 0, 0, 0⟩ : S40)]) else none
theorem watchwordlaw11_Acks.copy {l0 : List S40} (hs : l0.length ≤ 4398046511000) : watchwordlaw0_CopyLsaHeads.f l0 = some l0 := by
  unfold watchwordlaw0_CopyLsaHeads.f
  simp only [Option.bind_some, List.length_nil, List.nil_append]
  rw [if_pos (by omega)]
theorem watchwordlaw11_Acks.lend {l0 : List S40} (hs : l0.length ≤ 4398046511000) : watchwordlaw0_LendLsaHeads.f l0 = some l0 := by
  unfold watchwordlaw0_LendLsaHeads.f
  simp only [watchwordlaw11_Acks.copy hs, Option.bind_some]
  rw [if_pos (by simp only [List.length_cons, List.length_nil]; omega), if_pos (by omega), if_pos (by rw [List.length_append]; omega), Int.toNat_natCast, List.take_left]
theorem watchwordlaw11_Acks.calls (k : Nat) (A0 : Option Addr) (c0 : Nat) (l0 : List (S40)) (a1 : ByteArray) (r : Bool) (w : World) (hr0 : Kd.C k40 w A0 l0.length l0) (hc0 : l0.length ≤ c0) (h : watchwordlaw11_Acks.f k l0 a1 = some r) (hT : r = true) :
    Calls Try.prog 3 #[.slice A0 l0.length c0, .string a1] w fun e w' => e = .returned (.bool r) ∧ Below w.heap.size w w' := by
  unfold watchwordlaw11_Acks.f at h
  by_cases hs : l0.length ≤ 4398046511000
  · rw [if_pos hs] at h
    exact watchwordlaw11_Acks.walk k A0 c0 l0 a1 l0 (l0 ++ [(⟨77777, 0, 0, 0⟩ : S40), (⟨77777, 0, 0, 0⟩ : S40)]) r w hr0 hc0 (watchwordlaw11_Acks.lend hs) (fun t_ h_ => by rw [watchwordlaw11_Acks.copy hs] at h_; rw [Option.some.inj h_]) (by rw [List.length_append]; rfl) (by omega) (by rw [List.length_append]; omega) h hT
  · rw [if_neg hs] at h; cases h

end Go.Proofs.Ytdmnfmkeifjmlaa.Q11a
