/- Written by a program of this session out of the print of the loaded functions: each Go function as a plain function, and that its call comes to it; for a law, the row out of its plain statement. -/
import Derived.Test.YtbajimbccbckkaaZ12x4
namespace Go.Proofs.Ytbajimbccbckkaa.Q12
open Go.RowKit Go.Proofs.YtbajimbccbckkaaW.PrintWords Go.Proofs.YtbajimbccbckkaaW.PrintLast Go.Proofs.YtbajimbccbckkaaW.PrintMore
attribute [local go_sem] max2_int min2_int max_two min_two max_three min_three max_four min_four   -- for this text's walks alone
set_option linter.unusedVariables false
set_option linter.unusedSimpArgs false

/-! ### watchwordlaw12_PacketCut: function 7 -/
def watchwordlaw12_PacketCut.j0 : Nat → Int → ByteArray → ByteArray → Bool → Option (Bool)
 | 0, _, _, _, _ => none
 | k + 1, x1, x2, x7, x27 => if x27 = true then (some (x7.toList == ([] : List UInt8))) else (if (IntKind.u64.wrap ((x7.size : Int))) = 0 then (none) else (if 0 ≤ (wrap64 (Int.tmod (IntKind.u64.wrap (x1)) (IntKind.u64.wrap ((x7.size : Int))))) then (if (wrap64 (Int.tmod (IntKind.u64.wrap (x1)) (IntKind.u64.wrap ((x7.size : Int))))) ≤ (x7.size : Int) then ((packet_Get.f k (x7.extract 0 ((wrap64 (Int.tmod (IntKind.u64.wrap (x1)) (IntKind.u64.wrap ((x7.size : Int))))) : Int).toNat)).bind fun bt358 => (if x7.size + 1 ≤ 9223372036854775807 then (if (x7 ++ (⟨#[120]⟩ : ByteArray)).size + x2.size ≤ 9223372036854775807 then ((packet_Get.f k ((x7 ++ (⟨#[120]⟩ : ByteArray)) ++ x2)).bind fun bt371 => ((watchwordlaw0_Num.f bt358.2.2.2.2.2).bind fun t384 => (if t384 = 1200 then ((watchwordlaw0_Num.f bt371.2.2.2.2.2).bind fun t385 => (some (t385 == 1200))) else (some false)))) else (none)) else (none))) else (none)) else (none)))
def watchwordlaw12_PacketCut.f (k : Nat) (a0_0 : Int) (a0_1 : Int) (l0_2 : List Int) (l0_3 : List (S45)) (l0_4 : List (S47)) (a1 : Int) (a2 : ByteArray) : Option (Bool) := (watchwordlaw12_awake.f k).bind fun t354 => (if t354 = true then ((packet_Put.f k a0_0 a0_1 l0_2 l0_3 l0_4).bind fun bt355 => ((watchwordlaw0_Num.f bt355.2).bind fun t357 => (if t357 = 0 then (watchwordlaw12_PacketCut.j0 k a1 a2 bt355.1 (decide ((bt355.1.size : Int) < 1))) else (watchwordlaw12_PacketCut.j0 k a1 a2 bt355.1 true)))) else (some false))
theorem watchwordlaw12_PacketCut.mono_l : ∀ k, (∀ y0 y1 y2 y3, LeO (watchwordlaw12_PacketCut.j0 k y0 y1 y2 y3) (watchwordlaw12_PacketCut.j0 (k + 1) y0 y1 y2 y3))
 | 0 => fun _ _ _ _ r h => by simp [watchwordlaw12_PacketCut.j0] at h
 | k + 1 => by
  have ih0 := watchwordlaw12_PacketCut.mono_l k
  ·intro y0 y1 y2 y3
   unfold watchwordlaw12_PacketCut.j0
   repeat' first
   | (with_reducible exact ih0 _ _ _ _)
   | (with_reducible exact packet_Get.mono _ _)
   | (with_reducible exact packet_Put.mono _ _ _ _ _ _)
   | (with_reducible exact watchwordlaw12_awake.mono _)
   | (with_reducible exact LeO.refl _)
   | (with_reducible exact LeO.none _)
   | (with_reducible refine LeO.ite ?_ ?_)
   | (with_reducible refine LeO.bind ?_ (fun _ => ?_))
   | exact ih0 _ _ _ _
   | exact packet_Get.mono _ _
   | exact packet_Put.mono _ _ _ _ _ _
   | exact watchwordlaw12_awake.mono _
   | exact LeO.none _
   | refine LeO.ite ?_ ?_
   | refine LeO.bind ?_ (fun _ => ?_)
theorem watchwordlaw12_PacketCut.mono : ∀ a0 a1 a2 a3 a4 a5 a6 k, LeO (watchwordlaw12_PacketCut.f k a0 a1 a2 a3 a4 a5 a6) (watchwordlaw12_PacketCut.f (k + 1) a0 a1 a2 a3 a4 a5 a6) := by
 intro a0 a1 a2 a3 a4 a5 a6 k
 have ih0 := watchwordlaw12_PacketCut.mono_l k
 unfold watchwordlaw12_PacketCut.f
 repeat' first
   | (with_reducible exact ih0 _ _ _ _)
   | (with_reducible exact packet_Get.mono _ _)
   | (with_reducible exact packet_Put.mono _ _ _ _ _ _)
   | (with_reducible exact watchwordlaw12_awake.mono _)
   | (with_reducible exact LeO.refl _)
   | (with_reducible exact LeO.none _)
   | (with_reducible refine LeO.ite ?_ ?_)
   | (with_reducible refine LeO.bind ?_ (fun _ => ?_))
   | exact ih0 _ _ _ _
   | exact packet_Get.mono _ _
   | exact packet_Put.mono _ _ _ _ _ _
   | exact watchwordlaw12_awake.mono _
   | exact LeO.none _
   | refine LeO.ite ?_ ?_
   | refine LeO.bind ?_ (fun _ => ?_)
set_option maxHeartbeats 8000000 in
set_option maxRecDepth 100000 in
theorem watchwordlaw12_PacketCut.calls (k : Nat) (a0_0 : Int) (a0_1 : Int) (A0_2 : Option Addr) (c0_2 : Nat) (l0_2 : List Int) (A0_3 : Option Addr) (c0_3 : Nat) (l0_3 : List (S45)) (A0_4 : Option Addr) (c0_4 : Nat) (l0_4 : List (S47)) (a1 : Int) (a2 : ByteArray) (r : Bool) (w : World) (hr0_2 : Kd.C (Kd.int .i64) w A0_2 l0_2.length l0_2) (hc0_2 : l0_2.length ≤ c0_2) (hr0_3 : Kd.C k45 w A0_3 l0_3.length l0_3) (hc0_3 : l0_3.length ≤ c0_3) (hr0_4 : Kd.C k47 w A0_4 l0_4.length l0_4) (hc0_4 : l0_4.length ≤ c0_4) (h : watchwordlaw12_PacketCut.f k a0_0 a0_1 l0_2 l0_3 l0_4 a1 a2 = some r) (hT : r = true) :
  Calls Try.prog 7 #[.agg #[.int .i64 a0_0, .int .i64 a0_1, .slice A0_2 l0_2.length c0_2, .slice A0_3 l0_3.length c0_3, .slice A0_4 l0_4.length c0_4], .int .i64 a1, .string a2] w fun e w' => e = .returned (.bool r) ∧ Below w.heap.size w w' := by
 have hu26 := Try.underlying26
 have HR0_2 := Aside0.mk hr0_2
 have HC0_2 := Aside0.mk hc0_2
 clear hr0_2 hc0_2
 have HR0_3 := Aside0.mk hr0_3
 have HC0_3 := Aside0.mk hc0_3
 clear hr0_3 hc0_3
 have HR0_4 := Aside0.mk hr0_4
 have HC0_4 := Aside0.mk hc0_4
 clear hr0_4 hc0_4
 have HB := Aside0.mk (Below.refl w.heap.size w)
 have HT := Aside0.mk hT
 clear hT
 have H : ((watchwordlaw12_awake.f k).bind fun t354 => (if t354 = true then ((packet_Put.f k a0_0 a0_1 l0_2 l0_3 l0_4).bind fun bt355 => ((watchwordlaw0_Num.f bt355.2).bind fun t357 => (if t357 = 0 then (watchwordlaw12_PacketCut.j0 k a1 a2 bt355.1 (decide ((bt355.1.size : Int) < 1))) else (watchwordlaw12_PacketCut.j0 k a1 a2 bt355.1 true)))) else (some false))) = some r := h
 clear h
 replace H := Option.bind_eq_some_iff.mp H
 obtain ⟨t354, A40, H⟩ := H
 replace H : (if t354 = true then ((packet_Put.f k a0_0 a0_1 l0_2 l0_3 l0_4).bind fun bt355 => ((watchwordlaw0_Num.f bt355.2).bind fun t357 => (if t357 = 0 then (watchwordlaw12_PacketCut.j0 k a1 a2 bt355.1 (decide ((bt355.1.size : Int) < 1))) else (watchwordlaw12_PacketCut.j0 k a1 a2 bt355.1 true)))) else (some false)) = some r := H
 have A4 := Aside0.mk A40
 clear A40
 by_cases c5 : t354 = true
 ·subst c5
  have H1 : ((packet_Put.f k a0_0 a0_1 l0_2 l0_3 l0_4).bind fun bt355 => ((watchwordlaw0_Num.f bt355.2).bind fun t357 => (if t357 = 0 then (watchwordlaw12_PacketCut.j0 k a1 a2 bt355.1 (decide ((bt355.1.size : Int) < 1))) else (watchwordlaw12_PacketCut.j0 k a1 a2 bt355.1 true)))) = some r := by rw [if_pos rfl] at H; exact H
  clear H
  have H := H1
  clear H1
  replace H := Option.bind_eq_some_iff.mp H
  obtain ⟨⟨t355, t356⟩, A60, H⟩ := H
  replace H : ((watchwordlaw0_Num.f t356).bind fun t357 => (if t357 = 0 then (watchwordlaw12_PacketCut.j0 k a1 a2 t355 (decide ((t355.size : Int) < 1))) else (watchwordlaw12_PacketCut.j0 k a1 a2 t355 true))) = some r := H
  have A6 := Aside0.mk A60
  clear A60
  have HC7 := Aside0.mk H
  clear H
  go_enter Try.func7, Try.ntmps7
  go_upto_region 4 with (first | ((with_reducible refine gate_dst (N := 3) rfl ?_); (try (refine gate_guard (by rfl) ?_; dsimp only)); refine box_event ?hg (N := 3) ?hd (cs := #[.int .i64 a0_0, .int .i64 a0_1, .slice A0_2 l0_2.length c0_2, .slice A0_3 l0_3.length c0_3, .slice A0_4 l0_4.length c0_4]) (t := 26) ?hr ?_; (case hd => rfl); (case hg => rfl); (case hr => first | (go_simp; done) | (go_simp; rfl)); intro gb353 hg w8 hbox hb; have n0_ := Aside0.mk (below_step (by repeat (first | (with_reducible first | exact HB.out | apply below_alloc | apply pw_below_drewN | apply below_drew1) | exact HB.out)) hb); have n1_ := Aside0.mk (hbox); have n2_ := Aside0.mk ((by rw [hg]; exact (below_size (by repeat (first | (with_reducible first | exact HB.out | apply below_alloc | apply pw_below_drewN | apply below_drew1) | exact HB.out))) : w.heap.size ≤ gb353)); have n3_ := Aside0.mk ((by rw [hg]; exact (below_size (by repeat (first | (with_reducible first | exact HB.out | apply below_alloc | apply pw_below_drewN | apply below_drew1) | exact HB.out))) : w.heap.size ≤ gb353)); clear HB; have HB := n0_; have BK353 := n1_; have GW353 := n2_; have GE353 := n3_; clear n0_ n1_ n2_ n3_; clear hb hbox hg) | ((with_reducible refine gate_callee (f := 18) rfl ?_); refine goesL_ (some 13) rfl rfl Try.func18 (by kernel_rfl) rfl #[] rfl (by (try simp only [List.map_toArray, List.map_cons, List.map_nil]); first | done | rfl | (simp only [List.length_drop, List.length_take]; rfl)) ?_; (with_reducible refine (watchwordlaw12_awake.calls k  true _ A4.out (by first | rfl | exact HT.out)).mono ?_); rintro e w9 ⟨rfl, hb⟩; refine ⟨_, rfl, ?_⟩; have n0_ := Aside0.mk (blk_below (g := gb353) (o := .cells #[.int .i64 a0_0, .int .i64 a0_1, .slice A0_2 l0_2.length c0_2, .slice A0_3 l0_3.length c0_3, .slice A0_4 l0_4.length c0_4] 26 (0, 0)) (by (with_reducible repeat (first | refine blk_drewN ?_ _ | refine blk_drew ?_ | refine blk_alloc ?_ _)); exact BK353.out) hb); have n1_ := Aside0.mk (below_step (by repeat (first | (with_reducible first | exact HB.out | apply below_alloc | apply pw_below_drewN | apply below_drew1 | refine below_set ?_ GE353.out) | exact HB.out)) hb); clear BK353; clear HB; have BK353 := n0_; have HB := n1_; clear n0_ n1_; (try clear hb); (try clear hb2); (try clear hk); (try clear hi); have hcz10_0 : w9.cell? ⟨gb353, 0, none⟩ = some (.int .i64 a0_0) := (blk_cell BK353.out 0).trans rfl; have hcz10_1 : w9.cell? ⟨gb353, 1, none⟩ = some (.int .i64 a0_1) := (blk_cell BK353.out 1).trans rfl; have hcz10_2 : w9.cell? ⟨gb353, 2, none⟩ = some (.slice A0_2 l0_2.length c0_2) := (blk_cell BK353.out 2).trans rfl; have hcz10_3 : w9.cell? ⟨gb353, 3, none⟩ = some (.slice A0_3 l0_3.length c0_3) := (blk_cell BK353.out 3).trans rfl; have hcz10_4 : w9.cell? ⟨gb353, 4, none⟩ = some (.slice A0_4 l0_4.length c0_4) := (blk_cell BK353.out 4).trans rfl; have hfz10_0 := blk_frozen BK353.out 0; have hfz10_1 := blk_frozen BK353.out 1; have hfz10_2 := blk_frozen BK353.out 2; have hfz10_3 := blk_frozen BK353.out 3; have hfz10_4 := blk_frozen BK353.out 4) | ((with_reducible refine gate_callee (f := 9) rfl ?_); refine goesL_ (some 17) rfl rfl Try.func9 (by kernel_rfl) rfl #[.agg #[.int .i64 a0_0, .int .i64 a0_1, .slice A0_2 l0_2.length c0_2, .slice A0_3 l0_3.length c0_3, .slice A0_4 l0_4.length c0_4]] rfl (by (try simp only [List.map_toArray, List.map_cons, List.map_nil]); first | done | rfl | (simp only [List.length_drop, List.length_take]; rfl)) ?_; (with_reducible refine (packet_Put.calls k a0_0 a0_1 _ _ l0_2 _ _ l0_3 _ _ l0_4 t355 t356 _ ?side1 ?side2 ?side3 ?side4 ?side5 ?side6 A6.out).mono ?_); (case side1 => repeat (first | exact (Kd.C_below HR0_2.out HB.out) | (with_reducible refine Kd.C_alloc ?_ _) | (with_reducible refine Kd.C_drewN ?_ _) | (with_reducible refine Kd.C_drew ?_))); (case side2 => exact HC0_2.out); (case side3 => repeat (first | exact (Kd.C_below HR0_3.out HB.out) | (with_reducible refine Kd.C_alloc ?_ _) | (with_reducible refine Kd.C_drewN ?_ _) | (with_reducible refine Kd.C_drew ?_))); (case side4 => exact HC0_3.out); (case side5 => repeat (first | exact (Kd.C_below HR0_4.out HB.out) | (with_reducible refine Kd.C_alloc ?_ _) | (with_reducible refine Kd.C_drewN ?_ _) | (with_reducible refine Kd.C_drew ?_))); (case side6 => exact HC0_4.out); rintro e w11 ⟨rfl, hb⟩; refine ⟨_, rfl, ?_⟩; have n0_ := Aside0.mk (blk_below (g := gb353) (o := .cells #[.int .i64 a0_0, .int .i64 a0_1, .slice A0_2 l0_2.length c0_2, .slice A0_3 l0_3.length c0_3, .slice A0_4 l0_4.length c0_4] 26 (0, 0)) (by (with_reducible repeat (first | refine blk_drewN ?_ _ | refine blk_drew ?_ | refine blk_alloc ?_ _)); exact BK353.out) hb); have n1_ := Aside0.mk (below_step (by repeat (first | (with_reducible first | exact HB.out | apply below_alloc | apply pw_below_drewN | apply below_drew1 | refine below_set ?_ GE353.out) | exact HB.out)) hb); clear BK353; clear HB; have BK353 := n0_; have HB := n1_; clear n0_ n1_; (try clear hb); (try clear hb2); (try clear hk); (try clear hi)))
  (try simp only [Act.put, List.setIfInBounds_toArray, List.set_cons_zero, List.set_cons_succ])
  go_cut [27] (fun v27 wc => ∃ (kq : Nat) (x27_6 : Bool), v27 = .bool x27_6 ∧ Aside0 (watchwordlaw12_PacketCut.j0 kq a1 a2 t355 x27_6 = some r) ∧ Aside0 (kq ≤ k) ∧ Aside0 (wc.heap[gb353]? = some (.cells #[.int .i64 a0_0, .int .i64 a0_1, (.slice A0_2 l0_2.length c0_2), (.slice A0_3 l0_3.length c0_3), (.slice A0_4 l0_4.length c0_4)] 26 (0, 0))) ∧ Aside0 (Below w.heap.size w wc))
  case first =>
   have H := HC7.out
   clear HC7
   replace H := Option.bind_eq_some_iff.mp H
   obtain ⟨t357, A120, H⟩ := H
   replace H : (if t357 = 0 then (watchwordlaw12_PacketCut.j0 k a1 a2 t355 (decide ((t355.size : Int) < 1))) else (watchwordlaw12_PacketCut.j0 k a1 a2 t355 true)) = some r := H
   have A12 := Aside0.mk A120
   clear A120
   by_cases c13 : t357 = 0
   ·rw [if_pos c13] at H
    have c13b0 : (t357 == 0) = true := beq_iff_eq.mpr c13
    have c13b1 : (t357 != 0) = false := bne_eq_false_iff_eq.mpr c13
    clear c13
    (first | rw [c13b0] | (simp only [i64_w, i32_w]; rw [c13b0]) | skip)
    have H' := Aside0.mk H
    clear H
    go_wp2_with (first | ((with_reducible refine gate_callee (f := 13) rfl ?_); refine goesL_ (some 21) rfl rfl Try.func13 (by kernel_rfl) rfl #[.int .i64 t356] rfl (by (try simp only [List.map_toArray, List.map_cons, List.map_nil]); first | done | rfl | (simp only [List.length_drop, List.length_take]; rfl)) ?_; (with_reducible refine (watchwordlaw0_Num.calls t356 t357 _ A12.out).mono ?_); rintro e w' ⟨rfl, ⟨nd, rfl⟩⟩; refine ⟨_, rfl, ?_⟩))
    go_meet
    case rel => exact ⟨_, (decide ((t355.size : Int) < 1)), (by first | rfl | (simp; done) | (simp [*]; done)), H', ⟨by first | omega | exact Nat.le_refl _⟩, ⟨by (with_reducible repeat (first | refine blk_drewN ?_ _ | refine blk_drew ?_ | refine blk_alloc ?_ _)); exact BK353.out⟩, ⟨by repeat (first | (with_reducible first | exact HB.out | apply below_alloc | apply pw_below_drewN | apply below_drew1 | refine below_set ?_ GE353.out) | exact HB.out)⟩⟩
   ·rw [if_neg c13] at H
    have c13b0 : (t357 == 0) = false := beq_eq_false_iff_ne.mpr c13
    have c13b1 : (t357 != 0) = true := bne_iff_ne.mpr c13
    (first | rw [c13b0] | (simp only [i64_w, i32_w]; rw [c13b0]) | skip)
    have H' := Aside0.mk H
    clear H
    go_wp2_with (first | ((with_reducible refine gate_callee (f := 13) rfl ?_); refine goesL_ (some 21) rfl rfl Try.func13 (by kernel_rfl) rfl #[.int .i64 t356] rfl (by (try simp only [List.map_toArray, List.map_cons, List.map_nil]); first | done | rfl | (simp only [List.length_drop, List.length_take]; rfl)) ?_; (with_reducible refine (watchwordlaw0_Num.calls t356 t357 _ A12.out).mono ?_); rintro e w' ⟨rfl, ⟨nd, rfl⟩⟩; refine ⟨_, rfl, ?_⟩))
    go_meet
    case rel => exact ⟨_, (true), (by first | rfl | (simp; done) | (simp [*]; done)), H', ⟨by first | omega | exact Nat.le_refl _⟩, ⟨by (with_reducible repeat (first | refine blk_drewN ?_ _ | refine blk_drew ?_ | refine blk_alloc ?_ _)); exact BK353.out⟩, ⟨by repeat (first | (with_reducible first | exact HB.out | apply below_alloc | apply pw_below_drewN | apply below_drew1 | refine below_set ?_ GE353.out) | exact HB.out)⟩⟩
  case rest =>
   clear HC7
   try clear c1
   try clear p2
   try clear c5
   try clear c7
   try clear c9
   try clear c13
   try clear c13b0
   try clear c13b1
   try clear hcz10_0
   try clear hcz10_1
   try clear hcz10_2
   try clear hcz10_3
   try clear hcz10_4
   try clear hfz10_0
   try clear hfz10_1
   try clear hfz10_2
   try clear hfz10_3
   try clear hfz10_4
   obtain ⟨kq, x27_6, rfl, HA, HJ6, BK353, HB⟩ := hcut
   cases kq with
   | zero => exact absurd HA.out (by simp [watchwordlaw12_PacketCut.j0])
   | succ kj6 =>
    have H := HA.out
    clear HA
    simp only [watchwordlaw12_PacketCut.j0] at H
    by_cases c14 : x27_6 = true
    ·subst c14
     have H1 : (some (t355.toList == ([] : List UInt8))) = some r := by rw [if_pos rfl] at H; exact H
     clear H
     have H := H1
     clear H1
     obtain rfl := Option.some.inj H
     go_wp2
     go_ret
     exact ⟨by first | rfl | (simp [errW_none, errW_some] <;> rfl) | (simp [*, errW_none, errW_some] <;> rfl), by repeat (first | (with_reducible first | exact HB.out | apply below_alloc | apply pw_below_drewN | apply below_drew1 | refine below_set ?_ GE353.out) | exact HB.out)⟩
    ·replace c14 := Bool.eq_false_iff.mpr c14
     subst c14
     have H1 : (if (IntKind.u64.wrap ((t355.size : Int))) = 0 then (none) else (if 0 ≤ (wrap64 (Int.tmod (IntKind.u64.wrap (a1)) (IntKind.u64.wrap ((t355.size : Int))))) then (if (wrap64 (Int.tmod (IntKind.u64.wrap (a1)) (IntKind.u64.wrap ((t355.size : Int))))) ≤ (t355.size : Int) then ((packet_Get.f kj6 (t355.extract 0 ((wrap64 (Int.tmod (IntKind.u64.wrap (a1)) (IntKind.u64.wrap ((t355.size : Int))))) : Int).toNat)).bind fun bt358 => (if t355.size + 1 ≤ 9223372036854775807 then (if (t355 ++ (⟨#[120]⟩ : ByteArray)).size + a2.size ≤ 9223372036854775807 then ((packet_Get.f kj6 ((t355 ++ (⟨#[120]⟩ : ByteArray)) ++ a2)).bind fun bt371 => ((watchwordlaw0_Num.f bt358.2.2.2.2.2).bind fun t384 => (if t384 = 1200 then ((watchwordlaw0_Num.f bt371.2.2.2.2.2).bind fun t385 => (some (t385 == 1200))) else (some false)))) else (none)) else (none))) else (none)) else (none))) = some r := by rw [if_neg (show ¬ (false = true) by decide)] at H; exact H
     clear H
     have H := H1
     clear H1
     by_cases c15 : (IntKind.u64.wrap ((t355.size : Int))) = 0
     ·rw [if_pos c15] at H
      exact absurd H (by simp)
     ·rw [if_neg c15] at H
      have c15b0 : ((IntKind.u64.wrap ((t355.size : Int))) == 0) = false := beq_eq_false_iff_ne.mpr c15
      have c15b1 : ((IntKind.u64.wrap ((t355.size : Int))) != 0) = true := bne_iff_ne.mpr c15
      obtain ⟨ji16, hji16⟩ : ∃ j_ : Int, (wrap64 (Int.tmod (IntKind.u64.wrap (a1)) (IntKind.u64.wrap ((t355.size : Int))))) = j_ := ⟨_, rfl⟩
      replace H : (if 0 ≤ (ji16) then (if (ji16) ≤ (t355.size : Int) then ((packet_Get.f kj6 (t355.extract 0 ((ji16) : Int).toNat)).bind fun bt358 => (if t355.size + 1 ≤ 9223372036854775807 then (if (t355 ++ (⟨#[120]⟩ : ByteArray)).size + a2.size ≤ 9223372036854775807 then ((packet_Get.f kj6 ((t355 ++ (⟨#[120]⟩ : ByteArray)) ++ a2)).bind fun bt371 => ((watchwordlaw0_Num.f bt358.2.2.2.2.2).bind fun t384 => (if t384 = 1200 then ((watchwordlaw0_Num.f bt371.2.2.2.2.2).bind fun t385 => (some (t385 == 1200))) else (some false)))) else (none)) else (none))) else (none)) else (none)) = some r := by first | (rw [hji16] at H; exact H) | (simp only [hji16] at H ⊢; exact H)
      have hji16w : (IntKind.i64.wrap (Int.tmod (IntKind.u64.wrap (a1)) (IntKind.u64.wrap ((t355.size : Int))))) = ji16 := (i64_w _).trans hji16
      by_cases c17 : 0 ≤ (ji16)
      ·rw [if_pos c17] at H
       have c17b0 := eq_true c17
       have c17b1 : decide (0 ≤ (ji16)) = true := decide_eq_true c17
       clear c17
       by_cases c18 : (ji16) ≤ (t355.size : Int)
       ·rw [if_pos c18] at H
        have c18b0 := eq_true c18
        have c18b1 : decide ((ji16) ≤ (t355.size : Int)) = true := decide_eq_true c18
        clear c18
        replace H := Option.bind_eq_some_iff.mp H
        obtain ⟨⟨t358, t359, t360, t363, t366, t369⟩, A190, H⟩ := H
        replace H : (if t355.size + 1 ≤ 9223372036854775807 then (if (t355 ++ (⟨#[120]⟩ : ByteArray)).size + a2.size ≤ 9223372036854775807 then ((packet_Get.f kj6 ((t355 ++ (⟨#[120]⟩ : ByteArray)) ++ a2)).bind fun bt371 => ((watchwordlaw0_Num.f t369).bind fun t384 => (if t384 = 1200 then ((watchwordlaw0_Num.f bt371.2.2.2.2.2).bind fun t385 => (some (t385 == 1200))) else (some false)))) else (none)) else (none)) = some r := H
        have A19 := Aside0.mk A190
        clear A190
        by_cases c20 : t355.size + 1 ≤ 9223372036854775807
        ·rw [if_pos c20] at H
         have c20b0 := eq_true c20
         have c20b1 : decide (t355.size + 1 ≤ 9223372036854775807) = true := decide_eq_true c20
         try have c20b2 : (9223372036854775807 < t355.size + 1) = False := eq_false (Nat.not_lt.2 c20)
         by_cases c21 : (t355 ++ (⟨#[120]⟩ : ByteArray)).size + a2.size ≤ 9223372036854775807
         ·rw [if_pos c21] at H
          have c21b0 := eq_true c21
          have c21b1 : decide ((t355 ++ (⟨#[120]⟩ : ByteArray)).size + a2.size ≤ 9223372036854775807) = true := decide_eq_true c21
          try have c21b2 : (9223372036854775807 < (t355 ++ (⟨#[120]⟩ : ByteArray)).size + a2.size) = False := eq_false (Nat.not_lt.2 c21)
          try have c21b3 : (9223372036854775807 < t355.size + 1 + a2.size) = False := eq_false (by have h_ := c21; simp only [ByteArray.size_append] at h_; have l0_ : (⟨#[120]⟩ : ByteArray).size = 1 := rfl; omega)
          try have c21b4 : (9223372036854775807 < t355.size + (⟨#[120]⟩ : ByteArray).size + a2.size) = False := eq_false (by have h_ := c21; simp only [ByteArray.size_append] at h_; have l0_ : (⟨#[120]⟩ : ByteArray).size = 1 := rfl; omega)
          replace H := Option.bind_eq_some_iff.mp H
          obtain ⟨⟨t371, t372, t373, t376, t379, t382⟩, A220, H⟩ := H
          replace H : ((watchwordlaw0_Num.f t369).bind fun t384 => (if t384 = 1200 then ((watchwordlaw0_Num.f t382).bind fun t385 => (some (t385 == 1200))) else (some false))) = some r := H
          have A22 := Aside0.mk A220
          clear A220
          replace H := Option.bind_eq_some_iff.mp H
          obtain ⟨t384, A230, H⟩ := H
          replace H : (if t384 = 1200 then ((watchwordlaw0_Num.f t382).bind fun t385 => (some (t385 == 1200))) else (some false)) = some r := H
          have A23 := Aside0.mk A230
          clear A230
          by_cases c24 : t384 = 1200
          ·rw [if_pos c24] at H
           have c24b0 : (t384 == 1200) = true := beq_iff_eq.mpr c24
           have c24b1 : (t384 != 1200) = false := bne_eq_false_iff_eq.mpr c24
           clear c24
           replace H := Option.bind_eq_some_iff.mp H
           obtain ⟨t385, A250, H⟩ := H
           replace H : (some (t385 == 1200)) = some r := H
           have A25 := Aside0.mk A250
           clear A250
           obtain rfl := Option.some.inj H
           have h20_ := of_eq_true c20b0
           have hsz_ : IntKind.u64.wrap ((t355.size : Int)) = (t355.size : Int) := by
            have h_ : IntKind.u64.wrap (t355.size : Int) = (t355.size : Int) % 18446744073709551616 := by simp [IntKind.wrap, IntKind.bits, IntKind.signed]
            rw [h_]; exact Int.emod_eq_of_lt (by omega) (by omega)
           have hji16s : wrap64 (Int.tmod (IntKind.u64.wrap a1) (t355.size : Int)) = ji16 := by rw [← hji16, hsz_]
           have hji16u : IntKind.i64.wrap (Int.tmod (IntKind.u64.wrap a1) (t355.size : Int)) = ji16 := (i64_w _).trans hji16s
           rw [hsz_] at c15b0 c15b1
           have hne_ : (t355 = ByteArray.empty) = False := eq_false (fun h_ => by rw [h_] at c15b0; exact absurd c15b0 (by decide))
           clear hsz_ h20_ hji16 hji16w
           go_wp2_with (first | ((with_reducible refine gate_callee (f := 11) rfl ?_); refine goesL_ (some 40) rfl rfl Try.func11 (by kernel_rfl) rfl #[.string (t355.extract 0 ((ji16) : Int).toNat)] rfl (by (try simp only [List.map_toArray, List.map_cons, List.map_nil]); first | done | (simp only [hji16]; rfl) | (simp only [hji16, ByteArray.size_extract, Nat.min_self]; done) | (simp only [hji16, ByteArray.size_extract, Nat.min_self]; rfl) | (simp only [ByteArray.size_extract, Nat.min_self]; done) | (simp only [ByteArray.size_extract, Nat.min_self]; rfl) | rfl | (simp only [List.length_drop, List.length_take]; rfl)) ?_; (with_reducible refine (packet_Get.calls kj6 (t355.extract 0 ((ji16) : Int).toNat) t358 t359 t360 t363 t366 t369 _ A19.out).mono ?_); rintro e w26 ⟨v361, v364, v367, rfl, ho0, ho1, ho2, hb⟩; refine ⟨_, rfl, ?_⟩; have n0_ := Aside0.mk (Kd.R_lower ho0 (below_size (by repeat (first | (with_reducible first | exact HB.out | apply below_alloc | apply pw_below_drewN | apply below_drew1 | refine below_set ?_ GE353.out) | exact HB.out)))); have n1_ := Aside0.mk (Kd.S_lower ho1 (below_size (by repeat (first | (with_reducible first | exact HB.out | apply below_alloc | apply pw_below_drewN | apply below_drew1 | refine below_set ?_ GE353.out) | exact HB.out)))); have n2_ := Aside0.mk (Kd.R_lower ho2 (below_size (by repeat (first | (with_reducible first | exact HB.out | apply below_alloc | apply pw_below_drewN | apply below_drew1 | refine below_set ?_ GE353.out) | exact HB.out)))); have n3_ := Aside0.mk (blk_below (g := gb353) (o := .cells #[.int .i64 a0_0, .int .i64 a0_1, .slice A0_2 l0_2.length c0_2, .slice A0_3 l0_3.length c0_3, .slice A0_4 l0_4.length c0_4] 26 (0, 0)) (by (with_reducible repeat (first | refine blk_drewN ?_ _ | refine blk_drew ?_ | refine blk_alloc ?_ _)); exact BK353.out) hb); have n4_ := Aside0.mk (below_step (by repeat (first | (with_reducible first | exact HB.out | apply below_alloc | apply pw_below_drewN | apply below_drew1 | refine below_set ?_ GE353.out) | exact HB.out)) hb); clear BK353; clear HB; have HO362 := n0_; have HO365 := n1_; have HO368 := n2_; have BK353 := n3_; have HB := n4_; clear n0_ n1_ n2_ n3_ n4_; (try clear hb); (try clear hb2); (try clear hk); (try clear hi); (try clear ho0); (try clear ho1); (try clear ho2)) | ((with_reducible refine gate_dst (N := 9) rfl ?_); (try (refine gate_guard (by rfl) ?_; dsimp only)); refine box_event ?hg (N := 9) ?hd (cs := #[.int .i64 0, .int .i64 0, .slice none 0 0, .slice none 0 0, .slice none 0 0]) (t := 26) ?hr ?_; (case hd => rfl); (case hg => rfl); (case hr => first | (go_simp; done) | (go_simp; rfl)); intro gb370 hg w27 hbox hb; have n0_ := Aside0.mk (Kd.R_below (by (with_reducible repeat (first | apply Kd.R_alloc | apply Kd.R_drewN | apply Kd.R_drew)); exact HO362.out) hb); have n1_ := Aside0.mk (Kd.S_below (by (with_reducible repeat (first | apply Kd.S_alloc | apply Kd.S_drewN | apply Kd.S_drew)); exact HO365.out) hb); have n2_ := Aside0.mk (Kd.R_below (by (with_reducible repeat (first | apply Kd.R_alloc | apply Kd.R_drewN | apply Kd.R_drew)); exact HO368.out) hb); have n3_ := Aside0.mk (blk_below (g := gb353) (o := .cells #[.int .i64 a0_0, .int .i64 a0_1, .slice A0_2 l0_2.length c0_2, .slice A0_3 l0_3.length c0_3, .slice A0_4 l0_4.length c0_4] 26 (0, 0)) (by (with_reducible repeat (first | refine blk_drewN ?_ _ | refine blk_drew ?_ | refine blk_alloc ?_ _)); exact BK353.out) hb); have n4_ := Aside0.mk (below_step (by repeat (first | (with_reducible first | exact HB.out | apply below_alloc | apply pw_below_drewN | apply below_drew1 | refine below_set ?_ GE353.out) | exact HB.out)) hb); have n5_ := Aside0.mk (hbox); have n6_ := Aside0.mk ((by rw [hg]; exact (below_size (by repeat (first | (with_reducible first | exact HB.out | apply below_alloc | apply pw_below_drewN | apply below_drew1 | refine below_set ?_ GE353.out) | exact HB.out))) : w.heap.size ≤ gb370)); have n7_ := Aside0.mk ((by rw [hg]; exact (below_size (by repeat (first | (with_reducible first | exact HB.out | apply below_alloc | apply pw_below_drewN | apply below_drew1 | refine below_set ?_ GE353.out) | exact HB.out))) : w.heap.size ≤ gb370)); have n8_ := Aside0.mk ((by rw [hg]; exact Nat.ne_of_lt (blk_lt (g := gb353) (o := .cells #[.int .i64 a0_0, .int .i64 a0_1, .slice A0_2 l0_2.length c0_2, .slice A0_3 l0_3.length c0_3, .slice A0_4 l0_4.length c0_4] 26 (0, 0)) (by (with_reducible repeat (first | refine blk_drewN ?_ _ | refine blk_drew ?_ | refine blk_alloc ?_ _)); exact BK353.out)) : gb353 ≠ gb370)); have n9_ := Aside0.mk ((by rw [hg]; exact Nat.ne_of_gt (blk_lt (g := gb353) (o := .cells #[.int .i64 a0_0, .int .i64 a0_1, .slice A0_2 l0_2.length c0_2, .slice A0_3 l0_3.length c0_3, .slice A0_4 l0_4.length c0_4] 26 (0, 0)) (by (with_reducible repeat (first | refine blk_drewN ?_ _ | refine blk_drew ?_ | refine blk_alloc ?_ _)); exact BK353.out)) : gb370 ≠ gb353)); clear HO362; clear HO365; clear HO368; clear BK353; clear HB; have HO362 := n0_; have HO365 := n1_; have HO368 := n2_; have BK353 := n3_; have HB := n4_; have BK370 := n5_; have GW370 := n6_; have GE370 := n7_; have NB353_370 := n8_; have NB370_353 := n9_; clear n0_ n1_ n2_ n3_ n4_ n5_ n6_ n7_ n8_ n9_; clear hb hbox hg; have hnb28 := NB370_353.out; have hnc28 := NB353_370.out; have hcz29_0 : w27.cell? ⟨gb370, 0, none⟩ = some (.int .i64 0) := (blk_cell BK370.out 0).trans rfl; have hcz29_1 : w27.cell? ⟨gb370, 1, none⟩ = some (.int .i64 0) := (blk_cell BK370.out 1).trans rfl; have hcz29_2 : w27.cell? ⟨gb370, 2, none⟩ = some (.slice none 0 0) := (blk_cell BK370.out 2).trans rfl; have hcz29_3 : w27.cell? ⟨gb370, 3, none⟩ = some (.slice none 0 0) := (blk_cell BK370.out 3).trans rfl; have hcz29_4 : w27.cell? ⟨gb370, 4, none⟩ = some (.slice none 0 0) := (blk_cell BK370.out 4).trans rfl; have hfz29_0 := blk_frozen BK370.out 0; have hfz29_1 := blk_frozen BK370.out 1; have hfz29_2 := blk_frozen BK370.out 2; have hfz29_3 := blk_frozen BK370.out 3; have hfz29_4 := blk_frozen BK370.out 4; obtain ⟨Ao30, co30, eo30⟩ := Kd.R_slice HO362.out; subst eo30; obtain ⟨Ao31, co31, eo31⟩ := Kd.S_slice HO365.out; subst eo31; obtain ⟨Ao32, co32, eo32⟩ := Kd.R_slice HO368.out; subst eo32) | ((with_reducible refine gate_callee (f := 11) rfl ?_); refine goesL_ (some 48) rfl rfl Try.func11 (by kernel_rfl) rfl #[.string ((t355 ++ (⟨#[120]⟩ : ByteArray)) ++ a2)] rfl (by (try simp only [List.map_toArray, List.map_cons, List.map_nil]); first | done | rfl | (simp only [List.length_drop, List.length_take]; rfl)) ?_; (with_reducible refine (packet_Get.calls kj6 ((t355 ++ (⟨#[120]⟩ : ByteArray)) ++ a2) t371 t372 t373 t376 t379 t382 _ A22.out).mono ?_); rintro e w33 ⟨v374, v377, v380, rfl, ho0, ho1, ho2, hb⟩; refine ⟨_, rfl, ?_⟩; have n0_ := Aside0.mk (Kd.R_elder' (by (with_reducible repeat (first | apply Kd.R_alloc | apply Kd.R_drewN | apply Kd.R_drew)); exact (Kd.R_mono (Kd.R_far (p := ⟨gb370, 4, none⟩) (Kd.R_far (p := ⟨gb370, 3, none⟩) (Kd.R_far (p := ⟨gb370, 2, none⟩) (Kd.R_far (p := ⟨gb370, 1, none⟩) (Kd.R_far (p := ⟨gb370, 0, none⟩) (Kd.R_types HO362.out BK370.out (by decide)) (fun _ hk => hk.2) (.int .i64 t358)) (fun _ hk => hk.2) (.int .i64 t359)) (fun _ hk => hk.2) (.slice Ao30 t360.length co30)) (fun _ hk => hk.2) (.slice Ao31 t363.length co31)) (fun _ hk => hk.2) (.slice Ao32 t366.length co32)) (fun _ h_ => h_.1))) (Kd.R_base ho0) hb); have n1_ := Aside0.mk (Kd.S_elder' (by (with_reducible repeat (first | apply Kd.S_alloc | apply Kd.S_drewN | apply Kd.S_drew)); exact (Kd.S_mono (Kd.S_far (p := ⟨gb370, 4, none⟩) (Kd.S_far (p := ⟨gb370, 3, none⟩) (Kd.S_far (p := ⟨gb370, 2, none⟩) (Kd.S_far (p := ⟨gb370, 1, none⟩) (Kd.S_far (p := ⟨gb370, 0, none⟩) (Kd.S_types HO365.out BK370.out (by decide)) (fun _ hk => hk.2) (.int .i64 t358)) (fun _ hk => hk.2) (.int .i64 t359)) (fun _ hk => hk.2) (.slice Ao30 t360.length co30)) (fun _ hk => hk.2) (.slice Ao31 t363.length co31)) (fun _ hk => hk.2) (.slice Ao32 t366.length co32)) (fun _ h_ => h_.1))) (Kd.S_base ho1) hb); have n2_ := Aside0.mk (Kd.R_elder' (by (with_reducible repeat (first | apply Kd.R_alloc | apply Kd.R_drewN | apply Kd.R_drew)); exact (Kd.R_mono (Kd.R_far (p := ⟨gb370, 4, none⟩) (Kd.R_far (p := ⟨gb370, 3, none⟩) (Kd.R_far (p := ⟨gb370, 2, none⟩) (Kd.R_far (p := ⟨gb370, 1, none⟩) (Kd.R_far (p := ⟨gb370, 0, none⟩) (Kd.R_types HO368.out BK370.out (by decide)) (fun _ hk => hk.2) (.int .i64 t358)) (fun _ hk => hk.2) (.int .i64 t359)) (fun _ hk => hk.2) (.slice Ao30 t360.length co30)) (fun _ hk => hk.2) (.slice Ao31 t363.length co31)) (fun _ hk => hk.2) (.slice Ao32 t366.length co32)) (fun _ h_ => h_.1))) (Kd.R_base ho2) hb); have n3_ := Aside0.mk (Kd.R_lower (Kd.R_new' ho0 (Kd.R_lt (by (with_reducible repeat (first | apply Kd.R_alloc | apply Kd.R_drewN | apply Kd.R_drew)); exact (Kd.R_mono (Kd.R_far (p := ⟨gb370, 4, none⟩) (Kd.R_far (p := ⟨gb370, 3, none⟩) (Kd.R_far (p := ⟨gb370, 2, none⟩) (Kd.R_far (p := ⟨gb370, 1, none⟩) (Kd.R_far (p := ⟨gb370, 0, none⟩) (Kd.R_types HO362.out BK370.out (by decide)) (fun _ hk => hk.2) (.int .i64 t358)) (fun _ hk => hk.2) (.int .i64 t359)) (fun _ hk => hk.2) (.slice Ao30 t360.length co30)) (fun _ hk => hk.2) (.slice Ao31 t363.length co31)) (fun _ hk => hk.2) (.slice Ao32 t366.length co32)) (fun _ h_ => h_.1))))) (below_size (by repeat (first | (with_reducible first | exact HB.out | apply below_alloc | apply pw_below_drewN | apply below_drew1 | refine below_set ?_ GE353.out | refine below_set ?_ GE370.out) | exact HB.out)))); have n4_ := Aside0.mk (Kd.S_lower (Kd.S_new' ho1 (Kd.S_lt (by (with_reducible repeat (first | apply Kd.S_alloc | apply Kd.S_drewN | apply Kd.S_drew)); exact (Kd.S_mono (Kd.S_far (p := ⟨gb370, 4, none⟩) (Kd.S_far (p := ⟨gb370, 3, none⟩) (Kd.S_far (p := ⟨gb370, 2, none⟩) (Kd.S_far (p := ⟨gb370, 1, none⟩) (Kd.S_far (p := ⟨gb370, 0, none⟩) (Kd.S_types HO365.out BK370.out (by decide)) (fun _ hk => hk.2) (.int .i64 t358)) (fun _ hk => hk.2) (.int .i64 t359)) (fun _ hk => hk.2) (.slice Ao30 t360.length co30)) (fun _ hk => hk.2) (.slice Ao31 t363.length co31)) (fun _ hk => hk.2) (.slice Ao32 t366.length co32)) (fun _ h_ => h_.1))))) (below_size (by repeat (first | (with_reducible first | exact HB.out | apply below_alloc | apply pw_below_drewN | apply below_drew1 | refine below_set ?_ GE353.out | refine below_set ?_ GE370.out) | exact HB.out)))); have n5_ := Aside0.mk (Kd.R_lower (Kd.R_new' ho2 (Kd.R_lt (by (with_reducible repeat (first | apply Kd.R_alloc | apply Kd.R_drewN | apply Kd.R_drew)); exact (Kd.R_mono (Kd.R_far (p := ⟨gb370, 4, none⟩) (Kd.R_far (p := ⟨gb370, 3, none⟩) (Kd.R_far (p := ⟨gb370, 2, none⟩) (Kd.R_far (p := ⟨gb370, 1, none⟩) (Kd.R_far (p := ⟨gb370, 0, none⟩) (Kd.R_types HO368.out BK370.out (by decide)) (fun _ hk => hk.2) (.int .i64 t358)) (fun _ hk => hk.2) (.int .i64 t359)) (fun _ hk => hk.2) (.slice Ao30 t360.length co30)) (fun _ hk => hk.2) (.slice Ao31 t363.length co31)) (fun _ hk => hk.2) (.slice Ao32 t366.length co32)) (fun _ h_ => h_.1))))) (below_size (by repeat (first | (with_reducible first | exact HB.out | apply below_alloc | apply pw_below_drewN | apply below_drew1 | refine below_set ?_ GE353.out | refine below_set ?_ GE370.out) | exact HB.out)))); have n6_ := Aside0.mk (blk_below (g := gb353) (o := .cells #[.int .i64 a0_0, .int .i64 a0_1, .slice A0_2 l0_2.length c0_2, .slice A0_3 l0_3.length c0_3, .slice A0_4 l0_4.length c0_4] 26 (0, 0)) (by (with_reducible repeat (first | refine blk_drewN ?_ _ | refine blk_drew ?_ | refine blk_alloc ?_ _)); refine blk_far ?_ NB353_370.out _; (with_reducible repeat (first | refine blk_drewN ?_ _ | refine blk_drew ?_ | refine blk_alloc ?_ _)); refine blk_far ?_ NB353_370.out _; (with_reducible repeat (first | refine blk_drewN ?_ _ | refine blk_drew ?_ | refine blk_alloc ?_ _)); refine blk_far ?_ NB353_370.out _; (with_reducible repeat (first | refine blk_drewN ?_ _ | refine blk_drew ?_ | refine blk_alloc ?_ _)); refine blk_far ?_ NB353_370.out _; (with_reducible repeat (first | refine blk_drewN ?_ _ | refine blk_drew ?_ | refine blk_alloc ?_ _)); refine blk_far ?_ NB353_370.out _; (with_reducible repeat (first | refine blk_drewN ?_ _ | refine blk_drew ?_ | refine blk_alloc ?_ _)); exact BK353.out) hb); have n7_ := Aside0.mk (blk_below (g := gb370) (o := .cells #[.int .i64 t358, .int .i64 t359, .slice Ao30 t360.length co30, .slice Ao31 t363.length co31, .slice Ao32 t366.length co32] 26 (0, 0)) (by (with_reducible repeat (first | refine blk_drewN ?_ _ | refine blk_drew ?_ | refine blk_alloc ?_ _)); refine blk_put (cs := #[.int .i64 t358, .int .i64 t359, .slice Ao30 t360.length co30, .slice Ao31 t363.length co31, .slice none 0 0]) ?_ 4 _ rfl; (with_reducible repeat (first | refine blk_drewN ?_ _ | refine blk_drew ?_ | refine blk_alloc ?_ _)); refine blk_put (cs := #[.int .i64 t358, .int .i64 t359, .slice Ao30 t360.length co30, .slice none 0 0, .slice none 0 0]) ?_ 3 _ rfl; (with_reducible repeat (first | refine blk_drewN ?_ _ | refine blk_drew ?_ | refine blk_alloc ?_ _)); refine blk_put (cs := #[.int .i64 t358, .int .i64 t359, .slice none 0 0, .slice none 0 0, .slice none 0 0]) ?_ 2 _ rfl; (with_reducible repeat (first | refine blk_drewN ?_ _ | refine blk_drew ?_ | refine blk_alloc ?_ _)); refine blk_put (cs := #[.int .i64 t358, .int .i64 0, .slice none 0 0, .slice none 0 0, .slice none 0 0]) ?_ 1 _ rfl; (with_reducible repeat (first | refine blk_drewN ?_ _ | refine blk_drew ?_ | refine blk_alloc ?_ _)); refine blk_put (cs := #[.int .i64 0, .int .i64 0, .slice none 0 0, .slice none 0 0, .slice none 0 0]) ?_ 0 _ rfl; (with_reducible repeat (first | refine blk_drewN ?_ _ | refine blk_drew ?_ | refine blk_alloc ?_ _)); exact BK370.out) hb); have n8_ := Aside0.mk (below_step (by repeat (first | (with_reducible first | exact HB.out | apply below_alloc | apply pw_below_drewN | apply below_drew1 | refine below_set ?_ GE353.out | refine below_set ?_ GE370.out) | exact HB.out)) hb); clear HO362; clear HO365; clear HO368; clear BK353; clear BK370; clear HB; have HO362 := n0_; have HO365 := n1_; have HO368 := n2_; have HO375 := n3_; have HO378 := n4_; have HO381 := n5_; have BK353 := n6_; have BK370 := n7_; have HB := n8_; clear n0_ n1_ n2_ n3_ n4_ n5_ n6_ n7_ n8_; (try clear hb); (try clear hb2); (try clear hk); (try clear hi); (try clear ho0); (try clear ho1); (try clear ho2)) | ((with_reducible refine gate_dst (N := 11) rfl ?_); (try (refine gate_guard (by rfl) ?_; dsimp only)); refine box_event ?hg (N := 11) ?hd (cs := #[.int .i64 0, .int .i64 0, .slice none 0 0, .slice none 0 0, .slice none 0 0]) (t := 26) ?hr ?_; (case hd => rfl); (case hg => rfl); (case hr => first | (go_simp; done) | (go_simp; rfl)); intro gb383 hg w34 hbox hb; have n0_ := Aside0.mk (Kd.R_below (by (with_reducible repeat (first | apply Kd.R_alloc | apply Kd.R_drewN | apply Kd.R_drew)); exact HO362.out) hb); have n1_ := Aside0.mk (Kd.S_below (by (with_reducible repeat (first | apply Kd.S_alloc | apply Kd.S_drewN | apply Kd.S_drew)); exact HO365.out) hb); have n2_ := Aside0.mk (Kd.R_below (by (with_reducible repeat (first | apply Kd.R_alloc | apply Kd.R_drewN | apply Kd.R_drew)); exact HO368.out) hb); have n3_ := Aside0.mk (Kd.R_below (by (with_reducible repeat (first | apply Kd.R_alloc | apply Kd.R_drewN | apply Kd.R_drew)); exact HO375.out) hb); have n4_ := Aside0.mk (Kd.S_below (by (with_reducible repeat (first | apply Kd.S_alloc | apply Kd.S_drewN | apply Kd.S_drew)); exact HO378.out) hb); have n5_ := Aside0.mk (Kd.R_below (by (with_reducible repeat (first | apply Kd.R_alloc | apply Kd.R_drewN | apply Kd.R_drew)); exact HO381.out) hb); have n6_ := Aside0.mk (blk_below (g := gb353) (o := .cells #[.int .i64 a0_0, .int .i64 a0_1, .slice A0_2 l0_2.length c0_2, .slice A0_3 l0_3.length c0_3, .slice A0_4 l0_4.length c0_4] 26 (0, 0)) (by (with_reducible repeat (first | refine blk_drewN ?_ _ | refine blk_drew ?_ | refine blk_alloc ?_ _)); exact BK353.out) hb); have n7_ := Aside0.mk (blk_below (g := gb370) (o := .cells #[.int .i64 t358, .int .i64 t359, .slice Ao30 t360.length co30, .slice Ao31 t363.length co31, .slice Ao32 t366.length co32] 26 (0, 0)) (by (with_reducible repeat (first | refine blk_drewN ?_ _ | refine blk_drew ?_ | refine blk_alloc ?_ _)); exact BK370.out) hb); have n8_ := Aside0.mk (below_step (by repeat (first | (with_reducible first | exact HB.out | apply below_alloc | apply pw_below_drewN | apply below_drew1 | refine below_set ?_ GE353.out | refine below_set ?_ GE370.out) | exact HB.out)) hb); have n9_ := Aside0.mk (hbox); have n10_ := Aside0.mk ((by rw [hg]; exact (below_size (by repeat (first | (with_reducible first | exact HB.out | apply below_alloc | apply pw_below_drewN | apply below_drew1 | refine below_set ?_ GE353.out | refine below_set ?_ GE370.out) | exact HB.out))) : w.heap.size ≤ gb383)); have n11_ := Aside0.mk ((by rw [hg]; exact (below_size (by repeat (first | (with_reducible first | exact HB.out | apply below_alloc | apply pw_below_drewN | apply below_drew1 | refine below_set ?_ GE353.out | refine below_set ?_ GE370.out) | exact HB.out))) : w.heap.size ≤ gb383)); have n12_ := Aside0.mk ((by rw [hg]; exact Nat.ne_of_lt (blk_lt (g := gb353) (o := .cells #[.int .i64 a0_0, .int .i64 a0_1, .slice A0_2 l0_2.length c0_2, .slice A0_3 l0_3.length c0_3, .slice A0_4 l0_4.length c0_4] 26 (0, 0)) (by (with_reducible repeat (first | refine blk_drewN ?_ _ | refine blk_drew ?_ | refine blk_alloc ?_ _)); exact BK353.out)) : gb353 ≠ gb383)); have n13_ := Aside0.mk ((by rw [hg]; exact Nat.ne_of_gt (blk_lt (g := gb353) (o := .cells #[.int .i64 a0_0, .int .i64 a0_1, .slice A0_2 l0_2.length c0_2, .slice A0_3 l0_3.length c0_3, .slice A0_4 l0_4.length c0_4] 26 (0, 0)) (by (with_reducible repeat (first | refine blk_drewN ?_ _ | refine blk_drew ?_ | refine blk_alloc ?_ _)); exact BK353.out)) : gb383 ≠ gb353)); have n14_ := Aside0.mk ((by rw [hg]; exact Nat.ne_of_lt (blk_lt (g := gb370) (o := .cells #[.int .i64 t358, .int .i64 t359, .slice Ao30 t360.length co30, .slice Ao31 t363.length co31, .slice Ao32 t366.length co32] 26 (0, 0)) (by (with_reducible repeat (first | refine blk_drewN ?_ _ | refine blk_drew ?_ | refine blk_alloc ?_ _)); exact BK370.out)) : gb370 ≠ gb383)); have n15_ := Aside0.mk ((by rw [hg]; exact Nat.ne_of_gt (blk_lt (g := gb370) (o := .cells #[.int .i64 t358, .int .i64 t359, .slice Ao30 t360.length co30, .slice Ao31 t363.length co31, .slice Ao32 t366.length co32] 26 (0, 0)) (by (with_reducible repeat (first | refine blk_drewN ?_ _ | refine blk_drew ?_ | refine blk_alloc ?_ _)); exact BK370.out)) : gb383 ≠ gb370)); clear HO362; clear HO365; clear HO368; clear HO375; clear HO378; clear HO381; clear BK353; clear BK370; clear HB; have HO362 := n0_; have HO365 := n1_; have HO368 := n2_; have HO375 := n3_; have HO378 := n4_; have HO381 := n5_; have BK353 := n6_; have BK370 := n7_; have HB := n8_; have BK383 := n9_; have GW383 := n10_; have GE383 := n11_; have NB353_383 := n12_; have NB383_353 := n13_; have NB370_383 := n14_; have NB383_370 := n15_; clear n0_ n1_ n2_ n3_ n4_ n5_ n6_ n7_ n8_ n9_ n10_ n11_ n12_ n13_ n14_ n15_; clear hb hbox hg; have hnb35 := NB383_353.out; have hnc35 := NB353_383.out; have hnb36 := NB383_370.out; have hnc36 := NB370_383.out; have hcz37_0 : w34.cell? ⟨gb383, 0, none⟩ = some (.int .i64 0) := (blk_cell BK383.out 0).trans rfl; have hcz37_1 : w34.cell? ⟨gb383, 1, none⟩ = some (.int .i64 0) := (blk_cell BK383.out 1).trans rfl; have hcz37_2 : w34.cell? ⟨gb383, 2, none⟩ = some (.slice none 0 0) := (blk_cell BK383.out 2).trans rfl; have hcz37_3 : w34.cell? ⟨gb383, 3, none⟩ = some (.slice none 0 0) := (blk_cell BK383.out 3).trans rfl; have hcz37_4 : w34.cell? ⟨gb383, 4, none⟩ = some (.slice none 0 0) := (blk_cell BK383.out 4).trans rfl; have hfz37_0 := blk_frozen BK383.out 0; have hfz37_1 := blk_frozen BK383.out 1; have hfz37_2 := blk_frozen BK383.out 2; have hfz37_3 := blk_frozen BK383.out 3; have hfz37_4 := blk_frozen BK383.out 4; obtain ⟨Ao38, co38, eo38⟩ := Kd.R_slice HO375.out; subst eo38; obtain ⟨Ao39, co39, eo39⟩ := Kd.S_slice HO378.out; subst eo39; obtain ⟨Ao40, co40, eo40⟩ := Kd.R_slice HO381.out; subst eo40) | ((with_reducible refine gate_callee (f := 13) rfl ?_); refine goesL_ (some 52) rfl rfl Try.func13 (by kernel_rfl) rfl #[.int .i64 t369] rfl (by (try simp only [List.map_toArray, List.map_cons, List.map_nil]); first | done | rfl | (simp only [List.length_drop, List.length_take]; rfl)) ?_; (with_reducible refine (watchwordlaw0_Num.calls t369 t384 _ A23.out).mono ?_); rintro e w' ⟨rfl, ⟨nd, rfl⟩⟩; refine ⟨_, rfl, ?_⟩) | (go_at_call 13; (with_reducible refine (watchwordlaw0_Num.calls t382 t385 _ A25.out).mono ?_); rintro e w' ⟨rfl, ⟨nd, rfl⟩⟩))
           go_ret
           exact ⟨by first | rfl | (simp [errW_none, errW_some] <;> rfl) | (simp only [← hji16s]; first | rfl | (simp [errW_none, errW_some] <;> rfl)) | (simp [*, errW_none, errW_some] <;> rfl), by repeat (first | (with_reducible first | exact HB.out | apply below_alloc | apply pw_below_drewN | apply below_drew1 | refine below_set ?_ GE353.out | refine below_set ?_ GE370.out | refine below_set ?_ GE383.out) | exact HB.out)⟩
          ·rw [if_neg c24] at H
           have c24b0 : (t384 == 1200) = false := beq_eq_false_iff_ne.mpr c24
           have c24b1 : (t384 != 1200) = true := bne_iff_ne.mpr c24
           exact absurd (Option.some.inj H) (by rw [HT.out]; decide)
         ·rw [if_neg c21] at H
          exact absurd H (by simp)
        ·rw [if_neg c20] at H
         exact absurd H (by simp)
       ·rw [if_neg c18] at H
        exact absurd H (by simp)
      ·rw [if_neg c17] at H
       exact absurd H (by simp)
 ·replace c5 := Bool.eq_false_iff.mpr c5
  subst c5
  have H1 : (some false) = some r := by rw [if_neg (show ¬ (false = true) by decide)] at H; exact H
  clear H
  have H := H1
  clear H1
  exact absurd (Option.some.inj H) (by rw [HT.out]; decide)

end Go.Proofs.Ytbajimbccbckkaa.Q12
