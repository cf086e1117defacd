/- Written by a program of this session out of the print of the loaded functions: each Go function as a plain function, and that its call comes to it; for a law, the row out of its plain statement. -/
import Derived.Test.YtbpoflicphgokaaZ18x0
import Derived.Test.YtbpoflicphgokaaZ18x4
import Derived.Test.YtbpoflicphgokaaZ18x3
import Derived.Test.YtbpoflicphgokaaZ18x2
namespace Go.Proofs.Ytbpoflicphgokaa.Q18
open Go.RowKit Go.Proofs.YtbpoflicphgokaaW.PrintWords Go.Proofs.YtbpoflicphgokaaW.PrintLast Go.Proofs.YtbpoflicphgokaaW.PrintMore
attribute [local go_sem] max2_int min2_int max_two min_two max_three min_three max_four min_four   -- for this text's walks alone
set_option linter.unusedVariables false
set_option linter.unusedSimpArgs false

/-! ### watchwordlaw18_StoreAges: function 8 -/
mutual
def watchwordlaw18_StoreAges.j1 : Nat → List (S32) → Option (Bool)
 | 0, _ => none
 | k + 1, x3 => (watchwordlaw0_CopyLsas.f k x3).bind fun t705 => (watchwordlaw18_StoreAges.l1 k x3 t705 1)
def watchwordlaw18_StoreAges.l1 : Nat → List (S32) → List (S32) → Int → Option (Bool)
 | 0, _, _, _ => none
 | k + 1, x3, x5, x6 => if x6 ≤ 60 then ((store_Older.f k x3).bind fun bt708 => ((watchwordlaw0_Num.f bt708.2.2).bind fun t715 => (if t715 = 0 then (watchwordlaw18_StoreAges.l2 k x5 x6 bt708.1 bt708.2.1 0 0 0) else (some false)))) else (some ((x3.length : Int) == 0))
def watchwordlaw18_StoreAges.l2 : Nat → List (S32) → Int → List (S32) → List Int → Int → Int → Int → Option (Bool)
 | 0, _, _, _, _, _, _, _ => none
 | k + 1, x5, x6, x7, x8, x10, x11, x12 => if x12 < (x5.length : Int) then (if 0 ≤ x12 then (if (wrap64 (((rd_T32 x5 x12).f2) + x6)) < 60 then (if x10 ≥ (x7.length : Int) then (some false) else (if 0 ≤ x10 then (if x10 < (x7.length : Int) then (if ((rd_T32 x7 x10).f0) = (wrap64 (x12 + 1)) then (if ((rd_T32 x7 x10).f2) = (wrap64 (((rd_T32 x5 x12).f2) + x6)) then (watchwordlaw18_StoreAges.l2 k x5 x6 x7 x8 (wrap64 (x10 + 1)) x11 (wrap64 (x12 + 1))) else (some false)) else (some false)) else (none)) else (none))) else (if (wrap64 (((rd_T32 x5 x12).f2) + x6)) = 60 then (if x11 ≥ (x8.length : Int) then (some false) else (if 0 ≤ x11 then (if x11 < (x8.length : Int) then (if (rd x8 x11) = (wrap64 (x12 + 1)) then (watchwordlaw18_StoreAges.l2 k x5 x6 x7 x8 x10 (wrap64 (x11 + 1)) (wrap64 (x12 + 1))) else (some false)) else (none)) else (none))) else (watchwordlaw18_StoreAges.l2 k x5 x6 x7 x8 x10 x11 (wrap64 (x12 + 1))))) else (none)) else (if x10 = (x7.length : Int) then (if x11 = (x8.length : Int) then (watchwordlaw18_StoreAges.l1 k x7 x5 (wrap64 (x6 + 1))) else (some false)) else (some false))
def watchwordlaw18_StoreAges.l0 : Nat → List Int → List (S32) → Int → Option (Bool)
 | 0, _, _, _ => none
 | k + 1, x0, x3, x4 => if x4 < (x0.length : Int) then (if x4 < 4 then (if 0 ≤ x4 then (if x3.length < 2932031007402 then (watchwordlaw18_StoreAges.l0 k x0 (x3 ++ [(⟨wrap64 (x4 + 1), 3, wrap64 (Int.tmod (IntKind.u64.wrap (rd x0 x4)) 60), ([] : List (S56))⟩ : S32)]) (wrap64 (x4 + 1))) else (none)) else (none)) else (watchwordlaw18_StoreAges.j1 k x3)) else (watchwordlaw18_StoreAges.j1 k x3)
end
def watchwordlaw18_StoreAges.f (k : Nat) (l0 : List Int) : Option (Bool) := (watchwordlaw18_awake.f k).bind fun t700 => (if t700 = true then (watchwordlaw18_StoreAges.l0 k l0 ([] : List (S32)) 0) else (some false))
theorem watchwordlaw18_StoreAges.mono_l : ∀ k, (∀ y0, LeO (watchwordlaw18_StoreAges.j1 k y0) (watchwordlaw18_StoreAges.j1 (k + 1) y0)) ∧ (∀ y0 y1 y2, LeO (watchwordlaw18_StoreAges.l1 k y0 y1 y2) (watchwordlaw18_StoreAges.l1 (k + 1) y0 y1 y2)) ∧ (∀ y0 y1 y2 y3 y4 y5 y6, LeO (watchwordlaw18_StoreAges.l2 k y0 y1 y2 y3 y4 y5 y6) (watchwordlaw18_StoreAges.l2 (k + 1) y0 y1 y2 y3 y4 y5 y6)) ∧ (∀ y0 y1 y2, LeO (watchwordlaw18_StoreAges.l0 k y0 y1 y2) (watchwordlaw18_StoreAges.l0 (k + 1) y0 y1 y2))
 | 0 => ⟨fun _ r h => by simp [watchwordlaw18_StoreAges.j1] at h, fun _ _ _ r h => by simp [watchwordlaw18_StoreAges.l1] at h, fun _ _ _ _ _ _ _ r h => by simp [watchwordlaw18_StoreAges.l2] at h, fun _ _ _ r h => by simp [watchwordlaw18_StoreAges.l0] at h⟩
 | k + 1 => by
  obtain ⟨ih0, ih1, ih2, ih3⟩ := watchwordlaw18_StoreAges.mono_l k
  refine ⟨?_, ?_, ?_, ?_⟩
  ·intro y0
   unfold watchwordlaw18_StoreAges.j1
   repeat' first
   | (with_reducible exact ih0 _)
   | (with_reducible exact ih1 _ _ _)
   | (with_reducible exact ih2 _ _ _ _ _ _ _)
   | (with_reducible exact ih3 _ _ _)
   | (with_reducible exact store_Older.mono _ _)
   | (with_reducible exact watchwordlaw0_CopyLsas.mono _ _)
   | (with_reducible exact watchwordlaw18_awake.mono _)
   | (with_reducible exact LeO.refl _)
   | (with_reducible exact LeO.none _)
   | (with_reducible refine LeO.ite ?_ ?_)
   | (with_reducible refine LeO.bind ?_ (fun _ => ?_))
   | exact ih0 _
   | exact ih1 _ _ _
   | exact ih2 _ _ _ _ _ _ _
   | exact ih3 _ _ _
   | exact store_Older.mono _ _
   | exact watchwordlaw0_CopyLsas.mono _ _
   | exact watchwordlaw18_awake.mono _
   | exact LeO.none _
   | refine LeO.ite ?_ ?_
   | refine LeO.bind ?_ (fun _ => ?_)
  ·intro y0 y1 y2
   unfold watchwordlaw18_StoreAges.l1
   repeat' first
   | (with_reducible exact ih0 _)
   | (with_reducible exact ih1 _ _ _)
   | (with_reducible exact ih2 _ _ _ _ _ _ _)
   | (with_reducible exact ih3 _ _ _)
   | (with_reducible exact store_Older.mono _ _)
   | (with_reducible exact watchwordlaw0_CopyLsas.mono _ _)
   | (with_reducible exact watchwordlaw18_awake.mono _)
   | (with_reducible exact LeO.refl _)
   | (with_reducible exact LeO.none _)
   | (with_reducible refine LeO.ite ?_ ?_)
   | (with_reducible refine LeO.bind ?_ (fun _ => ?_))
   | exact ih0 _
   | exact ih1 _ _ _
   | exact ih2 _ _ _ _ _ _ _
   | exact ih3 _ _ _
   | exact store_Older.mono _ _
   | exact watchwordlaw0_CopyLsas.mono _ _
   | exact watchwordlaw18_awake.mono _
   | exact LeO.none _
   | refine LeO.ite ?_ ?_
   | refine LeO.bind ?_ (fun _ => ?_)
  ·intro y0 y1 y2 y3 y4 y5 y6
   unfold watchwordlaw18_StoreAges.l2
   repeat' first
   | (with_reducible exact ih0 _)
   | (with_reducible exact ih1 _ _ _)
   | (with_reducible exact ih2 _ _ _ _ _ _ _)
   | (with_reducible exact ih3 _ _ _)
   | (with_reducible exact store_Older.mono _ _)
   | (with_reducible exact watchwordlaw0_CopyLsas.mono _ _)
   | (with_reducible exact watchwordlaw18_awake.mono _)
   | (with_reducible exact LeO.refl _)
   | (with_reducible exact LeO.none _)
   | (with_reducible refine LeO.ite ?_ ?_)
   | (with_reducible refine LeO.bind ?_ (fun _ => ?_))
   | exact ih0 _
   | exact ih1 _ _ _
   | exact ih2 _ _ _ _ _ _ _
   | exact ih3 _ _ _
   | exact store_Older.mono _ _
   | exact watchwordlaw0_CopyLsas.mono _ _
   | exact watchwordlaw18_awake.mono _
   | exact LeO.none _
   | refine LeO.ite ?_ ?_
   | refine LeO.bind ?_ (fun _ => ?_)
  ·intro y0 y1 y2
   unfold watchwordlaw18_StoreAges.l0
   repeat' first
   | (with_reducible exact ih0 _)
   | (with_reducible exact ih1 _ _ _)
   | (with_reducible exact ih2 _ _ _ _ _ _ _)
   | (with_reducible exact ih3 _ _ _)
   | (with_reducible exact store_Older.mono _ _)
   | (with_reducible exact watchwordlaw0_CopyLsas.mono _ _)
   | (with_reducible exact watchwordlaw18_awake.mono _)
   | (with_reducible exact LeO.refl _)
   | (with_reducible exact LeO.none _)
   | (with_reducible refine LeO.ite ?_ ?_)
   | (with_reducible refine LeO.bind ?_ (fun _ => ?_))
   | exact ih0 _
   | exact ih1 _ _ _
   | exact ih2 _ _ _ _ _ _ _
   | exact ih3 _ _ _
   | exact store_Older.mono _ _
   | exact watchwordlaw0_CopyLsas.mono _ _
   | exact watchwordlaw18_awake.mono _
   | exact LeO.none _
   | refine LeO.ite ?_ ?_
   | refine LeO.bind ?_ (fun _ => ?_)
theorem watchwordlaw18_StoreAges.mono : ∀ a0 k, LeO (watchwordlaw18_StoreAges.f k a0) (watchwordlaw18_StoreAges.f (k + 1) a0) := by
 intro a0 k
 obtain ⟨ih0, ih1, ih2, ih3⟩ := watchwordlaw18_StoreAges.mono_l k
 unfold watchwordlaw18_StoreAges.f
 repeat' first
   | (with_reducible exact ih0 _)
   | (with_reducible exact ih1 _ _ _)
   | (with_reducible exact ih2 _ _ _ _ _ _ _)
   | (with_reducible exact ih3 _ _ _)
   | (with_reducible exact store_Older.mono _ _)
   | (with_reducible exact watchwordlaw0_CopyLsas.mono _ _)
   | (with_reducible exact watchwordlaw18_awake.mono _)
   | (with_reducible exact LeO.refl _)
   | (with_reducible exact LeO.none _)
   | (with_reducible refine LeO.ite ?_ ?_)
   | (with_reducible refine LeO.bind ?_ (fun _ => ?_))
   | exact ih0 _
   | exact ih1 _ _ _
   | exact ih2 _ _ _ _ _ _ _
   | exact ih3 _ _ _
   | exact store_Older.mono _ _
   | exact watchwordlaw0_CopyLsas.mono _ _
   | exact watchwordlaw18_awake.mono _
   | exact LeO.none _
   | refine LeO.ite ?_ ?_
   | refine LeO.bind ?_ (fun _ => ?_)
set_option maxHeartbeats 8000000 in
set_option maxRecDepth 100000 in
theorem watchwordlaw18_StoreAges.calls (k : Nat) (A0 : Option Addr) (c0 : Nat) (l0 : List Int) (r : Bool) (w : World) (hr0 : Kd.C (Kd.int .i64) w A0 l0.length l0) (hc0 : l0.length ≤ c0) (h : watchwordlaw18_StoreAges.f k l0 = some r) (hT : r = true) :
  Calls Try.prog 8 #[.slice A0 l0.length c0] w fun e w' => e = .returned (.bool r) ∧ Below w.heap.size w w' := by
 have hu32 := Try.underlying32
 have HR0 := Aside0.mk hr0
 have HC0 := Aside0.mk hc0
 clear hr0 hc0
 have HB := Aside0.mk (Below.refl w.heap.size w)
 have HT := Aside0.mk hT
 clear hT
 have H : ((watchwordlaw18_awake.f k).bind fun t700 => (if t700 = true then (watchwordlaw18_StoreAges.l0 k l0 ([] : List (S32)) 0) else (some false))) = some r := h
 clear h
 replace H := Option.bind_eq_some_iff.mp H
 obtain ⟨t700, A20, H⟩ := H
 replace H : (if t700 = true then (watchwordlaw18_StoreAges.l0 k l0 ([] : List (S32)) 0) else (some false)) = some r := H
 have A2 := Aside0.mk A20
 clear A20
 by_cases c3 : t700 = true
 ·subst c3
  have H1 : (watchwordlaw18_StoreAges.l0 k l0 ([] : List (S32)) 0) = some r := by rw [if_pos rfl] at H; exact H
  clear H
  have H := H1
  clear H1
  have HC4 := Aside0.mk H
  clear H
  go_enter Try.func8, Try.ntmps8
  go_upto_block 0 with (first | ((with_reducible refine gate_callee (f := 9) rfl ?_); refine goesL_ (some 14) rfl rfl Try.func9 (by kernel_rfl) rfl #[] rfl (by (try simp only [List.map_toArray, List.map_cons, List.map_nil]); first | done | rfl | (simp only [List.length_drop, List.length_take]; rfl)) ?_; (with_reducible refine (watchwordlaw18_awake.calls k  true _ A2.out (by first | rfl | exact HT.out)).mono ?_); rintro e w5 ⟨rfl, hb⟩; refine ⟨_, rfl, ?_⟩; have n0_ := Aside0.mk (below_step (by repeat (first | (with_reducible first | exact HB.out | apply below_alloc | apply pw_below_drewN | apply below_drew1) | exact HB.out)) hb); clear HB; have HB := n0_; clear n0_; (try clear hb); (try clear hb2); (try clear hk); (try clear hi)))
  (try simp only [Act.put, List.setIfInBounds_toArray, List.set_cons_zero, List.set_cons_succ])
  go_cut [3] (fun v3 wc => ∃ (kq : Nat) (x3_3 : List (S32)), Aside0 (watchwordlaw18_StoreAges.j1 kq x3_3 = some r) ∧ Aside0 (kq ≤ k) ∧ Aside0 (Kd.N k32 32 wc w.heap.size (fun _ => True) v3 x3_3) ∧ Aside0 (Below w.heap.size w wc))
  case first =>
   have H := HC4.out
   clear HC4
   have H' := Aside0.mk H
   clear H
   go_wp2
   go_loopg [3, 4] k (fun kq v3 v4 w' => ∃ (x3_1 : List (S32)) (x4_1 : Int), v4 = .int .i64 x4_1 ∧ Aside0 (watchwordlaw18_StoreAges.l0 kq l0 x3_1 x4_1 = some r) ∧ Aside0 (kq ≤ k) ∧ Aside0 (Kd.N k32 32 w' w.heap.size (fun _ => True) v3 x3_1) ∧ Aside0 (Below w.heap.size w w'))
   case atStart => exact ⟨(([] : List (S32))), (0), (by first | rfl | (simp; done) | (simp [*]; done)), H', ⟨Nat.le_refl _⟩, ⟨by first | exact Kd.S_nil _ _ _ _ _ | exact Kd.N_nil _ _ _ _ _ | exact Kd.V_nil _ _ _ _ _ | exact Kd.Q_nil _ _ _ _ _ | exact Kd.R_nil _ _ _ _ _⟩, ⟨by repeat (first | (with_reducible first | exact HB.out | apply below_alloc | apply pw_below_drewN | apply below_drew1) | exact HB.out)⟩⟩
   case round =>
    clear H'
    try clear p2
    try clear c3
    obtain ⟨x3_1, x4_1, rfl, HA, HK1, HO_3, HB⟩ := hrel
    cases gk with
    | zero => exact absurd HA.out (by simp [watchwordlaw18_StoreAges.l0])
    | succ k1 =>
     have H := HA.out
     clear HA
     simp only [watchwordlaw18_StoreAges.l0] at H
     by_cases c6 : x4_1 < (l0.length : Int)
     ·rw [if_pos c6] at H
      have c6b0 : decide (x4_1 < (l0.length : Int)) = true := decide_eq_true c6
      clear c6
      (first | rw [c6b0] | (simp only [i64_w, i32_w]; rw [c6b0]) | skip)
      by_cases c7 : x4_1 < 4
      ·rw [if_pos c7] at H
       have c7b0 : decide (x4_1 < 4) = true := decide_eq_true c7
       clear c7
       by_cases c8 : 0 ≤ x4_1
       ·rw [if_pos c8] at H
        have c8b0 : decide (0 ≤ x4_1) = true := decide_eq_true c8
        clear c8
        by_cases c9 : x3_1.length < 2932031007402
        ·rw [if_pos c9] at H
         have LMc9 := Aside0.mk c9
         clear c9
         obtain ⟨y702, hy702⟩ : ∃ y_ : List (S32), y_ = (x3_1 ++ [(⟨wrap64 (x4_1 + 1), 3, wrap64 (Int.tmod (IntKind.u64.wrap (rd l0 x4_1)) 60), ([] : List (S56))⟩ : S32)]) := ⟨_, rfl⟩
         replace H : (watchwordlaw18_StoreAges.l0 k1 l0 y702 (wrap64 (x4_1 + 1))) = some r := by first | (rw [hy702]; with_reducible exact H) | (have H2_ := (Option.bind_some _ _).symm.trans H; rw [hy702]; with_reducible exact H2_) | (have H2_ := (Option.bind_some _ _).symm.trans H; with_reducible exact H2_) | with_reducible exact H | (rw [hy702]; exact H) | exact H
         have Ny702 := Aside0.mk hy702
         clear hy702
         have H' := Aside0.mk H
         clear H
         have p701 : 0 ≤ (x4_1 : Int) := of_decide_eq_true (by first | (with_reducible assumption) | assumption)
         have q701 : x4_1 < (l0.length : Int) := of_decide_eq_true (by first | (with_reducible assumption) | assumption)
         obtain ⟨ad701, e701, hx701_0⟩ := Kd.at_int HR0.out x4_1 p701 q701
         cases e701
         replace hx701_0 := (HB.out.cell (World.block_lt_of_cell? w _ hx701_0)).trans hx701_0
         replace p701 := eq_true p701
         replace q701 := eq_true q701
         go_wp2_with (first | ((with_reducible refine gate_builtin (b := .append) (xs := #[.tmp 26, .tmp 37]) rfl ?_); (try (refine gate_guard (by rfl) ?_; dsimp only)); at_builtin; refine Kd.N_append k32 (w0 := w) w.heap.size rfl (.tmp 26) (.tmp 37) 24 32 (.agg #[(.int .i64 0), (.int .i64 0), (.int .i64 0), (.slice none 0 0)]) 48 rfl Try.underlying24 info32 rfl (by decide) (by omega) u3 x3_1 (⟨wrap64 (x4_1 + 1), 3, wrap64 (Int.tmod (IntKind.u64.wrap (rd l0 x4_1)) 60), ([] : List (S56))⟩ : S32) [.int .i64 (wrap64 (x4_1 + 1)), .int .i64 3, .int .i64 (wrap64 (Int.tmod (IntKind.u64.wrap (rd l0 x4_1)) 60)), .slice none 0 0] (fun _ => True) (fun k_ => ((fun _ => True)) k_ ∧ some k_ ≠ (u3 : Value).ownBlock) rfl rfl ?aP (fun _ hk => hk) ?aF ?aO ?aB ?aS ?aL ?_; (case aP => exact (k32_mkF _ _ (⟨wrap64 (x4_1 + 1), 3, wrap64 (Int.tmod (IntKind.u64.wrap (rd l0 x4_1)) 60), ([] : List (S56))⟩ : S32) (Nat.le_refl _) (Kd.F_nil _ _ _))); (case aB => exact (by repeat (first | (with_reducible first | exact HB.out | apply below_alloc | apply pw_below_drewN | apply below_drew1) | exact HB.out))); (case aF => exact (fun _ _ => trivial)); (case aO => exact (by (with_reducible repeat (first | apply Kd.N_alloc | apply Kd.N_drewN | apply Kd.N_drew)); exact HO_3.out)); (case aS => exact (below_size (by repeat (first | (with_reducible first | exact HB.out | apply below_alloc | apply pw_below_drewN | apply below_drew1) | exact HB.out)))); (case aL => have := LMc9.out; omega); intro v703 w10 ho hb hg hat; rw [← Ny702.out] at ho; have n0_ := Aside0.mk (hb); have n1_ := Aside0.mk (ho); clear HB; clear HO_3; have HB := n0_; have HO704 := n1_; clear n0_ n1_; clear ho hb hg hat))
         go_roundg k1
         case measure => have := HK1.out; omega
         case rel => exact ⟨(y702), (wrap64 (x4_1 + 1)), (by first | rfl | (simp; done) | (simp [*]; done)), H', ⟨by have := HK1.out; omega⟩, ⟨by (with_reducible repeat (first | apply Kd.N_alloc | apply Kd.N_drewN | apply Kd.N_drew)); exact HO704.out⟩, ⟨by repeat (first | (with_reducible first | exact HB.out | apply below_alloc | apply pw_below_drewN | apply below_drew1) | exact HB.out)⟩⟩
        ·rw [if_neg c9] at H
         exact absurd H (by simp)
       ·rw [if_neg c8] at H
        exact absurd H (by simp)
      ·rw [if_neg c7] at H
       have c7b0 : decide (x4_1 < 4) = false := decide_eq_false c7
       clear c7
       have H' := Aside0.mk H
       clear H
       go_wp2
       go_meet
       case rel => exact ⟨_, (x3_1), H', ⟨by have := HK1.out; first | omega | exact Nat.le_refl _⟩, ⟨by (with_reducible repeat (first | apply Kd.N_alloc | apply Kd.N_drewN | apply Kd.N_drew)); exact HO_3.out⟩, ⟨by repeat (first | (with_reducible first | exact HB.out | apply below_alloc | apply pw_below_drewN | apply below_drew1) | exact HB.out)⟩⟩
     ·rw [if_neg c6] at H
      have c6b0 : decide (x4_1 < (l0.length : Int)) = false := decide_eq_false c6
      clear c6
      (first | rw [c6b0] | (simp only [i64_w, i32_w]; rw [c6b0]) | skip)
      have H' := Aside0.mk H
      clear H
      go_wp2
      go_meet
      case rel => exact ⟨_, (x3_1), H', ⟨by have := HK1.out; first | omega | exact Nat.le_refl _⟩, ⟨by (with_reducible repeat (first | apply Kd.N_alloc | apply Kd.N_drewN | apply Kd.N_drew)); exact HO_3.out⟩, ⟨by repeat (first | (with_reducible first | exact HB.out | apply below_alloc | apply pw_below_drewN | apply below_drew1) | exact HB.out)⟩⟩
  case rest =>
   clear HC4
   try clear p2
   try clear c3
   try clear c6
   try clear c6b0
   try clear p6
   try clear c7
   try clear c7b0
   try clear p7
   try clear q7
   try clear hx7
   try clear c8
   try clear c8b0
   try clear c9
   try clear hx701_0
   try clear p2
   try clear p701
   try clear q701
   obtain ⟨kq, x3_3, HA, HJ3, HO_3, HB⟩ := hcut
   cases kq with
   | zero => exact absurd HA.out (by simp [watchwordlaw18_StoreAges.j1])
   | succ kj3 =>
    have H := HA.out
    clear HA
    simp only [watchwordlaw18_StoreAges.j1] at H
    replace H := Option.bind_eq_some_iff.mp H
    obtain ⟨t705, A110, H⟩ := H
    replace H : (watchwordlaw18_StoreAges.l1 kj3 x3_3 t705 1) = some r := H
    have A11 := Aside0.mk A110
    clear A110
    have H' := Aside0.mk H
    clear H
    obtain ⟨Ao12, co12, eo12⟩ := Kd.N_slice HO_3.out
    subst eo12
    go_wp2_with (first | ((with_reducible refine gate_callee (f := 16) rfl ?_); refine goesL_ (some 40) rfl rfl Try.func16 (by kernel_rfl) rfl #[.slice Ao12 x3_3.length co12] rfl (by (try simp only [List.map_toArray, List.map_cons, List.map_nil]); first | done | rfl | (simp only [List.length_drop, List.length_take]; rfl)) ?_; (with_reducible refine (watchwordlaw0_CopyLsas.calls kj3 _ _ x3_3 t705 _ ?side1 ?side2 A11.out).mono ?_); (case side1 => repeat (first | exact (Kd.N_reads' HO_3.out).2.2 | (with_reducible refine Kd.C_alloc ?_ _) | (with_reducible refine Kd.C_drewN ?_ _) | (with_reducible refine Kd.C_drew ?_))); (case side2 => exact (Kd.N_reads' HO_3.out).2.1); rintro e w13 ⟨v706, rfl, ho0, hb⟩; refine ⟨_, rfl, ?_⟩; have n0_ := Aside0.mk (Kd.N_elder' (by (with_reducible repeat (first | apply Kd.N_alloc | apply Kd.N_drewN | apply Kd.N_drew)); exact HO_3.out) (Kd.R_base (Kd.S_R ho0)) hb); have n1_ := Aside0.mk (Kd.N_lower (Kd.N_mono (ok' := fun k_ => some k_ ≠ (.slice Ao12 x3_3.length co12 : Value).ownBlock) (Kd.S_N (Kd.S_bound ho0)) (fun k_ hk_ => (Kd.fresh' (Kd.N_lt (by (with_reducible repeat (first | apply Kd.N_alloc | apply Kd.N_drewN | apply Kd.N_drew)); exact HO_3.out)) k_ hk_.2.1))) (below_size (by repeat (first | (with_reducible first | exact HB.out | apply below_alloc | apply pw_below_drewN | apply below_drew1) | exact HB.out)))); have n2_ := Aside0.mk (below_step (by repeat (first | (with_reducible first | exact HB.out | apply below_alloc | apply pw_below_drewN | apply below_drew1) | exact HB.out)) hb); clear HO_3; clear HB; have HO_3 := n0_; have HO707 := n1_; have HB := n2_; clear n0_ n1_ n2_; (try clear hb); (try clear hb2); (try clear hk); (try clear hi); (try clear ho0)))
    go_loopg [3, 6] kj3 (fun kq v3 v6 w' => ∃ (x3_2 : List (S32)) (x6_2 : Int), v6 = .int .i64 x6_2 ∧ Aside0 (watchwordlaw18_StoreAges.l1 kq x3_2 t705 x6_2 = some r) ∧ Aside0 (kq ≤ kj3) ∧ Aside0 (Kd.N k32 32 w' w.heap.size (fun k_ => some k_ ≠ (v706 : Value).ownBlock) v3 x3_2) ∧ Aside0 (Kd.N k32 32 w' w.heap.size (fun k_ => some k_ ≠ (v3 : Value).ownBlock) v706 t705) ∧ Aside0 (Below w.heap.size w w'))
    case atStart => exact ⟨(x3_3), (1), (by first | rfl | (simp; done) | (simp [*]; done)), H', ⟨Nat.le_refl _⟩, ⟨by (with_reducible repeat (first | apply Kd.N_alloc | apply Kd.N_drewN | apply Kd.N_drew)); exact Kd.N_mono HO_3.out (fun _ hk => hk.2)⟩, ⟨by (with_reducible repeat (first | apply Kd.N_alloc | apply Kd.N_drewN | apply Kd.N_drew)); exact HO707.out⟩, ⟨by repeat (first | (with_reducible first | exact HB.out | apply below_alloc | apply pw_below_drewN | apply below_drew1) | exact HB.out)⟩⟩
    case round =>
     clear H'
     try clear c1
     try clear p2
     try clear c3
     try clear c6
     try clear c6b0
     try clear p6
     try clear c7
     try clear c7b0
     try clear p7
     try clear q7
     try clear hx7
     try clear c8
     try clear c8b0
     try clear c9
     try clear hx701_0
     try clear p2
     try clear p6
     try clear p7
     try clear p701
     try clear q7
     try clear q701
     obtain ⟨x3_2, x6_2, rfl, HA, HK2, HO_3, HO_5, HB⟩ := hrel
     cases gk with
     | zero => exact absurd HA.out (by simp [watchwordlaw18_StoreAges.l1])
     | succ k2 =>
      have H := HA.out
      clear HA
      simp only [watchwordlaw18_StoreAges.l1] at H
      by_cases c14 : x6_2 ≤ 60
      ·rw [if_pos c14] at H
       have c14b0 : decide (x6_2 ≤ 60) = true := decide_eq_true c14
       clear c14
       replace H := Option.bind_eq_some_iff.mp H
       obtain ⟨⟨t708, t711, t714⟩, A150, H⟩ := H
       replace H : ((watchwordlaw0_Num.f t714).bind fun t715 => (if t715 = 0 then (watchwordlaw18_StoreAges.l2 k2 t705 x6_2 t708 t711 0 0 0) else (some false))) = some r := H
       have A15 := Aside0.mk A150
       clear A150
       replace H := Option.bind_eq_some_iff.mp H
       obtain ⟨t715, A160, H⟩ := H
       replace H : (if t715 = 0 then (watchwordlaw18_StoreAges.l2 k2 t705 x6_2 t708 t711 0 0 0) else (some false)) = some r := H
       have A16 := Aside0.mk A160
       clear A160
       by_cases c17 : t715 = 0
       ·rw [if_pos c17] at H
        have c17b0 : (t715 == 0) = true := beq_iff_eq.mpr c17
        have c17b1 : (t715 != 0) = false := bne_eq_false_iff_eq.mpr c17
        clear c17
        have H' := Aside0.mk H
        clear H
        obtain ⟨Ao18, co18, eo18⟩ := Kd.N_slice HO_3.out
        subst eo18
        go_wp2_with (first | ((with_reducible refine gate_callee (f := 19) rfl ?_); refine goesL_ (some 47) rfl rfl Try.func19 (by kernel_rfl) rfl #[.slice Ao18 x3_2.length co18] rfl (by (try simp only [List.map_toArray, List.map_cons, List.map_nil]); first | done | rfl | (simp only [List.length_drop, List.length_take]; rfl)) ?_; (with_reducible refine (store_Older.calls k2 (fun k_ => some k_ ≠ (v706 : Value).ownBlock) _ _ x3_2 t708 t711 t714 _ ?side1 A15.out).mono ?_); (case side1 => exact Kd.N_V (HO_3.out)); rintro e w19 ⟨v709, v712, rfl, ho0, ho1, hb⟩; refine ⟨_, rfl, ?_⟩; have n0_ := Aside0.mk (Kd.N_mono (Kd.N_told (Kd.N_told (Kd.N_old (by (with_reducible repeat (first | apply Kd.N_alloc | apply Kd.N_drewN | apply Kd.N_drew)); exact HO_3.out) hb) (Kd.N_base ho0)) (Kd.R_base ho1)) (fun _ h_ => h_.1)); have n1_ := Aside0.mk (Kd.N_mono (Kd.N_told (Kd.N_told (Kd.N_old (by (with_reducible repeat (first | apply Kd.N_alloc | apply Kd.N_drewN | apply Kd.N_drew)); exact HO_5.out) hb) (Kd.N_base ho0)) (Kd.R_base ho1)) (fun _ h_ => h_.1)); have n2_ := Aside0.mk (Kd.N_lower (Kd.N_mono (ok' := fun k_ => some k_ ≠ (v712 : Value).ownBlock ∧ some k_ ≠ (v706 : Value).ownBlock) ho0 (fun k_ hk_ => ⟨hk_.2, Or.elim hk_.1 (fun hs_ => hs_) (fun hn_ => (Kd.fresh' (Kd.N_lt (by (with_reducible repeat (first | apply Kd.N_alloc | apply Kd.N_drewN | apply Kd.N_drew)); exact HO_5.out)) k_ hn_))⟩)) (below_size (by repeat (first | (with_reducible first | exact HB.out | apply below_alloc | apply pw_below_drewN | apply below_drew1) | exact HB.out)))); have n3_ := Aside0.mk (Kd.R_lower (Kd.R_mono (ok' := fun k_ => True) ho1 (fun _ hk_ => trivial)) (below_size (by repeat (first | (with_reducible first | exact HB.out | apply below_alloc | apply pw_below_drewN | apply below_drew1) | exact HB.out)))); have n4_ := Aside0.mk (below_step (by repeat (first | (with_reducible first | exact HB.out | apply below_alloc | apply pw_below_drewN | apply below_drew1) | exact HB.out)) hb); clear HO_3; clear HO_5; clear HB; have HO_3 := n0_; have HO_5 := n1_; have HO710 := n2_; have HO713 := n3_; have HB := n4_; clear n0_ n1_ n2_ n3_ n4_; (try clear hb); (try clear hb2); (try clear hk); (try clear hi); (try clear ho0); (try clear ho1)) | ((with_reducible refine gate_callee (f := 11) rfl ?_); refine goesL_ (some 52) rfl rfl Try.func11 (by kernel_rfl) rfl #[.int .i64 t714] rfl (by (try simp only [List.map_toArray, List.map_cons, List.map_nil]); first | done | rfl | (simp only [List.length_drop, List.length_take]; rfl)) ?_; (with_reducible refine (watchwordlaw0_Num.calls t714 t715 _ A16.out).mono ?_); rintro e w' ⟨rfl, ⟨nd, rfl⟩⟩; refine ⟨_, rfl, ?_⟩))
        go_loopg [10, 11, 12] k2 (fun kq v10 v11 v12 w' => ∃ (x10_3 : Int) (x11_3 : Int) (x12_3 : Int), v10 = .int .i64 x10_3 ∧ v11 = .int .i64 x11_3 ∧ v12 = .int .i64 x12_3 ∧ Aside0 (watchwordlaw18_StoreAges.l2 kq t705 x6_2 t708 t711 x10_3 x11_3 x12_3 = some r) ∧ Aside0 (kq ≤ k2) ∧ Aside0 (Kd.N k32 32 w' w.heap.size (fun k_ => some k_ ≠ (v709 : Value).ownBlock ∧ some k_ ≠ (v712 : Value).ownBlock) v706 t705) ∧ Aside0 (Kd.N k32 32 w' w.heap.size (fun k_ => some k_ ≠ (v706 : Value).ownBlock ∧ some k_ ≠ (v712 : Value).ownBlock) v709 t708) ∧ Aside0 (Kd.R (Kd.int .i64) 3 w' w.heap.size (fun _ => True) v712 t711) ∧ Aside0 (Below w.heap.size w w'))
        case atStart => exact ⟨(0), (0), (0), (by first | rfl | (simp; done) | (simp [*]; done)), (by first | rfl | (simp; done) | (simp [*]; done)), (by first | rfl | (simp; done) | (simp [*]; done)), H', ⟨Nat.le_refl _⟩, ⟨by (with_reducible repeat (first | apply Kd.N_alloc | apply Kd.N_drewN | apply Kd.N_drew)); exact Kd.N_mono HO_5.out (fun _ hk => ⟨hk.1.2, hk.2⟩)⟩, ⟨by (with_reducible repeat (first | apply Kd.N_alloc | apply Kd.N_drewN | apply Kd.N_drew)); exact Kd.N_mono HO710.out (fun _ hk => ⟨hk.2, hk.1⟩)⟩, ⟨by (with_reducible repeat (first | apply Kd.R_alloc | apply Kd.R_drewN | apply Kd.R_drew)); exact HO713.out⟩, ⟨by repeat (first | (with_reducible first | exact HB.out | apply below_alloc | apply pw_below_drewN | apply below_drew1) | exact HB.out)⟩⟩
        case round =>
         clear H'
         try clear c1
         try clear p2
         try clear c3
         try clear c6
         try clear c6b0
         try clear p6
         try clear c7
         try clear c7b0
         try clear p7
         try clear q7
         try clear hx7
         try clear c8
         try clear c8b0
         try clear c9
         try clear c11
         try clear c14
         try clear c14b0
         try clear c16
         try clear c17
         try clear c17b0
         try clear c17b1
         try clear c19
         try clear hx701_0
         try clear p2
         try clear p6
         try clear p7
         try clear p701
         try clear q7
         try clear q701
         obtain ⟨x10_3, x11_3, x12_3, rfl, rfl, rfl, HA, HK3, HO_5, HO_7, HO_8, HB⟩ := hrel
         cases gk with
         | zero => exact absurd HA.out (by simp [watchwordlaw18_StoreAges.l2])
         | succ k3 =>
          have H := HA.out
          clear HA
          simp only [watchwordlaw18_StoreAges.l2] at H
          by_cases c20 : x12_3 < (t705.length : Int)
          ·rw [if_pos c20] at H
           have c20b0 : decide (x12_3 < (t705.length : Int)) = true := decide_eq_true c20
           clear c20
           by_cases c21 : 0 ≤ x12_3
           ·rw [if_pos c21] at H
            have c21b0 : decide (0 ≤ x12_3) = true := decide_eq_true c21
            clear c21
            by_cases c22 : (wrap64 (((rd_T32 t705 x12_3).f2) + x6_2)) < 60
            ·rw [if_pos c22] at H
             have c22b0 : decide ((wrap64 (((rd_T32 t705 x12_3).f2) + x6_2)) < 60) = true := decide_eq_true c22
             clear c22
             by_cases c23 : x10_3 ≥ (t708.length : Int)
             ·rw [if_pos c23] at H
              have c23b0 : decide ((t708.length : Int) ≤ x10_3) = true := decide_eq_true c23
              clear c23
              exact absurd (Option.some.inj H) (by rw [HT.out]; decide)
             ·rw [if_neg c23] at H
              have c23b0 : decide ((t708.length : Int) ≤ x10_3) = false := decide_eq_false c23
              clear c23
              by_cases c24 : 0 ≤ x10_3
              ·rw [if_pos c24] at H
               have c24b0 : decide (0 ≤ x10_3) = true := decide_eq_true c24
               clear c24
               by_cases c25 : x10_3 < (t708.length : Int)
               ·rw [if_pos c25] at H
                have c25b0 : decide (x10_3 < (t708.length : Int)) = true := decide_eq_true c25
                clear c25
                by_cases c26 : ((rd_T32 t708 x10_3).f0) = (wrap64 (x12_3 + 1))
                ·rw [if_pos c26] at H
                 have c26b0 : (((rd_T32 t708 x10_3).f0) == (wrap64 (x12_3 + 1))) = true := beq_iff_eq.mpr c26
                 have c26b1 : (((rd_T32 t708 x10_3).f0) != (wrap64 (x12_3 + 1))) = false := bne_eq_false_iff_eq.mpr c26
                 clear c26
                 by_cases c27 : ((rd_T32 t708 x10_3).f2) = (wrap64 (((rd_T32 t705 x12_3).f2) + x6_2))
                 ·rw [if_pos c27] at H
                  have c27b0 : (((rd_T32 t708 x10_3).f2) == (wrap64 (((rd_T32 t705 x12_3).f2) + x6_2))) = true := beq_iff_eq.mpr c27
                  have c27b1 : (((rd_T32 t708 x10_3).f2) != (wrap64 (((rd_T32 t705 x12_3).f2) + x6_2))) = false := bne_eq_false_iff_eq.mpr c27
                  clear c27
                  have H' := Aside0.mk H
                  clear H
                  obtain ⟨Ao28, co28, eo28⟩ := Kd.N_slice HO_5.out
                  subst eo28
                  have p716 : 0 ≤ (x12_3 : Int) := of_decide_eq_true (by first | (with_reducible assumption) | assumption)
                  have q716 : x12_3 < (t705.length : Int) := of_decide_eq_true (by first | (with_reducible assumption) | assumption)
                  obtain ⟨ad716, A716_3, c716_3, e716, hx716_0, hx716_1, hx716_2, hx716_3, hl716_3, hi716_3⟩ := at_T32 (Kd.N_reads' HO_5.out).2.2 x12_3 p716 q716
                  cases e716
                  obtain ⟨ce716, hce716, hMe716, hcc716⟩ := Kd.N_get HO_5.out z32 x12_3 p716 (by first | exact q716 | exact of_decide_eq_true (by first | (with_reducible assumption) | assumption) | (have e_ := (Kd.N_reads' HO_5.out).1; omega))
                  obtain ⟨ua716_3, uc716_3, rfl, ul716_3, ge716_3⟩ := k32_openF hMe716
                  have hv716_3 := hcc716 3 _ rfl
                  rw [add_field _ _ 3 (by omega)] at hv716_3
                  replace hv716_3 := Option.some.inj (hv716_3.symm.trans hx716_3)
                  injection hv716_3 with hva_ hvn_ hvc_
                  rw [hva_] at ge716_3
                  rw [hvc_] at ul716_3
                  have HL716_3 := Aside0.mk (show Kd.V k56 56 _ w.heap.size _ _ ((rd_T32 t705 x12_3).f3) from Kd.V_mk ul716_3 ge716_3)
                  clear hva_ hvn_ hvc_ ge716_3 ul716_3
                  clear hcc716 hce716
                  have HR716_3 := Aside0.mk hi716_3
                  have HC716_3 := Aside0.mk hl716_3
                  clear hi716_3 hl716_3
                  replace p716 := eq_true p716
                  replace q716 := eq_true q716
                  obtain ⟨Ao29, co29, eo29⟩ := Kd.N_slice HO_7.out
                  subst eo29
                  have p717 : 0 ≤ (x10_3 : Int) := of_decide_eq_true (by first | (with_reducible assumption) | assumption)
                  have q717 : x10_3 < (t708.length : Int) := of_decide_eq_true (by first | (with_reducible assumption) | assumption)
                  obtain ⟨ad717, A717_3, c717_3, e717, hx717_0, hx717_1, hx717_2, hx717_3, hl717_3, hi717_3⟩ := at_T32 (Kd.N_reads' HO_7.out).2.2 x10_3 p717 q717
                  cases e717
                  obtain ⟨ce717, hce717, hMe717, hcc717⟩ := Kd.N_get HO_7.out z32 x10_3 p717 (by first | exact q717 | exact of_decide_eq_true (by first | (with_reducible assumption) | assumption) | (have e_ := (Kd.N_reads' HO_7.out).1; omega))
                  obtain ⟨ua717_3, uc717_3, rfl, ul717_3, ge717_3⟩ := k32_openF hMe717
                  have hv717_3 := hcc717 3 _ rfl
                  rw [add_field _ _ 3 (by omega)] at hv717_3
                  replace hv717_3 := Option.some.inj (hv717_3.symm.trans hx717_3)
                  injection hv717_3 with hva_ hvn_ hvc_
                  rw [hva_] at ge717_3
                  rw [hvc_] at ul717_3
                  have HL717_3 := Aside0.mk (show Kd.V k56 56 _ w.heap.size _ _ ((rd_T32 t708 x10_3).f3) from Kd.V_mk ul717_3 ge717_3)
                  clear hva_ hvn_ hvc_ ge717_3 ul717_3
                  clear hcc717 hce717
                  have HR717_3 := Aside0.mk hi717_3
                  have HC717_3 := Aside0.mk hl717_3
                  clear hi717_3 hl717_3
                  replace p717 := eq_true p717
                  replace q717 := eq_true q717
                  have p718 : 0 ≤ (x10_3 : Int) := of_decide_eq_true (by first | (with_reducible assumption) | assumption)
                  have q718 : x10_3 < (t708.length : Int) := of_decide_eq_true (by first | (with_reducible assumption) | assumption)
                  obtain ⟨ad718, A718_3, c718_3, e718, hx718_0, hx718_1, hx718_2, hx718_3, hl718_3, hi718_3⟩ := at_T32 (Kd.N_reads' HO_7.out).2.2 x10_3 p718 q718
                  obtain rfl : ad717 = ad718 := (by injection e718)
                  obtain ⟨ce718, hce718, hMe718, hcc718⟩ := Kd.N_get HO_7.out z32 x10_3 p718 (by first | exact q718 | exact of_decide_eq_true (by first | (with_reducible assumption) | assumption) | (have e_ := (Kd.N_reads' HO_7.out).1; omega))
                  obtain ⟨ua718_3, uc718_3, rfl, ul718_3, ge718_3⟩ := k32_openF hMe718
                  have hv718_3 := hcc718 3 _ rfl
                  rw [add_field _ _ 3 (by omega)] at hv718_3
                  replace hv718_3 := Option.some.inj (hv718_3.symm.trans hx718_3)
                  injection hv718_3 with hva_ hvn_ hvc_
                  rw [hva_] at ge718_3
                  rw [hvc_] at ul718_3
                  have HL718_3 := Aside0.mk (show Kd.V k56 56 _ w.heap.size _ _ ((rd_T32 t708 x10_3).f3) from Kd.V_mk ul718_3 ge718_3)
                  clear hva_ hvn_ hvc_ ge718_3 ul718_3
                  clear hcc718 hce718
                  have HR718_3 := Aside0.mk hi718_3
                  have HC718_3 := Aside0.mk hl718_3
                  clear hi718_3 hl718_3
                  replace p718 := eq_true p718
                  replace q718 := eq_true q718
                  have ea_ := Option.some.inj (hx717_3.symm.trans hx718_3)
                  injection ea_ with ea_ en_ ec_
                  subst ea_
                  subst ec_
                  clear en_
                  go_wp2
                  go_roundg k3
                  case measure => have := HJ3.out; have := HK2.out; have := HK3.out; omega
                  case rel => exact ⟨(wrap64 (x10_3 + 1)), (x11_3), (wrap64 (x12_3 + 1)), (by first | rfl | (simp; done) | (simp [*]; done)), (by first | rfl | (simp; done) | (simp [*]; done)), (by first | rfl | (simp; done) | (simp [*]; done)), H', ⟨by have := HJ3.out; have := HK2.out; have := HK3.out; omega⟩, ⟨by (with_reducible repeat (first | apply Kd.N_alloc | apply Kd.N_drewN | apply Kd.N_drew)); exact HO_5.out⟩, ⟨by (with_reducible repeat (first | apply Kd.N_alloc | apply Kd.N_drewN | apply Kd.N_drew)); exact HO_7.out⟩, ⟨by (with_reducible repeat (first | apply Kd.R_alloc | apply Kd.R_drewN | apply Kd.R_drew)); exact HO_8.out⟩, ⟨by repeat (first | (with_reducible first | exact HB.out | apply below_alloc | apply pw_below_drewN | apply below_drew1) | exact HB.out)⟩⟩
                 ·rw [if_neg c27] at H
                  have c27b0 : (((rd_T32 t708 x10_3).f2) == (wrap64 (((rd_T32 t705 x12_3).f2) + x6_2))) = false := beq_eq_false_iff_ne.mpr c27
                  have c27b1 : (((rd_T32 t708 x10_3).f2) != (wrap64 (((rd_T32 t705 x12_3).f2) + x6_2))) = true := bne_iff_ne.mpr c27
                  exact absurd (Option.some.inj H) (by rw [HT.out]; decide)
                ·rw [if_neg c26] at H
                 have c26b0 : (((rd_T32 t708 x10_3).f0) == (wrap64 (x12_3 + 1))) = false := beq_eq_false_iff_ne.mpr c26
                 have c26b1 : (((rd_T32 t708 x10_3).f0) != (wrap64 (x12_3 + 1))) = true := bne_iff_ne.mpr c26
                 exact absurd (Option.some.inj H) (by rw [HT.out]; decide)
               ·rw [if_neg c25] at H
                exact absurd H (by simp)
              ·rw [if_neg c24] at H
               exact absurd H (by simp)
            ·rw [if_neg c22] at H
             have c22b0 : decide ((wrap64 (((rd_T32 t705 x12_3).f2) + x6_2)) < 60) = false := decide_eq_false c22
             clear c22
             by_cases c30 : (wrap64 (((rd_T32 t705 x12_3).f2) + x6_2)) = 60
             ·rw [if_pos c30] at H
              have c30b0 : ((wrap64 (((rd_T32 t705 x12_3).f2) + x6_2)) == 60) = true := beq_iff_eq.mpr c30
              have c30b1 : ((wrap64 (((rd_T32 t705 x12_3).f2) + x6_2)) != 60) = false := bne_eq_false_iff_eq.mpr c30
              clear c30
              by_cases c31 : x11_3 ≥ (t711.length : Int)
              ·rw [if_pos c31] at H
               have c31b0 : decide ((t711.length : Int) ≤ x11_3) = true := decide_eq_true c31
               clear c31
               exact absurd (Option.some.inj H) (by rw [HT.out]; decide)
              ·rw [if_neg c31] at H
               have c31b0 : decide ((t711.length : Int) ≤ x11_3) = false := decide_eq_false c31
               clear c31
               by_cases c32 : 0 ≤ x11_3
               ·rw [if_pos c32] at H
                have c32b0 : decide (0 ≤ x11_3) = true := decide_eq_true c32
                clear c32
                by_cases c33 : x11_3 < (t711.length : Int)
                ·rw [if_pos c33] at H
                 have c33b0 : decide (x11_3 < (t711.length : Int)) = true := decide_eq_true c33
                 clear c33
                 by_cases c34 : (rd t711 x11_3) = (wrap64 (x12_3 + 1))
                 ·rw [if_pos c34] at H
                  have c34b0 : ((rd t711 x11_3) == (wrap64 (x12_3 + 1))) = true := beq_iff_eq.mpr c34
                  have c34b1 : ((rd t711 x11_3) != (wrap64 (x12_3 + 1))) = false := bne_eq_false_iff_eq.mpr c34
                  clear c34
                  have H' := Aside0.mk H
                  clear H
                  obtain ⟨Ao35, co35, eo35⟩ := Kd.N_slice HO_5.out
                  subst eo35
                  have p716 : 0 ≤ (x12_3 : Int) := of_decide_eq_true (by first | (with_reducible assumption) | assumption)
                  have q716 : x12_3 < (t705.length : Int) := of_decide_eq_true (by first | (with_reducible assumption) | assumption)
                  obtain ⟨ad716, A716_3, c716_3, e716, hx716_0, hx716_1, hx716_2, hx716_3, hl716_3, hi716_3⟩ := at_T32 (Kd.N_reads' HO_5.out).2.2 x12_3 p716 q716
                  cases e716
                  obtain ⟨ce716, hce716, hMe716, hcc716⟩ := Kd.N_get HO_5.out z32 x12_3 p716 (by first | exact q716 | exact of_decide_eq_true (by first | (with_reducible assumption) | assumption) | (have e_ := (Kd.N_reads' HO_5.out).1; omega))
                  obtain ⟨ua716_3, uc716_3, rfl, ul716_3, ge716_3⟩ := k32_openF hMe716
                  have hv716_3 := hcc716 3 _ rfl
                  rw [add_field _ _ 3 (by omega)] at hv716_3
                  replace hv716_3 := Option.some.inj (hv716_3.symm.trans hx716_3)
                  injection hv716_3 with hva_ hvn_ hvc_
                  rw [hva_] at ge716_3
                  rw [hvc_] at ul716_3
                  have HL716_3 := Aside0.mk (show Kd.V k56 56 _ w.heap.size _ _ ((rd_T32 t705 x12_3).f3) from Kd.V_mk ul716_3 ge716_3)
                  clear hva_ hvn_ hvc_ ge716_3 ul716_3
                  clear hcc716 hce716
                  have HR716_3 := Aside0.mk hi716_3
                  have HC716_3 := Aside0.mk hl716_3
                  clear hi716_3 hl716_3
                  replace p716 := eq_true p716
                  replace q716 := eq_true q716
                  obtain ⟨Ao36, co36, eo36⟩ := Kd.R_slice HO_8.out
                  subst eo36
                  have p719 : 0 ≤ (x11_3 : Int) := of_decide_eq_true (by first | (with_reducible assumption) | assumption)
                  have q719 : x11_3 < (t711.length : Int) := of_decide_eq_true (by first | (with_reducible assumption) | assumption)
                  obtain ⟨ad719, e719, hx719_0⟩ := Kd.at_int (Kd.R_reads' HO_8.out).2.2 x11_3 p719 q719
                  cases e719
                  replace p719 := eq_true p719
                  replace q719 := eq_true q719
                  go_wp2
                  go_roundg k3
                  case measure => have := HJ3.out; have := HK2.out; have := HK3.out; omega
                  case rel => exact ⟨(x10_3), (wrap64 (x11_3 + 1)), (wrap64 (x12_3 + 1)), (by first | rfl | (simp; done) | (simp [*]; done)), (by first | rfl | (simp; done) | (simp [*]; done)), (by first | rfl | (simp; done) | (simp [*]; done)), H', ⟨by have := HJ3.out; have := HK2.out; have := HK3.out; omega⟩, ⟨by (with_reducible repeat (first | apply Kd.N_alloc | apply Kd.N_drewN | apply Kd.N_drew)); exact HO_5.out⟩, ⟨by (with_reducible repeat (first | apply Kd.N_alloc | apply Kd.N_drewN | apply Kd.N_drew)); exact HO_7.out⟩, ⟨by (with_reducible repeat (first | apply Kd.R_alloc | apply Kd.R_drewN | apply Kd.R_drew)); exact HO_8.out⟩, ⟨by repeat (first | (with_reducible first | exact HB.out | apply below_alloc | apply pw_below_drewN | apply below_drew1) | exact HB.out)⟩⟩
                 ·rw [if_neg c34] at H
                  have c34b0 : ((rd t711 x11_3) == (wrap64 (x12_3 + 1))) = false := beq_eq_false_iff_ne.mpr c34
                  have c34b1 : ((rd t711 x11_3) != (wrap64 (x12_3 + 1))) = true := bne_iff_ne.mpr c34
                  exact absurd (Option.some.inj H) (by rw [HT.out]; decide)
                ·rw [if_neg c33] at H
                 exact absurd H (by simp)
               ·rw [if_neg c32] at H
                exact absurd H (by simp)
             ·rw [if_neg c30] at H
              have c30b0 : ((wrap64 (((rd_T32 t705 x12_3).f2) + x6_2)) == 60) = false := beq_eq_false_iff_ne.mpr c30
              have c30b1 : ((wrap64 (((rd_T32 t705 x12_3).f2) + x6_2)) != 60) = true := bne_iff_ne.mpr c30
              have H' := Aside0.mk H
              clear H
              obtain ⟨Ao37, co37, eo37⟩ := Kd.N_slice HO_5.out
              subst eo37
              have p716 : 0 ≤ (x12_3 : Int) := of_decide_eq_true (by first | (with_reducible assumption) | assumption)
              have q716 : x12_3 < (t705.length : Int) := of_decide_eq_true (by first | (with_reducible assumption) | assumption)
              obtain ⟨ad716, A716_3, c716_3, e716, hx716_0, hx716_1, hx716_2, hx716_3, hl716_3, hi716_3⟩ := at_T32 (Kd.N_reads' HO_5.out).2.2 x12_3 p716 q716
              cases e716
              obtain ⟨ce716, hce716, hMe716, hcc716⟩ := Kd.N_get HO_5.out z32 x12_3 p716 (by first | exact q716 | exact of_decide_eq_true (by first | (with_reducible assumption) | assumption) | (have e_ := (Kd.N_reads' HO_5.out).1; omega))
              obtain ⟨ua716_3, uc716_3, rfl, ul716_3, ge716_3⟩ := k32_openF hMe716
              have hv716_3 := hcc716 3 _ rfl
              rw [add_field _ _ 3 (by omega)] at hv716_3
              replace hv716_3 := Option.some.inj (hv716_3.symm.trans hx716_3)
              injection hv716_3 with hva_ hvn_ hvc_
              rw [hva_] at ge716_3
              rw [hvc_] at ul716_3
              have HL716_3 := Aside0.mk (show Kd.V k56 56 _ w.heap.size _ _ ((rd_T32 t705 x12_3).f3) from Kd.V_mk ul716_3 ge716_3)
              clear hva_ hvn_ hvc_ ge716_3 ul716_3
              clear hcc716 hce716
              have HR716_3 := Aside0.mk hi716_3
              have HC716_3 := Aside0.mk hl716_3
              clear hi716_3 hl716_3
              replace p716 := eq_true p716
              replace q716 := eq_true q716
              go_wp2
              go_roundg k3
              case measure => have := HJ3.out; have := HK2.out; have := HK3.out; omega
              case rel => exact ⟨(x10_3), (x11_3), (wrap64 (x12_3 + 1)), (by first | rfl | (simp; done) | (simp [*]; done)), (by first | rfl | (simp; done) | (simp [*]; done)), (by first | rfl | (simp; done) | (simp [*]; done)), H', ⟨by have := HJ3.out; have := HK2.out; have := HK3.out; omega⟩, ⟨by (with_reducible repeat (first | apply Kd.N_alloc | apply Kd.N_drewN | apply Kd.N_drew)); exact HO_5.out⟩, ⟨by (with_reducible repeat (first | apply Kd.N_alloc | apply Kd.N_drewN | apply Kd.N_drew)); exact HO_7.out⟩, ⟨by (with_reducible repeat (first | apply Kd.R_alloc | apply Kd.R_drewN | apply Kd.R_drew)); exact HO_8.out⟩, ⟨by repeat (first | (with_reducible first | exact HB.out | apply below_alloc | apply pw_below_drewN | apply below_drew1) | exact HB.out)⟩⟩
           ·rw [if_neg c21] at H
            exact absurd H (by simp)
          ·rw [if_neg c20] at H
           have c20b0 : decide (x12_3 < (t705.length : Int)) = false := decide_eq_false c20
           clear c20
           by_cases c38 : x10_3 = (t708.length : Int)
           ·rw [if_pos c38] at H
            have c38b0 : (x10_3 == (t708.length : Int)) = true := beq_iff_eq.mpr c38
            have c38b1 : (x10_3 != (t708.length : Int)) = false := bne_eq_false_iff_eq.mpr c38
            clear c38
            by_cases c39 : x11_3 = (t711.length : Int)
            ·rw [if_pos c39] at H
             have c39b0 : (x11_3 == (t711.length : Int)) = true := beq_iff_eq.mpr c39
             have c39b1 : (x11_3 != (t711.length : Int)) = false := bne_eq_false_iff_eq.mpr c39
             clear c39
             have H' := Aside0.mk H
             clear H
             obtain ⟨Ao40, co40, eo40⟩ := Kd.N_slice HO_5.out
             subst eo40
             obtain ⟨Ao41, co41, eo41⟩ := Kd.N_slice HO_7.out
             subst eo41
             obtain ⟨Ao42, co42, eo42⟩ := Kd.R_slice HO_8.out
             subst eo42
             go_wp2
             go_roundg k3
             case measure => have := HJ3.out; have := HK2.out; have := HK3.out; omega
             case rel => exact ⟨(t708), (wrap64 (x6_2 + 1)), (by first | rfl | (simp; done) | (simp [*]; done)), H', ⟨by have := HJ3.out; have := HK2.out; have := HK3.out; omega⟩, ⟨by (with_reducible repeat (first | apply Kd.N_alloc | apply Kd.N_drewN | apply Kd.N_drew)); exact Kd.N_mono HO_7.out (fun _ hk => hk.1)⟩, ⟨by (with_reducible repeat (first | apply Kd.N_alloc | apply Kd.N_drewN | apply Kd.N_drew)); exact Kd.N_mono HO_5.out (fun _ hk => hk.1)⟩, ⟨by repeat (first | (with_reducible first | exact HB.out | apply below_alloc | apply pw_below_drewN | apply below_drew1) | exact HB.out)⟩⟩
            ·rw [if_neg c39] at H
             have c39b0 : (x11_3 == (t711.length : Int)) = false := beq_eq_false_iff_ne.mpr c39
             have c39b1 : (x11_3 != (t711.length : Int)) = true := bne_iff_ne.mpr c39
             exact absurd (Option.some.inj H) (by rw [HT.out]; decide)
           ·rw [if_neg c38] at H
            have c38b0 : (x10_3 == (t708.length : Int)) = false := beq_eq_false_iff_ne.mpr c38
            have c38b1 : (x10_3 != (t708.length : Int)) = true := bne_iff_ne.mpr c38
            exact absurd (Option.some.inj H) (by rw [HT.out]; decide)
       ·rw [if_neg c17] at H
        have c17b0 : (t715 == 0) = false := beq_eq_false_iff_ne.mpr c17
        have c17b1 : (t715 != 0) = true := bne_iff_ne.mpr c17
        exact absurd (Option.some.inj H) (by rw [HT.out]; decide)
      ·rw [if_neg c14] at H
       have c14b0 : decide (x6_2 ≤ 60) = false := decide_eq_false c14
       clear c14
       obtain rfl := Option.some.inj H
       obtain ⟨Ao43, co43, eo43⟩ := Kd.N_slice HO_3.out
       subst eo43
       go_wp2
       go_ret
       exact ⟨by first | rfl | (simp [errW_none, errW_some] <;> rfl) | (simp [*, errW_none, errW_some] <;> rfl), by repeat (first | (with_reducible first | exact HB.out | apply below_alloc | apply pw_below_drewN | apply below_drew1) | exact HB.out)⟩
 ·replace c3 := Bool.eq_false_iff.mpr c3
  subst c3
  have H1 : (some false) = some r := by rw [if_neg (show ¬ (false = true) by decide)] at H; exact H
  clear H
  have H := H1
  clear H1
  exact absurd (Option.some.inj H) (by rw [HT.out]; decide)

/-- THE ONE PURE STATEMENT of watchwordlaw18_StoreAges: yours. -/
def watchwordlaw18_StoreAges.Pure : Prop := ∀ (l0 : List Int), l0.length ≤ maxLen → l0.length * 8 ≤ 140737488351232 → (∀ x ∈ l0, (Lit.int .i64 x).wf = true) → ∃ k, watchwordlaw18_StoreAges.f k l0 = some true
theorem watchwordlaw18_StoreAges.walk (P : watchwordlaw18_StoreAges.Pure) (a0 : Option Addr) (len0 cap0 : Nat) (z0 : List Int) (w : World) (w0 : (a0 = none ∧ len0 = 0 ∧ cap0 = 0 ∧ z0 = []) ∨ ∃ x, a0 = some x ∧ len0 ≤ cap0 ∧ cap0 ≤ maxLen ∧ z0.length = cap0 ∧ (∀ i, i < z0.length → w.cell? (x.add i) = some (.int .i64 (z0.getD i 0))) ∧ ∀ n ∈ z0, (Lit.int .i64 n).wf = true) (y0 : len0 * 8 ≤ 140737488351232) :
  Calls Try.prog 8 #[.slice a0 len0 cap0] w fun e w' => e = .returned (.bool true) ∧ Below w.heap.size w w' := by
 obtain ⟨l0, rfl, hr0, hm0, hw0, hc0⟩ := ReadsInt.ofRowC w0
 obtain ⟨k, h⟩ := P l0 hm0 y0 hw0
 refine (watchwordlaw18_StoreAges.calls k _ _ l0 true w (Kd.C_of_reads (d := (0 : Int)) (h1 := fun _ => rfl) hr0) hc0 h rfl).mono ?_
 rintro e w' ⟨rfl, hd⟩
 exact ⟨rfl, hd⟩

end Go.Proofs.Ytbpoflicphgokaa.Q18
