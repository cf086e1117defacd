/- Written by a program of this session out of the print of the loaded functions: each Go function as a plain function, and that its call comes to it; for a law, the row out of its plain statement. -/
import Derived.Test.YtnfoldgialdhjaaQ19x0
import Derived.Test.YtnfoldgialdhjaaQ19x109
import Derived.Test.YtnfoldgialdhjaaQ19x111
import Derived.Test.YtnfoldgialdhjaaQ19x113
import Derived.Test.YtnfoldgialdhjaaQ19x115
import Derived.Test.YtnfoldgialdhjaaQ19x123
namespace Go.Proofs.Ytnfoldgialdhjaa.Q19
open Go.RowKit Go.Proofs.YtnfoldgialdhjaaW.PrintWords Go.Proofs.YtnfoldgialdhjaaW.PrintLast Go.Proofs.YtnfoldgialdhjaaW.PrintMore
attribute [local go_sem] max2_int min2_int max_two min_two max_three min_three max_four min_four   -- for this text's walks alone
set_option linter.unusedVariables false
set_option linter.unusedSimpArgs false

/-! ### watchwordlaw19_NearDies: function 4 -/
mutual
def watchwordlaw19_NearDies.l0 : Nat → List Int → Int → List (S46) → Int → Int → Option (Bool)
 | 0, _, _, _, _, _ => none
 | k + 1, x1, x5, x6, x9, x10 => if x10 < (x1.length : Int) then (watchwordlaw19_NearDies.j1 k x1 x5 x6 x9 x10 (decide (x10 < 40))) else (watchwordlaw19_NearDies.j1 k x1 x5 x6 x9 x10 false)
def watchwordlaw19_NearDies.j1 : Nat → List Int → Int → List (S46) → Int → Int → Bool → Option (Bool)
 | 0, _, _, _, _, _, _ => none
 | k + 1, x1, x5, x6, x9, x10, x40 => if x40 = true then (if 0 ≤ x10 then (if x10 < (x1.length : Int) then (if (Go.bits .and .i64 (rd x1 x10) 15) = 15 then ((near_Heard.f k x6 x5 true).bind fun bt364 => ((watchwordlaw0_Num.f bt364.2.2).bind fun t369 => (if t369 = 0 then (if (bt364.2.1 != (x9 == 0)) = true then (some false) else (watchwordlaw19_NearDies.l0 k x1 x5 bt364.1 16 (wrap64 (x10 + 1)))) else (some false)))) else ((near_Tick.f k x6).bind fun bt370 => ((watchwordlaw0_Num.f bt370.2.2).bind fun t377 => (if t377 = 0 then (watchwordlaw19_NearDies.j2 k x1 x5 x9 x10 bt370.1 (((bt370.2.1.length : Int) == 1) != (x9 == 1))) else (watchwordlaw19_NearDies.j2 k x1 x5 x9 x10 bt370.1 true))))) else (none)) else (none)) else (some true)
def watchwordlaw19_NearDies.j2 : Nat → List Int → Int → Int → Int → List (S46) → Bool → Option (Bool)
 | 0, _, _, _, _, _, _ => none
 | k + 1, x1, x5, x9, x10, x14, x82 => if x82 = true then (some false) else ((near_Full.f k x14).bind fun t378 => (if (((t378.length : Int) == 1) != (decide ((mx 0 (wrap64 (x9 - 1))) > 0))) = true then (some false) else (watchwordlaw19_NearDies.l0 k x1 x5 x14 (mx 0 (wrap64 (x9 - 1))) (wrap64 (x10 + 1)))))
end
def watchwordlaw19_NearDies.f (k : Nat) (a0 : Int) (l1 : List Int) : Option (Bool) := (watchwordlaw19_awake.f k).bind fun t356 => (if t356 = true then ((near_Heard.f k ([] : List (S46)) (wrap64 (1 + (wrap64 (Int.tmod (IntKind.u64.wrap (a0)) 4)))) true).bind fun bt357 => ((watchwordlaw0_Num.f bt357.2.2).bind fun t362 => (if t362 = 0 then (watchwordlaw19_NearDies.l0 k l1 (wrap64 (1 + (wrap64 (Int.tmod (IntKind.u64.wrap (a0)) 4)))) bt357.1 16 0) else (some false)))) else (some false))
theorem watchwordlaw19_NearDies.mono_l : ∀ k, (∀ y0 y1 y2 y3 y4, LeO (watchwordlaw19_NearDies.l0 k y0 y1 y2 y3 y4) (watchwordlaw19_NearDies.l0 (k + 1) y0 y1 y2 y3 y4)) ∧ (∀ y0 y1 y2 y3 y4 y5, LeO (watchwordlaw19_NearDies.j1 k y0 y1 y2 y3 y4 y5) (watchwordlaw19_NearDies.j1 (k + 1) y0 y1 y2 y3 y4 y5)) ∧ (∀ y0 y1 y2 y3 y4 y5, LeO (watchwordlaw19_NearDies.j2 k y0 y1 y2 y3 y4 y5) (watchwordlaw19_NearDies.j2 (k + 1) y0 y1 y2 y3 y4 y5))
 | 0 => ⟨fun _ _ _ _ _ r h => by simp [watchwordlaw19_NearDies.l0] at h, fun _ _ _ _ _ _ r h => by simp [watchwordlaw19_NearDies.j1] at h, fun _ _ _ _ _ _ r h => by simp [watchwordlaw19_NearDies.j2] at h⟩
 | k + 1 => by
  obtain ⟨ih0, ih1, ih2⟩ := watchwordlaw19_NearDies.mono_l k
  refine ⟨?_, ?_, ?_⟩
  ·intro y0 y1 y2 y3 y4
   unfold watchwordlaw19_NearDies.l0
   repeat' first
   | (with_reducible exact ih0 _ _ _ _ _)
   | (with_reducible exact ih1 _ _ _ _ _ _)
   | (with_reducible exact ih2 _ _ _ _ _ _)
   | (with_reducible exact near_Full.mono _ _)
   | (with_reducible exact near_Heard.mono _ _ _ _)
   | (with_reducible exact near_Tick.mono _ _)
   | (with_reducible exact watchwordlaw19_awake.mono _)
   | (with_reducible exact LeO.refl _)
   | (with_reducible exact LeO.none _)
   | (with_reducible refine LeO.ite ?_ ?_)
   | (with_reducible refine LeO.bind ?_ (fun _ => ?_))
   | exact ih0 _ _ _ _ _
   | exact ih1 _ _ _ _ _ _
   | exact ih2 _ _ _ _ _ _
   | exact near_Full.mono _ _
   | exact near_Heard.mono _ _ _ _
   | exact near_Tick.mono _ _
   | exact watchwordlaw19_awake.mono _
   | exact LeO.none _
   | refine LeO.ite ?_ ?_
   | refine LeO.bind ?_ (fun _ => ?_)
  ·intro y0 y1 y2 y3 y4 y5
   unfold watchwordlaw19_NearDies.j1
   repeat' first
   | (with_reducible exact ih0 _ _ _ _ _)
   | (with_reducible exact ih1 _ _ _ _ _ _)
   | (with_reducible exact ih2 _ _ _ _ _ _)
   | (with_reducible exact near_Full.mono _ _)
   | (with_reducible exact near_Heard.mono _ _ _ _)
   | (with_reducible exact near_Tick.mono _ _)
   | (with_reducible exact watchwordlaw19_awake.mono _)
   | (with_reducible exact LeO.refl _)
   | (with_reducible exact LeO.none _)
   | (with_reducible refine LeO.ite ?_ ?_)
   | (with_reducible refine LeO.bind ?_ (fun _ => ?_))
   | exact ih0 _ _ _ _ _
   | exact ih1 _ _ _ _ _ _
   | exact ih2 _ _ _ _ _ _
   | exact near_Full.mono _ _
   | exact near_Heard.mono _ _ _ _
   | exact near_Tick.mono _ _
   | exact watchwordlaw19_awake.mono _
   | exact LeO.none _
   | refine LeO.ite ?_ ?_
   | refine LeO.bind ?_ (fun _ => ?_)
  ·intro y0 y1 y2 y3 y4 y5
   unfold watchwordlaw19_NearDies.j2
   repeat' first
   | (with_reducible exact ih0 _ _ _ _ _)
   | (with_reducible exact ih1 _ _ _ _ _ _)
   | (with_reducible exact ih2 _ _ _ _ _ _)
   | (with_reducible exact near_Full.mono _ _)
   | (with_reducible exact near_Heard.mono _ _ _ _)
   | (with_reducible exact near_Tick.mono _ _)
   | (with_reducible exact watchwordlaw19_awake.mono _)
   | (with_reducible exact LeO.refl _)
   | (with_reducible exact LeO.none _)
   | (with_reducible refine LeO.ite ?_ ?_)
   | (with_reducible refine LeO.bind ?_ (fun _ => ?_))
   | exact ih0 _ _ _ _ _
   | exact ih1 _ _ _ _ _ _
   | exact ih2 _ _ _ _ _ _
   | exact near_Full.mono _ _
   | exact near_Heard.mono _ _ _ _
   | exact near_Tick.mono _ _
   | exact watchwordlaw19_awake.mono _
   | exact LeO.none _
   | refine LeO.ite ?_ ?_
   | refine LeO.bind ?_ (fun _ => ?_)
theorem watchwordlaw19_NearDies.mono : ∀ a0 a1 k, LeO (watchwordlaw19_NearDies.f k a0 a1) (watchwordlaw19_NearDies.f (k + 1) a0 a1) := by
 intro a0 a1 k
 obtain ⟨ih0, ih1, ih2⟩ := watchwordlaw19_NearDies.mono_l k
 unfold watchwordlaw19_NearDies.f
 repeat' first
   | (with_reducible exact ih0 _ _ _ _ _)
   | (with_reducible exact ih1 _ _ _ _ _ _)
   | (with_reducible exact ih2 _ _ _ _ _ _)
   | (with_reducible exact near_Full.mono _ _)
   | (with_reducible exact near_Heard.mono _ _ _ _)
   | (with_reducible exact near_Tick.mono _ _)
   | (with_reducible exact watchwordlaw19_awake.mono _)
   | (with_reducible exact LeO.refl _)
   | (with_reducible exact LeO.none _)
   | (with_reducible refine LeO.ite ?_ ?_)
   | (with_reducible refine LeO.bind ?_ (fun _ => ?_))
   | exact ih0 _ _ _ _ _
   | exact ih1 _ _ _ _ _ _
   | exact ih2 _ _ _ _ _ _
   | exact near_Full.mono _ _
   | exact near_Heard.mono _ _ _ _
   | exact near_Tick.mono _ _
   | exact watchwordlaw19_awake.mono _
   | exact LeO.none _
   | refine LeO.ite ?_ ?_
   | refine LeO.bind ?_ (fun _ => ?_)
set_option maxHeartbeats 8000000 in
set_option maxRecDepth 100000 in
theorem watchwordlaw19_NearDies.calls (k : Nat) (a0 : Int) (A1 : Option Addr) (c1 : Nat) (l1 : List Int) (r : Bool) (w : World) (hr1 : Kd.C (Kd.int .i64) w A1 l1.length l1) (hc1 : l1.length ≤ c1) (h : watchwordlaw19_NearDies.f k a0 l1 = some r) (hT : r = true) :
  Calls Try.prog 4 #[.int .i64 a0, .slice A1 l1.length c1] w fun e w' => e = .returned (.bool r) ∧ Below w.heap.size w w' := by
 have HR1 := Aside0.mk hr1
 have HC1 := Aside0.mk hc1
 clear hr1 hc1
 have HB := Aside0.mk (Below.refl w.heap.size w)
 have HT := Aside0.mk hT
 clear hT
 have H : ((watchwordlaw19_awake.f k).bind fun t356 => (if t356 = true then ((near_Heard.f k ([] : List (S46)) (wrap64 (1 + (wrap64 (Int.tmod (IntKind.u64.wrap (a0)) 4)))) true).bind fun bt357 => ((watchwordlaw0_Num.f bt357.2.2).bind fun t362 => (if t362 = 0 then (watchwordlaw19_NearDies.l0 k l1 (wrap64 (1 + (wrap64 (Int.tmod (IntKind.u64.wrap (a0)) 4)))) bt357.1 16 0) else (some false)))) else (some false))) = some r := h
 clear h
 replace H := Option.bind_eq_some_iff.mp H
 obtain ⟨t356, A30, H⟩ := H
 replace H : (if t356 = true then ((near_Heard.f k ([] : List (S46)) (wrap64 (1 + (wrap64 (Int.tmod (IntKind.u64.wrap (a0)) 4)))) true).bind fun bt357 => ((watchwordlaw0_Num.f bt357.2.2).bind fun t362 => (if t362 = 0 then (watchwordlaw19_NearDies.l0 k l1 (wrap64 (1 + (wrap64 (Int.tmod (IntKind.u64.wrap (a0)) 4)))) bt357.1 16 0) else (some false)))) else (some false)) = some r := H
 have A3 := Aside0.mk A30
 clear A30
 by_cases c4 : t356 = true
 ·subst c4
  have H1 : ((near_Heard.f k ([] : List (S46)) (wrap64 (1 + (wrap64 (Int.tmod (IntKind.u64.wrap (a0)) 4)))) true).bind fun bt357 => ((watchwordlaw0_Num.f bt357.2.2).bind fun t362 => (if t362 = 0 then (watchwordlaw19_NearDies.l0 k l1 (wrap64 (1 + (wrap64 (Int.tmod (IntKind.u64.wrap (a0)) 4)))) bt357.1 16 0) else (some false)))) = some r := by rw [if_pos rfl] at H; exact H
  clear H
  have H := H1
  clear H1
  replace H := Option.bind_eq_some_iff.mp H
  obtain ⟨⟨t357, t358, t359⟩, A50, H⟩ := H
  replace H : ((watchwordlaw0_Num.f t359).bind fun t362 => (if t362 = 0 then (watchwordlaw19_NearDies.l0 k l1 (wrap64 (1 + (wrap64 (Int.tmod (IntKind.u64.wrap (a0)) 4)))) t357 16 0) else (some false))) = some r := H
  have A5 := Aside0.mk A50
  clear A50
  replace H := Option.bind_eq_some_iff.mp H
  obtain ⟨t362, A60, H⟩ := H
  replace H : (if t362 = 0 then (watchwordlaw19_NearDies.l0 k l1 (wrap64 (1 + (wrap64 (Int.tmod (IntKind.u64.wrap (a0)) 4)))) t357 16 0) else (some false)) = some r := H
  have A6 := Aside0.mk A60
  clear A60
  by_cases c7 : t362 = 0
  ·rw [if_pos c7] at H
   have c7b0 : (t362 == 0) = true := beq_iff_eq.mpr c7
   have c7b1 : (t362 != 0) = false := bne_eq_false_iff_eq.mpr c7
   clear c7
   have H' := Aside0.mk H
   clear H
   go_enter Try.func4, Try.ntmps4
   go_wp2_with (first | ((with_reducible refine gate_callee (f := 23) rfl ?_); refine goesL_ (some 17) rfl rfl Try.func23 (by kernel_rfl) rfl #[] rfl (by (try simp only [List.map_toArray, List.map_cons, List.map_nil]); first | done | rfl | (simp only [List.length_drop, List.length_take]; rfl)) ?_; (with_reducible refine (watchwordlaw19_awake.calls k  true _ A3.out (by first | rfl | exact HT.out)).mono ?_); rintro e w8 ⟨rfl, hb⟩; refine ⟨_, rfl, ?_⟩; have n0_ := Aside0.mk (below_step (by repeat (first | (with_reducible first | exact HB.out | apply below_alloc | apply pw_below_drewN | apply below_drew1) | exact HB.out)) hb); clear HB; have HB := n0_; clear n0_; (try clear hb); (try clear hb2); (try clear hk); (try clear hi)) | ((with_reducible refine gate_callee (f := 9) rfl ?_); refine goesL_ (some 26) rfl rfl Try.func9 (by kernel_rfl) rfl #[.slice none 0 0, .int .i64 (wrap64 (1 + (wrap64 (Int.tmod (IntKind.u64.wrap (a0)) 4)))), .bool true] rfl (by (try simp only [List.map_toArray, List.map_cons, List.map_nil]); first | done | rfl | (simp only [List.length_drop, List.length_take]; rfl)) ?_; (refine (near_Heard.calls k _ _ ([] : List (S46)) (wrap64 (1 + (wrap64 (Int.tmod (IntKind.u64.wrap (a0)) 4)))) true t357 t358 t359 _ ?side1 ?side2 A5.out).mono ?_); (case side1 => exact Kd.C_nil _ _); (case side2 => exact Nat.le_refl _); rintro e w9 ⟨v360, rfl, ho0, hb⟩; refine ⟨_, rfl, ?_⟩; have n0_ := Aside0.mk (Kd.R_lower ho0 (below_size (by repeat (first | (with_reducible first | exact HB.out | apply below_alloc | apply pw_below_drewN | apply below_drew1) | exact HB.out)))); have n1_ := Aside0.mk (below_step (by repeat (first | (with_reducible first | exact HB.out | apply below_alloc | apply pw_below_drewN | apply below_drew1) | exact HB.out)) hb); clear HB; have HO361 := n0_; have HB := n1_; clear n0_ n1_; (try clear hb); (try clear hb2); (try clear hk); (try clear hi); (try clear ho0)) | ((with_reducible refine gate_callee (f := 15) rfl ?_); refine goesL_ (some 31) rfl rfl Try.func15 (by kernel_rfl) rfl #[.int .i64 t359] rfl (by (try simp only [List.map_toArray, List.map_cons, List.map_nil]); first | done | rfl | (simp only [List.length_drop, List.length_take]; rfl)) ?_; (with_reducible refine (watchwordlaw0_Num.calls t359 t362 _ A6.out).mono ?_); rintro e w' ⟨rfl, ⟨nd, rfl⟩⟩; refine ⟨_, rfl, ?_⟩))
   go_loopg [6, 9, 10] k (fun kq v6 v9 v10 w' => ∃ (x6_1 : List (S46)) (x9_1 : Int) (x10_1 : Int), v9 = .int .i64 x9_1 ∧ v10 = .int .i64 x10_1 ∧ Aside0 (watchwordlaw19_NearDies.l0 kq l1 (wrap64 (1 + (wrap64 (Int.tmod (IntKind.u64.wrap (a0)) 4)))) x6_1 x9_1 x10_1 = some r) ∧ Aside0 (kq ≤ k) ∧ Aside0 (Kd.R k46 46 w' w.heap.size (fun _ => True) v6 x6_1) ∧ Aside0 (Below w.heap.size w w'))
   case atStart => exact ⟨(t357), (16), (0), (by first | rfl | (simp; done) | (simp [*]; done)), (by first | rfl | (simp; done) | (simp [*]; done)), H', ⟨Nat.le_refl _⟩, ⟨by (with_reducible repeat (first | apply Kd.R_alloc | apply Kd.R_drewN | apply Kd.R_drew)); exact HO361.out⟩, ⟨by repeat (first | (with_reducible first | exact HB.out | apply below_alloc | apply pw_below_drewN | apply below_drew1) | exact HB.out)⟩⟩
   case round =>
    clear H'
    try clear c1
    try clear c2
    try clear p2
    try clear c4
    try clear p6
    try clear c7
    try clear c7b0
    try clear c7b1
    try clear c9
    obtain ⟨x6_1, x9_1, x10_1, rfl, rfl, HA, HK1, HO_6, HB⟩ := hrel
    cases gk with
    | zero => exact absurd HA.out (by simp [watchwordlaw19_NearDies.l0])
    | succ k1 =>
     have H := HA.out
     clear HA
     simp only [watchwordlaw19_NearDies.l0] at H
     have HC10 := Aside0.mk H
     clear H
     go_upto_region 9 with (fail)
     go_cut [40] (fun v40 wc => ∃ (kq : Nat) (x40_9 : Bool), v40 = .bool x40_9 ∧ Aside0 (watchwordlaw19_NearDies.j1 kq l1 (wrap64 (1 + (wrap64 (Int.tmod (IntKind.u64.wrap (a0)) 4)))) x6_1 x9_1 x10_1 x40_9 = some r) ∧ Aside0 (kq ≤ k1) ∧ Aside0 (Kd.R k46 46 wc w.heap.size (fun _ => True) u6 x6_1) ∧ Aside0 (Below w.heap.size w wc))
     case first =>
      have H := HC10.out
      clear HC10
      by_cases c11 : x10_1 < (l1.length : Int)
      ·rw [if_pos c11] at H
       have c11b0 : decide (x10_1 < (l1.length : Int)) = true := decide_eq_true c11
       clear c11
       (first | rw [c11b0] | (simp only [i64_w, i32_w]; rw [c11b0]) | skip)
       have H' := Aside0.mk H
       clear H
       go_wp2
       go_meet
       case rel => exact ⟨_, (decide (x10_1 < 40)), (by first | rfl | (simp; done) | (simp [*]; done)), H', ⟨by have := HK1.out; first | omega | exact Nat.le_refl _⟩, ⟨by (with_reducible repeat (first | apply Kd.R_alloc | apply Kd.R_drewN | apply Kd.R_drew)); exact HO_6.out⟩, ⟨by repeat (first | (with_reducible first | exact HB.out | apply below_alloc | apply pw_below_drewN | apply below_drew1) | exact HB.out)⟩⟩
      ·rw [if_neg c11] at H
       have c11b0 : decide (x10_1 < (l1.length : Int)) = false := decide_eq_false c11
       clear c11
       (first | rw [c11b0] | (simp only [i64_w, i32_w]; rw [c11b0]) | skip)
       have H' := Aside0.mk H
       clear H
       go_wp2
       go_meet
       case rel => exact ⟨_, (false), (by first | rfl | (simp; done) | (simp [*]; done)), H', ⟨by have := HK1.out; first | omega | exact Nat.le_refl _⟩, ⟨by (with_reducible repeat (first | apply Kd.R_alloc | apply Kd.R_drewN | apply Kd.R_drew)); exact HO_6.out⟩, ⟨by repeat (first | (with_reducible first | exact HB.out | apply below_alloc | apply pw_below_drewN | apply below_drew1) | exact HB.out)⟩⟩
     case rest =>
      clear HC10
      try clear c1
      try clear c2
      try clear p2
      try clear c4
      try clear p6
      try clear c7
      try clear c7b0
      try clear c7b1
      try clear c9
      try clear c11
      try clear c11b0
      try clear p2
      try clear p6
      obtain ⟨kq, x40_9, rfl, HA, HJ9, HO_6, HB⟩ := hcut
      cases kq with
      | zero => exact absurd HA.out (by simp [watchwordlaw19_NearDies.j1])
      | succ kj9 =>
       have H := HA.out
       clear HA
       simp only [watchwordlaw19_NearDies.j1] at H
       by_cases c12 : x40_9 = true
       ·subst c12
        have H1 : (if 0 ≤ x10_1 then (if x10_1 < (l1.length : Int) then (if (Go.bits .and .i64 (rd l1 x10_1) 15) = 15 then ((near_Heard.f kj9 x6_1 (wrap64 (1 + (wrap64 (Int.tmod (IntKind.u64.wrap (a0)) 4)))) true).bind fun bt364 => ((watchwordlaw0_Num.f bt364.2.2).bind fun t369 => (if t369 = 0 then (if (bt364.2.1 != (x9_1 == 0)) = true then (some false) else (watchwordlaw19_NearDies.l0 kj9 l1 (wrap64 (1 + (wrap64 (Int.tmod (IntKind.u64.wrap (a0)) 4)))) bt364.1 16 (wrap64 (x10_1 + 1)))) else (some false)))) else ((near_Tick.f kj9 x6_1).bind fun bt370 => ((watchwordlaw0_Num.f bt370.2.2).bind fun t377 => (if t377 = 0 then (watchwordlaw19_NearDies.j2 kj9 l1 (wrap64 (1 + (wrap64 (Int.tmod (IntKind.u64.wrap (a0)) 4)))) x9_1 x10_1 bt370.1 (((bt370.2.1.length : Int) == 1) != (x9_1 == 1))) else (watchwordlaw19_NearDies.j2 kj9 l1 (wrap64 (1 + (wrap64 (Int.tmod (IntKind.u64.wrap (a0)) 4)))) x9_1 x10_1 bt370.1 true))))) else (none)) else (none)) = some r := by rw [if_pos rfl] at H; exact H
        clear H
        have H := H1
        clear H1
        by_cases c13 : 0 ≤ x10_1
        ·rw [if_pos c13] at H
         have c13b0 : decide (0 ≤ x10_1) = true := decide_eq_true c13
         clear c13
         by_cases c14 : x10_1 < (l1.length : Int)
         ·rw [if_pos c14] at H
          have c14b0 : decide (x10_1 < (l1.length : Int)) = true := decide_eq_true c14
          clear c14
          by_cases c15 : (Go.bits .and .i64 (rd l1 x10_1) 15) = 15
          ·rw [if_pos c15] at H
           have c15b0 : ((Go.bits .and .i64 (rd l1 x10_1) 15) == 15) = true := beq_iff_eq.mpr c15
           have c15b1 : ((Go.bits .and .i64 (rd l1 x10_1) 15) != 15) = false := bne_eq_false_iff_eq.mpr c15
           clear c15
           replace H := Option.bind_eq_some_iff.mp H
           obtain ⟨⟨t364, t365, t366⟩, A160, H⟩ := H
           replace H : ((watchwordlaw0_Num.f t366).bind fun t369 => (if t369 = 0 then (if (t365 != (x9_1 == 0)) = true then (some false) else (watchwordlaw19_NearDies.l0 kj9 l1 (wrap64 (1 + (wrap64 (Int.tmod (IntKind.u64.wrap (a0)) 4)))) t364 16 (wrap64 (x10_1 + 1)))) else (some false))) = some r := H
           have A16 := Aside0.mk A160
           clear A160
           replace H := Option.bind_eq_some_iff.mp H
           obtain ⟨t369, A170, H⟩ := H
           replace H : (if t369 = 0 then (if (t365 != (x9_1 == 0)) = true then (some false) else (watchwordlaw19_NearDies.l0 kj9 l1 (wrap64 (1 + (wrap64 (Int.tmod (IntKind.u64.wrap (a0)) 4)))) t364 16 (wrap64 (x10_1 + 1)))) else (some false)) = some r := H
           have A17 := Aside0.mk A170
           clear A170
           by_cases c18 : t369 = 0
           ·rw [if_pos c18] at H
            have c18b0 : (t369 == 0) = true := beq_iff_eq.mpr c18
            have c18b1 : (t369 != 0) = false := bne_eq_false_iff_eq.mpr c18
            clear c18
            by_cases c19 : (t365 != (x9_1 == 0)) = true
            ·rw [if_pos c19] at H
             have c19b0 : (t365 != (x9_1 == 0)) = true := c19
             (try (have c19b1 : decide (t365 = (x9_1 == 0)) = false := by simpa using c19))
             (try (have c19b2 : (t365 == (x9_1 == 0)) = false := by simpa using c19))
             (try (have c19b3 : ¬ (t365 = (x9_1 == 0)) := by simpa using c19))
             clear c19
             exact absurd (Option.some.inj H) (by rw [HT.out]; decide)
            ·rw [if_neg c19] at H
             have c19b0 : (t365 != (x9_1 == 0)) = false := by simpa using c19
             (try (have c19b1 : decide (t365 = (x9_1 == 0)) = true := by simpa using c19))
             (try (have c19b2 : (t365 == (x9_1 == 0)) = true := by simpa using c19))
             clear c19
             have H' := Aside0.mk H
             clear H
             have p363 : 0 ≤ (x10_1 : Int) := of_decide_eq_true (by first | (with_reducible assumption) | assumption)
             have q363 : x10_1 < (l1.length : Int) := of_decide_eq_true (by first | (with_reducible assumption) | assumption)
             obtain ⟨ad363, e363, hx363_0⟩ := Kd.at_int HR1.out x10_1 p363 q363
             cases e363
             replace hx363_0 := (HB.out.cell (World.block_lt_of_cell? w _ hx363_0)).trans hx363_0
             replace p363 := eq_true p363
             replace q363 := eq_true q363
             obtain ⟨Ao20, co20, eo20⟩ := Kd.R_slice HO_6.out
             subst eo20
             go_wp2_with (first | ((with_reducible refine gate_callee (f := 9) rfl ?_); refine goesL_ (some 52) rfl rfl Try.func9 (by kernel_rfl) rfl #[.slice Ao20 x6_1.length co20, .int .i64 (wrap64 (1 + (wrap64 (Int.tmod (IntKind.u64.wrap (a0)) 4)))), .bool true] rfl (by (try simp only [List.map_toArray, List.map_cons, List.map_nil]); first | done | rfl | (simp only [List.length_drop, List.length_take]; rfl)) ?_; (with_reducible refine (near_Heard.calls kj9 _ _ x6_1 (wrap64 (1 + (wrap64 (Int.tmod (IntKind.u64.wrap (a0)) 4)))) true t364 t365 t366 _ ?side1 ?side2 A16.out).mono ?_); (case side1 => repeat (first | exact (Kd.R_reads' HO_6.out).2.2 | (with_reducible refine Kd.C_alloc ?_ _) | (with_reducible refine Kd.C_drewN ?_ _) | (with_reducible refine Kd.C_drew ?_))); (case side2 => exact (Kd.R_reads' HO_6.out).2.1); rintro e w21 ⟨v367, rfl, ho0, hb⟩; refine ⟨_, rfl, ?_⟩; have n0_ := Aside0.mk (Kd.R_elder' (by (with_reducible repeat (first | apply Kd.R_alloc | apply Kd.R_drewN | apply Kd.R_drew)); exact HO_6.out) (Kd.R_base ho0) hb); have n1_ := Aside0.mk (Kd.R_lower (Kd.R_new' ho0 (Kd.R_lt (by (with_reducible repeat (first | apply Kd.R_alloc | apply Kd.R_drewN | apply Kd.R_drew)); exact HO_6.out))) (below_size (by repeat (first | (with_reducible first | exact HB.out | apply below_alloc | apply pw_below_drewN | apply below_drew1) | exact HB.out)))); have n2_ := Aside0.mk (below_step (by repeat (first | (with_reducible first | exact HB.out | apply below_alloc | apply pw_below_drewN | apply below_drew1) | exact HB.out)) hb); clear HO_6; clear HB; have HO_6 := n0_; have HO368 := n1_; have HB := n2_; clear n0_ n1_ n2_; (try clear hb); (try clear hb2); (try clear hk); (try clear hi); (try clear ho0)) | ((with_reducible refine gate_callee (f := 15) rfl ?_); refine goesL_ (some 57) rfl rfl Try.func15 (by kernel_rfl) rfl #[.int .i64 t366] rfl (by (try simp only [List.map_toArray, List.map_cons, List.map_nil]); first | done | rfl | (simp only [List.length_drop, List.length_take]; rfl)) ?_; (with_reducible refine (watchwordlaw0_Num.calls t366 t369 _ A17.out).mono ?_); rintro e w' ⟨rfl, ⟨nd, rfl⟩⟩; refine ⟨_, rfl, ?_⟩))
             go_roundg kj9
             case measure => have := HK1.out; have := HJ9.out; omega
             case rel => exact ⟨(t364), (16), (wrap64 (x10_1 + 1)), (by first | rfl | (simp; done) | (simp [*]; done)), (by first | rfl | (simp; done) | (simp [*]; done)), H', ⟨by have := HK1.out; have := HJ9.out; omega⟩, ⟨by (with_reducible repeat (first | apply Kd.R_alloc | apply Kd.R_drewN | apply Kd.R_drew)); exact Kd.R_mono HO368.out (fun _ hk => trivial)⟩, ⟨by repeat (first | (with_reducible first | exact HB.out | apply below_alloc | apply pw_below_drewN | apply below_drew1) | exact HB.out)⟩⟩
           ·rw [if_neg c18] at H
            have c18b0 : (t369 == 0) = false := beq_eq_false_iff_ne.mpr c18
            have c18b1 : (t369 != 0) = true := bne_iff_ne.mpr c18
            exact absurd (Option.some.inj H) (by rw [HT.out]; decide)
          ·rw [if_neg c15] at H
           have c15b0 : ((Go.bits .and .i64 (rd l1 x10_1) 15) == 15) = false := beq_eq_false_iff_ne.mpr c15
           have c15b1 : ((Go.bits .and .i64 (rd l1 x10_1) 15) != 15) = true := bne_iff_ne.mpr c15
           replace H := Option.bind_eq_some_iff.mp H
           obtain ⟨⟨t370, t371, t372⟩, A220, H⟩ := H
           replace H : ((watchwordlaw0_Num.f t372).bind fun t377 => (if t377 = 0 then (watchwordlaw19_NearDies.j2 kj9 l1 (wrap64 (1 + (wrap64 (Int.tmod (IntKind.u64.wrap (a0)) 4)))) x9_1 x10_1 t370 (((t371.length : Int) == 1) != (x9_1 == 1))) else (watchwordlaw19_NearDies.j2 kj9 l1 (wrap64 (1 + (wrap64 (Int.tmod (IntKind.u64.wrap (a0)) 4)))) x9_1 x10_1 t370 true))) = some r := H
           have A22 := Aside0.mk A220
           clear A220
           have HC23 := Aside0.mk H
           clear H
           have p363 : 0 ≤ (x10_1 : Int) := of_decide_eq_true (by first | (with_reducible assumption) | assumption)
           have q363 : x10_1 < (l1.length : Int) := of_decide_eq_true (by first | (with_reducible assumption) | assumption)
           obtain ⟨ad363, e363, hx363_0⟩ := Kd.at_int HR1.out x10_1 p363 q363
           cases e363
           replace hx363_0 := (HB.out.cell (World.block_lt_of_cell? w _ hx363_0)).trans hx363_0
           replace p363 := eq_true p363
           replace q363 := eq_true q363
           obtain ⟨Ao24, co24, eo24⟩ := Kd.R_slice HO_6.out
           subst eo24
           go_upto_region 18 with (first | ((with_reducible refine gate_callee (f := 11) rfl ?_); refine goesL_ (some 68) rfl rfl Try.func11 (by kernel_rfl) rfl #[.slice Ao24 x6_1.length co24] rfl (by (try simp only [List.map_toArray, List.map_cons, List.map_nil]); first | done | rfl | (simp only [List.length_drop, List.length_take]; rfl)) ?_; (with_reducible refine (near_Tick.calls kj9 _ _ x6_1 t370 t371 t372 _ ?side1 ?side2 A22.out).mono ?_); (case side1 => repeat (first | exact (Kd.R_reads' HO_6.out).2.2 | (with_reducible refine Kd.C_alloc ?_ _) | (with_reducible refine Kd.C_drewN ?_ _) | (with_reducible refine Kd.C_drew ?_))); (case side2 => exact (Kd.R_reads' HO_6.out).2.1); rintro e w25 ⟨v373, v375, rfl, ho0, ho1, hb⟩; refine ⟨_, rfl, ?_⟩; have n0_ := Aside0.mk (Kd.R_elder' (by (with_reducible repeat (first | apply Kd.R_alloc | apply Kd.R_drewN | apply Kd.R_drew)); exact HO_6.out) (Kd.R_base ho0) hb); have n1_ := Aside0.mk (Kd.R_lower (Kd.R_new' ho0 (Kd.R_lt (by (with_reducible repeat (first | apply Kd.R_alloc | apply Kd.R_drewN | apply Kd.R_drew)); exact HO_6.out))) (below_size (by repeat (first | (with_reducible first | exact HB.out | apply below_alloc | apply pw_below_drewN | apply below_drew1) | exact HB.out)))); have n2_ := Aside0.mk (Kd.R_lower ho1 (below_size (by repeat (first | (with_reducible first | exact HB.out | apply below_alloc | apply pw_below_drewN | apply below_drew1) | exact HB.out)))); have n3_ := Aside0.mk (below_step (by repeat (first | (with_reducible first | exact HB.out | apply below_alloc | apply pw_below_drewN | apply below_drew1) | exact HB.out)) hb); clear HO_6; clear HB; have HO_6 := n0_; have HO374 := n1_; have HO376 := n2_; have HB := n3_; clear n0_ n1_ n2_ n3_; (try clear hb); (try clear hb2); (try clear hk); (try clear hi); (try clear ho0); (try clear ho1)))
           (try simp only [Act.put, List.setIfInBounds_toArray, List.set_cons_zero, List.set_cons_succ])
           go_cut [82] (fun v82 wc => ∃ (kq : Nat) (x82_22 : Bool), v82 = .bool x82_22 ∧ Aside0 (watchwordlaw19_NearDies.j2 kq l1 (wrap64 (1 + (wrap64 (Int.tmod (IntKind.u64.wrap (a0)) 4)))) x9_1 x10_1 t370 x82_22 = some r) ∧ Aside0 (kq ≤ kj9) ∧ Aside0 (Kd.R k46 46 wc w.heap.size (fun _ => True) v373 t370) ∧ Aside0 (Below w.heap.size w wc))
           case first =>
            have H := HC23.out
            clear HC23
            replace H := Option.bind_eq_some_iff.mp H
            obtain ⟨t377, A260, H⟩ := H
            replace H : (if t377 = 0 then (watchwordlaw19_NearDies.j2 kj9 l1 (wrap64 (1 + (wrap64 (Int.tmod (IntKind.u64.wrap (a0)) 4)))) x9_1 x10_1 t370 (((t371.length : Int) == 1) != (x9_1 == 1))) else (watchwordlaw19_NearDies.j2 kj9 l1 (wrap64 (1 + (wrap64 (Int.tmod (IntKind.u64.wrap (a0)) 4)))) x9_1 x10_1 t370 true)) = some r := H
            have A26 := Aside0.mk A260
            clear A260
            by_cases c27 : t377 = 0
            ·rw [if_pos c27] at H
             have c27b0 : (t377 == 0) = true := beq_iff_eq.mpr c27
             have c27b1 : (t377 != 0) = false := bne_eq_false_iff_eq.mpr c27
             clear c27
             (first | rw [c27b0] | (simp only [i64_w, i32_w]; rw [c27b0]) | skip)
             have H' := Aside0.mk H
             clear H
             go_wp2_with (first | ((with_reducible refine gate_callee (f := 15) rfl ?_); refine goesL_ (some 73) rfl rfl Try.func15 (by kernel_rfl) rfl #[.int .i64 t372] rfl (by (try simp only [List.map_toArray, List.map_cons, List.map_nil]); first | done | rfl | (simp only [List.length_drop, List.length_take]; rfl)) ?_; (with_reducible refine (watchwordlaw0_Num.calls t372 t377 _ A26.out).mono ?_); rintro e w' ⟨rfl, ⟨nd, rfl⟩⟩; refine ⟨_, rfl, ?_⟩; obtain ⟨Ao28, co28, eo28⟩ := Kd.R_slice HO376.out; subst eo28))
             go_meet
             case rel => exact ⟨_, ((((t371.length : Int) == 1) != (x9_1 == 1))), (by first | rfl | (simp; done) | (simp [*]; done)), H', ⟨by have := HK1.out; have := HJ9.out; first | omega | exact Nat.le_refl _⟩, ⟨by (with_reducible repeat (first | apply Kd.R_alloc | apply Kd.R_drewN | apply Kd.R_drew)); exact Kd.R_mono HO374.out (fun _ hk => trivial)⟩, ⟨by repeat (first | (with_reducible first | exact HB.out | apply below_alloc | apply pw_below_drewN | apply below_drew1) | exact HB.out)⟩⟩
            ·rw [if_neg c27] at H
             have c27b0 : (t377 == 0) = false := beq_eq_false_iff_ne.mpr c27
             have c27b1 : (t377 != 0) = true := bne_iff_ne.mpr c27
             (first | rw [c27b0] | (simp only [i64_w, i32_w]; rw [c27b0]) | skip)
             exact absurd H (fun h_ => (by
              have hd_ : ∀ k_, watchwordlaw19_NearDies.j2 k_ l1 (wrap64 (1 + (wrap64 (Int.tmod (IntKind.u64.wrap (a0)) 4)))) x9_1 x10_1 t370 true = some r → False := by
               intro k_ h_
               cases k_ with
               | zero => exact absurd h_ (by simp [watchwordlaw19_NearDies.j2])
               | succ k_ =>
                simp only [watchwordlaw19_NearDies.j2, if_true] at h_
                exact absurd (Option.some.inj h_) (by rw [HT.out]; decide)
              exact hd_ _ h_))
           case rest =>
            clear HC23
            try clear c1
            try clear c2
            try clear p2
            try clear p3
            try clear q3
            try clear hx3
            try clear c4
            try clear p6
            try clear c7
            try clear c7b0
            try clear c7b1
            try clear c9
            try clear c11
            try clear c11b0
            try clear c12
            try clear c13
            try clear c13b0
            try clear c14
            try clear c14b0
            try clear c15
            try clear c15b0
            try clear c15b1
            try clear c18
            try clear c18b0
            try clear c18b1
            try clear c19
            try clear c19b0
            try clear c19b1
            try clear c19b2
            try clear c23
            try clear c27
            try clear c27b0
            try clear c27b1
            try clear hx363_0
            try clear p2
            try clear p363
            try clear p6
            try clear q363
            obtain ⟨kq, x82_22, rfl, HA, HJ22, HO_14, HB⟩ := hcut
            cases kq with
            | zero => exact absurd HA.out (by simp [watchwordlaw19_NearDies.j2])
            | succ kj22 =>
             have H := HA.out
             clear HA
             simp only [watchwordlaw19_NearDies.j2] at H
             by_cases c29 : x82_22 = true
             ·subst c29
              have H1 : (some false) = some r := by rw [if_pos rfl] at H; exact H
              clear H
              have H := H1
              clear H1
              exact absurd (Option.some.inj H) (by rw [HT.out]; decide)
             ·replace c29 := Bool.eq_false_iff.mpr c29
              subst c29
              have H1 : ((near_Full.f kj22 t370).bind fun t378 => (if (((t378.length : Int) == 1) != (decide ((mx 0 (wrap64 (x9_1 - 1))) > 0))) = true then (some false) else (watchwordlaw19_NearDies.l0 kj22 l1 (wrap64 (1 + (wrap64 (Int.tmod (IntKind.u64.wrap (a0)) 4)))) t370 (mx 0 (wrap64 (x9_1 - 1))) (wrap64 (x10_1 + 1))))) = some r := by rw [if_neg (show ¬ (false = true) by decide)] at H; exact H
              clear H
              have H := H1
              clear H1
              obtain ⟨ji30, hji30⟩ : ∃ j_ : Int, (mx 0 (wrap64 (x9_1 - 1))) = j_ := ⟨_, rfl⟩
              replace H : ((near_Full.f kj22 t370).bind fun t378 => (if (((t378.length : Int) == 1) != (decide ((ji30) > 0))) = true then (some false) else (watchwordlaw19_NearDies.l0 kj22 l1 (wrap64 (1 + (wrap64 (Int.tmod (IntKind.u64.wrap (a0)) 4)))) t370 ji30 (wrap64 (x10_1 + 1))))) = some r := by first | (rw [hji30] at H; exact H) | (simp only [hji30] at H ⊢; exact H)
              have hji30_ : (if 0 < (wrap64 (x9_1 - 1)) then (wrap64 (x9_1 - 1)) else 0) = ji30 := hji30
              replace H := Option.bind_eq_some_iff.mp H
              obtain ⟨t378, A310, H⟩ := H
              replace H : (if (((t378.length : Int) == 1) != (decide ((ji30) > 0))) = true then (some false) else (watchwordlaw19_NearDies.l0 kj22 l1 (wrap64 (1 + (wrap64 (Int.tmod (IntKind.u64.wrap (a0)) 4)))) t370 ji30 (wrap64 (x10_1 + 1)))) = some r := H
              have A31 := Aside0.mk A310
              clear A310
              by_cases c32 : (((t378.length : Int) == 1) != (decide ((ji30) > 0))) = true
              ·rw [if_pos c32] at H
               have c32b0 : (((t378.length : Int) == 1) != (decide ((ji30) > 0))) = true := c32
               (try (have c32b1 : decide (((t378.length : Int) == 1) = (decide ((ji30) > 0))) = false := by simpa using c32))
               (try (have c32b2 : (((t378.length : Int) == 1) == (decide ((ji30) > 0))) = false := by simpa using c32))
               (try (have c32b3 : ¬ (((t378.length : Int) == 1) = (decide ((ji30) > 0))) := by simpa using c32))
               clear c32
               exact absurd (Option.some.inj H) (by rw [HT.out]; decide)
              ·rw [if_neg c32] at H
               have c32b0 : (((t378.length : Int) == 1) != (decide ((ji30) > 0))) = false := by simpa using c32
               (try (have c32b1 : decide (((t378.length : Int) == 1) = (decide ((ji30) > 0))) = true := by simpa using c32))
               (try (have c32b2 : (((t378.length : Int) == 1) == (decide ((ji30) > 0))) = true := by simpa using c32))
               clear c32
               have H' := Aside0.mk H
               clear H
               obtain ⟨Ao33, co33, eo33⟩ := Kd.R_slice HO_14.out
               subst eo33
               go_wp2_with (first | ((with_reducible refine gate_callee (f := 13) rfl ?_); refine goesL_ (some 88) rfl rfl Try.func13 (by kernel_rfl) rfl #[.slice Ao33 t370.length co33] rfl (by (try simp only [List.map_toArray, List.map_cons, List.map_nil]); first | done | rfl | (simp only [List.length_drop, List.length_take]; rfl)) ?_; (with_reducible refine (near_Full.calls kj22 _ _ t370 t378 _ ?side1 ?side2 A31.out).mono ?_); (case side1 => repeat (first | exact (Kd.R_reads' HO_14.out).2.2 | (with_reducible refine Kd.C_alloc ?_ _) | (with_reducible refine Kd.C_drewN ?_ _) | (with_reducible refine Kd.C_drew ?_))); (case side2 => exact (Kd.R_reads' HO_14.out).2.1); rintro e w34 ⟨v379, rfl, ho0, hb⟩; refine ⟨_, rfl, ?_⟩; have n0_ := Aside0.mk (Kd.R_below (by (with_reducible repeat (first | apply Kd.R_alloc | apply Kd.R_drewN | apply Kd.R_drew)); exact HO_14.out) hb); have n1_ := Aside0.mk (Kd.R_lower ho0 (below_size (by repeat (first | (with_reducible first | exact HB.out | apply below_alloc | apply pw_below_drewN | apply below_drew1) | exact HB.out)))); have n2_ := Aside0.mk (below_step (by repeat (first | (with_reducible first | exact HB.out | apply below_alloc | apply pw_below_drewN | apply below_drew1) | exact HB.out)) hb); clear HO_14; clear HB; have HO_14 := n0_; have HO380 := n1_; have HB := n2_; clear n0_ n1_ n2_; (try clear hb); (try clear hb2); (try clear hk); (try clear hi); (try clear ho0); obtain ⟨Ao35, co35, eo35⟩ := Kd.R_slice HO380.out; subst eo35))
               go_roundg kj22
               case measure => have := HK1.out; have := HJ9.out; have := HJ22.out; omega
               case rel => exact ⟨(t370), (ji30), (wrap64 (x10_1 + 1)), (by first | rfl | (simp; done) | (simp only [← hji30] <;> (first | rfl | simp)) | (simp [*]; done)), (by first | rfl | (simp; done) | (simp [*]; done)), H', ⟨by have := HK1.out; have := HJ9.out; have := HJ22.out; omega⟩, ⟨by (with_reducible repeat (first | apply Kd.R_alloc | apply Kd.R_drewN | apply Kd.R_drew)); exact HO_14.out⟩, ⟨by repeat (first | (with_reducible first | exact HB.out | apply below_alloc | apply pw_below_drewN | apply below_drew1) | exact HB.out)⟩⟩
         ·rw [if_neg c14] at H
          exact absurd H (by simp)
        ·rw [if_neg c13] at H
         exact absurd H (by simp)
       ·replace c12 := Bool.eq_false_iff.mpr c12
        subst c12
        have H1 : (some true) = some r := by rw [if_neg (show ¬ (false = true) by decide)] at H; exact H
        clear H
        have H := H1
        clear H1
        obtain rfl := Option.some.inj H
        go_wp2
        go_ret
        exact ⟨by first | rfl | (simp [errW_none, errW_some] <;> rfl) | (simp [*, errW_none, errW_some] <;> rfl), by repeat (first | (with_reducible first | exact HB.out | apply below_alloc | apply pw_below_drewN | apply below_drew1) | exact HB.out)⟩
  ·rw [if_neg c7] at H
   have c7b0 : (t362 == 0) = false := beq_eq_false_iff_ne.mpr c7
   have c7b1 : (t362 != 0) = true := bne_iff_ne.mpr c7
   exact absurd (Option.some.inj H) (by rw [HT.out]; decide)
 ·replace c4 := Bool.eq_false_iff.mpr c4
  subst c4
  have H1 : (some false) = some r := by rw [if_neg (show ¬ (false = true) by decide)] at H; exact H
  clear H
  have H := H1
  clear H1
  exact absurd (Option.some.inj H) (by rw [HT.out]; decide)

/-- THE ONE PURE STATEMENT of watchwordlaw19_NearDies: yours. -/
def watchwordlaw19_NearDies.Pure : Prop := ∀ (a0 : Int) (l1 : List Int), (Lit.int .i64 a0).wf = true → l1.length ≤ maxLen → l1.length * 8 ≤ 140737488351232 → (∀ x ∈ l1, (Lit.int .i64 x).wf = true) → ∃ k, watchwordlaw19_NearDies.f k a0 l1 = some true
theorem watchwordlaw19_NearDies.walk (P : watchwordlaw19_NearDies.Pure) (a0 : Int) (a1 : Option Addr) (len1 cap1 : Nat) (z1 : List Int) (w : World) (w0 : (Lit.int .i64 a0).wf = true) (w1 : (a1 = none ∧ len1 = 0 ∧ cap1 = 0 ∧ z1 = []) ∨ ∃ x, a1 = some x ∧ len1 ≤ cap1 ∧ cap1 ≤ maxLen ∧ z1.length = cap1 ∧ (∀ i, i < z1.length → w.cell? (x.add i) = some (.int .i64 (z1.getD i 0))) ∧ ∀ n ∈ z1, (Lit.int .i64 n).wf = true) (y1 : len1 * 8 ≤ 140737488351232) :
  Calls Try.prog 4 #[.int .i64 a0, .slice a1 len1 cap1] w fun e w' => e = .returned (.bool true) ∧ Below w.heap.size w w' := by
 obtain ⟨l1, rfl, hr1, hm1, hw1, hc1⟩ := ReadsInt.ofRowC w1
 obtain ⟨k, h⟩ := P a0 l1 w0 hm1 y1 hw1
 refine (watchwordlaw19_NearDies.calls k a0 _ _ l1 true w (Kd.C_of_reads (d := (0 : Int)) (h1 := fun _ => rfl) hr1) hc1 h rfl).mono ?_
 rintro e w' ⟨rfl, hd⟩
 exact ⟨rfl, hd⟩

end Go.Proofs.Ytnfoldgialdhjaa.Q19
