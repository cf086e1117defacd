/- Written by a program of this session (out of what the print wrote for this seat): the functions' walks, packed. -/
import Derived.Test.YtnfoldgialdhjaaZ19x4
namespace Go.Proofs.Ytnfoldgialdhjaa.Q19
open Go.RowKit Go.Proofs.YtnfoldgialdhjaaW.PrintWords Go.Proofs.YtnfoldgialdhjaaW.PrintLast Go.Proofs.YtnfoldgialdhjaaW.PrintMore
attribute [local go_sem] max2_int min2_int max_two min_two max_three min_three max_four min_four   -- for this text's walks alone
set_option linter.unusedVariables false
set_option linter.unusedSimpArgs false

attribute [local go_sem high] eqA46
/-! ### watchwordlaw0_SpoilNears: function 20 -/
def watchwordlaw0_SpoilNears.l0 : Nat → List (S46) → Int → Option ((List (S46)))
 | 0, _, _ => none
 | k + 1, x0, x2 => if x2 < (x0.length : Int) then (if 0 ≤ x2 then (watchwordlaw0_SpoilNears.l0 k (x0.set (x2 : Int).toNat (⟨Go.bits .xor .i64 ((rd_T46 x0 x2).f0) 90, (rd_T46 x0 x2).f1, (rd_T46 x0 x2).f2⟩ : S46)) (wrap64 (x2 + 1))) else (none)) else (some x0)
def watchwordlaw0_SpoilNears.f (k : Nat) (l0 : List (S46)) : Option ((List (S46))) := watchwordlaw0_SpoilNears.l0 k l0 0
theorem watchwordlaw0_SpoilNears.mono_l : ∀ k, (∀ y0 y1, LeO (watchwordlaw0_SpoilNears.l0 k y0 y1) (watchwordlaw0_SpoilNears.l0 (k + 1) y0 y1))
 | 0 => fun _ _ r h => by simp [watchwordlaw0_SpoilNears.l0] at h
 | k + 1 => by
  have ih0 := watchwordlaw0_SpoilNears.mono_l k
  ·intro y0 y1
   unfold watchwordlaw0_SpoilNears.l0
   repeat' first
   | (with_reducible exact ih0 _ _)
   | (with_reducible exact LeO.refl _)
   | (with_reducible exact LeO.none _)
   | (with_reducible refine LeO.ite ?_ ?_)
   | (with_reducible refine LeO.bind ?_ (fun _ => ?_))
   | exact ih0 _ _
   | exact LeO.none _
   | refine LeO.ite ?_ ?_
   | refine LeO.bind ?_ (fun _ => ?_)
theorem watchwordlaw0_SpoilNears.mono : ∀ a0 k, LeO (watchwordlaw0_SpoilNears.f k a0) (watchwordlaw0_SpoilNears.f (k + 1) a0) := by
 intro a0 k
 have ih0 := watchwordlaw0_SpoilNears.mono_l k
 unfold watchwordlaw0_SpoilNears.f
 repeat' first
   | (with_reducible exact ih0 _ _)
   | (with_reducible exact LeO.refl _)
   | (with_reducible exact LeO.none _)
   | (with_reducible refine LeO.ite ?_ ?_)
   | (with_reducible refine LeO.bind ?_ (fun _ => ?_))
   | exact ih0 _ _
   | exact LeO.none _
   | refine LeO.ite ?_ ?_
   | refine LeO.bind ?_ (fun _ => ?_)
set_option maxHeartbeats 8000000 in
set_option maxRecDepth 100000 in
theorem watchwordlaw0_SpoilNears.calls (k : Nat) (P0_ : Nat → Prop) (u9000_ : Value) (l0 : List (S46)) (r : List (S46)) (w0 w : World) (hB : Below w0.heap.size w0 w) (ho0 : Kd.R k46 46 w w0.heap.size P0_ u9000_ l0) (h : watchwordlaw0_SpoilNears.f k l0 = some r) :
  Calls Try.prog 20 #[u9000_] w fun e w' => e = .returned (.tuple #[]) ∧ Kd.R k46 46 w' w0.heap.size (fun k_ => (P0_ k_ ∨ w.heap.size ≤ k_)) u9000_ r ∧ Below w0.heap.size w0 w' ∧ Kept w w' (fun k_ => P0_ k_) := by
 have HO0 := Aside0.mk (show Kd.R k46 46 w w0.heap.size (fun k_ => (P0_ k_ ∨ w.heap.size ≤ k_)) u9000_ l0 from Kd.R_mono ho0 (fun k_ hk => (.inl hk)))
 have HK := Aside0.mk (Kept.refl w (fun k_ => P0_ k_))
 have HW0 := Aside0.mk hB.size
 have HB := Aside0.mk hB
 clear hB
 have H : (watchwordlaw0_SpoilNears.l0 k l0 0) = some r := h
 clear h
 have H' := Aside0.mk H
 clear H
 go_enter Try.func20, Try.ntmps20
 go_wp2
 go_loopg [2] k (fun kq v2 w' => ∃ (x0_1 : List (S46)) (x2_1 : Int), v2 = .int .i64 x2_1 ∧ Aside0 (watchwordlaw0_SpoilNears.l0 kq x0_1 x2_1 = some r) ∧ Aside0 (kq ≤ k) ∧ Aside0 (Kd.R k46 46 w' w0.heap.size (fun k_ => (P0_ k_ ∨ w.heap.size ≤ k_)) u9000_ x0_1) ∧ Aside0 (Kept w w' (fun k_ => P0_ k_)) ∧ Aside0 (Below w0.heap.size w0 w'))
 case atStart => exact ⟨(l0), (0), (by first | rfl | (simp; done) | (simp [*]; done)), H', ⟨Nat.le_refl _⟩, ⟨by (with_reducible repeat (first | apply Kd.R_alloc | apply Kd.R_drewN | apply Kd.R_drew)); exact HO0.out⟩, ⟨by repeat (first | (with_reducible first | exact HK.out | apply Kept.alloc | apply Kept.drewN | apply Kept.drew) | exact HK.out)⟩, ⟨by repeat (first | (with_reducible first | exact HB.out | apply below_alloc | apply pw_below_drewN | apply below_drew1) | exact HB.out)⟩⟩
 case round =>
  clear H'
  obtain ⟨x0_1, x2_1, rfl, HA, HK1, HO_0, HK, HB⟩ := hrel
  cases gk with
  | zero => exact absurd HA.out (by simp [watchwordlaw0_SpoilNears.l0])
  | succ k1 =>
   have H := HA.out
   clear HA
   simp only [watchwordlaw0_SpoilNears.l0] at H
   by_cases c2 : x2_1 < (x0_1.length : Int)
   ·rw [if_pos c2] at H
    have c2b0 : decide (x2_1 < (x0_1.length : Int)) = true := decide_eq_true c2
    clear c2
    by_cases c3 : 0 ≤ x2_1
    ·rw [if_pos c3] at H
     have c3b0 : decide (0 ≤ x2_1) = true := decide_eq_true c3
     clear c3
     obtain ⟨y244, hy244⟩ : ∃ y_ : List (S46), y_ = (x0_1.set (x2_1 : Int).toNat (⟨Go.bits .xor .i64 ((rd_T46 x0_1 x2_1).f0) 90, (rd_T46 x0_1 x2_1).f1, (rd_T46 x0_1 x2_1).f2⟩ : S46)) := ⟨_, rfl⟩
     replace H : (watchwordlaw0_SpoilNears.l0 k1 y244 (wrap64 (x2_1 + 1))) = some r := by first | (rw [hy244]; with_reducible exact H) | (have H2_ := (Option.bind_some _ _).symm.trans H; rw [hy244]; with_reducible exact H2_) | (have H2_ := (Option.bind_some _ _).symm.trans H; with_reducible exact H2_) | with_reducible exact H | (rw [hy244]; exact H) | exact H
     have Ny244 := Aside0.mk hy244
     clear hy244
     have H' := Aside0.mk H
     clear H
     obtain ⟨Ao5, co5, eo5⟩ := Kd.R_slice HO_0.out
     subst eo5
     have p243 : 0 ≤ (x2_1 : Int) := of_decide_eq_true (by first | (with_reducible assumption) | assumption)
     have q243 : x2_1 < (x0_1.length : Int) := of_decide_eq_true (by first | (with_reducible assumption) | assumption)
     obtain ⟨ad243, e243, hx243_0, hx243_1, hx243_2⟩ := at_T46 (Kd.R_reads' HO_0.out).2.2 x2_1 p243 q243
     cases e243
     replace p243 := eq_true p243
     replace q243 := eq_true q243
     have p4 : 0 ≤ (x2_1 : Int) := of_decide_eq_true (by first | (with_reducible assumption) | assumption)
     have q4 : (x2_1 : Int) < ((x0_1.length : Int) : Int) := of_decide_eq_true (by first | (with_reducible assumption) | assumption)
     obtain ⟨go4, co4, eo4, gb4, gl4, cl4, HG4⟩ := Kd.R_form HO_0.out (by omega)
     (first | cases eo4 | (injection eo4 with ea_ en_ ec_; (first | subst ea_ | (injection ea_ with ea_; subst ea_)); subst ec_; clear en_))
     have GB4 := Aside0.mk gb4
     have GG4 := Aside0.mk HG4
     clear gb4 gl4 HG4
     have HMgo4 := Aside0.mk (show (P0_ go4 ∨ w.heap.size ≤ go4) from (HO_0.out.1 _ rfl))
     (first | simp only [add_plain] at hx243_0 | skip)
     (first | simp only [add_plain] at hx243_1 | skip)
     (first | simp only [add_plain] at hx243_2 | skip)
     obtain ⟨ce4, hcl4, hM4, hcc4, hfr4⟩ := Kd.R_elem HO_0.out z46 (x2_1 : Int) p4 q4
     obtain rfl := k46_openM hM4
     have hx4_0 : wr.cell? ⟨go4, (x2_1 : Int).toNat * 3, none⟩ = some (.int .i64 ((rd_T46 x0_1 x2_1).f0)) := hcc4 0 _ rfl
     have hx4_1 : wr.cell? ⟨go4, (x2_1 : Int).toNat * 3 + 1, none⟩ = some (.int .i64 ((rd_T46 x0_1 x2_1).f1)) := hcc4 1 _ rfl
     have hx4_2 : wr.cell? ⟨go4, (x2_1 : Int).toNat * 3 + 2, none⟩ = some (.int .i64 ((rd_T46 x0_1 x2_1).f2)) := hcc4 2 _ rfl
     have hf4_0 : wr.frozen? ⟨go4, (x2_1 : Int).toNat * 3, none⟩ = false := hfr4 0
     have hf4_1 : wr.frozen? ⟨go4, (x2_1 : Int).toNat * 3 + 1, none⟩ = false := hfr4 1
     have hf4_2 : wr.frozen? ⟨go4, (x2_1 : Int).toNat * 3 + 2, none⟩ = false := hfr4 2
     clear hcl4 hcc4 hfr4 hM4
     replace p4 := eq_true p4
     replace q4 := eq_true q4
     have HX6 := Aside0.mk (show Kd.R k46 46 wr w0.heap.size (fun k_ => (P0_ k_ ∨ w.heap.size ≤ k_)) (.slice (some ⟨go4, 0, none⟩) x0_1.length co5) x0_1 from (by (with_reducible repeat (first | apply Kd.R_alloc | apply Kd.R_drewN | apply Kd.R_drew)); exact HO_0.out))
     obtain ⟨ce6, hcl6, hM6, hcc6, hfr6⟩ := Kd.R_elem HX6.out z46 (x2_1 : Int) (of_decide_eq_true (by first | (with_reducible assumption) | assumption)) (by have h_ : (x2_1 : Int) < ((x0_1.length : Int) : Int) := of_decide_eq_true (by first | (with_reducible assumption) | assumption); first | exact h_ | (have e_ := (Kd.R_reads' HO_0.out).1; omega) | simpa using h_)
     obtain rfl := k46_openM hM6
     have HP6 := Kd.R_seg HX6.out (x2_1 : Int) (of_decide_eq_true (by first | (with_reducible assumption) | assumption)) (by have h_ : (x2_1 : Int) < ((x0_1.length : Int) : Int) := of_decide_eq_true (by first | (with_reducible assumption) | assumption); first | exact h_ | (have e_ := (Kd.R_reads' HO_0.out).1; omega) | simpa using h_) (seg := [.int .i64 (Go.bits .xor .i64 ((rd_T46 x0_1 x2_1).f0) 90)]) (j := 0) hcl6 hcc6 (show 1 ≤ 3 from by decide) (x' := (⟨Go.bits .xor .i64 ((rd_T46 x0_1 x2_1).f0) 90, (rd_T46 x0_1 x2_1).f1, (rd_T46 x0_1 x2_1).f2⟩ : S46)) (k46_mkM _ _ _ (⟨Go.bits .xor .i64 ((rd_T46 x0_1 x2_1).f0) 90, (rd_T46 x0_1 x2_1).f1, (rd_T46 x0_1 x2_1).f2⟩ : S46) ) (fun _ hk => hk)
     have hx6_0 := hcc6 0 _ rfl
     (try simp only [show (k46).sz = 3 from rfl, Nat.mul_one, Nat.add_zero] at hx6_0)
     have hf6_0 := hfr6 0
     (try simp only [show (k46).sz = 3 from rfl, Nat.mul_one, Nat.add_zero] at hf6_0)
     clear hcl6 hcc6 hfr6 hM6
     go_wp2_with (first | ((with_reducible refine gate_store (t := 3) (p := 18) rfl ?_); refine store_event (t := 3) (p := 18) (v := ?vo_w7) (w1 := (wr.setCell ⟨go4, (x2_1 : Int).toNat * 3, none⟩ (.int .i64 (Go.bits .xor .i64 ((rd_T46 x0_1 x2_1).f0) 90)))) ?hg ?ho ?hn ?hr ?_; (case ho => rfl); (case hg => rfl); (case hn => rfl); (case hr => first | (go_simp; done) | (go_simp; rfl)); intro w7 hw; have hg : wr.grownBy w7 (some go4) := (by rw [hw]; exact HP6.2); have hp_ : Kd.R k46 46 w7 w0.heap.size (fun k_ => (P0_ k_ ∨ w.heap.size ≤ k_)) (.slice (some ⟨go4, 0, none⟩) x0_1.length co5) y244 := (by rw [hw, Ny244.out]; exact HP6.1); clear HP6; have n0_ := Aside0.mk (hp_); have n1_ := Aside0.mk ((by rw [hw]; exact below_set (HB.out) GB4.out : Below w0.heap.size w0 w7)); have n2_ := Aside0.mk (Kept.of_grown (S := (fun k_ => P0_ k_)) hg (by repeat (first | (with_reducible first | exact HK.out | apply Kept.alloc | apply Kept.drewN | apply Kept.drew) | exact HK.out)) (fun k_ e_ => (HO_0.out.1 k_ e_))); clear HO_0; clear HB; clear HK; have HO_0 := n0_; have HB := n1_; have HK := n2_; clear n0_ n1_ n2_; clear hg hw hp_))
     go_roundg k1
     case measure => have := HK1.out; omega
     case rel => exact ⟨(y244), (wrap64 (x2_1 + 1)), (by first | rfl | (simp; done) | (simp [*]; done)), H', ⟨by have := HK1.out; omega⟩, ⟨by (with_reducible repeat (first | apply Kd.R_alloc | apply Kd.R_drewN | apply Kd.R_drew)); exact HO_0.out⟩, ⟨by repeat (first | (with_reducible first | exact HK.out | apply Kept.alloc | apply Kept.drewN | apply Kept.drew) | exact HK.out)⟩, ⟨by repeat (first | (with_reducible first | exact HB.out | apply below_alloc | apply pw_below_drewN | apply below_drew1) | exact HB.out)⟩⟩
    ·rw [if_neg c3] at H
     exact absurd H (by simp)
   ·rw [if_neg c2] at H
    have c2b0 : decide (x2_1 < (x0_1.length : Int)) = false := decide_eq_false c2
    clear c2
    obtain rfl := Option.some.inj H
    obtain ⟨Ao8, co8, eo8⟩ := Kd.R_slice HO_0.out
    subst eo8
    go_wp2
    first | go_end0 | ((try simp only [Exit.inBlock, Exit.then]); refine bodyPost_ret (results_none rfl _ _ _) rfl ?_)
    exact ⟨by first | rfl | (simp [errW_none, errW_some] <;> rfl) | (simp [*, errW_none, errW_some] <;> rfl), by (with_reducible repeat (first | apply Kd.R_alloc | apply Kd.R_drewN | apply Kd.R_drew)); exact HO_0.out, by repeat (first | (with_reducible first | exact HB.out | apply below_alloc | apply pw_below_drewN | apply below_drew1) | exact HB.out), by repeat (first | (with_reducible first | exact HK.out | apply Kept.alloc | apply Kept.drewN | apply Kept.drew) | exact HK.out)⟩

end Go.Proofs.Ytnfoldgialdhjaa.Q19
namespace Go.Proofs.Ytnfoldgialdhjaa.Q19
open Go.RowKit Go.Proofs.YtnfoldgialdhjaaW.PrintWords Go.Proofs.YtnfoldgialdhjaaW.PrintLast Go.Proofs.YtnfoldgialdhjaaW.PrintMore
attribute [local go_sem] max2_int min2_int max_two min_two max_three min_three max_four min_four   -- for this text's walks alone
set_option linter.unusedVariables false
set_option linter.unusedSimpArgs false

attribute [local go_sem high] eqA46
/-! ### watchwordlaw0_SpoilInts: function 21 -/
def watchwordlaw0_SpoilInts.l0 : Nat → List Int → Int → Option (List Int)
 | 0, _, _ => none
 | k + 1, x0, x2 => if x2 < (x0.length : Int) then (if 0 ≤ x2 then (watchwordlaw0_SpoilInts.l0 k (x0.set (x2 : Int).toNat (wrap64 ((-9) - (rd x0 x2)))) (wrap64 (x2 + 1))) else (none)) else (some x0)
def watchwordlaw0_SpoilInts.f (k : Nat) (l0 : List Int) : Option (List Int) := watchwordlaw0_SpoilInts.l0 k l0 0
theorem watchwordlaw0_SpoilInts.mono_l : ∀ k, (∀ y0 y1, LeO (watchwordlaw0_SpoilInts.l0 k y0 y1) (watchwordlaw0_SpoilInts.l0 (k + 1) y0 y1))
 | 0 => fun _ _ r h => by simp [watchwordlaw0_SpoilInts.l0] at h
 | k + 1 => by
  have ih0 := watchwordlaw0_SpoilInts.mono_l k
  ·intro y0 y1
   unfold watchwordlaw0_SpoilInts.l0
   repeat' first
   | (with_reducible exact ih0 _ _)
   | (with_reducible exact LeO.refl _)
   | (with_reducible exact LeO.none _)
   | (with_reducible refine LeO.ite ?_ ?_)
   | (with_reducible refine LeO.bind ?_ (fun _ => ?_))
   | exact ih0 _ _
   | exact LeO.none _
   | refine LeO.ite ?_ ?_
   | refine LeO.bind ?_ (fun _ => ?_)
theorem watchwordlaw0_SpoilInts.mono : ∀ a0 k, LeO (watchwordlaw0_SpoilInts.f k a0) (watchwordlaw0_SpoilInts.f (k + 1) a0) := by
 intro a0 k
 have ih0 := watchwordlaw0_SpoilInts.mono_l k
 unfold watchwordlaw0_SpoilInts.f
 repeat' first
   | (with_reducible exact ih0 _ _)
   | (with_reducible exact LeO.refl _)
   | (with_reducible exact LeO.none _)
   | (with_reducible refine LeO.ite ?_ ?_)
   | (with_reducible refine LeO.bind ?_ (fun _ => ?_))
   | exact ih0 _ _
   | exact LeO.none _
   | refine LeO.ite ?_ ?_
   | refine LeO.bind ?_ (fun _ => ?_)
set_option maxHeartbeats 8000000 in
set_option maxRecDepth 100000 in
theorem watchwordlaw0_SpoilInts.calls (k : Nat) (P0_ : Nat → Prop) (u9000_ : Value) (l0 : List Int) (r : List Int) (w0 w : World) (hB : Below w0.heap.size w0 w) (ho0 : Kd.R (Kd.int .i64) 3 w w0.heap.size P0_ u9000_ l0) (h : watchwordlaw0_SpoilInts.f k l0 = some r) :
  Calls Try.prog 21 #[u9000_] w fun e w' => e = .returned (.tuple #[]) ∧ Kd.R (Kd.int .i64) 3 w' w0.heap.size (fun k_ => (P0_ k_ ∨ w.heap.size ≤ k_)) u9000_ r ∧ Below w0.heap.size w0 w' ∧ Kept w w' (fun k_ => P0_ k_) := by
 have HO0 := Aside0.mk (show Kd.R (Kd.int .i64) 3 w w0.heap.size (fun k_ => (P0_ k_ ∨ w.heap.size ≤ k_)) u9000_ l0 from Kd.R_mono ho0 (fun k_ hk => (.inl hk)))
 have HK := Aside0.mk (Kept.refl w (fun k_ => P0_ k_))
 have HW0 := Aside0.mk hB.size
 have HB := Aside0.mk hB
 clear hB
 have H : (watchwordlaw0_SpoilInts.l0 k l0 0) = some r := h
 clear h
 have H' := Aside0.mk H
 clear H
 go_enter Try.func21, Try.ntmps21
 go_wp2
 go_loopg [2] k (fun kq v2 w' => ∃ (x0_1 : List Int) (x2_1 : Int), v2 = .int .i64 x2_1 ∧ Aside0 (watchwordlaw0_SpoilInts.l0 kq x0_1 x2_1 = some r) ∧ Aside0 (kq ≤ k) ∧ Aside0 (Kd.R (Kd.int .i64) 3 w' w0.heap.size (fun k_ => (P0_ k_ ∨ w.heap.size ≤ k_)) u9000_ x0_1) ∧ Aside0 (Kept w w' (fun k_ => P0_ k_)) ∧ Aside0 (Below w0.heap.size w0 w'))
 case atStart => exact ⟨(l0), (0), (by first | rfl | (simp; done) | (simp [*]; done)), H', ⟨Nat.le_refl _⟩, ⟨by (with_reducible repeat (first | apply Kd.R_alloc | apply Kd.R_drewN | apply Kd.R_drew)); exact HO0.out⟩, ⟨by repeat (first | (with_reducible first | exact HK.out | apply Kept.alloc | apply Kept.drewN | apply Kept.drew) | exact HK.out)⟩, ⟨by repeat (first | (with_reducible first | exact HB.out | apply below_alloc | apply pw_below_drewN | apply below_drew1) | exact HB.out)⟩⟩
 case round =>
  clear H'
  obtain ⟨x0_1, x2_1, rfl, HA, HK1, HO_0, HK, HB⟩ := hrel
  cases gk with
  | zero => exact absurd HA.out (by simp [watchwordlaw0_SpoilInts.l0])
  | succ k1 =>
   have H := HA.out
   clear HA
   simp only [watchwordlaw0_SpoilInts.l0] at H
   by_cases c2 : x2_1 < (x0_1.length : Int)
   ·rw [if_pos c2] at H
    have c2b0 : decide (x2_1 < (x0_1.length : Int)) = true := decide_eq_true c2
    clear c2
    by_cases c3 : 0 ≤ x2_1
    ·rw [if_pos c3] at H
     have c3b0 : decide (0 ≤ x2_1) = true := decide_eq_true c3
     clear c3
     obtain ⟨y246, hy246⟩ : ∃ y_ : List Int, y_ = (x0_1.set (x2_1 : Int).toNat (wrap64 ((-9) - (rd x0_1 x2_1)))) := ⟨_, rfl⟩
     replace H : (watchwordlaw0_SpoilInts.l0 k1 y246 (wrap64 (x2_1 + 1))) = some r := by first | (rw [hy246]; with_reducible exact H) | (have H2_ := (Option.bind_some _ _).symm.trans H; rw [hy246]; with_reducible exact H2_) | (have H2_ := (Option.bind_some _ _).symm.trans H; with_reducible exact H2_) | with_reducible exact H | (rw [hy246]; exact H) | exact H
     have Ny246 := Aside0.mk hy246
     clear hy246
     have H' := Aside0.mk H
     clear H
     obtain ⟨Ao5, co5, eo5⟩ := Kd.R_slice HO_0.out
     subst eo5
     have p245 : 0 ≤ (x2_1 : Int) := of_decide_eq_true (by first | (with_reducible assumption) | assumption)
     have q245 : x2_1 < (x0_1.length : Int) := of_decide_eq_true (by first | (with_reducible assumption) | assumption)
     obtain ⟨ad245, e245, hx245_0⟩ := Kd.at_int (Kd.R_reads' HO_0.out).2.2 x2_1 p245 q245
     cases e245
     replace p245 := eq_true p245
     replace q245 := eq_true q245
     have p4 : 0 ≤ (x2_1 : Int) := of_decide_eq_true (by first | (with_reducible assumption) | assumption)
     have q4 : (x2_1 : Int) < ((x0_1.length : Int) : Int) := of_decide_eq_true (by first | (with_reducible assumption) | assumption)
     obtain ⟨go4, co4, eo4, gb4, gl4, cl4, HG4⟩ := Kd.R_form HO_0.out (by omega)
     (first | cases eo4 | (injection eo4 with ea_ en_ ec_; (first | subst ea_ | (injection ea_ with ea_; subst ea_)); subst ec_; clear en_))
     have GB4 := Aside0.mk gb4
     have GG4 := Aside0.mk HG4
     clear gb4 gl4 HG4
     have HMgo4 := Aside0.mk (show (P0_ go4 ∨ w.heap.size ≤ go4) from (HO_0.out.1 _ rfl))
     (first | simp only [add_plain] at hx245_0 | skip)
     obtain ⟨hx4_0, hf4_0⟩ := Kd.R_celln 0 HO_0.out (x2_1 : Int) p4 q4
     replace p4 := eq_true p4
     replace q4 := eq_true q4
     have HP6 := Kd.R_putg HO_0.out (x2_1 : Int) (wrap64 ((-9) - (rd x0_1 x2_1)))
     go_wp2_with (first | ((with_reducible refine gate_store (t := 3) (p := 16) rfl ?_); refine store_event (t := 3) (p := 16) (v := ?vo_w7) (w1 := (wr.setCell ⟨go4, (x2_1 : Int).toNat, none⟩ (.int .i64 (wrap64 ((-9) - (rd x0_1 x2_1)))))) ?hg ?ho ?hn ?hr ?_; (case ho => rfl); (case hg => rfl); (case hn => rfl); (case hr => first | (go_simp; done) | (go_simp; rfl)); intro w7 hw; have hg : wr.grownBy w7 (some go4) := (by rw [hw]; exact HP6.2); have hp_ : Kd.R (Kd.int .i64) 3 w7 w0.heap.size (fun k_ => (P0_ k_ ∨ w.heap.size ≤ k_)) (.slice (some ⟨go4, 0, none⟩) x0_1.length co5) y246 := (by rw [hw, Ny246.out]; exact HP6.1); clear HP6; have n0_ := Aside0.mk (hp_); have n1_ := Aside0.mk ((by rw [hw]; exact below_set (HB.out) GB4.out : Below w0.heap.size w0 w7)); have n2_ := Aside0.mk (Kept.of_grown (S := (fun k_ => P0_ k_)) hg (by repeat (first | (with_reducible first | exact HK.out | apply Kept.alloc | apply Kept.drewN | apply Kept.drew) | exact HK.out)) (fun k_ e_ => (HO_0.out.1 k_ e_))); clear HO_0; clear HB; clear HK; have HO_0 := n0_; have HB := n1_; have HK := n2_; clear n0_ n1_ n2_; clear hg hw hp_))
     go_roundg k1
     case measure => have := HK1.out; omega
     case rel => exact ⟨(y246), (wrap64 (x2_1 + 1)), (by first | rfl | (simp; done) | (simp [*]; done)), H', ⟨by have := HK1.out; omega⟩, ⟨by (with_reducible repeat (first | apply Kd.R_alloc | apply Kd.R_drewN | apply Kd.R_drew)); exact HO_0.out⟩, ⟨by repeat (first | (with_reducible first | exact HK.out | apply Kept.alloc | apply Kept.drewN | apply Kept.drew) | exact HK.out)⟩, ⟨by repeat (first | (with_reducible first | exact HB.out | apply below_alloc | apply pw_below_drewN | apply below_drew1) | exact HB.out)⟩⟩
    ·rw [if_neg c3] at H
     exact absurd H (by simp)
   ·rw [if_neg c2] at H
    have c2b0 : decide (x2_1 < (x0_1.length : Int)) = false := decide_eq_false c2
    clear c2
    obtain rfl := Option.some.inj H
    obtain ⟨Ao8, co8, eo8⟩ := Kd.R_slice HO_0.out
    subst eo8
    go_wp2
    first | go_end0 | ((try simp only [Exit.inBlock, Exit.then]); refine bodyPost_ret (results_none rfl _ _ _) rfl ?_)
    exact ⟨by first | rfl | (simp [errW_none, errW_some] <;> rfl) | (simp [*, errW_none, errW_some] <;> rfl), by (with_reducible repeat (first | apply Kd.R_alloc | apply Kd.R_drewN | apply Kd.R_drew)); exact HO_0.out, by repeat (first | (with_reducible first | exact HB.out | apply below_alloc | apply pw_below_drewN | apply below_drew1) | exact HB.out), by repeat (first | (with_reducible first | exact HK.out | apply Kept.alloc | apply Kept.drewN | apply Kept.drew) | exact HK.out)⟩

end Go.Proofs.Ytnfoldgialdhjaa.Q19
namespace Go.Proofs.Ytnfoldgialdhjaa.Q19
open Go.RowKit Go.Proofs.YtnfoldgialdhjaaW.PrintWords Go.Proofs.YtnfoldgialdhjaaW.PrintLast Go.Proofs.YtnfoldgialdhjaaW.PrintMore
attribute [local go_sem] max2_int min2_int max_two min_two max_three min_three max_four min_four   -- for this text's walks alone
set_option linter.unusedVariables false
set_option linter.unusedSimpArgs false

attribute [local go_sem high] eqA46
/-! ### watchwordlaw0_KeptNears: function 22 -/
def watchwordlaw0_KeptNears.f (k : Nat) (l0 : List (S46)) (l1 : List (S46)) (l2 : List (S46)) : Option (Bool) := (watchwordlaw0_SameNears.f k l0 l1).bind fun t247 => (if t247 = true then (if 0 ≤ (l1.length : Int) then (if (l1.length : Int) < (l2.length : Int) then (if (((rd_T46 l2 (l1.length : Int)).f0) == 77777 && (((rd_T46 l2 (l1.length : Int)).f1) == 0 && (((rd_T46 l2 (l1.length : Int)).f2) == 0))) = true then (if 0 ≤ (wrap64 ((l1.length : Int) + 1)) then (if (wrap64 ((l1.length : Int) + 1)) < (l2.length : Int) then (some (((rd_T46 l2 (wrap64 ((l1.length : Int) + 1))).f0) == 77777 && (((rd_T46 l2 (wrap64 ((l1.length : Int) + 1))).f1) == 0 && (((rd_T46 l2 (wrap64 ((l1.length : Int) + 1))).f2) == 0)))) else (none)) else (none)) else (some false)) else (none)) else (none)) else (some false))
theorem watchwordlaw0_KeptNears.mono : ∀ a0 a1 a2 k, LeO (watchwordlaw0_KeptNears.f k a0 a1 a2) (watchwordlaw0_KeptNears.f (k + 1) a0 a1 a2) := by
 intro a0 a1 a2 k
 unfold watchwordlaw0_KeptNears.f
 repeat' first
   | (with_reducible exact watchwordlaw0_SameNears.mono _ _ _)
   | (with_reducible exact LeO.refl _)
   | (with_reducible exact LeO.none _)
   | (with_reducible refine LeO.ite ?_ ?_)
   | (with_reducible refine LeO.bind ?_ (fun _ => ?_))
   | exact watchwordlaw0_SameNears.mono _ _ _
   | exact LeO.none _
   | refine LeO.ite ?_ ?_
   | refine LeO.bind ?_ (fun _ => ?_)
theorem watchwordlaw0_KeptNears.cut {P : Program} (t e : TypeId) (kh : IntKind) {i : TypeInfo} (ht : P.underlying t = some (.slice e)) (hi : P.info? e = some i) (A : Option Addr) (n c : Nat) (j : Int) (h0 : 0 ≤ j) (hm : j ≤ c) :
    ∀ W : World, (Instr.slice t (.slice A n c) none (some (.int kh j)) none).run P W = .ok (.slice A j.toNat c) W := by
  intro W
  have hel : P.elem t = e := by simp [Program.elem, ht]
  have hu : P.underlying t = some (.slice (P.elem t)) := by rw [hel]; exact ht
  have ha : (A.map fun x => x.add 0) = A := by cases A <;> simp [Addr.add]
  rw [run_slice_h W t A n c hu kh j h0 (by omega), hel]
  simp [sizeOf, typeInfo, hi, sliced, Result.andThen, ha]
set_option maxHeartbeats 8000000 in
set_option maxRecDepth 100000 in
theorem watchwordlaw0_KeptNears.kept (k : Nat) (A0 : Option Addr) (c0 : Nat) (l0 : List (S46)) (A1 : Option Addr) (c1 : Nat) (l1 : List (S46)) (A2 : Option Addr) (c2 : Nat) (l2 : List (S46)) (r : Bool) (w : World) (hr0 : Kd.C k46 w A0 l0.length l0) (hc0 : l0.length ≤ c0) (hr1 : Kd.C k46 w A1 l1.length l1) (hc1 : l1.length ≤ c1) (hr2 : Kd.C k46 w A2 l2.length l2) (hc2 : l2.length ≤ c2) (h : watchwordlaw0_KeptNears.f k l0 l1 l2 = some r) (hA : A2 = A0) (hcc : c2 = c0) (hlen : l2.length = l0.length + 2) (hsz : l0.length ≤ 1000000000000000) :
  Calls Try.prog 22 #[.slice A0 l0.length c0, .slice A1 l1.length c1] w fun e w' => e = .returned (.bool r) ∧ Drawn0 w w' := by
 have hu46 := Try.underlying46
 have HR0 := Aside0.mk hr0
 have HC0 := Aside0.mk hc0
 clear hr0 hc0
 have HR1 := Aside0.mk hr1
 have HC1 := Aside0.mk hc1
 clear hr1 hc1
 have HR2 := Aside0.mk hr2
 have HC2 := Aside0.mk hc2
 clear hr2 hc2
 have H : ((watchwordlaw0_SameNears.f k l0 l1).bind fun t247 => (if t247 = true then (if 0 ≤ (l1.length : Int) then (if (l1.length : Int) < (l2.length : Int) then (if (((rd_T46 l2 (l1.length : Int)).f0) == 77777 && (((rd_T46 l2 (l1.length : Int)).f1) == 0 && (((rd_T46 l2 (l1.length : Int)).f2) == 0))) = true then (if 0 ≤ (wrap64 ((l1.length : Int) + 1)) then (if (wrap64 ((l1.length : Int) + 1)) < (l2.length : Int) then (some (((rd_T46 l2 (wrap64 ((l1.length : Int) + 1))).f0) == 77777 && (((rd_T46 l2 (wrap64 ((l1.length : Int) + 1))).f1) == 0 && (((rd_T46 l2 (wrap64 ((l1.length : Int) + 1))).f2) == 0)))) else (none)) else (none)) else (some false)) else (none)) else (none)) else (some false))) = some r := h
 clear h
 replace H := Option.bind_eq_some_iff.mp H
 obtain ⟨t247, A40, H⟩ := H
 replace H : (if t247 = true then (if 0 ≤ (l1.length : Int) then (if (l1.length : Int) < (l2.length : Int) then (if (((rd_T46 l2 (l1.length : Int)).f0) == 77777 && (((rd_T46 l2 (l1.length : Int)).f1) == 0 && (((rd_T46 l2 (l1.length : Int)).f2) == 0))) = true then (if 0 ≤ (wrap64 ((l1.length : Int) + 1)) then (if (wrap64 ((l1.length : Int) + 1)) < (l2.length : Int) then (some (((rd_T46 l2 (wrap64 ((l1.length : Int) + 1))).f0) == 77777 && (((rd_T46 l2 (wrap64 ((l1.length : Int) + 1))).f1) == 0 && (((rd_T46 l2 (wrap64 ((l1.length : Int) + 1))).f2) == 0)))) else (none)) else (none)) else (some false)) else (none)) else (none)) else (some false)) = some r := H
 have A4 := Aside0.mk A40
 clear A40
 by_cases c5 : t247 = true
 ·subst c5
  have H1 : (if 0 ≤ (l1.length : Int) then (if (l1.length : Int) < (l2.length : Int) then (if (((rd_T46 l2 (l1.length : Int)).f0) == 77777 && (((rd_T46 l2 (l1.length : Int)).f1) == 0 && (((rd_T46 l2 (l1.length : Int)).f2) == 0))) = true then (if 0 ≤ (wrap64 ((l1.length : Int) + 1)) then (if (wrap64 ((l1.length : Int) + 1)) < (l2.length : Int) then (some (((rd_T46 l2 (wrap64 ((l1.length : Int) + 1))).f0) == 77777 && (((rd_T46 l2 (wrap64 ((l1.length : Int) + 1))).f1) == 0 && (((rd_T46 l2 (wrap64 ((l1.length : Int) + 1))).f2) == 0)))) else (none)) else (none)) else (some false)) else (none)) else (none)) = some r := by rw [if_pos rfl] at H; exact H
  clear H
  have H := H1
  clear H1
  by_cases c6 : 0 ≤ (l1.length : Int)
  ·rw [if_pos c6] at H
   have c6b0 : decide (0 ≤ (l1.length : Int)) = true := decide_eq_true c6
   have c6b1 : decide (0 ≤ l1.length) = true := decide_eq_true (by omega)
   clear c6
   by_cases c7 : (l1.length : Int) < (l2.length : Int)
   ·rw [if_pos c7] at H
    have c7b0 : decide ((l1.length : Int) < (l2.length : Int)) = true := decide_eq_true c7
    have c7b1 : decide (l1.length < l2.length) = true := decide_eq_true (Int.ofNat_lt.mp c7)
    clear c7
    by_cases c8 : (((rd_T46 l2 (l1.length : Int)).f0) == 77777 && (((rd_T46 l2 (l1.length : Int)).f1) == 0 && (((rd_T46 l2 (l1.length : Int)).f2) == 0))) = true
    ·rw [if_pos c8] at H
     have c8b0 : (((rd_T46 l2 (l1.length : Int)).f0) == 77777 && (((rd_T46 l2 (l1.length : Int)).f1) == 0 && (((rd_T46 l2 (l1.length : Int)).f2) == 0))) = true := c8
     (try (have c8b1 : decide (((rd_T46 l2 (l1.length : Int)).f0) = 77777 && (((rd_T46 l2 (l1.length : Int)).f1) == 0 && (((rd_T46 l2 (l1.length : Int)).f2) == 0))) = true := by simpa using c8))
     (try (have c8b2 : (((rd_T46 l2 (l1.length : Int)).f0) == 77777 && (((rd_T46 l2 (l1.length : Int)).f1) == 0 && (((rd_T46 l2 (l1.length : Int)).f2) == 0))) = true := by simpa using c8))
     clear c8
     obtain ⟨ji9, hji9⟩ : ∃ j_ : Int, (wrap64 ((l1.length : Int) + 1)) = j_ := ⟨_, rfl⟩
     replace H : (if 0 ≤ (ji9) then (if (ji9) < (l2.length : Int) then (some (((rd_T46 l2 (ji9)).f0) == 77777 && (((rd_T46 l2 (ji9)).f1) == 0 && (((rd_T46 l2 (ji9)).f2) == 0)))) else (none)) else (none)) = some r := by first | (rw [hji9] at H; exact H) | (simp only [hji9] at H ⊢; exact H)
     (try rw [hji9] at A4)
     have hji9w : (IntKind.i64.wrap ((l1.length : Int) + 1)) = ji9 := (i64_w _).trans hji9
     by_cases c10 : 0 ≤ (ji9)
     ·rw [if_pos c10] at H
      have c10b0 : decide (0 ≤ (ji9)) = true := decide_eq_true c10
      clear c10
      by_cases c11 : (ji9) < (l2.length : Int)
      ·rw [if_pos c11] at H
       have c11b0 : decide ((ji9) < (l2.length : Int)) = true := decide_eq_true c11
       clear c11
       obtain rfl := Option.some.inj H
       have hwk : wrap64 ((l0.length : Int) + 2) = (l2.length : Int) := by rw [IntWalk.wrap64_in _ ⟨by omega, by omega⟩, hlen]; omega
       have hwk2 : IntKind.i64.wrap ((l0.length : Int) + 2) = (l2.length : Int) := (i64_w _).trans hwk
       obtain ⟨i0k, hi0k, _, _, _⟩ := info_parts info46
       have hcutk : ∀ W : World, (Instr.slice 22 (.slice A0 l0.length c0) none (some (.int .i64 (l2.length : Int))) none).run Try.prog W = .ok (.slice A2 l2.length c2) W := by
         have h_ := watchwordlaw0_KeptNears.cut (P := Try.prog) 22 46 .i64 Try.underlying22 hi0k A0 l0.length c0 (l2.length : Int) (Int.natCast_nonneg _) (by have := HC2.out; rw [hcc] at this; omega)
         rw [Int.toNat_natCast] at h_; rw [hA, hcc]; exact h_
       have hcutk2 : ∀ W : World, (Instr.slice 22 (.slice A0 l0.length c0) none (some (.int .i64 ((l0.length : Int) + 2))) none).run Try.prog W = .ok (.slice A2 l2.length c2) W := by
         rw [show (l0.length : Int) + 2 = (l2.length : Int) by omega]; exact hcutk
       clear hi0k hsz hlen hA hcc
       go_enter Try.func22, Try.ntmps22
       go_wp2_with (first | ((with_reducible refine gate_callee (f := 14) rfl ?_); refine goesL_ (some 13) rfl rfl Try.func14 (by kernel_rfl) rfl #[.slice A0 l0.length c0, .slice A1 l1.length c1] rfl (by (try simp only [List.map_toArray, List.map_cons, List.map_nil]); first | done | rfl | (simp only [List.length_drop, List.length_take]; rfl)) ?_; (with_reducible refine (watchwordlaw0_SameNears.calls k _ _ l0 _ _ l1 true _ ?side1 ?side2 ?side3 ?side4 A4.out).mono ?_); (case side1 => repeat (first | exact HR0.out | (with_reducible refine Kd.C_alloc ?_ _) | (with_reducible refine Kd.C_drewN ?_ _) | (with_reducible refine Kd.C_drew ?_))); (case side2 => exact HC0.out); (case side3 => repeat (first | exact HR1.out | (with_reducible refine Kd.C_alloc ?_ _) | (with_reducible refine Kd.C_drewN ?_ _) | (with_reducible refine Kd.C_drew ?_))); (case side4 => exact HC1.out); rintro e w' ⟨rfl, ⟨nd, rfl⟩⟩; refine ⟨_, rfl, ?_⟩; have p248 : 0 ≤ ((l1.length : Int) : Int) := of_decide_eq_true (by first | (with_reducible assumption) | assumption); have q248 : (l1.length : Int) < (l2.length : Int) := of_decide_eq_true (by first | (with_reducible assumption) | assumption); obtain ⟨ad248, e248, hx248_0, hx248_1, hx248_2⟩ := at_T46 HR2.out (l1.length : Int) p248 q248; cases e248; (try simp only [Go.IntWalk.toNatUp] at hx248_0); (try simp only [Go.IntWalk.toNatUp] at hx248_1); (try simp only [Go.IntWalk.toNatUp] at hx248_2); replace p248 := eq_true p248; replace q248 := eq_true q248; have p249 : 0 ≤ ((ji9) : Int) := of_decide_eq_true (by first | (with_reducible assumption) | assumption); have q249 : (ji9) < (l2.length : Int) := of_decide_eq_true (by first | (with_reducible assumption) | assumption); obtain ⟨ad249, e249, hx249_0, hx249_1, hx249_2⟩ := at_T46 HR2.out (ji9) p249 q249; obtain rfl : ad248 = ad249 := (by injection e249); replace p249 := eq_true p249; replace q249 := eq_true q249))
       go_ret
       exact ⟨by first | rfl | (simp; done) | (simp only [← hji9] <;> (first | rfl | simp)) | (simp [*]; done), by repeat (first | exact Drawn0.refl _ | apply Drawn0.step)⟩
      ·rw [if_neg c11] at H
       exact absurd H (by simp)
     ·rw [if_neg c10] at H
      exact absurd H (by simp)
    ·rw [if_neg c8] at H
     have c8b0 : (((rd_T46 l2 (l1.length : Int)).f0) == 77777 && (((rd_T46 l2 (l1.length : Int)).f1) == 0 && (((rd_T46 l2 (l1.length : Int)).f2) == 0))) = false := by simpa using c8
     (try (have c8b1 : decide (((rd_T46 l2 (l1.length : Int)).f0) = 77777 && (((rd_T46 l2 (l1.length : Int)).f1) == 0 && (((rd_T46 l2 (l1.length : Int)).f2) == 0))) = false := by simpa using c8))
     (try (have c8b2 : (((rd_T46 l2 (l1.length : Int)).f0) == 77777 && (((rd_T46 l2 (l1.length : Int)).f1) == 0 && (((rd_T46 l2 (l1.length : Int)).f2) == 0))) = false := by simpa using c8))
     (try (have c8b3 : ¬ (((rd_T46 l2 (l1.length : Int)).f0) = 77777 && (((rd_T46 l2 (l1.length : Int)).f1) == 0 && (((rd_T46 l2 (l1.length : Int)).f2) == 0))) := by simpa using c8))
     clear c8
     obtain rfl := Option.some.inj H
     have hwk : wrap64 ((l0.length : Int) + 2) = (l2.length : Int) := by rw [IntWalk.wrap64_in _ ⟨by omega, by omega⟩, hlen]; omega
     have hwk2 : IntKind.i64.wrap ((l0.length : Int) + 2) = (l2.length : Int) := (i64_w _).trans hwk
     obtain ⟨i0k, hi0k, _, _, _⟩ := info_parts info46
     have hcutk : ∀ W : World, (Instr.slice 22 (.slice A0 l0.length c0) none (some (.int .i64 (l2.length : Int))) none).run Try.prog W = .ok (.slice A2 l2.length c2) W := by
       have h_ := watchwordlaw0_KeptNears.cut (P := Try.prog) 22 46 .i64 Try.underlying22 hi0k A0 l0.length c0 (l2.length : Int) (Int.natCast_nonneg _) (by have := HC2.out; rw [hcc] at this; omega)
       rw [Int.toNat_natCast] at h_; rw [hA, hcc]; exact h_
     have hcutk2 : ∀ W : World, (Instr.slice 22 (.slice A0 l0.length c0) none (some (.int .i64 ((l0.length : Int) + 2))) none).run Try.prog W = .ok (.slice A2 l2.length c2) W := by
       rw [show (l0.length : Int) + 2 = (l2.length : Int) by omega]; exact hcutk
     clear hi0k hsz hlen hA hcc
     go_enter Try.func22, Try.ntmps22
     go_wp2_with (first | ((with_reducible refine gate_callee (f := 14) rfl ?_); refine goesL_ (some 13) rfl rfl Try.func14 (by kernel_rfl) rfl #[.slice A0 l0.length c0, .slice A1 l1.length c1] rfl (by (try simp only [List.map_toArray, List.map_cons, List.map_nil]); first | done | rfl | (simp only [List.length_drop, List.length_take]; rfl)) ?_; (with_reducible refine (watchwordlaw0_SameNears.calls k _ _ l0 _ _ l1 true _ ?side1 ?side2 ?side3 ?side4 A4.out).mono ?_); (case side1 => repeat (first | exact HR0.out | (with_reducible refine Kd.C_alloc ?_ _) | (with_reducible refine Kd.C_drewN ?_ _) | (with_reducible refine Kd.C_drew ?_))); (case side2 => exact HC0.out); (case side3 => repeat (first | exact HR1.out | (with_reducible refine Kd.C_alloc ?_ _) | (with_reducible refine Kd.C_drewN ?_ _) | (with_reducible refine Kd.C_drew ?_))); (case side4 => exact HC1.out); rintro e w' ⟨rfl, ⟨nd, rfl⟩⟩; refine ⟨_, rfl, ?_⟩; have p248 : 0 ≤ ((l1.length : Int) : Int) := of_decide_eq_true (by first | (with_reducible assumption) | assumption); have q248 : (l1.length : Int) < (l2.length : Int) := of_decide_eq_true (by first | (with_reducible assumption) | assumption); obtain ⟨ad248, e248, hx248_0, hx248_1, hx248_2⟩ := at_T46 HR2.out (l1.length : Int) p248 q248; cases e248; (try simp only [Go.IntWalk.toNatUp] at hx248_0); (try simp only [Go.IntWalk.toNatUp] at hx248_1); (try simp only [Go.IntWalk.toNatUp] at hx248_2); replace p248 := eq_true p248; replace q248 := eq_true q248))
     go_ret
     exact ⟨by first | rfl | (simp; done) | (simp [*]; done), by repeat (first | exact Drawn0.refl _ | apply Drawn0.step)⟩
   ·rw [if_neg c7] at H
    exact absurd H (by simp)
  ·rw [if_neg c6] at H
   exact absurd H (by simp)
 ·replace c5 := Bool.eq_false_iff.mpr c5
  subst c5
  have H1 : (some false) = some r := by rw [if_neg (show ¬ (false = true) by decide)] at H; exact H
  clear H
  have H := H1
  clear H1
  obtain rfl := Option.some.inj H
  have hwk : wrap64 ((l0.length : Int) + 2) = (l2.length : Int) := by rw [IntWalk.wrap64_in _ ⟨by omega, by omega⟩, hlen]; omega
  have hwk2 : IntKind.i64.wrap ((l0.length : Int) + 2) = (l2.length : Int) := (i64_w _).trans hwk
  obtain ⟨i0k, hi0k, _, _, _⟩ := info_parts info46
  have hcutk : ∀ W : World, (Instr.slice 22 (.slice A0 l0.length c0) none (some (.int .i64 (l2.length : Int))) none).run Try.prog W = .ok (.slice A2 l2.length c2) W := by
    have h_ := watchwordlaw0_KeptNears.cut (P := Try.prog) 22 46 .i64 Try.underlying22 hi0k A0 l0.length c0 (l2.length : Int) (Int.natCast_nonneg _) (by have := HC2.out; rw [hcc] at this; omega)
    rw [Int.toNat_natCast] at h_; rw [hA, hcc]; exact h_
  have hcutk2 : ∀ W : World, (Instr.slice 22 (.slice A0 l0.length c0) none (some (.int .i64 ((l0.length : Int) + 2))) none).run Try.prog W = .ok (.slice A2 l2.length c2) W := by
    rw [show (l0.length : Int) + 2 = (l2.length : Int) by omega]; exact hcutk
  clear hi0k hsz hlen hA hcc
  go_enter Try.func22, Try.ntmps22
  go_wp2_with (first | ((with_reducible refine gate_callee (f := 14) rfl ?_); refine goesL_ (some 13) rfl rfl Try.func14 (by kernel_rfl) rfl #[.slice A0 l0.length c0, .slice A1 l1.length c1] rfl (by (try simp only [List.map_toArray, List.map_cons, List.map_nil]); first | done | rfl | (simp only [List.length_drop, List.length_take]; rfl)) ?_; (with_reducible refine (watchwordlaw0_SameNears.calls k _ _ l0 _ _ l1 false _ ?side1 ?side2 ?side3 ?side4 A4.out).mono ?_); (case side1 => repeat (first | exact HR0.out | (with_reducible refine Kd.C_alloc ?_ _) | (with_reducible refine Kd.C_drewN ?_ _) | (with_reducible refine Kd.C_drew ?_))); (case side2 => exact HC0.out); (case side3 => repeat (first | exact HR1.out | (with_reducible refine Kd.C_alloc ?_ _) | (with_reducible refine Kd.C_drewN ?_ _) | (with_reducible refine Kd.C_drew ?_))); (case side4 => exact HC1.out); rintro e w' ⟨rfl, ⟨nd, rfl⟩⟩; refine ⟨_, rfl, ?_⟩))
  go_ret
  exact ⟨by first | rfl | (simp; done) | (simp [*]; done), by repeat (first | exact Drawn0.refl _ | apply Drawn0.step)⟩

end Go.Proofs.Ytnfoldgialdhjaa.Q19
namespace Go.Proofs.Ytnfoldgialdhjaa.Q19
open Go.RowKit Go.Proofs.YtnfoldgialdhjaaW.PrintWords Go.Proofs.YtnfoldgialdhjaaW.PrintLast Go.Proofs.YtnfoldgialdhjaaW.PrintMore
attribute [local go_sem] max2_int min2_int max_two min_two max_three min_three max_four min_four   -- for this text's walks alone
set_option linter.unusedVariables false
set_option linter.unusedSimpArgs false

/-! ### watchwordlaw19_awake: function 23 -/
def watchwordlaw19_awake.f (k : Nat)  : Option (Bool) := (near_Heard.f k ([] : List (S46)) 3 false).bind fun bt254 => ((near_Heard.f k bt254.1 3 true).bind fun bt259 => ((near_Heard.f k bt259.1 3 true).bind fun bt264 => ((near_Tick.f k (([(⟨1, 2, 1⟩ : S46), (⟨2, 1, 2⟩ : S46)] : List (S46)))).bind fun bt272 => ((near_Heard.f k ([] : List (S46)) 0 true).bind fun bt279 => ((watchwordlaw0_SameNears.f k bt254.1 (([(⟨3, 1, 16⟩ : S46)] : List (S46)))).bind fun t287 => (if t287 = true then (if bt254.2.1 = true then ((watchwordlaw0_Num.f bt254.2.2).bind fun t288 => (if t288 = 0 then ((near_Full.f k bt259.1).bind fun t289 => ((watchwordlaw0_SameInts.f k t289 (([3] : List Int))).bind fun t295 => (if t295 = true then (if bt259.2.1 = true then ((watchwordlaw0_Num.f bt259.2.2).bind fun t296 => (if t296 = 0 then ((watchwordlaw0_SameNears.f k bt259.1 bt264.1).bind fun t297 => (if t297 = true then (if bt264.2.1 = true then (some false) else ((watchwordlaw0_Num.f bt264.2.2).bind fun t298 => (if t298 = 0 then ((watchwordlaw0_SameNears.f k bt272.1 (([(⟨2, 1, 1⟩ : S46)] : List (S46)))).bind fun t302 => (if t302 = true then ((watchwordlaw0_SameInts.f k bt272.2.1 (([1] : List Int))).bind fun t306 => (if t306 = true then ((watchwordlaw0_Num.f bt272.2.2).bind fun t307 => (if t307 = 0 then ((watchwordlaw0_Num.f bt279.2.2).bind fun t308 => (if t308 = 1900 then ((near_May.f k bt254.1).bind fun t309 => (some t309)) else (some false))) else (some false))) else (some false))) else (some false))) else (some false)))) else (some false))) else (some false))) else (some false)) else (some false)))) else (some false))) else (some false)) else (some false)))))))
theorem watchwordlaw19_awake.mono : ∀ k, LeO (watchwordlaw19_awake.f k ) (watchwordlaw19_awake.f (k + 1) ) := by
 intro  k
 unfold watchwordlaw19_awake.f
 repeat' first
   | (with_reducible exact near_Full.mono _ _)
   | (with_reducible exact near_Heard.mono _ _ _ _)
   | (with_reducible exact near_May.mono _ _)
   | (with_reducible exact near_Tick.mono _ _)
   | (with_reducible exact watchwordlaw0_SameInts.mono _ _ _)
   | (with_reducible exact watchwordlaw0_SameNears.mono _ _ _)
   | (with_reducible exact LeO.refl _)
   | (with_reducible exact LeO.none _)
   | (with_reducible refine LeO.ite ?_ ?_)
   | (with_reducible refine LeO.bind ?_ (fun _ => ?_))
   | exact near_Full.mono _ _
   | exact near_Heard.mono _ _ _ _
   | exact near_May.mono _ _
   | exact near_Tick.mono _ _
   | exact watchwordlaw0_SameInts.mono _ _ _
   | exact watchwordlaw0_SameNears.mono _ _ _
   | exact LeO.none _
   | refine LeO.ite ?_ ?_
   | refine LeO.bind ?_ (fun _ => ?_)
set_option maxHeartbeats 8000000 in
set_option maxRecDepth 100000 in
theorem watchwordlaw19_awake.calls (k : Nat)  (r : Bool) (w : World) (h : watchwordlaw19_awake.f k  = some r) (hT : r = true) :
  Calls Try.prog 23 #[] w fun e w' => e = .returned (.bool r) ∧ Below w.heap.size w w' := by
 have hu46 := Try.underlying46
 have HB := Aside0.mk (Below.refl w.heap.size w)
 have HT := Aside0.mk hT
 clear hT
 have H : ((near_Heard.f k ([] : List (S46)) 3 false).bind fun bt254 => ((near_Heard.f k bt254.1 3 true).bind fun bt259 => ((near_Heard.f k bt259.1 3 true).bind fun bt264 => ((near_Tick.f k (([(⟨1, 2, 1⟩ : S46), (⟨2, 1, 2⟩ : S46)] : List (S46)))).bind fun bt272 => ((near_Heard.f k ([] : List (S46)) 0 true).bind fun bt279 => ((watchwordlaw0_SameNears.f k bt254.1 (([(⟨3, 1, 16⟩ : S46)] : List (S46)))).bind fun t287 => (if t287 = true then (if bt254.2.1 = true then ((watchwordlaw0_Num.f bt254.2.2).bind fun t288 => (if t288 = 0 then ((near_Full.f k bt259.1).bind fun t289 => ((watchwordlaw0_SameInts.f k t289 (([3] : List Int))).bind fun t295 => (if t295 = true then (if bt259.2.1 = true then ((watchwordlaw0_Num.f bt259.2.2).bind fun t296 => (if t296 = 0 then ((watchwordlaw0_SameNears.f k bt259.1 bt264.1).bind fun t297 => (if t297 = true then (if bt264.2.1 = true then (some false) else ((watchwordlaw0_Num.f bt264.2.2).bind fun t298 => (if t298 = 0 then ((watchwordlaw0_SameNears.f k bt272.1 (([(⟨2, 1, 1⟩ : S46)] : List (S46)))).bind fun t302 => (if t302 = true then ((watchwordlaw0_SameInts.f k bt272.2.1 (([1] : List Int))).bind fun t306 => (if t306 = true then ((watchwordlaw0_Num.f bt272.2.2).bind fun t307 => (if t307 = 0 then ((watchwordlaw0_Num.f bt279.2.2).bind fun t308 => (if t308 = 1900 then ((near_May.f k bt254.1).bind fun t309 => (some t309)) else (some false))) else (some false))) else (some false))) else (some false))) else (some false)))) else (some false))) else (some false))) else (some false)) else (some false)))) else (some false))) else (some false)) else (some false)))))))) = some r := h
 clear h
 replace H := Option.bind_eq_some_iff.mp H
 obtain ⟨⟨t254, t255, t256⟩, A10, H⟩ := H
 replace H : ((near_Heard.f k t254 3 true).bind fun bt259 => ((near_Heard.f k bt259.1 3 true).bind fun bt264 => ((near_Tick.f k (([(⟨1, 2, 1⟩ : S46), (⟨2, 1, 2⟩ : S46)] : List (S46)))).bind fun bt272 => ((near_Heard.f k ([] : List (S46)) 0 true).bind fun bt279 => ((watchwordlaw0_SameNears.f k t254 (([(⟨3, 1, 16⟩ : S46)] : List (S46)))).bind fun t287 => (if t287 = true then (if t255 = true then ((watchwordlaw0_Num.f t256).bind fun t288 => (if t288 = 0 then ((near_Full.f k bt259.1).bind fun t289 => ((watchwordlaw0_SameInts.f k t289 (([3] : List Int))).bind fun t295 => (if t295 = true then (if bt259.2.1 = true then ((watchwordlaw0_Num.f bt259.2.2).bind fun t296 => (if t296 = 0 then ((watchwordlaw0_SameNears.f k bt259.1 bt264.1).bind fun t297 => (if t297 = true then (if bt264.2.1 = true then (some false) else ((watchwordlaw0_Num.f bt264.2.2).bind fun t298 => (if t298 = 0 then ((watchwordlaw0_SameNears.f k bt272.1 (([(⟨2, 1, 1⟩ : S46)] : List (S46)))).bind fun t302 => (if t302 = true then ((watchwordlaw0_SameInts.f k bt272.2.1 (([1] : List Int))).bind fun t306 => (if t306 = true then ((watchwordlaw0_Num.f bt272.2.2).bind fun t307 => (if t307 = 0 then ((watchwordlaw0_Num.f bt279.2.2).bind fun t308 => (if t308 = 1900 then ((near_May.f k t254).bind fun t309 => (some t309)) else (some false))) else (some false))) else (some false))) else (some false))) else (some false)))) else (some false))) else (some false))) else (some false)) else (some false)))) else (some false))) else (some false)) else (some false))))))) = some r := H
 have A1 := Aside0.mk A10
 clear A10
 replace H := Option.bind_eq_some_iff.mp H
 obtain ⟨⟨t259, t260, t261⟩, A20, H⟩ := H
 replace H : ((near_Heard.f k t259 3 true).bind fun bt264 => ((near_Tick.f k (([(⟨1, 2, 1⟩ : S46), (⟨2, 1, 2⟩ : S46)] : List (S46)))).bind fun bt272 => ((near_Heard.f k ([] : List (S46)) 0 true).bind fun bt279 => ((watchwordlaw0_SameNears.f k t254 (([(⟨3, 1, 16⟩ : S46)] : List (S46)))).bind fun t287 => (if t287 = true then (if t255 = true then ((watchwordlaw0_Num.f t256).bind fun t288 => (if t288 = 0 then ((near_Full.f k t259).bind fun t289 => ((watchwordlaw0_SameInts.f k t289 (([3] : List Int))).bind fun t295 => (if t295 = true then (if t260 = true then ((watchwordlaw0_Num.f t261).bind fun t296 => (if t296 = 0 then ((watchwordlaw0_SameNears.f k t259 bt264.1).bind fun t297 => (if t297 = true then (if bt264.2.1 = true then (some false) else ((watchwordlaw0_Num.f bt264.2.2).bind fun t298 => (if t298 = 0 then ((watchwordlaw0_SameNears.f k bt272.1 (([(⟨2, 1, 1⟩ : S46)] : List (S46)))).bind fun t302 => (if t302 = true then ((watchwordlaw0_SameInts.f k bt272.2.1 (([1] : List Int))).bind fun t306 => (if t306 = true then ((watchwordlaw0_Num.f bt272.2.2).bind fun t307 => (if t307 = 0 then ((watchwordlaw0_Num.f bt279.2.2).bind fun t308 => (if t308 = 1900 then ((near_May.f k t254).bind fun t309 => (some t309)) else (some false))) else (some false))) else (some false))) else (some false))) else (some false)))) else (some false))) else (some false))) else (some false)) else (some false)))) else (some false))) else (some false)) else (some false)))))) = some r := H
 have A2 := Aside0.mk A20
 clear A20
 replace H := Option.bind_eq_some_iff.mp H
 obtain ⟨⟨t264, t265, t266⟩, A30, H⟩ := H
 replace H : ((near_Tick.f k (([(⟨1, 2, 1⟩ : S46), (⟨2, 1, 2⟩ : S46)] : List (S46)))).bind fun bt272 => ((near_Heard.f k ([] : List (S46)) 0 true).bind fun bt279 => ((watchwordlaw0_SameNears.f k t254 (([(⟨3, 1, 16⟩ : S46)] : List (S46)))).bind fun t287 => (if t287 = true then (if t255 = true then ((watchwordlaw0_Num.f t256).bind fun t288 => (if t288 = 0 then ((near_Full.f k t259).bind fun t289 => ((watchwordlaw0_SameInts.f k t289 (([3] : List Int))).bind fun t295 => (if t295 = true then (if t260 = true then ((watchwordlaw0_Num.f t261).bind fun t296 => (if t296 = 0 then ((watchwordlaw0_SameNears.f k t259 t264).bind fun t297 => (if t297 = true then (if t265 = true then (some false) else ((watchwordlaw0_Num.f t266).bind fun t298 => (if t298 = 0 then ((watchwordlaw0_SameNears.f k bt272.1 (([(⟨2, 1, 1⟩ : S46)] : List (S46)))).bind fun t302 => (if t302 = true then ((watchwordlaw0_SameInts.f k bt272.2.1 (([1] : List Int))).bind fun t306 => (if t306 = true then ((watchwordlaw0_Num.f bt272.2.2).bind fun t307 => (if t307 = 0 then ((watchwordlaw0_Num.f bt279.2.2).bind fun t308 => (if t308 = 1900 then ((near_May.f k t254).bind fun t309 => (some t309)) else (some false))) else (some false))) else (some false))) else (some false))) else (some false)))) else (some false))) else (some false))) else (some false)) else (some false)))) else (some false))) else (some false)) else (some false))))) = some r := H
 have A3 := Aside0.mk A30
 clear A30
 obtain ⟨y269, hy269⟩ : ∃ y_ : List (S46), y_ = (([(⟨1, 2, 1⟩ : S46), (⟨2, 1, 2⟩ : S46)] : List (S46))) := ⟨_, rfl⟩
 replace H : ((near_Tick.f k y269).bind fun bt272 => ((near_Heard.f k ([] : List (S46)) 0 true).bind fun bt279 => ((watchwordlaw0_SameNears.f k t254 (([(⟨3, 1, 16⟩ : S46)] : List (S46)))).bind fun t287 => (if t287 = true then (if t255 = true then ((watchwordlaw0_Num.f t256).bind fun t288 => (if t288 = 0 then ((near_Full.f k t259).bind fun t289 => ((watchwordlaw0_SameInts.f k t289 (([3] : List Int))).bind fun t295 => (if t295 = true then (if t260 = true then ((watchwordlaw0_Num.f t261).bind fun t296 => (if t296 = 0 then ((watchwordlaw0_SameNears.f k t259 t264).bind fun t297 => (if t297 = true then (if t265 = true then (some false) else ((watchwordlaw0_Num.f t266).bind fun t298 => (if t298 = 0 then ((watchwordlaw0_SameNears.f k bt272.1 (([(⟨2, 1, 1⟩ : S46)] : List (S46)))).bind fun t302 => (if t302 = true then ((watchwordlaw0_SameInts.f k bt272.2.1 (([1] : List Int))).bind fun t306 => (if t306 = true then ((watchwordlaw0_Num.f bt272.2.2).bind fun t307 => (if t307 = 0 then ((watchwordlaw0_Num.f bt279.2.2).bind fun t308 => (if t308 = 1900 then ((near_May.f k t254).bind fun t309 => (some t309)) else (some false))) else (some false))) else (some false))) else (some false))) else (some false)))) else (some false))) else (some false))) else (some false)) else (some false)))) else (some false))) else (some false)) else (some false))))) = some r := by first | (rw [hy269]; with_reducible exact H) | (have H2_ := (Option.bind_some _ _).symm.trans H; rw [hy269]; with_reducible exact H2_) | (have H2_ := (Option.bind_some _ _).symm.trans H; with_reducible exact H2_) | with_reducible exact H | (rw [hy269]; exact H) | exact H
 have Ny269 := Aside0.mk hy269
 clear hy269
 replace H := Option.bind_eq_some_iff.mp H
 obtain ⟨⟨t272, t273, t274⟩, A40, H⟩ := H
 replace H : ((near_Heard.f k ([] : List (S46)) 0 true).bind fun bt279 => ((watchwordlaw0_SameNears.f k t254 (([(⟨3, 1, 16⟩ : S46)] : List (S46)))).bind fun t287 => (if t287 = true then (if t255 = true then ((watchwordlaw0_Num.f t256).bind fun t288 => (if t288 = 0 then ((near_Full.f k t259).bind fun t289 => ((watchwordlaw0_SameInts.f k t289 (([3] : List Int))).bind fun t295 => (if t295 = true then (if t260 = true then ((watchwordlaw0_Num.f t261).bind fun t296 => (if t296 = 0 then ((watchwordlaw0_SameNears.f k t259 t264).bind fun t297 => (if t297 = true then (if t265 = true then (some false) else ((watchwordlaw0_Num.f t266).bind fun t298 => (if t298 = 0 then ((watchwordlaw0_SameNears.f k t272 (([(⟨2, 1, 1⟩ : S46)] : List (S46)))).bind fun t302 => (if t302 = true then ((watchwordlaw0_SameInts.f k t273 (([1] : List Int))).bind fun t306 => (if t306 = true then ((watchwordlaw0_Num.f t274).bind fun t307 => (if t307 = 0 then ((watchwordlaw0_Num.f bt279.2.2).bind fun t308 => (if t308 = 1900 then ((near_May.f k t254).bind fun t309 => (some t309)) else (some false))) else (some false))) else (some false))) else (some false))) else (some false)))) else (some false))) else (some false))) else (some false)) else (some false)))) else (some false))) else (some false)) else (some false)))) = some r := H
 have A4 := Aside0.mk A40
 clear A40
 replace H := Option.bind_eq_some_iff.mp H
 obtain ⟨⟨t279, t280, t281⟩, A50, H⟩ := H
 replace H : ((watchwordlaw0_SameNears.f k t254 (([(⟨3, 1, 16⟩ : S46)] : List (S46)))).bind fun t287 => (if t287 = true then (if t255 = true then ((watchwordlaw0_Num.f t256).bind fun t288 => (if t288 = 0 then ((near_Full.f k t259).bind fun t289 => ((watchwordlaw0_SameInts.f k t289 (([3] : List Int))).bind fun t295 => (if t295 = true then (if t260 = true then ((watchwordlaw0_Num.f t261).bind fun t296 => (if t296 = 0 then ((watchwordlaw0_SameNears.f k t259 t264).bind fun t297 => (if t297 = true then (if t265 = true then (some false) else ((watchwordlaw0_Num.f t266).bind fun t298 => (if t298 = 0 then ((watchwordlaw0_SameNears.f k t272 (([(⟨2, 1, 1⟩ : S46)] : List (S46)))).bind fun t302 => (if t302 = true then ((watchwordlaw0_SameInts.f k t273 (([1] : List Int))).bind fun t306 => (if t306 = true then ((watchwordlaw0_Num.f t274).bind fun t307 => (if t307 = 0 then ((watchwordlaw0_Num.f t281).bind fun t308 => (if t308 = 1900 then ((near_May.f k t254).bind fun t309 => (some t309)) else (some false))) else (some false))) else (some false))) else (some false))) else (some false)))) else (some false))) else (some false))) else (some false)) else (some false)))) else (some false))) else (some false)) else (some false))) = some r := H
 have A5 := Aside0.mk A50
 clear A50
 obtain ⟨y284, hy284⟩ : ∃ y_ : List (S46), y_ = (([(⟨3, 1, 16⟩ : S46)] : List (S46))) := ⟨_, rfl⟩
 replace H : ((watchwordlaw0_SameNears.f k t254 y284).bind fun t287 => (if t287 = true then (if t255 = true then ((watchwordlaw0_Num.f t256).bind fun t288 => (if t288 = 0 then ((near_Full.f k t259).bind fun t289 => ((watchwordlaw0_SameInts.f k t289 (([3] : List Int))).bind fun t295 => (if t295 = true then (if t260 = true then ((watchwordlaw0_Num.f t261).bind fun t296 => (if t296 = 0 then ((watchwordlaw0_SameNears.f k t259 t264).bind fun t297 => (if t297 = true then (if t265 = true then (some false) else ((watchwordlaw0_Num.f t266).bind fun t298 => (if t298 = 0 then ((watchwordlaw0_SameNears.f k t272 (([(⟨2, 1, 1⟩ : S46)] : List (S46)))).bind fun t302 => (if t302 = true then ((watchwordlaw0_SameInts.f k t273 (([1] : List Int))).bind fun t306 => (if t306 = true then ((watchwordlaw0_Num.f t274).bind fun t307 => (if t307 = 0 then ((watchwordlaw0_Num.f t281).bind fun t308 => (if t308 = 1900 then ((near_May.f k t254).bind fun t309 => (some t309)) else (some false))) else (some false))) else (some false))) else (some false))) else (some false)))) else (some false))) else (some false))) else (some false)) else (some false)))) else (some false))) else (some false)) else (some false))) = some r := by first | (rw [hy284]; with_reducible exact H) | (have H2_ := (Option.bind_some _ _).symm.trans H; rw [hy284]; with_reducible exact H2_) | (have H2_ := (Option.bind_some _ _).symm.trans H; with_reducible exact H2_) | with_reducible exact H | (rw [hy284]; exact H) | exact H
 have Ny284 := Aside0.mk hy284
 clear hy284
 replace H := Option.bind_eq_some_iff.mp H
 obtain ⟨t287, A60, H⟩ := H
 replace H : (if t287 = true then (if t255 = true then ((watchwordlaw0_Num.f t256).bind fun t288 => (if t288 = 0 then ((near_Full.f k t259).bind fun t289 => ((watchwordlaw0_SameInts.f k t289 (([3] : List Int))).bind fun t295 => (if t295 = true then (if t260 = true then ((watchwordlaw0_Num.f t261).bind fun t296 => (if t296 = 0 then ((watchwordlaw0_SameNears.f k t259 t264).bind fun t297 => (if t297 = true then (if t265 = true then (some false) else ((watchwordlaw0_Num.f t266).bind fun t298 => (if t298 = 0 then ((watchwordlaw0_SameNears.f k t272 (([(⟨2, 1, 1⟩ : S46)] : List (S46)))).bind fun t302 => (if t302 = true then ((watchwordlaw0_SameInts.f k t273 (([1] : List Int))).bind fun t306 => (if t306 = true then ((watchwordlaw0_Num.f t274).bind fun t307 => (if t307 = 0 then ((watchwordlaw0_Num.f t281).bind fun t308 => (if t308 = 1900 then ((near_May.f k t254).bind fun t309 => (some t309)) else (some false))) else (some false))) else (some false))) else (some false))) else (some false)))) else (some false))) else (some false))) else (some false)) else (some false)))) else (some false))) else (some false)) else (some false)) = some r := H
 have A6 := Aside0.mk A60
 clear A60
 by_cases c7 : t287 = true
 ·subst c7
  have H1 : (if t255 = true then ((watchwordlaw0_Num.f t256).bind fun t288 => (if t288 = 0 then ((near_Full.f k t259).bind fun t289 => ((watchwordlaw0_SameInts.f k t289 (([3] : List Int))).bind fun t295 => (if t295 = true then (if t260 = true then ((watchwordlaw0_Num.f t261).bind fun t296 => (if t296 = 0 then ((watchwordlaw0_SameNears.f k t259 t264).bind fun t297 => (if t297 = true then (if t265 = true then (some false) else ((watchwordlaw0_Num.f t266).bind fun t298 => (if t298 = 0 then ((watchwordlaw0_SameNears.f k t272 (([(⟨2, 1, 1⟩ : S46)] : List (S46)))).bind fun t302 => (if t302 = true then ((watchwordlaw0_SameInts.f k t273 (([1] : List Int))).bind fun t306 => (if t306 = true then ((watchwordlaw0_Num.f t274).bind fun t307 => (if t307 = 0 then ((watchwordlaw0_Num.f t281).bind fun t308 => (if t308 = 1900 then ((near_May.f k t254).bind fun t309 => (some t309)) else (some false))) else (some false))) else (some false))) else (some false))) else (some false)))) else (some false))) else (some false))) else (some false)) else (some false)))) else (some false))) else (some false)) = some r := by rw [if_pos rfl] at H; exact H
  clear H
  have H := H1
  clear H1
  by_cases c8 : t255 = true
  ·subst c8
   have H1 : ((watchwordlaw0_Num.f t256).bind fun t288 => (if t288 = 0 then ((near_Full.f k t259).bind fun t289 => ((watchwordlaw0_SameInts.f k t289 (([3] : List Int))).bind fun t295 => (if t295 = true then (if t260 = true then ((watchwordlaw0_Num.f t261).bind fun t296 => (if t296 = 0 then ((watchwordlaw0_SameNears.f k t259 t264).bind fun t297 => (if t297 = true then (if t265 = true then (some false) else ((watchwordlaw0_Num.f t266).bind fun t298 => (if t298 = 0 then ((watchwordlaw0_SameNears.f k t272 (([(⟨2, 1, 1⟩ : S46)] : List (S46)))).bind fun t302 => (if t302 = true then ((watchwordlaw0_SameInts.f k t273 (([1] : List Int))).bind fun t306 => (if t306 = true then ((watchwordlaw0_Num.f t274).bind fun t307 => (if t307 = 0 then ((watchwordlaw0_Num.f t281).bind fun t308 => (if t308 = 1900 then ((near_May.f k t254).bind fun t309 => (some t309)) else (some false))) else (some false))) else (some false))) else (some false))) else (some false)))) else (some false))) else (some false))) else (some false)) else (some false)))) else (some false))) = some r := by rw [if_pos rfl] at H; exact H
   clear H
   have H := H1
   clear H1
   replace H := Option.bind_eq_some_iff.mp H
   obtain ⟨t288, A90, H⟩ := H
   replace H : (if t288 = 0 then ((near_Full.f k t259).bind fun t289 => ((watchwordlaw0_SameInts.f k t289 (([3] : List Int))).bind fun t295 => (if t295 = true then (if t260 = true then ((watchwordlaw0_Num.f t261).bind fun t296 => (if t296 = 0 then ((watchwordlaw0_SameNears.f k t259 t264).bind fun t297 => (if t297 = true then (if t265 = true then (some false) else ((watchwordlaw0_Num.f t266).bind fun t298 => (if t298 = 0 then ((watchwordlaw0_SameNears.f k t272 (([(⟨2, 1, 1⟩ : S46)] : List (S46)))).bind fun t302 => (if t302 = true then ((watchwordlaw0_SameInts.f k t273 (([1] : List Int))).bind fun t306 => (if t306 = true then ((watchwordlaw0_Num.f t274).bind fun t307 => (if t307 = 0 then ((watchwordlaw0_Num.f t281).bind fun t308 => (if t308 = 1900 then ((near_May.f k t254).bind fun t309 => (some t309)) else (some false))) else (some false))) else (some false))) else (some false))) else (some false)))) else (some false))) else (some false))) else (some false)) else (some false)))) else (some false)) = some r := H
   have A9 := Aside0.mk A90
   clear A90
   by_cases c10 : t288 = 0
   ·rw [if_pos c10] at H
    have c10b0 : (t288 == 0) = true := beq_iff_eq.mpr c10
    have c10b1 : (t288 != 0) = false := bne_eq_false_iff_eq.mpr c10
    clear c10
    replace H := Option.bind_eq_some_iff.mp H
    obtain ⟨t289, A110, H⟩ := H
    replace H : ((watchwordlaw0_SameInts.f k t289 (([3] : List Int))).bind fun t295 => (if t295 = true then (if t260 = true then ((watchwordlaw0_Num.f t261).bind fun t296 => (if t296 = 0 then ((watchwordlaw0_SameNears.f k t259 t264).bind fun t297 => (if t297 = true then (if t265 = true then (some false) else ((watchwordlaw0_Num.f t266).bind fun t298 => (if t298 = 0 then ((watchwordlaw0_SameNears.f k t272 (([(⟨2, 1, 1⟩ : S46)] : List (S46)))).bind fun t302 => (if t302 = true then ((watchwordlaw0_SameInts.f k t273 (([1] : List Int))).bind fun t306 => (if t306 = true then ((watchwordlaw0_Num.f t274).bind fun t307 => (if t307 = 0 then ((watchwordlaw0_Num.f t281).bind fun t308 => (if t308 = 1900 then ((near_May.f k t254).bind fun t309 => (some t309)) else (some false))) else (some false))) else (some false))) else (some false))) else (some false)))) else (some false))) else (some false))) else (some false)) else (some false))) = some r := H
    have A11 := Aside0.mk A110
    clear A110
    obtain ⟨y292, hy292⟩ : ∃ y_ : List Int, y_ = (([3] : List Int)) := ⟨_, rfl⟩
    replace H : ((watchwordlaw0_SameInts.f k t289 y292).bind fun t295 => (if t295 = true then (if t260 = true then ((watchwordlaw0_Num.f t261).bind fun t296 => (if t296 = 0 then ((watchwordlaw0_SameNears.f k t259 t264).bind fun t297 => (if t297 = true then (if t265 = true then (some false) else ((watchwordlaw0_Num.f t266).bind fun t298 => (if t298 = 0 then ((watchwordlaw0_SameNears.f k t272 (([(⟨2, 1, 1⟩ : S46)] : List (S46)))).bind fun t302 => (if t302 = true then ((watchwordlaw0_SameInts.f k t273 (([1] : List Int))).bind fun t306 => (if t306 = true then ((watchwordlaw0_Num.f t274).bind fun t307 => (if t307 = 0 then ((watchwordlaw0_Num.f t281).bind fun t308 => (if t308 = 1900 then ((near_May.f k t254).bind fun t309 => (some t309)) else (some false))) else (some false))) else (some false))) else (some false))) else (some false)))) else (some false))) else (some false))) else (some false)) else (some false))) = some r := by first | (rw [hy292]; with_reducible exact H) | (have H2_ := (Option.bind_some _ _).symm.trans H; rw [hy292]; with_reducible exact H2_) | (have H2_ := (Option.bind_some _ _).symm.trans H; with_reducible exact H2_) | with_reducible exact H | (rw [hy292]; exact H) | exact H
    have Ny292 := Aside0.mk hy292
    clear hy292
    replace H := Option.bind_eq_some_iff.mp H
    obtain ⟨t295, A120, H⟩ := H
    replace H : (if t295 = true then (if t260 = true then ((watchwordlaw0_Num.f t261).bind fun t296 => (if t296 = 0 then ((watchwordlaw0_SameNears.f k t259 t264).bind fun t297 => (if t297 = true then (if t265 = true then (some false) else ((watchwordlaw0_Num.f t266).bind fun t298 => (if t298 = 0 then ((watchwordlaw0_SameNears.f k t272 (([(⟨2, 1, 1⟩ : S46)] : List (S46)))).bind fun t302 => (if t302 = true then ((watchwordlaw0_SameInts.f k t273 (([1] : List Int))).bind fun t306 => (if t306 = true then ((watchwordlaw0_Num.f t274).bind fun t307 => (if t307 = 0 then ((watchwordlaw0_Num.f t281).bind fun t308 => (if t308 = 1900 then ((near_May.f k t254).bind fun t309 => (some t309)) else (some false))) else (some false))) else (some false))) else (some false))) else (some false)))) else (some false))) else (some false))) else (some false)) else (some false)) = some r := H
    have A12 := Aside0.mk A120
    clear A120
    by_cases c13 : t295 = true
    ·subst c13
     have H1 : (if t260 = true then ((watchwordlaw0_Num.f t261).bind fun t296 => (if t296 = 0 then ((watchwordlaw0_SameNears.f k t259 t264).bind fun t297 => (if t297 = true then (if t265 = true then (some false) else ((watchwordlaw0_Num.f t266).bind fun t298 => (if t298 = 0 then ((watchwordlaw0_SameNears.f k t272 (([(⟨2, 1, 1⟩ : S46)] : List (S46)))).bind fun t302 => (if t302 = true then ((watchwordlaw0_SameInts.f k t273 (([1] : List Int))).bind fun t306 => (if t306 = true then ((watchwordlaw0_Num.f t274).bind fun t307 => (if t307 = 0 then ((watchwordlaw0_Num.f t281).bind fun t308 => (if t308 = 1900 then ((near_May.f k t254).bind fun t309 => (some t309)) else (some false))) else (some false))) else (some false))) else (some false))) else (some false)))) else (some false))) else (some false))) else (some false)) = some r := by rw [if_pos rfl] at H; exact H
     clear H
     have H := H1
     clear H1
     by_cases c14 : t260 = true
     ·subst c14
      have H1 : ((watchwordlaw0_Num.f t261).bind fun t296 => (if t296 = 0 then ((watchwordlaw0_SameNears.f k t259 t264).bind fun t297 => (if t297 = true then (if t265 = true then (some false) else ((watchwordlaw0_Num.f t266).bind fun t298 => (if t298 = 0 then ((watchwordlaw0_SameNears.f k t272 (([(⟨2, 1, 1⟩ : S46)] : List (S46)))).bind fun t302 => (if t302 = true then ((watchwordlaw0_SameInts.f k t273 (([1] : List Int))).bind fun t306 => (if t306 = true then ((watchwordlaw0_Num.f t274).bind fun t307 => (if t307 = 0 then ((watchwordlaw0_Num.f t281).bind fun t308 => (if t308 = 1900 then ((near_May.f k t254).bind fun t309 => (some t309)) else (some false))) else (some false))) else (some false))) else (some false))) else (some false)))) else (some false))) else (some false))) = some r := by rw [if_pos rfl] at H; exact H
      clear H
      have H := H1
      clear H1
      replace H := Option.bind_eq_some_iff.mp H
      obtain ⟨t296, A150, H⟩ := H
      replace H : (if t296 = 0 then ((watchwordlaw0_SameNears.f k t259 t264).bind fun t297 => (if t297 = true then (if t265 = true then (some false) else ((watchwordlaw0_Num.f t266).bind fun t298 => (if t298 = 0 then ((watchwordlaw0_SameNears.f k t272 (([(⟨2, 1, 1⟩ : S46)] : List (S46)))).bind fun t302 => (if t302 = true then ((watchwordlaw0_SameInts.f k t273 (([1] : List Int))).bind fun t306 => (if t306 = true then ((watchwordlaw0_Num.f t274).bind fun t307 => (if t307 = 0 then ((watchwordlaw0_Num.f t281).bind fun t308 => (if t308 = 1900 then ((near_May.f k t254).bind fun t309 => (some t309)) else (some false))) else (some false))) else (some false))) else (some false))) else (some false)))) else (some false))) else (some false)) = some r := H
      have A15 := Aside0.mk A150
      clear A150
      by_cases c16 : t296 = 0
      ·rw [if_pos c16] at H
       have c16b0 : (t296 == 0) = true := beq_iff_eq.mpr c16
       have c16b1 : (t296 != 0) = false := bne_eq_false_iff_eq.mpr c16
       clear c16
       replace H := Option.bind_eq_some_iff.mp H
       obtain ⟨t297, A170, H⟩ := H
       replace H : (if t297 = true then (if t265 = true then (some false) else ((watchwordlaw0_Num.f t266).bind fun t298 => (if t298 = 0 then ((watchwordlaw0_SameNears.f k t272 (([(⟨2, 1, 1⟩ : S46)] : List (S46)))).bind fun t302 => (if t302 = true then ((watchwordlaw0_SameInts.f k t273 (([1] : List Int))).bind fun t306 => (if t306 = true then ((watchwordlaw0_Num.f t274).bind fun t307 => (if t307 = 0 then ((watchwordlaw0_Num.f t281).bind fun t308 => (if t308 = 1900 then ((near_May.f k t254).bind fun t309 => (some t309)) else (some false))) else (some false))) else (some false))) else (some false))) else (some false)))) else (some false)) = some r := H
       have A17 := Aside0.mk A170
       clear A170
       by_cases c18 : t297 = true
       ·subst c18
        have H1 : (if t265 = true then (some false) else ((watchwordlaw0_Num.f t266).bind fun t298 => (if t298 = 0 then ((watchwordlaw0_SameNears.f k t272 (([(⟨2, 1, 1⟩ : S46)] : List (S46)))).bind fun t302 => (if t302 = true then ((watchwordlaw0_SameInts.f k t273 (([1] : List Int))).bind fun t306 => (if t306 = true then ((watchwordlaw0_Num.f t274).bind fun t307 => (if t307 = 0 then ((watchwordlaw0_Num.f t281).bind fun t308 => (if t308 = 1900 then ((near_May.f k t254).bind fun t309 => (some t309)) else (some false))) else (some false))) else (some false))) else (some false))) else (some false)))) = some r := by rw [if_pos rfl] at H; exact H
        clear H
        have H := H1
        clear H1
        by_cases c19 : t265 = true
        ·subst c19
         have H1 : (some false) = some r := by rw [if_pos rfl] at H; exact H
         clear H
         have H := H1
         clear H1
         exact absurd (Option.some.inj H) (by rw [HT.out]; decide)
        ·replace c19 := Bool.eq_false_iff.mpr c19
         subst c19
         have H1 : ((watchwordlaw0_Num.f t266).bind fun t298 => (if t298 = 0 then ((watchwordlaw0_SameNears.f k t272 (([(⟨2, 1, 1⟩ : S46)] : List (S46)))).bind fun t302 => (if t302 = true then ((watchwordlaw0_SameInts.f k t273 (([1] : List Int))).bind fun t306 => (if t306 = true then ((watchwordlaw0_Num.f t274).bind fun t307 => (if t307 = 0 then ((watchwordlaw0_Num.f t281).bind fun t308 => (if t308 = 1900 then ((near_May.f k t254).bind fun t309 => (some t309)) else (some false))) else (some false))) else (some false))) else (some false))) else (some false))) = some r := by rw [if_neg (show ¬ (false = true) by decide)] at H; exact H
         clear H
         have H := H1
         clear H1
         replace H := Option.bind_eq_some_iff.mp H
         obtain ⟨t298, A200, H⟩ := H
         replace H : (if t298 = 0 then ((watchwordlaw0_SameNears.f k t272 (([(⟨2, 1, 1⟩ : S46)] : List (S46)))).bind fun t302 => (if t302 = true then ((watchwordlaw0_SameInts.f k t273 (([1] : List Int))).bind fun t306 => (if t306 = true then ((watchwordlaw0_Num.f t274).bind fun t307 => (if t307 = 0 then ((watchwordlaw0_Num.f t281).bind fun t308 => (if t308 = 1900 then ((near_May.f k t254).bind fun t309 => (some t309)) else (some false))) else (some false))) else (some false))) else (some false))) else (some false)) = some r := H
         have A20 := Aside0.mk A200
         clear A200
         by_cases c21 : t298 = 0
         ·rw [if_pos c21] at H
          have c21b0 : (t298 == 0) = true := beq_iff_eq.mpr c21
          have c21b1 : (t298 != 0) = false := bne_eq_false_iff_eq.mpr c21
          clear c21
          obtain ⟨y299, hy299⟩ : ∃ y_ : List (S46), y_ = (([(⟨2, 1, 1⟩ : S46)] : List (S46))) := ⟨_, rfl⟩
          replace H : ((watchwordlaw0_SameNears.f k t272 y299).bind fun t302 => (if t302 = true then ((watchwordlaw0_SameInts.f k t273 (([1] : List Int))).bind fun t306 => (if t306 = true then ((watchwordlaw0_Num.f t274).bind fun t307 => (if t307 = 0 then ((watchwordlaw0_Num.f t281).bind fun t308 => (if t308 = 1900 then ((near_May.f k t254).bind fun t309 => (some t309)) else (some false))) else (some false))) else (some false))) else (some false))) = some r := by first | (rw [hy299]; with_reducible exact H) | (have H2_ := (Option.bind_some _ _).symm.trans H; rw [hy299]; with_reducible exact H2_) | (have H2_ := (Option.bind_some _ _).symm.trans H; with_reducible exact H2_) | with_reducible exact H | (rw [hy299]; exact H) | exact H
          have Ny299 := Aside0.mk hy299
          clear hy299
          replace H := Option.bind_eq_some_iff.mp H
          obtain ⟨t302, A220, H⟩ := H
          replace H : (if t302 = true then ((watchwordlaw0_SameInts.f k t273 (([1] : List Int))).bind fun t306 => (if t306 = true then ((watchwordlaw0_Num.f t274).bind fun t307 => (if t307 = 0 then ((watchwordlaw0_Num.f t281).bind fun t308 => (if t308 = 1900 then ((near_May.f k t254).bind fun t309 => (some t309)) else (some false))) else (some false))) else (some false))) else (some false)) = some r := H
          have A22 := Aside0.mk A220
          clear A220
          by_cases c23 : t302 = true
          ·subst c23
           have H1 : ((watchwordlaw0_SameInts.f k t273 (([1] : List Int))).bind fun t306 => (if t306 = true then ((watchwordlaw0_Num.f t274).bind fun t307 => (if t307 = 0 then ((watchwordlaw0_Num.f t281).bind fun t308 => (if t308 = 1900 then ((near_May.f k t254).bind fun t309 => (some t309)) else (some false))) else (some false))) else (some false))) = some r := by rw [if_pos rfl] at H; exact H
           clear H
           have H := H1
           clear H1
           obtain ⟨y303, hy303⟩ : ∃ y_ : List Int, y_ = (([1] : List Int)) := ⟨_, rfl⟩
           replace H : ((watchwordlaw0_SameInts.f k t273 y303).bind fun t306 => (if t306 = true then ((watchwordlaw0_Num.f t274).bind fun t307 => (if t307 = 0 then ((watchwordlaw0_Num.f t281).bind fun t308 => (if t308 = 1900 then ((near_May.f k t254).bind fun t309 => (some t309)) else (some false))) else (some false))) else (some false))) = some r := by first | (rw [hy303]; with_reducible exact H) | (have H2_ := (Option.bind_some _ _).symm.trans H; rw [hy303]; with_reducible exact H2_) | (have H2_ := (Option.bind_some _ _).symm.trans H; with_reducible exact H2_) | with_reducible exact H | (rw [hy303]; exact H) | exact H
           have Ny303 := Aside0.mk hy303
           clear hy303
           replace H := Option.bind_eq_some_iff.mp H
           obtain ⟨t306, A240, H⟩ := H
           replace H : (if t306 = true then ((watchwordlaw0_Num.f t274).bind fun t307 => (if t307 = 0 then ((watchwordlaw0_Num.f t281).bind fun t308 => (if t308 = 1900 then ((near_May.f k t254).bind fun t309 => (some t309)) else (some false))) else (some false))) else (some false)) = some r := H
           have A24 := Aside0.mk A240
           clear A240
           by_cases c25 : t306 = true
           ·subst c25
            have H1 : ((watchwordlaw0_Num.f t274).bind fun t307 => (if t307 = 0 then ((watchwordlaw0_Num.f t281).bind fun t308 => (if t308 = 1900 then ((near_May.f k t254).bind fun t309 => (some t309)) else (some false))) else (some false))) = some r := by rw [if_pos rfl] at H; exact H
            clear H
            have H := H1
            clear H1
            replace H := Option.bind_eq_some_iff.mp H
            obtain ⟨t307, A260, H⟩ := H
            replace H : (if t307 = 0 then ((watchwordlaw0_Num.f t281).bind fun t308 => (if t308 = 1900 then ((near_May.f k t254).bind fun t309 => (some t309)) else (some false))) else (some false)) = some r := H
            have A26 := Aside0.mk A260
            clear A260
            by_cases c27 : t307 = 0
            ·rw [if_pos c27] at H
             have c27b0 : (t307 == 0) = true := beq_iff_eq.mpr c27
             have c27b1 : (t307 != 0) = false := bne_eq_false_iff_eq.mpr c27
             clear c27
             replace H := Option.bind_eq_some_iff.mp H
             obtain ⟨t308, A280, H⟩ := H
             replace H : (if t308 = 1900 then ((near_May.f k t254).bind fun t309 => (some t309)) else (some false)) = some r := H
             have A28 := Aside0.mk A280
             clear A280
             by_cases c29 : t308 = 1900
             ·rw [if_pos c29] at H
              have c29b0 : (t308 == 1900) = true := beq_iff_eq.mpr c29
              have c29b1 : (t308 != 1900) = false := bne_eq_false_iff_eq.mpr c29
              clear c29
              replace H := Option.bind_eq_some_iff.mp H
              obtain ⟨t309, A300, H⟩ := H
              replace H : (some t309) = some r := H
              have A30 := Aside0.mk A300
              clear A300
              obtain rfl := Option.some.inj H
              go_enter Try.func23, Try.ntmps23
              go_upto_region 6 with (first | ((with_reducible refine gate_callee (f := 9) rfl ?_); refine goesL_ (some 17) rfl rfl Try.func9 (by kernel_rfl) rfl #[.slice none 0 0, .int .i64 3, .bool false] rfl (by (try simp only [List.map_toArray, List.map_cons, List.map_nil]); first | done | rfl | (simp only [List.length_drop, List.length_take]; rfl)) ?_; (refine (near_Heard.calls k _ _ ([] : List (S46)) 3 false t254 true t256 _ ?side1 ?side2 A1.out).mono ?_); (case side1 => exact Kd.C_nil _ _); (case side2 => exact Nat.le_refl _); rintro e w31 ⟨v257, rfl, ho0, hb⟩; refine ⟨_, rfl, ?_⟩; have n0_ := Aside0.mk (Kd.R_lower ho0 (below_size (by repeat (first | (with_reducible first | exact HB.out | apply below_alloc | apply pw_below_drewN | apply below_drew1) | exact HB.out)))); have n1_ := Aside0.mk (below_step (by repeat (first | (with_reducible first | exact HB.out | apply below_alloc | apply pw_below_drewN | apply below_drew1) | exact HB.out)) hb); clear HB; have HO258 := n0_; have HB := n1_; clear n0_ n1_; (try clear hb); (try clear hb2); (try clear hk); (try clear hi); (try clear ho0); obtain ⟨Ao32, co32, eo32⟩ := Kd.R_slice HO258.out; subst eo32) | ((with_reducible refine gate_callee (f := 9) rfl ?_); refine goesL_ (some 23) rfl rfl Try.func9 (by kernel_rfl) rfl #[.slice Ao32 t254.length co32, .int .i64 3, .bool true] rfl (by (try simp only [List.map_toArray, List.map_cons, List.map_nil]); first | done | rfl | (simp only [List.length_drop, List.length_take]; rfl)) ?_; (with_reducible refine (near_Heard.calls k _ _ t254 3 true t259 true t261 _ ?side1 ?side2 A2.out).mono ?_); (case side1 => repeat (first | exact (Kd.R_reads' HO258.out).2.2 | (with_reducible refine Kd.C_alloc ?_ _) | (with_reducible refine Kd.C_drewN ?_ _) | (with_reducible refine Kd.C_drew ?_))); (case side2 => exact (Kd.R_reads' HO258.out).2.1); rintro e w33 ⟨v262, rfl, ho0, hb⟩; refine ⟨_, rfl, ?_⟩; have n0_ := Aside0.mk (Kd.R_elder' (by (with_reducible repeat (first | apply Kd.R_alloc | apply Kd.R_drewN | apply Kd.R_drew)); exact HO258.out) (Kd.R_base ho0) hb); have n1_ := Aside0.mk (Kd.R_lower (Kd.R_new' ho0 (Kd.R_lt (by (with_reducible repeat (first | apply Kd.R_alloc | apply Kd.R_drewN | apply Kd.R_drew)); exact HO258.out))) (below_size (by repeat (first | (with_reducible first | exact HB.out | apply below_alloc | apply pw_below_drewN | apply below_drew1) | exact HB.out)))); have n2_ := Aside0.mk (below_step (by repeat (first | (with_reducible first | exact HB.out | apply below_alloc | apply pw_below_drewN | apply below_drew1) | exact HB.out)) hb); clear HO258; clear HB; have HO258 := n0_; have HO263 := n1_; have HB := n2_; clear n0_ n1_ n2_; (try clear hb); (try clear hb2); (try clear hk); (try clear hi); (try clear ho0); obtain ⟨Ao34, co34, eo34⟩ := Kd.R_slice HO263.out; subst eo34) | ((with_reducible refine gate_callee (f := 9) rfl ?_); refine goesL_ (some 29) rfl rfl Try.func9 (by kernel_rfl) rfl #[.slice Ao34 t259.length co34, .int .i64 3, .bool true] rfl (by (try simp only [List.map_toArray, List.map_cons, List.map_nil]); first | done | rfl | (simp only [List.length_drop, List.length_take]; rfl)) ?_; (with_reducible refine (near_Heard.calls k _ _ t259 3 true t264 false t266 _ ?side1 ?side2 A3.out).mono ?_); (case side1 => repeat (first | exact (Kd.R_reads' HO263.out).2.2 | (with_reducible refine Kd.C_alloc ?_ _) | (with_reducible refine Kd.C_drewN ?_ _) | (with_reducible refine Kd.C_drew ?_))); (case side2 => exact (Kd.R_reads' HO263.out).2.1); rintro e w35 ⟨v267, rfl, ho0, hb⟩; refine ⟨_, rfl, ?_⟩; have n0_ := Aside0.mk (Kd.R_elder' (by (with_reducible repeat (first | apply Kd.R_alloc | apply Kd.R_drewN | apply Kd.R_drew)); exact HO258.out) (Kd.R_base ho0) hb); have n1_ := Aside0.mk (Kd.R_elder' (by (with_reducible repeat (first | apply Kd.R_alloc | apply Kd.R_drewN | apply Kd.R_drew)); exact HO263.out) (Kd.R_base ho0) hb); have n2_ := Aside0.mk (Kd.R_lower (Kd.R_new' (Kd.R_new' ho0 (Kd.R_lt (by (with_reducible repeat (first | apply Kd.R_alloc | apply Kd.R_drewN | apply Kd.R_drew)); exact HO258.out))) (Kd.R_lt (by (with_reducible repeat (first | apply Kd.R_alloc | apply Kd.R_drewN | apply Kd.R_drew)); exact HO263.out))) (below_size (by repeat (first | (with_reducible first | exact HB.out | apply below_alloc | apply pw_below_drewN | apply below_drew1) | exact HB.out)))); have n3_ := Aside0.mk (below_step (by repeat (first | (with_reducible first | exact HB.out | apply below_alloc | apply pw_below_drewN | apply below_drew1) | exact HB.out)) hb); clear HO258; clear HO263; clear HB; have HO258 := n0_; have HO263 := n1_; have HO268 := n2_; have HB := n3_; clear n0_ n1_ n2_ n3_; (try clear hb); (try clear hb2); (try clear hk); (try clear hi); (try clear ho0)) | ((with_reducible refine gate_dst (N := 36) rfl ?_); (try (refine gate_guard (by rfl) ?_; dsimp only)); refine Kd.R_lit k46 _ 46 ?hg (N := 36) ?hd (xs := ([(⟨1, 2, 1⟩ : S46), (⟨2, 1, 2⟩ : S46)] : List (S46))) (inner := [.int .i64 1, .int .i64 2, .int .i64 1, .int .i64 2, .int .i64 1, .int .i64 2]) (ok := fun _ => True) (okp := fun _ => True) ?hr ?hp (fun _ hk => hk) trivial (Below.refl _ _) (Nat.le_refl _) (by simp) ?_; (case hd => rfl); (case hg => rfl); (case hr => first | (go_simp; done) | (go_simp; rfl)); (case hp => exact (Reps.c3 (show Kd.M k46 _ _ _ (⟨1, 2, 1⟩ : S46) [.int .i64 1, .int .i64 2, .int .i64 1] from (k46_mkM _ _ _ (⟨1, 2, 1⟩ : S46) )) (Reps.c3 (show Kd.M k46 _ _ _ (⟨2, 1, 2⟩ : S46) [.int .i64 2, .int .i64 1, .int .i64 2] from (k46_mkM _ _ _ (⟨2, 1, 2⟩ : S46) )) (Reps.none _ _)))); intro v270 w36 ho37 hb hg_ hnew_; clear hg_ hnew_; (first | rw [← Ny269.out] at ho37 | (simp only [Int.reduceToNat] at ho37; rw [← Ny269.out] at ho37)); have n0_ := Aside0.mk (Kd.R_elder' (by (with_reducible repeat (first | apply Kd.R_alloc | apply Kd.R_drewN | apply Kd.R_drew)); exact HO258.out) (Kd.R_base ho37) hb); have n1_ := Aside0.mk (Kd.R_elder' (by (with_reducible repeat (first | apply Kd.R_alloc | apply Kd.R_drewN | apply Kd.R_drew)); exact HO263.out) (Kd.R_base ho37) hb); have n2_ := Aside0.mk (Kd.R_elder' (by (with_reducible repeat (first | apply Kd.R_alloc | apply Kd.R_drewN | apply Kd.R_drew)); exact HO268.out) (Kd.R_base ho37) hb); have n3_ := Aside0.mk (Kd.R_lower (Kd.R_new' (Kd.R_new' (Kd.R_new' ho37 (Kd.R_lt (by (with_reducible repeat (first | apply Kd.R_alloc | apply Kd.R_drewN | apply Kd.R_drew)); exact HO258.out))) (Kd.R_lt (by (with_reducible repeat (first | apply Kd.R_alloc | apply Kd.R_drewN | apply Kd.R_drew)); exact HO263.out))) (Kd.R_lt (by (with_reducible repeat (first | apply Kd.R_alloc | apply Kd.R_drewN | apply Kd.R_drew)); exact HO268.out))) (below_size (by repeat (first | (with_reducible first | exact HB.out | apply below_alloc | apply pw_below_drewN | apply below_drew1) | exact HB.out)))); have n4_ := Aside0.mk (below_step (by repeat (first | (with_reducible first | exact HB.out | apply below_alloc | apply pw_below_drewN | apply below_drew1) | exact HB.out)) hb); clear HO258; clear HO263; clear HO268; clear HB; have HO258 := n0_; have HO263 := n1_; have HO268 := n2_; have HO271 := n3_; have HB := n4_; clear n0_ n1_ n2_ n3_ n4_; clear hb ho37; obtain ⟨Ao38, co38, eo38⟩ := Kd.R_slice HO271.out; subst eo38) | ((with_reducible refine gate_callee (f := 11) rfl ?_); refine goesL_ (some 37) rfl rfl Try.func11 (by kernel_rfl) rfl #[.slice Ao38 y269.length co38] rfl (by (try simp only [List.map_toArray, List.map_cons, List.map_nil]); first | done | rfl | (simp only [List.length_drop, List.length_take]; rfl)) ?_; (with_reducible refine (near_Tick.calls k _ _ y269 t272 t273 t274 _ ?side1 ?side2 A4.out).mono ?_); (case side1 => repeat (first | exact (Kd.R_reads' HO271.out).2.2 | (with_reducible refine Kd.C_alloc ?_ _) | (with_reducible refine Kd.C_drewN ?_ _) | (with_reducible refine Kd.C_drew ?_))); (case side2 => exact (Kd.R_reads' HO271.out).2.1); rintro e w39 ⟨v275, v277, rfl, ho0, ho1, hb⟩; refine ⟨_, rfl, ?_⟩; have n0_ := Aside0.mk (Kd.R_elder' (by (with_reducible repeat (first | apply Kd.R_alloc | apply Kd.R_drewN | apply Kd.R_drew)); exact HO258.out) (Kd.R_base ho0) hb); have n1_ := Aside0.mk (Kd.R_elder' (by (with_reducible repeat (first | apply Kd.R_alloc | apply Kd.R_drewN | apply Kd.R_drew)); exact HO263.out) (Kd.R_base ho0) hb); have n2_ := Aside0.mk (Kd.R_elder' (by (with_reducible repeat (first | apply Kd.R_alloc | apply Kd.R_drewN | apply Kd.R_drew)); exact HO268.out) (Kd.R_base ho0) hb); have n3_ := Aside0.mk (Kd.R_elder' (by (with_reducible repeat (first | apply Kd.R_alloc | apply Kd.R_drewN | apply Kd.R_drew)); exact HO271.out) (Kd.R_base ho0) hb); have n4_ := Aside0.mk (Kd.R_lower (Kd.R_new' (Kd.R_new' (Kd.R_new' (Kd.R_new' ho0 (Kd.R_lt (by (with_reducible repeat (first | apply Kd.R_alloc | apply Kd.R_drewN | apply Kd.R_drew)); exact HO258.out))) (Kd.R_lt (by (with_reducible repeat (first | apply Kd.R_alloc | apply Kd.R_drewN | apply Kd.R_drew)); exact HO263.out))) (Kd.R_lt (by (with_reducible repeat (first | apply Kd.R_alloc | apply Kd.R_drewN | apply Kd.R_drew)); exact HO268.out))) (Kd.R_lt (by (with_reducible repeat (first | apply Kd.R_alloc | apply Kd.R_drewN | apply Kd.R_drew)); exact HO271.out))) (below_size (by repeat (first | (with_reducible first | exact HB.out | apply below_alloc | apply pw_below_drewN | apply below_drew1) | exact HB.out)))); have n5_ := Aside0.mk (Kd.R_lower ho1 (below_size (by repeat (first | (with_reducible first | exact HB.out | apply below_alloc | apply pw_below_drewN | apply below_drew1) | exact HB.out)))); have n6_ := Aside0.mk (below_step (by repeat (first | (with_reducible first | exact HB.out | apply below_alloc | apply pw_below_drewN | apply below_drew1) | exact HB.out)) hb); clear HO258; clear HO263; clear HO268; clear HO271; clear HB; have HO258 := n0_; have HO263 := n1_; have HO268 := n2_; have HO271 := n3_; have HO276 := n4_; have HO278 := n5_; have HB := n6_; clear n0_ n1_ n2_ n3_ n4_ n5_ n6_; (try clear hb); (try clear hb2); (try clear hk); (try clear hi); (try clear ho0); (try clear ho1)) | ((with_reducible refine gate_callee (f := 9) rfl ?_); refine goesL_ (some 42) rfl rfl Try.func9 (by kernel_rfl) rfl #[.slice none 0 0, .int .i64 0, .bool true] rfl (by (try simp only [List.map_toArray, List.map_cons, List.map_nil]); first | done | rfl | (simp only [List.length_drop, List.length_take]; rfl)) ?_; (refine (near_Heard.calls k _ _ ([] : List (S46)) 0 true t279 t280 t281 _ ?side1 ?side2 A5.out).mono ?_); (case side1 => exact Kd.C_nil _ _); (case side2 => exact Nat.le_refl _); rintro e w40 ⟨v282, rfl, ho0, hb⟩; refine ⟨_, rfl, ?_⟩; have n0_ := Aside0.mk (Kd.R_elder' (by (with_reducible repeat (first | apply Kd.R_alloc | apply Kd.R_drewN | apply Kd.R_drew)); exact HO258.out) (Kd.R_base ho0) hb); have n1_ := Aside0.mk (Kd.R_elder' (by (with_reducible repeat (first | apply Kd.R_alloc | apply Kd.R_drewN | apply Kd.R_drew)); exact HO263.out) (Kd.R_base ho0) hb); have n2_ := Aside0.mk (Kd.R_elder' (by (with_reducible repeat (first | apply Kd.R_alloc | apply Kd.R_drewN | apply Kd.R_drew)); exact HO268.out) (Kd.R_base ho0) hb); have n3_ := Aside0.mk (Kd.R_elder' (by (with_reducible repeat (first | apply Kd.R_alloc | apply Kd.R_drewN | apply Kd.R_drew)); exact HO271.out) (Kd.R_base ho0) hb); have n4_ := Aside0.mk (Kd.R_elder' (by (with_reducible repeat (first | apply Kd.R_alloc | apply Kd.R_drewN | apply Kd.R_drew)); exact HO276.out) (Kd.R_base ho0) hb); have n5_ := Aside0.mk (Kd.R_below (by (with_reducible repeat (first | apply Kd.R_alloc | apply Kd.R_drewN | apply Kd.R_drew)); exact HO278.out) hb); have n6_ := Aside0.mk (Kd.R_lower (Kd.R_new' (Kd.R_new' (Kd.R_new' (Kd.R_new' (Kd.R_new' ho0 (Kd.R_lt (by (with_reducible repeat (first | apply Kd.R_alloc | apply Kd.R_drewN | apply Kd.R_drew)); exact HO258.out))) (Kd.R_lt (by (with_reducible repeat (first | apply Kd.R_alloc | apply Kd.R_drewN | apply Kd.R_drew)); exact HO263.out))) (Kd.R_lt (by (with_reducible repeat (first | apply Kd.R_alloc | apply Kd.R_drewN | apply Kd.R_drew)); exact HO268.out))) (Kd.R_lt (by (with_reducible repeat (first | apply Kd.R_alloc | apply Kd.R_drewN | apply Kd.R_drew)); exact HO271.out))) (Kd.R_lt (by (with_reducible repeat (first | apply Kd.R_alloc | apply Kd.R_drewN | apply Kd.R_drew)); exact HO276.out))) (below_size (by repeat (first | (with_reducible first | exact HB.out | apply below_alloc | apply pw_below_drewN | apply below_drew1) | exact HB.out)))); have n7_ := Aside0.mk (below_step (by repeat (first | (with_reducible first | exact HB.out | apply below_alloc | apply pw_below_drewN | apply below_drew1) | exact HB.out)) hb); clear HO258; clear HO263; clear HO268; clear HO271; clear HO276; clear HO278; clear HB; have HO258 := n0_; have HO263 := n1_; have HO268 := n2_; have HO271 := n3_; have HO276 := n4_; have HO278 := n5_; have HO283 := n6_; have HB := n7_; clear n0_ n1_ n2_ n3_ n4_ n5_ n6_ n7_; (try clear hb); (try clear hb2); (try clear hk); (try clear hi); (try clear ho0)) | ((with_reducible refine gate_dst (N := 48) rfl ?_); (try (refine gate_guard (by rfl) ?_; dsimp only)); refine Kd.R_lit k46 _ 46 ?hg (N := 48) ?hd (xs := ([(⟨3, 1, 16⟩ : S46)] : List (S46))) (inner := [.int .i64 3, .int .i64 1, .int .i64 16]) (ok := fun _ => True) (okp := fun _ => True) ?hr ?hp (fun _ hk => hk) trivial (Below.refl _ _) (Nat.le_refl _) (by simp) ?_; (case hd => rfl); (case hg => rfl); (case hr => first | (go_simp; done) | (go_simp; rfl)); (case hp => exact (Reps.c3 (show Kd.M k46 _ _ _ (⟨3, 1, 16⟩ : S46) [.int .i64 3, .int .i64 1, .int .i64 16] from (k46_mkM _ _ _ (⟨3, 1, 16⟩ : S46) )) (Reps.none _ _))); intro v285 w41 ho42 hb hg_ hnew_; clear hg_ hnew_; (first | rw [← Ny284.out] at ho42 | (simp only [Int.reduceToNat] at ho42; rw [← Ny284.out] at ho42)); have n0_ := Aside0.mk (Kd.R_elder' (by (with_reducible repeat (first | apply Kd.R_alloc | apply Kd.R_drewN | apply Kd.R_drew)); exact HO258.out) (Kd.R_base ho42) hb); have n1_ := Aside0.mk (Kd.R_elder' (by (with_reducible repeat (first | apply Kd.R_alloc | apply Kd.R_drewN | apply Kd.R_drew)); exact HO263.out) (Kd.R_base ho42) hb); have n2_ := Aside0.mk (Kd.R_elder' (by (with_reducible repeat (first | apply Kd.R_alloc | apply Kd.R_drewN | apply Kd.R_drew)); exact HO268.out) (Kd.R_base ho42) hb); have n3_ := Aside0.mk (Kd.R_elder' (by (with_reducible repeat (first | apply Kd.R_alloc | apply Kd.R_drewN | apply Kd.R_drew)); exact HO271.out) (Kd.R_base ho42) hb); have n4_ := Aside0.mk (Kd.R_elder' (by (with_reducible repeat (first | apply Kd.R_alloc | apply Kd.R_drewN | apply Kd.R_drew)); exact HO276.out) (Kd.R_base ho42) hb); have n5_ := Aside0.mk (Kd.R_below (by (with_reducible repeat (first | apply Kd.R_alloc | apply Kd.R_drewN | apply Kd.R_drew)); exact HO278.out) hb); have n6_ := Aside0.mk (Kd.R_elder' (by (with_reducible repeat (first | apply Kd.R_alloc | apply Kd.R_drewN | apply Kd.R_drew)); exact HO283.out) (Kd.R_base ho42) hb); have n7_ := Aside0.mk (Kd.R_lower (Kd.R_new' (Kd.R_new' (Kd.R_new' (Kd.R_new' (Kd.R_new' (Kd.R_new' ho42 (Kd.R_lt (by (with_reducible repeat (first | apply Kd.R_alloc | apply Kd.R_drewN | apply Kd.R_drew)); exact HO258.out))) (Kd.R_lt (by (with_reducible repeat (first | apply Kd.R_alloc | apply Kd.R_drewN | apply Kd.R_drew)); exact HO263.out))) (Kd.R_lt (by (with_reducible repeat (first | apply Kd.R_alloc | apply Kd.R_drewN | apply Kd.R_drew)); exact HO268.out))) (Kd.R_lt (by (with_reducible repeat (first | apply Kd.R_alloc | apply Kd.R_drewN | apply Kd.R_drew)); exact HO271.out))) (Kd.R_lt (by (with_reducible repeat (first | apply Kd.R_alloc | apply Kd.R_drewN | apply Kd.R_drew)); exact HO276.out))) (Kd.R_lt (by (with_reducible repeat (first | apply Kd.R_alloc | apply Kd.R_drewN | apply Kd.R_drew)); exact HO283.out))) (below_size (by repeat (first | (with_reducible first | exact HB.out | apply below_alloc | apply pw_below_drewN | apply below_drew1) | exact HB.out)))); have n8_ := Aside0.mk (below_step (by repeat (first | (with_reducible first | exact HB.out | apply below_alloc | apply pw_below_drewN | apply below_drew1) | exact HB.out)) hb); clear HO258; clear HO263; clear HO268; clear HO271; clear HO276; clear HO278; clear HO283; clear HB; have HO258 := n0_; have HO263 := n1_; have HO268 := n2_; have HO271 := n3_; have HO276 := n4_; have HO278 := n5_; have HO283 := n6_; have HO286 := n7_; have HB := n8_; clear n0_ n1_ n2_ n3_ n4_ n5_ n6_ n7_ n8_; clear hb ho42; obtain ⟨Ao43, co43, eo43⟩ := Kd.R_slice HO286.out; subst eo43) | ((with_reducible refine gate_callee (f := 14) rfl ?_); refine goesL_ (some 49) rfl rfl Try.func14 (by kernel_rfl) rfl #[.slice Ao32 t254.length co32, .slice Ao43 y284.length co43] rfl (by (try simp only [List.map_toArray, List.map_cons, List.map_nil]); first | done | rfl | (simp only [List.length_drop, List.length_take]; rfl)) ?_; (with_reducible refine (watchwordlaw0_SameNears.calls k _ _ t254 _ _ y284 true _ ?side1 ?side2 ?side3 ?side4 A6.out).mono ?_); (case side1 => repeat (first | exact (Kd.R_reads' HO258.out).2.2 | (with_reducible refine Kd.C_alloc ?_ _) | (with_reducible refine Kd.C_drewN ?_ _) | (with_reducible refine Kd.C_drew ?_))); (case side2 => exact (Kd.R_reads' HO258.out).2.1); (case side3 => repeat (first | exact (Kd.R_reads' HO286.out).2.2 | (with_reducible refine Kd.C_alloc ?_ _) | (with_reducible refine Kd.C_drewN ?_ _) | (with_reducible refine Kd.C_drew ?_))); (case side4 => exact (Kd.R_reads' HO286.out).2.1); rintro e w' ⟨rfl, ⟨nd, rfl⟩⟩; refine ⟨_, rfl, ?_⟩) | (go_at_call 15; (with_reducible refine (watchwordlaw0_Num.calls t256 t288 _ A9.out).mono ?_); rintro e w' ⟨rfl, ⟨nd, rfl⟩⟩) | (go_at_call 13; (with_reducible refine (near_Full.calls k _ _ t259 t289 _ ?side1 ?side2 A11.out).mono ?_); (case side1 => repeat (first | exact (Kd.R_reads' HO263.out).2.2 | (with_reducible refine Kd.C_alloc ?_ _) | (with_reducible refine Kd.C_drewN ?_ _) | (with_reducible refine Kd.C_drew ?_))); (case side2 => exact (Kd.R_reads' HO263.out).2.1); rintro e w44 ⟨v290, rfl, ho0, hb⟩; have n0_ := Aside0.mk (Kd.R_below (by (with_reducible repeat (first | apply Kd.R_alloc | apply Kd.R_drewN | apply Kd.R_drew)); exact HO258.out) hb); have n1_ := Aside0.mk (Kd.R_below (by (with_reducible repeat (first | apply Kd.R_alloc | apply Kd.R_drewN | apply Kd.R_drew)); exact HO263.out) hb); have n2_ := Aside0.mk (Kd.R_below (by (with_reducible repeat (first | apply Kd.R_alloc | apply Kd.R_drewN | apply Kd.R_drew)); exact HO268.out) hb); have n3_ := Aside0.mk (Kd.R_below (by (with_reducible repeat (first | apply Kd.R_alloc | apply Kd.R_drewN | apply Kd.R_drew)); exact HO271.out) hb); have n4_ := Aside0.mk (Kd.R_below (by (with_reducible repeat (first | apply Kd.R_alloc | apply Kd.R_drewN | apply Kd.R_drew)); exact HO276.out) hb); have n5_ := Aside0.mk (Kd.R_elder' (by (with_reducible repeat (first | apply Kd.R_alloc | apply Kd.R_drewN | apply Kd.R_drew)); exact HO278.out) (Kd.R_base ho0) hb); have n6_ := Aside0.mk (Kd.R_below (by (with_reducible repeat (first | apply Kd.R_alloc | apply Kd.R_drewN | apply Kd.R_drew)); exact HO283.out) hb); have n7_ := Aside0.mk (Kd.R_below (by (with_reducible repeat (first | apply Kd.R_alloc | apply Kd.R_drewN | apply Kd.R_drew)); exact HO286.out) hb); have n8_ := Aside0.mk (Kd.R_lower (Kd.R_new' ho0 (Kd.R_lt (by (with_reducible repeat (first | apply Kd.R_alloc | apply Kd.R_drewN | apply Kd.R_drew)); exact HO278.out))) (below_size (by repeat (first | (with_reducible first | exact HB.out | apply below_alloc | apply pw_below_drewN | apply below_drew1) | exact HB.out)))); have n9_ := Aside0.mk (below_step (by repeat (first | (with_reducible first | exact HB.out | apply below_alloc | apply pw_below_drewN | apply below_drew1) | exact HB.out)) hb); clear HO258; clear HO263; clear HO268; clear HO271; clear HO276; clear HO278; clear HO283; clear HO286; clear HB; have HO258 := n0_; have HO263 := n1_; have HO268 := n2_; have HO271 := n3_; have HO276 := n4_; have HO278 := n5_; have HO283 := n6_; have HO286 := n7_; have HO291 := n8_; have HB := n9_; clear n0_ n1_ n2_ n3_ n4_ n5_ n6_ n7_ n8_ n9_; (try clear hb); (try clear hb2); (try clear hk); (try clear hi); (try clear ho0)) | ((with_reducible refine gate_dst (N := 61) rfl ?_); (try (refine gate_guard (by rfl) ?_; dsimp only)); refine Kd.R_lit (Kd.int .i64) _ 3 ?hg (N := 61) ?hd (xs := ([3] : List Int)) (inner := [.int .i64 3]) (ok := fun _ => True) (okp := fun _ => True) ?hr ?hp (fun _ hk => hk) trivial (Below.refl _ _) (Nat.le_refl _) (by simp) ?_; (case hd => rfl); (case hg => rfl); (case hr => first | (go_simp; done) | (go_simp; rfl)); (case hp => exact (Reps.one (show Kd.M (Kd.int .i64) _ _ _ 3 [.int .i64 3] from rfl) (Reps.none _ _))); intro v293 w45 ho46 hb hg_ hnew_; clear hg_ hnew_; (first | rw [← Ny292.out] at ho46 | (simp only [Int.reduceToNat] at ho46; rw [← Ny292.out] at ho46)); have n0_ := Aside0.mk (Kd.R_below (by (with_reducible repeat (first | apply Kd.R_alloc | apply Kd.R_drewN | apply Kd.R_drew)); exact HO258.out) hb); have n1_ := Aside0.mk (Kd.R_below (by (with_reducible repeat (first | apply Kd.R_alloc | apply Kd.R_drewN | apply Kd.R_drew)); exact HO263.out) hb); have n2_ := Aside0.mk (Kd.R_below (by (with_reducible repeat (first | apply Kd.R_alloc | apply Kd.R_drewN | apply Kd.R_drew)); exact HO268.out) hb); have n3_ := Aside0.mk (Kd.R_below (by (with_reducible repeat (first | apply Kd.R_alloc | apply Kd.R_drewN | apply Kd.R_drew)); exact HO271.out) hb); have n4_ := Aside0.mk (Kd.R_below (by (with_reducible repeat (first | apply Kd.R_alloc | apply Kd.R_drewN | apply Kd.R_drew)); exact HO276.out) hb); have n5_ := Aside0.mk (Kd.R_elder' (by (with_reducible repeat (first | apply Kd.R_alloc | apply Kd.R_drewN | apply Kd.R_drew)); exact HO278.out) (Kd.R_base ho46) hb); have n6_ := Aside0.mk (Kd.R_below (by (with_reducible repeat (first | apply Kd.R_alloc | apply Kd.R_drewN | apply Kd.R_drew)); exact HO283.out) hb); have n7_ := Aside0.mk (Kd.R_below (by (with_reducible repeat (first | apply Kd.R_alloc | apply Kd.R_drewN | apply Kd.R_drew)); exact HO286.out) hb); have n8_ := Aside0.mk (Kd.R_elder' (by (with_reducible repeat (first | apply Kd.R_alloc | apply Kd.R_drewN | apply Kd.R_drew)); exact HO291.out) (Kd.R_base ho46) hb); have n9_ := Aside0.mk (Kd.R_lower (Kd.R_new' (Kd.R_new' ho46 (Kd.R_lt (by (with_reducible repeat (first | apply Kd.R_alloc | apply Kd.R_drewN | apply Kd.R_drew)); exact HO278.out))) (Kd.R_lt (by (with_reducible repeat (first | apply Kd.R_alloc | apply Kd.R_drewN | apply Kd.R_drew)); exact HO291.out))) (below_size (by repeat (first | (with_reducible first | exact HB.out | apply below_alloc | apply pw_below_drewN | apply below_drew1) | exact HB.out)))); have n10_ := Aside0.mk (below_step (by repeat (first | (with_reducible first | exact HB.out | apply below_alloc | apply pw_below_drewN | apply below_drew1) | exact HB.out)) hb); clear HO258; clear HO263; clear HO268; clear HO271; clear HO276; clear HO278; clear HO283; clear HO286; clear HO291; clear HB; have HO258 := n0_; have HO263 := n1_; have HO268 := n2_; have HO271 := n3_; have HO276 := n4_; have HO278 := n5_; have HO283 := n6_; have HO286 := n7_; have HO291 := n8_; have HO294 := n9_; have HB := n10_; clear n0_ n1_ n2_ n3_ n4_ n5_ n6_ n7_ n8_ n9_ n10_; clear hb ho46; obtain ⟨Ao47, co47, eo47⟩ := Kd.R_slice HO291.out; subst eo47; obtain ⟨Ao48, co48, eo48⟩ := Kd.R_slice HO294.out; subst eo48) | (go_at_call 16; (with_reducible refine (watchwordlaw0_SameInts.calls k _ _ t289 _ _ y292 true _ ?side1 ?side2 ?side3 ?side4 A12.out).mono ?_); (case side1 => repeat (first | exact (Kd.R_reads' HO291.out).2.2 | (with_reducible refine Kd.C_alloc ?_ _) | (with_reducible refine Kd.C_drewN ?_ _) | (with_reducible refine Kd.C_drew ?_))); (case side2 => exact (Kd.R_reads' HO291.out).2.1); (case side3 => repeat (first | exact (Kd.R_reads' HO294.out).2.2 | (with_reducible refine Kd.C_alloc ?_ _) | (with_reducible refine Kd.C_drewN ?_ _) | (with_reducible refine Kd.C_drew ?_))); (case side4 => exact (Kd.R_reads' HO294.out).2.1); rintro e w' ⟨rfl, ⟨nd, rfl⟩⟩) | (go_at_call 15; (with_reducible refine (watchwordlaw0_Num.calls t261 t296 _ A15.out).mono ?_); rintro e w' ⟨rfl, ⟨nd, rfl⟩⟩; obtain ⟨Ao49, co49, eo49⟩ := Kd.R_slice HO268.out; subst eo49) | (go_at_call 14; (with_reducible refine (watchwordlaw0_SameNears.calls k _ _ t259 _ _ t264 true _ ?side1 ?side2 ?side3 ?side4 A17.out).mono ?_); (case side1 => repeat (first | exact (Kd.R_reads' HO263.out).2.2 | (with_reducible refine Kd.C_alloc ?_ _) | (with_reducible refine Kd.C_drewN ?_ _) | (with_reducible refine Kd.C_drew ?_))); (case side2 => exact (Kd.R_reads' HO263.out).2.1); (case side3 => repeat (first | exact (Kd.R_reads' HO268.out).2.2 | (with_reducible refine Kd.C_alloc ?_ _) | (with_reducible refine Kd.C_drewN ?_ _) | (with_reducible refine Kd.C_drew ?_))); (case side4 => exact (Kd.R_reads' HO268.out).2.1); rintro e w' ⟨rfl, ⟨nd, rfl⟩⟩) | (go_at_call 15; (with_reducible refine (watchwordlaw0_Num.calls t266 t298 _ A20.out).mono ?_); rintro e w' ⟨rfl, ⟨nd, rfl⟩⟩) | ((with_reducible refine gate_dst (N := 89) rfl ?_); (try (refine gate_guard (by rfl) ?_; dsimp only)); refine Kd.R_lit k46 _ 46 ?hg (N := 89) ?hd (xs := ([(⟨2, 1, 1⟩ : S46)] : List (S46))) (inner := [.int .i64 2, .int .i64 1, .int .i64 1]) (ok := fun _ => True) (okp := fun _ => True) ?hr ?hp (fun _ hk => hk) trivial (Below.refl _ _) (Nat.le_refl _) (by simp) ?_; (case hd => rfl); (case hg => rfl); (case hr => first | (go_simp; done) | (go_simp; rfl)); (case hp => exact (Reps.c3 (show Kd.M k46 _ _ _ (⟨2, 1, 1⟩ : S46) [.int .i64 2, .int .i64 1, .int .i64 1] from (k46_mkM _ _ _ (⟨2, 1, 1⟩ : S46) )) (Reps.none _ _))); intro v300 w50 ho51 hb hg_ hnew_; clear hg_ hnew_; (first | rw [← Ny299.out] at ho51 | (simp only [Int.reduceToNat] at ho51; rw [← Ny299.out] at ho51)); have n0_ := Aside0.mk (Kd.R_elder' (by (with_reducible repeat (first | apply Kd.R_alloc | apply Kd.R_drewN | apply Kd.R_drew)); exact HO258.out) (Kd.R_base ho51) hb); have n1_ := Aside0.mk (Kd.R_elder' (by (with_reducible repeat (first | apply Kd.R_alloc | apply Kd.R_drewN | apply Kd.R_drew)); exact HO263.out) (Kd.R_base ho51) hb); have n2_ := Aside0.mk (Kd.R_elder' (by (with_reducible repeat (first | apply Kd.R_alloc | apply Kd.R_drewN | apply Kd.R_drew)); exact HO268.out) (Kd.R_base ho51) hb); have n3_ := Aside0.mk (Kd.R_elder' (by (with_reducible repeat (first | apply Kd.R_alloc | apply Kd.R_drewN | apply Kd.R_drew)); exact HO271.out) (Kd.R_base ho51) hb); have n4_ := Aside0.mk (Kd.R_elder' (by (with_reducible repeat (first | apply Kd.R_alloc | apply Kd.R_drewN | apply Kd.R_drew)); exact HO276.out) (Kd.R_base ho51) hb); have n5_ := Aside0.mk (Kd.R_below (by (with_reducible repeat (first | apply Kd.R_alloc | apply Kd.R_drewN | apply Kd.R_drew)); exact HO278.out) hb); have n6_ := Aside0.mk (Kd.R_elder' (by (with_reducible repeat (first | apply Kd.R_alloc | apply Kd.R_drewN | apply Kd.R_drew)); exact HO283.out) (Kd.R_base ho51) hb); have n7_ := Aside0.mk (Kd.R_elder' (by (with_reducible repeat (first | apply Kd.R_alloc | apply Kd.R_drewN | apply Kd.R_drew)); exact HO286.out) (Kd.R_base ho51) hb); have n8_ := Aside0.mk (Kd.R_below (by (with_reducible repeat (first | apply Kd.R_alloc | apply Kd.R_drewN | apply Kd.R_drew)); exact HO291.out) hb); have n9_ := Aside0.mk (Kd.R_below (by (with_reducible repeat (first | apply Kd.R_alloc | apply Kd.R_drewN | apply Kd.R_drew)); exact HO294.out) hb); have n10_ := Aside0.mk (Kd.R_lower (Kd.R_new' (Kd.R_new' (Kd.R_new' (Kd.R_new' (Kd.R_new' (Kd.R_new' (Kd.R_new' ho51 (Kd.R_lt (by (with_reducible repeat (first | apply Kd.R_alloc | apply Kd.R_drewN | apply Kd.R_drew)); exact HO258.out))) (Kd.R_lt (by (with_reducible repeat (first | apply Kd.R_alloc | apply Kd.R_drewN | apply Kd.R_drew)); exact HO263.out))) (Kd.R_lt (by (with_reducible repeat (first | apply Kd.R_alloc | apply Kd.R_drewN | apply Kd.R_drew)); exact HO268.out))) (Kd.R_lt (by (with_reducible repeat (first | apply Kd.R_alloc | apply Kd.R_drewN | apply Kd.R_drew)); exact HO271.out))) (Kd.R_lt (by (with_reducible repeat (first | apply Kd.R_alloc | apply Kd.R_drewN | apply Kd.R_drew)); exact HO276.out))) (Kd.R_lt (by (with_reducible repeat (first | apply Kd.R_alloc | apply Kd.R_drewN | apply Kd.R_drew)); exact HO283.out))) (Kd.R_lt (by (with_reducible repeat (first | apply Kd.R_alloc | apply Kd.R_drewN | apply Kd.R_drew)); exact HO286.out))) (below_size (by repeat (first | (with_reducible first | exact HB.out | apply below_alloc | apply pw_below_drewN | apply below_drew1) | exact HB.out)))); have n11_ := Aside0.mk (below_step (by repeat (first | (with_reducible first | exact HB.out | apply below_alloc | apply pw_below_drewN | apply below_drew1) | exact HB.out)) hb); clear HO258; clear HO263; clear HO268; clear HO271; clear HO276; clear HO278; clear HO283; clear HO286; clear HO291; clear HO294; clear HB; have HO258 := n0_; have HO263 := n1_; have HO268 := n2_; have HO271 := n3_; have HO276 := n4_; have HO278 := n5_; have HO283 := n6_; have HO286 := n7_; have HO291 := n8_; have HO294 := n9_; have HO301 := n10_; have HB := n11_; clear n0_ n1_ n2_ n3_ n4_ n5_ n6_ n7_ n8_ n9_ n10_ n11_; clear hb ho51; obtain ⟨Ao52, co52, eo52⟩ := Kd.R_slice HO276.out; subst eo52; obtain ⟨Ao53, co53, eo53⟩ := Kd.R_slice HO301.out; subst eo53) | (go_at_call 14; (with_reducible refine (watchwordlaw0_SameNears.calls k _ _ t272 _ _ y299 true _ ?side1 ?side2 ?side3 ?side4 A22.out).mono ?_); (case side1 => repeat (first | exact (Kd.R_reads' HO276.out).2.2 | (with_reducible refine Kd.C_alloc ?_ _) | (with_reducible refine Kd.C_drewN ?_ _) | (with_reducible refine Kd.C_drew ?_))); (case side2 => exact (Kd.R_reads' HO276.out).2.1); (case side3 => repeat (first | exact (Kd.R_reads' HO301.out).2.2 | (with_reducible refine Kd.C_alloc ?_ _) | (with_reducible refine Kd.C_drewN ?_ _) | (with_reducible refine Kd.C_drew ?_))); (case side4 => exact (Kd.R_reads' HO301.out).2.1); rintro e w' ⟨rfl, ⟨nd, rfl⟩⟩) | ((with_reducible refine gate_dst (N := 94) rfl ?_); (try (refine gate_guard (by rfl) ?_; dsimp only)); refine Kd.R_lit (Kd.int .i64) _ 3 ?hg (N := 94) ?hd (xs := ([1] : List Int)) (inner := [.int .i64 1]) (ok := fun _ => True) (okp := fun _ => True) ?hr ?hp (fun _ hk => hk) trivial (Below.refl _ _) (Nat.le_refl _) (by simp) ?_; (case hd => rfl); (case hg => rfl); (case hr => first | (go_simp; done) | (go_simp; rfl)); (case hp => exact (Reps.one (show Kd.M (Kd.int .i64) _ _ _ 1 [.int .i64 1] from rfl) (Reps.none _ _))); intro v304 w54 ho55 hb hg_ hnew_; clear hg_ hnew_; (first | rw [← Ny303.out] at ho55 | (simp only [Int.reduceToNat] at ho55; rw [← Ny303.out] at ho55)); have n0_ := Aside0.mk (Kd.R_below (by (with_reducible repeat (first | apply Kd.R_alloc | apply Kd.R_drewN | apply Kd.R_drew)); exact HO258.out) hb); have n1_ := Aside0.mk (Kd.R_below (by (with_reducible repeat (first | apply Kd.R_alloc | apply Kd.R_drewN | apply Kd.R_drew)); exact HO263.out) hb); have n2_ := Aside0.mk (Kd.R_below (by (with_reducible repeat (first | apply Kd.R_alloc | apply Kd.R_drewN | apply Kd.R_drew)); exact HO268.out) hb); have n3_ := Aside0.mk (Kd.R_below (by (with_reducible repeat (first | apply Kd.R_alloc | apply Kd.R_drewN | apply Kd.R_drew)); exact HO271.out) hb); have n4_ := Aside0.mk (Kd.R_below (by (with_reducible repeat (first | apply Kd.R_alloc | apply Kd.R_drewN | apply Kd.R_drew)); exact HO276.out) hb); have n5_ := Aside0.mk (Kd.R_elder' (by (with_reducible repeat (first | apply Kd.R_alloc | apply Kd.R_drewN | apply Kd.R_drew)); exact HO278.out) (Kd.R_base ho55) hb); have n6_ := Aside0.mk (Kd.R_below (by (with_reducible repeat (first | apply Kd.R_alloc | apply Kd.R_drewN | apply Kd.R_drew)); exact HO283.out) hb); have n7_ := Aside0.mk (Kd.R_below (by (with_reducible repeat (first | apply Kd.R_alloc | apply Kd.R_drewN | apply Kd.R_drew)); exact HO286.out) hb); have n8_ := Aside0.mk (Kd.R_elder' (by (with_reducible repeat (first | apply Kd.R_alloc | apply Kd.R_drewN | apply Kd.R_drew)); exact HO291.out) (Kd.R_base ho55) hb); have n9_ := Aside0.mk (Kd.R_elder' (by (with_reducible repeat (first | apply Kd.R_alloc | apply Kd.R_drewN | apply Kd.R_drew)); exact HO294.out) (Kd.R_base ho55) hb); have n10_ := Aside0.mk (Kd.R_below (by (with_reducible repeat (first | apply Kd.R_alloc | apply Kd.R_drewN | apply Kd.R_drew)); exact HO301.out) hb); have n11_ := Aside0.mk (Kd.R_lower (Kd.R_new' (Kd.R_new' (Kd.R_new' ho55 (Kd.R_lt (by (with_reducible repeat (first | apply Kd.R_alloc | apply Kd.R_drewN | apply Kd.R_drew)); exact HO278.out))) (Kd.R_lt (by (with_reducible repeat (first | apply Kd.R_alloc | apply Kd.R_drewN | apply Kd.R_drew)); exact HO291.out))) (Kd.R_lt (by (with_reducible repeat (first | apply Kd.R_alloc | apply Kd.R_drewN | apply Kd.R_drew)); exact HO294.out))) (below_size (by repeat (first | (with_reducible first | exact HB.out | apply below_alloc | apply pw_below_drewN | apply below_drew1) | exact HB.out)))); have n12_ := Aside0.mk (below_step (by repeat (first | (with_reducible first | exact HB.out | apply below_alloc | apply pw_below_drewN | apply below_drew1) | exact HB.out)) hb); clear HO258; clear HO263; clear HO268; clear HO271; clear HO276; clear HO278; clear HO283; clear HO286; clear HO291; clear HO294; clear HO301; clear HB; have HO258 := n0_; have HO263 := n1_; have HO268 := n2_; have HO271 := n3_; have HO276 := n4_; have HO278 := n5_; have HO283 := n6_; have HO286 := n7_; have HO291 := n8_; have HO294 := n9_; have HO301 := n10_; have HO305 := n11_; have HB := n12_; clear n0_ n1_ n2_ n3_ n4_ n5_ n6_ n7_ n8_ n9_ n10_ n11_ n12_; clear hb ho55; obtain ⟨Ao56, co56, eo56⟩ := Kd.R_slice HO278.out; subst eo56; obtain ⟨Ao57, co57, eo57⟩ := Kd.R_slice HO305.out; subst eo57) | (go_at_call 16; (with_reducible refine (watchwordlaw0_SameInts.calls k _ _ t273 _ _ y303 true _ ?side1 ?side2 ?side3 ?side4 A24.out).mono ?_); (case side1 => repeat (first | exact (Kd.R_reads' HO278.out).2.2 | (with_reducible refine Kd.C_alloc ?_ _) | (with_reducible refine Kd.C_drewN ?_ _) | (with_reducible refine Kd.C_drew ?_))); (case side2 => exact (Kd.R_reads' HO278.out).2.1); (case side3 => repeat (first | exact (Kd.R_reads' HO305.out).2.2 | (with_reducible refine Kd.C_alloc ?_ _) | (with_reducible refine Kd.C_drewN ?_ _) | (with_reducible refine Kd.C_drew ?_))); (case side4 => exact (Kd.R_reads' HO305.out).2.1); rintro e w' ⟨rfl, ⟨nd, rfl⟩⟩) | (go_at_call 15; (with_reducible refine (watchwordlaw0_Num.calls t274 t307 _ A26.out).mono ?_); rintro e w' ⟨rfl, ⟨nd, rfl⟩⟩) | (go_at_call 15; (with_reducible refine (watchwordlaw0_Num.calls t281 t308 _ A28.out).mono ?_); rintro e w' ⟨rfl, ⟨nd, rfl⟩⟩) | (go_at_call 18; (with_reducible refine (near_May.calls k _ _ t254 t309 _ ?side1 ?side2 A30.out).mono ?_); (case side1 => repeat (first | exact (Kd.R_reads' HO258.out).2.2 | (with_reducible refine Kd.C_alloc ?_ _) | (with_reducible refine Kd.C_drewN ?_ _) | (with_reducible refine Kd.C_drew ?_))); (case side2 => exact (Kd.R_reads' HO258.out).2.1); rintro e w58 ⟨rfl, hb⟩; have n0_ := Aside0.mk (Kd.R_below (by (with_reducible repeat (first | apply Kd.R_alloc | apply Kd.R_drewN | apply Kd.R_drew)); exact HO258.out) hb); have n1_ := Aside0.mk (Kd.R_below (by (with_reducible repeat (first | apply Kd.R_alloc | apply Kd.R_drewN | apply Kd.R_drew)); exact HO263.out) hb); have n2_ := Aside0.mk (Kd.R_below (by (with_reducible repeat (first | apply Kd.R_alloc | apply Kd.R_drewN | apply Kd.R_drew)); exact HO268.out) hb); have n3_ := Aside0.mk (Kd.R_below (by (with_reducible repeat (first | apply Kd.R_alloc | apply Kd.R_drewN | apply Kd.R_drew)); exact HO271.out) hb); have n4_ := Aside0.mk (Kd.R_below (by (with_reducible repeat (first | apply Kd.R_alloc | apply Kd.R_drewN | apply Kd.R_drew)); exact HO276.out) hb); have n5_ := Aside0.mk (Kd.R_below (by (with_reducible repeat (first | apply Kd.R_alloc | apply Kd.R_drewN | apply Kd.R_drew)); exact HO278.out) hb); have n6_ := Aside0.mk (Kd.R_below (by (with_reducible repeat (first | apply Kd.R_alloc | apply Kd.R_drewN | apply Kd.R_drew)); exact HO283.out) hb); have n7_ := Aside0.mk (Kd.R_below (by (with_reducible repeat (first | apply Kd.R_alloc | apply Kd.R_drewN | apply Kd.R_drew)); exact HO286.out) hb); have n8_ := Aside0.mk (Kd.R_below (by (with_reducible repeat (first | apply Kd.R_alloc | apply Kd.R_drewN | apply Kd.R_drew)); exact HO291.out) hb); have n9_ := Aside0.mk (Kd.R_below (by (with_reducible repeat (first | apply Kd.R_alloc | apply Kd.R_drewN | apply Kd.R_drew)); exact HO294.out) hb); have n10_ := Aside0.mk (Kd.R_below (by (with_reducible repeat (first | apply Kd.R_alloc | apply Kd.R_drewN | apply Kd.R_drew)); exact HO301.out) hb); have n11_ := Aside0.mk (Kd.R_below (by (with_reducible repeat (first | apply Kd.R_alloc | apply Kd.R_drewN | apply Kd.R_drew)); exact HO305.out) hb); have n12_ := Aside0.mk (below_step (by repeat (first | (with_reducible first | exact HB.out | apply below_alloc | apply pw_below_drewN | apply below_drew1) | exact HB.out)) hb); clear HO258; clear HO263; clear HO268; clear HO271; clear HO276; clear HO278; clear HO283; clear HO286; clear HO291; clear HO294; clear HO301; clear HO305; clear HB; have HO258 := n0_; have HO263 := n1_; have HO268 := n2_; have HO271 := n3_; have HO276 := n4_; have HO278 := n5_; have HO283 := n6_; have HO286 := n7_; have HO291 := n8_; have HO294 := n9_; have HO301 := n10_; have HO305 := n11_; have HB := n12_; clear n0_ n1_ n2_ n3_ n4_ n5_ n6_ n7_ n8_ n9_ n10_ n11_ n12_; (try clear hb); (try clear hb2); (try clear hk); (try clear hi)))
              (try simp only [List.append_eq, List.cons_append, List.nil_append, List.append])
              go_wp2_with (first | ((with_reducible refine gate_callee (f := 9) rfl ?_); refine goesL_ (some 17) rfl rfl Try.func9 (by kernel_rfl) rfl #[.slice none 0 0, .int .i64 3, .bool false] rfl (by (try simp only [List.map_toArray, List.map_cons, List.map_nil]); first | done | rfl | (simp only [List.length_drop, List.length_take]; rfl)) ?_; (refine (near_Heard.calls k _ _ ([] : List (S46)) 3 false t254 true t256 _ ?side1 ?side2 A1.out).mono ?_); (case side1 => exact Kd.C_nil _ _); (case side2 => exact Nat.le_refl _); rintro e w31 ⟨v257, rfl, ho0, hb⟩; refine ⟨_, rfl, ?_⟩; have n0_ := Aside0.mk (Kd.R_lower ho0 (below_size (by repeat (first | (with_reducible first | exact HB.out | apply below_alloc | apply pw_below_drewN | apply below_drew1) | exact HB.out)))); have n1_ := Aside0.mk (below_step (by repeat (first | (with_reducible first | exact HB.out | apply below_alloc | apply pw_below_drewN | apply below_drew1) | exact HB.out)) hb); clear HB; have HO258 := n0_; have HB := n1_; clear n0_ n1_; (try clear hb); (try clear hb2); (try clear hk); (try clear hi); (try clear ho0); obtain ⟨Ao32, co32, eo32⟩ := Kd.R_slice HO258.out; subst eo32) | ((with_reducible refine gate_callee (f := 9) rfl ?_); refine goesL_ (some 23) rfl rfl Try.func9 (by kernel_rfl) rfl #[.slice Ao32 t254.length co32, .int .i64 3, .bool true] rfl (by (try simp only [List.map_toArray, List.map_cons, List.map_nil]); first | done | rfl | (simp only [List.length_drop, List.length_take]; rfl)) ?_; (with_reducible refine (near_Heard.calls k _ _ t254 3 true t259 true t261 _ ?side1 ?side2 A2.out).mono ?_); (case side1 => repeat (first | exact (Kd.R_reads' HO258.out).2.2 | (with_reducible refine Kd.C_alloc ?_ _) | (with_reducible refine Kd.C_drewN ?_ _) | (with_reducible refine Kd.C_drew ?_))); (case side2 => exact (Kd.R_reads' HO258.out).2.1); rintro e w33 ⟨v262, rfl, ho0, hb⟩; refine ⟨_, rfl, ?_⟩; have n0_ := Aside0.mk (Kd.R_elder' (by (with_reducible repeat (first | apply Kd.R_alloc | apply Kd.R_drewN | apply Kd.R_drew)); exact HO258.out) (Kd.R_base ho0) hb); have n1_ := Aside0.mk (Kd.R_lower (Kd.R_new' ho0 (Kd.R_lt (by (with_reducible repeat (first | apply Kd.R_alloc | apply Kd.R_drewN | apply Kd.R_drew)); exact HO258.out))) (below_size (by repeat (first | (with_reducible first | exact HB.out | apply below_alloc | apply pw_below_drewN | apply below_drew1) | exact HB.out)))); have n2_ := Aside0.mk (below_step (by repeat (first | (with_reducible first | exact HB.out | apply below_alloc | apply pw_below_drewN | apply below_drew1) | exact HB.out)) hb); clear HO258; clear HB; have HO258 := n0_; have HO263 := n1_; have HB := n2_; clear n0_ n1_ n2_; (try clear hb); (try clear hb2); (try clear hk); (try clear hi); (try clear ho0); obtain ⟨Ao34, co34, eo34⟩ := Kd.R_slice HO263.out; subst eo34) | ((with_reducible refine gate_callee (f := 9) rfl ?_); refine goesL_ (some 29) rfl rfl Try.func9 (by kernel_rfl) rfl #[.slice Ao34 t259.length co34, .int .i64 3, .bool true] rfl (by (try simp only [List.map_toArray, List.map_cons, List.map_nil]); first | done | rfl | (simp only [List.length_drop, List.length_take]; rfl)) ?_; (with_reducible refine (near_Heard.calls k _ _ t259 3 true t264 false t266 _ ?side1 ?side2 A3.out).mono ?_); (case side1 => repeat (first | exact (Kd.R_reads' HO263.out).2.2 | (with_reducible refine Kd.C_alloc ?_ _) | (with_reducible refine Kd.C_drewN ?_ _) | (with_reducible refine Kd.C_drew ?_))); (case side2 => exact (Kd.R_reads' HO263.out).2.1); rintro e w35 ⟨v267, rfl, ho0, hb⟩; refine ⟨_, rfl, ?_⟩; have n0_ := Aside0.mk (Kd.R_elder' (by (with_reducible repeat (first | apply Kd.R_alloc | apply Kd.R_drewN | apply Kd.R_drew)); exact HO258.out) (Kd.R_base ho0) hb); have n1_ := Aside0.mk (Kd.R_elder' (by (with_reducible repeat (first | apply Kd.R_alloc | apply Kd.R_drewN | apply Kd.R_drew)); exact HO263.out) (Kd.R_base ho0) hb); have n2_ := Aside0.mk (Kd.R_lower (Kd.R_new' (Kd.R_new' ho0 (Kd.R_lt (by (with_reducible repeat (first | apply Kd.R_alloc | apply Kd.R_drewN | apply Kd.R_drew)); exact HO258.out))) (Kd.R_lt (by (with_reducible repeat (first | apply Kd.R_alloc | apply Kd.R_drewN | apply Kd.R_drew)); exact HO263.out))) (below_size (by repeat (first | (with_reducible first | exact HB.out | apply below_alloc | apply pw_below_drewN | apply below_drew1) | exact HB.out)))); have n3_ := Aside0.mk (below_step (by repeat (first | (with_reducible first | exact HB.out | apply below_alloc | apply pw_below_drewN | apply below_drew1) | exact HB.out)) hb); clear HO258; clear HO263; clear HB; have HO258 := n0_; have HO263 := n1_; have HO268 := n2_; have HB := n3_; clear n0_ n1_ n2_ n3_; (try clear hb); (try clear hb2); (try clear hk); (try clear hi); (try clear ho0)) | ((with_reducible refine gate_dst (N := 36) rfl ?_); (try (refine gate_guard (by rfl) ?_; dsimp only)); refine Kd.R_lit k46 _ 46 ?hg (N := 36) ?hd (xs := ([(⟨1, 2, 1⟩ : S46), (⟨2, 1, 2⟩ : S46)] : List (S46))) (inner := [.int .i64 1, .int .i64 2, .int .i64 1, .int .i64 2, .int .i64 1, .int .i64 2]) (ok := fun _ => True) (okp := fun _ => True) ?hr ?hp (fun _ hk => hk) trivial (Below.refl _ _) (Nat.le_refl _) (by simp) ?_; (case hd => rfl); (case hg => rfl); (case hr => first | (go_simp; done) | (go_simp; rfl)); (case hp => exact (Reps.c3 (show Kd.M k46 _ _ _ (⟨1, 2, 1⟩ : S46) [.int .i64 1, .int .i64 2, .int .i64 1] from (k46_mkM _ _ _ (⟨1, 2, 1⟩ : S46) )) (Reps.c3 (show Kd.M k46 _ _ _ (⟨2, 1, 2⟩ : S46) [.int .i64 2, .int .i64 1, .int .i64 2] from (k46_mkM _ _ _ (⟨2, 1, 2⟩ : S46) )) (Reps.none _ _)))); intro v270 w36 ho37 hb hg_ hnew_; clear hg_ hnew_; (first | rw [← Ny269.out] at ho37 | (simp only [Int.reduceToNat] at ho37; rw [← Ny269.out] at ho37)); have n0_ := Aside0.mk (Kd.R_elder' (by (with_reducible repeat (first | apply Kd.R_alloc | apply Kd.R_drewN | apply Kd.R_drew)); exact HO258.out) (Kd.R_base ho37) hb); have n1_ := Aside0.mk (Kd.R_elder' (by (with_reducible repeat (first | apply Kd.R_alloc | apply Kd.R_drewN | apply Kd.R_drew)); exact HO263.out) (Kd.R_base ho37) hb); have n2_ := Aside0.mk (Kd.R_elder' (by (with_reducible repeat (first | apply Kd.R_alloc | apply Kd.R_drewN | apply Kd.R_drew)); exact HO268.out) (Kd.R_base ho37) hb); have n3_ := Aside0.mk (Kd.R_lower (Kd.R_new' (Kd.R_new' (Kd.R_new' ho37 (Kd.R_lt (by (with_reducible repeat (first | apply Kd.R_alloc | apply Kd.R_drewN | apply Kd.R_drew)); exact HO258.out))) (Kd.R_lt (by (with_reducible repeat (first | apply Kd.R_alloc | apply Kd.R_drewN | apply Kd.R_drew)); exact HO263.out))) (Kd.R_lt (by (with_reducible repeat (first | apply Kd.R_alloc | apply Kd.R_drewN | apply Kd.R_drew)); exact HO268.out))) (below_size (by repeat (first | (with_reducible first | exact HB.out | apply below_alloc | apply pw_below_drewN | apply below_drew1) | exact HB.out)))); have n4_ := Aside0.mk (below_step (by repeat (first | (with_reducible first | exact HB.out | apply below_alloc | apply pw_below_drewN | apply below_drew1) | exact HB.out)) hb); clear HO258; clear HO263; clear HO268; clear HB; have HO258 := n0_; have HO263 := n1_; have HO268 := n2_; have HO271 := n3_; have HB := n4_; clear n0_ n1_ n2_ n3_ n4_; clear hb ho37; obtain ⟨Ao38, co38, eo38⟩ := Kd.R_slice HO271.out; subst eo38) | ((with_reducible refine gate_callee (f := 11) rfl ?_); refine goesL_ (some 37) rfl rfl Try.func11 (by kernel_rfl) rfl #[.slice Ao38 y269.length co38] rfl (by (try simp only [List.map_toArray, List.map_cons, List.map_nil]); first | done | rfl | (simp only [List.length_drop, List.length_take]; rfl)) ?_; (with_reducible refine (near_Tick.calls k _ _ y269 t272 t273 t274 _ ?side1 ?side2 A4.out).mono ?_); (case side1 => repeat (first | exact (Kd.R_reads' HO271.out).2.2 | (with_reducible refine Kd.C_alloc ?_ _) | (with_reducible refine Kd.C_drewN ?_ _) | (with_reducible refine Kd.C_drew ?_))); (case side2 => exact (Kd.R_reads' HO271.out).2.1); rintro e w39 ⟨v275, v277, rfl, ho0, ho1, hb⟩; refine ⟨_, rfl, ?_⟩; have n0_ := Aside0.mk (Kd.R_elder' (by (with_reducible repeat (first | apply Kd.R_alloc | apply Kd.R_drewN | apply Kd.R_drew)); exact HO258.out) (Kd.R_base ho0) hb); have n1_ := Aside0.mk (Kd.R_elder' (by (with_reducible repeat (first | apply Kd.R_alloc | apply Kd.R_drewN | apply Kd.R_drew)); exact HO263.out) (Kd.R_base ho0) hb); have n2_ := Aside0.mk (Kd.R_elder' (by (with_reducible repeat (first | apply Kd.R_alloc | apply Kd.R_drewN | apply Kd.R_drew)); exact HO268.out) (Kd.R_base ho0) hb); have n3_ := Aside0.mk (Kd.R_elder' (by (with_reducible repeat (first | apply Kd.R_alloc | apply Kd.R_drewN | apply Kd.R_drew)); exact HO271.out) (Kd.R_base ho0) hb); have n4_ := Aside0.mk (Kd.R_lower (Kd.R_new' (Kd.R_new' (Kd.R_new' (Kd.R_new' ho0 (Kd.R_lt (by (with_reducible repeat (first | apply Kd.R_alloc | apply Kd.R_drewN | apply Kd.R_drew)); exact HO258.out))) (Kd.R_lt (by (with_reducible repeat (first | apply Kd.R_alloc | apply Kd.R_drewN | apply Kd.R_drew)); exact HO263.out))) (Kd.R_lt (by (with_reducible repeat (first | apply Kd.R_alloc | apply Kd.R_drewN | apply Kd.R_drew)); exact HO268.out))) (Kd.R_lt (by (with_reducible repeat (first | apply Kd.R_alloc | apply Kd.R_drewN | apply Kd.R_drew)); exact HO271.out))) (below_size (by repeat (first | (with_reducible first | exact HB.out | apply below_alloc | apply pw_below_drewN | apply below_drew1) | exact HB.out)))); have n5_ := Aside0.mk (Kd.R_lower ho1 (below_size (by repeat (first | (with_reducible first | exact HB.out | apply below_alloc | apply pw_below_drewN | apply below_drew1) | exact HB.out)))); have n6_ := Aside0.mk (below_step (by repeat (first | (with_reducible first | exact HB.out | apply below_alloc | apply pw_below_drewN | apply below_drew1) | exact HB.out)) hb); clear HO258; clear HO263; clear HO268; clear HO271; clear HB; have HO258 := n0_; have HO263 := n1_; have HO268 := n2_; have HO271 := n3_; have HO276 := n4_; have HO278 := n5_; have HB := n6_; clear n0_ n1_ n2_ n3_ n4_ n5_ n6_; (try clear hb); (try clear hb2); (try clear hk); (try clear hi); (try clear ho0); (try clear ho1)) | ((with_reducible refine gate_callee (f := 9) rfl ?_); refine goesL_ (some 42) rfl rfl Try.func9 (by kernel_rfl) rfl #[.slice none 0 0, .int .i64 0, .bool true] rfl (by (try simp only [List.map_toArray, List.map_cons, List.map_nil]); first | done | rfl | (simp only [List.length_drop, List.length_take]; rfl)) ?_; (refine (near_Heard.calls k _ _ ([] : List (S46)) 0 true t279 t280 t281 _ ?side1 ?side2 A5.out).mono ?_); (case side1 => exact Kd.C_nil _ _); (case side2 => exact Nat.le_refl _); rintro e w40 ⟨v282, rfl, ho0, hb⟩; refine ⟨_, rfl, ?_⟩; have n0_ := Aside0.mk (Kd.R_elder' (by (with_reducible repeat (first | apply Kd.R_alloc | apply Kd.R_drewN | apply Kd.R_drew)); exact HO258.out) (Kd.R_base ho0) hb); have n1_ := Aside0.mk (Kd.R_elder' (by (with_reducible repeat (first | apply Kd.R_alloc | apply Kd.R_drewN | apply Kd.R_drew)); exact HO263.out) (Kd.R_base ho0) hb); have n2_ := Aside0.mk (Kd.R_elder' (by (with_reducible repeat (first | apply Kd.R_alloc | apply Kd.R_drewN | apply Kd.R_drew)); exact HO268.out) (Kd.R_base ho0) hb); have n3_ := Aside0.mk (Kd.R_elder' (by (with_reducible repeat (first | apply Kd.R_alloc | apply Kd.R_drewN | apply Kd.R_drew)); exact HO271.out) (Kd.R_base ho0) hb); have n4_ := Aside0.mk (Kd.R_elder' (by (with_reducible repeat (first | apply Kd.R_alloc | apply Kd.R_drewN | apply Kd.R_drew)); exact HO276.out) (Kd.R_base ho0) hb); have n5_ := Aside0.mk (Kd.R_below (by (with_reducible repeat (first | apply Kd.R_alloc | apply Kd.R_drewN | apply Kd.R_drew)); exact HO278.out) hb); have n6_ := Aside0.mk (Kd.R_lower (Kd.R_new' (Kd.R_new' (Kd.R_new' (Kd.R_new' (Kd.R_new' ho0 (Kd.R_lt (by (with_reducible repeat (first | apply Kd.R_alloc | apply Kd.R_drewN | apply Kd.R_drew)); exact HO258.out))) (Kd.R_lt (by (with_reducible repeat (first | apply Kd.R_alloc | apply Kd.R_drewN | apply Kd.R_drew)); exact HO263.out))) (Kd.R_lt (by (with_reducible repeat (first | apply Kd.R_alloc | apply Kd.R_drewN | apply Kd.R_drew)); exact HO268.out))) (Kd.R_lt (by (with_reducible repeat (first | apply Kd.R_alloc | apply Kd.R_drewN | apply Kd.R_drew)); exact HO271.out))) (Kd.R_lt (by (with_reducible repeat (first | apply Kd.R_alloc | apply Kd.R_drewN | apply Kd.R_drew)); exact HO276.out))) (below_size (by repeat (first | (with_reducible first | exact HB.out | apply below_alloc | apply pw_below_drewN | apply below_drew1) | exact HB.out)))); have n7_ := Aside0.mk (below_step (by repeat (first | (with_reducible first | exact HB.out | apply below_alloc | apply pw_below_drewN | apply below_drew1) | exact HB.out)) hb); clear HO258; clear HO263; clear HO268; clear HO271; clear HO276; clear HO278; clear HB; have HO258 := n0_; have HO263 := n1_; have HO268 := n2_; have HO271 := n3_; have HO276 := n4_; have HO278 := n5_; have HO283 := n6_; have HB := n7_; clear n0_ n1_ n2_ n3_ n4_ n5_ n6_ n7_; (try clear hb); (try clear hb2); (try clear hk); (try clear hi); (try clear ho0)) | ((with_reducible refine gate_dst (N := 48) rfl ?_); (try (refine gate_guard (by rfl) ?_; dsimp only)); refine Kd.R_lit k46 _ 46 ?hg (N := 48) ?hd (xs := ([(⟨3, 1, 16⟩ : S46)] : List (S46))) (inner := [.int .i64 3, .int .i64 1, .int .i64 16]) (ok := fun _ => True) (okp := fun _ => True) ?hr ?hp (fun _ hk => hk) trivial (Below.refl _ _) (Nat.le_refl _) (by simp) ?_; (case hd => rfl); (case hg => rfl); (case hr => first | (go_simp; done) | (go_simp; rfl)); (case hp => exact (Reps.c3 (show Kd.M k46 _ _ _ (⟨3, 1, 16⟩ : S46) [.int .i64 3, .int .i64 1, .int .i64 16] from (k46_mkM _ _ _ (⟨3, 1, 16⟩ : S46) )) (Reps.none _ _))); intro v285 w41 ho42 hb hg_ hnew_; clear hg_ hnew_; (first | rw [← Ny284.out] at ho42 | (simp only [Int.reduceToNat] at ho42; rw [← Ny284.out] at ho42)); have n0_ := Aside0.mk (Kd.R_elder' (by (with_reducible repeat (first | apply Kd.R_alloc | apply Kd.R_drewN | apply Kd.R_drew)); exact HO258.out) (Kd.R_base ho42) hb); have n1_ := Aside0.mk (Kd.R_elder' (by (with_reducible repeat (first | apply Kd.R_alloc | apply Kd.R_drewN | apply Kd.R_drew)); exact HO263.out) (Kd.R_base ho42) hb); have n2_ := Aside0.mk (Kd.R_elder' (by (with_reducible repeat (first | apply Kd.R_alloc | apply Kd.R_drewN | apply Kd.R_drew)); exact HO268.out) (Kd.R_base ho42) hb); have n3_ := Aside0.mk (Kd.R_elder' (by (with_reducible repeat (first | apply Kd.R_alloc | apply Kd.R_drewN | apply Kd.R_drew)); exact HO271.out) (Kd.R_base ho42) hb); have n4_ := Aside0.mk (Kd.R_elder' (by (with_reducible repeat (first | apply Kd.R_alloc | apply Kd.R_drewN | apply Kd.R_drew)); exact HO276.out) (Kd.R_base ho42) hb); have n5_ := Aside0.mk (Kd.R_below (by (with_reducible repeat (first | apply Kd.R_alloc | apply Kd.R_drewN | apply Kd.R_drew)); exact HO278.out) hb); have n6_ := Aside0.mk (Kd.R_elder' (by (with_reducible repeat (first | apply Kd.R_alloc | apply Kd.R_drewN | apply Kd.R_drew)); exact HO283.out) (Kd.R_base ho42) hb); have n7_ := Aside0.mk (Kd.R_lower (Kd.R_new' (Kd.R_new' (Kd.R_new' (Kd.R_new' (Kd.R_new' (Kd.R_new' ho42 (Kd.R_lt (by (with_reducible repeat (first | apply Kd.R_alloc | apply Kd.R_drewN | apply Kd.R_drew)); exact HO258.out))) (Kd.R_lt (by (with_reducible repeat (first | apply Kd.R_alloc | apply Kd.R_drewN | apply Kd.R_drew)); exact HO263.out))) (Kd.R_lt (by (with_reducible repeat (first | apply Kd.R_alloc | apply Kd.R_drewN | apply Kd.R_drew)); exact HO268.out))) (Kd.R_lt (by (with_reducible repeat (first | apply Kd.R_alloc | apply Kd.R_drewN | apply Kd.R_drew)); exact HO271.out))) (Kd.R_lt (by (with_reducible repeat (first | apply Kd.R_alloc | apply Kd.R_drewN | apply Kd.R_drew)); exact HO276.out))) (Kd.R_lt (by (with_reducible repeat (first | apply Kd.R_alloc | apply Kd.R_drewN | apply Kd.R_drew)); exact HO283.out))) (below_size (by repeat (first | (with_reducible first | exact HB.out | apply below_alloc | apply pw_below_drewN | apply below_drew1) | exact HB.out)))); have n8_ := Aside0.mk (below_step (by repeat (first | (with_reducible first | exact HB.out | apply below_alloc | apply pw_below_drewN | apply below_drew1) | exact HB.out)) hb); clear HO258; clear HO263; clear HO268; clear HO271; clear HO276; clear HO278; clear HO283; clear HB; have HO258 := n0_; have HO263 := n1_; have HO268 := n2_; have HO271 := n3_; have HO276 := n4_; have HO278 := n5_; have HO283 := n6_; have HO286 := n7_; have HB := n8_; clear n0_ n1_ n2_ n3_ n4_ n5_ n6_ n7_ n8_; clear hb ho42; obtain ⟨Ao43, co43, eo43⟩ := Kd.R_slice HO286.out; subst eo43) | ((with_reducible refine gate_callee (f := 14) rfl ?_); refine goesL_ (some 49) rfl rfl Try.func14 (by kernel_rfl) rfl #[.slice Ao32 t254.length co32, .slice Ao43 y284.length co43] rfl (by (try simp only [List.map_toArray, List.map_cons, List.map_nil]); first | done | rfl | (simp only [List.length_drop, List.length_take]; rfl)) ?_; (with_reducible refine (watchwordlaw0_SameNears.calls k _ _ t254 _ _ y284 true _ ?side1 ?side2 ?side3 ?side4 A6.out).mono ?_); (case side1 => repeat (first | exact (Kd.R_reads' HO258.out).2.2 | (with_reducible refine Kd.C_alloc ?_ _) | (with_reducible refine Kd.C_drewN ?_ _) | (with_reducible refine Kd.C_drew ?_))); (case side2 => exact (Kd.R_reads' HO258.out).2.1); (case side3 => repeat (first | exact (Kd.R_reads' HO286.out).2.2 | (with_reducible refine Kd.C_alloc ?_ _) | (with_reducible refine Kd.C_drewN ?_ _) | (with_reducible refine Kd.C_drew ?_))); (case side4 => exact (Kd.R_reads' HO286.out).2.1); rintro e w' ⟨rfl, ⟨nd, rfl⟩⟩; refine ⟨_, rfl, ?_⟩) | (go_at_call 15; (with_reducible refine (watchwordlaw0_Num.calls t256 t288 _ A9.out).mono ?_); rintro e w' ⟨rfl, ⟨nd, rfl⟩⟩) | (go_at_call 13; (with_reducible refine (near_Full.calls k _ _ t259 t289 _ ?side1 ?side2 A11.out).mono ?_); (case side1 => repeat (first | exact (Kd.R_reads' HO263.out).2.2 | (with_reducible refine Kd.C_alloc ?_ _) | (with_reducible refine Kd.C_drewN ?_ _) | (with_reducible refine Kd.C_drew ?_))); (case side2 => exact (Kd.R_reads' HO263.out).2.1); rintro e w44 ⟨v290, rfl, ho0, hb⟩; have n0_ := Aside0.mk (Kd.R_below (by (with_reducible repeat (first | apply Kd.R_alloc | apply Kd.R_drewN | apply Kd.R_drew)); exact HO258.out) hb); have n1_ := Aside0.mk (Kd.R_below (by (with_reducible repeat (first | apply Kd.R_alloc | apply Kd.R_drewN | apply Kd.R_drew)); exact HO263.out) hb); have n2_ := Aside0.mk (Kd.R_below (by (with_reducible repeat (first | apply Kd.R_alloc | apply Kd.R_drewN | apply Kd.R_drew)); exact HO268.out) hb); have n3_ := Aside0.mk (Kd.R_below (by (with_reducible repeat (first | apply Kd.R_alloc | apply Kd.R_drewN | apply Kd.R_drew)); exact HO271.out) hb); have n4_ := Aside0.mk (Kd.R_below (by (with_reducible repeat (first | apply Kd.R_alloc | apply Kd.R_drewN | apply Kd.R_drew)); exact HO276.out) hb); have n5_ := Aside0.mk (Kd.R_elder' (by (with_reducible repeat (first | apply Kd.R_alloc | apply Kd.R_drewN | apply Kd.R_drew)); exact HO278.out) (Kd.R_base ho0) hb); have n6_ := Aside0.mk (Kd.R_below (by (with_reducible repeat (first | apply Kd.R_alloc | apply Kd.R_drewN | apply Kd.R_drew)); exact HO283.out) hb); have n7_ := Aside0.mk (Kd.R_below (by (with_reducible repeat (first | apply Kd.R_alloc | apply Kd.R_drewN | apply Kd.R_drew)); exact HO286.out) hb); have n8_ := Aside0.mk (Kd.R_lower (Kd.R_new' ho0 (Kd.R_lt (by (with_reducible repeat (first | apply Kd.R_alloc | apply Kd.R_drewN | apply Kd.R_drew)); exact HO278.out))) (below_size (by repeat (first | (with_reducible first | exact HB.out | apply below_alloc | apply pw_below_drewN | apply below_drew1) | exact HB.out)))); have n9_ := Aside0.mk (below_step (by repeat (first | (with_reducible first | exact HB.out | apply below_alloc | apply pw_below_drewN | apply below_drew1) | exact HB.out)) hb); clear HO258; clear HO263; clear HO268; clear HO271; clear HO276; clear HO278; clear HO283; clear HO286; clear HB; have HO258 := n0_; have HO263 := n1_; have HO268 := n2_; have HO271 := n3_; have HO276 := n4_; have HO278 := n5_; have HO283 := n6_; have HO286 := n7_; have HO291 := n8_; have HB := n9_; clear n0_ n1_ n2_ n3_ n4_ n5_ n6_ n7_ n8_ n9_; (try clear hb); (try clear hb2); (try clear hk); (try clear hi); (try clear ho0)) | ((with_reducible refine gate_dst (N := 61) rfl ?_); (try (refine gate_guard (by rfl) ?_; dsimp only)); refine Kd.R_lit (Kd.int .i64) _ 3 ?hg (N := 61) ?hd (xs := ([3] : List Int)) (inner := [.int .i64 3]) (ok := fun _ => True) (okp := fun _ => True) ?hr ?hp (fun _ hk => hk) trivial (Below.refl _ _) (Nat.le_refl _) (by simp) ?_; (case hd => rfl); (case hg => rfl); (case hr => first | (go_simp; done) | (go_simp; rfl)); (case hp => exact (Reps.one (show Kd.M (Kd.int .i64) _ _ _ 3 [.int .i64 3] from rfl) (Reps.none _ _))); intro v293 w45 ho46 hb hg_ hnew_; clear hg_ hnew_; (first | rw [← Ny292.out] at ho46 | (simp only [Int.reduceToNat] at ho46; rw [← Ny292.out] at ho46)); have n0_ := Aside0.mk (Kd.R_below (by (with_reducible repeat (first | apply Kd.R_alloc | apply Kd.R_drewN | apply Kd.R_drew)); exact HO258.out) hb); have n1_ := Aside0.mk (Kd.R_below (by (with_reducible repeat (first | apply Kd.R_alloc | apply Kd.R_drewN | apply Kd.R_drew)); exact HO263.out) hb); have n2_ := Aside0.mk (Kd.R_below (by (with_reducible repeat (first | apply Kd.R_alloc | apply Kd.R_drewN | apply Kd.R_drew)); exact HO268.out) hb); have n3_ := Aside0.mk (Kd.R_below (by (with_reducible repeat (first | apply Kd.R_alloc | apply Kd.R_drewN | apply Kd.R_drew)); exact HO271.out) hb); have n4_ := Aside0.mk (Kd.R_below (by (with_reducible repeat (first | apply Kd.R_alloc | apply Kd.R_drewN | apply Kd.R_drew)); exact HO276.out) hb); have n5_ := Aside0.mk (Kd.R_elder' (by (with_reducible repeat (first | apply Kd.R_alloc | apply Kd.R_drewN | apply Kd.R_drew)); exact HO278.out) (Kd.R_base ho46) hb); have n6_ := Aside0.mk (Kd.R_below (by (with_reducible repeat (first | apply Kd.R_alloc | apply Kd.R_drewN | apply Kd.R_drew)); exact HO283.out) hb); have n7_ := Aside0.mk (Kd.R_below (by (with_reducible repeat (first | apply Kd.R_alloc | apply Kd.R_drewN | apply Kd.R_drew)); exact HO286.out) hb); have n8_ := Aside0.mk (Kd.R_elder' (by (with_reducible repeat (first | apply Kd.R_alloc | apply Kd.R_drewN | apply Kd.R_drew)); exact HO291.out) (Kd.R_base ho46) hb); have n9_ := Aside0.mk (Kd.R_lower (Kd.R_new' (Kd.R_new' ho46 (Kd.R_lt (by (with_reducible repeat (first | apply Kd.R_alloc | apply Kd.R_drewN | apply Kd.R_drew)); exact HO278.out))) (Kd.R_lt (by (with_reducible repeat (first | apply Kd.R_alloc | apply Kd.R_drewN | apply Kd.R_drew)); exact HO291.out))) (below_size (by repeat (first | (with_reducible first | exact HB.out | apply below_alloc | apply pw_below_drewN | apply below_drew1) | exact HB.out)))); have n10_ := Aside0.mk (below_step (by repeat (first | (with_reducible first | exact HB.out | apply below_alloc | apply pw_below_drewN | apply below_drew1) | exact HB.out)) hb); clear HO258; clear HO263; clear HO268; clear HO271; clear HO276; clear HO278; clear HO283; clear HO286; clear HO291; clear HB; have HO258 := n0_; have HO263 := n1_; have HO268 := n2_; have HO271 := n3_; have HO276 := n4_; have HO278 := n5_; have HO283 := n6_; have HO286 := n7_; have HO291 := n8_; have HO294 := n9_; have HB := n10_; clear n0_ n1_ n2_ n3_ n4_ n5_ n6_ n7_ n8_ n9_ n10_; clear hb ho46; obtain ⟨Ao47, co47, eo47⟩ := Kd.R_slice HO291.out; subst eo47; obtain ⟨Ao48, co48, eo48⟩ := Kd.R_slice HO294.out; subst eo48) | (go_at_call 16; (with_reducible refine (watchwordlaw0_SameInts.calls k _ _ t289 _ _ y292 true _ ?side1 ?side2 ?side3 ?side4 A12.out).mono ?_); (case side1 => repeat (first | exact (Kd.R_reads' HO291.out).2.2 | (with_reducible refine Kd.C_alloc ?_ _) | (with_reducible refine Kd.C_drewN ?_ _) | (with_reducible refine Kd.C_drew ?_))); (case side2 => exact (Kd.R_reads' HO291.out).2.1); (case side3 => repeat (first | exact (Kd.R_reads' HO294.out).2.2 | (with_reducible refine Kd.C_alloc ?_ _) | (with_reducible refine Kd.C_drewN ?_ _) | (with_reducible refine Kd.C_drew ?_))); (case side4 => exact (Kd.R_reads' HO294.out).2.1); rintro e w' ⟨rfl, ⟨nd, rfl⟩⟩) | (go_at_call 15; (with_reducible refine (watchwordlaw0_Num.calls t261 t296 _ A15.out).mono ?_); rintro e w' ⟨rfl, ⟨nd, rfl⟩⟩; obtain ⟨Ao49, co49, eo49⟩ := Kd.R_slice HO268.out; subst eo49) | (go_at_call 14; (with_reducible refine (watchwordlaw0_SameNears.calls k _ _ t259 _ _ t264 true _ ?side1 ?side2 ?side3 ?side4 A17.out).mono ?_); (case side1 => repeat (first | exact (Kd.R_reads' HO263.out).2.2 | (with_reducible refine Kd.C_alloc ?_ _) | (with_reducible refine Kd.C_drewN ?_ _) | (with_reducible refine Kd.C_drew ?_))); (case side2 => exact (Kd.R_reads' HO263.out).2.1); (case side3 => repeat (first | exact (Kd.R_reads' HO268.out).2.2 | (with_reducible refine Kd.C_alloc ?_ _) | (with_reducible refine Kd.C_drewN ?_ _) | (with_reducible refine Kd.C_drew ?_))); (case side4 => exact (Kd.R_reads' HO268.out).2.1); rintro e w' ⟨rfl, ⟨nd, rfl⟩⟩) | (go_at_call 15; (with_reducible refine (watchwordlaw0_Num.calls t266 t298 _ A20.out).mono ?_); rintro e w' ⟨rfl, ⟨nd, rfl⟩⟩) | ((with_reducible refine gate_dst (N := 89) rfl ?_); (try (refine gate_guard (by rfl) ?_; dsimp only)); refine Kd.R_lit k46 _ 46 ?hg (N := 89) ?hd (xs := ([(⟨2, 1, 1⟩ : S46)] : List (S46))) (inner := [.int .i64 2, .int .i64 1, .int .i64 1]) (ok := fun _ => True) (okp := fun _ => True) ?hr ?hp (fun _ hk => hk) trivial (Below.refl _ _) (Nat.le_refl _) (by simp) ?_; (case hd => rfl); (case hg => rfl); (case hr => first | (go_simp; done) | (go_simp; rfl)); (case hp => exact (Reps.c3 (show Kd.M k46 _ _ _ (⟨2, 1, 1⟩ : S46) [.int .i64 2, .int .i64 1, .int .i64 1] from (k46_mkM _ _ _ (⟨2, 1, 1⟩ : S46) )) (Reps.none _ _))); intro v300 w50 ho51 hb hg_ hnew_; clear hg_ hnew_; (first | rw [← Ny299.out] at ho51 | (simp only [Int.reduceToNat] at ho51; rw [← Ny299.out] at ho51)); have n0_ := Aside0.mk (Kd.R_elder' (by (with_reducible repeat (first | apply Kd.R_alloc | apply Kd.R_drewN | apply Kd.R_drew)); exact HO258.out) (Kd.R_base ho51) hb); have n1_ := Aside0.mk (Kd.R_elder' (by (with_reducible repeat (first | apply Kd.R_alloc | apply Kd.R_drewN | apply Kd.R_drew)); exact HO263.out) (Kd.R_base ho51) hb); have n2_ := Aside0.mk (Kd.R_elder' (by (with_reducible repeat (first | apply Kd.R_alloc | apply Kd.R_drewN | apply Kd.R_drew)); exact HO268.out) (Kd.R_base ho51) hb); have n3_ := Aside0.mk (Kd.R_elder' (by (with_reducible repeat (first | apply Kd.R_alloc | apply Kd.R_drewN | apply Kd.R_drew)); exact HO271.out) (Kd.R_base ho51) hb); have n4_ := Aside0.mk (Kd.R_elder' (by (with_reducible repeat (first | apply Kd.R_alloc | apply Kd.R_drewN | apply Kd.R_drew)); exact HO276.out) (Kd.R_base ho51) hb); have n5_ := Aside0.mk (Kd.R_below (by (with_reducible repeat (first | apply Kd.R_alloc | apply Kd.R_drewN | apply Kd.R_drew)); exact HO278.out) hb); have n6_ := Aside0.mk (Kd.R_elder' (by (with_reducible repeat (first | apply Kd.R_alloc | apply Kd.R_drewN | apply Kd.R_drew)); exact HO283.out) (Kd.R_base ho51) hb); have n7_ := Aside0.mk (Kd.R_elder' (by (with_reducible repeat (first | apply Kd.R_alloc | apply Kd.R_drewN | apply Kd.R_drew)); exact HO286.out) (Kd.R_base ho51) hb); have n8_ := Aside0.mk (Kd.R_below (by (with_reducible repeat (first | apply Kd.R_alloc | apply Kd.R_drewN | apply Kd.R_drew)); exact HO291.out) hb); have n9_ := Aside0.mk (Kd.R_below (by (with_reducible repeat (first | apply Kd.R_alloc | apply Kd.R_drewN | apply Kd.R_drew)); exact HO294.out) hb); have n10_ := Aside0.mk (Kd.R_lower (Kd.R_new' (Kd.R_new' (Kd.R_new' (Kd.R_new' (Kd.R_new' (Kd.R_new' (Kd.R_new' ho51 (Kd.R_lt (by (with_reducible repeat (first | apply Kd.R_alloc | apply Kd.R_drewN | apply Kd.R_drew)); exact HO258.out))) (Kd.R_lt (by (with_reducible repeat (first | apply Kd.R_alloc | apply Kd.R_drewN | apply Kd.R_drew)); exact HO263.out))) (Kd.R_lt (by (with_reducible repeat (first | apply Kd.R_alloc | apply Kd.R_drewN | apply Kd.R_drew)); exact HO268.out))) (Kd.R_lt (by (with_reducible repeat (first | apply Kd.R_alloc | apply Kd.R_drewN | apply Kd.R_drew)); exact HO271.out))) (Kd.R_lt (by (with_reducible repeat (first | apply Kd.R_alloc | apply Kd.R_drewN | apply Kd.R_drew)); exact HO276.out))) (Kd.R_lt (by (with_reducible repeat (first | apply Kd.R_alloc | apply Kd.R_drewN | apply Kd.R_drew)); exact HO283.out))) (Kd.R_lt (by (with_reducible repeat (first | apply Kd.R_alloc | apply Kd.R_drewN | apply Kd.R_drew)); exact HO286.out))) (below_size (by repeat (first | (with_reducible first | exact HB.out | apply below_alloc | apply pw_below_drewN | apply below_drew1) | exact HB.out)))); have n11_ := Aside0.mk (below_step (by repeat (first | (with_reducible first | exact HB.out | apply below_alloc | apply pw_below_drewN | apply below_drew1) | exact HB.out)) hb); clear HO258; clear HO263; clear HO268; clear HO271; clear HO276; clear HO278; clear HO283; clear HO286; clear HO291; clear HO294; clear HB; have HO258 := n0_; have HO263 := n1_; have HO268 := n2_; have HO271 := n3_; have HO276 := n4_; have HO278 := n5_; have HO283 := n6_; have HO286 := n7_; have HO291 := n8_; have HO294 := n9_; have HO301 := n10_; have HB := n11_; clear n0_ n1_ n2_ n3_ n4_ n5_ n6_ n7_ n8_ n9_ n10_ n11_; clear hb ho51; obtain ⟨Ao52, co52, eo52⟩ := Kd.R_slice HO276.out; subst eo52; obtain ⟨Ao53, co53, eo53⟩ := Kd.R_slice HO301.out; subst eo53) | (go_at_call 14; (with_reducible refine (watchwordlaw0_SameNears.calls k _ _ t272 _ _ y299 true _ ?side1 ?side2 ?side3 ?side4 A22.out).mono ?_); (case side1 => repeat (first | exact (Kd.R_reads' HO276.out).2.2 | (with_reducible refine Kd.C_alloc ?_ _) | (with_reducible refine Kd.C_drewN ?_ _) | (with_reducible refine Kd.C_drew ?_))); (case side2 => exact (Kd.R_reads' HO276.out).2.1); (case side3 => repeat (first | exact (Kd.R_reads' HO301.out).2.2 | (with_reducible refine Kd.C_alloc ?_ _) | (with_reducible refine Kd.C_drewN ?_ _) | (with_reducible refine Kd.C_drew ?_))); (case side4 => exact (Kd.R_reads' HO301.out).2.1); rintro e w' ⟨rfl, ⟨nd, rfl⟩⟩) | ((with_reducible refine gate_dst (N := 94) rfl ?_); (try (refine gate_guard (by rfl) ?_; dsimp only)); refine Kd.R_lit (Kd.int .i64) _ 3 ?hg (N := 94) ?hd (xs := ([1] : List Int)) (inner := [.int .i64 1]) (ok := fun _ => True) (okp := fun _ => True) ?hr ?hp (fun _ hk => hk) trivial (Below.refl _ _) (Nat.le_refl _) (by simp) ?_; (case hd => rfl); (case hg => rfl); (case hr => first | (go_simp; done) | (go_simp; rfl)); (case hp => exact (Reps.one (show Kd.M (Kd.int .i64) _ _ _ 1 [.int .i64 1] from rfl) (Reps.none _ _))); intro v304 w54 ho55 hb hg_ hnew_; clear hg_ hnew_; (first | rw [← Ny303.out] at ho55 | (simp only [Int.reduceToNat] at ho55; rw [← Ny303.out] at ho55)); have n0_ := Aside0.mk (Kd.R_below (by (with_reducible repeat (first | apply Kd.R_alloc | apply Kd.R_drewN | apply Kd.R_drew)); exact HO258.out) hb); have n1_ := Aside0.mk (Kd.R_below (by (with_reducible repeat (first | apply Kd.R_alloc | apply Kd.R_drewN | apply Kd.R_drew)); exact HO263.out) hb); have n2_ := Aside0.mk (Kd.R_below (by (with_reducible repeat (first | apply Kd.R_alloc | apply Kd.R_drewN | apply Kd.R_drew)); exact HO268.out) hb); have n3_ := Aside0.mk (Kd.R_below (by (with_reducible repeat (first | apply Kd.R_alloc | apply Kd.R_drewN | apply Kd.R_drew)); exact HO271.out) hb); have n4_ := Aside0.mk (Kd.R_below (by (with_reducible repeat (first | apply Kd.R_alloc | apply Kd.R_drewN | apply Kd.R_drew)); exact HO276.out) hb); have n5_ := Aside0.mk (Kd.R_elder' (by (with_reducible repeat (first | apply Kd.R_alloc | apply Kd.R_drewN | apply Kd.R_drew)); exact HO278.out) (Kd.R_base ho55) hb); have n6_ := Aside0.mk (Kd.R_below (by (with_reducible repeat (first | apply Kd.R_alloc | apply Kd.R_drewN | apply Kd.R_drew)); exact HO283.out) hb); have n7_ := Aside0.mk (Kd.R_below (by (with_reducible repeat (first | apply Kd.R_alloc | apply Kd.R_drewN | apply Kd.R_drew)); exact HO286.out) hb); have n8_ := Aside0.mk (Kd.R_elder' (by (with_reducible repeat (first | apply Kd.R_alloc | apply Kd.R_drewN | apply Kd.R_drew)); exact HO291.out) (Kd.R_base ho55) hb); have n9_ := Aside0.mk (Kd.R_elder' (by (with_reducible repeat (first | apply Kd.R_alloc | apply Kd.R_drewN | apply Kd.R_drew)); exact HO294.out) (Kd.R_base ho55) hb); have n10_ := Aside0.mk (Kd.R_below (by (with_reducible repeat (first | apply Kd.R_alloc | apply Kd.R_drewN | apply Kd.R_drew)); exact HO301.out) hb); have n11_ := Aside0.mk (Kd.R_lower (Kd.R_new' (Kd.R_new' (Kd.R_new' ho55 (Kd.R_lt (by (with_reducible repeat (first | apply Kd.R_alloc | apply Kd.R_drewN | apply Kd.R_drew)); exact HO278.out))) (Kd.R_lt (by (with_reducible repeat (first | apply Kd.R_alloc | apply Kd.R_drewN | apply Kd.R_drew)); exact HO291.out))) (Kd.R_lt (by (with_reducible repeat (first | apply Kd.R_alloc | apply Kd.R_drewN | apply Kd.R_drew)); exact HO294.out))) (below_size (by repeat (first | (with_reducible first | exact HB.out | apply below_alloc | apply pw_below_drewN | apply below_drew1) | exact HB.out)))); have n12_ := Aside0.mk (below_step (by repeat (first | (with_reducible first | exact HB.out | apply below_alloc | apply pw_below_drewN | apply below_drew1) | exact HB.out)) hb); clear HO258; clear HO263; clear HO268; clear HO271; clear HO276; clear HO278; clear HO283; clear HO286; clear HO291; clear HO294; clear HO301; clear HB; have HO258 := n0_; have HO263 := n1_; have HO268 := n2_; have HO271 := n3_; have HO276 := n4_; have HO278 := n5_; have HO283 := n6_; have HO286 := n7_; have HO291 := n8_; have HO294 := n9_; have HO301 := n10_; have HO305 := n11_; have HB := n12_; clear n0_ n1_ n2_ n3_ n4_ n5_ n6_ n7_ n8_ n9_ n10_ n11_ n12_; clear hb ho55; obtain ⟨Ao56, co56, eo56⟩ := Kd.R_slice HO278.out; subst eo56; obtain ⟨Ao57, co57, eo57⟩ := Kd.R_slice HO305.out; subst eo57) | (go_at_call 16; (with_reducible refine (watchwordlaw0_SameInts.calls k _ _ t273 _ _ y303 true _ ?side1 ?side2 ?side3 ?side4 A24.out).mono ?_); (case side1 => repeat (first | exact (Kd.R_reads' HO278.out).2.2 | (with_reducible refine Kd.C_alloc ?_ _) | (with_reducible refine Kd.C_drewN ?_ _) | (with_reducible refine Kd.C_drew ?_))); (case side2 => exact (Kd.R_reads' HO278.out).2.1); (case side3 => repeat (first | exact (Kd.R_reads' HO305.out).2.2 | (with_reducible refine Kd.C_alloc ?_ _) | (with_reducible refine Kd.C_drewN ?_ _) | (with_reducible refine Kd.C_drew ?_))); (case side4 => exact (Kd.R_reads' HO305.out).2.1); rintro e w' ⟨rfl, ⟨nd, rfl⟩⟩) | (go_at_call 15; (with_reducible refine (watchwordlaw0_Num.calls t274 t307 _ A26.out).mono ?_); rintro e w' ⟨rfl, ⟨nd, rfl⟩⟩) | (go_at_call 15; (with_reducible refine (watchwordlaw0_Num.calls t281 t308 _ A28.out).mono ?_); rintro e w' ⟨rfl, ⟨nd, rfl⟩⟩) | (go_at_call 18; (with_reducible refine (near_May.calls k _ _ t254 t309 _ ?side1 ?side2 A30.out).mono ?_); (case side1 => repeat (first | exact (Kd.R_reads' HO258.out).2.2 | (with_reducible refine Kd.C_alloc ?_ _) | (with_reducible refine Kd.C_drewN ?_ _) | (with_reducible refine Kd.C_drew ?_))); (case side2 => exact (Kd.R_reads' HO258.out).2.1); rintro e w58 ⟨rfl, hb⟩; have n0_ := Aside0.mk (Kd.R_below (by (with_reducible repeat (first | apply Kd.R_alloc | apply Kd.R_drewN | apply Kd.R_drew)); exact HO258.out) hb); have n1_ := Aside0.mk (Kd.R_below (by (with_reducible repeat (first | apply Kd.R_alloc | apply Kd.R_drewN | apply Kd.R_drew)); exact HO263.out) hb); have n2_ := Aside0.mk (Kd.R_below (by (with_reducible repeat (first | apply Kd.R_alloc | apply Kd.R_drewN | apply Kd.R_drew)); exact HO268.out) hb); have n3_ := Aside0.mk (Kd.R_below (by (with_reducible repeat (first | apply Kd.R_alloc | apply Kd.R_drewN | apply Kd.R_drew)); exact HO271.out) hb); have n4_ := Aside0.mk (Kd.R_below (by (with_reducible repeat (first | apply Kd.R_alloc | apply Kd.R_drewN | apply Kd.R_drew)); exact HO276.out) hb); have n5_ := Aside0.mk (Kd.R_below (by (with_reducible repeat (first | apply Kd.R_alloc | apply Kd.R_drewN | apply Kd.R_drew)); exact HO278.out) hb); have n6_ := Aside0.mk (Kd.R_below (by (with_reducible repeat (first | apply Kd.R_alloc | apply Kd.R_drewN | apply Kd.R_drew)); exact HO283.out) hb); have n7_ := Aside0.mk (Kd.R_below (by (with_reducible repeat (first | apply Kd.R_alloc | apply Kd.R_drewN | apply Kd.R_drew)); exact HO286.out) hb); have n8_ := Aside0.mk (Kd.R_below (by (with_reducible repeat (first | apply Kd.R_alloc | apply Kd.R_drewN | apply Kd.R_drew)); exact HO291.out) hb); have n9_ := Aside0.mk (Kd.R_below (by (with_reducible repeat (first | apply Kd.R_alloc | apply Kd.R_drewN | apply Kd.R_drew)); exact HO294.out) hb); have n10_ := Aside0.mk (Kd.R_below (by (with_reducible repeat (first | apply Kd.R_alloc | apply Kd.R_drewN | apply Kd.R_drew)); exact HO301.out) hb); have n11_ := Aside0.mk (Kd.R_below (by (with_reducible repeat (first | apply Kd.R_alloc | apply Kd.R_drewN | apply Kd.R_drew)); exact HO305.out) hb); have n12_ := Aside0.mk (below_step (by repeat (first | (with_reducible first | exact HB.out | apply below_alloc | apply pw_below_drewN | apply below_drew1) | exact HB.out)) hb); clear HO258; clear HO263; clear HO268; clear HO271; clear HO276; clear HO278; clear HO283; clear HO286; clear HO291; clear HO294; clear HO301; clear HO305; clear HB; have HO258 := n0_; have HO263 := n1_; have HO268 := n2_; have HO271 := n3_; have HO276 := n4_; have HO278 := n5_; have HO283 := n6_; have HO286 := n7_; have HO291 := n8_; have HO294 := n9_; have HO301 := n10_; have HO305 := n11_; have HB := n12_; clear n0_ n1_ n2_ n3_ n4_ n5_ n6_ n7_ n8_ n9_ n10_ n11_ n12_; (try clear hb); (try clear hb2); (try clear hk); (try clear hi)))
              go_ret
              exact ⟨by first | rfl | (simp [errW_none, errW_some] <;> rfl) | (simp [*, errW_none, errW_some] <;> rfl), by repeat (first | (with_reducible first | exact HB.out | apply below_alloc | apply pw_below_drewN | apply below_drew1) | exact HB.out)⟩
             ·rw [if_neg c29] at H
              have c29b0 : (t308 == 1900) = false := beq_eq_false_iff_ne.mpr c29
              have c29b1 : (t308 != 1900) = true := bne_iff_ne.mpr c29
              exact absurd (Option.some.inj H) (by rw [HT.out]; decide)
            ·rw [if_neg c27] at H
             have c27b0 : (t307 == 0) = false := beq_eq_false_iff_ne.mpr c27
             have c27b1 : (t307 != 0) = true := bne_iff_ne.mpr c27
             exact absurd (Option.some.inj H) (by rw [HT.out]; decide)
           ·replace c25 := Bool.eq_false_iff.mpr c25
            subst c25
            have H1 : (some false) = some r := by rw [if_neg (show ¬ (false = true) by decide)] at H; exact H
            clear H
            have H := H1
            clear H1
            exact absurd (Option.some.inj H) (by rw [HT.out]; decide)
          ·replace c23 := Bool.eq_false_iff.mpr c23
           subst c23
           have H1 : (some false) = some r := by rw [if_neg (show ¬ (false = true) by decide)] at H; exact H
           clear H
           have H := H1
           clear H1
           exact absurd (Option.some.inj H) (by rw [HT.out]; decide)
         ·rw [if_neg c21] at H
          have c21b0 : (t298 == 0) = false := beq_eq_false_iff_ne.mpr c21
          have c21b1 : (t298 != 0) = true := bne_iff_ne.mpr c21
          exact absurd (Option.some.inj H) (by rw [HT.out]; decide)
       ·replace c18 := Bool.eq_false_iff.mpr c18
        subst c18
        have H1 : (some false) = some r := by rw [if_neg (show ¬ (false = true) by decide)] at H; exact H
        clear H
        have H := H1
        clear H1
        exact absurd (Option.some.inj H) (by rw [HT.out]; decide)
      ·rw [if_neg c16] at H
       have c16b0 : (t296 == 0) = false := beq_eq_false_iff_ne.mpr c16
       have c16b1 : (t296 != 0) = true := bne_iff_ne.mpr c16
       exact absurd (Option.some.inj H) (by rw [HT.out]; decide)
     ·replace c14 := Bool.eq_false_iff.mpr c14
      subst c14
      have H1 : (some false) = some r := by rw [if_neg (show ¬ (false = true) by decide)] at H; exact H
      clear H
      have H := H1
      clear H1
      exact absurd (Option.some.inj H) (by rw [HT.out]; decide)
    ·replace c13 := Bool.eq_false_iff.mpr c13
     subst c13
     have H1 : (some false) = some r := by rw [if_neg (show ¬ (false = true) by decide)] at H; exact H
     clear H
     have H := H1
     clear H1
     exact absurd (Option.some.inj H) (by rw [HT.out]; decide)
   ·rw [if_neg c10] at H
    have c10b0 : (t288 == 0) = false := beq_eq_false_iff_ne.mpr c10
    have c10b1 : (t288 != 0) = true := bne_iff_ne.mpr c10
    exact absurd (Option.some.inj H) (by rw [HT.out]; decide)
  ·replace c8 := Bool.eq_false_iff.mpr c8
   subst c8
   have H1 : (some false) = some r := by rw [if_neg (show ¬ (false = true) by decide)] at H; exact H
   clear H
   have H := H1
   clear H1
   exact absurd (Option.some.inj H) (by rw [HT.out]; decide)
 ·replace c7 := Bool.eq_false_iff.mpr c7
  subst c7
  have H1 : (some false) = some r := by rw [if_neg (show ¬ (false = true) by decide)] at H; exact H
  clear H
  have H := H1
  clear H1
  exact absurd (Option.some.inj H) (by rw [HT.out]; decide)

end Go.Proofs.Ytnfoldgialdhjaa.Q19
namespace Go.Proofs.Ytnfoldgialdhjaa.Q19
open Go.RowKit Go.Proofs.YtnfoldgialdhjaaW.PrintWords Go.Proofs.YtnfoldgialdhjaaW.PrintLast Go.Proofs.YtnfoldgialdhjaaW.PrintMore
attribute [local go_sem] max2_int min2_int max_two min_two max_three min_three max_four min_four   -- for this text's walks alone
set_option linter.unusedVariables false
set_option linter.unusedSimpArgs false

/-! ### watchwordlaw19_Nears: function 3 -/
def watchwordlaw19_Nears.j0 : Nat → List (S46) → List (S46) → List (S46) → List (S46) → List (S46) → List Int → Bool → Option (Bool)
 | 0, _, _, _, _, _, _, _ => none
 | k + 1, x0, x4, x7, x8, x14, x20, x99 => if x99 = true then (some false) else ((watchwordlaw0_SpoilNears.f k x8).bind fun t344 => ((watchwordlaw0_SpoilNears.f k x14).bind fun t345 => ((watchwordlaw0_SpoilInts.f k x20).bind fun t346 => ((watchwordlaw0_KeptNears.f k x7 x0 x4).bind fun t347 => (if t347 = true then ((watchwordlaw19_awake.f k).bind fun t348 => (some t348)) else (some false))))))
def watchwordlaw19_Nears.g (k : Nat) (l0 : List (S46)) (a1 : Int) (a2 : Bool) (l2 : List (S46)) (l3 : List (S46)) : Option (Bool) := (near_Heard.f k l2 a1 a2).bind fun bt306 => ((watchwordref18_HeardOf.f k l0 a1 a2).bind fun bt311 => ((near_Tick.f k l2).bind fun bt316 => ((watchwordref18_TickNears.f k l0).bind fun bt323 => ((near_Full.f k l2).bind fun t330 => ((watchwordlaw0_SameNears.f k bt306.1 bt311.1).bind fun t333 => (if t333 = true then (if (bt306.2.1 != bt311.2.1) = true then (watchwordlaw19_Nears.j0 k l0 l3 l2 bt306.1 bt316.1 t330 true) else ((watchwordlaw0_Num.f bt306.2.2).bind fun t334 => (if t334 = bt311.2.2 then ((watchwordlaw0_SameNears.f k bt316.1 bt323.1).bind fun t335 => (if t335 = true then ((watchwordlaw0_SameInts.f k bt316.2.1 bt323.2.1).bind fun t336 => (if t336 = true then ((watchwordlaw0_Num.f bt316.2.2).bind fun t337 => (if t337 = bt323.2.2 then ((watchwordref18_FullOf.f k l0).bind fun t338 => ((watchwordlaw0_SameInts.f k t330 t338).bind fun t341 => (if t341 = true then ((near_May.f k l2).bind fun t342 => ((watchwordref18_NearsMay.f k l0).bind fun t343 => (watchwordlaw19_Nears.j0 k l0 l3 l2 bt306.1 bt316.1 t330 (t342 != t343)))) else (watchwordlaw19_Nears.j0 k l0 l3 l2 bt306.1 bt316.1 t330 true)))) else (watchwordlaw19_Nears.j0 k l0 l3 l2 bt306.1 bt316.1 t330 true))) else (watchwordlaw19_Nears.j0 k l0 l3 l2 bt306.1 bt316.1 t330 true))) else (watchwordlaw19_Nears.j0 k l0 l3 l2 bt306.1 bt316.1 t330 true))) else (watchwordlaw19_Nears.j0 k l0 l3 l2 bt306.1 bt316.1 t330 true)))) else (watchwordlaw19_Nears.j0 k l0 l3 l2 bt306.1 bt316.1 t330 true)))))))
theorem watchwordlaw19_Nears.mono_l : ∀ k, (∀ y0 y1 y2 y3 y4 y5 y6, LeO (watchwordlaw19_Nears.j0 k y0 y1 y2 y3 y4 y5 y6) (watchwordlaw19_Nears.j0 (k + 1) y0 y1 y2 y3 y4 y5 y6))
 | 0 => fun _ _ _ _ _ _ _ r h => by simp [watchwordlaw19_Nears.j0] at h
 | k + 1 => by
  have ih0 := watchwordlaw19_Nears.mono_l k
  ·intro y0 y1 y2 y3 y4 y5 y6
   unfold watchwordlaw19_Nears.j0
   repeat' first
   | (with_reducible exact ih0 _ _ _ _ _ _ _)
   | (with_reducible exact near_Full.mono _ _)
   | (with_reducible exact near_Heard.mono _ _ _ _)
   | (with_reducible exact near_May.mono _ _)
   | (with_reducible exact near_Tick.mono _ _)
   | (with_reducible exact watchwordlaw0_KeptNears.mono _ _ _ _)
   | (with_reducible exact watchwordlaw0_SameInts.mono _ _ _)
   | (with_reducible exact watchwordlaw0_SameNears.mono _ _ _)
   | (with_reducible exact watchwordlaw0_SpoilInts.mono _ _)
   | (with_reducible exact watchwordlaw0_SpoilNears.mono _ _)
   | (with_reducible exact watchwordlaw19_awake.mono _)
   | (with_reducible exact watchwordref18_FullOf.mono _ _)
   | (with_reducible exact watchwordref18_HeardOf.mono _ _ _ _)
   | (with_reducible exact watchwordref18_NearsMay.mono _ _)
   | (with_reducible exact watchwordref18_TickNears.mono _ _)
   | (with_reducible exact LeO.refl _)
   | (with_reducible exact LeO.none _)
   | (with_reducible refine LeO.ite ?_ ?_)
   | (with_reducible refine LeO.bind ?_ (fun _ => ?_))
   | exact ih0 _ _ _ _ _ _ _
   | exact near_Full.mono _ _
   | exact near_Heard.mono _ _ _ _
   | exact near_May.mono _ _
   | exact near_Tick.mono _ _
   | exact watchwordlaw0_KeptNears.mono _ _ _ _
   | exact watchwordlaw0_SameInts.mono _ _ _
   | exact watchwordlaw0_SameNears.mono _ _ _
   | exact watchwordlaw0_SpoilInts.mono _ _
   | exact watchwordlaw0_SpoilNears.mono _ _
   | exact watchwordlaw19_awake.mono _
   | exact watchwordref18_FullOf.mono _ _
   | exact watchwordref18_HeardOf.mono _ _ _ _
   | exact watchwordref18_NearsMay.mono _ _
   | exact watchwordref18_TickNears.mono _ _
   | exact LeO.none _
   | refine LeO.ite ?_ ?_
   | refine LeO.bind ?_ (fun _ => ?_)
theorem watchwordlaw19_Nears.mono : ∀ a0 a1 a2 a3 a4 k, LeO (watchwordlaw19_Nears.g k a0 a1 a2 a3 a4) (watchwordlaw19_Nears.g (k + 1) a0 a1 a2 a3 a4) := by
 intro a0 a1 a2 a3 a4 k
 have ih0 := watchwordlaw19_Nears.mono_l k
 unfold watchwordlaw19_Nears.g
 repeat' first
   | (with_reducible exact ih0 _ _ _ _ _ _ _)
   | (with_reducible exact near_Full.mono _ _)
   | (with_reducible exact near_Heard.mono _ _ _ _)
   | (with_reducible exact near_May.mono _ _)
   | (with_reducible exact near_Tick.mono _ _)
   | (with_reducible exact watchwordlaw0_KeptNears.mono _ _ _ _)
   | (with_reducible exact watchwordlaw0_SameInts.mono _ _ _)
   | (with_reducible exact watchwordlaw0_SameNears.mono _ _ _)
   | (with_reducible exact watchwordlaw0_SpoilInts.mono _ _)
   | (with_reducible exact watchwordlaw0_SpoilNears.mono _ _)
   | (with_reducible exact watchwordlaw19_awake.mono _)
   | (with_reducible exact watchwordref18_FullOf.mono _ _)
   | (with_reducible exact watchwordref18_HeardOf.mono _ _ _ _)
   | (with_reducible exact watchwordref18_NearsMay.mono _ _)
   | (with_reducible exact watchwordref18_TickNears.mono _ _)
   | (with_reducible exact LeO.refl _)
   | (with_reducible exact LeO.none _)
   | (with_reducible refine LeO.ite ?_ ?_)
   | (with_reducible refine LeO.bind ?_ (fun _ => ?_))
   | exact ih0 _ _ _ _ _ _ _
   | exact near_Full.mono _ _
   | exact near_Heard.mono _ _ _ _
   | exact near_May.mono _ _
   | exact near_Tick.mono _ _
   | exact watchwordlaw0_KeptNears.mono _ _ _ _
   | exact watchwordlaw0_SameInts.mono _ _ _
   | exact watchwordlaw0_SameNears.mono _ _ _
   | exact watchwordlaw0_SpoilInts.mono _ _
   | exact watchwordlaw0_SpoilNears.mono _ _
   | exact watchwordlaw19_awake.mono _
   | exact watchwordref18_FullOf.mono _ _
   | exact watchwordref18_HeardOf.mono _ _ _ _
   | exact watchwordref18_NearsMay.mono _ _
   | exact watchwordref18_TickNears.mono _ _
   | exact LeO.none _
   | refine LeO.ite ?_ ?_
   | refine LeO.bind ?_ (fun _ => ?_)
set_option maxHeartbeats 8000000 in
set_option maxRecDepth 100000 in
theorem watchwordlaw19_Nears.walk (k : Nat) (A0 : Option Addr) (c0 : Nat) (l0 : List (S46)) (a1 : Int) (a2 : Bool) (l2 : List (S46)) (l3 : List (S46)) (r : Bool) (w : World) (hr0 : Kd.C k46 w A0 l0.length l0) (hc0 : l0.length ≤ c0) (hL : watchwordlaw0_LendNears.f l0 = some l2) (h3 : ∀ t_, watchwordlaw0_CopyNears.f l0 = some t_ → t_ ++ ([(⟨77777, 0, 0⟩ : S46), (⟨77777, 0, 0⟩ : S46)] : List S46) = l3) (hlen : l3.length = l2.length + 2) (hsz : l2.length ≤ 1000000000000000) (hle : l0.length ≤ l3.length) (h : watchwordlaw19_Nears.g k l0 a1 a2 l2 l3 = some r) (hT : r = true) :
  Calls Try.prog 3 #[.slice A0 l0.length c0, .int .i64 a1, .bool a2] w fun e w' => e = .returned (.bool r) ∧ Below w.heap.size w w' := by
 have HL_ := Aside0.mk hL
 have H3_ := Aside0.mk h3
 have HN_ := Aside0.mk hlen
 have HS_ := Aside0.mk hsz
 have HE_ := Aside0.mk hle
 clear hL h3 hlen hsz hle
 have HR0 := Aside0.mk hr0
 have HC0 := Aside0.mk hc0
 clear hr0 hc0
 have HB := Aside0.mk (Below.refl w.heap.size w)
 have HT := Aside0.mk hT
 clear hT
 have H : ((near_Heard.f k l2 a1 a2).bind fun bt306 => ((watchwordref18_HeardOf.f k l0 a1 a2).bind fun bt311 => ((near_Tick.f k l2).bind fun bt316 => ((watchwordref18_TickNears.f k l0).bind fun bt323 => ((near_Full.f k l2).bind fun t330 => ((watchwordlaw0_SameNears.f k bt306.1 bt311.1).bind fun t333 => (if t333 = true then (if (bt306.2.1 != bt311.2.1) = true then (watchwordlaw19_Nears.j0 k l0 l3 l2 bt306.1 bt316.1 t330 true) else ((watchwordlaw0_Num.f bt306.2.2).bind fun t334 => (if t334 = bt311.2.2 then ((watchwordlaw0_SameNears.f k bt316.1 bt323.1).bind fun t335 => (if t335 = true then ((watchwordlaw0_SameInts.f k bt316.2.1 bt323.2.1).bind fun t336 => (if t336 = true then ((watchwordlaw0_Num.f bt316.2.2).bind fun t337 => (if t337 = bt323.2.2 then ((watchwordref18_FullOf.f k l0).bind fun t338 => ((watchwordlaw0_SameInts.f k t330 t338).bind fun t341 => (if t341 = true then ((near_May.f k l2).bind fun t342 => ((watchwordref18_NearsMay.f k l0).bind fun t343 => (watchwordlaw19_Nears.j0 k l0 l3 l2 bt306.1 bt316.1 t330 (t342 != t343)))) else (watchwordlaw19_Nears.j0 k l0 l3 l2 bt306.1 bt316.1 t330 true)))) else (watchwordlaw19_Nears.j0 k l0 l3 l2 bt306.1 bt316.1 t330 true))) else (watchwordlaw19_Nears.j0 k l0 l3 l2 bt306.1 bt316.1 t330 true))) else (watchwordlaw19_Nears.j0 k l0 l3 l2 bt306.1 bt316.1 t330 true))) else (watchwordlaw19_Nears.j0 k l0 l3 l2 bt306.1 bt316.1 t330 true)))) else (watchwordlaw19_Nears.j0 k l0 l3 l2 bt306.1 bt316.1 t330 true)))))))) = some r := h
 clear h
 replace H := Option.bind_eq_some_iff.mp H
 obtain ⟨⟨t306, t307, t308⟩, A60, H⟩ := H
 replace H : ((watchwordref18_HeardOf.f k l0 a1 a2).bind fun bt311 => ((near_Tick.f k l2).bind fun bt316 => ((watchwordref18_TickNears.f k l0).bind fun bt323 => ((near_Full.f k l2).bind fun t330 => ((watchwordlaw0_SameNears.f k t306 bt311.1).bind fun t333 => (if t333 = true then (if (t307 != bt311.2.1) = true then (watchwordlaw19_Nears.j0 k l0 l3 l2 t306 bt316.1 t330 true) else ((watchwordlaw0_Num.f t308).bind fun t334 => (if t334 = bt311.2.2 then ((watchwordlaw0_SameNears.f k bt316.1 bt323.1).bind fun t335 => (if t335 = true then ((watchwordlaw0_SameInts.f k bt316.2.1 bt323.2.1).bind fun t336 => (if t336 = true then ((watchwordlaw0_Num.f bt316.2.2).bind fun t337 => (if t337 = bt323.2.2 then ((watchwordref18_FullOf.f k l0).bind fun t338 => ((watchwordlaw0_SameInts.f k t330 t338).bind fun t341 => (if t341 = true then ((near_May.f k l2).bind fun t342 => ((watchwordref18_NearsMay.f k l0).bind fun t343 => (watchwordlaw19_Nears.j0 k l0 l3 l2 t306 bt316.1 t330 (t342 != t343)))) else (watchwordlaw19_Nears.j0 k l0 l3 l2 t306 bt316.1 t330 true)))) else (watchwordlaw19_Nears.j0 k l0 l3 l2 t306 bt316.1 t330 true))) else (watchwordlaw19_Nears.j0 k l0 l3 l2 t306 bt316.1 t330 true))) else (watchwordlaw19_Nears.j0 k l0 l3 l2 t306 bt316.1 t330 true))) else (watchwordlaw19_Nears.j0 k l0 l3 l2 t306 bt316.1 t330 true)))) else (watchwordlaw19_Nears.j0 k l0 l3 l2 t306 bt316.1 t330 true))))))) = some r := H
 have A6 := Aside0.mk A60
 clear A60
 replace H := Option.bind_eq_some_iff.mp H
 obtain ⟨⟨t311, t312, t313⟩, A70, H⟩ := H
 replace H : ((near_Tick.f k l2).bind fun bt316 => ((watchwordref18_TickNears.f k l0).bind fun bt323 => ((near_Full.f k l2).bind fun t330 => ((watchwordlaw0_SameNears.f k t306 t311).bind fun t333 => (if t333 = true then (if (t307 != t312) = true then (watchwordlaw19_Nears.j0 k l0 l3 l2 t306 bt316.1 t330 true) else ((watchwordlaw0_Num.f t308).bind fun t334 => (if t334 = t313 then ((watchwordlaw0_SameNears.f k bt316.1 bt323.1).bind fun t335 => (if t335 = true then ((watchwordlaw0_SameInts.f k bt316.2.1 bt323.2.1).bind fun t336 => (if t336 = true then ((watchwordlaw0_Num.f bt316.2.2).bind fun t337 => (if t337 = bt323.2.2 then ((watchwordref18_FullOf.f k l0).bind fun t338 => ((watchwordlaw0_SameInts.f k t330 t338).bind fun t341 => (if t341 = true then ((near_May.f k l2).bind fun t342 => ((watchwordref18_NearsMay.f k l0).bind fun t343 => (watchwordlaw19_Nears.j0 k l0 l3 l2 t306 bt316.1 t330 (t342 != t343)))) else (watchwordlaw19_Nears.j0 k l0 l3 l2 t306 bt316.1 t330 true)))) else (watchwordlaw19_Nears.j0 k l0 l3 l2 t306 bt316.1 t330 true))) else (watchwordlaw19_Nears.j0 k l0 l3 l2 t306 bt316.1 t330 true))) else (watchwordlaw19_Nears.j0 k l0 l3 l2 t306 bt316.1 t330 true))) else (watchwordlaw19_Nears.j0 k l0 l3 l2 t306 bt316.1 t330 true)))) else (watchwordlaw19_Nears.j0 k l0 l3 l2 t306 bt316.1 t330 true)))))) = some r := H
 have A7 := Aside0.mk A70
 clear A70
 replace H := Option.bind_eq_some_iff.mp H
 obtain ⟨⟨t316, t317, t318⟩, A80, H⟩ := H
 replace H : ((watchwordref18_TickNears.f k l0).bind fun bt323 => ((near_Full.f k l2).bind fun t330 => ((watchwordlaw0_SameNears.f k t306 t311).bind fun t333 => (if t333 = true then (if (t307 != t312) = true then (watchwordlaw19_Nears.j0 k l0 l3 l2 t306 t316 t330 true) else ((watchwordlaw0_Num.f t308).bind fun t334 => (if t334 = t313 then ((watchwordlaw0_SameNears.f k t316 bt323.1).bind fun t335 => (if t335 = true then ((watchwordlaw0_SameInts.f k t317 bt323.2.1).bind fun t336 => (if t336 = true then ((watchwordlaw0_Num.f t318).bind fun t337 => (if t337 = bt323.2.2 then ((watchwordref18_FullOf.f k l0).bind fun t338 => ((watchwordlaw0_SameInts.f k t330 t338).bind fun t341 => (if t341 = true then ((near_May.f k l2).bind fun t342 => ((watchwordref18_NearsMay.f k l0).bind fun t343 => (watchwordlaw19_Nears.j0 k l0 l3 l2 t306 t316 t330 (t342 != t343)))) else (watchwordlaw19_Nears.j0 k l0 l3 l2 t306 t316 t330 true)))) else (watchwordlaw19_Nears.j0 k l0 l3 l2 t306 t316 t330 true))) else (watchwordlaw19_Nears.j0 k l0 l3 l2 t306 t316 t330 true))) else (watchwordlaw19_Nears.j0 k l0 l3 l2 t306 t316 t330 true))) else (watchwordlaw19_Nears.j0 k l0 l3 l2 t306 t316 t330 true)))) else (watchwordlaw19_Nears.j0 k l0 l3 l2 t306 t316 t330 true))))) = some r := H
 have A8 := Aside0.mk A80
 clear A80
 replace H := Option.bind_eq_some_iff.mp H
 obtain ⟨⟨t323, t324, t325⟩, A90, H⟩ := H
 replace H : ((near_Full.f k l2).bind fun t330 => ((watchwordlaw0_SameNears.f k t306 t311).bind fun t333 => (if t333 = true then (if (t307 != t312) = true then (watchwordlaw19_Nears.j0 k l0 l3 l2 t306 t316 t330 true) else ((watchwordlaw0_Num.f t308).bind fun t334 => (if t334 = t313 then ((watchwordlaw0_SameNears.f k t316 t323).bind fun t335 => (if t335 = true then ((watchwordlaw0_SameInts.f k t317 t324).bind fun t336 => (if t336 = true then ((watchwordlaw0_Num.f t318).bind fun t337 => (if t337 = t325 then ((watchwordref18_FullOf.f k l0).bind fun t338 => ((watchwordlaw0_SameInts.f k t330 t338).bind fun t341 => (if t341 = true then ((near_May.f k l2).bind fun t342 => ((watchwordref18_NearsMay.f k l0).bind fun t343 => (watchwordlaw19_Nears.j0 k l0 l3 l2 t306 t316 t330 (t342 != t343)))) else (watchwordlaw19_Nears.j0 k l0 l3 l2 t306 t316 t330 true)))) else (watchwordlaw19_Nears.j0 k l0 l3 l2 t306 t316 t330 true))) else (watchwordlaw19_Nears.j0 k l0 l3 l2 t306 t316 t330 true))) else (watchwordlaw19_Nears.j0 k l0 l3 l2 t306 t316 t330 true))) else (watchwordlaw19_Nears.j0 k l0 l3 l2 t306 t316 t330 true)))) else (watchwordlaw19_Nears.j0 k l0 l3 l2 t306 t316 t330 true)))) = some r := H
 have A9 := Aside0.mk A90
 clear A90
 replace H := Option.bind_eq_some_iff.mp H
 obtain ⟨t330, A100, H⟩ := H
 replace H : ((watchwordlaw0_SameNears.f k t306 t311).bind fun t333 => (if t333 = true then (if (t307 != t312) = true then (watchwordlaw19_Nears.j0 k l0 l3 l2 t306 t316 t330 true) else ((watchwordlaw0_Num.f t308).bind fun t334 => (if t334 = t313 then ((watchwordlaw0_SameNears.f k t316 t323).bind fun t335 => (if t335 = true then ((watchwordlaw0_SameInts.f k t317 t324).bind fun t336 => (if t336 = true then ((watchwordlaw0_Num.f t318).bind fun t337 => (if t337 = t325 then ((watchwordref18_FullOf.f k l0).bind fun t338 => ((watchwordlaw0_SameInts.f k t330 t338).bind fun t341 => (if t341 = true then ((near_May.f k l2).bind fun t342 => ((watchwordref18_NearsMay.f k l0).bind fun t343 => (watchwordlaw19_Nears.j0 k l0 l3 l2 t306 t316 t330 (t342 != t343)))) else (watchwordlaw19_Nears.j0 k l0 l3 l2 t306 t316 t330 true)))) else (watchwordlaw19_Nears.j0 k l0 l3 l2 t306 t316 t330 true))) else (watchwordlaw19_Nears.j0 k l0 l3 l2 t306 t316 t330 true))) else (watchwordlaw19_Nears.j0 k l0 l3 l2 t306 t316 t330 true))) else (watchwordlaw19_Nears.j0 k l0 l3 l2 t306 t316 t330 true)))) else (watchwordlaw19_Nears.j0 k l0 l3 l2 t306 t316 t330 true))) = some r := H
 have A10 := Aside0.mk A100
 clear A100
 have HC11 := Aside0.mk H
 clear H
 go_enter Try.func3, Try.ntmps3
 go_upto_region 2 with (first | ((with_reducible refine gate_callee (f := 8) rfl ?_); refine goesL_ (some 22) rfl rfl Try.func8 (by kernel_rfl) rfl #[.slice A0 l0.length c0] rfl (by (try simp only [List.map_toArray, List.map_cons, List.map_nil]); first | done | rfl) ?_; (with_reducible refine (watchwordlaw0_LendNears.lent _ _ l0 l2 _ ?side1 ?side2 HL_.out).mono ?_); (case side1 => repeat (first | exact HR0.out | (with_reducible refine Kd.C_alloc ?_ _) | (with_reducible refine Kd.C_drewN ?_ _) | (with_reducible refine Kd.C_drew ?_))); (case side2 => exact HC0.out); rintro e w1 ⟨A2, c2, y_, t_, rfl, hc1_, hy_, hr_, hk_, hn_, hb⟩; refine ⟨_, rfl, ?_⟩; have HB0 := Aside0.mk (below_step (by repeat (first | (with_reducible first | exact HB.out | apply below_alloc | apply pw_below_drewN | apply below_drew1) | exact HB.out)) hb); have HY1 := Aside0.mk hc1_; have HY2 := Aside0.mk hy_; have HY3 := Aside0.mk hr_; have HY4 := Aside0.mk hk_; have HY5 := Aside0.mk hn_; clear hb hc1_ hy_ hr_ hk_ hn_))
 have hye_ : y_ = l3 := HY2.out.trans (H3_.out _ HY1.out)
 have HC2 := Aside0.mk (show l2.length ≤ c2 by have hn_ := HY5.out; rw [hye_, HN_.out] at hn_; omega)
 have HC3 := Aside0.mk (show l3.length ≤ c2 by have hn_ := HY5.out; rw [hye_] at hn_; exact hn_)
 have HR2 := Aside0.mk (show Kd.C k46 w1 A2 l2.length l2 by rw [HY3.out]; exact Kd.C_take HY4.out (by rw [hye_]; exact HE_.out))
 have HR3 := Aside0.mk (show Kd.C k46 w1 A2 l3.length l3 by rw [← hye_]; exact HY4.out)
 have hr0_ := Kd.C_below HR0.out HB0.out
 clear HR0 HB HY1 HY2 HY3 HY4 HY5 hye_
 have HR0 := Aside0.mk hr0_
 clear hr0_
 have HB := Aside0.mk (Below.refl w1.heap.size w1)
 go_upto_region 7 with (first | ((with_reducible refine gate_callee (f := 9) rfl ?_); refine goesL_ (some 27) rfl rfl Try.func9 (by kernel_rfl) rfl #[.slice A2 l2.length c2, .int .i64 a1, .bool a2] rfl (by (try simp only [List.map_toArray, List.map_cons, List.map_nil]); first | done | rfl | (simp only [List.length_drop, List.length_take]; rfl)) ?_; (with_reducible refine (near_Heard.calls k _ _ l2 a1 a2 t306 t307 t308 _ ?side1 ?side2 A6.out).mono ?_); (case side1 => repeat (first | exact HR2.out | (with_reducible refine Kd.C_alloc ?_ _) | (with_reducible refine Kd.C_drewN ?_ _) | (with_reducible refine Kd.C_drew ?_))); (case side2 => exact HC2.out); rintro e w12 ⟨v309, rfl, ho0, hb⟩; refine ⟨_, rfl, ?_⟩; have n0_ := Aside0.mk (Kd.R_lower ho0 (below_size (by repeat (first | (with_reducible first | exact HB.out | apply below_alloc | apply pw_below_drewN | apply below_drew1) | exact HB.out)))); have n1_ := Aside0.mk (below_step (by repeat (first | (with_reducible first | exact HB.out | apply below_alloc | apply pw_below_drewN | apply below_drew1) | exact HB.out)) hb); clear HB; have HO310 := n0_; have HB := n1_; clear n0_ n1_; (try clear hb); (try clear hb2); (try clear hk); (try clear hi); (try clear ho0)) | ((with_reducible refine gate_callee (f := 10) rfl ?_); refine goesL_ (some 35) rfl rfl Try.func10 (by kernel_rfl) rfl #[.slice A0 l0.length c0, .int .i64 a1, .bool a2] rfl (by (try simp only [List.map_toArray, List.map_cons, List.map_nil]); first | done | rfl | (simp only [List.length_drop, List.length_take]; rfl)) ?_; (with_reducible refine (watchwordref18_HeardOf.calls k _ _ l0 a1 a2 t311 t312 t313 _ ?side1 ?side2 A7.out).mono ?_); (case side1 => repeat (first | exact (Kd.C_below HR0.out HB.out) | (with_reducible refine Kd.C_alloc ?_ _) | (with_reducible refine Kd.C_drewN ?_ _) | (with_reducible refine Kd.C_drew ?_))); (case side2 => exact HC0.out); rintro e w13 ⟨v314, rfl, ho0, hb⟩; refine ⟨_, rfl, ?_⟩; have n0_ := Aside0.mk (Kd.R_elder' (by (with_reducible repeat (first | apply Kd.R_alloc | apply Kd.R_drewN | apply Kd.R_drew)); exact HO310.out) (Kd.R_base ho0) hb); have n1_ := Aside0.mk (Kd.R_lower (Kd.R_new' ho0 (Kd.R_lt (by (with_reducible repeat (first | apply Kd.R_alloc | apply Kd.R_drewN | apply Kd.R_drew)); exact HO310.out))) (below_size (by repeat (first | (with_reducible first | exact HB.out | apply below_alloc | apply pw_below_drewN | apply below_drew1) | exact HB.out)))); have n2_ := Aside0.mk (below_step (by repeat (first | (with_reducible first | exact HB.out | apply below_alloc | apply pw_below_drewN | apply below_drew1) | exact HB.out)) hb); clear HO310; clear HB; have HO310 := n0_; have HO315 := n1_; have HB := n2_; clear n0_ n1_ n2_; (try clear hb); (try clear hb2); (try clear hk); (try clear hi); (try clear ho0)) | ((with_reducible refine gate_callee (f := 11) rfl ?_); refine goesL_ (some 41) rfl rfl Try.func11 (by kernel_rfl) rfl #[.slice A2 l2.length c2] rfl (by (try simp only [List.map_toArray, List.map_cons, List.map_nil]); first | done | rfl | (simp only [List.length_drop, List.length_take]; rfl)) ?_; (with_reducible refine (near_Tick.calls k _ _ l2 t316 t317 t318 _ ?side1 ?side2 A8.out).mono ?_); (case side1 => repeat (first | exact (Kd.C_below HR2.out HB.out) | (with_reducible refine Kd.C_alloc ?_ _) | (with_reducible refine Kd.C_drewN ?_ _) | (with_reducible refine Kd.C_drew ?_))); (case side2 => exact HC2.out); rintro e w14 ⟨v319, v321, rfl, ho0, ho1, hb⟩; refine ⟨_, rfl, ?_⟩; have n0_ := Aside0.mk (Kd.R_elder' (by (with_reducible repeat (first | apply Kd.R_alloc | apply Kd.R_drewN | apply Kd.R_drew)); exact HO310.out) (Kd.R_base ho0) hb); have n1_ := Aside0.mk (Kd.R_elder' (by (with_reducible repeat (first | apply Kd.R_alloc | apply Kd.R_drewN | apply Kd.R_drew)); exact HO315.out) (Kd.R_base ho0) hb); have n2_ := Aside0.mk (Kd.R_lower (Kd.R_new' (Kd.R_new' ho0 (Kd.R_lt (by (with_reducible repeat (first | apply Kd.R_alloc | apply Kd.R_drewN | apply Kd.R_drew)); exact HO310.out))) (Kd.R_lt (by (with_reducible repeat (first | apply Kd.R_alloc | apply Kd.R_drewN | apply Kd.R_drew)); exact HO315.out))) (below_size (by repeat (first | (with_reducible first | exact HB.out | apply below_alloc | apply pw_below_drewN | apply below_drew1) | exact HB.out)))); have n3_ := Aside0.mk (Kd.R_lower ho1 (below_size (by repeat (first | (with_reducible first | exact HB.out | apply below_alloc | apply pw_below_drewN | apply below_drew1) | exact HB.out)))); have n4_ := Aside0.mk (below_step (by repeat (first | (with_reducible first | exact HB.out | apply below_alloc | apply pw_below_drewN | apply below_drew1) | exact HB.out)) hb); clear HO310; clear HO315; clear HB; have HO310 := n0_; have HO315 := n1_; have HO320 := n2_; have HO322 := n3_; have HB := n4_; clear n0_ n1_ n2_ n3_ n4_; (try clear hb); (try clear hb2); (try clear hk); (try clear hi); (try clear ho0); (try clear ho1)) | ((with_reducible refine gate_callee (f := 12) rfl ?_); refine goesL_ (some 47) rfl rfl Try.func12 (by kernel_rfl) rfl #[.slice A0 l0.length c0] rfl (by (try simp only [List.map_toArray, List.map_cons, List.map_nil]); first | done | rfl | (simp only [List.length_drop, List.length_take]; rfl)) ?_; (with_reducible refine (watchwordref18_TickNears.calls k _ _ l0 t323 t324 t325 _ ?side1 ?side2 A9.out).mono ?_); (case side1 => repeat (first | exact (Kd.C_below HR0.out HB.out) | (with_reducible refine Kd.C_alloc ?_ _) | (with_reducible refine Kd.C_drewN ?_ _) | (with_reducible refine Kd.C_drew ?_))); (case side2 => exact HC0.out); rintro e w15 ⟨v326, v328, rfl, ho0, ho1, hb⟩; refine ⟨_, rfl, ?_⟩; have n0_ := Aside0.mk (Kd.R_elder' (by (with_reducible repeat (first | apply Kd.R_alloc | apply Kd.R_drewN | apply Kd.R_drew)); exact HO310.out) (Kd.R_base ho0) hb); have n1_ := Aside0.mk (Kd.R_elder' (by (with_reducible repeat (first | apply Kd.R_alloc | apply Kd.R_drewN | apply Kd.R_drew)); exact HO315.out) (Kd.R_base ho0) hb); have n2_ := Aside0.mk (Kd.R_elder' (by (with_reducible repeat (first | apply Kd.R_alloc | apply Kd.R_drewN | apply Kd.R_drew)); exact HO320.out) (Kd.R_base ho0) hb); have n3_ := Aside0.mk (Kd.R_elder' (by (with_reducible repeat (first | apply Kd.R_alloc | apply Kd.R_drewN | apply Kd.R_drew)); exact HO322.out) (Kd.R_base ho1) hb); have n4_ := Aside0.mk (Kd.R_lower (Kd.R_new' (Kd.R_new' (Kd.R_new' ho0 (Kd.R_lt (by (with_reducible repeat (first | apply Kd.R_alloc | apply Kd.R_drewN | apply Kd.R_drew)); exact HO310.out))) (Kd.R_lt (by (with_reducible repeat (first | apply Kd.R_alloc | apply Kd.R_drewN | apply Kd.R_drew)); exact HO315.out))) (Kd.R_lt (by (with_reducible repeat (first | apply Kd.R_alloc | apply Kd.R_drewN | apply Kd.R_drew)); exact HO320.out))) (below_size (by repeat (first | (with_reducible first | exact HB.out | apply below_alloc | apply pw_below_drewN | apply below_drew1) | exact HB.out)))); have n5_ := Aside0.mk (Kd.R_lower (Kd.R_new' ho1 (Kd.R_lt (by (with_reducible repeat (first | apply Kd.R_alloc | apply Kd.R_drewN | apply Kd.R_drew)); exact HO322.out))) (below_size (by repeat (first | (with_reducible first | exact HB.out | apply below_alloc | apply pw_below_drewN | apply below_drew1) | exact HB.out)))); have n6_ := Aside0.mk (below_step (by repeat (first | (with_reducible first | exact HB.out | apply below_alloc | apply pw_below_drewN | apply below_drew1) | exact HB.out)) hb); clear HO310; clear HO315; clear HO320; clear HO322; clear HB; have HO310 := n0_; have HO315 := n1_; have HO320 := n2_; have HO322 := n3_; have HO327 := n4_; have HO329 := n5_; have HB := n6_; clear n0_ n1_ n2_ n3_ n4_ n5_ n6_; (try clear hb); (try clear hb2); (try clear hk); (try clear hi); (try clear ho0); (try clear ho1)) | ((with_reducible refine gate_callee (f := 13) rfl ?_); refine goesL_ (some 52) rfl rfl Try.func13 (by kernel_rfl) rfl #[.slice A2 l2.length c2] rfl (by (try simp only [List.map_toArray, List.map_cons, List.map_nil]); first | done | rfl | (simp only [List.length_drop, List.length_take]; rfl)) ?_; (with_reducible refine (near_Full.calls k _ _ l2 t330 _ ?side1 ?side2 A10.out).mono ?_); (case side1 => repeat (first | exact (Kd.C_below HR2.out HB.out) | (with_reducible refine Kd.C_alloc ?_ _) | (with_reducible refine Kd.C_drewN ?_ _) | (with_reducible refine Kd.C_drew ?_))); (case side2 => exact HC2.out); rintro e w16 ⟨v331, rfl, ho0, hb⟩; refine ⟨_, rfl, ?_⟩; have n0_ := Aside0.mk (Kd.R_below (by (with_reducible repeat (first | apply Kd.R_alloc | apply Kd.R_drewN | apply Kd.R_drew)); exact HO310.out) hb); have n1_ := Aside0.mk (Kd.R_below (by (with_reducible repeat (first | apply Kd.R_alloc | apply Kd.R_drewN | apply Kd.R_drew)); exact HO315.out) hb); have n2_ := Aside0.mk (Kd.R_below (by (with_reducible repeat (first | apply Kd.R_alloc | apply Kd.R_drewN | apply Kd.R_drew)); exact HO320.out) hb); have n3_ := Aside0.mk (Kd.R_elder' (by (with_reducible repeat (first | apply Kd.R_alloc | apply Kd.R_drewN | apply Kd.R_drew)); exact HO322.out) (Kd.R_base ho0) hb); have n4_ := Aside0.mk (Kd.R_below (by (with_reducible repeat (first | apply Kd.R_alloc | apply Kd.R_drewN | apply Kd.R_drew)); exact HO327.out) hb); have n5_ := Aside0.mk (Kd.R_elder' (by (with_reducible repeat (first | apply Kd.R_alloc | apply Kd.R_drewN | apply Kd.R_drew)); exact HO329.out) (Kd.R_base ho0) hb); have n6_ := Aside0.mk (Kd.R_lower (Kd.R_new' (Kd.R_new' ho0 (Kd.R_lt (by (with_reducible repeat (first | apply Kd.R_alloc | apply Kd.R_drewN | apply Kd.R_drew)); exact HO322.out))) (Kd.R_lt (by (with_reducible repeat (first | apply Kd.R_alloc | apply Kd.R_drewN | apply Kd.R_drew)); exact HO329.out))) (below_size (by repeat (first | (with_reducible first | exact HB.out | apply below_alloc | apply pw_below_drewN | apply below_drew1) | exact HB.out)))); have n7_ := Aside0.mk (below_step (by repeat (first | (with_reducible first | exact HB.out | apply below_alloc | apply pw_below_drewN | apply below_drew1) | exact HB.out)) hb); clear HO310; clear HO315; clear HO320; clear HO322; clear HO327; clear HO329; clear HB; have HO310 := n0_; have HO315 := n1_; have HO320 := n2_; have HO322 := n3_; have HO327 := n4_; have HO329 := n5_; have HO332 := n6_; have HB := n7_; clear n0_ n1_ n2_ n3_ n4_ n5_ n6_ n7_; (try clear hb); (try clear hb2); (try clear hk); (try clear hi); (try clear ho0)))
 (try simp only [Act.put, List.setIfInBounds_toArray, List.set_cons_zero, List.set_cons_succ])
 go_cut [99] (fun v99 wc => ∃ (kq : Nat) (x99_10 : Bool), v99 = .bool x99_10 ∧ Aside0 (watchwordlaw19_Nears.j0 kq l0 l3 l2 t306 t316 t330 x99_10 = some r) ∧ Aside0 (kq ≤ k) ∧ Aside0 (Kd.R k46 46 wc w1.heap.size (fun k_ => some k_ ≠ (v319 : Value).ownBlock) v309 t306) ∧ Aside0 (Kd.R k46 46 wc w1.heap.size (fun k_ => some k_ ≠ (v309 : Value).ownBlock) v319 t316) ∧ Aside0 (Kd.R (Kd.int .i64) 3 wc w1.heap.size (fun _ => True) v331 t330) ∧ Aside0 (Below w1.heap.size w1 wc))
 case first =>
  have H := HC11.out
  clear HC11
  replace H := Option.bind_eq_some_iff.mp H
  obtain ⟨t333, A170, H⟩ := H
  replace H : (if t333 = true then (if (t307 != t312) = true then (watchwordlaw19_Nears.j0 k l0 l3 l2 t306 t316 t330 true) else ((watchwordlaw0_Num.f t308).bind fun t334 => (if t334 = t313 then ((watchwordlaw0_SameNears.f k t316 t323).bind fun t335 => (if t335 = true then ((watchwordlaw0_SameInts.f k t317 t324).bind fun t336 => (if t336 = true then ((watchwordlaw0_Num.f t318).bind fun t337 => (if t337 = t325 then ((watchwordref18_FullOf.f k l0).bind fun t338 => ((watchwordlaw0_SameInts.f k t330 t338).bind fun t341 => (if t341 = true then ((near_May.f k l2).bind fun t342 => ((watchwordref18_NearsMay.f k l0).bind fun t343 => (watchwordlaw19_Nears.j0 k l0 l3 l2 t306 t316 t330 (t342 != t343)))) else (watchwordlaw19_Nears.j0 k l0 l3 l2 t306 t316 t330 true)))) else (watchwordlaw19_Nears.j0 k l0 l3 l2 t306 t316 t330 true))) else (watchwordlaw19_Nears.j0 k l0 l3 l2 t306 t316 t330 true))) else (watchwordlaw19_Nears.j0 k l0 l3 l2 t306 t316 t330 true))) else (watchwordlaw19_Nears.j0 k l0 l3 l2 t306 t316 t330 true)))) else (watchwordlaw19_Nears.j0 k l0 l3 l2 t306 t316 t330 true)) = some r := H
  have A17 := Aside0.mk A170
  clear A170
  by_cases c18 : t333 = true
  ·subst c18
   have H1 : (if (t307 != t312) = true then (watchwordlaw19_Nears.j0 k l0 l3 l2 t306 t316 t330 true) else ((watchwordlaw0_Num.f t308).bind fun t334 => (if t334 = t313 then ((watchwordlaw0_SameNears.f k t316 t323).bind fun t335 => (if t335 = true then ((watchwordlaw0_SameInts.f k t317 t324).bind fun t336 => (if t336 = true then ((watchwordlaw0_Num.f t318).bind fun t337 => (if t337 = t325 then ((watchwordref18_FullOf.f k l0).bind fun t338 => ((watchwordlaw0_SameInts.f k t330 t338).bind fun t341 => (if t341 = true then ((near_May.f k l2).bind fun t342 => ((watchwordref18_NearsMay.f k l0).bind fun t343 => (watchwordlaw19_Nears.j0 k l0 l3 l2 t306 t316 t330 (t342 != t343)))) else (watchwordlaw19_Nears.j0 k l0 l3 l2 t306 t316 t330 true)))) else (watchwordlaw19_Nears.j0 k l0 l3 l2 t306 t316 t330 true))) else (watchwordlaw19_Nears.j0 k l0 l3 l2 t306 t316 t330 true))) else (watchwordlaw19_Nears.j0 k l0 l3 l2 t306 t316 t330 true))) else (watchwordlaw19_Nears.j0 k l0 l3 l2 t306 t316 t330 true)))) = some r := by rw [if_pos rfl] at H; exact H
   clear H
   have H := H1
   clear H1
   by_cases c19 : (t307 != t312) = true
   ·rw [if_pos c19] at H
    have c19b0 : (t307 != t312) = true := c19
    (try (have c19b1 : decide (t307 = t312) = false := by simpa using c19))
    (try (have c19b2 : (t307 == t312) = false := by simpa using c19))
    (try (have c19b3 : ¬ (t307 = t312) := by simpa using c19))
    clear c19
    (first | rw [c19b0] | (simp only [i64_w, i32_w]; rw [c19b0]) | skip)
    exact absurd H (fun h_ => (by
     have hd_ : ∀ k_, watchwordlaw19_Nears.j0 k_ l0 l3 l2 t306 t316 t330 true = some r → False := by
      intro k_ h_
      cases k_ with
      | zero => exact absurd h_ (by simp [watchwordlaw19_Nears.j0])
      | succ k_ =>
       simp only [watchwordlaw19_Nears.j0, if_true] at h_
       exact absurd (Option.some.inj h_) (by rw [HT.out]; decide)
     exact hd_ _ h_))
   ·rw [if_neg c19] at H
    have c19b0 : (t307 != t312) = false := by simpa using c19
    (try (have c19b1 : decide (t307 = t312) = true := by simpa using c19))
    (try (have c19b2 : (t307 == t312) = true := by simpa using c19))
    clear c19
    (first | rw [c19b0] | (simp only [i64_w, i32_w]; rw [c19b0]) | skip)
    replace H := Option.bind_eq_some_iff.mp H
    obtain ⟨t334, A200, H⟩ := H
    replace H : (if t334 = t313 then ((watchwordlaw0_SameNears.f k t316 t323).bind fun t335 => (if t335 = true then ((watchwordlaw0_SameInts.f k t317 t324).bind fun t336 => (if t336 = true then ((watchwordlaw0_Num.f t318).bind fun t337 => (if t337 = t325 then ((watchwordref18_FullOf.f k l0).bind fun t338 => ((watchwordlaw0_SameInts.f k t330 t338).bind fun t341 => (if t341 = true then ((near_May.f k l2).bind fun t342 => ((watchwordref18_NearsMay.f k l0).bind fun t343 => (watchwordlaw19_Nears.j0 k l0 l3 l2 t306 t316 t330 (t342 != t343)))) else (watchwordlaw19_Nears.j0 k l0 l3 l2 t306 t316 t330 true)))) else (watchwordlaw19_Nears.j0 k l0 l3 l2 t306 t316 t330 true))) else (watchwordlaw19_Nears.j0 k l0 l3 l2 t306 t316 t330 true))) else (watchwordlaw19_Nears.j0 k l0 l3 l2 t306 t316 t330 true))) else (watchwordlaw19_Nears.j0 k l0 l3 l2 t306 t316 t330 true)) = some r := H
    have A20 := Aside0.mk A200
    clear A200
    by_cases c21 : t334 = t313
    ·rw [if_pos c21] at H
     have c21b0 : (t334 == t313) = true := beq_iff_eq.mpr c21
     have c21b1 : (t334 != t313) = false := bne_eq_false_iff_eq.mpr c21
     clear c21
     replace H := Option.bind_eq_some_iff.mp H
     obtain ⟨t335, A220, H⟩ := H
     replace H : (if t335 = true then ((watchwordlaw0_SameInts.f k t317 t324).bind fun t336 => (if t336 = true then ((watchwordlaw0_Num.f t318).bind fun t337 => (if t337 = t325 then ((watchwordref18_FullOf.f k l0).bind fun t338 => ((watchwordlaw0_SameInts.f k t330 t338).bind fun t341 => (if t341 = true then ((near_May.f k l2).bind fun t342 => ((watchwordref18_NearsMay.f k l0).bind fun t343 => (watchwordlaw19_Nears.j0 k l0 l3 l2 t306 t316 t330 (t342 != t343)))) else (watchwordlaw19_Nears.j0 k l0 l3 l2 t306 t316 t330 true)))) else (watchwordlaw19_Nears.j0 k l0 l3 l2 t306 t316 t330 true))) else (watchwordlaw19_Nears.j0 k l0 l3 l2 t306 t316 t330 true))) else (watchwordlaw19_Nears.j0 k l0 l3 l2 t306 t316 t330 true)) = some r := H
     have A22 := Aside0.mk A220
     clear A220
     by_cases c23 : t335 = true
     ·subst c23
      have H1 : ((watchwordlaw0_SameInts.f k t317 t324).bind fun t336 => (if t336 = true then ((watchwordlaw0_Num.f t318).bind fun t337 => (if t337 = t325 then ((watchwordref18_FullOf.f k l0).bind fun t338 => ((watchwordlaw0_SameInts.f k t330 t338).bind fun t341 => (if t341 = true then ((near_May.f k l2).bind fun t342 => ((watchwordref18_NearsMay.f k l0).bind fun t343 => (watchwordlaw19_Nears.j0 k l0 l3 l2 t306 t316 t330 (t342 != t343)))) else (watchwordlaw19_Nears.j0 k l0 l3 l2 t306 t316 t330 true)))) else (watchwordlaw19_Nears.j0 k l0 l3 l2 t306 t316 t330 true))) else (watchwordlaw19_Nears.j0 k l0 l3 l2 t306 t316 t330 true))) = some r := by rw [if_pos rfl] at H; exact H
      clear H
      have H := H1
      clear H1
      replace H := Option.bind_eq_some_iff.mp H
      obtain ⟨t336, A240, H⟩ := H
      replace H : (if t336 = true then ((watchwordlaw0_Num.f t318).bind fun t337 => (if t337 = t325 then ((watchwordref18_FullOf.f k l0).bind fun t338 => ((watchwordlaw0_SameInts.f k t330 t338).bind fun t341 => (if t341 = true then ((near_May.f k l2).bind fun t342 => ((watchwordref18_NearsMay.f k l0).bind fun t343 => (watchwordlaw19_Nears.j0 k l0 l3 l2 t306 t316 t330 (t342 != t343)))) else (watchwordlaw19_Nears.j0 k l0 l3 l2 t306 t316 t330 true)))) else (watchwordlaw19_Nears.j0 k l0 l3 l2 t306 t316 t330 true))) else (watchwordlaw19_Nears.j0 k l0 l3 l2 t306 t316 t330 true)) = some r := H
      have A24 := Aside0.mk A240
      clear A240
      by_cases c25 : t336 = true
      ·subst c25
       have H1 : ((watchwordlaw0_Num.f t318).bind fun t337 => (if t337 = t325 then ((watchwordref18_FullOf.f k l0).bind fun t338 => ((watchwordlaw0_SameInts.f k t330 t338).bind fun t341 => (if t341 = true then ((near_May.f k l2).bind fun t342 => ((watchwordref18_NearsMay.f k l0).bind fun t343 => (watchwordlaw19_Nears.j0 k l0 l3 l2 t306 t316 t330 (t342 != t343)))) else (watchwordlaw19_Nears.j0 k l0 l3 l2 t306 t316 t330 true)))) else (watchwordlaw19_Nears.j0 k l0 l3 l2 t306 t316 t330 true))) = some r := by rw [if_pos rfl] at H; exact H
       clear H
       have H := H1
       clear H1
       replace H := Option.bind_eq_some_iff.mp H
       obtain ⟨t337, A260, H⟩ := H
       replace H : (if t337 = t325 then ((watchwordref18_FullOf.f k l0).bind fun t338 => ((watchwordlaw0_SameInts.f k t330 t338).bind fun t341 => (if t341 = true then ((near_May.f k l2).bind fun t342 => ((watchwordref18_NearsMay.f k l0).bind fun t343 => (watchwordlaw19_Nears.j0 k l0 l3 l2 t306 t316 t330 (t342 != t343)))) else (watchwordlaw19_Nears.j0 k l0 l3 l2 t306 t316 t330 true)))) else (watchwordlaw19_Nears.j0 k l0 l3 l2 t306 t316 t330 true)) = some r := H
       have A26 := Aside0.mk A260
       clear A260
       by_cases c27 : t337 = t325
       ·rw [if_pos c27] at H
        have c27b0 : (t337 == t325) = true := beq_iff_eq.mpr c27
        have c27b1 : (t337 != t325) = false := bne_eq_false_iff_eq.mpr c27
        clear c27
        replace H := Option.bind_eq_some_iff.mp H
        obtain ⟨t338, A280, H⟩ := H
        replace H : ((watchwordlaw0_SameInts.f k t330 t338).bind fun t341 => (if t341 = true then ((near_May.f k l2).bind fun t342 => ((watchwordref18_NearsMay.f k l0).bind fun t343 => (watchwordlaw19_Nears.j0 k l0 l3 l2 t306 t316 t330 (t342 != t343)))) else (watchwordlaw19_Nears.j0 k l0 l3 l2 t306 t316 t330 true))) = some r := H
        have A28 := Aside0.mk A280
        clear A280
        replace H := Option.bind_eq_some_iff.mp H
        obtain ⟨t341, A290, H⟩ := H
        replace H : (if t341 = true then ((near_May.f k l2).bind fun t342 => ((watchwordref18_NearsMay.f k l0).bind fun t343 => (watchwordlaw19_Nears.j0 k l0 l3 l2 t306 t316 t330 (t342 != t343)))) else (watchwordlaw19_Nears.j0 k l0 l3 l2 t306 t316 t330 true)) = some r := H
        have A29 := Aside0.mk A290
        clear A290
        by_cases c30 : t341 = true
        ·subst c30
         have H1 : ((near_May.f k l2).bind fun t342 => ((watchwordref18_NearsMay.f k l0).bind fun t343 => (watchwordlaw19_Nears.j0 k l0 l3 l2 t306 t316 t330 (t342 != t343)))) = some r := by rw [if_pos rfl] at H; exact H
         clear H
         have H := H1
         clear H1
         replace H := Option.bind_eq_some_iff.mp H
         obtain ⟨t342, A310, H⟩ := H
         replace H : ((watchwordref18_NearsMay.f k l0).bind fun t343 => (watchwordlaw19_Nears.j0 k l0 l3 l2 t306 t316 t330 (t342 != t343))) = some r := H
         have A31 := Aside0.mk A310
         clear A310
         replace H := Option.bind_eq_some_iff.mp H
         obtain ⟨t343, A320, H⟩ := H
         replace H : (watchwordlaw19_Nears.j0 k l0 l3 l2 t306 t316 t330 (t342 != t343)) = some r := H
         have A32 := Aside0.mk A320
         clear A320
         have H' := Aside0.mk H
         clear H
         obtain ⟨Ao33, co33, eo33⟩ := Kd.R_slice HO310.out
         subst eo33
         obtain ⟨Ao34, co34, eo34⟩ := Kd.R_slice HO315.out
         subst eo34
         go_wp2_with (first | ((with_reducible refine gate_callee (f := 14) rfl ?_); refine goesL_ (some 55) rfl rfl Try.func14 (by kernel_rfl) rfl #[.slice Ao33 t306.length co33, .slice Ao34 t311.length co34] rfl (by (try simp only [List.map_toArray, List.map_cons, List.map_nil]); first | done | rfl | (simp only [List.length_drop, List.length_take]; rfl)) ?_; (with_reducible refine (watchwordlaw0_SameNears.calls k _ _ t306 _ _ t311 true _ ?side1 ?side2 ?side3 ?side4 A17.out).mono ?_); (case side1 => repeat (first | exact (Kd.R_reads' HO310.out).2.2 | (with_reducible refine Kd.C_alloc ?_ _) | (with_reducible refine Kd.C_drewN ?_ _) | (with_reducible refine Kd.C_drew ?_))); (case side2 => exact (Kd.R_reads' HO310.out).2.1); (case side3 => repeat (first | exact (Kd.R_reads' HO315.out).2.2 | (with_reducible refine Kd.C_alloc ?_ _) | (with_reducible refine Kd.C_drewN ?_ _) | (with_reducible refine Kd.C_drew ?_))); (case side4 => exact (Kd.R_reads' HO315.out).2.1); rintro e w' ⟨rfl, ⟨nd, rfl⟩⟩; refine ⟨_, rfl, ?_⟩) | (go_at_call 15; (with_reducible refine (watchwordlaw0_Num.calls t308 t334 _ A20.out).mono ?_); rintro e w' ⟨rfl, ⟨nd, rfl⟩⟩; obtain ⟨Ao35, co35, eo35⟩ := Kd.R_slice HO320.out; subst eo35; obtain ⟨Ao36, co36, eo36⟩ := Kd.R_slice HO327.out; subst eo36) | (go_at_call 14; (with_reducible refine (watchwordlaw0_SameNears.calls k _ _ t316 _ _ t323 true _ ?side1 ?side2 ?side3 ?side4 A22.out).mono ?_); (case side1 => repeat (first | exact (Kd.R_reads' HO320.out).2.2 | (with_reducible refine Kd.C_alloc ?_ _) | (with_reducible refine Kd.C_drewN ?_ _) | (with_reducible refine Kd.C_drew ?_))); (case side2 => exact (Kd.R_reads' HO320.out).2.1); (case side3 => repeat (first | exact (Kd.R_reads' HO327.out).2.2 | (with_reducible refine Kd.C_alloc ?_ _) | (with_reducible refine Kd.C_drewN ?_ _) | (with_reducible refine Kd.C_drew ?_))); (case side4 => exact (Kd.R_reads' HO327.out).2.1); rintro e w' ⟨rfl, ⟨nd, rfl⟩⟩; obtain ⟨Ao37, co37, eo37⟩ := Kd.R_slice HO322.out; subst eo37; obtain ⟨Ao38, co38, eo38⟩ := Kd.R_slice HO329.out; subst eo38) | (go_at_call 16; (with_reducible refine (watchwordlaw0_SameInts.calls k _ _ t317 _ _ t324 true _ ?side1 ?side2 ?side3 ?side4 A24.out).mono ?_); (case side1 => repeat (first | exact (Kd.R_reads' HO322.out).2.2 | (with_reducible refine Kd.C_alloc ?_ _) | (with_reducible refine Kd.C_drewN ?_ _) | (with_reducible refine Kd.C_drew ?_))); (case side2 => exact (Kd.R_reads' HO322.out).2.1); (case side3 => repeat (first | exact (Kd.R_reads' HO329.out).2.2 | (with_reducible refine Kd.C_alloc ?_ _) | (with_reducible refine Kd.C_drewN ?_ _) | (with_reducible refine Kd.C_drew ?_))); (case side4 => exact (Kd.R_reads' HO329.out).2.1); rintro e w' ⟨rfl, ⟨nd, rfl⟩⟩) | (go_at_call 15; (with_reducible refine (watchwordlaw0_Num.calls t318 t337 _ A26.out).mono ?_); rintro e w' ⟨rfl, ⟨nd, rfl⟩⟩) | (go_at_call 17; (with_reducible refine (watchwordref18_FullOf.calls k _ _ l0 t338 _ ?side1 ?side2 A28.out).mono ?_); (case side1 => repeat (first | exact (Kd.C_below HR0.out (by repeat (first | (with_reducible first | exact HB.out | apply below_alloc | apply pw_below_drewN | apply below_drew1) | exact HB.out))) | (with_reducible refine Kd.C_alloc ?_ _) | (with_reducible refine Kd.C_drewN ?_ _) | (with_reducible refine Kd.C_drew ?_))); (case side2 => exact HC0.out); rintro e w39 ⟨v339, rfl, ho0, hb⟩; have n0_ := Aside0.mk (Kd.R_below (by (with_reducible repeat (first | apply Kd.R_alloc | apply Kd.R_drewN | apply Kd.R_drew)); exact HO310.out) hb); have n1_ := Aside0.mk (Kd.R_below (by (with_reducible repeat (first | apply Kd.R_alloc | apply Kd.R_drewN | apply Kd.R_drew)); exact HO315.out) hb); have n2_ := Aside0.mk (Kd.R_below (by (with_reducible repeat (first | apply Kd.R_alloc | apply Kd.R_drewN | apply Kd.R_drew)); exact HO320.out) hb); have n3_ := Aside0.mk (Kd.R_elder' (by (with_reducible repeat (first | apply Kd.R_alloc | apply Kd.R_drewN | apply Kd.R_drew)); exact HO322.out) (Kd.R_base ho0) hb); have n4_ := Aside0.mk (Kd.R_below (by (with_reducible repeat (first | apply Kd.R_alloc | apply Kd.R_drewN | apply Kd.R_drew)); exact HO327.out) hb); have n5_ := Aside0.mk (Kd.R_elder' (by (with_reducible repeat (first | apply Kd.R_alloc | apply Kd.R_drewN | apply Kd.R_drew)); exact HO329.out) (Kd.R_base ho0) hb); have n6_ := Aside0.mk (Kd.R_elder' (by (with_reducible repeat (first | apply Kd.R_alloc | apply Kd.R_drewN | apply Kd.R_drew)); exact HO332.out) (Kd.R_base ho0) hb); have n7_ := Aside0.mk (Kd.R_lower (Kd.R_new' (Kd.R_new' (Kd.R_new' ho0 (Kd.R_lt (by (with_reducible repeat (first | apply Kd.R_alloc | apply Kd.R_drewN | apply Kd.R_drew)); exact HO322.out))) (Kd.R_lt (by (with_reducible repeat (first | apply Kd.R_alloc | apply Kd.R_drewN | apply Kd.R_drew)); exact HO329.out))) (Kd.R_lt (by (with_reducible repeat (first | apply Kd.R_alloc | apply Kd.R_drewN | apply Kd.R_drew)); exact HO332.out))) (below_size (by repeat (first | (with_reducible first | exact HB.out | apply below_alloc | apply pw_below_drewN | apply below_drew1) | exact HB.out)))); have n8_ := Aside0.mk (below_step (by repeat (first | (with_reducible first | exact HB.out | apply below_alloc | apply pw_below_drewN | apply below_drew1) | exact HB.out)) hb); clear HO310; clear HO315; clear HO320; clear HO322; clear HO327; clear HO329; clear HO332; clear HB; have HO310 := n0_; have HO315 := n1_; have HO320 := n2_; have HO322 := n3_; have HO327 := n4_; have HO329 := n5_; have HO332 := n6_; have HO340 := n7_; have HB := n8_; clear n0_ n1_ n2_ n3_ n4_ n5_ n6_ n7_ n8_; (try clear hb); (try clear hb2); (try clear hk); (try clear hi); (try clear ho0); obtain ⟨Ao40, co40, eo40⟩ := Kd.R_slice HO332.out; subst eo40; obtain ⟨Ao41, co41, eo41⟩ := Kd.R_slice HO340.out; subst eo41) | (go_at_call 16; (with_reducible refine (watchwordlaw0_SameInts.calls k _ _ t330 _ _ t338 true _ ?side1 ?side2 ?side3 ?side4 A29.out).mono ?_); (case side1 => repeat (first | exact (Kd.R_reads' HO332.out).2.2 | (with_reducible refine Kd.C_alloc ?_ _) | (with_reducible refine Kd.C_drewN ?_ _) | (with_reducible refine Kd.C_drew ?_))); (case side2 => exact (Kd.R_reads' HO332.out).2.1); (case side3 => repeat (first | exact (Kd.R_reads' HO340.out).2.2 | (with_reducible refine Kd.C_alloc ?_ _) | (with_reducible refine Kd.C_drewN ?_ _) | (with_reducible refine Kd.C_drew ?_))); (case side4 => exact (Kd.R_reads' HO340.out).2.1); rintro e w' ⟨rfl, ⟨nd, rfl⟩⟩) | (go_at_call 18; (with_reducible refine (near_May.calls k _ _ l2 t342 _ ?side1 ?side2 A31.out).mono ?_); (case side1 => repeat (first | exact (Kd.C_below HR2.out (by repeat (first | (with_reducible first | exact HB.out | apply below_alloc | apply pw_below_drewN | apply below_drew1) | exact HB.out))) | (with_reducible refine Kd.C_alloc ?_ _) | (with_reducible refine Kd.C_drewN ?_ _) | (with_reducible refine Kd.C_drew ?_))); (case side2 => exact HC2.out); rintro e w42 ⟨rfl, hb⟩; have n0_ := Aside0.mk (Kd.R_below (by (with_reducible repeat (first | apply Kd.R_alloc | apply Kd.R_drewN | apply Kd.R_drew)); exact HO310.out) hb); have n1_ := Aside0.mk (Kd.R_below (by (with_reducible repeat (first | apply Kd.R_alloc | apply Kd.R_drewN | apply Kd.R_drew)); exact HO315.out) hb); have n2_ := Aside0.mk (Kd.R_below (by (with_reducible repeat (first | apply Kd.R_alloc | apply Kd.R_drewN | apply Kd.R_drew)); exact HO320.out) hb); have n3_ := Aside0.mk (Kd.R_below (by (with_reducible repeat (first | apply Kd.R_alloc | apply Kd.R_drewN | apply Kd.R_drew)); exact HO322.out) hb); have n4_ := Aside0.mk (Kd.R_below (by (with_reducible repeat (first | apply Kd.R_alloc | apply Kd.R_drewN | apply Kd.R_drew)); exact HO327.out) hb); have n5_ := Aside0.mk (Kd.R_below (by (with_reducible repeat (first | apply Kd.R_alloc | apply Kd.R_drewN | apply Kd.R_drew)); exact HO329.out) hb); have n6_ := Aside0.mk (Kd.R_below (by (with_reducible repeat (first | apply Kd.R_alloc | apply Kd.R_drewN | apply Kd.R_drew)); exact HO332.out) hb); have n7_ := Aside0.mk (Kd.R_below (by (with_reducible repeat (first | apply Kd.R_alloc | apply Kd.R_drewN | apply Kd.R_drew)); exact HO340.out) hb); have n8_ := Aside0.mk (below_step (by repeat (first | (with_reducible first | exact HB.out | apply below_alloc | apply pw_below_drewN | apply below_drew1) | exact HB.out)) hb); clear HO310; clear HO315; clear HO320; clear HO322; clear HO327; clear HO329; clear HO332; clear HO340; clear HB; have HO310 := n0_; have HO315 := n1_; have HO320 := n2_; have HO322 := n3_; have HO327 := n4_; have HO329 := n5_; have HO332 := n6_; have HO340 := n7_; have HB := n8_; clear n0_ n1_ n2_ n3_ n4_ n5_ n6_ n7_ n8_; (try clear hb); (try clear hb2); (try clear hk); (try clear hi)) | (go_at_call 19; (with_reducible refine (watchwordref18_NearsMay.calls k _ _ l0 t343 _ ?side1 ?side2 A32.out).mono ?_); (case side1 => repeat (first | exact (Kd.C_below HR0.out HB.out) | (with_reducible refine Kd.C_alloc ?_ _) | (with_reducible refine Kd.C_drewN ?_ _) | (with_reducible refine Kd.C_drew ?_))); (case side2 => exact HC0.out); rintro e w43 ⟨rfl, hb⟩; have n0_ := Aside0.mk (Kd.R_below (by (with_reducible repeat (first | apply Kd.R_alloc | apply Kd.R_drewN | apply Kd.R_drew)); exact HO310.out) hb); have n1_ := Aside0.mk (Kd.R_below (by (with_reducible repeat (first | apply Kd.R_alloc | apply Kd.R_drewN | apply Kd.R_drew)); exact HO315.out) hb); have n2_ := Aside0.mk (Kd.R_below (by (with_reducible repeat (first | apply Kd.R_alloc | apply Kd.R_drewN | apply Kd.R_drew)); exact HO320.out) hb); have n3_ := Aside0.mk (Kd.R_below (by (with_reducible repeat (first | apply Kd.R_alloc | apply Kd.R_drewN | apply Kd.R_drew)); exact HO322.out) hb); have n4_ := Aside0.mk (Kd.R_below (by (with_reducible repeat (first | apply Kd.R_alloc | apply Kd.R_drewN | apply Kd.R_drew)); exact HO327.out) hb); have n5_ := Aside0.mk (Kd.R_below (by (with_reducible repeat (first | apply Kd.R_alloc | apply Kd.R_drewN | apply Kd.R_drew)); exact HO329.out) hb); have n6_ := Aside0.mk (Kd.R_below (by (with_reducible repeat (first | apply Kd.R_alloc | apply Kd.R_drewN | apply Kd.R_drew)); exact HO332.out) hb); have n7_ := Aside0.mk (Kd.R_below (by (with_reducible repeat (first | apply Kd.R_alloc | apply Kd.R_drewN | apply Kd.R_drew)); exact HO340.out) hb); have n8_ := Aside0.mk (below_step (by repeat (first | (with_reducible first | exact HB.out | apply below_alloc | apply pw_below_drewN | apply below_drew1) | exact HB.out)) hb); clear HO310; clear HO315; clear HO320; clear HO322; clear HO327; clear HO329; clear HO332; clear HO340; clear HB; have HO310 := n0_; have HO315 := n1_; have HO320 := n2_; have HO322 := n3_; have HO327 := n4_; have HO329 := n5_; have HO332 := n6_; have HO340 := n7_; have HB := n8_; clear n0_ n1_ n2_ n3_ n4_ n5_ n6_ n7_ n8_; (try clear hb); (try clear hb2); (try clear hk); (try clear hi)))
         go_meet
         case rel => exact ⟨_, ((t342 != t343)), (by first | rfl | (simp; done) | (simp [*]; done)), H', ⟨by first | omega | exact Nat.le_refl _⟩, ⟨by (with_reducible repeat (first | apply Kd.R_alloc | apply Kd.R_drewN | apply Kd.R_drew)); exact Kd.R_mono HO310.out (fun _ hk => hk.1.2)⟩, ⟨by (with_reducible repeat (first | apply Kd.R_alloc | apply Kd.R_drewN | apply Kd.R_drew)); exact Kd.R_mono HO320.out (fun _ hk => hk.1.1.2)⟩, ⟨by (with_reducible repeat (first | apply Kd.R_alloc | apply Kd.R_drewN | apply Kd.R_drew)); exact Kd.R_mono HO332.out (fun _ hk => trivial)⟩, ⟨by repeat (first | (with_reducible first | exact HB.out | apply below_alloc | apply pw_below_drewN | apply below_drew1) | exact HB.out)⟩⟩
        ·replace c30 := Bool.eq_false_iff.mpr c30
         subst c30
         have H1 : (watchwordlaw19_Nears.j0 k l0 l3 l2 t306 t316 t330 true) = some r := by rw [if_neg (show ¬ (false = true) by decide)] at H; exact H
         clear H
         have H := H1
         clear H1
         exact absurd H (fun h_ => (by
          have hd_ : ∀ k_, watchwordlaw19_Nears.j0 k_ l0 l3 l2 t306 t316 t330 true = some r → False := by
           intro k_ h_
           cases k_ with
           | zero => exact absurd h_ (by simp [watchwordlaw19_Nears.j0])
           | succ k_ =>
            simp only [watchwordlaw19_Nears.j0, if_true] at h_
            exact absurd (Option.some.inj h_) (by rw [HT.out]; decide)
          exact hd_ _ h_))
       ·rw [if_neg c27] at H
        have c27b0 : (t337 == t325) = false := beq_eq_false_iff_ne.mpr c27
        have c27b1 : (t337 != t325) = true := bne_iff_ne.mpr c27
        exact absurd H (fun h_ => (by
         have hd_ : ∀ k_, watchwordlaw19_Nears.j0 k_ l0 l3 l2 t306 t316 t330 true = some r → False := by
          intro k_ h_
          cases k_ with
          | zero => exact absurd h_ (by simp [watchwordlaw19_Nears.j0])
          | succ k_ =>
           simp only [watchwordlaw19_Nears.j0, if_true] at h_
           exact absurd (Option.some.inj h_) (by rw [HT.out]; decide)
         exact hd_ _ h_))
      ·replace c25 := Bool.eq_false_iff.mpr c25
       subst c25
       have H1 : (watchwordlaw19_Nears.j0 k l0 l3 l2 t306 t316 t330 true) = some r := by rw [if_neg (show ¬ (false = true) by decide)] at H; exact H
       clear H
       have H := H1
       clear H1
       exact absurd H (fun h_ => (by
        have hd_ : ∀ k_, watchwordlaw19_Nears.j0 k_ l0 l3 l2 t306 t316 t330 true = some r → False := by
         intro k_ h_
         cases k_ with
         | zero => exact absurd h_ (by simp [watchwordlaw19_Nears.j0])
         | succ k_ =>
          simp only [watchwordlaw19_Nears.j0, if_true] at h_
          exact absurd (Option.some.inj h_) (by rw [HT.out]; decide)
        exact hd_ _ h_))
     ·replace c23 := Bool.eq_false_iff.mpr c23
      subst c23
      have H1 : (watchwordlaw19_Nears.j0 k l0 l3 l2 t306 t316 t330 true) = some r := by rw [if_neg (show ¬ (false = true) by decide)] at H; exact H
      clear H
      have H := H1
      clear H1
      exact absurd H (fun h_ => (by
       have hd_ : ∀ k_, watchwordlaw19_Nears.j0 k_ l0 l3 l2 t306 t316 t330 true = some r → False := by
        intro k_ h_
        cases k_ with
        | zero => exact absurd h_ (by simp [watchwordlaw19_Nears.j0])
        | succ k_ =>
         simp only [watchwordlaw19_Nears.j0, if_true] at h_
         exact absurd (Option.some.inj h_) (by rw [HT.out]; decide)
       exact hd_ _ h_))
    ·rw [if_neg c21] at H
     have c21b0 : (t334 == t313) = false := beq_eq_false_iff_ne.mpr c21
     have c21b1 : (t334 != t313) = true := bne_iff_ne.mpr c21
     exact absurd H (fun h_ => (by
      have hd_ : ∀ k_, watchwordlaw19_Nears.j0 k_ l0 l3 l2 t306 t316 t330 true = some r → False := by
       intro k_ h_
       cases k_ with
       | zero => exact absurd h_ (by simp [watchwordlaw19_Nears.j0])
       | succ k_ =>
        simp only [watchwordlaw19_Nears.j0, if_true] at h_
        exact absurd (Option.some.inj h_) (by rw [HT.out]; decide)
      exact hd_ _ h_))
  ·replace c18 := Bool.eq_false_iff.mpr c18
   subst c18
   have H1 : (watchwordlaw19_Nears.j0 k l0 l3 l2 t306 t316 t330 true) = some r := by rw [if_neg (show ¬ (false = true) by decide)] at H; exact H
   clear H
   have H := H1
   clear H1
   exact absurd H (fun h_ => (by
    have hd_ : ∀ k_, watchwordlaw19_Nears.j0 k_ l0 l3 l2 t306 t316 t330 true = some r → False := by
     intro k_ h_
     cases k_ with
     | zero => exact absurd h_ (by simp [watchwordlaw19_Nears.j0])
     | succ k_ =>
      simp only [watchwordlaw19_Nears.j0, if_true] at h_
      exact absurd (Option.some.inj h_) (by rw [HT.out]; decide)
    exact hd_ _ h_))
 case rest =>
  clear HC11
  try clear c1
  try clear p2
  try clear c2
  try clear c9
  try clear c10
  try clear c11
  try clear c12
  try clear c13
  try clear c14
  try clear c18
  try clear c19
  try clear c19b0
  try clear c19b1
  try clear c19b2
  try clear c21
  try clear c21b0
  try clear c21b1
  try clear c23
  try clear c25
  try clear c27
  try clear c27b0
  try clear c27b1
  try clear c30
  obtain ⟨kq, x99_10, rfl, HA, HJ10, HO_8, HO_14, HO_20, HB⟩ := hcut
  cases kq with
  | zero => exact absurd HA.out (by simp [watchwordlaw19_Nears.j0])
  | succ kj10 =>
   have H := HA.out
   clear HA
   simp only [watchwordlaw19_Nears.j0] at H
   by_cases c44 : x99_10 = true
   ·subst c44
    have H1 : (some false) = some r := by rw [if_pos rfl] at H; exact H
    clear H
    have H := H1
    clear H1
    exact absurd (Option.some.inj H) (by rw [HT.out]; decide)
   ·replace c44 := Bool.eq_false_iff.mpr c44
    subst c44
    have H1 : ((watchwordlaw0_SpoilNears.f kj10 t306).bind fun t344 => ((watchwordlaw0_SpoilNears.f kj10 t316).bind fun t345 => ((watchwordlaw0_SpoilInts.f kj10 t330).bind fun t346 => ((watchwordlaw0_KeptNears.f kj10 l2 l0 l3).bind fun t347 => (if t347 = true then ((watchwordlaw19_awake.f kj10).bind fun t348 => (some t348)) else (some false)))))) = some r := by rw [if_neg (show ¬ (false = true) by decide)] at H; exact H
    clear H
    have H := H1
    clear H1
    replace H := Option.bind_eq_some_iff.mp H
    obtain ⟨t344, A450, H⟩ := H
    replace H : ((watchwordlaw0_SpoilNears.f kj10 t316).bind fun t345 => ((watchwordlaw0_SpoilInts.f kj10 t330).bind fun t346 => ((watchwordlaw0_KeptNears.f kj10 l2 l0 l3).bind fun t347 => (if t347 = true then ((watchwordlaw19_awake.f kj10).bind fun t348 => (some t348)) else (some false))))) = some r := H
    have A45 := Aside0.mk A450
    clear A450
    replace H := Option.bind_eq_some_iff.mp H
    obtain ⟨t345, A460, H⟩ := H
    replace H : ((watchwordlaw0_SpoilInts.f kj10 t330).bind fun t346 => ((watchwordlaw0_KeptNears.f kj10 l2 l0 l3).bind fun t347 => (if t347 = true then ((watchwordlaw19_awake.f kj10).bind fun t348 => (some t348)) else (some false)))) = some r := H
    have A46 := Aside0.mk A460
    clear A460
    replace H := Option.bind_eq_some_iff.mp H
    obtain ⟨t346, A470, H⟩ := H
    replace H : ((watchwordlaw0_KeptNears.f kj10 l2 l0 l3).bind fun t347 => (if t347 = true then ((watchwordlaw19_awake.f kj10).bind fun t348 => (some t348)) else (some false))) = some r := H
    have A47 := Aside0.mk A470
    clear A470
    replace H := Option.bind_eq_some_iff.mp H
    obtain ⟨t347, A480, H⟩ := H
    replace H : (if t347 = true then ((watchwordlaw19_awake.f kj10).bind fun t348 => (some t348)) else (some false)) = some r := H
    have A48 := Aside0.mk A480
    clear A480
    by_cases c49 : t347 = true
    ·subst c49
     have H1 : ((watchwordlaw19_awake.f kj10).bind fun t348 => (some t348)) = some r := by rw [if_pos rfl] at H; exact H
     clear H
     have H := H1
     clear H1
     replace H := Option.bind_eq_some_iff.mp H
     obtain ⟨t348, A500, H⟩ := H
     replace H : (some t348) = some r := H
     have A50 := Aside0.mk A500
     clear A500
     obtain rfl := Option.some.inj H
     obtain ⟨Ao51, co51, eo51⟩ := Kd.R_slice HO_8.out
     subst eo51
     go_wp2_with (first | ((with_reducible refine gate_callee (f := 20) rfl ?_); refine goesL_ (some 101) rfl rfl Try.func20 (by kernel_rfl) rfl #[.slice Ao51 t306.length co51] rfl (by (try simp only [List.map_toArray, List.map_cons, List.map_nil]); first | done | rfl | (simp only [List.length_drop, List.length_take]; rfl)) ?_; (with_reducible refine (watchwordlaw0_SpoilNears.calls kj10 (fun k_ => some k_ = (.slice Ao51 t306.length co51 : Value).ownBlock) (.slice Ao51 t306.length co51) t306 t344 w1 _ ?side1 ?side2 A45.out).mono ?_); (case side1 => repeat (first | (with_reducible first | exact HB.out | apply below_alloc | apply pw_below_drewN | apply below_drew1) | exact HB.out)); (case side2 => exact Kd.R_tight rfl HO_8.out); rintro e w52 ⟨rfl, hy0, hb, hkp⟩; refine ⟨_, rfl, ?_⟩; have n0_ := Aside0.mk (Kd.R_reok rfl hy0 (fun k_ e_ => HO_8.out.1 k_ e_)); have n1_ := Aside0.mk (Kd.R_mono (ok' := fun k_ => some k_ ≠ (.slice Ao51 t306.length co51 : Value).ownBlock) (Kd.R_keptB (HO_14.out) hkp (fun k_ hk_ hs_ => (hk_) hs_)) (fun k_ hk_ => hk_.1)); have n2_ := Aside0.mk (Kd.R_mono (ok' := fun k_ => True) (Kd.R_keptB ((Kd.R_apart' HO_20.out (Kd.R_typed HO_8.out) (by decide))) hkp (fun k_ hk_ hs_ => (hk_.2) hs_)) (fun k_ hk_ => trivial)); have n3_ := Aside0.mk (hb); clear HO_8; clear HO_14; clear HO_20; clear HB; have HO_8 := n0_; have HO_14 := n1_; have HO_20 := n2_; have HB := n3_; clear n0_ n1_ n2_ n3_; (try clear hb); (try clear hkp); (try clear hy0); obtain ⟨Ao53, co53, eo53⟩ := Kd.R_slice HO_14.out; subst eo53) | ((with_reducible refine gate_callee (f := 20) rfl ?_); refine goesL_ (some 103) rfl rfl Try.func20 (by kernel_rfl) rfl #[.slice Ao53 t316.length co53] rfl (by (try simp only [List.map_toArray, List.map_cons, List.map_nil]); first | done | rfl | (simp only [List.length_drop, List.length_take]; rfl)) ?_; (with_reducible refine (watchwordlaw0_SpoilNears.calls kj10 (fun k_ => some k_ = (.slice Ao53 t316.length co53 : Value).ownBlock) (.slice Ao53 t316.length co53) t316 t345 w1 _ ?side1 ?side2 A46.out).mono ?_); (case side1 => repeat (first | (with_reducible first | exact HB.out | apply below_alloc | apply pw_below_drewN | apply below_drew1) | exact HB.out)); (case side2 => exact Kd.R_tight rfl HO_14.out); rintro e w54 ⟨rfl, hy0, hb, hkp⟩; refine ⟨_, rfl, ?_⟩; have n0_ := Aside0.mk (Kd.R_mono (ok' := fun k_ => some k_ ≠ (.slice Ao53 t316.length co53 : Value).ownBlock) (Kd.R_keptB (HO_8.out) hkp (fun k_ hk_ hs_ => (hk_) hs_)) (fun k_ hk_ => hk_.1)); have n1_ := Aside0.mk (Kd.R_reok rfl hy0 (fun k_ e_ => HO_14.out.1 k_ e_)); have n2_ := Aside0.mk (Kd.R_mono (ok' := fun k_ => True) (Kd.R_keptB ((Kd.R_apart' HO_20.out (Kd.R_typed HO_14.out) (by decide))) hkp (fun k_ hk_ hs_ => (hk_.2) hs_)) (fun k_ hk_ => trivial)); have n3_ := Aside0.mk (hb); clear HO_8; clear HO_14; clear HO_20; clear HB; have HO_8 := n0_; have HO_14 := n1_; have HO_20 := n2_; have HB := n3_; clear n0_ n1_ n2_ n3_; (try clear hb); (try clear hkp); (try clear hy0); obtain ⟨Ao55, co55, eo55⟩ := Kd.R_slice HO_20.out; subst eo55) | ((with_reducible refine gate_callee (f := 21) rfl ?_); refine goesL_ (some 105) rfl rfl Try.func21 (by kernel_rfl) rfl #[.slice Ao55 t330.length co55] rfl (by (try simp only [List.map_toArray, List.map_cons, List.map_nil]); first | done | rfl | (simp only [List.length_drop, List.length_take]; rfl)) ?_; (with_reducible refine (watchwordlaw0_SpoilInts.calls kj10 (fun k_ => some k_ = (.slice Ao55 t330.length co55 : Value).ownBlock) (.slice Ao55 t330.length co55) t330 t346 w1 _ ?side1 ?side2 A47.out).mono ?_); (case side1 => repeat (first | (with_reducible first | exact HB.out | apply below_alloc | apply pw_below_drewN | apply below_drew1) | exact HB.out)); (case side2 => exact Kd.R_tight rfl HO_20.out); rintro e w56 ⟨rfl, hy0, hb, hkp⟩; refine ⟨_, rfl, ?_⟩; have n0_ := Aside0.mk (Kd.R_mono (ok' := fun k_ => some k_ ≠ (.slice Ao53 t316.length co53 : Value).ownBlock) (Kd.R_keptB ((Kd.R_apart' HO_8.out (Kd.R_typed HO_20.out) (by decide))) hkp (fun k_ hk_ hs_ => (hk_.2) hs_)) (fun k_ hk_ => hk_.1.1)); have n1_ := Aside0.mk (Kd.R_mono (ok' := fun k_ => some k_ ≠ (.slice Ao51 t306.length co51 : Value).ownBlock) (Kd.R_keptB ((Kd.R_apart' HO_14.out (Kd.R_typed HO_20.out) (by decide))) hkp (fun k_ hk_ hs_ => (hk_.2) hs_)) (fun k_ hk_ => hk_.1.1)); have n2_ := Aside0.mk (Kd.R_reok rfl hy0 (fun k_ e_ => HO_20.out.1 k_ e_)); have n3_ := Aside0.mk (hb); clear HO_8; clear HO_14; clear HO_20; clear HB; have HO_8 := n0_; have HO_14 := n1_; have HO_20 := n2_; have HB := n3_; clear n0_ n1_ n2_ n3_; (try clear hb); (try clear hkp); (try clear hy0)) | ((with_reducible refine gate_callee (f := 22) rfl ?_); refine goesL_ (some 108) rfl rfl Try.func22 (by kernel_rfl) rfl #[.slice A2 l2.length c2, .slice A0 l0.length c0] rfl (by (try simp only [List.map_toArray, List.map_cons, List.map_nil]); first | done | rfl | (simp only [List.length_drop, List.length_take]; rfl)) ?_; (with_reducible refine (watchwordlaw0_KeptNears.kept kj10 _ _ l2 _ _ l0 _ _ l3 true _ ?side1 ?side2 ?side3 ?side4 ?side5 ?side6 A48.out rfl rfl HN_.out HS_.out).mono ?_); (case side1 => repeat (first | exact (Kd.C_below HR2.out HB.out) | (with_reducible refine Kd.C_alloc ?_ _) | (with_reducible refine Kd.C_drewN ?_ _) | (with_reducible refine Kd.C_drew ?_))); (case side2 => exact HC2.out); (case side3 => repeat (first | exact (Kd.C_below HR0.out HB.out) | (with_reducible refine Kd.C_alloc ?_ _) | (with_reducible refine Kd.C_drewN ?_ _) | (with_reducible refine Kd.C_drew ?_))); (case side4 => exact HC0.out); (case side5 => repeat (first | exact (Kd.C_below HR3.out HB.out) | (with_reducible refine Kd.C_alloc ?_ _) | (with_reducible refine Kd.C_drewN ?_ _) | (with_reducible refine Kd.C_drew ?_))); (case side6 => exact HC3.out); rintro e w' ⟨rfl, ⟨nd, rfl⟩⟩; refine ⟨_, rfl, ?_⟩) | (go_at_call 23; (with_reducible refine (watchwordlaw19_awake.calls kj10  t348 _ A50.out (by first | rfl | exact HT.out)).mono ?_); rintro e w57 ⟨rfl, hb⟩; have n0_ := Aside0.mk (Kd.R_below (by (with_reducible repeat (first | apply Kd.R_alloc | apply Kd.R_drewN | apply Kd.R_drew)); exact HO_8.out) hb); have n1_ := Aside0.mk (Kd.R_below (by (with_reducible repeat (first | apply Kd.R_alloc | apply Kd.R_drewN | apply Kd.R_drew)); exact HO_14.out) hb); have n2_ := Aside0.mk (Kd.R_below (by (with_reducible repeat (first | apply Kd.R_alloc | apply Kd.R_drewN | apply Kd.R_drew)); exact HO_20.out) hb); have n3_ := Aside0.mk (below_step (by repeat (first | (with_reducible first | exact HB.out | apply below_alloc | apply pw_below_drewN | apply below_drew1) | exact HB.out)) hb); clear HO_8; clear HO_14; clear HO_20; clear HB; have HO_8 := n0_; have HO_14 := n1_; have HO_20 := n2_; have HB := n3_; clear n0_ n1_ n2_ n3_; (try clear hb); (try clear hb2); (try clear hk); (try clear hi)))
     go_ret
     exact ⟨by first | rfl | (simp [errW_none, errW_some] <;> rfl) | (simp [*, errW_none, errW_some] <;> rfl), below_step HB0.out (by repeat (first | (with_reducible first | exact HB.out | apply below_alloc | apply pw_below_drewN | apply below_drew1) | exact HB.out))⟩
    ·replace c49 := Bool.eq_false_iff.mpr c49
     subst c49
     have H1 : (some false) = some r := by rw [if_neg (show ¬ (false = true) by decide)] at H; exact H
     clear H
     have H := H1
     clear H1
     exact absurd (Option.some.inj H) (by rw [HT.out]; decide)

/-- What the law comes to. -/
def watchwordlaw19_Nears.f (k : Nat) (l0 : List (S46)) (a1 : Int) (a2 : Bool) : Option Bool := if l0.length ≤ 5864062014700 then watchwordlaw19_Nears.g k l0 a1 a2 l0 (l0 ++ [(⟨77777, 0, 0⟩ : S46), (⟨77777, 0, 0⟩ : S46)]) else none
theorem watchwordlaw19_Nears.copy {l0 : List S46} (hs : l0.length ≤ 5864062014700) : watchwordlaw0_CopyNears.f l0 = some l0 := by
  unfold watchwordlaw0_CopyNears.f
  simp only [Option.bind_some, List.length_nil, List.nil_append]
  rw [if_pos (by omega)]
theorem watchwordlaw19_Nears.lend {l0 : List S46} (hs : l0.length ≤ 5864062014700) : watchwordlaw0_LendNears.f l0 = some l0 := by
  unfold watchwordlaw0_LendNears.f
  simp only [watchwordlaw19_Nears.copy hs, Option.bind_some]
  rw [if_pos (by simp only [List.length_cons, List.length_nil]; omega), if_pos (by omega), if_pos (by rw [List.length_append]; omega), Int.toNat_natCast, List.take_left]
theorem watchwordlaw19_Nears.calls (k : Nat) (A0 : Option Addr) (c0 : Nat) (l0 : List (S46)) (a1 : Int) (a2 : Bool) (r : Bool) (w : World) (hr0 : Kd.C k46 w A0 l0.length l0) (hc0 : l0.length ≤ c0) (h : watchwordlaw19_Nears.f k l0 a1 a2 = some r) (hT : r = true) :
    Calls Try.prog 3 #[.slice A0 l0.length c0, .int .i64 a1, .bool a2] w fun e w' => e = .returned (.bool r) ∧ Below w.heap.size w w' := by
  unfold watchwordlaw19_Nears.f at h
  by_cases hs : l0.length ≤ 5864062014700
  · rw [if_pos hs] at h
    exact watchwordlaw19_Nears.walk k A0 c0 l0 a1 a2 l0 (l0 ++ [(⟨77777, 0, 0⟩ : S46), (⟨77777, 0, 0⟩ : S46)]) r w hr0 hc0 (watchwordlaw19_Nears.lend hs) (fun t_ h_ => by rw [watchwordlaw19_Nears.copy hs] at h_; rw [Option.some.inj h_]) (by rw [List.length_append]; rfl) (by omega) (by rw [List.length_append]; omega) h hT
  · rw [if_neg hs] at h; cases h

end Go.Proofs.Ytnfoldgialdhjaa.Q19
namespace Go.Proofs.Ytnfoldgialdhjaa.Base
open Go.RowKit Go.Proofs.YtnfoldgialdhjaaW.PrintWords Go.Proofs.YtnfoldgialdhjaaW.PrintLast Go.Proofs.YtnfoldgialdhjaaW.PrintMore
set_option linter.unusedVariables false

/-! ### Texts as_ lists of numbers -/
def B (s : ByteArray) : List Int := s.data.toList.map fun b => (b.toNat : Int)
def Byt (l : List Int) : Prop := ∀ x ∈ l, 0 ≤ x ∧ x < 256
theorem B_len (s : ByteArray) : (B s).length = s.size := by simp [B]
theorem B_byt (s : ByteArray) : Byt (B s) := by
  intro x hx
  simp only [B, List.mem_map] at hx
  obtain ⟨b, _, rfl⟩ := hx
  have := b.toNat_lt
  omega
theorem map_toNat_inj : ∀ {l l' : List UInt8}, l.map (fun b => (b.toNat : Int)) = l'.map (fun b => (b.toNat : Int)) → l = l'
  | [], [], _ => rfl
  | [], _ :: _, h => by simp at h
  | _ :: _, [], h => by simp at h
  | a :: l, b :: l', h => by
    simp only [List.map_cons, List.cons.injEq] at h
    obtain ⟨h1, h2⟩ := h
    have : a = b := UInt8.toNat_inj.mp (by exact_mod_cast h1)
    rw [this, map_toNat_inj h2]
theorem B_inj {s t : ByteArray} (h : B s = B t) : s = t := by
  have := map_toNat_inj h
  cases s; cases t
  simp only [ByteArray.mk.injEq]
  exact Array.toList_inj.mp this
theorem toList_iff (s t : ByteArray) : s.toList = t.toList ↔ B s = B t := by
  rw [Lib.toList_data, Lib.toList_data]
  constructor
  · intro h; simp only [B, h]
  · exact map_toNat_inj
theorem toList_iff_lit (s : ByteArray) (l : List UInt8) : s.toList = l ↔ B s = l.map (fun b => (b.toNat : Int)) := by
  rw [Lib.toList_data]
  constructor
  · intro h; simp only [B, h]
  · exact map_toNat_inj
theorem B_append (s t : ByteArray) : B (s ++ t) = B s ++ B t := by simp [B, ByteArray.data_append]
theorem B_mk (a : Array UInt8) : B ⟨a⟩ = a.toList.map (fun b => (b.toNat : Int)) := rfl
theorem B_strOf {l : List Int} (h : Byt l) : B (strOfNums l) = l := by
  unfold B strOfNums
  simp only [List.map_map]
  conv => rhs; rw [← List.map_id l]
  apply List.map_congr_left
  intro x hx
  obtain ⟨h0, h1⟩ := h x hx
  simp only [Function.comp, id, UInt8.toNat_ofNat']
  omega
theorem strOf_B (s : ByteArray) : strOfNums (B s) = s := B_inj (B_strOf (B_byt s))
theorem strOf_size (l : List Int) : (strOfNums l).size = l.length := by show (Array.size _) = _; simp
theorem strOf_append (l l' : List Int) : strOfNums l ++ strOfNums l' = strOfNums (l ++ l') := by
  have : (strOfNums l ++ strOfNums l').data = (strOfNums (l ++ l')).data := by simp [strOfNums, ByteArray.data_append]
  exact ByteArray.ext this
theorem B_extract (s : ByteArray) (a b : Nat) : B (s.extract a b) = ((B s).drop a).take (b - a) := by
  unfold B
  rw [Lib.extract_data, List.map_take, List.map_drop]
theorem bt_B (s : ByteArray) (i : Int) : bt s i = (B s).getD i.toNat 0 := by
  unfold bt B
  split
  · rename_i h
    rw [List.getD_eq_getElem?_getD, List.getElem?_map]
    have : i.toNat < s.data.toList.length := by simpa using h
    rw [List.getElem?_eq_getElem this]
    rfl
  · rename_i h
    rw [List.getD_eq_getElem?_getD, List.getElem?_map]
    have : s.data.toList.length ≤ i.toNat := by simp only [Array.length_toList]; have : s.size = s.data.size := rfl; omega
    rw [List.getElem?_eq_none this]
    rfl
theorem byt_mod (x : Int) : 0 ≤ x % 256 ∧ x % 256 < 256 := by omega
theorem byt_nil : Byt [] := fun _ h => by cases h
theorem byt_cons {x : Int} {l : List Int} (h : 0 ≤ x ∧ x < 256) (hl : Byt l) : Byt (x :: l) := by
  intro y hy
  rcases List.mem_cons.mp hy with rfl | hy
  · exact h
  · exact hl y hy
theorem byt_append {l l' : List Int} (h : Byt l) (h' : Byt l') : Byt (l ++ l') := by
  intro y hy
  rcases List.mem_append.mp hy with hy | hy
  · exact h y hy
  · exact h' y hy
theorem byt_take {l : List Int} (n : Nat) (h : Byt l) : Byt (l.take n) := fun y hy => h y (List.mem_of_mem_take hy)
theorem byt_drop {l : List Int} (n : Nat) (h : Byt l) : Byt (l.drop n) := fun y hy => h y (List.mem_of_mem_drop hy)

/-! ### Numbers in bytes -/
def e1 (x : Int) : List Int := [x % 256]
def e2 (x : Int) : List Int := [x / 256 % 256, x % 256]
def e4 (x : Int) : List Int := [x / 16777216 % 256, x / 65536 % 256, x / 256 % 256, x % 256]
theorem e1_byt (x : Int) : Byt (e1 x) := byt_cons (byt_mod _) byt_nil
theorem e2_byt (x : Int) : Byt (e2 x) := byt_cons (byt_mod _) (byt_cons (byt_mod _) byt_nil)
theorem e4_byt (x : Int) : Byt (e4 x) := byt_cons (byt_mod _) (byt_cons (byt_mod _) (byt_cons (byt_mod _) (byt_cons (byt_mod _) byt_nil)))
theorem e1_len (x : Int) : (e1 x).length = 1 := rfl
theorem e2_len (x : Int) : (e2 x).length = 2 := rfl
theorem e4_len (x : Int) : (e4 x).length = 4 := rfl
def num (l : List Int) : Int := l.foldl (fun a b => a * 256 + b) 0
theorem num_two (a b : Int) : num [a, b] = a * 256 + b := by simp [num]
theorem num_four (a b c d : Int) : num [a, b, c, d] = a * 16777216 + b * 65536 + c * 256 + d := by simp [num]; omega
theorem num_e2 {x : Int} (h0 : 0 ≤ x) (h1 : x < 65536) : num (e2 x) = x := by unfold e2; rw [num_two]; omega
theorem num_e4 {x : Int} (h0 : 0 ≤ x) (h1 : x < 4294967296) : num (e4 x) = x := by unfold e4; rw [num_four]; omega
theorem e2_num {a b : Int} (ha : 0 ≤ a ∧ a < 256) (hb : 0 ≤ b ∧ b < 256) : e2 (num [a, b]) = [a, b] := by
  rw [num_two]; unfold e2
  simp only [List.cons.injEq, and_true]
  omega
theorem e4_num {a b c d : Int} (ha : 0 ≤ a ∧ a < 256) (hb : 0 ≤ b ∧ b < 256) (hc : 0 ≤ c ∧ c < 256) (hd : 0 ≤ d ∧ d < 256) : e4 (num [a, b, c, d]) = [a, b, c, d] := by
  rw [num_four]; unfold e4
  simp only [List.cons.injEq, and_true]
  omega
theorem num_two_range {a b : Int} (ha : 0 ≤ a ∧ a < 256) (hb : 0 ≤ b ∧ b < 256) : 0 ≤ num [a, b] ∧ num [a, b] < 65536 := by rw [num_two]; omega
theorem num_four_range {a b c d : Int} (ha : 0 ≤ a ∧ a < 256) (hb : 0 ≤ b ∧ b < 256) (hc : 0 ≤ c ∧ c < 256) (hd : 0 ≤ d ∧ d < 256) : 0 ≤ num [a, b, c, d] ∧ num [a, b, c, d] < 4294967296 := by rw [num_four]; omega
theorem e2_inj {x y : Int} (hx : 0 ≤ x ∧ x < 65536) (hy : 0 ≤ y ∧ y < 65536) (h : e2 x = e2 y) : x = y := by
  have := congrArg num h
  rwa [num_e2 hx.1 hx.2, num_e2 hy.1 hy.2] at this
theorem e4_inj {x y : Int} (hx : 0 ≤ x ∧ x < 4294967296) (hy : 0 ≤ y ∧ y < 4294967296) (h : e4 x = e4 y) : x = y := by
  have := congrArg num h
  rwa [num_e4 hx.1 hx.2, num_e4 hy.1 hy.2] at this

/-! ### Bits -/
theorem wrap_id {x : Int} (h0 : -9223372036854775808 ≤ x) (h1 : x ≤ 9223372036854775807) : wrap64 x = x := by unfold wrap64; omega
theorem wraps_i64 (n : Int) (h₀ : 0 ≤ n) (h₁ : n < 2 ^ 63) : IntKind.i64.wrap n = n := by rw [IntKind.wrap_i64]; omega
theorem or_byte {x y : Int} (hx₀ : 0 ≤ x) (hx₁ : x < 9223372036854775808) (hx : x % 256 = 0) (h₀ : 0 ≤ y) (h₁ : y < 256) : Go.bits .or .i64 x y = x + y :=
  bits_join .i64 63 (by decide) wraps_i64 8 x y hx₀ hx hx₁ h₀ h₁ (by omega)
theorem and_mask (i : Nat) (hi : i ≤ 62) (n : Int) : Go.bits .and .i64 n ((2 ^ i - 1 : Nat) : Int) = n % ((2 ^ i : Nat) : Int) := by
  have hp : 2 ^ i ≤ 2 ^ 62 := Nat.pow_le_pow_right (by decide) hi
  have hpos : 0 < 2 ^ i := Nat.two_pow_pos i
  have hm : (BitVec.ofInt 64 ((2 ^ i - 1 : Nat) : Int)).toNat = 2 ^ i - 1 := by
    rw [BitVec.ofInt_natCast, BitVec.toNat_ofNat]
    apply Nat.mod_eq_of_lt
    omega
  have key : (BitVec.ofInt 64 n &&& BitVec.ofInt 64 ((2 ^ i - 1 : Nat) : Int)).toNat = (n % ((2 ^ 64 : Nat) : Int)).toNat % 2 ^ i := by
    rw [BitVec.toNat_and, BitVec.toNat_ofInt, hm, Nat.and_two_pow_sub_one_eq_mod]
  show IntKind.i64.wrap ((BitVec.ofInt 64 n &&& BitVec.ofInt 64 ((2 ^ i - 1 : Nat) : Int)).toNat : Nat) = _
  rw [key]
  have hd : ((2 ^ i : Nat) : Int) ∣ ((2 ^ 64 : Nat) : Int) := by
    have : (2 ^ i) ∣ (2 ^ 64) := Nat.pow_dvd_pow 2 (by omega)
    exact_mod_cast this
  have h2 : (((n % ((2 ^ 64 : Nat) : Int)).toNat % 2 ^ i : Nat) : Int) = n % ((2 ^ i : Nat) : Int) := by
    rw [Int.natCast_emod, Int.toNat_of_nonneg (by omega), Int.emod_emod_of_dvd _ hd]
  rw [h2]
  have hlt : n % ((2 ^ i : Nat) : Int) < ((2 ^ i : Nat) : Int) := Int.emod_lt_of_pos _ (by exact_mod_cast hpos)
  have h0 : 0 ≤ n % ((2 ^ i : Nat) : Int) := Int.emod_nonneg _ (by have : ((2 ^ i : Nat) : Int) ≠ 0 := by exact_mod_cast Nat.pos_iff_ne_zero.mp hpos
                                                                   exact this)
  have hle : ((2 ^ i : Nat) : Int) ≤ ((2 ^ 62 : Nat) : Int) := by exact_mod_cast hp
  exact wraps_i64 _ h0 (by have : ((2 ^ 62 : Nat) : Int) < 2 ^ 63 := by decide
                           omega)
theorem and1 (n : Int) : Go.bits .and .i64 n 1 = n % 2 := and_mask 1 (by decide) n
theorem and3 (n : Int) : Go.bits .and .i64 n 3 = n % 4 := and_mask 2 (by decide) n
theorem and15 (n : Int) : Go.bits .and .i64 n 15 = n % 16 := and_mask 4 (by decide) n
theorem and127 (n : Int) : Go.bits .and .i64 n 127 = n % 128 := and_mask 7 (by decide) n
theorem and255 (n : Int) : Go.bits .and .i64 n 255 = n % 256 := and_mask 8 (by decide) n
theorem and1023 (n : Int) : Go.bits .and .i64 n 1023 = n % 1024 := and_mask 10 (by decide) n

theorem empty_list : (⟨#[]⟩ : ByteArray).toList = ([] : List UInt8) := by rw [Lib.toList_data]
def lim : Nat → Int
  | 0 => 1
  | i + 1 => lim i * 256
theorem lim_succ (i : Nat) : lim (i + 1) = lim i * 256 := rfl
theorem lim_le6 {i : Nat} (h : i ≤ 6) : lim i ≤ 281474976710656 := by
  have : i = 0 ∨ i = 1 ∨ i = 2 ∨ i = 3 ∨ i = 4 ∨ i = 5 ∨ i = 6 := by omega
  rcases this with rfl | rfl | rfl | rfl | rfl | rfl | rfl <;> decide
theorem byt_getD {l : List Int} (h : Byt l) (i : Nat) : 0 ≤ l.getD i 0 ∧ l.getD i 0 < 256 := by
  rw [List.getD_eq_getElem?_getD]
  by_cases hi : i < l.length
  · rw [List.getElem?_eq_getElem hi]; exact h _ (List.getElem_mem hi)
  · rw [List.getElem?_eq_none (by omega)]; simp

end Go.Proofs.Ytnfoldgialdhjaa.Base
namespace Go.Proofs.Ytnfoldgialdhjaa.L19
open Go.RowKit Go.Proofs.YtnfoldgialdhjaaW.PrintWords Go.Proofs.YtnfoldgialdhjaaW.PrintLast Go.Proofs.YtnfoldgialdhjaaW.PrintMore Go.Proofs.Ytnfoldgialdhjaa.Base Go.Proofs.Ytnfoldgialdhjaa.Q19
set_option linter.unusedVariables false
set_option linter.unusedSimpArgs false
/-! ### Rising rows: lists whose elements are sound and whose keys rise; one put in its place -/
section
variable {α : Type}
def rises (ok : α → Bool) (key : α → Int) : Int → List α → Bool
  | _, [] => true
  | p, x :: l => if ok x = true ∧ p < key x then rises ok key (key x) l else false
def ins (key : α → Int) (x : α) : List α → List α
  | [] => [x]
  | y :: l => if key y < key x then y :: ins key x l else if key y = key x then x :: l else x :: y :: l
def look (key : α → Int) (q : Int) : List α → Option α
  | [] => none
  | y :: l => if key y = q then some y else look key q l
variable {ok : α → Bool} {key : α → Int}
theorem rises_cons {p : Int} {x : α} {l : List α} : rises ok key p (x :: l) = true ↔ (ok x = true ∧ p < key x) ∧ rises ok key (key x) l = true := by
  show (if ok x = true ∧ p < key x then rises ok key (key x) l else false) = true ↔ _
  by_cases h : ok x = true ∧ p < key x
  · rw [if_pos h]; exact ⟨fun h' => ⟨h, h'⟩, fun h' => h'.2⟩
  · rw [if_neg h]; constructor
    · intro h'; cases h'
    · intro h'; exact absurd h'.1 h
theorem rises_lower : ∀ {l : List α} {p q : Int}, rises ok key p l = true → q ≤ p → rises ok key q l = true
  | [], _, _, _, _ => rfl
  | x :: l, p, q, h, hq => by
    obtain ⟨⟨h1, h2⟩, h3⟩ := rises_cons.mp h
    exact rises_cons.mpr ⟨⟨h1, by omega⟩, h3⟩
theorem rises_mem : ∀ {l : List α} {p : Int}, rises ok key p l = true → ∀ x ∈ l, ok x = true ∧ p < key x
  | [], _, _, _, hx => by cases hx
  | y :: l, p, h, x, hx => by
    obtain ⟨⟨h1, h2⟩, h3⟩ := rises_cons.mp h
    rcases List.mem_cons.mp hx with rfl | hx
    · exact ⟨h1, h2⟩
    · have := rises_mem h3 x hx
      exact ⟨this.1, by omega⟩
theorem rises_length : ∀ {l : List α} {p : Int} (b : Int), rises ok key p l = true → (∀ x, ok x = true → key x ≤ b) → p ≤ b → (l.length : Int) ≤ b - p
  | [], p, b, _, _, hp => by simp; omega
  | x :: l, p, b, h, hb, hp => by
    obtain ⟨⟨h1, h2⟩, h3⟩ := rises_cons.mp h
    have := rises_length b h3 hb (hb x h1)
    simp only [List.length_cons]; omega
theorem rises_get : ∀ {l : List α} {p : Int}, rises ok key p l = true → ∀ {i j : Nat} (hi : i < j) (hj : j < l.length), key (l[i]'(by omega)) < key l[j]
  | [], _, _, _, _, _, hj => by simp at hj
  | x :: l, p, h, i, j, hi, hj => by
    obtain ⟨⟨h1, h2⟩, h3⟩ := rises_cons.mp h
    obtain ⟨j, rfl⟩ : ∃ m, j = m + 1 := ⟨j - 1, by omega⟩
    cases i with
    | zero =>
      simp only [List.getElem_cons_zero, List.getElem_cons_succ]
      exact (rises_mem h3 _ (List.getElem_mem _)).2
    | succ i =>
      simp only [List.getElem_cons_succ]
      exact rises_get h3 (by omega) (by simpa using hj)
theorem rises_ok {l : List α} {p : Int} (h : rises ok key p l = true) {i : Nat} (hi : i < l.length) : ok l[i] = true := (rises_mem h _ (List.getElem_mem hi)).1
theorem ins_rises : ∀ {l : List α} {p : Int} {x : α}, rises ok key p l = true → ok x = true → p < key x → rises ok key p (ins key x l) = true
  | [], p, x, _, h1, h2 => rises_cons.mpr ⟨⟨h1, h2⟩, rfl⟩
  | y :: l, p, x, h, h1, h2 => by
    obtain ⟨⟨a1, a2⟩, a3⟩ := rises_cons.mp h
    show rises ok key p (if key y < key x then y :: ins key x l else if key y = key x then x :: l else x :: y :: l) = true
    by_cases c1 : key y < key x
    · rw [if_pos c1]; exact rises_cons.mpr ⟨⟨a1, a2⟩, ins_rises a3 h1 c1⟩
    · rw [if_neg c1]
      by_cases c2 : key y = key x
      · rw [if_pos c2]; exact rises_cons.mpr ⟨⟨h1, h2⟩, rises_lower a3 (by omega)⟩
      · rw [if_neg c2]; exact rises_cons.mpr ⟨⟨h1, h2⟩, rises_cons.mpr ⟨⟨a1, by omega⟩, a3⟩⟩
theorem ins_length : ∀ (l : List α) (x : α), (ins key x l).length ≤ l.length + 1 ∧ 1 ≤ (ins key x l).length
  | [], x => by simp [ins]
  | y :: l, x => by
    have := ins_length l x
    unfold ins
    split
    · simp only [List.length_cons]; omega
    · split <;> simp only [List.length_cons] <;> omega
theorem look_lt : ∀ {l : List α} {p q : Int}, rises ok key p l = true → q ≤ p → look key q l = none
  | [], _, _, _, _ => rfl
  | x :: l, p, q, h, hq => by
    obtain ⟨⟨h1, h2⟩, h3⟩ := rises_cons.mp h
    unfold look
    rw [if_neg (by omega)]
    exact look_lt h3 (by omega)
theorem look_ins_self : ∀ {l : List α} {p : Int} {x : α}, rises ok key p l = true → look key (key x) (ins key x l) = some x
  | [], _, x, _ => by simp [ins, look]
  | y :: l, p, x, h => by
    obtain ⟨⟨h1, h2⟩, h3⟩ := rises_cons.mp h
    unfold ins
    by_cases c1 : key y < key x
    · rw [if_pos c1]; unfold look; rw [if_neg (by omega)]; exact look_ins_self h3
    · rw [if_neg c1]
      by_cases c2 : key y = key x
      · rw [if_pos c2]; unfold look; rw [if_pos rfl]
      · rw [if_neg c2]; unfold look; rw [if_pos rfl]
theorem look_ins_other : ∀ {l : List α} {x : α} {q : Int}, q ≠ key x → look key q (ins key x l) = look key q l
  | [], x, q, hq => by show (if key x = q then some x else look key q []) = _; rw [if_neg (by omega)]
  | y :: l, x, q, hq => by
    unfold ins
    by_cases c1 : key y < key x
    · rw [if_pos c1]; unfold look; rw [look_ins_other hq]
    · rw [if_neg c1]
      by_cases c2 : key y = key x
      · rw [if_pos c2]; unfold look; rw [if_neg (by omega), if_neg (by omega)]
      · rw [if_neg c2]; conv => lhs; unfold look
        rw [if_neg (by omega)]
theorem look_mem : ∀ {l : List α} {q : Int} {x : α}, look key q l = some x → x ∈ l ∧ key x = q
  | [], _, _, h => by cases h
  | y :: l, q, x, h => by
    unfold look at h
    by_cases c : key y = q
    · rw [if_pos c] at h; obtain rfl := Option.some.inj h; exact ⟨List.mem_cons_self, c⟩
    · rw [if_neg c] at h; have := look_mem h; exact ⟨List.mem_cons_of_mem _ this.1, this.2⟩
theorem look_none : ∀ {l : List α} {q : Int}, look key q l = none → ∀ x ∈ l, key x ≠ q
  | [], _, _, x, hx => by cases hx
  | y :: l, q, h, x, hx => by
    unfold look at h
    by_cases c : key y = q
    · rw [if_pos c] at h; cases h
    · rw [if_neg c] at h
      rcases List.mem_cons.mp hx with rfl | hx
      · exact c
      · exact look_none h x hx
/-- Where a key is, or would be. -/
structure Place (key : α → Int) (l : List α) (q : Int) (p : Nat) : Prop where
  le : p ≤ l.length
  lo : ∀ j (h : j < l.length), j < p → key l[j] < q
  hi : ∀ j (h : j < l.length), p ≤ j → q ≤ key l[j]
theorem place_of : ∀ {l : List α} {p : Int}, rises ok key p l = true → ∀ q, ∃ m, Place key l q m
  | [], _, _, q => ⟨0, by simp, fun _ h => by simp at h, fun _ h => by simp at h⟩
  | x :: l, p, h, q => by
    obtain ⟨⟨h1, h2⟩, h3⟩ := rises_cons.mp h
    by_cases c : key x < q
    · obtain ⟨m, hm⟩ := place_of h3 q
      refine ⟨m + 1, by simpa using hm.le, fun j hj h => ?_, fun j hj h => ?_⟩
      · cases j with
        | zero => exact c
        | succ j => exact hm.lo j (by simpa using hj) (by omega)
      · obtain ⟨j, rfl⟩ : ∃ m, j = m + 1 := ⟨j - 1, by omega⟩
        exact hm.hi j (by simpa using hj) (by omega)
    · refine ⟨0, Nat.zero_le _, fun j _ h => by omega, fun j hj _ => ?_⟩
      cases j with
      | zero => show q ≤ key x; omega
      | succ j =>
        have hj' : j < l.length := by simpa using hj
        have := (rises_mem h3 _ (List.getElem_mem hj')).2
        simp only [List.getElem_cons_succ]; omega
/-- Put in at its place. -/
theorem ins_place : ∀ {l : List α} {b : Int} {x : α} {m : Nat}, rises ok key b l = true → Place key l (key x) m →
    (∀ h : m < l.length, key l[m] = key x → ins key x l = l.set m x) ∧ ((∀ h : m < l.length, key l[m] ≠ key x) → ins key x l = l.take m ++ [x] ++ l.drop m)
  | [], _, x, m, _, P => by
    have := P.le
    obtain rfl : m = 0 := by simpa using this
    exact ⟨fun h => by simp at h, fun _ => rfl⟩
  | y :: l, b, x, m, h, P => by
    obtain ⟨⟨h1, h2⟩, h3⟩ := rises_cons.mp h
    cases m with
    | zero =>
      have c1 := P.hi 0 (by simp) (Nat.le_refl _)
      simp only [List.getElem_cons_zero] at c1
      refine ⟨fun _ e => ?_, fun e => ?_⟩
      · simp only [List.getElem_cons_zero] at e
        unfold ins; rw [if_neg (by omega), if_pos e]; rfl
      · have e := e (by simp)
        simp only [List.getElem_cons_zero] at e
        unfold ins; rw [if_neg (by omega), if_neg e]; rfl
    | succ m =>
      have c1 := P.lo 0 (by simp) (by omega)
      simp only [List.getElem_cons_zero] at c1
      have P' : Place key l (key x) m := ⟨by have := P.le; simpa using this, fun j hj hm => P.lo (j + 1) (by simpa using hj) (by omega), fun j hj hm => P.hi (j + 1) (by simpa using hj) (by omega)⟩
      have ih := ins_place h3 P'
      refine ⟨fun hl e => ?_, fun e => ?_⟩
      · simp only [List.getElem_cons_succ] at e
        unfold ins; rw [if_pos c1, ih.1 (by simpa using hl) e]; rfl
      · unfold ins; rw [if_pos c1, ih.2 (fun hl => by have := e (by simpa using hl); simpa using this)]; rfl
theorem look_place : ∀ {l : List α} {b q : Int} {m : Nat}, rises ok key b l = true → Place key l q m →
    (∀ h : m < l.length, key l[m] = q → look key q l = some l[m]) ∧ ((∀ h : m < l.length, key l[m] ≠ q) → look key q l = none)
  | [], _, q, m, _, P => ⟨fun h => by simp at h, fun _ => rfl⟩
  | y :: l, b, q, m, h, P => by
    obtain ⟨⟨h1, h2⟩, h3⟩ := rises_cons.mp h
    cases m with
    | zero =>
      have c1 := P.hi 0 (by simp) (Nat.le_refl _)
      simp only [List.getElem_cons_zero] at c1
      refine ⟨fun _ e => ?_, fun e => ?_⟩
      · simp only [List.getElem_cons_zero] at e
        unfold look; rw [if_pos e]; rfl
      · have e := e (by simp)
        simp only [List.getElem_cons_zero] at e
        unfold look; rw [if_neg e]
        exact look_lt h3 (by omega)
    | succ m =>
      have c1 := P.lo 0 (by simp) (by omega)
      simp only [List.getElem_cons_zero] at c1
      have P' : Place key l q m := ⟨by have := P.le; simpa using this, fun j hj hm => P.lo (j + 1) (by simpa using hj) (by omega), fun j hj hm => P.hi (j + 1) (by simpa using hj) (by omega)⟩
      have ih := look_place h3 P'
      refine ⟨fun hl e => ?_, fun e => ?_⟩
      · simp only [List.getElem_cons_succ] at e
        unfold look; rw [if_neg (by omega), ih.1 (by simpa using hl) e]; rfl
      · unfold look; rw [if_neg (by omega)]; exact ih.2 (fun hl => by have := e (by simpa using hl); simpa using this)
end
theorem mid_wraps {i j : Nat} (h : i + j ≤ 4000) : wrap64 ((i : Int) + (j : Int)) = ((i + j : Nat) : Int) ∧ IntKind.u64.wrap (((i + j : Nat) : Int)) = ((i + j : Nat) : Int) ∧ (((i + j : Nat) : Int)) / 2 = (((i + j) / 2 : Nat) : Int) ∧ wrap64 ((((i + j) / 2 : Nat) : Int)) = (((i + j) / 2 : Nat) : Int) ∧ wrap64 ((((i + j) / 2 : Nat) : Int) + 1) = (((i + j) / 2 + 1 : Nat) : Int) := by
  refine ⟨?_, IntWalk.u64_in _ ⟨by omega, by omega⟩, by omega, wrap_id (by omega) (by omega), ?_⟩
  · rw [wrap_id (by omega) (by omega)]; omega
  · rw [wrap_id (by omega) (by omega)]; omega
theorem next_wrap {i : Nat} (h : i ≤ 9223372036854775800) : wrap64 ((i : Int) + 1) = ((i + 1 : Nat) : Int) := by rw [wrap_id (by omega) (by omega)]; omega
/-! ### near: May, Heard, Tick, Full (S46: the struct Near) -/
instance : DecidableEq S46 := fun a b => decidable_of_iff (a.f0 = b.f0 ∧ a.f1 = b.f1 ∧ a.f2 = b.f2) (by cases a; cases b; simp)
def NearOk (x : S46) : Prop := (1 ≤ x.f0 ∧ x.f0 ≤ 4) ∧ (x.f1 = 1 ∨ x.f1 = 2) ∧ 1 ≤ x.f2 ∧ x.f2 ≤ 16
instance (x : S46) : Decidable (NearOk x) := by unfold NearOk; infer_instance
def nok (x : S46) : Bool := decide (NearOk x)
def nkey (x : S46) : Int := x.f0
theorem nok_iff {x : S46} : nok x = true ↔ NearOk x := by unfold nok; exact decide_eq_true_iff
theorem nkey_range {x : S46} (h : nok x = true) : 0 < nkey x ∧ nkey x ≤ 4 := by
  have := nok_iff.mp h
  unfold NearOk at this; unfold nkey; omega
theorem router_f (x : Int) : lsa_Router.f x = some (decide (1 ≤ x ∧ x ≤ 4)) := by
  unfold lsa_Router.f
  by_cases h1 : x ≥ 1
  · rw [if_pos h1]; simp only [h1, true_and]
  · rw [if_neg h1]; have : ¬ (1 ≤ x ∧ x ≤ 4) := by omega
    simp [this]
theorem rdN_at {l : List S46} {i : Nat} (h : i < l.length) : rd_T46 l (i : Int) = l[i] := by
  unfold rd_T46; rw [Int.toNat_natCast, List.getD_eq_getElem?_getD, List.getElem?_eq_getElem h]; rfl
def prevN (l : List S46) (i : Nat) : Int := if h : 0 < i ∧ i - 1 < l.length then nkey l[i - 1] else 0
theorem near_May_l {l : List S46} (hn : l.length ≤ 9223372036854775800) : ∀ (d k i : Nat), i + d = l.length → d < k →
    near_May.l0 k l l (l.length : Int) (i : Int) = some (rises nok nkey (prevN l i) (l.drop i)) := by
  intro d
  induction d with
  | zero =>
    intro k i hi hk
    obtain ⟨k, rfl⟩ : ∃ m, k = m + 1 := ⟨k - 1, by omega⟩
    simp only [near_May.l0]
    rw [if_neg (by omega), List.drop_of_length_le (by omega)]
    rfl
  | succ d ih =>
    intro k i hi hk
    obtain ⟨k, rfl⟩ : ∃ m, k = m + 1 := ⟨k - 1, by omega⟩
    have hlt : i < l.length := by omega
    have h4 : wrap64 ((i : Int) + 1) = ((i + 1 : Nat) : Int) := by rw [wrap_id (by omega) (by omega)]; omega
    have ih' := ih k (i + 1) (by omega) (by omega)
    simp only [near_May.l0, router_f, Option.bind_some, rdN_at hlt]
    rw [if_pos (by omega), if_pos (by omega), if_pos (by omega), h4, List.drop_eq_getElem_cons hlt]
    have hpn : prevN l (i + 1) = nkey l[i] := by unfold prevN; rw [dif_pos ⟨by omega, by omega⟩]; rfl
    rw [hpn] at ih'
    show _ = some (if nok l[i] = true ∧ prevN l i < nkey l[i] then rises nok nkey (nkey l[i]) (l.drop (i + 1)) else false)
    have hT : nok l[i] = true → (if ((i : Nat) : Int) > 0 then if 0 ≤ wrap64 ((i : Int) - 1) then if wrap64 ((i : Int) - 1) < (l.length : Int) then if (rd_T46 l (wrap64 ((i : Int) - 1))).f0 ≥ l[i].f0 then some false else near_May.l0 k l l (l.length : Int) ((i + 1 : Nat) : Int) else none else none else near_May.l0 k l l (l.length : Int) ((i + 1 : Nat) : Int)) = some (if nok l[i] = true ∧ prevN l i < nkey l[i] then rises nok nkey (nkey l[i]) (l.drop (i + 1)) else false) := by
      intro hc
      have hr := nkey_range hc
      by_cases h0 : (i : Int) > 0
      · have h5 : wrap64 ((i : Int) - 1) = ((i - 1 : Nat) : Int) := by rw [wrap_id (by omega) (by omega)]; omega
        have hl1 : i - 1 < l.length := by omega
        rw [if_pos h0, h5, if_pos (by omega), if_pos (by omega), rdN_at hl1]
        have hpv : prevN l i = nkey l[i - 1] := by unfold prevN; rw [dif_pos ⟨by omega, hl1⟩]
        rw [hpv]
        unfold nkey at hr ih' ⊢
        by_cases hg : l[i - 1].f0 ≥ l[i].f0
        · rw [if_pos hg, if_neg (by omega)]
        · rw [if_neg hg, if_pos ⟨hc, by omega⟩, ih']
      · rw [if_neg h0]
        have hpv : prevN l i = 0 := by unfold prevN; rw [dif_neg (by omega)]
        rw [hpv, if_pos ⟨hc, by omega⟩, ih']
    have hno : ¬ NearOk l[i] → some false = some (if nok l[i] = true ∧ prevN l i < nkey l[i] then rises nok nkey (nkey l[i]) (l.drop (i + 1)) else false) := fun h => by rw [if_neg (fun hh => h (nok_iff.mp hh.1))]
    by_cases h1 : 1 ≤ l[i].f0 ∧ l[i].f0 ≤ 4
    · rw [if_pos (decide_eq_true h1)]
      by_cases h2 : l[i].f1 = 1
      · rw [if_pos h2]
        by_cases h3 : l[i].f2 < 1
        · rw [if_pos h3]; exact hno (by unfold NearOk; omega)
        · rw [if_neg h3]
          by_cases h5 : l[i].f2 > 16
          · rw [if_pos h5]; exact hno (by unfold NearOk; omega)
          · rw [if_neg h5]; exact hT (nok_iff.mpr (by unfold NearOk; omega))
      · rw [if_neg h2]
        by_cases h2' : l[i].f1 = 2
        · rw [if_pos h2']
          by_cases h3 : l[i].f2 < 1
          · rw [if_pos h3]; exact hno (by unfold NearOk; omega)
          · rw [if_neg h3]
            by_cases h5 : l[i].f2 > 16
            · rw [if_pos h5]; exact hno (by unfold NearOk; omega)
            · rw [if_neg h5]; exact hT (nok_iff.mpr (by unfold NearOk; omega))
        · rw [if_neg h2']; exact hno (by unfold NearOk; omega)
    · rw [if_neg (by simp only [decide_eq_true_eq]; exact h1)]; exact hno (fun h => h1 h.1)
theorem near_May_f {l : List S46} (hn : l.length ≤ 9223372036854775800) {k : Nat} (hk : l.length < k) : near_May.f k l = some (rises nok nkey 0 l) :=
  near_May_l hn l.length k 0 (by omega) hk
theorem bs_l {l : List S46} {t p : Int} {m : Nat} (hr : rises nok nkey p l = true) (ht : 1 ≤ t ∧ t ≤ 4) (P : Place nkey l t m) (hn : l.length ≤ 1000) :
    ∀ (d k i j : Nat), i + d = j → d < k → i ≤ m → m ≤ j → j ≤ l.length →
    api_Near_int.l0 k l t (l.length : Int) (i : Int) (j : Int) = some ((m : Int), if h : m < l.length then decide (nkey l[m] = t) else false) := by
  intro d
  induction d using Nat.strongRecOn with
  | _ d ih =>
    intro k i j hij hk him hmj hjn
    obtain ⟨k, rfl⟩ : ∃ q, k = q + 1 := ⟨k - 1, by omega⟩
    have hw : ∀ {q : Nat} (h : q < l.length), near_Heard_1.f l[q].f0 l[q].f1 l[q].f2 t = some (nkey l[q] - t) := by
      intro q h
      have := nkey_range (rises_ok hr h)
      unfold nkey at this ⊢
      show some (wrap64 (l[q].f0 - t)) = _
      rw [wrap_id (by omega) (by omega)]
    simp only [api_Near_int.l0]
    by_cases h0 : i < j
    · have hh : (i + j) / 2 < l.length := by omega
      obtain ⟨e1, e2, e3, e4, e5⟩ := mid_wraps (i := i) (j := j) (by omega)
      simp only [e1, e2, e3, e4, e5, rdN_at hh]
      clear e1 e2 e3 e4 e5
      rw [if_pos (by omega), if_pos (by omega), if_pos (by omega)]
      simp only [hw hh, Option.bind_some]
      by_cases hc : nkey l[(i + j) / 2] - t < 0
      · rw [if_pos hc]
        have hm : (i + j) / 2 < m := by
          apply Nat.lt_of_not_le; intro hle
          have := P.hi _ hh hle; omega
        exact ih (j - ((i + j) / 2 + 1)) (by omega) k ((i + j) / 2 + 1) j (by omega) (by omega) (by omega) hmj hjn
      · rw [if_neg hc]
        have hm : m ≤ (i + j) / 2 := by
          apply Nat.le_of_not_lt; intro hlt
          have := P.lo _ hh hlt; omega
        exact ih ((i + j) / 2 - i) (by omega) k i ((i + j) / 2) (by omega) (by omega) him hm (by omega)
    · obtain rfl : i = m := by omega
      rw [if_neg (by omega)]
      by_cases hl : i < l.length
      · rw [if_pos (by omega), if_pos (by omega), if_pos (by omega)]
        simp only [rdN_at hl, hw hl, Option.bind_some, dif_pos hl]
        congr 2
        by_cases hc : nkey l[i] = t
        · rw [hc]; simp
        · have : nkey l[i] - t ≠ 0 := by omega
          simp [this, hc]
      · rw [if_neg (by omega), dif_neg hl]
theorem bs_f {l : List S46} {t p : Int} {m k : Nat} (hr : rises nok nkey p l = true) (ht : 1 ≤ t ∧ t ≤ 4) (P : Place nkey l t m) (hn : l.length ≤ 1000) (hk : l.length < k) :
    api_Near_int.f k l t = some ((m : Int), if h : m < l.length then decide (nkey l[m] = t) else false) :=
  bs_l hr ht P hn l.length k 0 l.length (by omega) hk (by omega) P.le (Nat.le_refl _)
theorem rises_short {l : List S46} (h : rises nok nkey 0 l = true) : l.length ≤ 4 := by
  have := rises_length 4 h (fun x hx => (nkey_range hx).2) (by omega)
  omega
theorem clone_f {l : List S46} (hn : l.length < 5864062014805) : api_Near_26.f l = some l := by
  simp [api_Near_26.f, hn]
/-- Was a router seen otherwise? -/
def turnedOf (l : List S46) (r st : Int) : Bool := match look nkey r l with | none => true | some y => y.f1 != st
def stOf (both : Bool) : Int := if both then 2 else 1
theorem heard_j1 {l : List S46} {k : Nat} (hk : l.length + 10 < k) (h1 : rises nok nkey 0 l = true) {r st : Int} (h2 : 1 ≤ r ∧ r ≤ 4) :
    near_Heard.j1 k l r r st 16 = some (ins nkey ⟨r, st, 16⟩ l, turnedOf l r st, 0) := by
  obtain ⟨k, rfl⟩ : ∃ q, k = q + 1 := ⟨k - 1, by omega⟩
  have hs := rises_short h1
  have hkey : nkey (⟨r, st, 16⟩ : S46) = r := rfl
  obtain ⟨m, P⟩ := place_of h1 r
  have P' : Place nkey l (nkey (⟨r, st, 16⟩ : S46)) m := P
  simp only [near_Heard.j1, clone_f (show l.length < 5864062014805 by omega), bs_f h1 h2 P (by omega) (show l.length < k by omega), Option.bind_some]
  have hI := ins_place h1 P'
  have hL := look_place h1 P
  unfold turnedOf
  by_cases hm : ∃ h : m < l.length, nkey l[m] = r
  · obtain ⟨hl, he⟩ := hm
    rw [dif_pos hl, decide_eq_true he, if_pos rfl, if_pos (by omega), if_pos (by omega), hI.1 hl he, hL.1 hl he, Int.toNat_natCast, rdN_at hl]
  · have hno : ∀ h : m < l.length, nkey l[m] ≠ r := fun h he => hm ⟨h, he⟩
    have : (if h : m < l.length then decide (nkey l[m] = r) else false) = false := by
      by_cases h : m < l.length
      · rw [dif_pos h]; exact decide_eq_false (hno h)
      · rw [dif_neg h]
    have hmn := P.le
    rw [this, if_neg (by decide), hI.2 hno, hL.2 hno]
    simp only [api_Near_29.f, Int.toNat_natCast]
    rw [if_pos ⟨by omega, by omega, by omega⟩]
    rfl
theorem near_Heard_f {l : List S46} (hn : l.length ≤ 9223372036854775800) {k : Nat} (hk : l.length + 20 < k) (r : Int) (both : Bool) :
    near_Heard.f k l r both = some (if rises nok nkey 0 l = true ∧ 1 ≤ r ∧ r ≤ 4 then (ins nkey ⟨r, stOf both, 16⟩ l, turnedOf l r (stOf both), 0) else ([], false, 1900)) := by
  obtain ⟨k, rfl⟩ : ∃ q, k = q + 1 := ⟨k - 1, by omega⟩
  have ht : near_Heard.j0 (k + 1) l r both true = some ([], false, 1900) := by simp [near_Heard.j0]
  simp only [near_Heard.f, near_May_f hn (show l.length < k + 1 by omega), router_f, Option.bind_some]
  by_cases h1 : rises nok nkey 0 l = true
  · rw [if_pos h1]
    by_cases h2 : 1 ≤ r ∧ r ≤ 4
    · rw [if_pos ⟨h1, h2⟩, decide_eq_true h2]
      simp only [near_Heard.j0, Bool.not_true, Bool.false_eq_true, if_false, heard_j1 (show l.length + 10 < k by omega) h1 h2]
      cases both <;> rfl
    · rw [if_neg (fun h => h2 h.2), decide_eq_false h2]; exact ht
  · rw [if_neg h1, if_neg (fun h => h1 h.1)]; exact ht
def tickOut (l : List S46) : List S46 := (l.filter fun x => decide (1 < x.f2)).map fun x => ⟨x.f0, x.f1, x.f2 - 1⟩
def tickGone (l : List S46) : List Int := (l.filter fun x => !decide (1 < x.f2)).map fun x => x.f0
theorem tickOut_cons (x : S46) (l : List S46) : tickOut (x :: l) = if 1 < x.f2 then ⟨x.f0, x.f1, x.f2 - 1⟩ :: tickOut l else tickOut l := by
  unfold tickOut; rw [List.filter_cons]
  by_cases h : 1 < x.f2
  · rw [if_pos (decide_eq_true h), if_pos h]; rfl
  · rw [if_neg (by simpa using h), if_neg h]
theorem tickGone_cons (x : S46) (l : List S46) : tickGone (x :: l) = if 1 < x.f2 then tickGone l else x.f0 :: tickGone l := by
  unfold tickGone; rw [List.filter_cons]
  by_cases h : 1 < x.f2
  · rw [if_neg (by simp [h]), if_pos h]
  · rw [if_pos (by simp [h]), if_neg h]; rfl
theorem tick_l {l : List S46} {p : Int} (hr : rises nok nkey p l = true) (hn : l.length ≤ 1000) : ∀ (d k i : Nat) (a : List S46) (g : List Int), i + d = l.length → d < k → a.length ≤ i → g.length ≤ i →
    near_Tick.l0 k a g l (l.length : Int) (i : Int) = some (a ++ tickOut (l.drop i), g ++ tickGone (l.drop i), 0) := by
  intro d
  induction d with
  | zero =>
    intro k i a g hi hk _ _
    obtain ⟨k, rfl⟩ : ∃ m, k = m + 1 := ⟨k - 1, by omega⟩
    simp only [near_Tick.l0]
    rw [if_neg (by omega), List.drop_of_length_le (by omega)]
    simp [tickOut, tickGone]
  | succ d ih =>
    intro k i a g hi hk ha hg
    obtain ⟨k, rfl⟩ : ∃ m, k = m + 1 := ⟨k - 1, by omega⟩
    have hlt : i < l.length := by omega
    have h4 : wrap64 ((i : Int) + 1) = ((i + 1 : Nat) : Int) := by rw [wrap_id (by omega) (by omega)]; omega
    have hx := nok_iff.mp (rises_ok hr hlt)
    unfold NearOk at hx
    have h5 : wrap64 (l[i].f2 - 1) = l[i].f2 - 1 := wrap_id (by omega) (by omega)
    simp only [near_Tick.l0, rdN_at hlt, h4, h5]
    clear h4 h5
    rw [if_pos (by omega), if_pos (by omega), if_pos (by omega), List.drop_eq_getElem_cons hlt]
    by_cases hc : 1 < l[i].f2
    · rw [if_pos (by omega), if_pos (by omega), ih k (i + 1) _ g (by omega) (by omega) (by simp; omega) (by omega), tickOut_cons, tickGone_cons, if_pos hc, if_pos hc, List.append_assoc]
      rfl
    · rw [if_neg (by omega), if_pos (by omega), ih k (i + 1) a _ (by omega) (by omega) (by omega) (by simp; omega), tickOut_cons, tickGone_cons, if_neg hc, if_neg hc, List.append_assoc]
      rfl
theorem near_Tick_f {l : List S46} (hn : l.length ≤ 9223372036854775800) {k : Nat} (hk : l.length + 10 < k) :
    near_Tick.f k l = some (if rises nok nkey 0 l = true then (tickOut l, tickGone l, 0) else ([], [], 1900)) := by
  simp only [near_Tick.f, near_May_f hn (show l.length < k by omega), Option.bind_some]
  by_cases h1 : rises nok nkey 0 l = true
  · have hs := rises_short h1
    rw [if_pos h1, if_pos h1]
    have := tick_l h1 (by omega) l.length k 0 [] [] (by omega) (by omega) (Nat.le_refl _) (Nat.le_refl _)
    simpa using this
  · rw [if_neg h1, if_neg h1]
theorem full1_f (a b c : Int) : near_Full_1.f a b c = some (b != 2) := rfl
theorem idx_l {l : List S46} (hn : l.length ≤ 1000) : ∀ (d k i : Nat), i + d = l.length → d < k → (∀ j (h : j < l.length), j < i → l[j].f1 = 2) →
    (api_Near_37.l0 k l (l.length : Int) (i : Int) = some (-1) ∧ ∀ x ∈ l, x.f1 = 2) ∨ ∃ m, ∃ h : m < l.length, api_Near_37.l0 k l (l.length : Int) (i : Int) = some (m : Int) ∧ l[m].f1 ≠ 2 ∧ ∀ j (h : j < l.length), j < m → l[j].f1 = 2 := by
  intro d
  induction d with
  | zero =>
    intro k i hi hk hb
    obtain ⟨k, rfl⟩ : ∃ m, k = m + 1 := ⟨k - 1, by omega⟩
    simp only [api_Near_37.l0]
    rw [if_neg (by omega)]
    refine .inl ⟨rfl, fun x hx => ?_⟩
    obtain ⟨j, hj, rfl⟩ := List.mem_iff_getElem.mp hx
    exact hb j hj (by omega)
  | succ d ih =>
    intro k i hi hk hb
    obtain ⟨k, rfl⟩ : ∃ m, k = m + 1 := ⟨k - 1, by omega⟩
    have hlt : i < l.length := by omega
    have h4 : wrap64 ((i : Int) + 1) = ((i + 1 : Nat) : Int) := by rw [wrap_id (by omega) (by omega)]; omega
    simp only [api_Near_37.l0, rdN_at hlt, h4, full1_f, Option.bind_some]
    rw [if_pos (by omega), if_pos (by omega), if_pos (by omega)]
    by_cases hc : l[i].f1 = 2
    · rw [if_neg (by simp [hc])]
      exact ih k (i + 1) (by omega) (by omega) (fun j hj hlt' => by
        by_cases e : j = i
        · subst e; exact hc
        · exact hb j hj (by omega))
    · rw [if_pos (by simp [hc])]
      exact .inr ⟨i, hlt, rfl, hc, hb⟩
theorem del_l {l : List S46} (hn : l.length ≤ 1000) : ∀ (d k i j : Nat) (c : List S46), j + d = l.length → d < k → i ≤ j → c.length = l.length → c.take i = (l.take j).filter (fun x => x.f1 == 2) → c.drop j = l.drop j →
    api_Near_32.l0 k c (i : Int) (j : Int) = some (l.filter fun x => x.f1 == 2) := by
  intro d
  induction d with
  | zero =>
    intro k i j c hj hk hij hcl ht hd
    obtain ⟨k, rfl⟩ : ∃ m, k = m + 1 := ⟨k - 1, by omega⟩
    simp only [api_Near_32.l0]
    rw [if_neg (by omega), if_pos (by omega), if_pos (by omega), Int.toNat_natCast, ht, List.take_of_length_le (by omega)]
  | succ d ih =>
    intro k i j c hj hk hij hcl ht hd
    obtain ⟨k, rfl⟩ : ∃ m, k = m + 1 := ⟨k - 1, by omega⟩
    have hlt : j < l.length := by omega
    have hltc : j < c.length := by omega
    have hel : c[j] = l[j] := by
      have h1 := List.drop_eq_getElem_cons hltc
      have h2 := List.drop_eq_getElem_cons hlt
      rw [h1, h2] at hd
      injection hd
    have hd' : c.drop (j + 1) = l.drop (j + 1) := by
      have h1 := List.drop_eq_getElem_cons hltc
      have h2 := List.drop_eq_getElem_cons hlt
      rw [h1, h2] at hd
      injection hd
    have h4 : wrap64 ((j : Int) + 1) = ((j + 1 : Nat) : Int) := by rw [wrap_id (by omega) (by omega)]; omega
    have h5 : wrap64 ((i : Int) + 1) = ((i + 1 : Nat) : Int) := by rw [wrap_id (by omega) (by omega)]; omega
    simp only [api_Near_32.l0, rdN_at hltc, h4, h5, full1_f, Option.bind_some, hel]
    clear h4 h5
    rw [if_pos (by omega), if_pos (by omega)]
    have htk : (l.take (j + 1)).filter (fun x => x.f1 == 2) = (l.take j).filter (fun x => x.f1 == 2) ++ [l[j]].filter (fun x => x.f1 == 2) := by
      rw [List.take_succ_eq_append_getElem hlt, List.filter_append]
    by_cases hc : l[j].f1 = 2
    · rw [if_neg (by simp [hc]), if_pos (by omega), if_pos (by omega)]
      have hx : (⟨l[j].f0, l[j].f1, l[j].f2⟩ : S46) = l[j] := rfl
      rw [hx, Int.toNat_natCast]
      refine ih k (i + 1) (j + 1) _ (by omega) (by omega) (by omega) (by rw [List.length_set]; exact hcl) ?_ ?_
      · rw [htk, ← ht, List.set_eq_take_append_cons_drop, if_pos (by omega), List.take_append, List.length_take, Nat.min_eq_left (by omega), show i + 1 - i = 1 by omega, List.take_of_length_le (by rw [List.length_take]; omega)]
        simp [hc]
      · rw [List.drop_set_of_lt (by omega)]; exact hd'
    · rw [if_pos (by simp [hc])]
      refine ih k i (j + 1) c (by omega) (by omega) (by omega) hcl ?_ hd'
      rw [htk, ht]; simp [hc]
theorem del_f {l : List S46} (hn : l.length ≤ 1000) {k : Nat} (hk : l.length < k) : api_Near_32.f k l = some (l.filter fun x => x.f1 == 2) := by
  unfold api_Near_32.f api_Near_37.f
  rcases idx_l hn l.length k 0 (by omega) hk (fun j h hj => by omega) with ⟨h, ha⟩ | ⟨m, hm, h, hne, hb⟩
  · have h' : api_Near_37.l0 k l (l.length : Int) 0 = some (-1) := h
    rw [h', Option.bind_some, if_pos rfl]
    congr 1
    exact (List.filter_eq_self.mpr fun x hx => by simp [ha x hx]).symm
  · have h' : api_Near_37.l0 k l (l.length : Int) 0 = some (m : Int) := h
    have h4 : wrap64 ((m : Int) + 1) = ((m + 1 : Nat) : Int) := by rw [wrap_id (by omega) (by omega)]; omega
    rw [h', Option.bind_some, if_neg (by omega), h4]
    refine del_l hn (l.length - (m + 1)) k m (m + 1) l (by omega) (by omega) (by omega) rfl ?_ rfl
    rw [List.take_succ_eq_append_getElem hm, List.filter_append]
    have h1 : (l.take m).filter (fun x => x.f1 == 2) = l.take m := List.filter_eq_self.mpr fun x hx => by
      obtain ⟨j, hj, rfl⟩ := List.mem_iff_getElem.mp hx
      rw [List.length_take] at hj
      rw [List.getElem_take]
      simp [hb j (by omega) (by omega)]
    rw [h1]; simp [hne]
theorem all_l {l : List S46} (hn : l.length ≤ 1000) : ∀ (d k i : Nat) (a : List Int), i + d = l.length → d < k → a.length ≤ i →
    near_All.l0 k a l (l.length : Int) (i : Int) = some (a ++ (l.drop i).map fun x => x.f0) := by
  intro d
  induction d with
  | zero =>
    intro k i a hi hk _
    obtain ⟨k, rfl⟩ : ∃ m, k = m + 1 := ⟨k - 1, by omega⟩
    simp only [near_All.l0]
    rw [if_neg (by omega), List.drop_of_length_le (by omega)]; simp
  | succ d ih =>
    intro k i a hi hk ha
    obtain ⟨k, rfl⟩ : ∃ m, k = m + 1 := ⟨k - 1, by omega⟩
    have hlt : i < l.length := by omega
    have h4 : wrap64 ((i : Int) + 1) = ((i + 1 : Nat) : Int) := by rw [wrap_id (by omega) (by omega)]; omega
    simp only [near_All.l0, rdN_at hlt, h4]
    rw [if_pos (by omega), if_pos (by omega), if_pos (by omega), if_pos (by omega), ih k (i + 1) _ (by omega) (by omega) (by simp; omega), List.drop_eq_getElem_cons hlt, List.map_cons, List.append_assoc]
    rfl
/-- The routers that are full. -/
def fullOf (l : List S46) : List Int := if rises nok nkey 0 l = true then (l.filter fun x => x.f1 == 2).map fun x => x.f0 else []
theorem near_Full_f {l : List S46} (hn : l.length ≤ 9223372036854775800) {k : Nat} (hk : l.length + 10 < k) : near_Full.f k l = some (fullOf l) := by
  simp only [near_Full.f, near_May_f hn (show l.length < k by omega), Option.bind_some]
  unfold fullOf
  by_cases h1 : rises nok nkey 0 l = true
  · have hs := rises_short h1
    have hfl := List.length_filter_le (fun x : S46 => x.f1 == 2) l
    rw [if_pos h1, if_pos h1]
    simp only [clone_f (show l.length < 5864062014805 by omega), del_f (show l.length ≤ 1000 by omega) (show l.length < k by omega), Option.bind_some, near_All.f]
    have := all_l (l := l.filter fun x => x.f1 == 2) (by omega) (l.filter fun x => x.f1 == 2).length k 0 [] (by omega) (by omega) (Nat.le_refl _)
    have h2 : near_All.l0 k [] (l.filter fun x => x.f1 == 2) ((l.filter fun x => x.f1 == 2).length : Int) 0 = some ([] ++ ((l.filter fun x => x.f1 == 2).drop 0).map fun x => x.f0) := this
    rw [h2]; simp
  · rw [if_neg h1, if_neg h1]

end Go.Proofs.Ytnfoldgialdhjaa.L19
namespace Go.Proofs.Ytnfoldgialdhjaa.L19
open Go.RowKit Go.Proofs.YtnfoldgialdhjaaW.PrintWords Go.Proofs.YtnfoldgialdhjaaW.PrintLast Go.Proofs.YtnfoldgialdhjaaW.PrintMore Go.Proofs.Ytnfoldgialdhjaa.Base Go.Proofs.Ytnfoldgialdhjaa.Q19
/-- The layer is awake. -/
theorem awake_ok {k : Nat} (hk : 100 ≤ k) : watchwordlaw19_awake.f k = some true :=
  at_rounds (g := fun k => watchwordlaw19_awake.f k) watchwordlaw19_awake.mono hk (by decide +kernel)
theorem nearOk_mk {a b c : Int} (h : (1 ≤ a ∧ a ≤ 4) ∧ (b = 1 ∨ b = 2) ∧ 1 ≤ c ∧ c ≤ 16) : NearOk (⟨a, b, c⟩ : S46) := h
theorem nearNo_mk {a b c : Int} (h : ¬ ((1 ≤ a ∧ a ≤ 4) ∧ (b = 1 ∨ b = 2) ∧ 1 ≤ c ∧ c ≤ 16)) : ¬ NearOk (⟨a, b, c⟩ : S46) := h
theorem rises_one {x : S46} (h : NearOk x) : rises nok nkey 0 [x] = true :=
  rises_cons.mpr ⟨⟨nok_iff.mpr h, (nkey_range (nok_iff.mpr h)).1⟩, rfl⟩
theorem rises_no {x : S46} (h : ¬ NearOk x) : rises nok nkey 0 [x] = false := by
  cases hh : rises nok nkey 0 [x] with
  | false => rfl
  | true => exact absurd (nok_iff.mp (rises_cons.mp hh).1.1) h
theorem drop_cons {α : Type} {l t : List α} {z : α} {i : Nat} (h : l.drop i = z :: t) : ∃ hi : i < l.length, l[i] = z ∧ l.drop (i + 1) = t := by
  have hi : i < l.length := by
    apply Nat.lt_of_not_le; intro hle
    rw [List.drop_of_length_le hle] at h; cases h
  rw [List.drop_eq_getElem_cons hi] at h
  injection h with h1 h2
  exact ⟨hi, h1, h2⟩
theorem u64_tmod (a : Int) (m : Int) (hm : 0 < m) : 0 ≤ Int.tmod (IntKind.u64.wrap a) m ∧ Int.tmod (IntKind.u64.wrap a) m < m := by
  have h0 : 0 ≤ IntKind.u64.wrap a := by
    show (0 : Int) ≤ a % _
    exact Int.emod_nonneg _ (by decide)
  rw [Int.tmod_eq_emod_of_nonneg h0]
  exact ⟨Int.emod_nonneg _ (by omega), Int.emod_lt_of_pos _ hm⟩

end Go.Proofs.Ytnfoldgialdhjaa.L19
namespace Go.Proofs.Ytnfoldgialdhjaa.Opn
open Go.RowKit Go.Proofs.YtnfoldgialdhjaaW.PrintWords Go.Proofs.YtnfoldgialdhjaaW.PrintLast Go.Proofs.YtnfoldgialdhjaaW.PrintMore
open Go.Joins Go.ChangeShapes Go.WideShapes Go.Deep
set_option linter.unusedVariables false

/-- Whatever reads as_ data of type t, within reach, is told by the kind d; R is known of it. -/
def Opn {α : Type} (P : Program) (t : TypeId) (d : Kd α) (R : α → Prop) : Prop :=
  ∀ {H : Type} {enc : TypeId × Value → H} {w : World} {base : Nat} {spare : Nat → Bool} {held : Bool} {fuel : Nat} {cs : List Value} {x : DataW H × List MemPlace},
    DataW.trod enc P w base spare held fuel t cs = some x → (∀ n ∈ x.1.weights P t, n ≤ reachBytes) → ∃ a, d.K w a cs ∧ R a
theorem opn_int {P : Program} {t : TypeId} {k : IntKind} (ht : P.underlying t = some (.int k)) : Opn P t (Kd.int k) (fun a => (Lit.int k a).wf = true) := by
  intro H enc w base spare held fuel cs x h _
  obtain ⟨a, rfl, rfl, wa⟩ := DataW.trod_int ht h
  exact ⟨a, rfl, wa⟩
theorem opn_string {P : Program} {t : TypeId} (ht : P.underlying t = some .string) : Opn P t Kd.string (fun s => s.size ≤ 140737488351232) := by
  intro H enc w base spare held fuel cs x h hw
  obtain ⟨s, rfl, rfl, hs⟩ := DataW.trod_string ht h
  refine ⟨s, rfl, ?_⟩
  have := hw s.data.toList.length (by simp [DataW.weights])
  rw [Array.length_toList] at this
  exact this
theorem cells_at {w : World} {base : Nat} {a : Addr} {n : Nat} {cs : List Value} (h : w.cells? base a n = some cs) : ∀ i u, cs[i]? = some u → w.cell? (a.add i) = some u := by
  obtain ⟨_, hl, hat⟩ := World.cells?_some h
  intro i u hu
  have hi : i < n := by have := (List.getElem?_eq_some_iff.1 hu).1; omega
  rw [hat i hi]; exact hu
theorem opn_slice {α : Type} {P : Program} {t e : TypeId} {d : Kd α} {R : α → Prop} {B : Nat} (ht : P.underlying t = some (.slice e)) (hc : P.cellsOf e = d.sz) (hB : P.bytesOf e = B) (ho : Opn P e d R) :
    Opn P t (Kd.slice e d) (fun l => l.length * B ≤ 140737488351232 ∧ l.length ≤ maxLen ∧ ∀ a ∈ l, R a) := by
  intro H enc w base spare held fuel cs x h hw
  rcases open_slice ht h with ⟨rfl, rfl⟩ | ⟨ad, len, cap, m, n, D, Pl, rfl, hb, hl, hm, hmm, rfl, hi⟩
  · exact ⟨[], ⟨none, 0, rfl, Nat.le_refl _, rfl, by simp, fun h => absurd h (by simp)⟩, by simp, by simp [maxLen], fun a ha => by cases ha⟩
  · have hlm : len ≤ m := by rw [hmm]; split <;> omega
    have hwt : ∀ i, i < len → ∀ n ∈ (D i).weights P e, n ≤ reachBytes := by
      intro i hi' n hn
      refine hw n ?_
      simp only [DataW.weights, ht, List.mem_cons, List.mem_append]
      refine Or.inr (Or.inl ?_)
      have key : ∀ (l : List (DataW H)) (y : DataW H), y ∈ l → ∀ n ∈ y.weights P e, n ∈ DataW.weightsAll P e l := by
        intro l
        induction l with
        | nil => intro y hy; cases hy
        | cons z l ih =>
          intro y hy n hn
          simp only [DataW.weightsAll, List.mem_append]
          rcases List.mem_cons.mp hy with rfl | hy
          · exact Or.inl hn
          · exact Or.inr (ih y hy n hn)
      exact key _ (D i) (List.mem_map.mpr ⟨i, by simpa using hi', rfl⟩) n hn
    have hex : ∀ i, i < len → ∃ a cs', d.K w a cs' ∧ R a ∧ w.cells? base (ad.add (i * P.cellsOf e)) (P.cellsOf e) = some cs' := by
      intro i hi'
      obtain ⟨cs', h1, h2⟩ := hi i (by omega)
      obtain ⟨a, hK, hR⟩ := ho h2 (hwt i hi')
      exact ⟨a, cs', hK, hR, h1⟩
    have hw0 : len * B ≤ reachBytes := by
      have := hw ((((List.range len).map D).length + ((List.range (m - len)).map fun j => D (len + j)).length) * P.bytesOf e) (by simp [DataW.weights, ht])
      rw [hB] at this
      simp only [List.length_map, List.length_range] at this
      exact Nat.le_trans (Nat.mul_le_mul_right _ (by omega)) this
    obtain ⟨l, hll, hl2⟩ : ∃ l : List α, l.length = len ∧ ∀ i a, l[i]? = some a → ∃ cs', d.K w a cs' ∧ R a ∧ w.cells? base (ad.add (i * P.cellsOf e)) (P.cellsOf e) = some cs' := by
      clear hw0 hwt hw hlm hmm hm hl hi h
      induction len with
      | zero => exact ⟨[], rfl, fun i a h => by simp at h⟩
      | succ k ih =>
        obtain ⟨l, hll, hl2⟩ := ih (fun i hi' => hex i (by omega))
        obtain ⟨a, cs', h1, h2, h3⟩ := hex k (by omega)
        refine ⟨l ++ [a], by simp [hll], fun i b hb => ?_⟩
        by_cases hik : i < l.length
        · rw [List.getElem?_append_left hik] at hb
          exact hl2 i b hb
        · have hlt := (List.getElem?_eq_some_iff.1 hb).1
          rw [List.length_append, List.length_singleton] at hlt
          have : i = l.length := by omega
          subst this
          rw [List.getElem?_append_right (Nat.le_refl _)] at hb
          simp at hb
          subst hb
          rw [hll]
          exact ⟨cs', h1, h2, h3⟩
    have hmax : len ≤ maxLen := Nat.le_trans hl hm
    refine ⟨l, ⟨some ad, cap, by rw [hll], by omega, ⟨rfl, by rw [hll]; unfold maxLen at hmax; omega, fun _ => ⟨ad, rfl, fun j p hj => ?_⟩⟩⟩, by rw [hll]; exact hw0, by rw [hll]; exact hmax, fun a ha => ?_⟩
    · obtain ⟨cs', h1, _, h3⟩ := hl2 j p hj
      refine ⟨cs', d.K_len h1, h1, fun i u hu => ?_⟩
      have := cells_at h3 i u hu
      rw [Go.Deep.add_add, hc] at this
      exact this
    · obtain ⟨i, hi', rfl⟩ := List.mem_iff_getElem.mp ha
      obtain ⟨_, _, hR, _⟩ := hl2 i _ (List.getElem?_eq_getElem hi')
      exact hR
theorem wt_field {H : Type} {P : Program} {t f : TypeId} {fs : Array Field} {parts : List (DataW H)} {y : DataW H} {j : Nat} (ht : P.underlying t = some (.struct fs)) (hw : ∀ n ∈ (DataW.agg parts).weights P t, n ≤ reachBytes)
    (hf : (fs.toList.map (·.type))[j]? = some f) (hy : parts[j]? = some y) : ∀ n ∈ y.weights P f, n ≤ reachBytes := by
  intro n hn
  refine hw n ?_
  simp only [DataW.weights, ht]
  exact DataW.weights_mem_each hf hy n hn
theorem wt_arg {H : Type} {P : Program} {ts : List TypeId} {ds : List (DataW H)} {j : Nat} {t : TypeId} {d : DataW H} (h : (DataW.weightsEach P ts ds).all (· ≤ reachBytes) = true) (ht : ts[j]? = some t) (hd : ds[j]? = some d) : ∀ n ∈ d.weights P t, n ≤ reachBytes := by
  intro n hn
  have := List.all_eq_true.1 h _ (DataW.weights_mem_each ht hd n hn)
  simpa using this
section
variable {H : Type} {enc : TypeId × Value → H} {P : Program} {w : World} {base : Nat} {spare : Nat → Bool} {held : Bool}
theorem open_agg5 {r : Reach} {b0 : Nat} {t : TypeId} {f0 f1 f2 f3 f4 : Field} {v : Value} {d : DataW H} {p : List MemPlace} (hs : P.underlying t = some (.struct #[f0, f1, f2, f3, f4])) (hone : oneCellFields P #[f0, f1, f2, f3, f4] = true) (hC : P.cellsOf t = 5)
    (hv : Value.okWide P w r b0 t v) (h : DataW.Trod enc P w base spare held t v d p) :
    ∃ (v0 v1 v2 v3 v4 : Value) (y0 y1 y2 y3 y4 : DataW H × List MemPlace) (n : Nat), v = .agg #[v0, v1, v2, v3, v4] ∧ d = .agg [y0.1, y1.1, y2.1, y3.1, y4.1] ∧ p = y0.2 ++ (y1.2 ++ (y2.2 ++ (y3.2 ++ y4.2))) ∧
      DataW.trod enc P w base spare held n f0.type [v0] = some y0 ∧ DataW.trod enc P w base spare held n f1.type [v1] = some y1 ∧ DataW.trod enc P w base spare held n f2.type [v2] = some y2 ∧ DataW.trod enc P w base spare held n f3.type [v3] = some y3 ∧ DataW.trod enc P w base spare held n f4.type [v4] = some y4 := by
  obtain ⟨cs, rfl, hsz⟩ := okWide_struct hs hv
  obtain ⟨l⟩ := cs
  match l, hsz.trans hC with
  | [c0, c1, c2, c3, c4], _ =>
    obtain ⟨fuel, hf⟩ := h
    obtain ⟨xs, n, _, hx, _, hlen, hg⟩ := DataW.trod_struct hs hf
    obtain ⟨o0, k0⟩ := hone_of hone 0 f0 rfl
    obtain ⟨o1, k1⟩ := hone_of hone 1 f1 rfl
    obtain ⟨o2, k2⟩ := hone_of hone 2 f2 rfl
    obtain ⟨o3, k3⟩ := hone_of hone 3 f3 rfl
    obtain ⟨o4, k4⟩ := hone_of hone 4 f4 rfl
    match xs, hlen with
    | [y0, y1, y2, y3, y4], _ =>
      simp only [Prod.mk.injEq] at hx
      exact ⟨c0, c1, c2, c3, c4, y0, y1, y2, y3, y4, n, rfl, by simpa using hx.1, by simpa using hx.2, by simpa [Value.cells, o0, k0] using hg 0 f0 rfl, by simpa [Value.cells, o1, k1] using hg 1 f1 rfl, by simpa [Value.cells, o2, k2] using hg 2 f2 rfl, by simpa [Value.cells, o3, k3] using hg 3 f3 rfl, by simpa [Value.cells, o4, k4] using hg 4 f4 rfl⟩
theorem open_agg6 {r : Reach} {b0 : Nat} {t : TypeId} {f0 f1 f2 f3 f4 f5 : Field} {v : Value} {d : DataW H} {p : List MemPlace} (hs : P.underlying t = some (.struct #[f0, f1, f2, f3, f4, f5])) (hone : oneCellFields P #[f0, f1, f2, f3, f4, f5] = true) (hC : P.cellsOf t = 6)
    (hv : Value.okWide P w r b0 t v) (h : DataW.Trod enc P w base spare held t v d p) :
    ∃ (v0 v1 v2 v3 v4 v5 : Value) (y0 y1 y2 y3 y4 y5 : DataW H × List MemPlace) (n : Nat), v = .agg #[v0, v1, v2, v3, v4, v5] ∧ d = .agg [y0.1, y1.1, y2.1, y3.1, y4.1, y5.1] ∧ p = y0.2 ++ (y1.2 ++ (y2.2 ++ (y3.2 ++ (y4.2 ++ y5.2)))) ∧
      DataW.trod enc P w base spare held n f0.type [v0] = some y0 ∧ DataW.trod enc P w base spare held n f1.type [v1] = some y1 ∧ DataW.trod enc P w base spare held n f2.type [v2] = some y2 ∧ DataW.trod enc P w base spare held n f3.type [v3] = some y3 ∧ DataW.trod enc P w base spare held n f4.type [v4] = some y4 ∧ DataW.trod enc P w base spare held n f5.type [v5] = some y5 := by
  obtain ⟨cs, rfl, hsz⟩ := okWide_struct hs hv
  obtain ⟨l⟩ := cs
  match l, hsz.trans hC with
  | [c0, c1, c2, c3, c4, c5], _ =>
    obtain ⟨fuel, hf⟩ := h
    obtain ⟨xs, n, _, hx, _, hlen, hg⟩ := DataW.trod_struct hs hf
    obtain ⟨o0, k0⟩ := hone_of hone 0 f0 rfl
    obtain ⟨o1, k1⟩ := hone_of hone 1 f1 rfl
    obtain ⟨o2, k2⟩ := hone_of hone 2 f2 rfl
    obtain ⟨o3, k3⟩ := hone_of hone 3 f3 rfl
    obtain ⟨o4, k4⟩ := hone_of hone 4 f4 rfl
    obtain ⟨o5, k5⟩ := hone_of hone 5 f5 rfl
    match xs, hlen with
    | [y0, y1, y2, y3, y4, y5], _ =>
      simp only [Prod.mk.injEq] at hx
      exact ⟨c0, c1, c2, c3, c4, c5, y0, y1, y2, y3, y4, y5, n, rfl, by simpa using hx.1, by simpa using hx.2, by simpa [Value.cells, o0, k0] using hg 0 f0 rfl, by simpa [Value.cells, o1, k1] using hg 1 f1 rfl, by simpa [Value.cells, o2, k2] using hg 2 f2 rfl, by simpa [Value.cells, o3, k3] using hg 3 f3 rfl, by simpa [Value.cells, o4, k4] using hg 4 f4 rfl, by simpa [Value.cells, o5, k5] using hg 5 f5 rfl⟩
end

end Go.Proofs.Ytnfoldgialdhjaa.Opn
namespace Go.Proofs.Ytnfoldgialdhjaa.O19
open Go.RowKit Go.Proofs.YtnfoldgialdhjaaW.PrintWords Go.Proofs.YtnfoldgialdhjaaW.PrintLast Go.Proofs.YtnfoldgialdhjaaW.PrintMore Go.Proofs.Ytnfoldgialdhjaa.Opn Go.Proofs.Ytnfoldgialdhjaa.Q19
open Go.Joins Go.ChangeShapes Go.WideShapes Go.Deep
set_option linter.unusedVariables false

def R46 (x : S46) : Prop := (Lit.int .i64 x.f0).wf = true ∧ (Lit.int .i64 x.f1).wf = true ∧ (Lit.int .i64 x.f2).wf = true
set_option maxRecDepth 100000 in
theorem opn46 : Opn Try.prog 46 k46 R46 := by
  intro H enc w base spare held fuel cs x h hw
  obtain ⟨xs, n, _, rfl, hl, hlen, hf⟩ := DataW.trod_struct Try.underlying46 h
  have hl' : cs.length = 3 := hl.trans (by kernel_rfl)
  match cs, hl', xs, hlen with
  | [c0, c1, c2], _, [y0, y1, y2], _ =>
    have g0 : DataW.trod enc Try.prog w base spare held n 3 [c0] = some y0 := by
      have hk : Try.prog.cellsOf 3 = 1 := by kernel_rfl
      have z : DataW.trod enc Try.prog w base spare held n 3 ((([c0, c1, c2] : List Value).drop 0).take (Try.prog.cellsOf 3)) = some y0 := hf 0 _ rfl
      rw [hk] at z
      exact z
    obtain ⟨a0, e0, r0⟩ := (opn_int Try.underlying3) g0 (wt_field (j := 0) Try.underlying46 hw rfl rfl)
    have g1 : DataW.trod enc Try.prog w base spare held n 3 [c1] = some y1 := by
      have hk : Try.prog.cellsOf 3 = 1 := by kernel_rfl
      have z : DataW.trod enc Try.prog w base spare held n 3 ((([c0, c1, c2] : List Value).drop 1).take (Try.prog.cellsOf 3)) = some y1 := hf 1 _ rfl
      rw [hk] at z
      exact z
    obtain ⟨a1, e1, r1⟩ := (opn_int Try.underlying3) g1 (wt_field (j := 1) Try.underlying46 hw rfl rfl)
    have g2 : DataW.trod enc Try.prog w base spare held n 3 [c2] = some y2 := by
      have hk : Try.prog.cellsOf 3 = 1 := by kernel_rfl
      have z : DataW.trod enc Try.prog w base spare held n 3 ((([c0, c1, c2] : List Value).drop 2).take (Try.prog.cellsOf 3)) = some y2 := hf 2 _ rfl
      rw [hk] at z
      exact z
    obtain ⟨a2, e2, r2⟩ := (opn_int Try.underlying3) g2 (wt_field (j := 2) Try.underlying46 hw rfl rfl)
    exact ⟨⟨a0, a1, a2⟩, ⟨[c0], [c1, c2], rfl, e0, ⟨[c1], [c2], rfl, e1, e2⟩⟩, ⟨r0, r1, r2⟩⟩

end Go.Proofs.Ytnfoldgialdhjaa.O19
