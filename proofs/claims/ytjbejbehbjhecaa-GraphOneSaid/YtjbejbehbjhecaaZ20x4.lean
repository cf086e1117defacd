/- Written by a program of this session (out of what the print wrote for this seat): the functions' walks, packed. -/
import Derived.Test.YtjbejbehbjhecaaZ20x3
namespace Go.Proofs.Ytjbejbehbjhecaa.Q20
open Go.RowKit Go.Proofs.YtjbejbehbjhecaaW.PrintWords Go.Proofs.YtjbejbehbjhecaaW.PrintLast Go.Proofs.YtjbejbehbjhecaaW.PrintMore
attribute [local go_sem] max2_int min2_int max_two min_two max_three min_three max_four min_four   -- for this text's walks alone
set_option linter.unusedVariables false
set_option linter.unusedSimpArgs false

attribute [local go_sem high] eqA23
set_option maxHeartbeats 8000000 in
set_option maxRecDepth 100000 in
theorem watchwordlaw20_GraphOne.calls_01 (k : Nat) (a0 : Int) (a1 : Int) (a2 : Int) (a3 : Bool) (r : Bool) (w : World) (h : watchwordlaw20_GraphOne.f k a0 a1 a2 a3 = some r) (hT : r = true) (hq1 : Aside0 (¬ (a3 = true))) (hq2 : Aside0 ((Go.bits .and .i64 a1 3) < (Go.bits .and .i64 a0 3))) :
  Calls Try.prog 11 #[.int .i64 a0, .int .i64 a1, .int .i64 a2, .bool a3] w fun e w' => e = .returned (.bool r) ∧ Below w.heap.size w w' := by
 have hu59 := Try.underlying59
 have hu57 := Try.underlying57
 have hu23 := Try.underlying23
 have HB := Aside0.mk (Below.refl w.heap.size w)
 have HT := Aside0.mk hT
 clear hT
 have H : ((watchwordlaw20_awake.f k).bind fun t184 => (if t184 = true then (if (Go.bits .and .i64 a0 3) = (Go.bits .and .i64 a1 3) then (some true) else ((some (([(⟨wrap64 ((Go.bits .and .i64 a1 3) + 1), wrap64 (1 + (Go.bits .and .i64 a2 1023))⟩ : S59)] : List (S59)) : List (S59))).bind fun y185 => (if a3 = true then (watchwordlaw20_GraphOne.j0 k a3 (Go.bits .and .i64 a0 3) (Go.bits .and .i64 a1 3) (wrap64 (1 + (Go.bits .and .i64 a2 1023))) (wrap64 ((Go.bits .and .i64 a0 3) + 1)) 1 0 y185 (wrap64 ((Go.bits .and .i64 a1 3) + 1)) 1 0 (([(⟨wrap64 ((Go.bits .and .i64 a0 3) + 1), 9⟩ : S59)] : List (S59)))) else (watchwordlaw20_GraphOne.j0 k a3 (Go.bits .and .i64 a0 3) (Go.bits .and .i64 a1 3) (wrap64 (1 + (Go.bits .and .i64 a2 1023))) (wrap64 ((Go.bits .and .i64 a0 3) + 1)) 1 0 y185 (wrap64 ((Go.bits .and .i64 a1 3) + 1)) 1 0 ([] : List (S59)))))) else (some false))) = some r := h
 clear h
 replace H := Option.bind_eq_some_iff.mp H
 obtain ⟨t184, A50, H⟩ := H
 replace H : (if t184 = true then (if (Go.bits .and .i64 a0 3) = (Go.bits .and .i64 a1 3) then (some true) else ((some (([(⟨wrap64 ((Go.bits .and .i64 a1 3) + 1), wrap64 (1 + (Go.bits .and .i64 a2 1023))⟩ : S59)] : List (S59)) : List (S59))).bind fun y185 => (if a3 = true then (watchwordlaw20_GraphOne.j0 k a3 (Go.bits .and .i64 a0 3) (Go.bits .and .i64 a1 3) (wrap64 (1 + (Go.bits .and .i64 a2 1023))) (wrap64 ((Go.bits .and .i64 a0 3) + 1)) 1 0 y185 (wrap64 ((Go.bits .and .i64 a1 3) + 1)) 1 0 (([(⟨wrap64 ((Go.bits .and .i64 a0 3) + 1), 9⟩ : S59)] : List (S59)))) else (watchwordlaw20_GraphOne.j0 k a3 (Go.bits .and .i64 a0 3) (Go.bits .and .i64 a1 3) (wrap64 (1 + (Go.bits .and .i64 a2 1023))) (wrap64 ((Go.bits .and .i64 a0 3) + 1)) 1 0 y185 (wrap64 ((Go.bits .and .i64 a1 3) + 1)) 1 0 ([] : List (S59)))))) else (some false)) = some r := H
 have A5 := Aside0.mk A50
 clear A50
 by_cases c6 : t184 = true
 ·subst c6
  have H1 : (if (Go.bits .and .i64 a0 3) = (Go.bits .and .i64 a1 3) then (some true) else ((some (([(⟨wrap64 ((Go.bits .and .i64 a1 3) + 1), wrap64 (1 + (Go.bits .and .i64 a2 1023))⟩ : S59)] : List (S59)) : List (S59))).bind fun y185 => (if a3 = true then (watchwordlaw20_GraphOne.j0 k a3 (Go.bits .and .i64 a0 3) (Go.bits .and .i64 a1 3) (wrap64 (1 + (Go.bits .and .i64 a2 1023))) (wrap64 ((Go.bits .and .i64 a0 3) + 1)) 1 0 y185 (wrap64 ((Go.bits .and .i64 a1 3) + 1)) 1 0 (([(⟨wrap64 ((Go.bits .and .i64 a0 3) + 1), 9⟩ : S59)] : List (S59)))) else (watchwordlaw20_GraphOne.j0 k a3 (Go.bits .and .i64 a0 3) (Go.bits .and .i64 a1 3) (wrap64 (1 + (Go.bits .and .i64 a2 1023))) (wrap64 ((Go.bits .and .i64 a0 3) + 1)) 1 0 y185 (wrap64 ((Go.bits .and .i64 a1 3) + 1)) 1 0 ([] : List (S59)))))) = some r := by rw [if_pos rfl] at H; exact H
  clear H
  have H := H1
  clear H1
  by_cases c7 : (Go.bits .and .i64 a0 3) = (Go.bits .and .i64 a1 3)
  ·rw [if_pos c7] at H
   have c7b0 : ((Go.bits .and .i64 a0 3) == (Go.bits .and .i64 a1 3)) = true := beq_iff_eq.mpr c7
   have c7b1 : ((Go.bits .and .i64 a0 3) != (Go.bits .and .i64 a1 3)) = false := bne_eq_false_iff_eq.mpr c7
   clear c7
   focus
    obtain rfl := Option.some.inj H
    go_enter Try.func11, Try.ntmps11
    go_wp2_with (first | ((with_reducible refine gate_callee (f := 25) rfl ?_); refine goesL_ (some 18) rfl rfl Try.func25 (by kernel_rfl) rfl #[] rfl (by (try simp only [List.map_toArray, List.map_cons, List.map_nil]); first | done | rfl | (simp only [List.length_drop, List.length_take]; rfl)) ?_; (with_reducible refine (watchwordlaw20_awake.calls k  true _ A5.out (by first | rfl | exact HT.out)).mono ?_); rintro e w8 ⟨rfl, hb⟩; refine ⟨_, rfl, ?_⟩; have n0_ := Aside0.mk (below_step (by repeat (first | (with_reducible first | exact HB.out | apply below_alloc | apply pw_below_drewN | apply below_drew1) | exact HB.out)) hb); clear HB; have HB := n0_; clear n0_; (try clear hb); (try clear hb2); (try clear hk); (try clear hi)))
    go_ret
    exact ⟨by first | rfl | (simp [errW_none, errW_some] <;> rfl) | (simp [*, errW_none, errW_some] <;> rfl), by repeat (first | (with_reducible first | exact HB.out | apply below_alloc | apply pw_below_drewN | apply below_drew1) | exact HB.out)⟩
  ·rw [if_neg c7] at H
   have c7b0 : ((Go.bits .and .i64 a0 3) == (Go.bits .and .i64 a1 3)) = false := beq_eq_false_iff_ne.mpr c7
   have c7b1 : ((Go.bits .and .i64 a0 3) != (Go.bits .and .i64 a1 3)) = true := bne_iff_ne.mpr c7
   obtain ⟨y185, hy185⟩ : ∃ y_ : List (S59), y_ = (([(⟨wrap64 ((Go.bits .and .i64 a1 3) + 1), wrap64 (1 + (Go.bits .and .i64 a2 1023))⟩ : S59)] : List (S59))) := ⟨_, rfl⟩
   replace H : (if a3 = true then (watchwordlaw20_GraphOne.j0 k a3 (Go.bits .and .i64 a0 3) (Go.bits .and .i64 a1 3) (wrap64 (1 + (Go.bits .and .i64 a2 1023))) (wrap64 ((Go.bits .and .i64 a0 3) + 1)) 1 0 y185 (wrap64 ((Go.bits .and .i64 a1 3) + 1)) 1 0 (([(⟨wrap64 ((Go.bits .and .i64 a0 3) + 1), 9⟩ : S59)] : List (S59)))) else (watchwordlaw20_GraphOne.j0 k a3 (Go.bits .and .i64 a0 3) (Go.bits .and .i64 a1 3) (wrap64 (1 + (Go.bits .and .i64 a2 1023))) (wrap64 ((Go.bits .and .i64 a0 3) + 1)) 1 0 y185 (wrap64 ((Go.bits .and .i64 a1 3) + 1)) 1 0 ([] : List (S59)))) = some r := by first | (rw [hy185]; with_reducible exact H) | (have H2_ := (Option.bind_some _ _).symm.trans H; rw [hy185]; with_reducible exact H2_) | (have H2_ := (Option.bind_some _ _).symm.trans H; with_reducible exact H2_) | with_reducible exact H | (rw [hy185]; exact H) | exact H
   have Ny185 := Aside0.mk hy185
   clear hy185
   have HC9 := Aside0.mk H
   clear H
   go_enter Try.func11, Try.ntmps11
   go_upto_if 41 with (first | ((with_reducible refine gate_callee (f := 25) rfl ?_); refine goesL_ (some 18) rfl rfl Try.func25 (by kernel_rfl) rfl #[] rfl (by (try simp only [List.map_toArray, List.map_cons, List.map_nil]); first | done | rfl | (simp only [List.length_drop, List.length_take]; rfl)) ?_; (with_reducible refine (watchwordlaw20_awake.calls k  true _ A5.out (by first | rfl | exact HT.out)).mono ?_); rintro e w10 ⟨rfl, hb⟩; refine ⟨_, rfl, ?_⟩; have n0_ := Aside0.mk (below_step (by repeat (first | (with_reducible first | exact HB.out | apply below_alloc | apply pw_below_drewN | apply below_drew1) | exact HB.out)) hb); clear HB; have HB := n0_; clear n0_; (try clear hb); (try clear hb2); (try clear hk); (try clear hi)) | ((with_reducible refine gate_dst (N := 36) rfl ?_); refine Kd.R_lit k59 _ 59 ?hg (N := 36) ?hd (xs := ([(⟨wrap64 ((Go.bits .and .i64 a1 3) + 1), wrap64 (1 + (Go.bits .and .i64 a2 1023))⟩ : S59)] : List (S59))) (inner := [.int .i64 (wrap64 ((Go.bits .and .i64 a1 3) + 1)), .int .i64 (wrap64 (1 + (Go.bits .and .i64 a2 1023)))]) (ok := fun _ => True) (okp := fun _ => True) ?hr ?hp (fun _ hk => hk) trivial (Below.refl _ _) (Nat.le_refl _) (by simp) ?_; (case hd => rfl); (case hg => rfl); (case hr => first | (go_simp; done) | (go_simp; rfl)); (case hp => exact (Reps.c2 (show Kd.M k59 _ _ _ (⟨wrap64 ((Go.bits .and .i64 a1 3) + 1), wrap64 (1 + (Go.bits .and .i64 a2 1023))⟩ : S59) [.int .i64 (wrap64 ((Go.bits .and .i64 a1 3) + 1)), .int .i64 (wrap64 (1 + (Go.bits .and .i64 a2 1023)))] from (k59_mkM _ _ _ (⟨wrap64 ((Go.bits .and .i64 a1 3) + 1), wrap64 (1 + (Go.bits .and .i64 a2 1023))⟩ : S59) )) (Reps.none _ _))); intro v186 w11 ho12 hb hg_ hnew_; clear hg_ hnew_; (first | rw [← Ny185.out] at ho12 | (simp only [Int.reduceToNat] at ho12; rw [← Ny185.out] at ho12)); have n0_ := Aside0.mk (Kd.R_lower ho12 (below_size (by repeat (first | (with_reducible first | exact HB.out | apply below_alloc | apply pw_below_drewN | apply below_drew1) | exact HB.out)))); have n1_ := Aside0.mk (below_step (by repeat (first | (with_reducible first | exact HB.out | apply below_alloc | apply pw_below_drewN | apply below_drew1) | exact HB.out)) hb); clear HB; have HO187 := n0_; have HB := n1_; clear n0_ n1_; clear hb ho12; obtain ⟨Ao13, co13, eo13⟩ := Kd.R_slice HO187.out; subst eo13) | ((with_reducible refine gate_dst (N := 12) rfl ?_); refine box_event ?hg (N := 12) ?hd (cs := #[.int .i64 0, .int .i64 0, .int .i64 0, .slice none 0 0]) (t := 57) ?hr ?_; (case hd => rfl); (case hg => rfl); (case hr => first | (go_simp; done) | (go_simp; rfl)); intro gb188 hg w14 hbox hb; have n0_ := Aside0.mk (Kd.R_below (by (with_reducible repeat (first | apply Kd.R_alloc | apply Kd.R_drewN | apply Kd.R_drew)); exact HO187.out) hb); have n1_ := Aside0.mk (below_step (by repeat (first | (with_reducible first | exact HB.out | apply below_alloc | apply pw_below_drewN | apply below_drew1) | exact HB.out)) hb); have n2_ := Aside0.mk (hbox); have n3_ := Aside0.mk ((by rw [hg]; exact (below_size (by repeat (first | (with_reducible first | exact HB.out | apply below_alloc | apply pw_below_drewN | apply below_drew1) | exact HB.out))) : w.heap.size ≤ gb188)); have n4_ := Aside0.mk ((by rw [hg]; exact (below_size (by repeat (first | (with_reducible first | exact HB.out | apply below_alloc | apply pw_below_drewN | apply below_drew1) | exact HB.out))) : w.heap.size ≤ gb188)); clear HO187; clear HB; have HO187 := n0_; have HB := n1_; have BK188 := n2_; have GW188 := n3_; have GE188 := n4_; clear n0_ n1_ n2_ n3_ n4_; clear hb hbox hg) | ((with_reducible refine gate_dst (N := 13) rfl ?_); refine box_event ?hg (N := 13) ?hd (cs := #[.int .i64 0, .int .i64 0, .int .i64 0, .slice none 0 0]) (t := 57) ?hr ?_; (case hd => rfl); (case hg => rfl); (case hr => first | (go_simp; done) | (go_simp; rfl)); intro gb189 hg w15 hbox hb; have n0_ := Aside0.mk (Kd.R_below (by (with_reducible repeat (first | apply Kd.R_alloc | apply Kd.R_drewN | apply Kd.R_drew)); exact HO187.out) hb); have n1_ := Aside0.mk (blk_below (g := gb188) (o := .cells #[.int .i64 0, .int .i64 0, .int .i64 0, .slice none 0 0] 57 (0, 0)) (by (with_reducible repeat (first | refine blk_drewN ?_ _ | refine blk_drew ?_ | refine blk_alloc ?_ _)); exact BK188.out) hb); have n2_ := Aside0.mk (below_step (by repeat (first | (with_reducible first | exact HB.out | apply below_alloc | apply pw_below_drewN | apply below_drew1 | refine below_set ?_ GE188.out) | exact HB.out)) hb); have n3_ := Aside0.mk (hbox); have n4_ := Aside0.mk ((by rw [hg]; exact (below_size (by repeat (first | (with_reducible first | exact HB.out | apply below_alloc | apply pw_below_drewN | apply below_drew1 | refine below_set ?_ GE188.out) | exact HB.out))) : w.heap.size ≤ gb189)); have n5_ := Aside0.mk ((by rw [hg]; exact (below_size (by repeat (first | (with_reducible first | exact HB.out | apply below_alloc | apply pw_below_drewN | apply below_drew1 | refine below_set ?_ GE188.out) | exact HB.out))) : w.heap.size ≤ gb189)); have n6_ := Aside0.mk ((by rw [hg]; exact Nat.ne_of_lt (blk_lt (g := gb188) (o := .cells #[.int .i64 0, .int .i64 0, .int .i64 0, .slice none 0 0] 57 (0, 0)) (by (with_reducible repeat (first | refine blk_drewN ?_ _ | refine blk_drew ?_ | refine blk_alloc ?_ _)); exact BK188.out)) : gb188 ≠ gb189)); have n7_ := Aside0.mk ((by rw [hg]; exact Nat.ne_of_gt (blk_lt (g := gb188) (o := .cells #[.int .i64 0, .int .i64 0, .int .i64 0, .slice none 0 0] 57 (0, 0)) (by (with_reducible repeat (first | refine blk_drewN ?_ _ | refine blk_drew ?_ | refine blk_alloc ?_ _)); exact BK188.out)) : gb189 ≠ gb188)); clear HO187; clear BK188; clear HB; have HO187 := n0_; have BK188 := n1_; have HB := n2_; have BK189 := n3_; have GW189 := n4_; have GE189 := n5_; have NB188_189 := n6_; have NB189_188 := n7_; clear n0_ n1_ n2_ n3_ n4_ n5_ n6_ n7_; clear hb hbox hg; have hnb16 := NB188_189.out; have hnc16 := NB189_188.out; have hcz17_0 : w15.cell? ⟨gb188, 0, none⟩ = some (.int .i64 0) := (blk_cell BK188.out 0).trans rfl; have hcz17_1 : w15.cell? ⟨gb188, 1, none⟩ = some (.int .i64 0) := (blk_cell BK188.out 1).trans rfl; have hcz17_2 : w15.cell? ⟨gb188, 2, none⟩ = some (.int .i64 0) := (blk_cell BK188.out 2).trans rfl; have hcz17_3 : w15.cell? ⟨gb188, 3, none⟩ = some (.slice none 0 0) := (blk_cell BK188.out 3).trans rfl; have hfz17_0 := blk_frozen BK188.out 0; have hfz17_1 := blk_frozen BK188.out 1; have hfz17_2 := blk_frozen BK188.out 2; have hfz17_3 := blk_frozen BK188.out 3) | ((with_reducible refine gate_store (t := 57) (p := 12) rfl ?_); refine store_event (t := 57) (p := 12) (v := ?vo_w18) (w1 := ((((w15.setCell ⟨gb188, 0, none⟩ (.int .i64 (wrap64 ((Go.bits .and .i64 a0 3) + 1)))).setCell ⟨gb188, 1, none⟩ (.int .i64 1)).setCell ⟨gb188, 2, none⟩ (.int .i64 0)).setCell ⟨gb188, 3, none⟩ (.slice Ao13 y185.length co13))) ?hg ?ho ?hn ?hr ?_; (case ho => rfl); (case hg => rfl); (case hn => rfl); (case hr => first | (go_simp; done) | (go_simp; rfl)); intro w18 hw; have n0_ : Aside0 (Kd.R k59 59 w18 w.heap.size (fun _ => True) (.slice Ao13 y185.length co13) y185) := ⟨(by rw [hw]; exact (by (with_reducible repeat (first | apply Kd.R_alloc | apply Kd.R_drewN | apply Kd.R_drew)); exact Kd.R_mono (Kd.R_far (p := ⟨gb188, 3, none⟩) (Kd.R_far (p := ⟨gb188, 2, none⟩) (Kd.R_far (p := ⟨gb188, 1, none⟩) (Kd.R_far (p := ⟨gb188, 0, none⟩) (Kd.R_types HO187.out BK188.out (by decide)) (fun _ hk => hk.2) (.int .i64 (wrap64 ((Go.bits .and .i64 a0 3) + 1)))) (fun _ hk => hk.2) (.int .i64 1)) (fun _ hk => hk.2) (.int .i64 0)) (fun _ hk => hk.2) (.slice Ao13 y185.length co13)) (fun _ hk => trivial)))⟩; have n1_ : Aside0 (w18.heap[gb188]? = some (.cells #[.int .i64 (wrap64 ((Go.bits .and .i64 a0 3) + 1)), .int .i64 1, .int .i64 0, .slice Ao13 y185.length co13] 57 (0, 0))) := ⟨(by rw [hw]; exact (by (with_reducible repeat (first | refine blk_drewN ?_ _ | refine blk_drew ?_ | refine blk_alloc ?_ _)); refine blk_put (cs := #[.int .i64 (wrap64 ((Go.bits .and .i64 a0 3) + 1)), .int .i64 1, .int .i64 0, .slice none 0 0]) ?_ 3 _ rfl; (with_reducible repeat (first | refine blk_drewN ?_ _ | refine blk_drew ?_ | refine blk_alloc ?_ _)); refine blk_put (cs := #[.int .i64 (wrap64 ((Go.bits .and .i64 a0 3) + 1)), .int .i64 1, .int .i64 0, .slice none 0 0]) ?_ 2 _ rfl; (with_reducible repeat (first | refine blk_drewN ?_ _ | refine blk_drew ?_ | refine blk_alloc ?_ _)); refine blk_put (cs := #[.int .i64 (wrap64 ((Go.bits .and .i64 a0 3) + 1)), .int .i64 0, .int .i64 0, .slice none 0 0]) ?_ 1 _ rfl; (with_reducible repeat (first | refine blk_drewN ?_ _ | refine blk_drew ?_ | refine blk_alloc ?_ _)); refine blk_put (cs := #[.int .i64 0, .int .i64 0, .int .i64 0, .slice none 0 0]) ?_ 0 _ rfl; (with_reducible repeat (first | refine blk_drewN ?_ _ | refine blk_drew ?_ | refine blk_alloc ?_ _)); exact BK188.out))⟩; have n2_ : Aside0 (w18.heap[gb189]? = some (.cells #[.int .i64 0, .int .i64 0, .int .i64 0, .slice none 0 0] 57 (0, 0))) := ⟨(by rw [hw]; exact (by (with_reducible repeat (first | refine blk_drewN ?_ _ | refine blk_drew ?_ | refine blk_alloc ?_ _)); refine blk_far ?_ NB189_188.out _; (with_reducible repeat (first | refine blk_drewN ?_ _ | refine blk_drew ?_ | refine blk_alloc ?_ _)); refine blk_far ?_ NB189_188.out _; (with_reducible repeat (first | refine blk_drewN ?_ _ | refine blk_drew ?_ | refine blk_alloc ?_ _)); refine blk_far ?_ NB189_188.out _; (with_reducible repeat (first | refine blk_drewN ?_ _ | refine blk_drew ?_ | refine blk_alloc ?_ _)); refine blk_far ?_ NB189_188.out _; (with_reducible repeat (first | refine blk_drewN ?_ _ | refine blk_drew ?_ | refine blk_alloc ?_ _)); exact BK189.out))⟩; have n3_ : Aside0 (Below w.heap.size w w18) := ⟨(by rw [hw]; exact (by repeat (first | (with_reducible first | exact HB.out | apply below_alloc | apply pw_below_drewN | apply below_drew1 | refine below_set ?_ GE188.out | refine below_set ?_ GE189.out) | exact HB.out)))⟩; clear hw; clear HO187; clear BK188; clear BK189; clear HB; have HO187 := n0_; have BK188 := n1_; have BK189 := n2_; have HB := n3_; clear n0_ n1_ n2_ n3_; have hcz19_0 : w18.cell? ⟨gb189, 0, none⟩ = some (.int .i64 0) := (blk_cell BK189.out 0).trans rfl; have hcz19_1 : w18.cell? ⟨gb189, 1, none⟩ = some (.int .i64 0) := (blk_cell BK189.out 1).trans rfl; have hcz19_2 : w18.cell? ⟨gb189, 2, none⟩ = some (.int .i64 0) := (blk_cell BK189.out 2).trans rfl; have hcz19_3 : w18.cell? ⟨gb189, 3, none⟩ = some (.slice none 0 0) := (blk_cell BK189.out 3).trans rfl; have hfz19_0 := blk_frozen BK189.out 0; have hfz19_1 := blk_frozen BK189.out 1; have hfz19_2 := blk_frozen BK189.out 2; have hfz19_3 := blk_frozen BK189.out 3) | ((with_reducible refine gate_store (t := 57) (p := 13) rfl ?_); refine store_event (t := 57) (p := 13) (v := ?vo_w20) (w1 := ((((w18.setCell ⟨gb189, 0, none⟩ (.int .i64 (wrap64 ((Go.bits .and .i64 a1 3) + 1)))).setCell ⟨gb189, 1, none⟩ (.int .i64 1)).setCell ⟨gb189, 2, none⟩ (.int .i64 0)).setCell ⟨gb189, 3, none⟩ (.slice none 0 0))) ?hg ?ho ?hn ?hr ?_; (case ho => rfl); (case hg => rfl); (case hn => rfl); (case hr => first | (go_simp; done) | (go_simp; rfl)); intro w20 hw; have n0_ : Aside0 (Kd.R k59 59 w20 w.heap.size (fun _ => True) (.slice Ao13 y185.length co13) y185) := ⟨(by rw [hw]; exact (by (with_reducible repeat (first | apply Kd.R_alloc | apply Kd.R_drewN | apply Kd.R_drew)); exact Kd.R_mono (Kd.R_far (p := ⟨gb189, 3, none⟩) (Kd.R_far (p := ⟨gb189, 2, none⟩) (Kd.R_far (p := ⟨gb189, 1, none⟩) (Kd.R_far (p := ⟨gb189, 0, none⟩) (Kd.R_types HO187.out BK189.out (by decide)) (fun _ hk => hk.2) (.int .i64 (wrap64 ((Go.bits .and .i64 a1 3) + 1)))) (fun _ hk => hk.2) (.int .i64 1)) (fun _ hk => hk.2) (.int .i64 0)) (fun _ hk => hk.2) (.slice none 0 0)) (fun _ hk => trivial)))⟩; have n1_ : Aside0 (w20.heap[gb188]? = some (.cells #[.int .i64 (wrap64 ((Go.bits .and .i64 a0 3) + 1)), .int .i64 1, .int .i64 0, .slice Ao13 y185.length co13] 57 (0, 0))) := ⟨(by rw [hw]; exact (by (with_reducible repeat (first | refine blk_drewN ?_ _ | refine blk_drew ?_ | refine blk_alloc ?_ _)); refine blk_far ?_ NB188_189.out _; (with_reducible repeat (first | refine blk_drewN ?_ _ | refine blk_drew ?_ | refine blk_alloc ?_ _)); refine blk_far ?_ NB188_189.out _; (with_reducible repeat (first | refine blk_drewN ?_ _ | refine blk_drew ?_ | refine blk_alloc ?_ _)); refine blk_far ?_ NB188_189.out _; (with_reducible repeat (first | refine blk_drewN ?_ _ | refine blk_drew ?_ | refine blk_alloc ?_ _)); refine blk_far ?_ NB188_189.out _; (with_reducible repeat (first | refine blk_drewN ?_ _ | refine blk_drew ?_ | refine blk_alloc ?_ _)); exact BK188.out))⟩; have n2_ : Aside0 (w20.heap[gb189]? = some (.cells #[.int .i64 (wrap64 ((Go.bits .and .i64 a1 3) + 1)), .int .i64 1, .int .i64 0, .slice none 0 0] 57 (0, 0))) := ⟨(by rw [hw]; exact (by (with_reducible repeat (first | refine blk_drewN ?_ _ | refine blk_drew ?_ | refine blk_alloc ?_ _)); refine blk_put (cs := #[.int .i64 (wrap64 ((Go.bits .and .i64 a1 3) + 1)), .int .i64 1, .int .i64 0, .slice none 0 0]) ?_ 3 _ rfl; (with_reducible repeat (first | refine blk_drewN ?_ _ | refine blk_drew ?_ | refine blk_alloc ?_ _)); refine blk_put (cs := #[.int .i64 (wrap64 ((Go.bits .and .i64 a1 3) + 1)), .int .i64 1, .int .i64 0, .slice none 0 0]) ?_ 2 _ rfl; (with_reducible repeat (first | refine blk_drewN ?_ _ | refine blk_drew ?_ | refine blk_alloc ?_ _)); refine blk_put (cs := #[.int .i64 (wrap64 ((Go.bits .and .i64 a1 3) + 1)), .int .i64 0, .int .i64 0, .slice none 0 0]) ?_ 1 _ rfl; (with_reducible repeat (first | refine blk_drewN ?_ _ | refine blk_drew ?_ | refine blk_alloc ?_ _)); refine blk_put (cs := #[.int .i64 0, .int .i64 0, .int .i64 0, .slice none 0 0]) ?_ 0 _ rfl; (with_reducible repeat (first | refine blk_drewN ?_ _ | refine blk_drew ?_ | refine blk_alloc ?_ _)); exact BK189.out))⟩; have n3_ : Aside0 (Below w.heap.size w w20) := ⟨(by rw [hw]; exact (by repeat (first | (with_reducible first | exact HB.out | apply below_alloc | apply pw_below_drewN | apply below_drew1 | refine below_set ?_ GE188.out | refine below_set ?_ GE189.out) | exact HB.out)))⟩; clear hw; clear HO187; clear BK188; clear BK189; clear HB; have HO187 := n0_; have BK188 := n1_; have BK189 := n2_; have HB := n3_; clear n0_ n1_ n2_ n3_))
   (try simp only [Act.put, List.setIfInBounds_toArray, List.set_cons_zero, List.set_cons_succ])
   go_cut [] (fun wc => ∃ (kq : Nat) (x190003_8 : List (S59)) (u190003 : Value), Aside0 (watchwordlaw20_GraphOne.j0 kq a3 (Go.bits .and .i64 a0 3) (Go.bits .and .i64 a1 3) (wrap64 (1 + (Go.bits .and .i64 a2 1023))) (wrap64 ((Go.bits .and .i64 a0 3) + 1)) 1 0 y185 (wrap64 ((Go.bits .and .i64 a1 3) + 1)) 1 0 x190003_8 = some r) ∧ Aside0 (kq ≤ k) ∧ Aside0 (Kd.R k59 59 wc w.heap.size (fun k_ => some k_ ≠ (u190003 : Value).ownBlock) (.slice Ao13 y185.length co13) y185) ∧ Aside0 (Kd.R k59 59 wc w.heap.size (fun k_ => some k_ ≠ ((.slice Ao13 y185.length co13) : Value).ownBlock) u190003 x190003_8) ∧ Aside0 (wc.heap[gb188]? = some (.cells #[.int .i64 (wrap64 ((Go.bits .and .i64 a0 3) + 1)), .int .i64 1, .int .i64 0, (.slice Ao13 y185.length co13)] 57 (0, 0))) ∧ Aside0 (wc.heap[gb189]? = some (.cells #[.int .i64 (wrap64 ((Go.bits .and .i64 a1 3) + 1)), .int .i64 1, .int .i64 0, u190003] 57 (0, 0))) ∧ Aside0 (Below w.heap.size w wc))
   case first =>
    have H := HC9.out
    clear HC9
    by_cases c21 : a3 = true
    ·exact absurd c21 hq1.out
    ·replace c21 := Bool.eq_false_iff.mpr c21
     subst c21
     have H1 : (watchwordlaw20_GraphOne.j0 k false (Go.bits .and .i64 a0 3) (Go.bits .and .i64 a1 3) (wrap64 (1 + (Go.bits .and .i64 a2 1023))) (wrap64 ((Go.bits .and .i64 a0 3) + 1)) 1 0 y185 (wrap64 ((Go.bits .and .i64 a1 3) + 1)) 1 0 ([] : List (S59))) = some r := by rw [if_neg (show ¬ (false = true) by decide)] at H; exact H
     clear H
     have H := H1
     clear H1
     focus
      have H' := Aside0.mk H
      clear H
      go_wp2
      go_meet
      case rel => exact ⟨_, (([] : List (S59))), (.slice none 0 0), H', ⟨by first | omega | exact Nat.le_refl _⟩, ⟨by (with_reducible repeat (first | apply Kd.R_alloc | apply Kd.R_drewN | apply Kd.R_drew)); exact Kd.R_mono HO187.out (fun _ hk => (by simp [Value.ownBlock]))⟩, ⟨by first | exact Kd.R_nil _ _ _ _ _ | exact Kd.N_nil _ _ _ _ _ | exact Kd.V_nil _ _ _ _ _ | exact Kd.Q_nil _ _ _ _ _ | exact Kd.S_nil _ _ _ _ _⟩, ⟨by (with_reducible repeat (first | refine blk_drewN ?_ _ | refine blk_drew ?_ | refine blk_alloc ?_ _)); exact BK188.out⟩, ⟨by (with_reducible repeat (first | refine blk_drewN ?_ _ | refine blk_drew ?_ | refine blk_alloc ?_ _)); exact BK189.out⟩, ⟨by repeat (first | (with_reducible first | exact HB.out | apply below_alloc | apply pw_below_drewN | apply below_drew1 | refine below_set ?_ GE188.out | refine below_set ?_ GE189.out) | exact HB.out)⟩⟩
   case rest =>
    clear HC9
    try clear c1
    try clear c2
    try clear p2
    try clear c6
    try clear p6
    try clear c7
    try clear c7b0
    try clear c7b1
    try clear c11
    try clear c16
    try clear c21
    try clear c25
    try clear hcz17_0
    try clear hcz17_1
    try clear hcz17_2
    try clear hcz17_3
    try clear hcz19_0
    try clear hcz19_1
    try clear hcz19_2
    try clear hcz19_3
    try clear hcz26_0
    try clear hcz26_1
    try clear hcz26_2
    try clear hcz26_3
    try clear hfz17_0
    try clear hfz17_1
    try clear hfz17_2
    try clear hfz17_3
    try clear hfz19_0
    try clear hfz19_1
    try clear hfz19_2
    try clear hfz19_3
    try clear hfz26_0
    try clear hfz26_1
    try clear hfz26_2
    try clear hfz26_3
    obtain ⟨kq, x190003_8, u190003, HA, HJ8, HO_189003, HO_190003, BK188, BK189, HB⟩ := hcut
    cases kq with
    | zero => exact absurd HA.out (by simp [watchwordlaw20_GraphOne.j0])
    | succ kj8 =>
     have H := HA.out
     clear HA
     simp only [watchwordlaw20_GraphOne.j0] at H
     by_cases c28 : (Go.bits .and .i64 a1 3) < (Go.bits .and .i64 a0 3)
     ·rw [if_pos c28] at H
      have c28b0 : decide ((Go.bits .and .i64 a1 3) < (Go.bits .and .i64 a0 3)) = true := decide_eq_true c28
      clear c28
      obtain ⟨y193, hy193⟩ : ∃ y_ : List (S57), y_ = (([(⟨(wrap64 ((Go.bits .and .i64 a1 3) + 1)), 1, 0, x190003_8⟩ : S57), (⟨(wrap64 ((Go.bits .and .i64 a0 3) + 1)), 1, 0, y185⟩ : S57)] : List (S57))) := ⟨_, rfl⟩
      replace H : (if a3 = true then (if 0 ≤ (Go.bits .and .i64 a0 3) then (if (Go.bits .and .i64 a0 3) < 4 then (if 0 ≤ (Go.bits .and .i64 a1 3) then (if (Go.bits .and .i64 a1 3) < 4 then ((graph_Of.f kj8 y193).bind fun bt197 => ((watchwordlaw0_Num.f bt197.2.2.2.2.2.2.2.2.2.2.2.2.2.2.2.2).bind fun t215 => (if t215 = 0 then (some ((bt197.1 == (up ((Go.bits .and .i64 a1 3) == 0 && (Go.bits .and .i64 a0 3) == 0) 9 (up ((Go.bits .and .i64 a0 3) == 0 && (Go.bits .and .i64 a1 3) == 0) (wrap64 (1 + (Go.bits .and .i64 a2 1023))) 0)) && (bt197.2.1 == (up ((Go.bits .and .i64 a1 3) == 0 && (Go.bits .and .i64 a0 3) == 1) 9 (up ((Go.bits .and .i64 a0 3) == 0 && (Go.bits .and .i64 a1 3) == 1) (wrap64 (1 + (Go.bits .and .i64 a2 1023))) 0)) && (bt197.2.2.1 == (up ((Go.bits .and .i64 a1 3) == 0 && (Go.bits .and .i64 a0 3) == 2) 9 (up ((Go.bits .and .i64 a0 3) == 0 && (Go.bits .and .i64 a1 3) == 2) (wrap64 (1 + (Go.bits .and .i64 a2 1023))) 0)) && (bt197.2.2.2.1 == (up ((Go.bits .and .i64 a1 3) == 0 && (Go.bits .and .i64 a0 3) == 3) 9 (up ((Go.bits .and .i64 a0 3) == 0 && (Go.bits .and .i64 a1 3) == 3) (wrap64 (1 + (Go.bits .and .i64 a2 1023))) 0)))))) && ((bt197.2.2.2.2.1 == (up ((Go.bits .and .i64 a1 3) == 1 && (Go.bits .and .i64 a0 3) == 0) 9 (up ((Go.bits .and .i64 a0 3) == 1 && (Go.bits .and .i64 a1 3) == 0) (wrap64 (1 + (Go.bits .and .i64 a2 1023))) 0)) && (bt197.2.2.2.2.2.1 == (up ((Go.bits .and .i64 a1 3) == 1 && (Go.bits .and .i64 a0 3) == 1) 9 (up ((Go.bits .and .i64 a0 3) == 1 && (Go.bits .and .i64 a1 3) == 1) (wrap64 (1 + (Go.bits .and .i64 a2 1023))) 0)) && (bt197.2.2.2.2.2.2.1 == (up ((Go.bits .and .i64 a1 3) == 1 && (Go.bits .and .i64 a0 3) == 2) 9 (up ((Go.bits .and .i64 a0 3) == 1 && (Go.bits .and .i64 a1 3) == 2) (wrap64 (1 + (Go.bits .and .i64 a2 1023))) 0)) && (bt197.2.2.2.2.2.2.2.1 == (up ((Go.bits .and .i64 a1 3) == 1 && (Go.bits .and .i64 a0 3) == 3) 9 (up ((Go.bits .and .i64 a0 3) == 1 && (Go.bits .and .i64 a1 3) == 3) (wrap64 (1 + (Go.bits .and .i64 a2 1023))) 0)))))) && ((bt197.2.2.2.2.2.2.2.2.1 == (up ((Go.bits .and .i64 a1 3) == 2 && (Go.bits .and .i64 a0 3) == 0) 9 (up ((Go.bits .and .i64 a0 3) == 2 && (Go.bits .and .i64 a1 3) == 0) (wrap64 (1 + (Go.bits .and .i64 a2 1023))) 0)) && (bt197.2.2.2.2.2.2.2.2.2.1 == (up ((Go.bits .and .i64 a1 3) == 2 && (Go.bits .and .i64 a0 3) == 1) 9 (up ((Go.bits .and .i64 a0 3) == 2 && (Go.bits .and .i64 a1 3) == 1) (wrap64 (1 + (Go.bits .and .i64 a2 1023))) 0)) && (bt197.2.2.2.2.2.2.2.2.2.2.1 == (up ((Go.bits .and .i64 a1 3) == 2 && (Go.bits .and .i64 a0 3) == 2) 9 (up ((Go.bits .and .i64 a0 3) == 2 && (Go.bits .and .i64 a1 3) == 2) (wrap64 (1 + (Go.bits .and .i64 a2 1023))) 0)) && (bt197.2.2.2.2.2.2.2.2.2.2.2.1 == (up ((Go.bits .and .i64 a1 3) == 2 && (Go.bits .and .i64 a0 3) == 3) 9 (up ((Go.bits .and .i64 a0 3) == 2 && (Go.bits .and .i64 a1 3) == 3) (wrap64 (1 + (Go.bits .and .i64 a2 1023))) 0)))))) && ((bt197.2.2.2.2.2.2.2.2.2.2.2.2.1 == (up ((Go.bits .and .i64 a1 3) == 3 && (Go.bits .and .i64 a0 3) == 0) 9 (up ((Go.bits .and .i64 a0 3) == 3 && (Go.bits .and .i64 a1 3) == 0) (wrap64 (1 + (Go.bits .and .i64 a2 1023))) 0)) && (bt197.2.2.2.2.2.2.2.2.2.2.2.2.2.1 == (up ((Go.bits .and .i64 a1 3) == 3 && (Go.bits .and .i64 a0 3) == 1) 9 (up ((Go.bits .and .i64 a0 3) == 3 && (Go.bits .and .i64 a1 3) == 1) (wrap64 (1 + (Go.bits .and .i64 a2 1023))) 0)) && (bt197.2.2.2.2.2.2.2.2.2.2.2.2.2.2.1 == (up ((Go.bits .and .i64 a1 3) == 3 && (Go.bits .and .i64 a0 3) == 2) 9 (up ((Go.bits .and .i64 a0 3) == 3 && (Go.bits .and .i64 a1 3) == 2) (wrap64 (1 + (Go.bits .and .i64 a2 1023))) 0)) && (bt197.2.2.2.2.2.2.2.2.2.2.2.2.2.2.2.1 == (up ((Go.bits .and .i64 a1 3) == 3 && (Go.bits .and .i64 a0 3) == 3) 9 (up ((Go.bits .and .i64 a0 3) == 3 && (Go.bits .and .i64 a1 3) == 3) (wrap64 (1 + (Go.bits .and .i64 a2 1023))) 0))))))))))) else (some false)))) else (none)) else (none)) else (none)) else (none)) else ((graph_Of.f kj8 y193).bind fun bt216 => ((watchwordlaw0_Num.f bt216.2.2.2.2.2.2.2.2.2.2.2.2.2.2.2.2).bind fun t234 => (if t234 = 0 then (some ((bt216.1 == 0 && (bt216.2.1 == 0 && (bt216.2.2.1 == 0 && (bt216.2.2.2.1 == 0)))) && ((bt216.2.2.2.2.1 == 0 && (bt216.2.2.2.2.2.1 == 0 && (bt216.2.2.2.2.2.2.1 == 0 && (bt216.2.2.2.2.2.2.2.1 == 0)))) && ((bt216.2.2.2.2.2.2.2.2.1 == 0 && (bt216.2.2.2.2.2.2.2.2.2.1 == 0 && (bt216.2.2.2.2.2.2.2.2.2.2.1 == 0 && (bt216.2.2.2.2.2.2.2.2.2.2.2.1 == 0)))) && ((bt216.2.2.2.2.2.2.2.2.2.2.2.2.1 == 0 && (bt216.2.2.2.2.2.2.2.2.2.2.2.2.2.1 == 0 && (bt216.2.2.2.2.2.2.2.2.2.2.2.2.2.2.1 == 0 && (bt216.2.2.2.2.2.2.2.2.2.2.2.2.2.2.2.1 == 0))))))))) else (some false))))) = some r := by first | (rw [hy193]; with_reducible exact H) | (have H2_ := (Option.bind_some _ _).symm.trans H; rw [hy193]; with_reducible exact H2_) | (have H2_ := (Option.bind_some _ _).symm.trans H; with_reducible exact H2_) | with_reducible exact H | (rw [hy193]; exact H) | exact H
      have Ny193 := Aside0.mk hy193
      clear hy193
      by_cases c29 : a3 = true
      ·exact absurd c29 hq1.out
      ·replace c29 := Bool.eq_false_iff.mpr c29
       subst c29
       have H1 : ((graph_Of.f kj8 y193).bind fun bt216 => ((watchwordlaw0_Num.f bt216.2.2.2.2.2.2.2.2.2.2.2.2.2.2.2.2).bind fun t234 => (if t234 = 0 then (some ((bt216.1 == 0 && (bt216.2.1 == 0 && (bt216.2.2.1 == 0 && (bt216.2.2.2.1 == 0)))) && ((bt216.2.2.2.2.1 == 0 && (bt216.2.2.2.2.2.1 == 0 && (bt216.2.2.2.2.2.2.1 == 0 && (bt216.2.2.2.2.2.2.2.1 == 0)))) && ((bt216.2.2.2.2.2.2.2.2.1 == 0 && (bt216.2.2.2.2.2.2.2.2.2.1 == 0 && (bt216.2.2.2.2.2.2.2.2.2.2.1 == 0 && (bt216.2.2.2.2.2.2.2.2.2.2.2.1 == 0)))) && ((bt216.2.2.2.2.2.2.2.2.2.2.2.2.1 == 0 && (bt216.2.2.2.2.2.2.2.2.2.2.2.2.2.1 == 0 && (bt216.2.2.2.2.2.2.2.2.2.2.2.2.2.2.1 == 0 && (bt216.2.2.2.2.2.2.2.2.2.2.2.2.2.2.2.1 == 0))))))))) else (some false)))) = some r := by rw [if_neg (show ¬ (false = true) by decide)] at H; exact H
       clear H
       have H := H1
       clear H1
       replace H := Option.bind_eq_some_iff.mp H
       obtain ⟨⟨t216, t217, t218, t219, t220, t221, t222, t223, t224, t225, t226, t227, t228, t229, t230, t231, t232⟩, A640, H⟩ := H
       replace H : ((watchwordlaw0_Num.f t232).bind fun t234 => (if t234 = 0 then (some ((t216 == 0 && (t217 == 0 && (t218 == 0 && (t219 == 0)))) && ((t220 == 0 && (t221 == 0 && (t222 == 0 && (t223 == 0)))) && ((t224 == 0 && (t225 == 0 && (t226 == 0 && (t227 == 0)))) && ((t228 == 0 && (t229 == 0 && (t230 == 0 && (t231 == 0))))))))) else (some false))) = some r := H
       have A64 := Aside0.mk A640
       clear A640
       replace H := Option.bind_eq_some_iff.mp H
       obtain ⟨t234, A650, H⟩ := H
       replace H : (if t234 = 0 then (some ((t216 == 0 && (t217 == 0 && (t218 == 0 && (t219 == 0)))) && ((t220 == 0 && (t221 == 0 && (t222 == 0 && (t223 == 0)))) && ((t224 == 0 && (t225 == 0 && (t226 == 0 && (t227 == 0)))) && ((t228 == 0 && (t229 == 0 && (t230 == 0 && (t231 == 0))))))))) else (some false)) = some r := H
       have A65 := Aside0.mk A650
       clear A650
       by_cases c66 : t234 = 0
       ·rw [if_pos c66] at H
        have c66b0 : (t234 == 0) = true := beq_iff_eq.mpr c66
        have c66b1 : (t234 != 0) = false := bne_eq_false_iff_eq.mpr c66
        clear c66
        focus
         obtain rfl := Option.some.inj H
         have hnb67 := NB189_188.out
         have hnc67 := NB188_189.out
         have hcz68_0 : wc.cell? ⟨gb189, 0, none⟩ = some (.int .i64 (wrap64 ((Go.bits .and .i64 a1 3) + 1))) := (blk_cell BK189.out 0).trans rfl
         have hcz68_1 : wc.cell? ⟨gb189, 1, none⟩ = some (.int .i64 1) := (blk_cell BK189.out 1).trans rfl
         have hcz68_2 : wc.cell? ⟨gb189, 2, none⟩ = some (.int .i64 0) := (blk_cell BK189.out 2).trans rfl
         have hcz68_3 : wc.cell? ⟨gb189, 3, none⟩ = some (u190003) := (blk_cell BK189.out 3).trans rfl
         have hfz68_0 := blk_frozen BK189.out 0
         have hfz68_1 := blk_frozen BK189.out 1
         have hfz68_2 := blk_frozen BK189.out 2
         have hfz68_3 := blk_frozen BK189.out 3
         have hcz69_0 : wc.cell? ⟨gb188, 0, none⟩ = some (.int .i64 (wrap64 ((Go.bits .and .i64 a0 3) + 1))) := (blk_cell BK188.out 0).trans rfl
         have hcz69_1 : wc.cell? ⟨gb188, 1, none⟩ = some (.int .i64 1) := (blk_cell BK188.out 1).trans rfl
         have hcz69_2 : wc.cell? ⟨gb188, 2, none⟩ = some (.int .i64 0) := (blk_cell BK188.out 2).trans rfl
         have hcz69_3 : wc.cell? ⟨gb188, 3, none⟩ = some (.slice Ao13 y185.length co13) := (blk_cell BK188.out 3).trans rfl
         have hfz69_0 := blk_frozen BK188.out 0
         have hfz69_1 := blk_frozen BK188.out 1
         have hfz69_2 := blk_frozen BK188.out 2
         have hfz69_3 := blk_frozen BK188.out 3
         obtain ⟨Ao70, co70, eo70⟩ := Kd.R_slice HO_190003.out
         subst eo70
         go_wp2_with (first | ((with_reducible refine gate_dst (N := 49) rfl ?_); refine lit_event_ ?hg (N := 49) ?hd (cs := #[.int .i64 (wrap64 ((Go.bits .and .i64 a0 3) + 1)), .int .i64 1, .int .i64 0, .slice Ao13 y185.length co13, .int .i64 (wrap64 ((Go.bits .and .i64 a1 3) + 1)), .int .i64 1, .int .i64 0, .slice Ao70 x190003_8.length co70]) (t := 57) (n := 2) ?hr ?_; (case hd => rfl); (case hg => rfl); (case hr => first | (go_simp; done) | (go_simp; rfl)); intro gb49 hg w49_ hbox hb; have n0_ := Aside0.mk (blk_below (g := gb188) (o := .cells #[.int .i64 (wrap64 ((Go.bits .and .i64 a0 3) + 1)), .int .i64 1, .int .i64 0, .slice Ao13 y185.length co13] 57 (0, 0)) (by (with_reducible repeat (first | refine blk_drewN ?_ _ | refine blk_drew ?_ | refine blk_alloc ?_ _)); exact BK188.out) hb); have n1_ := Aside0.mk (blk_below (g := gb189) (o := .cells #[.int .i64 (wrap64 ((Go.bits .and .i64 a1 3) + 1)), .int .i64 1, .int .i64 0, .slice Ao70 x190003_8.length co70] 57 (0, 0)) (by (with_reducible repeat (first | refine blk_drewN ?_ _ | refine blk_drew ?_ | refine blk_alloc ?_ _)); exact BK189.out) hb); have n2_ := Aside0.mk (below_step (by repeat (first | (with_reducible first | exact HB.out | apply below_alloc | apply pw_below_drewN | apply below_drew1 | refine below_set ?_ GE188.out | refine below_set ?_ GE189.out) | exact HB.out)) hb); have n3_ := Aside0.mk (Kd.R_below (by (with_reducible repeat (first | apply Kd.R_alloc | apply Kd.R_drewN | apply Kd.R_drew)); exact HO_189003.out) hb); have n4_ := Aside0.mk (Kd.R_below (by (with_reducible repeat (first | apply Kd.R_alloc | apply Kd.R_drewN | apply Kd.R_drew)); exact HO_190003.out) hb); clear BK188; clear BK189; clear HB; clear HO_189003; clear HO_190003; have BK188 := n0_; have BK189 := n1_; have HB := n2_; have HO_189003 := n3_; have HO_190003 := n4_; clear n0_ n1_ n2_ n3_ n4_; have hcy188_0 : w49_.cell? ⟨gb188, 0, none⟩ = some (.int .i64 (wrap64 ((Go.bits .and .i64 a0 3) + 1))) := (blk_cell BK188.out 0).trans rfl; have hfy188_0 := blk_frozen BK188.out 0; have hcy188_1 : w49_.cell? ⟨gb188, 1, none⟩ = some (.int .i64 1) := (blk_cell BK188.out 1).trans rfl; have hfy188_1 := blk_frozen BK188.out 1; have hcy188_2 : w49_.cell? ⟨gb188, 2, none⟩ = some (.int .i64 0) := (blk_cell BK188.out 2).trans rfl; have hfy188_2 := blk_frozen BK188.out 2; have hcy188_3 : w49_.cell? ⟨gb188, 3, none⟩ = some (.slice Ao13 y185.length co13) := (blk_cell BK188.out 3).trans rfl; have hfy188_3 := blk_frozen BK188.out 3; have hcy189_0 : w49_.cell? ⟨gb189, 0, none⟩ = some (.int .i64 (wrap64 ((Go.bits .and .i64 a1 3) + 1))) := (blk_cell BK189.out 0).trans rfl; have hfy189_0 := blk_frozen BK189.out 0; have hcy189_1 : w49_.cell? ⟨gb189, 1, none⟩ = some (.int .i64 1) := (blk_cell BK189.out 1).trans rfl; have hfy189_1 := blk_frozen BK189.out 1; have hcy189_2 : w49_.cell? ⟨gb189, 2, none⟩ = some (.int .i64 0) := (blk_cell BK189.out 2).trans rfl; have hfy189_2 := blk_frozen BK189.out 2; have hcy189_3 : w49_.cell? ⟨gb189, 3, none⟩ = some (.slice Ao70 x190003_8.length co70) := (blk_cell BK189.out 3).trans rfl; have hfy189_3 := blk_frozen BK189.out 3; clear hbox hb hg) | ((with_reducible refine gate_dst (N := 55) rfl ?_); refine Kd.N_lit k57 _ 57 ?hg (N' := 55) ?hd (xs := ([(⟨(wrap64 ((Go.bits .and .i64 a1 3) + 1)), 1, 0, x190003_8⟩ : S57), (⟨(wrap64 ((Go.bits .and .i64 a0 3) + 1)), 1, 0, y185⟩ : S57)] : List (S57))) (inner := [.int .i64 (wrap64 ((Go.bits .and .i64 a1 3) + 1)), .int .i64 1, .int .i64 0, .slice Ao70 x190003_8.length co70, .int .i64 (wrap64 ((Go.bits .and .i64 a0 3) + 1)), .int .i64 1, .int .i64 0, .slice Ao13 y185.length co13]) (ok := (fun k_ => k_ ≠ gb188 ∧ k_ ≠ gb189)) (okp := (fun k_ => k_ ≠ gb188 ∧ k_ ≠ gb189)) ?hr ?hp (fun _ hk => hk) ((show ∀ k_, w49_.heap.size ≤ k_ → (fun k_ => k_ ≠ gb188 ∧ k_ ≠ gb189) k_ from fun k_ hk => ⟨Kd.freshB (g := gb188) (o := .cells #[.int .i64 (wrap64 ((Go.bits .and .i64 a0 3) + 1)), .int .i64 1, .int .i64 0, .slice Ao13 y185.length co13] 57 (0, 0)) (by (with_reducible repeat (first | refine blk_drewN ?_ _ | refine blk_drew ?_ | refine blk_alloc ?_ _)); exact BK188.out) k_ hk, Kd.freshB (g := gb189) (o := .cells #[.int .i64 (wrap64 ((Go.bits .and .i64 a1 3) + 1)), .int .i64 1, .int .i64 0, .slice Ao70 x190003_8.length co70] 57 (0, 0)) (by (with_reducible repeat (first | refine blk_drewN ?_ _ | refine blk_drew ?_ | refine blk_alloc ?_ _)); exact BK189.out) k_ hk⟩) _ (Nat.le_refl _)) (Below.refl _ _) (Nat.le_refl _) (by simp) ?_; (case hd => rfl); (case hg => rfl); (case hr => first | (go_simp; done) | (go_simp; rfl)); (case hp => exact (Reps.c4 (show Kd.FK k57 _ _ (⟨(wrap64 ((Go.bits .and .i64 a1 3) + 1)), 1, 0, x190003_8⟩ : S57) [.int .i64 (wrap64 ((Go.bits .and .i64 a1 3) + 1)), .int .i64 1, .int .i64 0, .slice Ao70 x190003_8.length co70] from (k57_mkF _ _ (⟨(wrap64 ((Go.bits .and .i64 a1 3) + 1)), 1, 0, x190003_8⟩ : S57) (Kd.R_reads' (Kd.R_mono (ok' := (fun k_ => k_ ≠ gb188 ∧ k_ ≠ gb189)) (Kd.R_types (Kd.R_types (HO_190003.out) BK188.out (by decide)) BK189.out (by decide)) (fun k_ hk => ⟨hk.1.2, hk.2⟩))).2.1 (Kd.R_F (Kd.R_mono (ok' := (fun k_ => k_ ≠ gb188 ∧ k_ ≠ gb189)) (Kd.R_types (Kd.R_types (HO_190003.out) BK188.out (by decide)) BK189.out (by decide)) (fun k_ hk => ⟨hk.1.2, hk.2⟩))))) (Reps.c4 (show Kd.FK k57 _ _ (⟨(wrap64 ((Go.bits .and .i64 a0 3) + 1)), 1, 0, y185⟩ : S57) [.int .i64 (wrap64 ((Go.bits .and .i64 a0 3) + 1)), .int .i64 1, .int .i64 0, .slice Ao13 y185.length co13] from (k57_mkF _ _ (⟨(wrap64 ((Go.bits .and .i64 a0 3) + 1)), 1, 0, y185⟩ : S57) (Kd.R_reads' (Kd.R_mono (ok' := (fun k_ => k_ ≠ gb188 ∧ k_ ≠ gb189)) (Kd.R_types (Kd.R_types (HO_189003.out) BK188.out (by decide)) BK189.out (by decide)) (fun k_ hk => ⟨hk.1.2, hk.2⟩))).2.1 (Kd.R_F (Kd.R_mono (ok' := (fun k_ => k_ ≠ gb188 ∧ k_ ≠ gb189)) (Kd.R_types (Kd.R_types (HO_189003.out) BK188.out (by decide)) BK189.out (by decide)) (fun k_ hk => ⟨hk.1.2, hk.2⟩))))) (Reps.none _ _)))); intro v194 w71 ho72 hb hg_ hnew_; clear hg_ hnew_; (first | rw [← Ny193.out] at ho72 | (simp only [Int.reduceToNat] at ho72; rw [← Ny193.out] at ho72)); have n0_ := Aside0.mk (Kd.N_lower ho72 (below_size (by repeat (first | (with_reducible first | exact HB.out | apply below_alloc | apply pw_below_drewN | apply below_drew1 | refine below_set ?_ GE188.out | refine below_set ?_ GE189.out) | exact HB.out)))); have n1_ := Aside0.mk (blk_below (g := gb188) (o := .cells #[.int .i64 (wrap64 ((Go.bits .and .i64 a0 3) + 1)), .int .i64 1, .int .i64 0, .slice Ao13 y185.length co13] 57 (0, 0)) (by (with_reducible repeat (first | refine blk_drewN ?_ _ | refine blk_drew ?_ | refine blk_alloc ?_ _)); exact BK188.out) hb); have n2_ := Aside0.mk (blk_below (g := gb189) (o := .cells #[.int .i64 (wrap64 ((Go.bits .and .i64 a1 3) + 1)), .int .i64 1, .int .i64 0, .slice Ao70 x190003_8.length co70] 57 (0, 0)) (by (with_reducible repeat (first | refine blk_drewN ?_ _ | refine blk_drew ?_ | refine blk_alloc ?_ _)); exact BK189.out) hb); have n3_ := Aside0.mk (below_step (by repeat (first | (with_reducible first | exact HB.out | apply below_alloc | apply pw_below_drewN | apply below_drew1 | refine below_set ?_ GE188.out | refine below_set ?_ GE189.out) | exact HB.out)) hb); clear BK188; clear BK189; clear HB; clear HO_189003; clear HO_190003; have HO195 := n0_; have BK188 := n1_; have BK189 := n2_; have HB := n3_; clear n0_ n1_ n2_ n3_; clear hb ho72) | ((with_reducible refine gate_dst (N := 15) rfl ?_); refine box_event ?hg (N := 15) ?hd (cs := #[.int .i64 0, .int .i64 0, .int .i64 0, .int .i64 0, .int .i64 0, .int .i64 0, .int .i64 0, .int .i64 0, .int .i64 0, .int .i64 0, .int .i64 0, .int .i64 0, .int .i64 0, .int .i64 0, .int .i64 0, .int .i64 0]) (t := 23) ?hr ?_; (case hd => rfl); (case hg => rfl); (case hr => first | (go_simp; done) | (go_simp; rfl)); intro gb196 hg w73 hbox hb; have n0_ := Aside0.mk (Kd.N_below (Kd.N_elderB (by (with_reducible repeat (first | apply Kd.N_alloc | apply Kd.N_drewN | apply Kd.N_drew)); exact HO195.out) gb196 (Nat.le_of_eq hg.symm)) hb); have n1_ := Aside0.mk (blk_below (g := gb188) (o := .cells #[.int .i64 (wrap64 ((Go.bits .and .i64 a0 3) + 1)), .int .i64 1, .int .i64 0, .slice Ao13 y185.length co13] 57 (0, 0)) (by (with_reducible repeat (first | refine blk_drewN ?_ _ | refine blk_drew ?_ | refine blk_alloc ?_ _)); exact BK188.out) hb); have n2_ := Aside0.mk (blk_below (g := gb189) (o := .cells #[.int .i64 (wrap64 ((Go.bits .and .i64 a1 3) + 1)), .int .i64 1, .int .i64 0, .slice Ao70 x190003_8.length co70] 57 (0, 0)) (by (with_reducible repeat (first | refine blk_drewN ?_ _ | refine blk_drew ?_ | refine blk_alloc ?_ _)); exact BK189.out) hb); have n3_ := Aside0.mk (below_step (by repeat (first | (with_reducible first | exact HB.out | apply below_alloc | apply pw_below_drewN | apply below_drew1 | refine below_set ?_ GE188.out | refine below_set ?_ GE189.out) | exact HB.out)) hb); have n4_ := Aside0.mk (hbox); have n5_ := Aside0.mk ((by rw [hg]; exact (below_size (by repeat (first | (with_reducible first | exact HB.out | apply below_alloc | apply pw_below_drewN | apply below_drew1 | refine below_set ?_ GE188.out | refine below_set ?_ GE189.out) | exact HB.out))) : w.heap.size ≤ gb196)); have n6_ := Aside0.mk ((by rw [hg]; exact (below_size (by repeat (first | (with_reducible first | exact HB.out | apply below_alloc | apply pw_below_drewN | apply below_drew1 | refine below_set ?_ GE188.out | refine below_set ?_ GE189.out) | exact HB.out))) : w.heap.size ≤ gb196)); have n7_ := Aside0.mk ((by rw [hg]; exact Nat.ne_of_lt (blk_lt (g := gb188) (o := .cells #[.int .i64 (wrap64 ((Go.bits .and .i64 a0 3) + 1)), .int .i64 1, .int .i64 0, .slice Ao13 y185.length co13] 57 (0, 0)) (by (with_reducible repeat (first | refine blk_drewN ?_ _ | refine blk_drew ?_ | refine blk_alloc ?_ _)); exact BK188.out)) : gb188 ≠ gb196)); have n8_ := Aside0.mk ((by rw [hg]; exact Nat.ne_of_gt (blk_lt (g := gb188) (o := .cells #[.int .i64 (wrap64 ((Go.bits .and .i64 a0 3) + 1)), .int .i64 1, .int .i64 0, .slice Ao13 y185.length co13] 57 (0, 0)) (by (with_reducible repeat (first | refine blk_drewN ?_ _ | refine blk_drew ?_ | refine blk_alloc ?_ _)); exact BK188.out)) : gb196 ≠ gb188)); have n9_ := Aside0.mk ((by rw [hg]; exact Nat.ne_of_lt (blk_lt (g := gb189) (o := .cells #[.int .i64 (wrap64 ((Go.bits .and .i64 a1 3) + 1)), .int .i64 1, .int .i64 0, .slice Ao70 x190003_8.length co70] 57 (0, 0)) (by (with_reducible repeat (first | refine blk_drewN ?_ _ | refine blk_drew ?_ | refine blk_alloc ?_ _)); exact BK189.out)) : gb189 ≠ gb196)); have n10_ := Aside0.mk ((by rw [hg]; exact Nat.ne_of_gt (blk_lt (g := gb189) (o := .cells #[.int .i64 (wrap64 ((Go.bits .and .i64 a1 3) + 1)), .int .i64 1, .int .i64 0, .slice Ao70 x190003_8.length co70] 57 (0, 0)) (by (with_reducible repeat (first | refine blk_drewN ?_ _ | refine blk_drew ?_ | refine blk_alloc ?_ _)); exact BK189.out)) : gb196 ≠ gb189)); clear HO195; clear BK188; clear BK189; clear HB; have HO195 := n0_; have BK188 := n1_; have BK189 := n2_; have HB := n3_; have BK196 := n4_; have GW196 := n5_; have GE196 := n6_; have NB188_196 := n7_; have NB196_188 := n8_; have NB189_196 := n9_; have NB196_189 := n10_; clear n0_ n1_ n2_ n3_ n4_ n5_ n6_ n7_ n8_ n9_ n10_; clear hb hbox hg; obtain ⟨Ao74, co74, eo74⟩ := Kd.N_slice HO195.out; subst eo74) | ((with_reducible refine gate_callee (f := 21) rfl ?_); refine goesL_ (some 68) rfl rfl Try.func21 (by kernel_rfl) rfl #[.slice Ao74 y193.length co74] rfl (by (try simp only [List.map_toArray, List.map_cons, List.map_nil]); first | done | rfl | (simp only [List.length_drop, List.length_take]; rfl)) ?_; (with_reducible refine (graph_Of.calls kj8 _ _ y193 t216 t217 t218 t219 t220 t221 t222 t223 t224 t225 t226 t227 t228 t229 t230 t231 t232 _ ?side1 ?side2 A64.out).mono ?_); (case side1 => repeat (first | exact (Kd.N_reads' HO195.out).2.2 | (with_reducible refine Kd.C_alloc ?_ _) | (with_reducible refine Kd.C_drewN ?_ _) | (with_reducible refine Kd.C_drew ?_))); (case side2 => exact (Kd.N_reads' HO195.out).2.1); rintro e w75 ⟨rfl, hb⟩; refine ⟨_, rfl, ?_⟩; have n0_ := Aside0.mk (Kd.N_below (by (with_reducible repeat (first | apply Kd.N_alloc | apply Kd.N_drewN | apply Kd.N_drew)); exact HO195.out) hb); have n1_ := Aside0.mk (blk_below (g := gb188) (o := .cells #[.int .i64 (wrap64 ((Go.bits .and .i64 a0 3) + 1)), .int .i64 1, .int .i64 0, .slice Ao13 y185.length co13] 57 (0, 0)) (by (with_reducible repeat (first | refine blk_drewN ?_ _ | refine blk_drew ?_ | refine blk_alloc ?_ _)); exact BK188.out) hb); have n2_ := Aside0.mk (blk_below (g := gb189) (o := .cells #[.int .i64 (wrap64 ((Go.bits .and .i64 a1 3) + 1)), .int .i64 1, .int .i64 0, .slice Ao70 x190003_8.length co70] 57 (0, 0)) (by (with_reducible repeat (first | refine blk_drewN ?_ _ | refine blk_drew ?_ | refine blk_alloc ?_ _)); exact BK189.out) hb); have n3_ := Aside0.mk (blk_below (g := gb196) (o := .cells #[.int .i64 0, .int .i64 0, .int .i64 0, .int .i64 0, .int .i64 0, .int .i64 0, .int .i64 0, .int .i64 0, .int .i64 0, .int .i64 0, .int .i64 0, .int .i64 0, .int .i64 0, .int .i64 0, .int .i64 0, .int .i64 0] 23 (0, 0)) (by (with_reducible repeat (first | refine blk_drewN ?_ _ | refine blk_drew ?_ | refine blk_alloc ?_ _)); exact BK196.out) hb); have n4_ := Aside0.mk (below_step (by repeat (first | (with_reducible first | exact HB.out | apply below_alloc | apply pw_below_drewN | apply below_drew1 | refine below_set ?_ GE188.out | refine below_set ?_ GE189.out | refine below_set ?_ GE196.out) | exact HB.out)) hb); clear HO195; clear BK188; clear BK189; clear BK196; clear HB; have HO195 := n0_; have BK188 := n1_; have BK189 := n2_; have BK196 := n3_; have HB := n4_; clear n0_ n1_ n2_ n3_ n4_; (try clear hb); (try clear hb2); (try clear hk); (try clear hi)) | ((with_reducible refine gate_dst (N := 16) rfl ?_); refine box_event ?hg (N := 16) ?hd (cs := #[.int .i64 0, .int .i64 0, .int .i64 0, .int .i64 0, .int .i64 0, .int .i64 0, .int .i64 0, .int .i64 0, .int .i64 0, .int .i64 0, .int .i64 0, .int .i64 0, .int .i64 0, .int .i64 0, .int .i64 0, .int .i64 0]) (t := 23) ?hr ?_; (case hd => rfl); (case hg => rfl); (case hr => first | (go_simp; done) | (go_simp; rfl)); intro gb233 hg w76 hbox hb; have n0_ := Aside0.mk (Kd.N_below (Kd.N_elderB (by (with_reducible repeat (first | apply Kd.N_alloc | apply Kd.N_drewN | apply Kd.N_drew)); exact HO195.out) gb233 (Nat.le_of_eq hg.symm)) hb); have n1_ := Aside0.mk (blk_below (g := gb188) (o := .cells #[.int .i64 (wrap64 ((Go.bits .and .i64 a0 3) + 1)), .int .i64 1, .int .i64 0, .slice Ao13 y185.length co13] 57 (0, 0)) (by (with_reducible repeat (first | refine blk_drewN ?_ _ | refine blk_drew ?_ | refine blk_alloc ?_ _)); exact BK188.out) hb); have n2_ := Aside0.mk (blk_below (g := gb189) (o := .cells #[.int .i64 (wrap64 ((Go.bits .and .i64 a1 3) + 1)), .int .i64 1, .int .i64 0, .slice Ao70 x190003_8.length co70] 57 (0, 0)) (by (with_reducible repeat (first | refine blk_drewN ?_ _ | refine blk_drew ?_ | refine blk_alloc ?_ _)); exact BK189.out) hb); have n3_ := Aside0.mk (blk_below (g := gb196) (o := .cells #[.int .i64 0, .int .i64 0, .int .i64 0, .int .i64 0, .int .i64 0, .int .i64 0, .int .i64 0, .int .i64 0, .int .i64 0, .int .i64 0, .int .i64 0, .int .i64 0, .int .i64 0, .int .i64 0, .int .i64 0, .int .i64 0] 23 (0, 0)) (by (with_reducible repeat (first | refine blk_drewN ?_ _ | refine blk_drew ?_ | refine blk_alloc ?_ _)); exact BK196.out) hb); have n4_ := Aside0.mk (below_step (by repeat (first | (with_reducible first | exact HB.out | apply below_alloc | apply pw_below_drewN | apply below_drew1 | refine below_set ?_ GE188.out | refine below_set ?_ GE189.out | refine below_set ?_ GE196.out) | exact HB.out)) hb); have n5_ := Aside0.mk (hbox); have n6_ := Aside0.mk ((by rw [hg]; exact (below_size (by repeat (first | (with_reducible first | exact HB.out | apply below_alloc | apply pw_below_drewN | apply below_drew1 | refine below_set ?_ GE188.out | refine below_set ?_ GE189.out | refine below_set ?_ GE196.out) | exact HB.out))) : w.heap.size ≤ gb233)); have n7_ := Aside0.mk ((by rw [hg]; exact (below_size (by repeat (first | (with_reducible first | exact HB.out | apply below_alloc | apply pw_below_drewN | apply below_drew1 | refine below_set ?_ GE188.out | refine below_set ?_ GE189.out | refine below_set ?_ GE196.out) | exact HB.out))) : w.heap.size ≤ gb233)); have n8_ := Aside0.mk ((by rw [hg]; exact Nat.ne_of_lt (blk_lt (g := gb188) (o := .cells #[.int .i64 (wrap64 ((Go.bits .and .i64 a0 3) + 1)), .int .i64 1, .int .i64 0, .slice Ao13 y185.length co13] 57 (0, 0)) (by (with_reducible repeat (first | refine blk_drewN ?_ _ | refine blk_drew ?_ | refine blk_alloc ?_ _)); exact BK188.out)) : gb188 ≠ gb233)); have n9_ := Aside0.mk ((by rw [hg]; exact Nat.ne_of_gt (blk_lt (g := gb188) (o := .cells #[.int .i64 (wrap64 ((Go.bits .and .i64 a0 3) + 1)), .int .i64 1, .int .i64 0, .slice Ao13 y185.length co13] 57 (0, 0)) (by (with_reducible repeat (first | refine blk_drewN ?_ _ | refine blk_drew ?_ | refine blk_alloc ?_ _)); exact BK188.out)) : gb233 ≠ gb188)); have n10_ := Aside0.mk ((by rw [hg]; exact Nat.ne_of_lt (blk_lt (g := gb189) (o := .cells #[.int .i64 (wrap64 ((Go.bits .and .i64 a1 3) + 1)), .int .i64 1, .int .i64 0, .slice Ao70 x190003_8.length co70] 57 (0, 0)) (by (with_reducible repeat (first | refine blk_drewN ?_ _ | refine blk_drew ?_ | refine blk_alloc ?_ _)); exact BK189.out)) : gb189 ≠ gb233)); have n11_ := Aside0.mk ((by rw [hg]; exact Nat.ne_of_gt (blk_lt (g := gb189) (o := .cells #[.int .i64 (wrap64 ((Go.bits .and .i64 a1 3) + 1)), .int .i64 1, .int .i64 0, .slice Ao70 x190003_8.length co70] 57 (0, 0)) (by (with_reducible repeat (first | refine blk_drewN ?_ _ | refine blk_drew ?_ | refine blk_alloc ?_ _)); exact BK189.out)) : gb233 ≠ gb189)); have n12_ := Aside0.mk ((by rw [hg]; exact Nat.ne_of_lt (blk_lt (g := gb196) (o := .cells #[.int .i64 0, .int .i64 0, .int .i64 0, .int .i64 0, .int .i64 0, .int .i64 0, .int .i64 0, .int .i64 0, .int .i64 0, .int .i64 0, .int .i64 0, .int .i64 0, .int .i64 0, .int .i64 0, .int .i64 0, .int .i64 0] 23 (0, 0)) (by (with_reducible repeat (first | refine blk_drewN ?_ _ | refine blk_drew ?_ | refine blk_alloc ?_ _)); exact BK196.out)) : gb196 ≠ gb233)); have n13_ := Aside0.mk ((by rw [hg]; exact Nat.ne_of_gt (blk_lt (g := gb196) (o := .cells #[.int .i64 0, .int .i64 0, .int .i64 0, .int .i64 0, .int .i64 0, .int .i64 0, .int .i64 0, .int .i64 0, .int .i64 0, .int .i64 0, .int .i64 0, .int .i64 0, .int .i64 0, .int .i64 0, .int .i64 0, .int .i64 0] 23 (0, 0)) (by (with_reducible repeat (first | refine blk_drewN ?_ _ | refine blk_drew ?_ | refine blk_alloc ?_ _)); exact BK196.out)) : gb233 ≠ gb196)); clear HO195; clear BK188; clear BK189; clear BK196; clear HB; have HO195 := n0_; have BK188 := n1_; have BK189 := n2_; have BK196 := n3_; have HB := n4_; have BK233 := n5_; have GW233 := n6_; have GE233 := n7_; have NB188_233 := n8_; have NB233_188 := n9_; have NB189_233 := n10_; have NB233_189 := n11_; have NB196_233 := n12_; have NB233_196 := n13_; clear n0_ n1_ n2_ n3_ n4_ n5_ n6_ n7_ n8_ n9_ n10_ n11_ n12_ n13_; clear hb hbox hg; have hnb77 := NB233_188.out; have hnc77 := NB188_233.out; have hnb78 := NB233_189.out; have hnc78 := NB189_233.out; have hnb79 := NB233_196.out; have hnc79 := NB196_233.out; have hcz80_0 : w76.cell? ⟨gb233, 0, none⟩ = some (.int .i64 0) := (blk_cell BK233.out 0).trans rfl; have hcz80_1 : w76.cell? ⟨gb233, 1, none⟩ = some (.int .i64 0) := (blk_cell BK233.out 1).trans rfl; have hcz80_2 : w76.cell? ⟨gb233, 2, none⟩ = some (.int .i64 0) := (blk_cell BK233.out 2).trans rfl; have hcz80_3 : w76.cell? ⟨gb233, 3, none⟩ = some (.int .i64 0) := (blk_cell BK233.out 3).trans rfl; have hcz80_4 : w76.cell? ⟨gb233, 4, none⟩ = some (.int .i64 0) := (blk_cell BK233.out 4).trans rfl; have hcz80_5 : w76.cell? ⟨gb233, 5, none⟩ = some (.int .i64 0) := (blk_cell BK233.out 5).trans rfl; have hcz80_6 : w76.cell? ⟨gb233, 6, none⟩ = some (.int .i64 0) := (blk_cell BK233.out 6).trans rfl; have hcz80_7 : w76.cell? ⟨gb233, 7, none⟩ = some (.int .i64 0) := (blk_cell BK233.out 7).trans rfl; have hcz80_8 : w76.cell? ⟨gb233, 8, none⟩ = some (.int .i64 0) := (blk_cell BK233.out 8).trans rfl; have hcz80_9 : w76.cell? ⟨gb233, 9, none⟩ = some (.int .i64 0) := (blk_cell BK233.out 9).trans rfl; have hcz80_10 : w76.cell? ⟨gb233, 10, none⟩ = some (.int .i64 0) := (blk_cell BK233.out 10).trans rfl; have hcz80_11 : w76.cell? ⟨gb233, 11, none⟩ = some (.int .i64 0) := (blk_cell BK233.out 11).trans rfl; have hcz80_12 : w76.cell? ⟨gb233, 12, none⟩ = some (.int .i64 0) := (blk_cell BK233.out 12).trans rfl; have hcz80_13 : w76.cell? ⟨gb233, 13, none⟩ = some (.int .i64 0) := (blk_cell BK233.out 13).trans rfl; have hcz80_14 : w76.cell? ⟨gb233, 14, none⟩ = some (.int .i64 0) := (blk_cell BK233.out 14).trans rfl; have hcz80_15 : w76.cell? ⟨gb233, 15, none⟩ = some (.int .i64 0) := (blk_cell BK233.out 15).trans rfl; have hfz80_0 := blk_frozen BK233.out 0; have hfz80_1 := blk_frozen BK233.out 1; have hfz80_2 := blk_frozen BK233.out 2; have hfz80_3 := blk_frozen BK233.out 3; have hfz80_4 := blk_frozen BK233.out 4; have hfz80_5 := blk_frozen BK233.out 5; have hfz80_6 := blk_frozen BK233.out 6; have hfz80_7 := blk_frozen BK233.out 7; have hfz80_8 := blk_frozen BK233.out 8; have hfz80_9 := blk_frozen BK233.out 9; have hfz80_10 := blk_frozen BK233.out 10; have hfz80_11 := blk_frozen BK233.out 11; have hfz80_12 := blk_frozen BK233.out 12; have hfz80_13 := blk_frozen BK233.out 13; have hfz80_14 := blk_frozen BK233.out 14; have hfz80_15 := blk_frozen BK233.out 15) | ((with_reducible refine gate_store (t := 23) (p := 16) rfl ?_); refine store_event (t := 23) (p := 16) (v := ?vo_w81) (w1 := ((((((((((((((((w76.setCell ⟨gb233, 0, none⟩ (.int .i64 t216)).setCell ⟨gb233, 1, none⟩ (.int .i64 t217)).setCell ⟨gb233, 2, none⟩ (.int .i64 t218)).setCell ⟨gb233, 3, none⟩ (.int .i64 t219)).setCell ⟨gb233, 4, none⟩ (.int .i64 t220)).setCell ⟨gb233, 5, none⟩ (.int .i64 t221)).setCell ⟨gb233, 6, none⟩ (.int .i64 t222)).setCell ⟨gb233, 7, none⟩ (.int .i64 t223)).setCell ⟨gb233, 8, none⟩ (.int .i64 t224)).setCell ⟨gb233, 9, none⟩ (.int .i64 t225)).setCell ⟨gb233, 10, none⟩ (.int .i64 t226)).setCell ⟨gb233, 11, none⟩ (.int .i64 t227)).setCell ⟨gb233, 12, none⟩ (.int .i64 t228)).setCell ⟨gb233, 13, none⟩ (.int .i64 t229)).setCell ⟨gb233, 14, none⟩ (.int .i64 t230)).setCell ⟨gb233, 15, none⟩ (.int .i64 t231))) ?hg ?ho ?hn ?hr ?_; (case ho => rfl); (case hg => rfl); (case hn => rfl); (case hr => first | (go_simp; done) | (go_simp; rfl)); intro w81 hw; have n0_ : Aside0 (Kd.N k57 57 w81 w.heap.size (fun k_ => k_ ≠ gb188 ∧ k_ ≠ gb189 ∧ k_ ≠ gb196 ∧ k_ ≠ gb233) (.slice Ao74 y193.length co74) y193) := ⟨(by rw [hw]; exact (by (with_reducible repeat (first | apply Kd.N_alloc | apply Kd.N_drewN | apply Kd.N_drew)); exact Kd.N_mono (Kd.N_far (p := ⟨gb233, 15, none⟩) (Kd.N_far (p := ⟨gb233, 14, none⟩) (Kd.N_far (p := ⟨gb233, 13, none⟩) (Kd.N_far (p := ⟨gb233, 12, none⟩) (Kd.N_far (p := ⟨gb233, 11, none⟩) (Kd.N_far (p := ⟨gb233, 10, none⟩) (Kd.N_far (p := ⟨gb233, 9, none⟩) (Kd.N_far (p := ⟨gb233, 8, none⟩) (Kd.N_far (p := ⟨gb233, 7, none⟩) (Kd.N_far (p := ⟨gb233, 6, none⟩) (Kd.N_far (p := ⟨gb233, 5, none⟩) (Kd.N_far (p := ⟨gb233, 4, none⟩) (Kd.N_far (p := ⟨gb233, 3, none⟩) (Kd.N_far (p := ⟨gb233, 2, none⟩) (Kd.N_far (p := ⟨gb233, 1, none⟩) (Kd.N_far (p := ⟨gb233, 0, none⟩) (Kd.N_mono HO195.out (fun k_ hk => (⟨hk, hk.2⟩ : _ ∧ k_ ≠ gb233))) (fun _ hk => hk.2) (.int .i64 t216)) (fun _ hk => hk.2) (.int .i64 t217)) (fun _ hk => hk.2) (.int .i64 t218)) (fun _ hk => hk.2) (.int .i64 t219)) (fun _ hk => hk.2) (.int .i64 t220)) (fun _ hk => hk.2) (.int .i64 t221)) (fun _ hk => hk.2) (.int .i64 t222)) (fun _ hk => hk.2) (.int .i64 t223)) (fun _ hk => hk.2) (.int .i64 t224)) (fun _ hk => hk.2) (.int .i64 t225)) (fun _ hk => hk.2) (.int .i64 t226)) (fun _ hk => hk.2) (.int .i64 t227)) (fun _ hk => hk.2) (.int .i64 t228)) (fun _ hk => hk.2) (.int .i64 t229)) (fun _ hk => hk.2) (.int .i64 t230)) (fun _ hk => hk.2) (.int .i64 t231)) (fun _ hk => ⟨hk.1.1.1.1, ⟨hk.1.1.1.2, ⟨hk.1.1.2, hk.1.2⟩⟩⟩)))⟩; have n1_ : Aside0 (w81.heap[gb188]? = some (.cells #[.int .i64 (wrap64 ((Go.bits .and .i64 a0 3) + 1)), .int .i64 1, .int .i64 0, .slice Ao13 y185.length co13] 57 (0, 0))) := ⟨(by rw [hw]; exact (by (with_reducible repeat (first | refine blk_drewN ?_ _ | refine blk_drew ?_ | refine blk_alloc ?_ _)); refine blk_far ?_ NB188_233.out _; (with_reducible repeat (first | refine blk_drewN ?_ _ | refine blk_drew ?_ | refine blk_alloc ?_ _)); refine blk_far ?_ NB188_233.out _; (with_reducible repeat (first | refine blk_drewN ?_ _ | refine blk_drew ?_ | refine blk_alloc ?_ _)); refine blk_far ?_ NB188_233.out _; (with_reducible repeat (first | refine blk_drewN ?_ _ | refine blk_drew ?_ | refine blk_alloc ?_ _)); refine blk_far ?_ NB188_233.out _; (with_reducible repeat (first | refine blk_drewN ?_ _ | refine blk_drew ?_ | refine blk_alloc ?_ _)); refine blk_far ?_ NB188_233.out _; (with_reducible repeat (first | refine blk_drewN ?_ _ | refine blk_drew ?_ | refine blk_alloc ?_ _)); refine blk_far ?_ NB188_233.out _; (with_reducible repeat (first | refine blk_drewN ?_ _ | refine blk_drew ?_ | refine blk_alloc ?_ _)); refine blk_far ?_ NB188_233.out _; (with_reducible repeat (first | refine blk_drewN ?_ _ | refine blk_drew ?_ | refine blk_alloc ?_ _)); refine blk_far ?_ NB188_233.out _; (with_reducible repeat (first | refine blk_drewN ?_ _ | refine blk_drew ?_ | refine blk_alloc ?_ _)); refine blk_far ?_ NB188_233.out _; (with_reducible repeat (first | refine blk_drewN ?_ _ | refine blk_drew ?_ | refine blk_alloc ?_ _)); refine blk_far ?_ NB188_233.out _; (with_reducible repeat (first | refine blk_drewN ?_ _ | refine blk_drew ?_ | refine blk_alloc ?_ _)); refine blk_far ?_ NB188_233.out _; (with_reducible repeat (first | refine blk_drewN ?_ _ | refine blk_drew ?_ | refine blk_alloc ?_ _)); refine blk_far ?_ NB188_233.out _; (with_reducible repeat (first | refine blk_drewN ?_ _ | refine blk_drew ?_ | refine blk_alloc ?_ _)); refine blk_far ?_ NB188_233.out _; (with_reducible repeat (first | refine blk_drewN ?_ _ | refine blk_drew ?_ | refine blk_alloc ?_ _)); refine blk_far ?_ NB188_233.out _; (with_reducible repeat (first | refine blk_drewN ?_ _ | refine blk_drew ?_ | refine blk_alloc ?_ _)); refine blk_far ?_ NB188_233.out _; (with_reducible repeat (first | refine blk_drewN ?_ _ | refine blk_drew ?_ | refine blk_alloc ?_ _)); refine blk_far ?_ NB188_233.out _; (with_reducible repeat (first | refine blk_drewN ?_ _ | refine blk_drew ?_ | refine blk_alloc ?_ _)); exact BK188.out))⟩; have n2_ : Aside0 (w81.heap[gb189]? = some (.cells #[.int .i64 (wrap64 ((Go.bits .and .i64 a1 3) + 1)), .int .i64 1, .int .i64 0, .slice Ao70 x190003_8.length co70] 57 (0, 0))) := ⟨(by rw [hw]; exact (by (with_reducible repeat (first | refine blk_drewN ?_ _ | refine blk_drew ?_ | refine blk_alloc ?_ _)); refine blk_far ?_ NB189_233.out _; (with_reducible repeat (first | refine blk_drewN ?_ _ | refine blk_drew ?_ | refine blk_alloc ?_ _)); refine blk_far ?_ NB189_233.out _; (with_reducible repeat (first | refine blk_drewN ?_ _ | refine blk_drew ?_ | refine blk_alloc ?_ _)); refine blk_far ?_ NB189_233.out _; (with_reducible repeat (first | refine blk_drewN ?_ _ | refine blk_drew ?_ | refine blk_alloc ?_ _)); refine blk_far ?_ NB189_233.out _; (with_reducible repeat (first | refine blk_drewN ?_ _ | refine blk_drew ?_ | refine blk_alloc ?_ _)); refine blk_far ?_ NB189_233.out _; (with_reducible repeat (first | refine blk_drewN ?_ _ | refine blk_drew ?_ | refine blk_alloc ?_ _)); refine blk_far ?_ NB189_233.out _; (with_reducible repeat (first | refine blk_drewN ?_ _ | refine blk_drew ?_ | refine blk_alloc ?_ _)); refine blk_far ?_ NB189_233.out _; (with_reducible repeat (first | refine blk_drewN ?_ _ | refine blk_drew ?_ | refine blk_alloc ?_ _)); refine blk_far ?_ NB189_233.out _; (with_reducible repeat (first | refine blk_drewN ?_ _ | refine blk_drew ?_ | refine blk_alloc ?_ _)); refine blk_far ?_ NB189_233.out _; (with_reducible repeat (first | refine blk_drewN ?_ _ | refine blk_drew ?_ | refine blk_alloc ?_ _)); refine blk_far ?_ NB189_233.out _; (with_reducible repeat (first | refine blk_drewN ?_ _ | refine blk_drew ?_ | refine blk_alloc ?_ _)); refine blk_far ?_ NB189_233.out _; (with_reducible repeat (first | refine blk_drewN ?_ _ | refine blk_drew ?_ | refine blk_alloc ?_ _)); refine blk_far ?_ NB189_233.out _; (with_reducible repeat (first | refine blk_drewN ?_ _ | refine blk_drew ?_ | refine blk_alloc ?_ _)); refine blk_far ?_ NB189_233.out _; (with_reducible repeat (first | refine blk_drewN ?_ _ | refine blk_drew ?_ | refine blk_alloc ?_ _)); refine blk_far ?_ NB189_233.out _; (with_reducible repeat (first | refine blk_drewN ?_ _ | refine blk_drew ?_ | refine blk_alloc ?_ _)); refine blk_far ?_ NB189_233.out _; (with_reducible repeat (first | refine blk_drewN ?_ _ | refine blk_drew ?_ | refine blk_alloc ?_ _)); refine blk_far ?_ NB189_233.out _; (with_reducible repeat (first | refine blk_drewN ?_ _ | refine blk_drew ?_ | refine blk_alloc ?_ _)); exact BK189.out))⟩; have n3_ : Aside0 (w81.heap[gb196]? = some (.cells #[.int .i64 0, .int .i64 0, .int .i64 0, .int .i64 0, .int .i64 0, .int .i64 0, .int .i64 0, .int .i64 0, .int .i64 0, .int .i64 0, .int .i64 0, .int .i64 0, .int .i64 0, .int .i64 0, .int .i64 0, .int .i64 0] 23 (0, 0))) := ⟨(by rw [hw]; exact (by (with_reducible repeat (first | refine blk_drewN ?_ _ | refine blk_drew ?_ | refine blk_alloc ?_ _)); refine blk_far ?_ NB196_233.out _; (with_reducible repeat (first | refine blk_drewN ?_ _ | refine blk_drew ?_ | refine blk_alloc ?_ _)); refine blk_far ?_ NB196_233.out _; (with_reducible repeat (first | refine blk_drewN ?_ _ | refine blk_drew ?_ | refine blk_alloc ?_ _)); refine blk_far ?_ NB196_233.out _; (with_reducible repeat (first | refine blk_drewN ?_ _ | refine blk_drew ?_ | refine blk_alloc ?_ _)); refine blk_far ?_ NB196_233.out _; (with_reducible repeat (first | refine blk_drewN ?_ _ | refine blk_drew ?_ | refine blk_alloc ?_ _)); refine blk_far ?_ NB196_233.out _; (with_reducible repeat (first | refine blk_drewN ?_ _ | refine blk_drew ?_ | refine blk_alloc ?_ _)); refine blk_far ?_ NB196_233.out _; (with_reducible repeat (first | refine blk_drewN ?_ _ | refine blk_drew ?_ | refine blk_alloc ?_ _)); refine blk_far ?_ NB196_233.out _; (with_reducible repeat (first | refine blk_drewN ?_ _ | refine blk_drew ?_ | refine blk_alloc ?_ _)); refine blk_far ?_ NB196_233.out _; (with_reducible repeat (first | refine blk_drewN ?_ _ | refine blk_drew ?_ | refine blk_alloc ?_ _)); refine blk_far ?_ NB196_233.out _; (with_reducible repeat (first | refine blk_drewN ?_ _ | refine blk_drew ?_ | refine blk_alloc ?_ _)); refine blk_far ?_ NB196_233.out _; (with_reducible repeat (first | refine blk_drewN ?_ _ | refine blk_drew ?_ | refine blk_alloc ?_ _)); refine blk_far ?_ NB196_233.out _; (with_reducible repeat (first | refine blk_drewN ?_ _ | refine blk_drew ?_ | refine blk_alloc ?_ _)); refine blk_far ?_ NB196_233.out _; (with_reducible repeat (first | refine blk_drewN ?_ _ | refine blk_drew ?_ | refine blk_alloc ?_ _)); refine blk_far ?_ NB196_233.out _; (with_reducible repeat (first | refine blk_drewN ?_ _ | refine blk_drew ?_ | refine blk_alloc ?_ _)); refine blk_far ?_ NB196_233.out _; (with_reducible repeat (first | refine blk_drewN ?_ _ | refine blk_drew ?_ | refine blk_alloc ?_ _)); refine blk_far ?_ NB196_233.out _; (with_reducible repeat (first | refine blk_drewN ?_ _ | refine blk_drew ?_ | refine blk_alloc ?_ _)); refine blk_far ?_ NB196_233.out _; (with_reducible repeat (first | refine blk_drewN ?_ _ | refine blk_drew ?_ | refine blk_alloc ?_ _)); exact BK196.out))⟩; have n4_ : Aside0 (w81.heap[gb233]? = some (.cells #[.int .i64 t216, .int .i64 t217, .int .i64 t218, .int .i64 t219, .int .i64 t220, .int .i64 t221, .int .i64 t222, .int .i64 t223, .int .i64 t224, .int .i64 t225, .int .i64 t226, .int .i64 t227, .int .i64 t228, .int .i64 t229, .int .i64 t230, .int .i64 t231] 23 (0, 0))) := ⟨(by rw [hw]; exact (by (with_reducible repeat (first | refine blk_drewN ?_ _ | refine blk_drew ?_ | refine blk_alloc ?_ _)); refine blk_put (cs := #[.int .i64 t216, .int .i64 t217, .int .i64 t218, .int .i64 t219, .int .i64 t220, .int .i64 t221, .int .i64 t222, .int .i64 t223, .int .i64 t224, .int .i64 t225, .int .i64 t226, .int .i64 t227, .int .i64 t228, .int .i64 t229, .int .i64 t230, .int .i64 0]) ?_ 15 _ rfl; (with_reducible repeat (first | refine blk_drewN ?_ _ | refine blk_drew ?_ | refine blk_alloc ?_ _)); refine blk_put (cs := #[.int .i64 t216, .int .i64 t217, .int .i64 t218, .int .i64 t219, .int .i64 t220, .int .i64 t221, .int .i64 t222, .int .i64 t223, .int .i64 t224, .int .i64 t225, .int .i64 t226, .int .i64 t227, .int .i64 t228, .int .i64 t229, .int .i64 0, .int .i64 0]) ?_ 14 _ rfl; (with_reducible repeat (first | refine blk_drewN ?_ _ | refine blk_drew ?_ | refine blk_alloc ?_ _)); refine blk_put (cs := #[.int .i64 t216, .int .i64 t217, .int .i64 t218, .int .i64 t219, .int .i64 t220, .int .i64 t221, .int .i64 t222, .int .i64 t223, .int .i64 t224, .int .i64 t225, .int .i64 t226, .int .i64 t227, .int .i64 t228, .int .i64 0, .int .i64 0, .int .i64 0]) ?_ 13 _ rfl; (with_reducible repeat (first | refine blk_drewN ?_ _ | refine blk_drew ?_ | refine blk_alloc ?_ _)); refine blk_put (cs := #[.int .i64 t216, .int .i64 t217, .int .i64 t218, .int .i64 t219, .int .i64 t220, .int .i64 t221, .int .i64 t222, .int .i64 t223, .int .i64 t224, .int .i64 t225, .int .i64 t226, .int .i64 t227, .int .i64 0, .int .i64 0, .int .i64 0, .int .i64 0]) ?_ 12 _ rfl; (with_reducible repeat (first | refine blk_drewN ?_ _ | refine blk_drew ?_ | refine blk_alloc ?_ _)); refine blk_put (cs := #[.int .i64 t216, .int .i64 t217, .int .i64 t218, .int .i64 t219, .int .i64 t220, .int .i64 t221, .int .i64 t222, .int .i64 t223, .int .i64 t224, .int .i64 t225, .int .i64 t226, .int .i64 0, .int .i64 0, .int .i64 0, .int .i64 0, .int .i64 0]) ?_ 11 _ rfl; (with_reducible repeat (first | refine blk_drewN ?_ _ | refine blk_drew ?_ | refine blk_alloc ?_ _)); refine blk_put (cs := #[.int .i64 t216, .int .i64 t217, .int .i64 t218, .int .i64 t219, .int .i64 t220, .int .i64 t221, .int .i64 t222, .int .i64 t223, .int .i64 t224, .int .i64 t225, .int .i64 0, .int .i64 0, .int .i64 0, .int .i64 0, .int .i64 0, .int .i64 0]) ?_ 10 _ rfl; (with_reducible repeat (first | refine blk_drewN ?_ _ | refine blk_drew ?_ | refine blk_alloc ?_ _)); refine blk_put (cs := #[.int .i64 t216, .int .i64 t217, .int .i64 t218, .int .i64 t219, .int .i64 t220, .int .i64 t221, .int .i64 t222, .int .i64 t223, .int .i64 t224, .int .i64 0, .int .i64 0, .int .i64 0, .int .i64 0, .int .i64 0, .int .i64 0, .int .i64 0]) ?_ 9 _ rfl; (with_reducible repeat (first | refine blk_drewN ?_ _ | refine blk_drew ?_ | refine blk_alloc ?_ _)); refine blk_put (cs := #[.int .i64 t216, .int .i64 t217, .int .i64 t218, .int .i64 t219, .int .i64 t220, .int .i64 t221, .int .i64 t222, .int .i64 t223, .int .i64 0, .int .i64 0, .int .i64 0, .int .i64 0, .int .i64 0, .int .i64 0, .int .i64 0, .int .i64 0]) ?_ 8 _ rfl; (with_reducible repeat (first | refine blk_drewN ?_ _ | refine blk_drew ?_ | refine blk_alloc ?_ _)); refine blk_put (cs := #[.int .i64 t216, .int .i64 t217, .int .i64 t218, .int .i64 t219, .int .i64 t220, .int .i64 t221, .int .i64 t222, .int .i64 0, .int .i64 0, .int .i64 0, .int .i64 0, .int .i64 0, .int .i64 0, .int .i64 0, .int .i64 0, .int .i64 0]) ?_ 7 _ rfl; (with_reducible repeat (first | refine blk_drewN ?_ _ | refine blk_drew ?_ | refine blk_alloc ?_ _)); refine blk_put (cs := #[.int .i64 t216, .int .i64 t217, .int .i64 t218, .int .i64 t219, .int .i64 t220, .int .i64 t221, .int .i64 0, .int .i64 0, .int .i64 0, .int .i64 0, .int .i64 0, .int .i64 0, .int .i64 0, .int .i64 0, .int .i64 0, .int .i64 0]) ?_ 6 _ rfl; (with_reducible repeat (first | refine blk_drewN ?_ _ | refine blk_drew ?_ | refine blk_alloc ?_ _)); refine blk_put (cs := #[.int .i64 t216, .int .i64 t217, .int .i64 t218, .int .i64 t219, .int .i64 t220, .int .i64 0, .int .i64 0, .int .i64 0, .int .i64 0, .int .i64 0, .int .i64 0, .int .i64 0, .int .i64 0, .int .i64 0, .int .i64 0, .int .i64 0]) ?_ 5 _ rfl; (with_reducible repeat (first | refine blk_drewN ?_ _ | refine blk_drew ?_ | refine blk_alloc ?_ _)); refine blk_put (cs := #[.int .i64 t216, .int .i64 t217, .int .i64 t218, .int .i64 t219, .int .i64 0, .int .i64 0, .int .i64 0, .int .i64 0, .int .i64 0, .int .i64 0, .int .i64 0, .int .i64 0, .int .i64 0, .int .i64 0, .int .i64 0, .int .i64 0]) ?_ 4 _ rfl; (with_reducible repeat (first | refine blk_drewN ?_ _ | refine blk_drew ?_ | refine blk_alloc ?_ _)); refine blk_put (cs := #[.int .i64 t216, .int .i64 t217, .int .i64 t218, .int .i64 0, .int .i64 0, .int .i64 0, .int .i64 0, .int .i64 0, .int .i64 0, .int .i64 0, .int .i64 0, .int .i64 0, .int .i64 0, .int .i64 0, .int .i64 0, .int .i64 0]) ?_ 3 _ rfl; (with_reducible repeat (first | refine blk_drewN ?_ _ | refine blk_drew ?_ | refine blk_alloc ?_ _)); refine blk_put (cs := #[.int .i64 t216, .int .i64 t217, .int .i64 0, .int .i64 0, .int .i64 0, .int .i64 0, .int .i64 0, .int .i64 0, .int .i64 0, .int .i64 0, .int .i64 0, .int .i64 0, .int .i64 0, .int .i64 0, .int .i64 0, .int .i64 0]) ?_ 2 _ rfl; (with_reducible repeat (first | refine blk_drewN ?_ _ | refine blk_drew ?_ | refine blk_alloc ?_ _)); refine blk_put (cs := #[.int .i64 t216, .int .i64 0, .int .i64 0, .int .i64 0, .int .i64 0, .int .i64 0, .int .i64 0, .int .i64 0, .int .i64 0, .int .i64 0, .int .i64 0, .int .i64 0, .int .i64 0, .int .i64 0, .int .i64 0, .int .i64 0]) ?_ 1 _ rfl; (with_reducible repeat (first | refine blk_drewN ?_ _ | refine blk_drew ?_ | refine blk_alloc ?_ _)); refine blk_put (cs := #[.int .i64 0, .int .i64 0, .int .i64 0, .int .i64 0, .int .i64 0, .int .i64 0, .int .i64 0, .int .i64 0, .int .i64 0, .int .i64 0, .int .i64 0, .int .i64 0, .int .i64 0, .int .i64 0, .int .i64 0, .int .i64 0]) ?_ 0 _ rfl; (with_reducible repeat (first | refine blk_drewN ?_ _ | refine blk_drew ?_ | refine blk_alloc ?_ _)); exact BK233.out))⟩; have n5_ : Aside0 (Below w.heap.size w w81) := ⟨(by rw [hw]; exact (by repeat (first | (with_reducible first | exact HB.out | apply below_alloc | apply pw_below_drewN | apply below_drew1 | refine below_set ?_ GE188.out | refine below_set ?_ GE189.out | refine below_set ?_ GE196.out | refine below_set ?_ GE233.out) | exact HB.out)))⟩; clear hw; clear HO195; clear BK188; clear BK189; clear BK196; clear BK233; clear HB; have HO195 := n0_; have BK188 := n1_; have BK189 := n2_; have BK196 := n3_; have BK233 := n4_; have HB := n5_; clear n0_ n1_ n2_ n3_ n4_ n5_) | ((with_reducible refine gate_callee (f := 16) rfl ?_); refine goesL_ (some 72) rfl rfl Try.func16 (by kernel_rfl) rfl #[.int .i64 t232] rfl (by (try simp only [List.map_toArray, List.map_cons, List.map_nil]); first | done | rfl | (simp only [List.length_drop, List.length_take]; rfl)) ?_; (with_reducible refine (watchwordlaw0_Num.calls t232 t234 _ A65.out).mono ?_); rintro e w' ⟨rfl, ⟨nd, rfl⟩⟩; refine ⟨_, rfl, ?_⟩; have hcz82_0 : w81.cell? ⟨gb233, 0, none⟩ = some (.int .i64 t216) := (blk_cell BK233.out 0).trans rfl; have hcz82_1 : w81.cell? ⟨gb233, 1, none⟩ = some (.int .i64 t217) := (blk_cell BK233.out 1).trans rfl; have hcz82_2 : w81.cell? ⟨gb233, 2, none⟩ = some (.int .i64 t218) := (blk_cell BK233.out 2).trans rfl; have hcz82_3 : w81.cell? ⟨gb233, 3, none⟩ = some (.int .i64 t219) := (blk_cell BK233.out 3).trans rfl; have hcz82_4 : w81.cell? ⟨gb233, 4, none⟩ = some (.int .i64 t220) := (blk_cell BK233.out 4).trans rfl; have hcz82_5 : w81.cell? ⟨gb233, 5, none⟩ = some (.int .i64 t221) := (blk_cell BK233.out 5).trans rfl; have hcz82_6 : w81.cell? ⟨gb233, 6, none⟩ = some (.int .i64 t222) := (blk_cell BK233.out 6).trans rfl; have hcz82_7 : w81.cell? ⟨gb233, 7, none⟩ = some (.int .i64 t223) := (blk_cell BK233.out 7).trans rfl; have hcz82_8 : w81.cell? ⟨gb233, 8, none⟩ = some (.int .i64 t224) := (blk_cell BK233.out 8).trans rfl; have hcz82_9 : w81.cell? ⟨gb233, 9, none⟩ = some (.int .i64 t225) := (blk_cell BK233.out 9).trans rfl; have hcz82_10 : w81.cell? ⟨gb233, 10, none⟩ = some (.int .i64 t226) := (blk_cell BK233.out 10).trans rfl; have hcz82_11 : w81.cell? ⟨gb233, 11, none⟩ = some (.int .i64 t227) := (blk_cell BK233.out 11).trans rfl; have hcz82_12 : w81.cell? ⟨gb233, 12, none⟩ = some (.int .i64 t228) := (blk_cell BK233.out 12).trans rfl; have hcz82_13 : w81.cell? ⟨gb233, 13, none⟩ = some (.int .i64 t229) := (blk_cell BK233.out 13).trans rfl; have hcz82_14 : w81.cell? ⟨gb233, 14, none⟩ = some (.int .i64 t230) := (blk_cell BK233.out 14).trans rfl; have hcz82_15 : w81.cell? ⟨gb233, 15, none⟩ = some (.int .i64 t231) := (blk_cell BK233.out 15).trans rfl; have hfz82_0 := blk_frozen BK233.out 0; have hfz82_1 := blk_frozen BK233.out 1; have hfz82_2 := blk_frozen BK233.out 2; have hfz82_3 := blk_frozen BK233.out 3; have hfz82_4 := blk_frozen BK233.out 4; have hfz82_5 := blk_frozen BK233.out 5; have hfz82_6 := blk_frozen BK233.out 6; have hfz82_7 := blk_frozen BK233.out 7; have hfz82_8 := blk_frozen BK233.out 8; have hfz82_9 := blk_frozen BK233.out 9; have hfz82_10 := blk_frozen BK233.out 10; have hfz82_11 := blk_frozen BK233.out 11; have hfz82_12 := blk_frozen BK233.out 12; have hfz82_13 := blk_frozen BK233.out 13; have hfz82_14 := blk_frozen BK233.out 14; have hfz82_15 := blk_frozen BK233.out 15; have hnb83 := NB196_188.out; have hnc83 := NB188_196.out; have hnb84 := NB196_189.out; have hnc84 := NB189_196.out; have hcz85_0 : w81.cell? ⟨gb196, 0, none⟩ = some (.int .i64 0) := (blk_cell BK196.out 0).trans rfl; have hcz85_1 : w81.cell? ⟨gb196, 1, none⟩ = some (.int .i64 0) := (blk_cell BK196.out 1).trans rfl; have hcz85_2 : w81.cell? ⟨gb196, 2, none⟩ = some (.int .i64 0) := (blk_cell BK196.out 2).trans rfl; have hcz85_3 : w81.cell? ⟨gb196, 3, none⟩ = some (.int .i64 0) := (blk_cell BK196.out 3).trans rfl; have hcz85_4 : w81.cell? ⟨gb196, 4, none⟩ = some (.int .i64 0) := (blk_cell BK196.out 4).trans rfl; have hcz85_5 : w81.cell? ⟨gb196, 5, none⟩ = some (.int .i64 0) := (blk_cell BK196.out 5).trans rfl; have hcz85_6 : w81.cell? ⟨gb196, 6, none⟩ = some (.int .i64 0) := (blk_cell BK196.out 6).trans rfl; have hcz85_7 : w81.cell? ⟨gb196, 7, none⟩ = some (.int .i64 0) := (blk_cell BK196.out 7).trans rfl; have hcz85_8 : w81.cell? ⟨gb196, 8, none⟩ = some (.int .i64 0) := (blk_cell BK196.out 8).trans rfl; have hcz85_9 : w81.cell? ⟨gb196, 9, none⟩ = some (.int .i64 0) := (blk_cell BK196.out 9).trans rfl; have hcz85_10 : w81.cell? ⟨gb196, 10, none⟩ = some (.int .i64 0) := (blk_cell BK196.out 10).trans rfl; have hcz85_11 : w81.cell? ⟨gb196, 11, none⟩ = some (.int .i64 0) := (blk_cell BK196.out 11).trans rfl; have hcz85_12 : w81.cell? ⟨gb196, 12, none⟩ = some (.int .i64 0) := (blk_cell BK196.out 12).trans rfl; have hcz85_13 : w81.cell? ⟨gb196, 13, none⟩ = some (.int .i64 0) := (blk_cell BK196.out 13).trans rfl; have hcz85_14 : w81.cell? ⟨gb196, 14, none⟩ = some (.int .i64 0) := (blk_cell BK196.out 14).trans rfl; have hcz85_15 : w81.cell? ⟨gb196, 15, none⟩ = some (.int .i64 0) := (blk_cell BK196.out 15).trans rfl; have hfz85_0 := blk_frozen BK196.out 0; have hfz85_1 := blk_frozen BK196.out 1; have hfz85_2 := blk_frozen BK196.out 2; have hfz85_3 := blk_frozen BK196.out 3; have hfz85_4 := blk_frozen BK196.out 4; have hfz85_5 := blk_frozen BK196.out 5; have hfz85_6 := blk_frozen BK196.out 6; have hfz85_7 := blk_frozen BK196.out 7; have hfz85_8 := blk_frozen BK196.out 8; have hfz85_9 := blk_frozen BK196.out 9; have hfz85_10 := blk_frozen BK196.out 10; have hfz85_11 := blk_frozen BK196.out 11; have hfz85_12 := blk_frozen BK196.out 12; have hfz85_13 := blk_frozen BK196.out 13; have hfz85_14 := blk_frozen BK196.out 14; have hfz85_15 := blk_frozen BK196.out 15))
         go_ret
         exact ⟨by first | rfl | (simp [errW_none, errW_some] <;> rfl) | (simp [*, errW_none, errW_some] <;> rfl), by repeat (first | (with_reducible first | exact HB.out | apply below_alloc | apply pw_below_drewN | apply below_drew1 | refine below_set ?_ GE188.out | refine below_set ?_ GE189.out | refine below_set ?_ GE196.out | refine below_set ?_ GE233.out) | exact HB.out)⟩
       ·rw [if_neg c66] at H
        have c66b0 : (t234 == 0) = false := beq_eq_false_iff_ne.mpr c66
        have c66b1 : (t234 != 0) = true := bne_iff_ne.mpr c66
        focus
         exact absurd (Option.some.inj H) (by rw [HT.out]; decide)
     ·exact absurd hq2.out c28
 ·replace c6 := Bool.eq_false_iff.mpr c6
  subst c6
  have H1 : (some false) = some r := by rw [if_neg (show ¬ (false = true) by decide)] at H; exact H
  clear H
  have H := H1
  clear H1
  focus
   exact absurd (Option.some.inj H) (by rw [HT.out]; decide)

set_option maxHeartbeats 8000000 in
set_option maxRecDepth 100000 in
theorem watchwordlaw20_GraphOne.calls_00 (k : Nat) (a0 : Int) (a1 : Int) (a2 : Int) (a3 : Bool) (r : Bool) (w : World) (h : watchwordlaw20_GraphOne.f k a0 a1 a2 a3 = some r) (hT : r = true) (hq1 : Aside0 (¬ (a3 = true))) (hq2 : Aside0 (¬ ((Go.bits .and .i64 a1 3) < (Go.bits .and .i64 a0 3)))) :
  Calls Try.prog 11 #[.int .i64 a0, .int .i64 a1, .int .i64 a2, .bool a3] w fun e w' => e = .returned (.bool r) ∧ Below w.heap.size w w' := by
 have hu59 := Try.underlying59
 have hu57 := Try.underlying57
 have hu23 := Try.underlying23
 have HB := Aside0.mk (Below.refl w.heap.size w)
 have HT := Aside0.mk hT
 clear hT
 have H : ((watchwordlaw20_awake.f k).bind fun t184 => (if t184 = true then (if (Go.bits .and .i64 a0 3) = (Go.bits .and .i64 a1 3) then (some true) else ((some (([(⟨wrap64 ((Go.bits .and .i64 a1 3) + 1), wrap64 (1 + (Go.bits .and .i64 a2 1023))⟩ : S59)] : List (S59)) : List (S59))).bind fun y185 => (if a3 = true then (watchwordlaw20_GraphOne.j0 k a3 (Go.bits .and .i64 a0 3) (Go.bits .and .i64 a1 3) (wrap64 (1 + (Go.bits .and .i64 a2 1023))) (wrap64 ((Go.bits .and .i64 a0 3) + 1)) 1 0 y185 (wrap64 ((Go.bits .and .i64 a1 3) + 1)) 1 0 (([(⟨wrap64 ((Go.bits .and .i64 a0 3) + 1), 9⟩ : S59)] : List (S59)))) else (watchwordlaw20_GraphOne.j0 k a3 (Go.bits .and .i64 a0 3) (Go.bits .and .i64 a1 3) (wrap64 (1 + (Go.bits .and .i64 a2 1023))) (wrap64 ((Go.bits .and .i64 a0 3) + 1)) 1 0 y185 (wrap64 ((Go.bits .and .i64 a1 3) + 1)) 1 0 ([] : List (S59)))))) else (some false))) = some r := h
 clear h
 replace H := Option.bind_eq_some_iff.mp H
 obtain ⟨t184, A50, H⟩ := H
 replace H : (if t184 = true then (if (Go.bits .and .i64 a0 3) = (Go.bits .and .i64 a1 3) then (some true) else ((some (([(⟨wrap64 ((Go.bits .and .i64 a1 3) + 1), wrap64 (1 + (Go.bits .and .i64 a2 1023))⟩ : S59)] : List (S59)) : List (S59))).bind fun y185 => (if a3 = true then (watchwordlaw20_GraphOne.j0 k a3 (Go.bits .and .i64 a0 3) (Go.bits .and .i64 a1 3) (wrap64 (1 + (Go.bits .and .i64 a2 1023))) (wrap64 ((Go.bits .and .i64 a0 3) + 1)) 1 0 y185 (wrap64 ((Go.bits .and .i64 a1 3) + 1)) 1 0 (([(⟨wrap64 ((Go.bits .and .i64 a0 3) + 1), 9⟩ : S59)] : List (S59)))) else (watchwordlaw20_GraphOne.j0 k a3 (Go.bits .and .i64 a0 3) (Go.bits .and .i64 a1 3) (wrap64 (1 + (Go.bits .and .i64 a2 1023))) (wrap64 ((Go.bits .and .i64 a0 3) + 1)) 1 0 y185 (wrap64 ((Go.bits .and .i64 a1 3) + 1)) 1 0 ([] : List (S59)))))) else (some false)) = some r := H
 have A5 := Aside0.mk A50
 clear A50
 by_cases c6 : t184 = true
 ·subst c6
  have H1 : (if (Go.bits .and .i64 a0 3) = (Go.bits .and .i64 a1 3) then (some true) else ((some (([(⟨wrap64 ((Go.bits .and .i64 a1 3) + 1), wrap64 (1 + (Go.bits .and .i64 a2 1023))⟩ : S59)] : List (S59)) : List (S59))).bind fun y185 => (if a3 = true then (watchwordlaw20_GraphOne.j0 k a3 (Go.bits .and .i64 a0 3) (Go.bits .and .i64 a1 3) (wrap64 (1 + (Go.bits .and .i64 a2 1023))) (wrap64 ((Go.bits .and .i64 a0 3) + 1)) 1 0 y185 (wrap64 ((Go.bits .and .i64 a1 3) + 1)) 1 0 (([(⟨wrap64 ((Go.bits .and .i64 a0 3) + 1), 9⟩ : S59)] : List (S59)))) else (watchwordlaw20_GraphOne.j0 k a3 (Go.bits .and .i64 a0 3) (Go.bits .and .i64 a1 3) (wrap64 (1 + (Go.bits .and .i64 a2 1023))) (wrap64 ((Go.bits .and .i64 a0 3) + 1)) 1 0 y185 (wrap64 ((Go.bits .and .i64 a1 3) + 1)) 1 0 ([] : List (S59)))))) = some r := by rw [if_pos rfl] at H; exact H
  clear H
  have H := H1
  clear H1
  by_cases c7 : (Go.bits .and .i64 a0 3) = (Go.bits .and .i64 a1 3)
  ·rw [if_pos c7] at H
   have c7b0 : ((Go.bits .and .i64 a0 3) == (Go.bits .and .i64 a1 3)) = true := beq_iff_eq.mpr c7
   have c7b1 : ((Go.bits .and .i64 a0 3) != (Go.bits .and .i64 a1 3)) = false := bne_eq_false_iff_eq.mpr c7
   clear c7
   focus
    obtain rfl := Option.some.inj H
    go_enter Try.func11, Try.ntmps11
    go_wp2_with (first | ((with_reducible refine gate_callee (f := 25) rfl ?_); refine goesL_ (some 18) rfl rfl Try.func25 (by kernel_rfl) rfl #[] rfl (by (try simp only [List.map_toArray, List.map_cons, List.map_nil]); first | done | rfl | (simp only [List.length_drop, List.length_take]; rfl)) ?_; (with_reducible refine (watchwordlaw20_awake.calls k  true _ A5.out (by first | rfl | exact HT.out)).mono ?_); rintro e w8 ⟨rfl, hb⟩; refine ⟨_, rfl, ?_⟩; have n0_ := Aside0.mk (below_step (by repeat (first | (with_reducible first | exact HB.out | apply below_alloc | apply pw_below_drewN | apply below_drew1) | exact HB.out)) hb); clear HB; have HB := n0_; clear n0_; (try clear hb); (try clear hb2); (try clear hk); (try clear hi)))
    go_ret
    exact ⟨by first | rfl | (simp [errW_none, errW_some] <;> rfl) | (simp [*, errW_none, errW_some] <;> rfl), by repeat (first | (with_reducible first | exact HB.out | apply below_alloc | apply pw_below_drewN | apply below_drew1) | exact HB.out)⟩
  ·rw [if_neg c7] at H
   have c7b0 : ((Go.bits .and .i64 a0 3) == (Go.bits .and .i64 a1 3)) = false := beq_eq_false_iff_ne.mpr c7
   have c7b1 : ((Go.bits .and .i64 a0 3) != (Go.bits .and .i64 a1 3)) = true := bne_iff_ne.mpr c7
   obtain ⟨y185, hy185⟩ : ∃ y_ : List (S59), y_ = (([(⟨wrap64 ((Go.bits .and .i64 a1 3) + 1), wrap64 (1 + (Go.bits .and .i64 a2 1023))⟩ : S59)] : List (S59))) := ⟨_, rfl⟩
   replace H : (if a3 = true then (watchwordlaw20_GraphOne.j0 k a3 (Go.bits .and .i64 a0 3) (Go.bits .and .i64 a1 3) (wrap64 (1 + (Go.bits .and .i64 a2 1023))) (wrap64 ((Go.bits .and .i64 a0 3) + 1)) 1 0 y185 (wrap64 ((Go.bits .and .i64 a1 3) + 1)) 1 0 (([(⟨wrap64 ((Go.bits .and .i64 a0 3) + 1), 9⟩ : S59)] : List (S59)))) else (watchwordlaw20_GraphOne.j0 k a3 (Go.bits .and .i64 a0 3) (Go.bits .and .i64 a1 3) (wrap64 (1 + (Go.bits .and .i64 a2 1023))) (wrap64 ((Go.bits .and .i64 a0 3) + 1)) 1 0 y185 (wrap64 ((Go.bits .and .i64 a1 3) + 1)) 1 0 ([] : List (S59)))) = some r := by first | (rw [hy185]; with_reducible exact H) | (have H2_ := (Option.bind_some _ _).symm.trans H; rw [hy185]; with_reducible exact H2_) | (have H2_ := (Option.bind_some _ _).symm.trans H; with_reducible exact H2_) | with_reducible exact H | (rw [hy185]; exact H) | exact H
   have Ny185 := Aside0.mk hy185
   clear hy185
   have HC9 := Aside0.mk H
   clear H
   go_enter Try.func11, Try.ntmps11
   go_upto_if 41 with (first | ((with_reducible refine gate_callee (f := 25) rfl ?_); refine goesL_ (some 18) rfl rfl Try.func25 (by kernel_rfl) rfl #[] rfl (by (try simp only [List.map_toArray, List.map_cons, List.map_nil]); first | done | rfl | (simp only [List.length_drop, List.length_take]; rfl)) ?_; (with_reducible refine (watchwordlaw20_awake.calls k  true _ A5.out (by first | rfl | exact HT.out)).mono ?_); rintro e w10 ⟨rfl, hb⟩; refine ⟨_, rfl, ?_⟩; have n0_ := Aside0.mk (below_step (by repeat (first | (with_reducible first | exact HB.out | apply below_alloc | apply pw_below_drewN | apply below_drew1) | exact HB.out)) hb); clear HB; have HB := n0_; clear n0_; (try clear hb); (try clear hb2); (try clear hk); (try clear hi)) | ((with_reducible refine gate_dst (N := 36) rfl ?_); refine Kd.R_lit k59 _ 59 ?hg (N := 36) ?hd (xs := ([(⟨wrap64 ((Go.bits .and .i64 a1 3) + 1), wrap64 (1 + (Go.bits .and .i64 a2 1023))⟩ : S59)] : List (S59))) (inner := [.int .i64 (wrap64 ((Go.bits .and .i64 a1 3) + 1)), .int .i64 (wrap64 (1 + (Go.bits .and .i64 a2 1023)))]) (ok := fun _ => True) (okp := fun _ => True) ?hr ?hp (fun _ hk => hk) trivial (Below.refl _ _) (Nat.le_refl _) (by simp) ?_; (case hd => rfl); (case hg => rfl); (case hr => first | (go_simp; done) | (go_simp; rfl)); (case hp => exact (Reps.c2 (show Kd.M k59 _ _ _ (⟨wrap64 ((Go.bits .and .i64 a1 3) + 1), wrap64 (1 + (Go.bits .and .i64 a2 1023))⟩ : S59) [.int .i64 (wrap64 ((Go.bits .and .i64 a1 3) + 1)), .int .i64 (wrap64 (1 + (Go.bits .and .i64 a2 1023)))] from (k59_mkM _ _ _ (⟨wrap64 ((Go.bits .and .i64 a1 3) + 1), wrap64 (1 + (Go.bits .and .i64 a2 1023))⟩ : S59) )) (Reps.none _ _))); intro v186 w11 ho12 hb hg_ hnew_; clear hg_ hnew_; (first | rw [← Ny185.out] at ho12 | (simp only [Int.reduceToNat] at ho12; rw [← Ny185.out] at ho12)); have n0_ := Aside0.mk (Kd.R_lower ho12 (below_size (by repeat (first | (with_reducible first | exact HB.out | apply below_alloc | apply pw_below_drewN | apply below_drew1) | exact HB.out)))); have n1_ := Aside0.mk (below_step (by repeat (first | (with_reducible first | exact HB.out | apply below_alloc | apply pw_below_drewN | apply below_drew1) | exact HB.out)) hb); clear HB; have HO187 := n0_; have HB := n1_; clear n0_ n1_; clear hb ho12; obtain ⟨Ao13, co13, eo13⟩ := Kd.R_slice HO187.out; subst eo13) | ((with_reducible refine gate_dst (N := 12) rfl ?_); refine box_event ?hg (N := 12) ?hd (cs := #[.int .i64 0, .int .i64 0, .int .i64 0, .slice none 0 0]) (t := 57) ?hr ?_; (case hd => rfl); (case hg => rfl); (case hr => first | (go_simp; done) | (go_simp; rfl)); intro gb188 hg w14 hbox hb; have n0_ := Aside0.mk (Kd.R_below (by (with_reducible repeat (first | apply Kd.R_alloc | apply Kd.R_drewN | apply Kd.R_drew)); exact HO187.out) hb); have n1_ := Aside0.mk (below_step (by repeat (first | (with_reducible first | exact HB.out | apply below_alloc | apply pw_below_drewN | apply below_drew1) | exact HB.out)) hb); have n2_ := Aside0.mk (hbox); have n3_ := Aside0.mk ((by rw [hg]; exact (below_size (by repeat (first | (with_reducible first | exact HB.out | apply below_alloc | apply pw_below_drewN | apply below_drew1) | exact HB.out))) : w.heap.size ≤ gb188)); have n4_ := Aside0.mk ((by rw [hg]; exact (below_size (by repeat (first | (with_reducible first | exact HB.out | apply below_alloc | apply pw_below_drewN | apply below_drew1) | exact HB.out))) : w.heap.size ≤ gb188)); clear HO187; clear HB; have HO187 := n0_; have HB := n1_; have BK188 := n2_; have GW188 := n3_; have GE188 := n4_; clear n0_ n1_ n2_ n3_ n4_; clear hb hbox hg) | ((with_reducible refine gate_dst (N := 13) rfl ?_); refine box_event ?hg (N := 13) ?hd (cs := #[.int .i64 0, .int .i64 0, .int .i64 0, .slice none 0 0]) (t := 57) ?hr ?_; (case hd => rfl); (case hg => rfl); (case hr => first | (go_simp; done) | (go_simp; rfl)); intro gb189 hg w15 hbox hb; have n0_ := Aside0.mk (Kd.R_below (by (with_reducible repeat (first | apply Kd.R_alloc | apply Kd.R_drewN | apply Kd.R_drew)); exact HO187.out) hb); have n1_ := Aside0.mk (blk_below (g := gb188) (o := .cells #[.int .i64 0, .int .i64 0, .int .i64 0, .slice none 0 0] 57 (0, 0)) (by (with_reducible repeat (first | refine blk_drewN ?_ _ | refine blk_drew ?_ | refine blk_alloc ?_ _)); exact BK188.out) hb); have n2_ := Aside0.mk (below_step (by repeat (first | (with_reducible first | exact HB.out | apply below_alloc | apply pw_below_drewN | apply below_drew1 | refine below_set ?_ GE188.out) | exact HB.out)) hb); have n3_ := Aside0.mk (hbox); have n4_ := Aside0.mk ((by rw [hg]; exact (below_size (by repeat (first | (with_reducible first | exact HB.out | apply below_alloc | apply pw_below_drewN | apply below_drew1 | refine below_set ?_ GE188.out) | exact HB.out))) : w.heap.size ≤ gb189)); have n5_ := Aside0.mk ((by rw [hg]; exact (below_size (by repeat (first | (with_reducible first | exact HB.out | apply below_alloc | apply pw_below_drewN | apply below_drew1 | refine below_set ?_ GE188.out) | exact HB.out))) : w.heap.size ≤ gb189)); have n6_ := Aside0.mk ((by rw [hg]; exact Nat.ne_of_lt (blk_lt (g := gb188) (o := .cells #[.int .i64 0, .int .i64 0, .int .i64 0, .slice none 0 0] 57 (0, 0)) (by (with_reducible repeat (first | refine blk_drewN ?_ _ | refine blk_drew ?_ | refine blk_alloc ?_ _)); exact BK188.out)) : gb188 ≠ gb189)); have n7_ := Aside0.mk ((by rw [hg]; exact Nat.ne_of_gt (blk_lt (g := gb188) (o := .cells #[.int .i64 0, .int .i64 0, .int .i64 0, .slice none 0 0] 57 (0, 0)) (by (with_reducible repeat (first | refine blk_drewN ?_ _ | refine blk_drew ?_ | refine blk_alloc ?_ _)); exact BK188.out)) : gb189 ≠ gb188)); clear HO187; clear BK188; clear HB; have HO187 := n0_; have BK188 := n1_; have HB := n2_; have BK189 := n3_; have GW189 := n4_; have GE189 := n5_; have NB188_189 := n6_; have NB189_188 := n7_; clear n0_ n1_ n2_ n3_ n4_ n5_ n6_ n7_; clear hb hbox hg; have hnb16 := NB188_189.out; have hnc16 := NB189_188.out; have hcz17_0 : w15.cell? ⟨gb188, 0, none⟩ = some (.int .i64 0) := (blk_cell BK188.out 0).trans rfl; have hcz17_1 : w15.cell? ⟨gb188, 1, none⟩ = some (.int .i64 0) := (blk_cell BK188.out 1).trans rfl; have hcz17_2 : w15.cell? ⟨gb188, 2, none⟩ = some (.int .i64 0) := (blk_cell BK188.out 2).trans rfl; have hcz17_3 : w15.cell? ⟨gb188, 3, none⟩ = some (.slice none 0 0) := (blk_cell BK188.out 3).trans rfl; have hfz17_0 := blk_frozen BK188.out 0; have hfz17_1 := blk_frozen BK188.out 1; have hfz17_2 := blk_frozen BK188.out 2; have hfz17_3 := blk_frozen BK188.out 3) | ((with_reducible refine gate_store (t := 57) (p := 12) rfl ?_); refine store_event (t := 57) (p := 12) (v := ?vo_w18) (w1 := ((((w15.setCell ⟨gb188, 0, none⟩ (.int .i64 (wrap64 ((Go.bits .and .i64 a0 3) + 1)))).setCell ⟨gb188, 1, none⟩ (.int .i64 1)).setCell ⟨gb188, 2, none⟩ (.int .i64 0)).setCell ⟨gb188, 3, none⟩ (.slice Ao13 y185.length co13))) ?hg ?ho ?hn ?hr ?_; (case ho => rfl); (case hg => rfl); (case hn => rfl); (case hr => first | (go_simp; done) | (go_simp; rfl)); intro w18 hw; have n0_ : Aside0 (Kd.R k59 59 w18 w.heap.size (fun _ => True) (.slice Ao13 y185.length co13) y185) := ⟨(by rw [hw]; exact (by (with_reducible repeat (first | apply Kd.R_alloc | apply Kd.R_drewN | apply Kd.R_drew)); exact Kd.R_mono (Kd.R_far (p := ⟨gb188, 3, none⟩) (Kd.R_far (p := ⟨gb188, 2, none⟩) (Kd.R_far (p := ⟨gb188, 1, none⟩) (Kd.R_far (p := ⟨gb188, 0, none⟩) (Kd.R_types HO187.out BK188.out (by decide)) (fun _ hk => hk.2) (.int .i64 (wrap64 ((Go.bits .and .i64 a0 3) + 1)))) (fun _ hk => hk.2) (.int .i64 1)) (fun _ hk => hk.2) (.int .i64 0)) (fun _ hk => hk.2) (.slice Ao13 y185.length co13)) (fun _ hk => trivial)))⟩; have n1_ : Aside0 (w18.heap[gb188]? = some (.cells #[.int .i64 (wrap64 ((Go.bits .and .i64 a0 3) + 1)), .int .i64 1, .int .i64 0, .slice Ao13 y185.length co13] 57 (0, 0))) := ⟨(by rw [hw]; exact (by (with_reducible repeat (first | refine blk_drewN ?_ _ | refine blk_drew ?_ | refine blk_alloc ?_ _)); refine blk_put (cs := #[.int .i64 (wrap64 ((Go.bits .and .i64 a0 3) + 1)), .int .i64 1, .int .i64 0, .slice none 0 0]) ?_ 3 _ rfl; (with_reducible repeat (first | refine blk_drewN ?_ _ | refine blk_drew ?_ | refine blk_alloc ?_ _)); refine blk_put (cs := #[.int .i64 (wrap64 ((Go.bits .and .i64 a0 3) + 1)), .int .i64 1, .int .i64 0, .slice none 0 0]) ?_ 2 _ rfl; (with_reducible repeat (first | refine blk_drewN ?_ _ | refine blk_drew ?_ | refine blk_alloc ?_ _)); refine blk_put (cs := #[.int .i64 (wrap64 ((Go.bits .and .i64 a0 3) + 1)), .int .i64 0, .int .i64 0, .slice none 0 0]) ?_ 1 _ rfl; (with_reducible repeat (first | refine blk_drewN ?_ _ | refine blk_drew ?_ | refine blk_alloc ?_ _)); refine blk_put (cs := #[.int .i64 0, .int .i64 0, .int .i64 0, .slice none 0 0]) ?_ 0 _ rfl; (with_reducible repeat (first | refine blk_drewN ?_ _ | refine blk_drew ?_ | refine blk_alloc ?_ _)); exact BK188.out))⟩; have n2_ : Aside0 (w18.heap[gb189]? = some (.cells #[.int .i64 0, .int .i64 0, .int .i64 0, .slice none 0 0] 57 (0, 0))) := ⟨(by rw [hw]; exact (by (with_reducible repeat (first | refine blk_drewN ?_ _ | refine blk_drew ?_ | refine blk_alloc ?_ _)); refine blk_far ?_ NB189_188.out _; (with_reducible repeat (first | refine blk_drewN ?_ _ | refine blk_drew ?_ | refine blk_alloc ?_ _)); refine blk_far ?_ NB189_188.out _; (with_reducible repeat (first | refine blk_drewN ?_ _ | refine blk_drew ?_ | refine blk_alloc ?_ _)); refine blk_far ?_ NB189_188.out _; (with_reducible repeat (first | refine blk_drewN ?_ _ | refine blk_drew ?_ | refine blk_alloc ?_ _)); refine blk_far ?_ NB189_188.out _; (with_reducible repeat (first | refine blk_drewN ?_ _ | refine blk_drew ?_ | refine blk_alloc ?_ _)); exact BK189.out))⟩; have n3_ : Aside0 (Below w.heap.size w w18) := ⟨(by rw [hw]; exact (by repeat (first | (with_reducible first | exact HB.out | apply below_alloc | apply pw_below_drewN | apply below_drew1 | refine below_set ?_ GE188.out | refine below_set ?_ GE189.out) | exact HB.out)))⟩; clear hw; clear HO187; clear BK188; clear BK189; clear HB; have HO187 := n0_; have BK188 := n1_; have BK189 := n2_; have HB := n3_; clear n0_ n1_ n2_ n3_; have hcz19_0 : w18.cell? ⟨gb189, 0, none⟩ = some (.int .i64 0) := (blk_cell BK189.out 0).trans rfl; have hcz19_1 : w18.cell? ⟨gb189, 1, none⟩ = some (.int .i64 0) := (blk_cell BK189.out 1).trans rfl; have hcz19_2 : w18.cell? ⟨gb189, 2, none⟩ = some (.int .i64 0) := (blk_cell BK189.out 2).trans rfl; have hcz19_3 : w18.cell? ⟨gb189, 3, none⟩ = some (.slice none 0 0) := (blk_cell BK189.out 3).trans rfl; have hfz19_0 := blk_frozen BK189.out 0; have hfz19_1 := blk_frozen BK189.out 1; have hfz19_2 := blk_frozen BK189.out 2; have hfz19_3 := blk_frozen BK189.out 3) | ((with_reducible refine gate_store (t := 57) (p := 13) rfl ?_); refine store_event (t := 57) (p := 13) (v := ?vo_w20) (w1 := ((((w18.setCell ⟨gb189, 0, none⟩ (.int .i64 (wrap64 ((Go.bits .and .i64 a1 3) + 1)))).setCell ⟨gb189, 1, none⟩ (.int .i64 1)).setCell ⟨gb189, 2, none⟩ (.int .i64 0)).setCell ⟨gb189, 3, none⟩ (.slice none 0 0))) ?hg ?ho ?hn ?hr ?_; (case ho => rfl); (case hg => rfl); (case hn => rfl); (case hr => first | (go_simp; done) | (go_simp; rfl)); intro w20 hw; have n0_ : Aside0 (Kd.R k59 59 w20 w.heap.size (fun _ => True) (.slice Ao13 y185.length co13) y185) := ⟨(by rw [hw]; exact (by (with_reducible repeat (first | apply Kd.R_alloc | apply Kd.R_drewN | apply Kd.R_drew)); exact Kd.R_mono (Kd.R_far (p := ⟨gb189, 3, none⟩) (Kd.R_far (p := ⟨gb189, 2, none⟩) (Kd.R_far (p := ⟨gb189, 1, none⟩) (Kd.R_far (p := ⟨gb189, 0, none⟩) (Kd.R_types HO187.out BK189.out (by decide)) (fun _ hk => hk.2) (.int .i64 (wrap64 ((Go.bits .and .i64 a1 3) + 1)))) (fun _ hk => hk.2) (.int .i64 1)) (fun _ hk => hk.2) (.int .i64 0)) (fun _ hk => hk.2) (.slice none 0 0)) (fun _ hk => trivial)))⟩; have n1_ : Aside0 (w20.heap[gb188]? = some (.cells #[.int .i64 (wrap64 ((Go.bits .and .i64 a0 3) + 1)), .int .i64 1, .int .i64 0, .slice Ao13 y185.length co13] 57 (0, 0))) := ⟨(by rw [hw]; exact (by (with_reducible repeat (first | refine blk_drewN ?_ _ | refine blk_drew ?_ | refine blk_alloc ?_ _)); refine blk_far ?_ NB188_189.out _; (with_reducible repeat (first | refine blk_drewN ?_ _ | refine blk_drew ?_ | refine blk_alloc ?_ _)); refine blk_far ?_ NB188_189.out _; (with_reducible repeat (first | refine blk_drewN ?_ _ | refine blk_drew ?_ | refine blk_alloc ?_ _)); refine blk_far ?_ NB188_189.out _; (with_reducible repeat (first | refine blk_drewN ?_ _ | refine blk_drew ?_ | refine blk_alloc ?_ _)); refine blk_far ?_ NB188_189.out _; (with_reducible repeat (first | refine blk_drewN ?_ _ | refine blk_drew ?_ | refine blk_alloc ?_ _)); exact BK188.out))⟩; have n2_ : Aside0 (w20.heap[gb189]? = some (.cells #[.int .i64 (wrap64 ((Go.bits .and .i64 a1 3) + 1)), .int .i64 1, .int .i64 0, .slice none 0 0] 57 (0, 0))) := ⟨(by rw [hw]; exact (by (with_reducible repeat (first | refine blk_drewN ?_ _ | refine blk_drew ?_ | refine blk_alloc ?_ _)); refine blk_put (cs := #[.int .i64 (wrap64 ((Go.bits .and .i64 a1 3) + 1)), .int .i64 1, .int .i64 0, .slice none 0 0]) ?_ 3 _ rfl; (with_reducible repeat (first | refine blk_drewN ?_ _ | refine blk_drew ?_ | refine blk_alloc ?_ _)); refine blk_put (cs := #[.int .i64 (wrap64 ((Go.bits .and .i64 a1 3) + 1)), .int .i64 1, .int .i64 0, .slice none 0 0]) ?_ 2 _ rfl; (with_reducible repeat (first | refine blk_drewN ?_ _ | refine blk_drew ?_ | refine blk_alloc ?_ _)); refine blk_put (cs := #[.int .i64 (wrap64 ((Go.bits .and .i64 a1 3) + 1)), .int .i64 0, .int .i64 0, .slice none 0 0]) ?_ 1 _ rfl; (with_reducible repeat (first | refine blk_drewN ?_ _ | refine blk_drew ?_ | refine blk_alloc ?_ _)); refine blk_put (cs := #[.int .i64 0, .int .i64 0, .int .i64 0, .slice none 0 0]) ?_ 0 _ rfl; (with_reducible repeat (first | refine blk_drewN ?_ _ | refine blk_drew ?_ | refine blk_alloc ?_ _)); exact BK189.out))⟩; have n3_ : Aside0 (Below w.heap.size w w20) := ⟨(by rw [hw]; exact (by repeat (first | (with_reducible first | exact HB.out | apply below_alloc | apply pw_below_drewN | apply below_drew1 | refine below_set ?_ GE188.out | refine below_set ?_ GE189.out) | exact HB.out)))⟩; clear hw; clear HO187; clear BK188; clear BK189; clear HB; have HO187 := n0_; have BK188 := n1_; have BK189 := n2_; have HB := n3_; clear n0_ n1_ n2_ n3_))
   (try simp only [Act.put, List.setIfInBounds_toArray, List.set_cons_zero, List.set_cons_succ])
   go_cut [] (fun wc => ∃ (kq : Nat) (x190003_8 : List (S59)) (u190003 : Value), Aside0 (watchwordlaw20_GraphOne.j0 kq a3 (Go.bits .and .i64 a0 3) (Go.bits .and .i64 a1 3) (wrap64 (1 + (Go.bits .and .i64 a2 1023))) (wrap64 ((Go.bits .and .i64 a0 3) + 1)) 1 0 y185 (wrap64 ((Go.bits .and .i64 a1 3) + 1)) 1 0 x190003_8 = some r) ∧ Aside0 (kq ≤ k) ∧ Aside0 (Kd.R k59 59 wc w.heap.size (fun k_ => some k_ ≠ (u190003 : Value).ownBlock) (.slice Ao13 y185.length co13) y185) ∧ Aside0 (Kd.R k59 59 wc w.heap.size (fun k_ => some k_ ≠ ((.slice Ao13 y185.length co13) : Value).ownBlock) u190003 x190003_8) ∧ Aside0 (wc.heap[gb188]? = some (.cells #[.int .i64 (wrap64 ((Go.bits .and .i64 a0 3) + 1)), .int .i64 1, .int .i64 0, (.slice Ao13 y185.length co13)] 57 (0, 0))) ∧ Aside0 (wc.heap[gb189]? = some (.cells #[.int .i64 (wrap64 ((Go.bits .and .i64 a1 3) + 1)), .int .i64 1, .int .i64 0, u190003] 57 (0, 0))) ∧ Aside0 (Below w.heap.size w wc))
   case first =>
    have H := HC9.out
    clear HC9
    by_cases c21 : a3 = true
    ·exact absurd c21 hq1.out
    ·replace c21 := Bool.eq_false_iff.mpr c21
     subst c21
     have H1 : (watchwordlaw20_GraphOne.j0 k false (Go.bits .and .i64 a0 3) (Go.bits .and .i64 a1 3) (wrap64 (1 + (Go.bits .and .i64 a2 1023))) (wrap64 ((Go.bits .and .i64 a0 3) + 1)) 1 0 y185 (wrap64 ((Go.bits .and .i64 a1 3) + 1)) 1 0 ([] : List (S59))) = some r := by rw [if_neg (show ¬ (false = true) by decide)] at H; exact H
     clear H
     have H := H1
     clear H1
     focus
      have H' := Aside0.mk H
      clear H
      go_wp2
      go_meet
      case rel => exact ⟨_, (([] : List (S59))), (.slice none 0 0), H', ⟨by first | omega | exact Nat.le_refl _⟩, ⟨by (with_reducible repeat (first | apply Kd.R_alloc | apply Kd.R_drewN | apply Kd.R_drew)); exact Kd.R_mono HO187.out (fun _ hk => (by simp [Value.ownBlock]))⟩, ⟨by first | exact Kd.R_nil _ _ _ _ _ | exact Kd.N_nil _ _ _ _ _ | exact Kd.V_nil _ _ _ _ _ | exact Kd.Q_nil _ _ _ _ _ | exact Kd.S_nil _ _ _ _ _⟩, ⟨by (with_reducible repeat (first | refine blk_drewN ?_ _ | refine blk_drew ?_ | refine blk_alloc ?_ _)); exact BK188.out⟩, ⟨by (with_reducible repeat (first | refine blk_drewN ?_ _ | refine blk_drew ?_ | refine blk_alloc ?_ _)); exact BK189.out⟩, ⟨by repeat (first | (with_reducible first | exact HB.out | apply below_alloc | apply pw_below_drewN | apply below_drew1 | refine below_set ?_ GE188.out | refine below_set ?_ GE189.out) | exact HB.out)⟩⟩
   case rest =>
    clear HC9
    try clear c1
    try clear c2
    try clear p2
    try clear c6
    try clear p6
    try clear c7
    try clear c7b0
    try clear c7b1
    try clear c11
    try clear c16
    try clear c21
    try clear c25
    try clear hcz17_0
    try clear hcz17_1
    try clear hcz17_2
    try clear hcz17_3
    try clear hcz19_0
    try clear hcz19_1
    try clear hcz19_2
    try clear hcz19_3
    try clear hcz26_0
    try clear hcz26_1
    try clear hcz26_2
    try clear hcz26_3
    try clear hfz17_0
    try clear hfz17_1
    try clear hfz17_2
    try clear hfz17_3
    try clear hfz19_0
    try clear hfz19_1
    try clear hfz19_2
    try clear hfz19_3
    try clear hfz26_0
    try clear hfz26_1
    try clear hfz26_2
    try clear hfz26_3
    obtain ⟨kq, x190003_8, u190003, HA, HJ8, HO_189003, HO_190003, BK188, BK189, HB⟩ := hcut
    cases kq with
    | zero => exact absurd HA.out (by simp [watchwordlaw20_GraphOne.j0])
    | succ kj8 =>
     have H := HA.out
     clear HA
     simp only [watchwordlaw20_GraphOne.j0] at H
     by_cases c28 : (Go.bits .and .i64 a1 3) < (Go.bits .and .i64 a0 3)
     ·exact absurd c28 hq2.out
     ·rw [if_neg c28] at H
      have c28b0 : decide ((Go.bits .and .i64 a1 3) < (Go.bits .and .i64 a0 3)) = false := decide_eq_false c28
      clear c28
      obtain ⟨y235, hy235⟩ : ∃ y_ : List (S57), y_ = (([(⟨(wrap64 ((Go.bits .and .i64 a0 3) + 1)), 1, 0, y185⟩ : S57), (⟨(wrap64 ((Go.bits .and .i64 a1 3) + 1)), 1, 0, x190003_8⟩ : S57)] : List (S57))) := ⟨_, rfl⟩
      replace H : (if a3 = true then (if 0 ≤ (Go.bits .and .i64 a0 3) then (if (Go.bits .and .i64 a0 3) < 4 then (if 0 ≤ (Go.bits .and .i64 a1 3) then (if (Go.bits .and .i64 a1 3) < 4 then ((graph_Of.f kj8 y235).bind fun bt239 => ((watchwordlaw0_Num.f bt239.2.2.2.2.2.2.2.2.2.2.2.2.2.2.2.2).bind fun t257 => (if t257 = 0 then (some ((bt239.1 == (up ((Go.bits .and .i64 a1 3) == 0 && (Go.bits .and .i64 a0 3) == 0) 9 (up ((Go.bits .and .i64 a0 3) == 0 && (Go.bits .and .i64 a1 3) == 0) (wrap64 (1 + (Go.bits .and .i64 a2 1023))) 0)) && (bt239.2.1 == (up ((Go.bits .and .i64 a1 3) == 0 && (Go.bits .and .i64 a0 3) == 1) 9 (up ((Go.bits .and .i64 a0 3) == 0 && (Go.bits .and .i64 a1 3) == 1) (wrap64 (1 + (Go.bits .and .i64 a2 1023))) 0)) && (bt239.2.2.1 == (up ((Go.bits .and .i64 a1 3) == 0 && (Go.bits .and .i64 a0 3) == 2) 9 (up ((Go.bits .and .i64 a0 3) == 0 && (Go.bits .and .i64 a1 3) == 2) (wrap64 (1 + (Go.bits .and .i64 a2 1023))) 0)) && (bt239.2.2.2.1 == (up ((Go.bits .and .i64 a1 3) == 0 && (Go.bits .and .i64 a0 3) == 3) 9 (up ((Go.bits .and .i64 a0 3) == 0 && (Go.bits .and .i64 a1 3) == 3) (wrap64 (1 + (Go.bits .and .i64 a2 1023))) 0)))))) && ((bt239.2.2.2.2.1 == (up ((Go.bits .and .i64 a1 3) == 1 && (Go.bits .and .i64 a0 3) == 0) 9 (up ((Go.bits .and .i64 a0 3) == 1 && (Go.bits .and .i64 a1 3) == 0) (wrap64 (1 + (Go.bits .and .i64 a2 1023))) 0)) && (bt239.2.2.2.2.2.1 == (up ((Go.bits .and .i64 a1 3) == 1 && (Go.bits .and .i64 a0 3) == 1) 9 (up ((Go.bits .and .i64 a0 3) == 1 && (Go.bits .and .i64 a1 3) == 1) (wrap64 (1 + (Go.bits .and .i64 a2 1023))) 0)) && (bt239.2.2.2.2.2.2.1 == (up ((Go.bits .and .i64 a1 3) == 1 && (Go.bits .and .i64 a0 3) == 2) 9 (up ((Go.bits .and .i64 a0 3) == 1 && (Go.bits .and .i64 a1 3) == 2) (wrap64 (1 + (Go.bits .and .i64 a2 1023))) 0)) && (bt239.2.2.2.2.2.2.2.1 == (up ((Go.bits .and .i64 a1 3) == 1 && (Go.bits .and .i64 a0 3) == 3) 9 (up ((Go.bits .and .i64 a0 3) == 1 && (Go.bits .and .i64 a1 3) == 3) (wrap64 (1 + (Go.bits .and .i64 a2 1023))) 0)))))) && ((bt239.2.2.2.2.2.2.2.2.1 == (up ((Go.bits .and .i64 a1 3) == 2 && (Go.bits .and .i64 a0 3) == 0) 9 (up ((Go.bits .and .i64 a0 3) == 2 && (Go.bits .and .i64 a1 3) == 0) (wrap64 (1 + (Go.bits .and .i64 a2 1023))) 0)) && (bt239.2.2.2.2.2.2.2.2.2.1 == (up ((Go.bits .and .i64 a1 3) == 2 && (Go.bits .and .i64 a0 3) == 1) 9 (up ((Go.bits .and .i64 a0 3) == 2 && (Go.bits .and .i64 a1 3) == 1) (wrap64 (1 + (Go.bits .and .i64 a2 1023))) 0)) && (bt239.2.2.2.2.2.2.2.2.2.2.1 == (up ((Go.bits .and .i64 a1 3) == 2 && (Go.bits .and .i64 a0 3) == 2) 9 (up ((Go.bits .and .i64 a0 3) == 2 && (Go.bits .and .i64 a1 3) == 2) (wrap64 (1 + (Go.bits .and .i64 a2 1023))) 0)) && (bt239.2.2.2.2.2.2.2.2.2.2.2.1 == (up ((Go.bits .and .i64 a1 3) == 2 && (Go.bits .and .i64 a0 3) == 3) 9 (up ((Go.bits .and .i64 a0 3) == 2 && (Go.bits .and .i64 a1 3) == 3) (wrap64 (1 + (Go.bits .and .i64 a2 1023))) 0)))))) && ((bt239.2.2.2.2.2.2.2.2.2.2.2.2.1 == (up ((Go.bits .and .i64 a1 3) == 3 && (Go.bits .and .i64 a0 3) == 0) 9 (up ((Go.bits .and .i64 a0 3) == 3 && (Go.bits .and .i64 a1 3) == 0) (wrap64 (1 + (Go.bits .and .i64 a2 1023))) 0)) && (bt239.2.2.2.2.2.2.2.2.2.2.2.2.2.1 == (up ((Go.bits .and .i64 a1 3) == 3 && (Go.bits .and .i64 a0 3) == 1) 9 (up ((Go.bits .and .i64 a0 3) == 3 && (Go.bits .and .i64 a1 3) == 1) (wrap64 (1 + (Go.bits .and .i64 a2 1023))) 0)) && (bt239.2.2.2.2.2.2.2.2.2.2.2.2.2.2.1 == (up ((Go.bits .and .i64 a1 3) == 3 && (Go.bits .and .i64 a0 3) == 2) 9 (up ((Go.bits .and .i64 a0 3) == 3 && (Go.bits .and .i64 a1 3) == 2) (wrap64 (1 + (Go.bits .and .i64 a2 1023))) 0)) && (bt239.2.2.2.2.2.2.2.2.2.2.2.2.2.2.2.1 == (up ((Go.bits .and .i64 a1 3) == 3 && (Go.bits .and .i64 a0 3) == 3) 9 (up ((Go.bits .and .i64 a0 3) == 3 && (Go.bits .and .i64 a1 3) == 3) (wrap64 (1 + (Go.bits .and .i64 a2 1023))) 0))))))))))) else (some false)))) else (none)) else (none)) else (none)) else (none)) else ((graph_Of.f kj8 y235).bind fun bt258 => ((watchwordlaw0_Num.f bt258.2.2.2.2.2.2.2.2.2.2.2.2.2.2.2.2).bind fun t276 => (if t276 = 0 then (some ((bt258.1 == 0 && (bt258.2.1 == 0 && (bt258.2.2.1 == 0 && (bt258.2.2.2.1 == 0)))) && ((bt258.2.2.2.2.1 == 0 && (bt258.2.2.2.2.2.1 == 0 && (bt258.2.2.2.2.2.2.1 == 0 && (bt258.2.2.2.2.2.2.2.1 == 0)))) && ((bt258.2.2.2.2.2.2.2.2.1 == 0 && (bt258.2.2.2.2.2.2.2.2.2.1 == 0 && (bt258.2.2.2.2.2.2.2.2.2.2.1 == 0 && (bt258.2.2.2.2.2.2.2.2.2.2.2.1 == 0)))) && ((bt258.2.2.2.2.2.2.2.2.2.2.2.2.1 == 0 && (bt258.2.2.2.2.2.2.2.2.2.2.2.2.2.1 == 0 && (bt258.2.2.2.2.2.2.2.2.2.2.2.2.2.2.1 == 0 && (bt258.2.2.2.2.2.2.2.2.2.2.2.2.2.2.2.1 == 0))))))))) else (some false))))) = some r := by first | (rw [hy235]; with_reducible exact H) | (have H2_ := (Option.bind_some _ _).symm.trans H; rw [hy235]; with_reducible exact H2_) | (have H2_ := (Option.bind_some _ _).symm.trans H; with_reducible exact H2_) | with_reducible exact H | (rw [hy235]; exact H) | exact H
      have Ny235 := Aside0.mk hy235
      clear hy235
      by_cases c86 : a3 = true
      ·exact absurd c86 hq1.out
      ·replace c86 := Bool.eq_false_iff.mpr c86
       subst c86
       have H1 : ((graph_Of.f kj8 y235).bind fun bt258 => ((watchwordlaw0_Num.f bt258.2.2.2.2.2.2.2.2.2.2.2.2.2.2.2.2).bind fun t276 => (if t276 = 0 then (some ((bt258.1 == 0 && (bt258.2.1 == 0 && (bt258.2.2.1 == 0 && (bt258.2.2.2.1 == 0)))) && ((bt258.2.2.2.2.1 == 0 && (bt258.2.2.2.2.2.1 == 0 && (bt258.2.2.2.2.2.2.1 == 0 && (bt258.2.2.2.2.2.2.2.1 == 0)))) && ((bt258.2.2.2.2.2.2.2.2.1 == 0 && (bt258.2.2.2.2.2.2.2.2.2.1 == 0 && (bt258.2.2.2.2.2.2.2.2.2.2.1 == 0 && (bt258.2.2.2.2.2.2.2.2.2.2.2.1 == 0)))) && ((bt258.2.2.2.2.2.2.2.2.2.2.2.2.1 == 0 && (bt258.2.2.2.2.2.2.2.2.2.2.2.2.2.1 == 0 && (bt258.2.2.2.2.2.2.2.2.2.2.2.2.2.2.1 == 0 && (bt258.2.2.2.2.2.2.2.2.2.2.2.2.2.2.2.1 == 0))))))))) else (some false)))) = some r := by rw [if_neg (show ¬ (false = true) by decide)] at H; exact H
       clear H
       have H := H1
       clear H1
       replace H := Option.bind_eq_some_iff.mp H
       obtain ⟨⟨t258, t259, t260, t261, t262, t263, t264, t265, t266, t267, t268, t269, t270, t271, t272, t273, t274⟩, A1210, H⟩ := H
       replace H : ((watchwordlaw0_Num.f t274).bind fun t276 => (if t276 = 0 then (some ((t258 == 0 && (t259 == 0 && (t260 == 0 && (t261 == 0)))) && ((t262 == 0 && (t263 == 0 && (t264 == 0 && (t265 == 0)))) && ((t266 == 0 && (t267 == 0 && (t268 == 0 && (t269 == 0)))) && ((t270 == 0 && (t271 == 0 && (t272 == 0 && (t273 == 0))))))))) else (some false))) = some r := H
       have A121 := Aside0.mk A1210
       clear A1210
       replace H := Option.bind_eq_some_iff.mp H
       obtain ⟨t276, A1220, H⟩ := H
       replace H : (if t276 = 0 then (some ((t258 == 0 && (t259 == 0 && (t260 == 0 && (t261 == 0)))) && ((t262 == 0 && (t263 == 0 && (t264 == 0 && (t265 == 0)))) && ((t266 == 0 && (t267 == 0 && (t268 == 0 && (t269 == 0)))) && ((t270 == 0 && (t271 == 0 && (t272 == 0 && (t273 == 0))))))))) else (some false)) = some r := H
       have A122 := Aside0.mk A1220
       clear A1220
       by_cases c123 : t276 = 0
       ·rw [if_pos c123] at H
        have c123b0 : (t276 == 0) = true := beq_iff_eq.mpr c123
        have c123b1 : (t276 != 0) = false := bne_eq_false_iff_eq.mpr c123
        clear c123
        focus
         obtain rfl := Option.some.inj H
         have hnb124 := NB188_189.out
         have hnc124 := NB189_188.out
         have hcz125_0 : wc.cell? ⟨gb188, 0, none⟩ = some (.int .i64 (wrap64 ((Go.bits .and .i64 a0 3) + 1))) := (blk_cell BK188.out 0).trans rfl
         have hcz125_1 : wc.cell? ⟨gb188, 1, none⟩ = some (.int .i64 1) := (blk_cell BK188.out 1).trans rfl
         have hcz125_2 : wc.cell? ⟨gb188, 2, none⟩ = some (.int .i64 0) := (blk_cell BK188.out 2).trans rfl
         have hcz125_3 : wc.cell? ⟨gb188, 3, none⟩ = some (.slice Ao13 y185.length co13) := (blk_cell BK188.out 3).trans rfl
         have hfz125_0 := blk_frozen BK188.out 0
         have hfz125_1 := blk_frozen BK188.out 1
         have hfz125_2 := blk_frozen BK188.out 2
         have hfz125_3 := blk_frozen BK188.out 3
         have hcz126_0 : wc.cell? ⟨gb189, 0, none⟩ = some (.int .i64 (wrap64 ((Go.bits .and .i64 a1 3) + 1))) := (blk_cell BK189.out 0).trans rfl
         have hcz126_1 : wc.cell? ⟨gb189, 1, none⟩ = some (.int .i64 1) := (blk_cell BK189.out 1).trans rfl
         have hcz126_2 : wc.cell? ⟨gb189, 2, none⟩ = some (.int .i64 0) := (blk_cell BK189.out 2).trans rfl
         have hcz126_3 : wc.cell? ⟨gb189, 3, none⟩ = some (u190003) := (blk_cell BK189.out 3).trans rfl
         have hfz126_0 := blk_frozen BK189.out 0
         have hfz126_1 := blk_frozen BK189.out 1
         have hfz126_2 := blk_frozen BK189.out 2
         have hfz126_3 := blk_frozen BK189.out 3
         obtain ⟨Ao127, co127, eo127⟩ := Kd.R_slice HO_190003.out
         subst eo127
         go_wp2_with (first | ((with_reducible refine gate_dst (N := 49) rfl ?_); refine Kd.N_lit k57 _ 57 ?hg (N' := 49) ?hd (xs := ([(⟨(wrap64 ((Go.bits .and .i64 a0 3) + 1)), 1, 0, y185⟩ : S57), (⟨(wrap64 ((Go.bits .and .i64 a1 3) + 1)), 1, 0, x190003_8⟩ : S57)] : List (S57))) (inner := [.int .i64 (wrap64 ((Go.bits .and .i64 a0 3) + 1)), .int .i64 1, .int .i64 0, .slice Ao13 y185.length co13, .int .i64 (wrap64 ((Go.bits .and .i64 a1 3) + 1)), .int .i64 1, .int .i64 0, .slice Ao127 x190003_8.length co127]) (ok := (fun k_ => k_ ≠ gb188 ∧ k_ ≠ gb189)) (okp := (fun k_ => k_ ≠ gb188 ∧ k_ ≠ gb189)) ?hr ?hp (fun _ hk => hk) ((show ∀ k_, wc.heap.size ≤ k_ → (fun k_ => k_ ≠ gb188 ∧ k_ ≠ gb189) k_ from fun k_ hk => ⟨Kd.freshB (g := gb188) (o := .cells #[.int .i64 (wrap64 ((Go.bits .and .i64 a0 3) + 1)), .int .i64 1, .int .i64 0, .slice Ao13 y185.length co13] 57 (0, 0)) (by (with_reducible repeat (first | refine blk_drewN ?_ _ | refine blk_drew ?_ | refine blk_alloc ?_ _)); exact BK188.out) k_ hk, Kd.freshB (g := gb189) (o := .cells #[.int .i64 (wrap64 ((Go.bits .and .i64 a1 3) + 1)), .int .i64 1, .int .i64 0, .slice Ao127 x190003_8.length co127] 57 (0, 0)) (by (with_reducible repeat (first | refine blk_drewN ?_ _ | refine blk_drew ?_ | refine blk_alloc ?_ _)); exact BK189.out) k_ hk⟩) _ (Nat.le_refl _)) (Below.refl _ _) (Nat.le_refl _) (by simp) ?_; (case hd => rfl); (case hg => rfl); (case hr => first | (go_simp; done) | (go_simp; rfl)); (case hp => exact (Reps.c4 (show Kd.FK k57 _ _ (⟨(wrap64 ((Go.bits .and .i64 a0 3) + 1)), 1, 0, y185⟩ : S57) [.int .i64 (wrap64 ((Go.bits .and .i64 a0 3) + 1)), .int .i64 1, .int .i64 0, .slice Ao13 y185.length co13] from (k57_mkF _ _ (⟨(wrap64 ((Go.bits .and .i64 a0 3) + 1)), 1, 0, y185⟩ : S57) (Kd.R_reads' (Kd.R_mono (ok' := (fun k_ => k_ ≠ gb188 ∧ k_ ≠ gb189)) (Kd.R_types (Kd.R_types (HO_189003.out) BK188.out (by decide)) BK189.out (by decide)) (fun k_ hk => ⟨hk.1.2, hk.2⟩))).2.1 (Kd.R_F (Kd.R_mono (ok' := (fun k_ => k_ ≠ gb188 ∧ k_ ≠ gb189)) (Kd.R_types (Kd.R_types (HO_189003.out) BK188.out (by decide)) BK189.out (by decide)) (fun k_ hk => ⟨hk.1.2, hk.2⟩))))) (Reps.c4 (show Kd.FK k57 _ _ (⟨(wrap64 ((Go.bits .and .i64 a1 3) + 1)), 1, 0, x190003_8⟩ : S57) [.int .i64 (wrap64 ((Go.bits .and .i64 a1 3) + 1)), .int .i64 1, .int .i64 0, .slice Ao127 x190003_8.length co127] from (k57_mkF _ _ (⟨(wrap64 ((Go.bits .and .i64 a1 3) + 1)), 1, 0, x190003_8⟩ : S57) (Kd.R_reads' (Kd.R_mono (ok' := (fun k_ => k_ ≠ gb188 ∧ k_ ≠ gb189)) (Kd.R_types (Kd.R_types (HO_190003.out) BK188.out (by decide)) BK189.out (by decide)) (fun k_ hk => ⟨hk.1.2, hk.2⟩))).2.1 (Kd.R_F (Kd.R_mono (ok' := (fun k_ => k_ ≠ gb188 ∧ k_ ≠ gb189)) (Kd.R_types (Kd.R_types (HO_190003.out) BK188.out (by decide)) BK189.out (by decide)) (fun k_ hk => ⟨hk.1.2, hk.2⟩))))) (Reps.none _ _)))); intro v236 w128 ho129 hb hg_ hnew_; clear hg_ hnew_; (first | rw [← Ny235.out] at ho129 | (simp only [Int.reduceToNat] at ho129; rw [← Ny235.out] at ho129)); have n0_ := Aside0.mk (Kd.N_lower ho129 (below_size (by repeat (first | (with_reducible first | exact HB.out | apply below_alloc | apply pw_below_drewN | apply below_drew1 | refine below_set ?_ GE188.out | refine below_set ?_ GE189.out) | exact HB.out)))); have n1_ := Aside0.mk (blk_below (g := gb188) (o := .cells #[.int .i64 (wrap64 ((Go.bits .and .i64 a0 3) + 1)), .int .i64 1, .int .i64 0, .slice Ao13 y185.length co13] 57 (0, 0)) (by (with_reducible repeat (first | refine blk_drewN ?_ _ | refine blk_drew ?_ | refine blk_alloc ?_ _)); exact BK188.out) hb); have n2_ := Aside0.mk (blk_below (g := gb189) (o := .cells #[.int .i64 (wrap64 ((Go.bits .and .i64 a1 3) + 1)), .int .i64 1, .int .i64 0, .slice Ao127 x190003_8.length co127] 57 (0, 0)) (by (with_reducible repeat (first | refine blk_drewN ?_ _ | refine blk_drew ?_ | refine blk_alloc ?_ _)); exact BK189.out) hb); have n3_ := Aside0.mk (below_step (by repeat (first | (with_reducible first | exact HB.out | apply below_alloc | apply pw_below_drewN | apply below_drew1 | refine below_set ?_ GE188.out | refine below_set ?_ GE189.out) | exact HB.out)) hb); clear BK188; clear BK189; clear HB; clear HO_189003; clear HO_190003; have HO237 := n0_; have BK188 := n1_; have BK189 := n2_; have HB := n3_; clear n0_ n1_ n2_ n3_; clear hb ho129) | ((with_reducible refine gate_dst (N := 15) rfl ?_); refine box_event ?hg (N := 15) ?hd (cs := #[.int .i64 0, .int .i64 0, .int .i64 0, .int .i64 0, .int .i64 0, .int .i64 0, .int .i64 0, .int .i64 0, .int .i64 0, .int .i64 0, .int .i64 0, .int .i64 0, .int .i64 0, .int .i64 0, .int .i64 0, .int .i64 0]) (t := 23) ?hr ?_; (case hd => rfl); (case hg => rfl); (case hr => first | (go_simp; done) | (go_simp; rfl)); intro gb238 hg w130 hbox hb; have n0_ := Aside0.mk (Kd.N_below (Kd.N_elderB (by (with_reducible repeat (first | apply Kd.N_alloc | apply Kd.N_drewN | apply Kd.N_drew)); exact HO237.out) gb238 (Nat.le_of_eq hg.symm)) hb); have n1_ := Aside0.mk (blk_below (g := gb188) (o := .cells #[.int .i64 (wrap64 ((Go.bits .and .i64 a0 3) + 1)), .int .i64 1, .int .i64 0, .slice Ao13 y185.length co13] 57 (0, 0)) (by (with_reducible repeat (first | refine blk_drewN ?_ _ | refine blk_drew ?_ | refine blk_alloc ?_ _)); exact BK188.out) hb); have n2_ := Aside0.mk (blk_below (g := gb189) (o := .cells #[.int .i64 (wrap64 ((Go.bits .and .i64 a1 3) + 1)), .int .i64 1, .int .i64 0, .slice Ao127 x190003_8.length co127] 57 (0, 0)) (by (with_reducible repeat (first | refine blk_drewN ?_ _ | refine blk_drew ?_ | refine blk_alloc ?_ _)); exact BK189.out) hb); have n3_ := Aside0.mk (below_step (by repeat (first | (with_reducible first | exact HB.out | apply below_alloc | apply pw_below_drewN | apply below_drew1 | refine below_set ?_ GE188.out | refine below_set ?_ GE189.out) | exact HB.out)) hb); have n4_ := Aside0.mk (hbox); have n5_ := Aside0.mk ((by rw [hg]; exact (below_size (by repeat (first | (with_reducible first | exact HB.out | apply below_alloc | apply pw_below_drewN | apply below_drew1 | refine below_set ?_ GE188.out | refine below_set ?_ GE189.out) | exact HB.out))) : w.heap.size ≤ gb238)); have n6_ := Aside0.mk ((by rw [hg]; exact (below_size (by repeat (first | (with_reducible first | exact HB.out | apply below_alloc | apply pw_below_drewN | apply below_drew1 | refine below_set ?_ GE188.out | refine below_set ?_ GE189.out) | exact HB.out))) : w.heap.size ≤ gb238)); have n7_ := Aside0.mk ((by rw [hg]; exact Nat.ne_of_lt (blk_lt (g := gb188) (o := .cells #[.int .i64 (wrap64 ((Go.bits .and .i64 a0 3) + 1)), .int .i64 1, .int .i64 0, .slice Ao13 y185.length co13] 57 (0, 0)) (by (with_reducible repeat (first | refine blk_drewN ?_ _ | refine blk_drew ?_ | refine blk_alloc ?_ _)); exact BK188.out)) : gb188 ≠ gb238)); have n8_ := Aside0.mk ((by rw [hg]; exact Nat.ne_of_gt (blk_lt (g := gb188) (o := .cells #[.int .i64 (wrap64 ((Go.bits .and .i64 a0 3) + 1)), .int .i64 1, .int .i64 0, .slice Ao13 y185.length co13] 57 (0, 0)) (by (with_reducible repeat (first | refine blk_drewN ?_ _ | refine blk_drew ?_ | refine blk_alloc ?_ _)); exact BK188.out)) : gb238 ≠ gb188)); have n9_ := Aside0.mk ((by rw [hg]; exact Nat.ne_of_lt (blk_lt (g := gb189) (o := .cells #[.int .i64 (wrap64 ((Go.bits .and .i64 a1 3) + 1)), .int .i64 1, .int .i64 0, .slice Ao127 x190003_8.length co127] 57 (0, 0)) (by (with_reducible repeat (first | refine blk_drewN ?_ _ | refine blk_drew ?_ | refine blk_alloc ?_ _)); exact BK189.out)) : gb189 ≠ gb238)); have n10_ := Aside0.mk ((by rw [hg]; exact Nat.ne_of_gt (blk_lt (g := gb189) (o := .cells #[.int .i64 (wrap64 ((Go.bits .and .i64 a1 3) + 1)), .int .i64 1, .int .i64 0, .slice Ao127 x190003_8.length co127] 57 (0, 0)) (by (with_reducible repeat (first | refine blk_drewN ?_ _ | refine blk_drew ?_ | refine blk_alloc ?_ _)); exact BK189.out)) : gb238 ≠ gb189)); clear HO237; clear BK188; clear BK189; clear HB; have HO237 := n0_; have BK188 := n1_; have BK189 := n2_; have HB := n3_; have BK238 := n4_; have GW238 := n5_; have GE238 := n6_; have NB188_238 := n7_; have NB238_188 := n8_; have NB189_238 := n9_; have NB238_189 := n10_; clear n0_ n1_ n2_ n3_ n4_ n5_ n6_ n7_ n8_ n9_ n10_; clear hb hbox hg; obtain ⟨Ao131, co131, eo131⟩ := Kd.N_slice HO237.out; subst eo131) | ((with_reducible refine gate_callee (f := 21) rfl ?_); refine goesL_ (some 68) rfl rfl Try.func21 (by kernel_rfl) rfl #[.slice Ao131 y235.length co131] rfl (by (try simp only [List.map_toArray, List.map_cons, List.map_nil]); first | done | rfl | (simp only [List.length_drop, List.length_take]; rfl)) ?_; (with_reducible refine (graph_Of.calls kj8 _ _ y235 t258 t259 t260 t261 t262 t263 t264 t265 t266 t267 t268 t269 t270 t271 t272 t273 t274 _ ?side1 ?side2 A121.out).mono ?_); (case side1 => repeat (first | exact (Kd.N_reads' HO237.out).2.2 | (with_reducible refine Kd.C_alloc ?_ _) | (with_reducible refine Kd.C_drewN ?_ _) | (with_reducible refine Kd.C_drew ?_))); (case side2 => exact (Kd.N_reads' HO237.out).2.1); rintro e w132 ⟨rfl, hb⟩; refine ⟨_, rfl, ?_⟩; have n0_ := Aside0.mk (Kd.N_below (by (with_reducible repeat (first | apply Kd.N_alloc | apply Kd.N_drewN | apply Kd.N_drew)); exact HO237.out) hb); have n1_ := Aside0.mk (blk_below (g := gb188) (o := .cells #[.int .i64 (wrap64 ((Go.bits .and .i64 a0 3) + 1)), .int .i64 1, .int .i64 0, .slice Ao13 y185.length co13] 57 (0, 0)) (by (with_reducible repeat (first | refine blk_drewN ?_ _ | refine blk_drew ?_ | refine blk_alloc ?_ _)); exact BK188.out) hb); have n2_ := Aside0.mk (blk_below (g := gb189) (o := .cells #[.int .i64 (wrap64 ((Go.bits .and .i64 a1 3) + 1)), .int .i64 1, .int .i64 0, .slice Ao127 x190003_8.length co127] 57 (0, 0)) (by (with_reducible repeat (first | refine blk_drewN ?_ _ | refine blk_drew ?_ | refine blk_alloc ?_ _)); exact BK189.out) hb); have n3_ := Aside0.mk (blk_below (g := gb238) (o := .cells #[.int .i64 0, .int .i64 0, .int .i64 0, .int .i64 0, .int .i64 0, .int .i64 0, .int .i64 0, .int .i64 0, .int .i64 0, .int .i64 0, .int .i64 0, .int .i64 0, .int .i64 0, .int .i64 0, .int .i64 0, .int .i64 0] 23 (0, 0)) (by (with_reducible repeat (first | refine blk_drewN ?_ _ | refine blk_drew ?_ | refine blk_alloc ?_ _)); exact BK238.out) hb); have n4_ := Aside0.mk (below_step (by repeat (first | (with_reducible first | exact HB.out | apply below_alloc | apply pw_below_drewN | apply below_drew1 | refine below_set ?_ GE188.out | refine below_set ?_ GE189.out | refine below_set ?_ GE238.out) | exact HB.out)) hb); clear HO237; clear BK188; clear BK189; clear BK238; clear HB; have HO237 := n0_; have BK188 := n1_; have BK189 := n2_; have BK238 := n3_; have HB := n4_; clear n0_ n1_ n2_ n3_ n4_; (try clear hb); (try clear hb2); (try clear hk); (try clear hi)) | ((with_reducible refine gate_dst (N := 16) rfl ?_); refine box_event ?hg (N := 16) ?hd (cs := #[.int .i64 0, .int .i64 0, .int .i64 0, .int .i64 0, .int .i64 0, .int .i64 0, .int .i64 0, .int .i64 0, .int .i64 0, .int .i64 0, .int .i64 0, .int .i64 0, .int .i64 0, .int .i64 0, .int .i64 0, .int .i64 0]) (t := 23) ?hr ?_; (case hd => rfl); (case hg => rfl); (case hr => first | (go_simp; done) | (go_simp; rfl)); intro gb275 hg w133 hbox hb; have n0_ := Aside0.mk (Kd.N_below (Kd.N_elderB (by (with_reducible repeat (first | apply Kd.N_alloc | apply Kd.N_drewN | apply Kd.N_drew)); exact HO237.out) gb275 (Nat.le_of_eq hg.symm)) hb); have n1_ := Aside0.mk (blk_below (g := gb188) (o := .cells #[.int .i64 (wrap64 ((Go.bits .and .i64 a0 3) + 1)), .int .i64 1, .int .i64 0, .slice Ao13 y185.length co13] 57 (0, 0)) (by (with_reducible repeat (first | refine blk_drewN ?_ _ | refine blk_drew ?_ | refine blk_alloc ?_ _)); exact BK188.out) hb); have n2_ := Aside0.mk (blk_below (g := gb189) (o := .cells #[.int .i64 (wrap64 ((Go.bits .and .i64 a1 3) + 1)), .int .i64 1, .int .i64 0, .slice Ao127 x190003_8.length co127] 57 (0, 0)) (by (with_reducible repeat (first | refine blk_drewN ?_ _ | refine blk_drew ?_ | refine blk_alloc ?_ _)); exact BK189.out) hb); have n3_ := Aside0.mk (blk_below (g := gb238) (o := .cells #[.int .i64 0, .int .i64 0, .int .i64 0, .int .i64 0, .int .i64 0, .int .i64 0, .int .i64 0, .int .i64 0, .int .i64 0, .int .i64 0, .int .i64 0, .int .i64 0, .int .i64 0, .int .i64 0, .int .i64 0, .int .i64 0] 23 (0, 0)) (by (with_reducible repeat (first | refine blk_drewN ?_ _ | refine blk_drew ?_ | refine blk_alloc ?_ _)); exact BK238.out) hb); have n4_ := Aside0.mk (below_step (by repeat (first | (with_reducible first | exact HB.out | apply below_alloc | apply pw_below_drewN | apply below_drew1 | refine below_set ?_ GE188.out | refine below_set ?_ GE189.out | refine below_set ?_ GE238.out) | exact HB.out)) hb); have n5_ := Aside0.mk (hbox); have n6_ := Aside0.mk ((by rw [hg]; exact (below_size (by repeat (first | (with_reducible first | exact HB.out | apply below_alloc | apply pw_below_drewN | apply below_drew1 | refine below_set ?_ GE188.out | refine below_set ?_ GE189.out | refine below_set ?_ GE238.out) | exact HB.out))) : w.heap.size ≤ gb275)); have n7_ := Aside0.mk ((by rw [hg]; exact (below_size (by repeat (first | (with_reducible first | exact HB.out | apply below_alloc | apply pw_below_drewN | apply below_drew1 | refine below_set ?_ GE188.out | refine below_set ?_ GE189.out | refine below_set ?_ GE238.out) | exact HB.out))) : w.heap.size ≤ gb275)); have n8_ := Aside0.mk ((by rw [hg]; exact Nat.ne_of_lt (blk_lt (g := gb188) (o := .cells #[.int .i64 (wrap64 ((Go.bits .and .i64 a0 3) + 1)), .int .i64 1, .int .i64 0, .slice Ao13 y185.length co13] 57 (0, 0)) (by (with_reducible repeat (first | refine blk_drewN ?_ _ | refine blk_drew ?_ | refine blk_alloc ?_ _)); exact BK188.out)) : gb188 ≠ gb275)); have n9_ := Aside0.mk ((by rw [hg]; exact Nat.ne_of_gt (blk_lt (g := gb188) (o := .cells #[.int .i64 (wrap64 ((Go.bits .and .i64 a0 3) + 1)), .int .i64 1, .int .i64 0, .slice Ao13 y185.length co13] 57 (0, 0)) (by (with_reducible repeat (first | refine blk_drewN ?_ _ | refine blk_drew ?_ | refine blk_alloc ?_ _)); exact BK188.out)) : gb275 ≠ gb188)); have n10_ := Aside0.mk ((by rw [hg]; exact Nat.ne_of_lt (blk_lt (g := gb189) (o := .cells #[.int .i64 (wrap64 ((Go.bits .and .i64 a1 3) + 1)), .int .i64 1, .int .i64 0, .slice Ao127 x190003_8.length co127] 57 (0, 0)) (by (with_reducible repeat (first | refine blk_drewN ?_ _ | refine blk_drew ?_ | refine blk_alloc ?_ _)); exact BK189.out)) : gb189 ≠ gb275)); have n11_ := Aside0.mk ((by rw [hg]; exact Nat.ne_of_gt (blk_lt (g := gb189) (o := .cells #[.int .i64 (wrap64 ((Go.bits .and .i64 a1 3) + 1)), .int .i64 1, .int .i64 0, .slice Ao127 x190003_8.length co127] 57 (0, 0)) (by (with_reducible repeat (first | refine blk_drewN ?_ _ | refine blk_drew ?_ | refine blk_alloc ?_ _)); exact BK189.out)) : gb275 ≠ gb189)); have n12_ := Aside0.mk ((by rw [hg]; exact Nat.ne_of_lt (blk_lt (g := gb238) (o := .cells #[.int .i64 0, .int .i64 0, .int .i64 0, .int .i64 0, .int .i64 0, .int .i64 0, .int .i64 0, .int .i64 0, .int .i64 0, .int .i64 0, .int .i64 0, .int .i64 0, .int .i64 0, .int .i64 0, .int .i64 0, .int .i64 0] 23 (0, 0)) (by (with_reducible repeat (first | refine blk_drewN ?_ _ | refine blk_drew ?_ | refine blk_alloc ?_ _)); exact BK238.out)) : gb238 ≠ gb275)); have n13_ := Aside0.mk ((by rw [hg]; exact Nat.ne_of_gt (blk_lt (g := gb238) (o := .cells #[.int .i64 0, .int .i64 0, .int .i64 0, .int .i64 0, .int .i64 0, .int .i64 0, .int .i64 0, .int .i64 0, .int .i64 0, .int .i64 0, .int .i64 0, .int .i64 0, .int .i64 0, .int .i64 0, .int .i64 0, .int .i64 0] 23 (0, 0)) (by (with_reducible repeat (first | refine blk_drewN ?_ _ | refine blk_drew ?_ | refine blk_alloc ?_ _)); exact BK238.out)) : gb275 ≠ gb238)); clear HO237; clear BK188; clear BK189; clear BK238; clear HB; have HO237 := n0_; have BK188 := n1_; have BK189 := n2_; have BK238 := n3_; have HB := n4_; have BK275 := n5_; have GW275 := n6_; have GE275 := n7_; have NB188_275 := n8_; have NB275_188 := n9_; have NB189_275 := n10_; have NB275_189 := n11_; have NB238_275 := n12_; have NB275_238 := n13_; clear n0_ n1_ n2_ n3_ n4_ n5_ n6_ n7_ n8_ n9_ n10_ n11_ n12_ n13_; clear hb hbox hg; have hnb134 := NB275_188.out; have hnc134 := NB188_275.out; have hnb135 := NB275_189.out; have hnc135 := NB189_275.out; have hnb136 := NB275_238.out; have hnc136 := NB238_275.out; have hcz137_0 : w133.cell? ⟨gb275, 0, none⟩ = some (.int .i64 0) := (blk_cell BK275.out 0).trans rfl; have hcz137_1 : w133.cell? ⟨gb275, 1, none⟩ = some (.int .i64 0) := (blk_cell BK275.out 1).trans rfl; have hcz137_2 : w133.cell? ⟨gb275, 2, none⟩ = some (.int .i64 0) := (blk_cell BK275.out 2).trans rfl; have hcz137_3 : w133.cell? ⟨gb275, 3, none⟩ = some (.int .i64 0) := (blk_cell BK275.out 3).trans rfl; have hcz137_4 : w133.cell? ⟨gb275, 4, none⟩ = some (.int .i64 0) := (blk_cell BK275.out 4).trans rfl; have hcz137_5 : w133.cell? ⟨gb275, 5, none⟩ = some (.int .i64 0) := (blk_cell BK275.out 5).trans rfl; have hcz137_6 : w133.cell? ⟨gb275, 6, none⟩ = some (.int .i64 0) := (blk_cell BK275.out 6).trans rfl; have hcz137_7 : w133.cell? ⟨gb275, 7, none⟩ = some (.int .i64 0) := (blk_cell BK275.out 7).trans rfl; have hcz137_8 : w133.cell? ⟨gb275, 8, none⟩ = some (.int .i64 0) := (blk_cell BK275.out 8).trans rfl; have hcz137_9 : w133.cell? ⟨gb275, 9, none⟩ = some (.int .i64 0) := (blk_cell BK275.out 9).trans rfl; have hcz137_10 : w133.cell? ⟨gb275, 10, none⟩ = some (.int .i64 0) := (blk_cell BK275.out 10).trans rfl; have hcz137_11 : w133.cell? ⟨gb275, 11, none⟩ = some (.int .i64 0) := (blk_cell BK275.out 11).trans rfl; have hcz137_12 : w133.cell? ⟨gb275, 12, none⟩ = some (.int .i64 0) := (blk_cell BK275.out 12).trans rfl; have hcz137_13 : w133.cell? ⟨gb275, 13, none⟩ = some (.int .i64 0) := (blk_cell BK275.out 13).trans rfl; have hcz137_14 : w133.cell? ⟨gb275, 14, none⟩ = some (.int .i64 0) := (blk_cell BK275.out 14).trans rfl; have hcz137_15 : w133.cell? ⟨gb275, 15, none⟩ = some (.int .i64 0) := (blk_cell BK275.out 15).trans rfl; have hfz137_0 := blk_frozen BK275.out 0; have hfz137_1 := blk_frozen BK275.out 1; have hfz137_2 := blk_frozen BK275.out 2; have hfz137_3 := blk_frozen BK275.out 3; have hfz137_4 := blk_frozen BK275.out 4; have hfz137_5 := blk_frozen BK275.out 5; have hfz137_6 := blk_frozen BK275.out 6; have hfz137_7 := blk_frozen BK275.out 7; have hfz137_8 := blk_frozen BK275.out 8; have hfz137_9 := blk_frozen BK275.out 9; have hfz137_10 := blk_frozen BK275.out 10; have hfz137_11 := blk_frozen BK275.out 11; have hfz137_12 := blk_frozen BK275.out 12; have hfz137_13 := blk_frozen BK275.out 13; have hfz137_14 := blk_frozen BK275.out 14; have hfz137_15 := blk_frozen BK275.out 15) | ((with_reducible refine gate_store (t := 23) (p := 16) rfl ?_); refine store_event (t := 23) (p := 16) (v := ?vo_w138) (w1 := ((((((((((((((((w133.setCell ⟨gb275, 0, none⟩ (.int .i64 t258)).setCell ⟨gb275, 1, none⟩ (.int .i64 t259)).setCell ⟨gb275, 2, none⟩ (.int .i64 t260)).setCell ⟨gb275, 3, none⟩ (.int .i64 t261)).setCell ⟨gb275, 4, none⟩ (.int .i64 t262)).setCell ⟨gb275, 5, none⟩ (.int .i64 t263)).setCell ⟨gb275, 6, none⟩ (.int .i64 t264)).setCell ⟨gb275, 7, none⟩ (.int .i64 t265)).setCell ⟨gb275, 8, none⟩ (.int .i64 t266)).setCell ⟨gb275, 9, none⟩ (.int .i64 t267)).setCell ⟨gb275, 10, none⟩ (.int .i64 t268)).setCell ⟨gb275, 11, none⟩ (.int .i64 t269)).setCell ⟨gb275, 12, none⟩ (.int .i64 t270)).setCell ⟨gb275, 13, none⟩ (.int .i64 t271)).setCell ⟨gb275, 14, none⟩ (.int .i64 t272)).setCell ⟨gb275, 15, none⟩ (.int .i64 t273))) ?hg ?ho ?hn ?hr ?_; (case ho => rfl); (case hg => rfl); (case hn => rfl); (case hr => first | (go_simp; done) | (go_simp; rfl)); intro w138 hw; have n0_ : Aside0 (Kd.N k57 57 w138 w.heap.size (fun k_ => k_ ≠ gb188 ∧ k_ ≠ gb189 ∧ k_ ≠ gb238 ∧ k_ ≠ gb275) (.slice Ao131 y235.length co131) y235) := ⟨(by rw [hw]; exact (by (with_reducible repeat (first | apply Kd.N_alloc | apply Kd.N_drewN | apply Kd.N_drew)); exact Kd.N_mono (Kd.N_far (p := ⟨gb275, 15, none⟩) (Kd.N_far (p := ⟨gb275, 14, none⟩) (Kd.N_far (p := ⟨gb275, 13, none⟩) (Kd.N_far (p := ⟨gb275, 12, none⟩) (Kd.N_far (p := ⟨gb275, 11, none⟩) (Kd.N_far (p := ⟨gb275, 10, none⟩) (Kd.N_far (p := ⟨gb275, 9, none⟩) (Kd.N_far (p := ⟨gb275, 8, none⟩) (Kd.N_far (p := ⟨gb275, 7, none⟩) (Kd.N_far (p := ⟨gb275, 6, none⟩) (Kd.N_far (p := ⟨gb275, 5, none⟩) (Kd.N_far (p := ⟨gb275, 4, none⟩) (Kd.N_far (p := ⟨gb275, 3, none⟩) (Kd.N_far (p := ⟨gb275, 2, none⟩) (Kd.N_far (p := ⟨gb275, 1, none⟩) (Kd.N_far (p := ⟨gb275, 0, none⟩) (Kd.N_mono HO237.out (fun k_ hk => (⟨hk, hk.2⟩ : _ ∧ k_ ≠ gb275))) (fun _ hk => hk.2) (.int .i64 t258)) (fun _ hk => hk.2) (.int .i64 t259)) (fun _ hk => hk.2) (.int .i64 t260)) (fun _ hk => hk.2) (.int .i64 t261)) (fun _ hk => hk.2) (.int .i64 t262)) (fun _ hk => hk.2) (.int .i64 t263)) (fun _ hk => hk.2) (.int .i64 t264)) (fun _ hk => hk.2) (.int .i64 t265)) (fun _ hk => hk.2) (.int .i64 t266)) (fun _ hk => hk.2) (.int .i64 t267)) (fun _ hk => hk.2) (.int .i64 t268)) (fun _ hk => hk.2) (.int .i64 t269)) (fun _ hk => hk.2) (.int .i64 t270)) (fun _ hk => hk.2) (.int .i64 t271)) (fun _ hk => hk.2) (.int .i64 t272)) (fun _ hk => hk.2) (.int .i64 t273)) (fun _ hk => ⟨hk.1.1.1.1, ⟨hk.1.1.1.2, ⟨hk.1.1.2, hk.1.2⟩⟩⟩)))⟩; have n1_ : Aside0 (w138.heap[gb188]? = some (.cells #[.int .i64 (wrap64 ((Go.bits .and .i64 a0 3) + 1)), .int .i64 1, .int .i64 0, .slice Ao13 y185.length co13] 57 (0, 0))) := ⟨(by rw [hw]; exact (by (with_reducible repeat (first | refine blk_drewN ?_ _ | refine blk_drew ?_ | refine blk_alloc ?_ _)); refine blk_far ?_ NB188_275.out _; (with_reducible repeat (first | refine blk_drewN ?_ _ | refine blk_drew ?_ | refine blk_alloc ?_ _)); refine blk_far ?_ NB188_275.out _; (with_reducible repeat (first | refine blk_drewN ?_ _ | refine blk_drew ?_ | refine blk_alloc ?_ _)); refine blk_far ?_ NB188_275.out _; (with_reducible repeat (first | refine blk_drewN ?_ _ | refine blk_drew ?_ | refine blk_alloc ?_ _)); refine blk_far ?_ NB188_275.out _; (with_reducible repeat (first | refine blk_drewN ?_ _ | refine blk_drew ?_ | refine blk_alloc ?_ _)); refine blk_far ?_ NB188_275.out _; (with_reducible repeat (first | refine blk_drewN ?_ _ | refine blk_drew ?_ | refine blk_alloc ?_ _)); refine blk_far ?_ NB188_275.out _; (with_reducible repeat (first | refine blk_drewN ?_ _ | refine blk_drew ?_ | refine blk_alloc ?_ _)); refine blk_far ?_ NB188_275.out _; (with_reducible repeat (first | refine blk_drewN ?_ _ | refine blk_drew ?_ | refine blk_alloc ?_ _)); refine blk_far ?_ NB188_275.out _; (with_reducible repeat (first | refine blk_drewN ?_ _ | refine blk_drew ?_ | refine blk_alloc ?_ _)); refine blk_far ?_ NB188_275.out _; (with_reducible repeat (first | refine blk_drewN ?_ _ | refine blk_drew ?_ | refine blk_alloc ?_ _)); refine blk_far ?_ NB188_275.out _; (with_reducible repeat (first | refine blk_drewN ?_ _ | refine blk_drew ?_ | refine blk_alloc ?_ _)); refine blk_far ?_ NB188_275.out _; (with_reducible repeat (first | refine blk_drewN ?_ _ | refine blk_drew ?_ | refine blk_alloc ?_ _)); refine blk_far ?_ NB188_275.out _; (with_reducible repeat (first | refine blk_drewN ?_ _ | refine blk_drew ?_ | refine blk_alloc ?_ _)); refine blk_far ?_ NB188_275.out _; (with_reducible repeat (first | refine blk_drewN ?_ _ | refine blk_drew ?_ | refine blk_alloc ?_ _)); refine blk_far ?_ NB188_275.out _; (with_reducible repeat (first | refine blk_drewN ?_ _ | refine blk_drew ?_ | refine blk_alloc ?_ _)); refine blk_far ?_ NB188_275.out _; (with_reducible repeat (first | refine blk_drewN ?_ _ | refine blk_drew ?_ | refine blk_alloc ?_ _)); refine blk_far ?_ NB188_275.out _; (with_reducible repeat (first | refine blk_drewN ?_ _ | refine blk_drew ?_ | refine blk_alloc ?_ _)); exact BK188.out))⟩; have n2_ : Aside0 (w138.heap[gb189]? = some (.cells #[.int .i64 (wrap64 ((Go.bits .and .i64 a1 3) + 1)), .int .i64 1, .int .i64 0, .slice Ao127 x190003_8.length co127] 57 (0, 0))) := ⟨(by rw [hw]; exact (by (with_reducible repeat (first | refine blk_drewN ?_ _ | refine blk_drew ?_ | refine blk_alloc ?_ _)); refine blk_far ?_ NB189_275.out _; (with_reducible repeat (first | refine blk_drewN ?_ _ | refine blk_drew ?_ | refine blk_alloc ?_ _)); refine blk_far ?_ NB189_275.out _; (with_reducible repeat (first | refine blk_drewN ?_ _ | refine blk_drew ?_ | refine blk_alloc ?_ _)); refine blk_far ?_ NB189_275.out _; (with_reducible repeat (first | refine blk_drewN ?_ _ | refine blk_drew ?_ | refine blk_alloc ?_ _)); refine blk_far ?_ NB189_275.out _; (with_reducible repeat (first | refine blk_drewN ?_ _ | refine blk_drew ?_ | refine blk_alloc ?_ _)); refine blk_far ?_ NB189_275.out _; (with_reducible repeat (first | refine blk_drewN ?_ _ | refine blk_drew ?_ | refine blk_alloc ?_ _)); refine blk_far ?_ NB189_275.out _; (with_reducible repeat (first | refine blk_drewN ?_ _ | refine blk_drew ?_ | refine blk_alloc ?_ _)); refine blk_far ?_ NB189_275.out _; (with_reducible repeat (first | refine blk_drewN ?_ _ | refine blk_drew ?_ | refine blk_alloc ?_ _)); refine blk_far ?_ NB189_275.out _; (with_reducible repeat (first | refine blk_drewN ?_ _ | refine blk_drew ?_ | refine blk_alloc ?_ _)); refine blk_far ?_ NB189_275.out _; (with_reducible repeat (first | refine blk_drewN ?_ _ | refine blk_drew ?_ | refine blk_alloc ?_ _)); refine blk_far ?_ NB189_275.out _; (with_reducible repeat (first | refine blk_drewN ?_ _ | refine blk_drew ?_ | refine blk_alloc ?_ _)); refine blk_far ?_ NB189_275.out _; (with_reducible repeat (first | refine blk_drewN ?_ _ | refine blk_drew ?_ | refine blk_alloc ?_ _)); refine blk_far ?_ NB189_275.out _; (with_reducible repeat (first | refine blk_drewN ?_ _ | refine blk_drew ?_ | refine blk_alloc ?_ _)); refine blk_far ?_ NB189_275.out _; (with_reducible repeat (first | refine blk_drewN ?_ _ | refine blk_drew ?_ | refine blk_alloc ?_ _)); refine blk_far ?_ NB189_275.out _; (with_reducible repeat (first | refine blk_drewN ?_ _ | refine blk_drew ?_ | refine blk_alloc ?_ _)); refine blk_far ?_ NB189_275.out _; (with_reducible repeat (first | refine blk_drewN ?_ _ | refine blk_drew ?_ | refine blk_alloc ?_ _)); refine blk_far ?_ NB189_275.out _; (with_reducible repeat (first | refine blk_drewN ?_ _ | refine blk_drew ?_ | refine blk_alloc ?_ _)); exact BK189.out))⟩; have n3_ : Aside0 (w138.heap[gb238]? = some (.cells #[.int .i64 0, .int .i64 0, .int .i64 0, .int .i64 0, .int .i64 0, .int .i64 0, .int .i64 0, .int .i64 0, .int .i64 0, .int .i64 0, .int .i64 0, .int .i64 0, .int .i64 0, .int .i64 0, .int .i64 0, .int .i64 0] 23 (0, 0))) := ⟨(by rw [hw]; exact (by (with_reducible repeat (first | refine blk_drewN ?_ _ | refine blk_drew ?_ | refine blk_alloc ?_ _)); refine blk_far ?_ NB238_275.out _; (with_reducible repeat (first | refine blk_drewN ?_ _ | refine blk_drew ?_ | refine blk_alloc ?_ _)); refine blk_far ?_ NB238_275.out _; (with_reducible repeat (first | refine blk_drewN ?_ _ | refine blk_drew ?_ | refine blk_alloc ?_ _)); refine blk_far ?_ NB238_275.out _; (with_reducible repeat (first | refine blk_drewN ?_ _ | refine blk_drew ?_ | refine blk_alloc ?_ _)); refine blk_far ?_ NB238_275.out _; (with_reducible repeat (first | refine blk_drewN ?_ _ | refine blk_drew ?_ | refine blk_alloc ?_ _)); refine blk_far ?_ NB238_275.out _; (with_reducible repeat (first | refine blk_drewN ?_ _ | refine blk_drew ?_ | refine blk_alloc ?_ _)); refine blk_far ?_ NB238_275.out _; (with_reducible repeat (first | refine blk_drewN ?_ _ | refine blk_drew ?_ | refine blk_alloc ?_ _)); refine blk_far ?_ NB238_275.out _; (with_reducible repeat (first | refine blk_drewN ?_ _ | refine blk_drew ?_ | refine blk_alloc ?_ _)); refine blk_far ?_ NB238_275.out _; (with_reducible repeat (first | refine blk_drewN ?_ _ | refine blk_drew ?_ | refine blk_alloc ?_ _)); refine blk_far ?_ NB238_275.out _; (with_reducible repeat (first | refine blk_drewN ?_ _ | refine blk_drew ?_ | refine blk_alloc ?_ _)); refine blk_far ?_ NB238_275.out _; (with_reducible repeat (first | refine blk_drewN ?_ _ | refine blk_drew ?_ | refine blk_alloc ?_ _)); refine blk_far ?_ NB238_275.out _; (with_reducible repeat (first | refine blk_drewN ?_ _ | refine blk_drew ?_ | refine blk_alloc ?_ _)); refine blk_far ?_ NB238_275.out _; (with_reducible repeat (first | refine blk_drewN ?_ _ | refine blk_drew ?_ | refine blk_alloc ?_ _)); refine blk_far ?_ NB238_275.out _; (with_reducible repeat (first | refine blk_drewN ?_ _ | refine blk_drew ?_ | refine blk_alloc ?_ _)); refine blk_far ?_ NB238_275.out _; (with_reducible repeat (first | refine blk_drewN ?_ _ | refine blk_drew ?_ | refine blk_alloc ?_ _)); refine blk_far ?_ NB238_275.out _; (with_reducible repeat (first | refine blk_drewN ?_ _ | refine blk_drew ?_ | refine blk_alloc ?_ _)); refine blk_far ?_ NB238_275.out _; (with_reducible repeat (first | refine blk_drewN ?_ _ | refine blk_drew ?_ | refine blk_alloc ?_ _)); exact BK238.out))⟩; have n4_ : Aside0 (w138.heap[gb275]? = some (.cells #[.int .i64 t258, .int .i64 t259, .int .i64 t260, .int .i64 t261, .int .i64 t262, .int .i64 t263, .int .i64 t264, .int .i64 t265, .int .i64 t266, .int .i64 t267, .int .i64 t268, .int .i64 t269, .int .i64 t270, .int .i64 t271, .int .i64 t272, .int .i64 t273] 23 (0, 0))) := ⟨(by rw [hw]; exact (by (with_reducible repeat (first | refine blk_drewN ?_ _ | refine blk_drew ?_ | refine blk_alloc ?_ _)); refine blk_put (cs := #[.int .i64 t258, .int .i64 t259, .int .i64 t260, .int .i64 t261, .int .i64 t262, .int .i64 t263, .int .i64 t264, .int .i64 t265, .int .i64 t266, .int .i64 t267, .int .i64 t268, .int .i64 t269, .int .i64 t270, .int .i64 t271, .int .i64 t272, .int .i64 0]) ?_ 15 _ rfl; (with_reducible repeat (first | refine blk_drewN ?_ _ | refine blk_drew ?_ | refine blk_alloc ?_ _)); refine blk_put (cs := #[.int .i64 t258, .int .i64 t259, .int .i64 t260, .int .i64 t261, .int .i64 t262, .int .i64 t263, .int .i64 t264, .int .i64 t265, .int .i64 t266, .int .i64 t267, .int .i64 t268, .int .i64 t269, .int .i64 t270, .int .i64 t271, .int .i64 0, .int .i64 0]) ?_ 14 _ rfl; (with_reducible repeat (first | refine blk_drewN ?_ _ | refine blk_drew ?_ | refine blk_alloc ?_ _)); refine blk_put (cs := #[.int .i64 t258, .int .i64 t259, .int .i64 t260, .int .i64 t261, .int .i64 t262, .int .i64 t263, .int .i64 t264, .int .i64 t265, .int .i64 t266, .int .i64 t267, .int .i64 t268, .int .i64 t269, .int .i64 t270, .int .i64 0, .int .i64 0, .int .i64 0]) ?_ 13 _ rfl; (with_reducible repeat (first | refine blk_drewN ?_ _ | refine blk_drew ?_ | refine blk_alloc ?_ _)); refine blk_put (cs := #[.int .i64 t258, .int .i64 t259, .int .i64 t260, .int .i64 t261, .int .i64 t262, .int .i64 t263, .int .i64 t264, .int .i64 t265, .int .i64 t266, .int .i64 t267, .int .i64 t268, .int .i64 t269, .int .i64 0, .int .i64 0, .int .i64 0, .int .i64 0]) ?_ 12 _ rfl; (with_reducible repeat (first | refine blk_drewN ?_ _ | refine blk_drew ?_ | refine blk_alloc ?_ _)); refine blk_put (cs := #[.int .i64 t258, .int .i64 t259, .int .i64 t260, .int .i64 t261, .int .i64 t262, .int .i64 t263, .int .i64 t264, .int .i64 t265, .int .i64 t266, .int .i64 t267, .int .i64 t268, .int .i64 0, .int .i64 0, .int .i64 0, .int .i64 0, .int .i64 0]) ?_ 11 _ rfl; (with_reducible repeat (first | refine blk_drewN ?_ _ | refine blk_drew ?_ | refine blk_alloc ?_ _)); refine blk_put (cs := #[.int .i64 t258, .int .i64 t259, .int .i64 t260, .int .i64 t261, .int .i64 t262, .int .i64 t263, .int .i64 t264, .int .i64 t265, .int .i64 t266, .int .i64 t267, .int .i64 0, .int .i64 0, .int .i64 0, .int .i64 0, .int .i64 0, .int .i64 0]) ?_ 10 _ rfl; (with_reducible repeat (first | refine blk_drewN ?_ _ | refine blk_drew ?_ | refine blk_alloc ?_ _)); refine blk_put (cs := #[.int .i64 t258, .int .i64 t259, .int .i64 t260, .int .i64 t261, .int .i64 t262, .int .i64 t263, .int .i64 t264, .int .i64 t265, .int .i64 t266, .int .i64 0, .int .i64 0, .int .i64 0, .int .i64 0, .int .i64 0, .int .i64 0, .int .i64 0]) ?_ 9 _ rfl; (with_reducible repeat (first | refine blk_drewN ?_ _ | refine blk_drew ?_ | refine blk_alloc ?_ _)); refine blk_put (cs := #[.int .i64 t258, .int .i64 t259, .int .i64 t260, .int .i64 t261, .int .i64 t262, .int .i64 t263, .int .i64 t264, .int .i64 t265, .int .i64 0, .int .i64 0, .int .i64 0, .int .i64 0, .int .i64 0, .int .i64 0, .int .i64 0, .int .i64 0]) ?_ 8 _ rfl; (with_reducible repeat (first | refine blk_drewN ?_ _ | refine blk_drew ?_ | refine blk_alloc ?_ _)); refine blk_put (cs := #[.int .i64 t258, .int .i64 t259, .int .i64 t260, .int .i64 t261, .int .i64 t262, .int .i64 t263, .int .i64 t264, .int .i64 0, .int .i64 0, .int .i64 0, .int .i64 0, .int .i64 0, .int .i64 0, .int .i64 0, .int .i64 0, .int .i64 0]) ?_ 7 _ rfl; (with_reducible repeat (first | refine blk_drewN ?_ _ | refine blk_drew ?_ | refine blk_alloc ?_ _)); refine blk_put (cs := #[.int .i64 t258, .int .i64 t259, .int .i64 t260, .int .i64 t261, .int .i64 t262, .int .i64 t263, .int .i64 0, .int .i64 0, .int .i64 0, .int .i64 0, .int .i64 0, .int .i64 0, .int .i64 0, .int .i64 0, .int .i64 0, .int .i64 0]) ?_ 6 _ rfl; (with_reducible repeat (first | refine blk_drewN ?_ _ | refine blk_drew ?_ | refine blk_alloc ?_ _)); refine blk_put (cs := #[.int .i64 t258, .int .i64 t259, .int .i64 t260, .int .i64 t261, .int .i64 t262, .int .i64 0, .int .i64 0, .int .i64 0, .int .i64 0, .int .i64 0, .int .i64 0, .int .i64 0, .int .i64 0, .int .i64 0, .int .i64 0, .int .i64 0]) ?_ 5 _ rfl; (with_reducible repeat (first | refine blk_drewN ?_ _ | refine blk_drew ?_ | refine blk_alloc ?_ _)); refine blk_put (cs := #[.int .i64 t258, .int .i64 t259, .int .i64 t260, .int .i64 t261, .int .i64 0, .int .i64 0, .int .i64 0, .int .i64 0, .int .i64 0, .int .i64 0, .int .i64 0, .int .i64 0, .int .i64 0, .int .i64 0, .int .i64 0, .int .i64 0]) ?_ 4 _ rfl; (with_reducible repeat (first | refine blk_drewN ?_ _ | refine blk_drew ?_ | refine blk_alloc ?_ _)); refine blk_put (cs := #[.int .i64 t258, .int .i64 t259, .int .i64 t260, .int .i64 0, .int .i64 0, .int .i64 0, .int .i64 0, .int .i64 0, .int .i64 0, .int .i64 0, .int .i64 0, .int .i64 0, .int .i64 0, .int .i64 0, .int .i64 0, .int .i64 0]) ?_ 3 _ rfl; (with_reducible repeat (first | refine blk_drewN ?_ _ | refine blk_drew ?_ | refine blk_alloc ?_ _)); refine blk_put (cs := #[.int .i64 t258, .int .i64 t259, .int .i64 0, .int .i64 0, .int .i64 0, .int .i64 0, .int .i64 0, .int .i64 0, .int .i64 0, .int .i64 0, .int .i64 0, .int .i64 0, .int .i64 0, .int .i64 0, .int .i64 0, .int .i64 0]) ?_ 2 _ rfl; (with_reducible repeat (first | refine blk_drewN ?_ _ | refine blk_drew ?_ | refine blk_alloc ?_ _)); refine blk_put (cs := #[.int .i64 t258, .int .i64 0, .int .i64 0, .int .i64 0, .int .i64 0, .int .i64 0, .int .i64 0, .int .i64 0, .int .i64 0, .int .i64 0, .int .i64 0, .int .i64 0, .int .i64 0, .int .i64 0, .int .i64 0, .int .i64 0]) ?_ 1 _ rfl; (with_reducible repeat (first | refine blk_drewN ?_ _ | refine blk_drew ?_ | refine blk_alloc ?_ _)); refine blk_put (cs := #[.int .i64 0, .int .i64 0, .int .i64 0, .int .i64 0, .int .i64 0, .int .i64 0, .int .i64 0, .int .i64 0, .int .i64 0, .int .i64 0, .int .i64 0, .int .i64 0, .int .i64 0, .int .i64 0, .int .i64 0, .int .i64 0]) ?_ 0 _ rfl; (with_reducible repeat (first | refine blk_drewN ?_ _ | refine blk_drew ?_ | refine blk_alloc ?_ _)); exact BK275.out))⟩; have n5_ : Aside0 (Below w.heap.size w w138) := ⟨(by rw [hw]; exact (by repeat (first | (with_reducible first | exact HB.out | apply below_alloc | apply pw_below_drewN | apply below_drew1 | refine below_set ?_ GE188.out | refine below_set ?_ GE189.out | refine below_set ?_ GE238.out | refine below_set ?_ GE275.out) | exact HB.out)))⟩; clear hw; clear HO237; clear BK188; clear BK189; clear BK238; clear BK275; clear HB; have HO237 := n0_; have BK188 := n1_; have BK189 := n2_; have BK238 := n3_; have BK275 := n4_; have HB := n5_; clear n0_ n1_ n2_ n3_ n4_ n5_) | ((with_reducible refine gate_callee (f := 16) rfl ?_); refine goesL_ (some 72) rfl rfl Try.func16 (by kernel_rfl) rfl #[.int .i64 t274] rfl (by (try simp only [List.map_toArray, List.map_cons, List.map_nil]); first | done | rfl | (simp only [List.length_drop, List.length_take]; rfl)) ?_; (with_reducible refine (watchwordlaw0_Num.calls t274 t276 _ A122.out).mono ?_); rintro e w' ⟨rfl, ⟨nd, rfl⟩⟩; refine ⟨_, rfl, ?_⟩; have hcz139_0 : w138.cell? ⟨gb275, 0, none⟩ = some (.int .i64 t258) := (blk_cell BK275.out 0).trans rfl; have hcz139_1 : w138.cell? ⟨gb275, 1, none⟩ = some (.int .i64 t259) := (blk_cell BK275.out 1).trans rfl; have hcz139_2 : w138.cell? ⟨gb275, 2, none⟩ = some (.int .i64 t260) := (blk_cell BK275.out 2).trans rfl; have hcz139_3 : w138.cell? ⟨gb275, 3, none⟩ = some (.int .i64 t261) := (blk_cell BK275.out 3).trans rfl; have hcz139_4 : w138.cell? ⟨gb275, 4, none⟩ = some (.int .i64 t262) := (blk_cell BK275.out 4).trans rfl; have hcz139_5 : w138.cell? ⟨gb275, 5, none⟩ = some (.int .i64 t263) := (blk_cell BK275.out 5).trans rfl; have hcz139_6 : w138.cell? ⟨gb275, 6, none⟩ = some (.int .i64 t264) := (blk_cell BK275.out 6).trans rfl; have hcz139_7 : w138.cell? ⟨gb275, 7, none⟩ = some (.int .i64 t265) := (blk_cell BK275.out 7).trans rfl; have hcz139_8 : w138.cell? ⟨gb275, 8, none⟩ = some (.int .i64 t266) := (blk_cell BK275.out 8).trans rfl; have hcz139_9 : w138.cell? ⟨gb275, 9, none⟩ = some (.int .i64 t267) := (blk_cell BK275.out 9).trans rfl; have hcz139_10 : w138.cell? ⟨gb275, 10, none⟩ = some (.int .i64 t268) := (blk_cell BK275.out 10).trans rfl; have hcz139_11 : w138.cell? ⟨gb275, 11, none⟩ = some (.int .i64 t269) := (blk_cell BK275.out 11).trans rfl; have hcz139_12 : w138.cell? ⟨gb275, 12, none⟩ = some (.int .i64 t270) := (blk_cell BK275.out 12).trans rfl; have hcz139_13 : w138.cell? ⟨gb275, 13, none⟩ = some (.int .i64 t271) := (blk_cell BK275.out 13).trans rfl; have hcz139_14 : w138.cell? ⟨gb275, 14, none⟩ = some (.int .i64 t272) := (blk_cell BK275.out 14).trans rfl; have hcz139_15 : w138.cell? ⟨gb275, 15, none⟩ = some (.int .i64 t273) := (blk_cell BK275.out 15).trans rfl; have hfz139_0 := blk_frozen BK275.out 0; have hfz139_1 := blk_frozen BK275.out 1; have hfz139_2 := blk_frozen BK275.out 2; have hfz139_3 := blk_frozen BK275.out 3; have hfz139_4 := blk_frozen BK275.out 4; have hfz139_5 := blk_frozen BK275.out 5; have hfz139_6 := blk_frozen BK275.out 6; have hfz139_7 := blk_frozen BK275.out 7; have hfz139_8 := blk_frozen BK275.out 8; have hfz139_9 := blk_frozen BK275.out 9; have hfz139_10 := blk_frozen BK275.out 10; have hfz139_11 := blk_frozen BK275.out 11; have hfz139_12 := blk_frozen BK275.out 12; have hfz139_13 := blk_frozen BK275.out 13; have hfz139_14 := blk_frozen BK275.out 14; have hfz139_15 := blk_frozen BK275.out 15; have hnb140 := NB238_188.out; have hnc140 := NB188_238.out; have hnb141 := NB238_189.out; have hnc141 := NB189_238.out; have hcz142_0 : w138.cell? ⟨gb238, 0, none⟩ = some (.int .i64 0) := (blk_cell BK238.out 0).trans rfl; have hcz142_1 : w138.cell? ⟨gb238, 1, none⟩ = some (.int .i64 0) := (blk_cell BK238.out 1).trans rfl; have hcz142_2 : w138.cell? ⟨gb238, 2, none⟩ = some (.int .i64 0) := (blk_cell BK238.out 2).trans rfl; have hcz142_3 : w138.cell? ⟨gb238, 3, none⟩ = some (.int .i64 0) := (blk_cell BK238.out 3).trans rfl; have hcz142_4 : w138.cell? ⟨gb238, 4, none⟩ = some (.int .i64 0) := (blk_cell BK238.out 4).trans rfl; have hcz142_5 : w138.cell? ⟨gb238, 5, none⟩ = some (.int .i64 0) := (blk_cell BK238.out 5).trans rfl; have hcz142_6 : w138.cell? ⟨gb238, 6, none⟩ = some (.int .i64 0) := (blk_cell BK238.out 6).trans rfl; have hcz142_7 : w138.cell? ⟨gb238, 7, none⟩ = some (.int .i64 0) := (blk_cell BK238.out 7).trans rfl; have hcz142_8 : w138.cell? ⟨gb238, 8, none⟩ = some (.int .i64 0) := (blk_cell BK238.out 8).trans rfl; have hcz142_9 : w138.cell? ⟨gb238, 9, none⟩ = some (.int .i64 0) := (blk_cell BK238.out 9).trans rfl; have hcz142_10 : w138.cell? ⟨gb238, 10, none⟩ = some (.int .i64 0) := (blk_cell BK238.out 10).trans rfl; have hcz142_11 : w138.cell? ⟨gb238, 11, none⟩ = some (.int .i64 0) := (blk_cell BK238.out 11).trans rfl; have hcz142_12 : w138.cell? ⟨gb238, 12, none⟩ = some (.int .i64 0) := (blk_cell BK238.out 12).trans rfl; have hcz142_13 : w138.cell? ⟨gb238, 13, none⟩ = some (.int .i64 0) := (blk_cell BK238.out 13).trans rfl; have hcz142_14 : w138.cell? ⟨gb238, 14, none⟩ = some (.int .i64 0) := (blk_cell BK238.out 14).trans rfl; have hcz142_15 : w138.cell? ⟨gb238, 15, none⟩ = some (.int .i64 0) := (blk_cell BK238.out 15).trans rfl; have hfz142_0 := blk_frozen BK238.out 0; have hfz142_1 := blk_frozen BK238.out 1; have hfz142_2 := blk_frozen BK238.out 2; have hfz142_3 := blk_frozen BK238.out 3; have hfz142_4 := blk_frozen BK238.out 4; have hfz142_5 := blk_frozen BK238.out 5; have hfz142_6 := blk_frozen BK238.out 6; have hfz142_7 := blk_frozen BK238.out 7; have hfz142_8 := blk_frozen BK238.out 8; have hfz142_9 := blk_frozen BK238.out 9; have hfz142_10 := blk_frozen BK238.out 10; have hfz142_11 := blk_frozen BK238.out 11; have hfz142_12 := blk_frozen BK238.out 12; have hfz142_13 := blk_frozen BK238.out 13; have hfz142_14 := blk_frozen BK238.out 14; have hfz142_15 := blk_frozen BK238.out 15))
         go_ret
         exact ⟨by first | rfl | (simp [errW_none, errW_some] <;> rfl) | (simp [*, errW_none, errW_some] <;> rfl), by repeat (first | (with_reducible first | exact HB.out | apply below_alloc | apply pw_below_drewN | apply below_drew1 | refine below_set ?_ GE188.out | refine below_set ?_ GE189.out | refine below_set ?_ GE238.out | refine below_set ?_ GE275.out) | exact HB.out)⟩
       ·rw [if_neg c123] at H
        have c123b0 : (t276 == 0) = false := beq_eq_false_iff_ne.mpr c123
        have c123b1 : (t276 != 0) = true := bne_iff_ne.mpr c123
        focus
         exact absurd (Option.some.inj H) (by rw [HT.out]; decide)
 ·replace c6 := Bool.eq_false_iff.mpr c6
  subst c6
  have H1 : (some false) = some r := by rw [if_neg (show ¬ (false = true) by decide)] at H; exact H
  clear H
  have H := H1
  clear H1
  focus
   exact absurd (Option.some.inj H) (by rw [HT.out]; decide)

theorem watchwordlaw20_GraphOne.calls (k : Nat) (a0 : Int) (a1 : Int) (a2 : Int) (a3 : Bool) (r : Bool) (w : World) (h : watchwordlaw20_GraphOne.f k a0 a1 a2 a3 = some r) (hT : r = true) :
  Calls Try.prog 11 #[.int .i64 a0, .int .i64 a1, .int .i64 a2, .bool a3] w fun e w' => e = .returned (.bool r) ∧ Below w.heap.size w w' := by
 by_cases h1_ : a3 = true
 ·by_cases h2_ : (Go.bits .and .i64 a1 3) < (Go.bits .and .i64 a0 3)
  ·exact watchwordlaw20_GraphOne.calls_11 k a0 a1 a2 a3 r w h hT ⟨h1_⟩ ⟨h2_⟩
  ·exact watchwordlaw20_GraphOne.calls_10 k a0 a1 a2 a3 r w h hT ⟨h1_⟩ ⟨h2_⟩
 ·by_cases h2_ : (Go.bits .and .i64 a1 3) < (Go.bits .and .i64 a0 3)
  ·exact watchwordlaw20_GraphOne.calls_01 k a0 a1 a2 a3 r w h hT ⟨h1_⟩ ⟨h2_⟩
  ·exact watchwordlaw20_GraphOne.calls_00 k a0 a1 a2 a3 r w h hT ⟨h1_⟩ ⟨h2_⟩

/-- THE ONE PURE STATEMENT of watchwordlaw20_GraphOne: yours. -/
def watchwordlaw20_GraphOne.Pure : Prop := ∀ (a0 : Int) (a1 : Int) (a2 : Int) (a3 : Bool), (Lit.int .i64 a0).wf = true → (Lit.int .i64 a1).wf = true → (Lit.int .i64 a2).wf = true → ∃ k, watchwordlaw20_GraphOne.f k a0 a1 a2 a3 = some true
theorem watchwordlaw20_GraphOne.walk (P : watchwordlaw20_GraphOne.Pure) (a0 : Int) (a1 : Int) (a2 : Int) (a3 : Bool) (w : World) (w0 : (Lit.int .i64 a0).wf = true) (w1 : (Lit.int .i64 a1).wf = true) (w2 : (Lit.int .i64 a2).wf = true) :
  Calls Try.prog 11 #[.int .i64 a0, .int .i64 a1, .int .i64 a2, .bool a3] w fun e w' => e = .returned (.bool true) ∧ Below w.heap.size w w' := by
 obtain ⟨k, h⟩ := P a0 a1 a2 a3 w0 w1 w2
 refine (watchwordlaw20_GraphOne.calls k a0 a1 a2 a3 true w h rfl).mono ?_
 rintro e w' ⟨rfl, hd⟩
 exact ⟨rfl, hd⟩

end Go.Proofs.Ytjbejbehbjhecaa.Q20
namespace Go.Proofs.Ytjbejbehbjhecaa.Base
open Go.RowKit Go.Proofs.YtjbejbehbjhecaaW.PrintWords Go.Proofs.YtjbejbehbjhecaaW.PrintLast Go.Proofs.YtjbejbehbjhecaaW.PrintMore
set_option linter.unusedVariables false

/-! ### Texts as_ lists of numbers -/
def B (s : ByteArray) : List Int := s.data.toList.map fun b => (b.toNat : Int)
def Byt (l : List Int) : Prop := ∀ x ∈ l, 0 ≤ x ∧ x < 256
theorem B_len (s : ByteArray) : (B s).length = s.size := by simp [B]
theorem B_byt (s : ByteArray) : Byt (B s) := by
  intro x hx
  simp only [B, List.mem_map] at hx
  obtain ⟨b, _, rfl⟩ := hx
  have := b.toNat_lt
  omega
theorem map_toNat_inj : ∀ {l l' : List UInt8}, l.map (fun b => (b.toNat : Int)) = l'.map (fun b => (b.toNat : Int)) → l = l'
  | [], [], _ => rfl
  | [], _ :: _, h => by simp at h
  | _ :: _, [], h => by simp at h
  | a :: l, b :: l', h => by
    simp only [List.map_cons, List.cons.injEq] at h
    obtain ⟨h1, h2⟩ := h
    have : a = b := UInt8.toNat_inj.mp (by exact_mod_cast h1)
    rw [this, map_toNat_inj h2]
theorem B_inj {s t : ByteArray} (h : B s = B t) : s = t := by
  have := map_toNat_inj h
  cases s; cases t
  simp only [ByteArray.mk.injEq]
  exact Array.toList_inj.mp this
theorem toList_iff (s t : ByteArray) : s.toList = t.toList ↔ B s = B t := by
  rw [Lib.toList_data, Lib.toList_data]
  constructor
  · intro h; simp only [B, h]
  · exact map_toNat_inj
theorem toList_iff_lit (s : ByteArray) (l : List UInt8) : s.toList = l ↔ B s = l.map (fun b => (b.toNat : Int)) := by
  rw [Lib.toList_data]
  constructor
  · intro h; simp only [B, h]
  · exact map_toNat_inj
theorem B_append (s t : ByteArray) : B (s ++ t) = B s ++ B t := by simp [B, ByteArray.data_append]
theorem B_mk (a : Array UInt8) : B ⟨a⟩ = a.toList.map (fun b => (b.toNat : Int)) := rfl
theorem B_strOf {l : List Int} (h : Byt l) : B (strOfNums l) = l := by
  unfold B strOfNums
  simp only [List.map_map]
  conv => rhs; rw [← List.map_id l]
  apply List.map_congr_left
  intro x hx
  obtain ⟨h0, h1⟩ := h x hx
  simp only [Function.comp, id, UInt8.toNat_ofNat']
  omega
theorem strOf_B (s : ByteArray) : strOfNums (B s) = s := B_inj (B_strOf (B_byt s))
theorem strOf_size (l : List Int) : (strOfNums l).size = l.length := by show (Array.size _) = _; simp
theorem strOf_append (l l' : List Int) : strOfNums l ++ strOfNums l' = strOfNums (l ++ l') := by
  have : (strOfNums l ++ strOfNums l').data = (strOfNums (l ++ l')).data := by simp [strOfNums, ByteArray.data_append]
  exact ByteArray.ext this
theorem B_extract (s : ByteArray) (a b : Nat) : B (s.extract a b) = ((B s).drop a).take (b - a) := by
  unfold B
  rw [Lib.extract_data, List.map_take, List.map_drop]
theorem bt_B (s : ByteArray) (i : Int) : bt s i = (B s).getD i.toNat 0 := by
  unfold bt B
  split
  · rename_i h
    rw [List.getD_eq_getElem?_getD, List.getElem?_map]
    have : i.toNat < s.data.toList.length := by simpa using h
    rw [List.getElem?_eq_getElem this]
    rfl
  · rename_i h
    rw [List.getD_eq_getElem?_getD, List.getElem?_map]
    have : s.data.toList.length ≤ i.toNat := by simp only [Array.length_toList]; have : s.size = s.data.size := rfl; omega
    rw [List.getElem?_eq_none this]
    rfl
theorem byt_mod (x : Int) : 0 ≤ x % 256 ∧ x % 256 < 256 := by omega
theorem byt_nil : Byt [] := fun _ h => by cases h
theorem byt_cons {x : Int} {l : List Int} (h : 0 ≤ x ∧ x < 256) (hl : Byt l) : Byt (x :: l) := by
  intro y hy
  rcases List.mem_cons.mp hy with rfl | hy
  · exact h
  · exact hl y hy
theorem byt_append {l l' : List Int} (h : Byt l) (h' : Byt l') : Byt (l ++ l') := by
  intro y hy
  rcases List.mem_append.mp hy with hy | hy
  · exact h y hy
  · exact h' y hy
theorem byt_take {l : List Int} (n : Nat) (h : Byt l) : Byt (l.take n) := fun y hy => h y (List.mem_of_mem_take hy)
theorem byt_drop {l : List Int} (n : Nat) (h : Byt l) : Byt (l.drop n) := fun y hy => h y (List.mem_of_mem_drop hy)

/-! ### Numbers in bytes -/
def e1 (x : Int) : List Int := [x % 256]
def e2 (x : Int) : List Int := [x / 256 % 256, x % 256]
def e4 (x : Int) : List Int := [x / 16777216 % 256, x / 65536 % 256, x / 256 % 256, x % 256]
theorem e1_byt (x : Int) : Byt (e1 x) := byt_cons (byt_mod _) byt_nil
theorem e2_byt (x : Int) : Byt (e2 x) := byt_cons (byt_mod _) (byt_cons (byt_mod _) byt_nil)
theorem e4_byt (x : Int) : Byt (e4 x) := byt_cons (byt_mod _) (byt_cons (byt_mod _) (byt_cons (byt_mod _) (byt_cons (byt_mod _) byt_nil)))
theorem e1_len (x : Int) : (e1 x).length = 1 := rfl
theorem e2_len (x : Int) : (e2 x).length = 2 := rfl
theorem e4_len (x : Int) : (e4 x).length = 4 := rfl
def num (l : List Int) : Int := l.foldl (fun a b => a * 256 + b) 0
theorem num_two (a b : Int) : num [a, b] = a * 256 + b := by simp [num]
theorem num_four (a b c d : Int) : num [a, b, c, d] = a * 16777216 + b * 65536 + c * 256 + d := by simp [num]; omega
theorem num_e2 {x : Int} (h0 : 0 ≤ x) (h1 : x < 65536) : num (e2 x) = x := by unfold e2; rw [num_two]; omega
theorem num_e4 {x : Int} (h0 : 0 ≤ x) (h1 : x < 4294967296) : num (e4 x) = x := by unfold e4; rw [num_four]; omega
theorem e2_num {a b : Int} (ha : 0 ≤ a ∧ a < 256) (hb : 0 ≤ b ∧ b < 256) : e2 (num [a, b]) = [a, b] := by
  rw [num_two]; unfold e2
  simp only [List.cons.injEq, and_true]
  omega
theorem e4_num {a b c d : Int} (ha : 0 ≤ a ∧ a < 256) (hb : 0 ≤ b ∧ b < 256) (hc : 0 ≤ c ∧ c < 256) (hd : 0 ≤ d ∧ d < 256) : e4 (num [a, b, c, d]) = [a, b, c, d] := by
  rw [num_four]; unfold e4
  simp only [List.cons.injEq, and_true]
  omega
theorem num_two_range {a b : Int} (ha : 0 ≤ a ∧ a < 256) (hb : 0 ≤ b ∧ b < 256) : 0 ≤ num [a, b] ∧ num [a, b] < 65536 := by rw [num_two]; omega
theorem num_four_range {a b c d : Int} (ha : 0 ≤ a ∧ a < 256) (hb : 0 ≤ b ∧ b < 256) (hc : 0 ≤ c ∧ c < 256) (hd : 0 ≤ d ∧ d < 256) : 0 ≤ num [a, b, c, d] ∧ num [a, b, c, d] < 4294967296 := by rw [num_four]; omega
theorem e2_inj {x y : Int} (hx : 0 ≤ x ∧ x < 65536) (hy : 0 ≤ y ∧ y < 65536) (h : e2 x = e2 y) : x = y := by
  have := congrArg num h
  rwa [num_e2 hx.1 hx.2, num_e2 hy.1 hy.2] at this
theorem e4_inj {x y : Int} (hx : 0 ≤ x ∧ x < 4294967296) (hy : 0 ≤ y ∧ y < 4294967296) (h : e4 x = e4 y) : x = y := by
  have := congrArg num h
  rwa [num_e4 hx.1 hx.2, num_e4 hy.1 hy.2] at this

/-! ### Bits -/
theorem wrap_id {x : Int} (h0 : -9223372036854775808 ≤ x) (h1 : x ≤ 9223372036854775807) : wrap64 x = x := by unfold wrap64; omega
theorem wraps_i64 (n : Int) (h₀ : 0 ≤ n) (h₁ : n < 2 ^ 63) : IntKind.i64.wrap n = n := by rw [IntKind.wrap_i64]; omega
theorem or_byte {x y : Int} (hx₀ : 0 ≤ x) (hx₁ : x < 9223372036854775808) (hx : x % 256 = 0) (h₀ : 0 ≤ y) (h₁ : y < 256) : Go.bits .or .i64 x y = x + y :=
  bits_join .i64 63 (by decide) wraps_i64 8 x y hx₀ hx hx₁ h₀ h₁ (by omega)
theorem and_mask (i : Nat) (hi : i ≤ 62) (n : Int) : Go.bits .and .i64 n ((2 ^ i - 1 : Nat) : Int) = n % ((2 ^ i : Nat) : Int) := by
  have hp : 2 ^ i ≤ 2 ^ 62 := Nat.pow_le_pow_right (by decide) hi
  have hpos : 0 < 2 ^ i := Nat.two_pow_pos i
  have hm : (BitVec.ofInt 64 ((2 ^ i - 1 : Nat) : Int)).toNat = 2 ^ i - 1 := by
    rw [BitVec.ofInt_natCast, BitVec.toNat_ofNat]
    apply Nat.mod_eq_of_lt
    omega
  have key : (BitVec.ofInt 64 n &&& BitVec.ofInt 64 ((2 ^ i - 1 : Nat) : Int)).toNat = (n % ((2 ^ 64 : Nat) : Int)).toNat % 2 ^ i := by
    rw [BitVec.toNat_and, BitVec.toNat_ofInt, hm, Nat.and_two_pow_sub_one_eq_mod]
  show IntKind.i64.wrap ((BitVec.ofInt 64 n &&& BitVec.ofInt 64 ((2 ^ i - 1 : Nat) : Int)).toNat : Nat) = _
  rw [key]
  have hd : ((2 ^ i : Nat) : Int) ∣ ((2 ^ 64 : Nat) : Int) := by
    have : (2 ^ i) ∣ (2 ^ 64) := Nat.pow_dvd_pow 2 (by omega)
    exact_mod_cast this
  have h2 : (((n % ((2 ^ 64 : Nat) : Int)).toNat % 2 ^ i : Nat) : Int) = n % ((2 ^ i : Nat) : Int) := by
    rw [Int.natCast_emod, Int.toNat_of_nonneg (by omega), Int.emod_emod_of_dvd _ hd]
  rw [h2]
  have hlt : n % ((2 ^ i : Nat) : Int) < ((2 ^ i : Nat) : Int) := Int.emod_lt_of_pos _ (by exact_mod_cast hpos)
  have h0 : 0 ≤ n % ((2 ^ i : Nat) : Int) := Int.emod_nonneg _ (by have : ((2 ^ i : Nat) : Int) ≠ 0 := by exact_mod_cast Nat.pos_iff_ne_zero.mp hpos
                                                                   exact this)
  have hle : ((2 ^ i : Nat) : Int) ≤ ((2 ^ 62 : Nat) : Int) := by exact_mod_cast hp
  exact wraps_i64 _ h0 (by have : ((2 ^ 62 : Nat) : Int) < 2 ^ 63 := by decide
                           omega)
theorem and1 (n : Int) : Go.bits .and .i64 n 1 = n % 2 := and_mask 1 (by decide) n
theorem and3 (n : Int) : Go.bits .and .i64 n 3 = n % 4 := and_mask 2 (by decide) n
theorem and15 (n : Int) : Go.bits .and .i64 n 15 = n % 16 := and_mask 4 (by decide) n
theorem and127 (n : Int) : Go.bits .and .i64 n 127 = n % 128 := and_mask 7 (by decide) n
theorem and255 (n : Int) : Go.bits .and .i64 n 255 = n % 256 := and_mask 8 (by decide) n
theorem and1023 (n : Int) : Go.bits .and .i64 n 1023 = n % 1024 := and_mask 10 (by decide) n

theorem empty_list : (⟨#[]⟩ : ByteArray).toList = ([] : List UInt8) := by rw [Lib.toList_data]
def lim : Nat → Int
  | 0 => 1
  | i + 1 => lim i * 256
theorem lim_succ (i : Nat) : lim (i + 1) = lim i * 256 := rfl
theorem lim_le6 {i : Nat} (h : i ≤ 6) : lim i ≤ 281474976710656 := by
  have : i = 0 ∨ i = 1 ∨ i = 2 ∨ i = 3 ∨ i = 4 ∨ i = 5 ∨ i = 6 := by omega
  rcases this with rfl | rfl | rfl | rfl | rfl | rfl | rfl <;> decide
theorem byt_getD {l : List Int} (h : Byt l) (i : Nat) : 0 ≤ l.getD i 0 ∧ l.getD i 0 < 256 := by
  rw [List.getD_eq_getElem?_getD]
  by_cases hi : i < l.length
  · rw [List.getElem?_eq_getElem hi]; exact h _ (List.getElem_mem hi)
  · rw [List.getElem?_eq_none (by omega)]; simp

end Go.Proofs.Ytjbejbehbjhecaa.Base
namespace Go.Proofs.Ytjbejbehbjhecaa.L20
open Go.RowKit Go.Proofs.YtjbejbehbjhecaaW.PrintWords Go.Proofs.YtjbejbehbjhecaaW.PrintMore Go.Proofs.Ytjbejbehbjhecaa.Base Go.Proofs.Ytjbejbehbjhecaa.Q20
set_option linter.unusedVariables false
set_option linter.unusedSimpArgs false
set_option maxRecDepth 100000
structure CostOk (c : Nat → Nat → Int) : Prop where
  range : ∀ i j, i < 4 → j < 4 → 0 ≤ c i j ∧ c i j ≤ 65535
  diag : ∀ i, i < 4 → c i i = 0
abbrev Mat := Nat → Nat → Int
/-- Sixteen cells as_ a matrix. -/
def mk (c0 c1 c2 c3 c4 c5 c6 c7 c8 c9 c10 c11 c12 c13 c14 c15 : Int) : Mat := fun i j => match i, j with
  | 0, 0 => c0 | 0, 1 => c1 | 0, 2 => c2 | 0, 3 => c3
  | 1, 0 => c4 | 1, 1 => c5 | 1, 2 => c6 | 1, 3 => c7
  | 2, 0 => c8 | 2, 1 => c9 | 2, 2 => c10 | 2, 3 => c11
  | 3, 0 => c12 | 3, 1 => c13 | 3, 2 => c14 | 3, 3 => c15
  | _, _ => 0
theorem four {P : Nat → Prop} (h0 : P 0) (h1 : P 1) (h2 : P 2) (h3 : P 3) : ∀ i, i < 4 → P i := by
  intro i hi
  obtain rfl | rfl | rfl | rfl : i = 0 ∨ i = 1 ∨ i = 2 ∨ i = 3 := by omega
  all_goals assumption
/-! #### a matrix read and written -/
theorem sel_at (m : Mat) {a b : Nat} (ha : a < 4) (hb : b < 4) :
    ix4 (ix4 (m 0 0) (m 0 1) (m 0 2) (m 0 3) (b : Int)) (ix4 (m 1 0) (m 1 1) (m 1 2) (m 1 3) (b : Int)) (ix4 (m 2 0) (m 2 1) (m 2 2) (m 2 3) (b : Int)) (ix4 (m 3 0) (m 3 1) (m 3 2) (m 3 3) (b : Int)) (a : Int) = m a b := by
  obtain rfl | rfl | rfl | rfl : a = 0 ∨ a = 1 ∨ a = 2 ∨ a = 3 := by omega
  all_goals (obtain rfl | rfl | rfl | rfl : b = 0 ∨ b = 1 ∨ b = 2 ∨ b = 3 := by omega)
  all_goals rfl
theorem row_at (r : Nat → Int) {b : Nat} (hb : b < 4) : ix4 (r 0) (r 1) (r 2) (r 3) (b : Int) = r b := by
  obtain rfl | rfl | rfl | rfl : b = 0 ∨ b = 1 ∨ b = 2 ∨ b = 3 := by omega
  all_goals rfl
def upd2 (m : Mat) (a b : Nat) (v : Int) : Mat := fun i j => if i = a ∧ j = b then v else m i j
theorem up_at (m : Mat) (a b : Nat) (v : Int) (i j : Nat) : up (((a : Nat) : Int) == ((i : Nat) : Int) && ((b : Nat) : Int) == ((j : Nat) : Int)) v (m i j) = upd2 m a b v i j := by
  unfold up upd2
  by_cases h : i = a ∧ j = b
  · obtain ⟨rfl, rfl⟩ := h; simp
  · rw [if_neg h, if_neg]
    simp only [Bool.and_eq_true, beq_iff_eq, not_and]
    intro e1 e2; exact h ⟨by omega, by omega⟩
theorem ups (m : Mat) (a b : Nat) (v : Int) :
    up (((a : Nat) : Int) == 0 && ((b : Nat) : Int) == 0) v (m 0 0) = upd2 m a b v 0 0 ∧ up (((a : Nat) : Int) == 0 && ((b : Nat) : Int) == 1) v (m 0 1) = upd2 m a b v 0 1 ∧
    up (((a : Nat) : Int) == 0 && ((b : Nat) : Int) == 2) v (m 0 2) = upd2 m a b v 0 2 ∧ up (((a : Nat) : Int) == 0 && ((b : Nat) : Int) == 3) v (m 0 3) = upd2 m a b v 0 3 ∧
    up (((a : Nat) : Int) == 1 && ((b : Nat) : Int) == 0) v (m 1 0) = upd2 m a b v 1 0 ∧ up (((a : Nat) : Int) == 1 && ((b : Nat) : Int) == 1) v (m 1 1) = upd2 m a b v 1 1 ∧
    up (((a : Nat) : Int) == 1 && ((b : Nat) : Int) == 2) v (m 1 2) = upd2 m a b v 1 2 ∧ up (((a : Nat) : Int) == 1 && ((b : Nat) : Int) == 3) v (m 1 3) = upd2 m a b v 1 3 ∧
    up (((a : Nat) : Int) == 2 && ((b : Nat) : Int) == 0) v (m 2 0) = upd2 m a b v 2 0 ∧ up (((a : Nat) : Int) == 2 && ((b : Nat) : Int) == 1) v (m 2 1) = upd2 m a b v 2 1 ∧
    up (((a : Nat) : Int) == 2 && ((b : Nat) : Int) == 2) v (m 2 2) = upd2 m a b v 2 2 ∧ up (((a : Nat) : Int) == 2 && ((b : Nat) : Int) == 3) v (m 2 3) = upd2 m a b v 2 3 ∧
    up (((a : Nat) : Int) == 3 && ((b : Nat) : Int) == 0) v (m 3 0) = upd2 m a b v 3 0 ∧ up (((a : Nat) : Int) == 3 && ((b : Nat) : Int) == 1) v (m 3 1) = upd2 m a b v 3 1 ∧
    up (((a : Nat) : Int) == 3 && ((b : Nat) : Int) == 2) v (m 3 2) = upd2 m a b v 3 2 ∧ up (((a : Nat) : Int) == 3 && ((b : Nat) : Int) == 3) v (m 3 3) = upd2 m a b v 3 3 :=
  ⟨up_at m a b v 0 0, up_at m a b v 0 1, up_at m a b v 0 2, up_at m a b v 0 3, up_at m a b v 1 0, up_at m a b v 1 1, up_at m a b v 1 2, up_at m a b v 1 3,
   up_at m a b v 2 0, up_at m a b v 2 1, up_at m a b v 2 2, up_at m a b v 2 3, up_at m a b v 3 0, up_at m a b v 3 1, up_at m a b v 3 2, up_at m a b v 3 3⟩
theorem next4 {b : Nat} (h : b < 4) : wrap64 ((b : Int) + 1) = ((b + 1 : Nat) : Int) := by unfold wrap64; omega
/-! #### may these costs be -/
def cellOk (a b c : Int) : Bool := decide (0 ≤ c) && decide (c ≤ 65535) && (decide (a ≠ b) || decide (c = 0))
def rowOk (a r0 r1 r2 r3 : Int) : Bool := cellOk a 0 r0 && (cellOk a 1 r1 && (cellOk a 2 r2 && cellOk a 3 r3))
def okC (c0 c1 c2 c3 c4 c5 c6 c7 c8 c9 c10 c11 c12 c13 c14 c15 : Int) : Bool := rowOk 0 c0 c1 c2 c3 && (rowOk 1 c4 c5 c6 c7 && (rowOk 2 c8 c9 c10 c11 && rowOk 3 c12 c13 c14 c15))
def okM (m : Mat) : Bool := okC (m 0 0) (m 0 1) (m 0 2) (m 0 3) (m 1 0) (m 1 1) (m 1 2) (m 1 3) (m 2 0) (m 2 1) (m 2 2) (m 2 3) (m 3 0) (m 3 1) (m 3 2) (m 3 3)
theorem May_step (k : Nat) {a b r0 r1 r2 r3 c0 c1 c2 c3 c4 c5 c6 c7 c8 c9 c10 c11 c12 c13 c14 c15 : Int} (h0 : 0 ≤ b) (h4 : b < 4) :
    graph_May.l1 (k + 1) a a b c0 c1 c2 c3 c4 c5 c6 c7 c8 c9 c10 c11 c12 c13 c14 c15 r0 r1 r2 r3 = if cellOk a b (ix4 r0 r1 r2 r3 b) = true then graph_May.l1 k a a (wrap64 (b + 1)) c0 c1 c2 c3 c4 c5 c6 c7 c8 c9 c10 c11 c12 c13 c14 c15 r0 r1 r2 r3 else some false := by
  simp only [graph_May.l1]
  rw [if_pos h4, if_pos h0]
  generalize ix4 r0 r1 r2 r3 b = x
  unfold cellOk
  by_cases h1 : x < 0
  · rw [if_pos h1, if_neg (by simp; omega)]
  · rw [if_neg h1]
    by_cases h2 : x > 65535
    · rw [if_pos h2, if_neg (by simp; omega)]
    · rw [if_neg h2]
      by_cases h3 : a = b
      · rw [if_pos h3]
        by_cases h5 : x = 0
        · rw [if_pos h5, if_pos (by simp; omega)]
        · rw [if_neg h5, if_neg (by simp; omega)]
      · rw [if_neg h3, if_pos (by simp; omega)]
theorem May_row (k : Nat) {a r0 r1 r2 r3 c0 c1 c2 c3 c4 c5 c6 c7 c8 c9 c10 c11 c12 c13 c14 c15 : Int} :
    graph_May.l1 (k + 5) a a 0 c0 c1 c2 c3 c4 c5 c6 c7 c8 c9 c10 c11 c12 c13 c14 c15 r0 r1 r2 r3 = if rowOk a r0 r1 r2 r3 = true then graph_May.l0 k (wrap64 (a + 1)) c0 c1 c2 c3 c4 c5 c6 c7 c8 c9 c10 c11 c12 c13 c14 c15 else some false := by
  rw [May_step (k + 4) (by decide) (by decide), show wrap64 (0 + 1) = 1 by decide +kernel, show ix4 r0 r1 r2 r3 0 = r0 from rfl,
    May_step (k + 3) (by decide) (by decide), show wrap64 (1 + 1) = 2 by decide +kernel, show ix4 r0 r1 r2 r3 1 = r1 from rfl,
    May_step (k + 2) (by decide) (by decide), show wrap64 (2 + 1) = 3 by decide +kernel, show ix4 r0 r1 r2 r3 2 = r2 from rfl,
    May_step (k + 1) (by decide) (by decide), show wrap64 (3 + 1) = 4 by decide +kernel, show ix4 r0 r1 r2 r3 3 = r3 from rfl]
  simp only [graph_May.l1]
  rw [if_neg (show ¬ ((4 : Int) < 4) by decide)]
  unfold rowOk
  cases cellOk a 0 r0 <;> cases cellOk a 1 r1 <;> cases cellOk a 2 r2 <;> cases cellOk a 3 r3 <;> simp
theorem May_f (k : Nat) (c0 c1 c2 c3 c4 c5 c6 c7 c8 c9 c10 c11 c12 c13 c14 c15 : Int) : graph_May.f (k + 25) c0 c1 c2 c3 c4 c5 c6 c7 c8 c9 c10 c11 c12 c13 c14 c15 = some (okC c0 c1 c2 c3 c4 c5 c6 c7 c8 c9 c10 c11 c12 c13 c14 c15) := by
  unfold graph_May.f
  have s (k : Nat) (x : Int) (h0 : 0 ≤ x) (h4 : x < 4) : graph_May.l0 (k + 1) x c0 c1 c2 c3 c4 c5 c6 c7 c8 c9 c10 c11 c12 c13 c14 c15 = graph_May.l1 k x x 0 c0 c1 c2 c3 c4 c5 c6 c7 c8 c9 c10 c11 c12 c13 c14 c15 (ix4 c0 c4 c8 c12 x) (ix4 c1 c5 c9 c13 x) (ix4 c2 c6 c10 c14 x) (ix4 c3 c7 c11 c15 x) := by
    simp only [graph_May.l0]; rw [if_pos h4, if_pos h0]
  rw [s (k + 24) 0 (by decide) (by decide), May_row (k + 19), show wrap64 (0 + 1) = 1 by decide +kernel, s (k + 18) 1 (by decide) (by decide), May_row (k + 13), show wrap64 (1 + 1) = 2 by decide +kernel,
    s (k + 12) 2 (by decide) (by decide), May_row (k + 7), show wrap64 (2 + 1) = 3 by decide +kernel, s (k + 6) 3 (by decide) (by decide), May_row (k + 1), show wrap64 (3 + 1) = 4 by decide +kernel]
  simp only [graph_May.l0]
  rw [if_neg (show ¬ ((4 : Int) < 4) by decide)]
  unfold okC
  show (if rowOk 0 c0 c1 c2 c3 = true then (if rowOk 1 c4 c5 c6 c7 = true then (if rowOk 2 c8 c9 c10 c11 = true then (if rowOk 3 c12 c13 c14 c15 = true then some true else some false) else some false) else some false) else some false) = _
  cases rowOk 0 c0 c1 c2 c3 <;> cases rowOk 1 c4 c5 c6 c7 <;> cases rowOk 2 c8 c9 c10 c11 <;> cases rowOk 3 c12 c13 c14 c15 <;> simp
theorem cellOk_iff {a b c : Int} : cellOk a b c = true ↔ (0 ≤ c ∧ c ≤ 65535 ∧ (a = b → c = 0)) := by
  unfold cellOk
  simp only [Bool.and_eq_true, Bool.or_eq_true, decide_eq_true_eq]
  constructor
  · rintro ⟨⟨h1, h2⟩, h3⟩; exact ⟨h1, h2, fun e => h3.resolve_left (fun h => h e)⟩
  · rintro ⟨h1, h2, h3⟩; refine ⟨⟨h1, h2⟩, ?_⟩
    by_cases e : a = b
    · exact .inr (h3 e)
    · exact .inl e
theorem okM_iff (m : Mat) : okM m = true ↔ CostOk m := by
  unfold okM okC rowOk
  simp only [Bool.and_eq_true]
  constructor
  · rintro ⟨⟨a, b, d, e⟩, ⟨f, g, h, i⟩, ⟨j, k, l, n⟩, o, p, q, s⟩
    rw [cellOk_iff] at a b d e f g h i j k l n o p q s
    exact ⟨fun i' j' hi hj => four (P := fun i => 0 ≤ m i j' ∧ m i j' ≤ 65535) (four (P := fun j => 0 ≤ m 0 j ∧ m 0 j ≤ 65535) ⟨a.1, a.2.1⟩ ⟨b.1, b.2.1⟩ ⟨d.1, d.2.1⟩ ⟨e.1, e.2.1⟩ j' hj) (four (P := fun j => 0 ≤ m 1 j ∧ m 1 j ≤ 65535) ⟨f.1, f.2.1⟩ ⟨g.1, g.2.1⟩ ⟨h.1, h.2.1⟩ ⟨i.1, i.2.1⟩ j' hj)
      (four (P := fun j => 0 ≤ m 2 j ∧ m 2 j ≤ 65535) ⟨j.1, j.2.1⟩ ⟨k.1, k.2.1⟩ ⟨l.1, l.2.1⟩ ⟨n.1, n.2.1⟩ j' hj) (four (P := fun j => 0 ≤ m 3 j ∧ m 3 j ≤ 65535) ⟨o.1, o.2.1⟩ ⟨p.1, p.2.1⟩ ⟨q.1, q.2.1⟩ ⟨s.1, s.2.1⟩ j' hj) i' hi,
      four (P := fun i => m i i = 0) (a.2.2 rfl) (g.2.2 rfl) (l.2.2 rfl) (s.2.2 rfl)⟩
  · rintro ⟨r, d⟩
    have z (i j : Nat) (hi : i < 4) (hj : j < 4) (a b : Int) (hab : a = (i : Int)) (hb : b = (j : Int)) : cellOk a b (m i j) = true :=
      cellOk_iff.2 ⟨(r i j hi hj).1, (r i j hi hj).2, fun e => (show i = j by omega) ▸ d i hi⟩
    exact ⟨⟨z 0 0 (by decide) (by decide) _ _ rfl rfl, z 0 1 (by decide) (by decide) _ _ rfl rfl, z 0 2 (by decide) (by decide) _ _ rfl rfl, z 0 3 (by decide) (by decide) _ _ rfl rfl⟩,
      ⟨z 1 0 (by decide) (by decide) _ _ rfl rfl, z 1 1 (by decide) (by decide) _ _ rfl rfl, z 1 2 (by decide) (by decide) _ _ rfl rfl, z 1 3 (by decide) (by decide) _ _ rfl rfl⟩,
      ⟨z 2 0 (by decide) (by decide) _ _ rfl rfl, z 2 1 (by decide) (by decide) _ _ rfl rfl, z 2 2 (by decide) (by decide) _ _ rfl rfl, z 2 3 (by decide) (by decide) _ _ rfl rfl⟩,
      z 3 0 (by decide) (by decide) _ _ rfl rfl, z 3 1 (by decide) (by decide) _ _ rfl rfl, z 3 2 (by decide) (by decide) _ _ rfl rfl, z 3 3 (by decide) (by decide) _ _ rfl rfl⟩
/-- The only link, if it costs what none may, spoils all. -/
theorem May_bad (k : Nat) {r c : Nat} (hr : r < 4) (hc : c < 4) {v : Int} (hv : v < 0 ∨ 65535 < v) : okM (upd2 (fun _ _ => 0) r c v) = false := by
  rw [Bool.eq_false_iff]
  intro h
  have h1 := ((okM_iff _).1 h).range r c hr hc
  unfold upd2 at h1
  rw [if_pos ⟨rfl, rfl⟩] at h1
  omega
end Go.Proofs.Ytjbejbehbjhecaa.L20
namespace Go.Proofs.Ytjbejbehbjhecaa.L20
open Go.RowKit Go.Proofs.YtjbejbehbjhecaaW.PrintWords Go.Proofs.YtjbejbehbjhecaaW.PrintMore Go.Proofs.Ytjbejbehbjhecaa.Base Go.Proofs.Ytjbejbehbjhecaa.Q20
set_option linter.unusedVariables false
set_option linter.unusedSimpArgs false
set_option maxRecDepth 100000
/-! ### lsa: Links, May, body, Put, Get, Head (S59: the struct Link) -/
instance : DecidableEq S59 := fun a b => decidable_of_iff (a.f0 = b.f0 ∧ a.f1 = b.f1) (by cases a; cases b; simp)
def LinkOk (rt : Int) (x : S59) : Prop := 1 ≤ x.f0 ∧ x.f0 ≤ 4 ∧ x.f0 ≠ rt ∧ 1 ≤ x.f1 ∧ x.f1 ≤ 65535
instance (rt : Int) (x : S59) : Decidable (LinkOk rt x) := by unfold LinkOk; infer_instance
def links (rt : Int) : Int → List S59 → Bool
  | _, [] => true
  | p, x :: l => if LinkOk rt x ∧ p < x.f0 then links rt x.f0 l else false
theorem links_short {rt : Int} : ∀ (l : List S59) (p : Int), 0 ≤ p → links rt p l = true → l.length = 0 ∨ (l.length : Int) ≤ 4 - p
  | [], _, _, _ => .inl rfl
  | x :: l, p, h0, h => by
    unfold links at h
    by_cases hc : LinkOk rt x ∧ p < x.f0
    · rw [if_pos hc] at h
      have h4 := hc.1.2.1
      rcases links_short l x.f0 (by omega) h with h1 | h1
      · right; simp only [List.length_cons, h1]; omega
      · right; simp only [List.length_cons]; omega
    · rw [if_neg hc] at h; cases h
theorem links_len {rt : Int} {l : List S59} (h : links rt 0 l = true) : l.length ≤ 4 := by
  rcases links_short l 0 (by omega) h with h1 | h1 <;> omega
theorem links_range {rt : Int} : ∀ (l : List S59) (p : Int), links rt p l = true → ∀ x ∈ l, LinkOk rt x
  | [], _, _, _, hx => by cases hx
  | y :: l, p, h, x, hx => by
    unfold links at h
    by_cases hc : LinkOk rt y ∧ p < y.f0
    · rw [if_pos hc] at h
      rcases List.mem_cons.mp hx with rfl | hx
      · exact hc.1
      · exact links_range l y.f0 h x hx
    · rw [if_neg hc] at h; cases h
theorem rdL_at {l : List S59} {i : Nat} (h : i < l.length) : rd_T59 l (i : Int) = l[i] := by
  unfold rd_T59; rw [Int.toNat_natCast, List.getD_eq_getElem?_getD, List.getElem?_eq_getElem h]; rfl
def prevL (l : List S59) (i : Nat) : Int := if i = 0 then 0 else (rd_T59 l ((i : Int) - 1)).f0
theorem prevL_succ (l : List S59) (i : Nat) : prevL l (i + 1) = (rd_T59 l (i : Int)).f0 := by
  unfold prevL; rw [if_neg (by omega)]
  have : ((i + 1 : Nat) : Int) - 1 = (i : Int) := by omega
  rw [this]
theorem dropL_at {l : List S59} {i : Nat} (h : i < l.length) : l.drop i = rd_T59 l (i : Int) :: l.drop (i + 1) := by
  rw [List.drop_eq_getElem_cons h, rdL_at h]
theorem lsa_Router_f (x : Int) : lsa_Router.f x = some (decide (1 ≤ x ∧ x ≤ 4)) := by
  unfold lsa_Router.f
  by_cases h : x ≥ 1
  · rw [if_pos h]; simp [show (1 : Int) ≤ x from h]
  · rw [if_neg h]; simp [show ¬ (1 : Int) ≤ x from h]
theorem lsa_Links_l {l : List S59} {rt : Int} (hn : l.length ≤ 9223372036854775807) : ∀ (d k i : Nat), i + d = l.length → d < k →
    lsa_Links.l0 k l rt l (l.length : Int) (i : Int) = some (links rt (prevL l i) (l.drop i)) := by
  intro d
  induction d with
  | zero =>
    intro k i hi hk
    obtain ⟨k, rfl⟩ : ∃ m, k = m + 1 := ⟨k - 1, by omega⟩
    simp only [lsa_Links.l0]
    rw [if_neg (by omega), List.drop_of_length_le (by omega)]
    rfl
  | succ d ih =>
    intro k i hi hk
    obtain ⟨k, rfl⟩ : ∃ m, k = m + 1 := ⟨k - 1, by omega⟩
    have hlt : i < l.length := by omega
    have h4 : wrap64 ((i : Int) + 1) = ((i + 1 : Nat) : Int) := by rw [wrap_id (by omega) (by omega)]; omega
    have h5 : wrap64 ((i : Int) - 1) = (i : Int) - 1 := wrap_id (by omega) (by omega)
    have hr := ih k (i + 1) (by omega) (by omega)
    simp only [lsa_Links.l0, lsa_Router_f, Option.bind_some, decide_eq_true_eq]
    rw [if_pos (by omega), if_pos (by omega), if_pos (by omega), h4, h5, hr, prevL_succ, dropL_at hlt]
    generalize hx : rd_T59 l (i : Int) = x
    by_cases c1 : 1 ≤ x.f0 ∧ x.f0 ≤ 4
    · rw [if_pos c1]
      by_cases c2 : x.f0 = rt
      · rw [if_pos c2]; unfold links; rw [if_neg (fun hh => hh.1.2.2.1 c2)]
      rw [if_neg c2]
      by_cases c3 : x.f1 < 1
      · rw [if_pos c3]; unfold links; rw [if_neg (fun hh => by have := hh.1.2.2.2.1; omega)]
      rw [if_neg c3]
      by_cases c4 : x.f1 > 65535
      · rw [if_pos c4]; unfold links; rw [if_neg (fun hh => by have := hh.1.2.2.2.2; omega)]
      rw [if_neg c4]
      have hok : LinkOk rt x := ⟨c1.1, c1.2, c2, by omega, by omega⟩
      by_cases h0 : (i : Int) > 0
      · rw [if_pos h0, if_pos (by omega), if_pos (by omega)]
        have hp : prevL l i = (rd_T59 l ((i : Int) - 1)).f0 := by unfold prevL; rw [if_neg (by omega)]
        by_cases hg : (rd_T59 l ((i : Int) - 1)).f0 ≥ x.f0
        · rw [if_pos hg]; unfold links; rw [if_neg (by rw [hp]; omega)]
        · rw [if_neg hg]; conv => rhs; unfold links
          rw [if_pos ⟨hok, by rw [hp]; omega⟩]
      · rw [if_neg h0]
        have hp : prevL l i = 0 := by unfold prevL; rw [if_pos (by omega)]
        conv => rhs; unfold links
        rw [if_pos ⟨hok, by rw [hp]; omega⟩]
    · rw [if_neg c1]; unfold links; rw [if_neg (fun hh => c1 ⟨hh.1.1, hh.1.2.1⟩)]
theorem lsa_Links_f {l : List S59} {rt : Int} (hn : l.length ≤ 9223372036854775807) {k : Nat} (hk : l.length < k) : lsa_Links.f k l rt = some (links rt 0 l) :=
  lsa_Links_l hn l.length k 0 (by omega) hk
def LsaOk (r s g : Int) (l : List S59) : Prop := 1 ≤ r ∧ r ≤ 4 ∧ 1 ≤ s ∧ s ≤ 2147483647 ∧ 0 ≤ g ∧ g ≤ 60 ∧ links r 0 l = true
instance (r s g : Int) (l : List S59) : Decidable (LsaOk r s g l) := by unfold LsaOk; infer_instance
theorem lsa_May_f {r s g : Int} {l : List S59} (hn : l.length ≤ 9223372036854775807) {k : Nat} (hk : l.length < k) : lsa_May.f k r s g l = some (decide (LsaOk r s g l)) := by
  simp only [lsa_May.f, lsa_Links_f hn hk, lsa_Router_f, Option.bind_some]
  unfold lsa_Serial.f lsa_Age.f
  by_cases h1 : 1 ≤ r ∧ r ≤ 4
  · unfold LsaOk
    by_cases h3 : s ≥ 1
    · by_cases h4 : s ≤ 2147483647
      · by_cases h5 : g ≥ 0
        · by_cases h6 : g ≤ 60
          · simp [h1.1, h1.2, h3, h4, h5, h6]
          · simp [h1.1, h1.2, h3, h4, h5, h6]
        · simp [h1.1, h1.2, h3, h4, h5]
      · simp [h1.1, h1.2, h3, h4]
    · simp [h1.1, h1.2, h3]
  · rw [decide_eq_false h1, if_neg (by decide), decide_eq_false (fun hh : LsaOk r s g l => h1 ⟨hh.1, hh.2.1⟩)]
/-! ### update: May, Put, Get; SameLsas (S57: the struct Lsa) -/
def UsOk (x : S57) : Prop := LsaOk x.f0 x.f1 x.f2 x.f3
instance (x : S57) : Decidable (UsOk x) := by unfold UsOk; infer_instance
instance : DecidableEq S57 := fun a b => decidable_of_iff (a.f0 = b.f0 ∧ a.f1 = b.f1 ∧ a.f2 = b.f2 ∧ a.f3 = b.f3) (by cases a; cases b; simp)
def upd : Int → List S57 → Bool
  | _, [] => true
  | p, x :: l => if UsOk x ∧ p < x.f0 then upd x.f0 l else false
theorem upd_short : ∀ (l : List S57) (p : Int), 0 ≤ p → upd p l = true → l.length = 0 ∨ (l.length : Int) ≤ 4 - p
  | [], _, _, _ => .inl rfl
  | x :: l, p, h0, h => by
    unfold upd at h
    by_cases hc : UsOk x ∧ p < x.f0
    · rw [if_pos hc] at h
      have h4 := hc.1.2.1
      rcases upd_short l x.f0 (by omega) h with h1 | h1
      · right; simp only [List.length_cons, h1]; omega
      · right; simp only [List.length_cons]; omega
    · rw [if_neg hc] at h; cases h
theorem upd_len {l : List S57} (h : upd 0 l = true) : l.length ≤ 4 := by
  rcases upd_short l 0 (by omega) h with h1 | h1 <;> omega
theorem upd_ok : ∀ (l : List S57) (p : Int), upd p l = true → ∀ x ∈ l, UsOk x
  | [], _, _, _, hx => by cases hx
  | y :: l, p, h, x, hx => by
    unfold upd at h
    by_cases hc : UsOk y ∧ p < y.f0
    · rw [if_pos hc] at h
      rcases List.mem_cons.mp hx with rfl | hx
      · exact hc.1
      · exact upd_ok l y.f0 h x hx
    · rw [if_neg hc] at h; cases h
theorem usOk_len {x : S57} (h : UsOk x) : x.f3.length ≤ 4 := links_len h.2.2.2.2.2.2
theorem rdU_at {l : List S57} {i : Nat} (h : i < l.length) : rd_T57 l (i : Int) = l[i] := by
  unfold rd_T57; rw [Int.toNat_natCast, List.getD_eq_getElem?_getD, List.getElem?_eq_getElem h]; rfl
theorem rdU_mem {l : List S57} {i : Nat} (h : i < l.length) : rd_T57 l (i : Int) ∈ l := by rw [rdU_at h]; exact List.getElem_mem h
def prevU (l : List S57) (i : Nat) : Int := if i = 0 then 0 else (rd_T57 l ((i : Int) - 1)).f0
theorem prevU_succ (l : List S57) (i : Nat) : prevU l (i + 1) = (rd_T57 l (i : Int)).f0 := by
  unfold prevU; rw [if_neg (by omega)]
  have : ((i + 1 : Nat) : Int) - 1 = (i : Int) := by omega
  rw [this]
theorem dropU_at {l : List S57} {i : Nat} (h : i < l.length) : l.drop i = rd_T57 l (i : Int) :: l.drop (i + 1) := by
  rw [List.drop_eq_getElem_cons h, rdU_at h]
theorem update_May_l {l : List S57} {M : Nat} (hn : l.length ≤ 9223372036854775807) (hM : ∀ x ∈ l, x.f3.length < M) (hM2 : M ≤ 9223372036854775807) : ∀ (d k i : Nat), i + d = l.length → d + M < k →
    update_May.l0 k l l (l.length : Int) (i : Int) = some (upd (prevU l i) (l.drop i)) := by
  intro d
  induction d with
  | zero =>
    intro k i hi hk
    obtain ⟨k, rfl⟩ : ∃ m, k = m + 1 := ⟨k - 1, by omega⟩
    simp only [update_May.l0]
    rw [if_neg (by omega), List.drop_of_length_le (by omega)]
    rfl
  | succ d ih =>
    intro k i hi hk
    obtain ⟨k, rfl⟩ : ∃ m, k = m + 1 := ⟨k - 1, by omega⟩
    have hlt : i < l.length := by omega
    have h4 : wrap64 ((i : Int) + 1) = ((i + 1 : Nat) : Int) := by rw [wrap_id (by omega) (by omega)]; omega
    have h5 : wrap64 ((i : Int) - 1) = (i : Int) - 1 := wrap_id (by omega) (by omega)
    have hr := ih k (i + 1) (by omega) (by omega)
    have hm := hM _ (rdU_mem hlt)
    simp only [update_May.l0]
    rw [if_pos (by omega), if_pos (by omega), if_pos (by omega), h4, h5, hr, prevU_succ, dropU_at hlt]
    generalize rd_T57 l (i : Int) = x at hm ⊢
    rw [lsa_May_f (by omega) (show x.f3.length < k by omega)]
    simp only [Option.bind_some, decide_eq_true_eq]
    by_cases c1 : LsaOk x.f0 x.f1 x.f2 x.f3
    · rw [if_pos c1]
      have hok : UsOk x := c1
      have h1 := c1.1
      by_cases h0 : (i : Int) > 0
      · rw [if_pos h0, if_pos (by omega), if_pos (by omega)]
        have hp : prevU l i = (rd_T57 l ((i : Int) - 1)).f0 := by unfold prevU; rw [if_neg (by omega)]
        by_cases hg : (rd_T57 l ((i : Int) - 1)).f0 ≥ x.f0
        · rw [if_pos hg]; unfold upd; rw [if_neg (by rw [hp]; omega)]
        · rw [if_neg hg]; conv => rhs; unfold upd
          rw [if_pos ⟨hok, by rw [hp]; omega⟩]
      · rw [if_neg h0]
        have hp : prevU l i = 0 := by unfold prevU; rw [if_pos (by omega)]
        conv => rhs; unfold upd
        rw [if_pos ⟨hok, by rw [hp]; omega⟩]
    · rw [if_neg c1]; unfold upd; rw [if_neg (fun hh => c1 hh.1)]
theorem update_May_f {l : List S57} {M : Nat} (hn : l.length ≤ 9223372036854775807) (hM : ∀ x ∈ l, x.f3.length < M) (hM2 : M ≤ 9223372036854775807) {k : Nat} (hk : l.length + M < k) :
    update_May.f k l = some (upd 0 l) := update_May_l hn hM hM2 l.length k 0 (by omega) hk
/-! #### may this store be -/
def young (l : List S57) : Bool := l.all fun x => decide (x.f2 < 60)
def stOk (l : List S57) : Bool := upd 0 l && young l
theorem idx_l {l : List S57} (hn : l.length ≤ 9223372036854775807) : ∀ (d k i : Nat), i + d = l.length → d < k → ∃ r, api_Lsa_43.l0 k l (l.length : Int) (i : Int) = some r ∧ (decide (r ≥ 0) = !young (l.drop i)) := by
  intro d
  induction d with
  | zero =>
    intro k i hi hk
    obtain ⟨k, rfl⟩ : ∃ m, k = m + 1 := ⟨k - 1, by omega⟩
    refine ⟨-1, ?_, ?_⟩
    · simp only [api_Lsa_43.l0]; rw [if_neg (by omega)]
    · rw [List.drop_of_length_le (by omega)]; rfl
  | succ d ih =>
    intro k i hi hk
    obtain ⟨k, rfl⟩ : ∃ m, k = m + 1 := ⟨k - 1, by omega⟩
    have hlt : i < l.length := by omega
    have h4 : wrap64 ((i : Int) + 1) = ((i + 1 : Nat) : Int) := by rw [wrap_id (by omega) (by omega)]; omega
    obtain ⟨r, hr, hy⟩ := ih k (i + 1) (by omega) (by omega)
    simp only [api_Lsa_43.l0]
    rw [if_pos (by omega), if_pos (by omega), if_pos (by omega), h4, hr, dropU_at hlt]
    unfold store_May_1.f
    simp only [Option.bind_some, decide_eq_true_eq]
    by_cases c : (rd_T57 l (i : Int)).f2 ≥ 60
    · refine ⟨i, by rw [if_pos c], ?_⟩
      unfold young
      rw [List.all_cons, decide_eq_false (show ¬ (rd_T57 l (i : Int)).f2 < 60 by omega)]
      simp
    · refine ⟨r, by rw [if_neg c], ?_⟩
      rw [hy]
      unfold young
      rw [List.all_cons, decide_eq_true (show (rd_T57 l (i : Int)).f2 < 60 by omega), Bool.true_and]
theorem store_May_f {l : List S57} {M : Nat} (hn : l.length ≤ 9223372036854775807) (hM : ∀ x ∈ l, x.f3.length < M) (hM2 : M ≤ 9223372036854775807) {k : Nat} (hk : l.length + M < k) : store_May.f k l = some (stOk l) := by
  obtain ⟨r, hr, hy⟩ := idx_l hn l.length k 0 (by omega) (by omega)
  unfold store_May.f api_Lsa_39.f api_Lsa_43.f
  rw [update_May_f hn hM hM2 hk]
  simp only [Option.bind_some]
  rw [show api_Lsa_43.l0 k l (l.length : Int) 0 = some r from hr]
  simp only [Option.bind_some]
  rw [hy, List.drop_zero]
  unfold stOk
  cases upd 0 l <;> simp
/-! #### what is told -/
def toldL (r : Int) : List S59 → Mat → Mat
  | [], m => m
  | x :: l, m => toldL r l (upd2 m (r - 1).toNat (x.f0 - 1).toNat x.f1)
def toldA : List S57 → Mat → Mat
  | [], m => m
  | a :: l, m => toldA l (toldL a.f0 a.f3 m)
def outOf (m : Mat) : Mat := fun i j => if 0 < m j i then m i j else 0
abbrev R17 := Int × Int × Int × Int × Int × Int × Int × Int × Int × Int × Int × Int × Int × Int × Int × Int × Int
def tup17 (m : Mat) (e : Int) : R17 := (m 0 0, m 0 1, m 0 2, m 0 3, m 1 0, m 1 1, m 1 2, m 1 3, m 2 0, m 2 1, m 2 2, m 2 3, m 3 0, m 3 1, m 3 2, m 3 3, e)
theorem tup17_congr {m m' : Mat} (h : ∀ i j, i < 4 → j < 4 → m i j = m' i j) (e : Int) : tup17 m e = tup17 m' e := by
  unfold tup17
  simp only [h 0 0 (by decide) (by decide), h 0 1 (by decide) (by decide), h 0 2 (by decide) (by decide), h 0 3 (by decide) (by decide),
    h 1 0 (by decide) (by decide), h 1 1 (by decide) (by decide), h 1 2 (by decide) (by decide), h 1 3 (by decide) (by decide),
    h 2 0 (by decide) (by decide), h 2 1 (by decide) (by decide), h 2 2 (by decide) (by decide), h 2 3 (by decide) (by decide),
    h 3 0 (by decide) (by decide), h 3 1 (by decide) (by decide), h 3 2 (by decide) (by decide), h 3 3 (by decide) (by decide)]
def G2 (k a : Nat) (m o : Mat) := graph_Of.l2 k (a : Int) (m 0 0) (m 0 1) (m 0 2) (m 0 3) (m 1 0) (m 1 1) (m 1 2) (m 1 3) (m 2 0) (m 2 1) (m 2 2) (m 2 3) (m 3 0) (m 3 1) (m 3 2) (m 3 3) (o 0 0) (o 0 1) (o 0 2) (o 0 3) (o 1 0) (o 1 1) (o 1 2) (o 1 3) (o 2 0) (o 2 1) (o 2 2) (o 2 3) (o 3 0) (o 3 1) (o 3 2) (o 3 3) (m 0 0) (m 0 1) (m 0 2) (m 0 3) (m 1 0) (m 1 1) (m 1 2) (m 1 3) (m 2 0) (m 2 1) (m 2 2) (m 2 3) (m 3 0) (m 3 1) (m 3 2) (m 3 3)
def G3 (k a b : Nat) (m o : Mat) := graph_Of.l3 k (a : Int) (a : Int) (b : Int) (m 0 0) (m 0 1) (m 0 2) (m 0 3) (m 1 0) (m 1 1) (m 1 2) (m 1 3) (m 2 0) (m 2 1) (m 2 2) (m 2 3) (m 3 0) (m 3 1) (m 3 2) (m 3 3) (o 0 0) (o 0 1) (o 0 2) (o 0 3) (o 1 0) (o 1 1) (o 1 2) (o 1 3) (o 2 0) (o 2 1) (o 2 2) (o 2 3) (o 3 0) (o 3 1) (o 3 2) (o 3 3) (m 0 0) (m 0 1) (m 0 2) (m 0 3) (m 1 0) (m 1 1) (m 1 2) (m 1 3) (m 2 0) (m 2 1) (m 2 2) (m 2 3) (m 3 0) (m 3 1) (m 3 2) (m 3 3) (m a 0) (m a 1) (m a 2) (m a 3)
theorem G3_step (k : Nat) {a b : Nat} (ha : a < 4) (hb : b < 4) (m o : Mat) : G3 (k + 1) a b m o = G3 k a (b + 1) m (if 0 < m b a then upd2 o a b (m a b) else o) := by
  unfold G3
  simp only [graph_Of.l3]
  rw [if_pos (show (b : Int) < 4 by omega), if_pos (show 0 ≤ (b : Int) by omega), if_pos (show 0 ≤ (a : Int) by omega), if_pos (show (a : Int) < 4 by omega), next4 hb, sel_at m hb ha, row_at (fun j => m a j) hb]
  by_cases h : 0 < m b a
  · rw [if_pos (show m b a > 0 from h), if_pos h]
    obtain ⟨u1, u2, u3, u4, u5, u6, u7, u8, u9, u10, u11, u12, u13, u14, u15, u16⟩ := ups o a b (m a b)
    rw [u1, u2, u3, u4, u5, u6, u7, u8, u9, u10, u11, u12, u13, u14, u15, u16]
  · rw [if_neg (show ¬ m b a > 0 from h), if_neg h]
theorem G3_end (k : Nat) {a : Nat} (ha : a < 4) (m o : Mat) : G3 (k + 1) a 4 m o = G2 k (a + 1) m o := by
  unfold G3 G2
  simp only [graph_Of.l3]
  rw [if_neg (show ¬ (((4 : Nat) : Int) < 4) by decide), next4 ha]
theorem G2_step (k : Nat) {a : Nat} (ha : a < 4) (m o : Mat) : G2 (k + 1) a m o = G3 k a 0 m o := by
  unfold G3 G2
  simp only [graph_Of.l2]
  rw [if_pos (show (a : Int) < 4 by omega), if_pos (show 0 ≤ (a : Int) by omega), row_at (fun i => m i 0) ha, row_at (fun i => m i 1) ha, row_at (fun i => m i 2) ha, row_at (fun i => m i 3) ha]
  rfl
theorem G2_end (k : Nat) (m o : Mat) : G2 (k + 1) 4 m o = some (tup17 o 0) := by
  unfold G2
  simp only [graph_Of.l2]
  rw [if_neg (show ¬ (((4 : Nat) : Int) < 4) by decide)]
  rfl
def GFill (m : Mat) (a b : Nat) (o : Mat) : Prop := ∀ i j, i < 4 → j < 4 → o i j = if i < a ∨ (i = a ∧ j < b) then outOf m i j else 0
theorem GFill.step {m : Mat} {a b : Nat} (hb : b < 4) {o : Mat} (F : GFill m a b o) : GFill m a (b + 1) (if 0 < m b a then upd2 o a b (m a b) else o) := by
  intro i j hi hj
  have hF := F i j hi hj
  by_cases h : i = a ∧ j = b
  · obtain ⟨rfl, rfl⟩ := h
    rw [if_pos (show i < i ∨ i = i ∧ j < j + 1 from .inr ⟨rfl, by omega⟩)]
    unfold outOf
    by_cases h0 : 0 < m j i
    · rw [if_pos h0, if_pos h0]; unfold upd2; rw [if_pos ⟨rfl, rfl⟩]
    · rw [if_neg h0, if_neg h0, hF, if_neg (by omega)]
  · have e : (if 0 < m b a then upd2 o a b (m a b) else o) i j = o i j := by
      split
      · unfold upd2; rw [if_neg h]
      · rfl
    rw [e, hF]
    by_cases h1 : i < a ∨ (i = a ∧ j < b)
    · rw [if_pos h1, if_pos (by omega)]
    · rw [if_neg h1, if_neg (by omega)]
theorem gfill_row (k : Nat) {a : Nat} (ha : a < 4) (m : Mat) : ∀ d b o, b + d = 4 → GFill m a b o → ∃ o', GFill m (a + 1) 0 o' ∧ G3 (k + 1 + d) a b m o = G2 k (a + 1) m o'
  | 0, b, o, h, F => ⟨o, fun i j hi hj => by
      rw [F i j hi hj]
      by_cases h1 : i < a ∨ (i = a ∧ j < b)
      · rw [if_pos h1, if_pos (by omega)]
      · rw [if_neg h1, if_neg (by omega)], by
      obtain rfl : b = 4 := by omega
      exact G3_end k ha m o⟩
  | d + 1, b, o, h, F => by
    obtain ⟨o', F', e⟩ := gfill_row k ha m d (b + 1) _ (by omega) (F.step (by omega))
    exact ⟨o', F', (G3_step (k + 1 + d) ha (by omega) m o).trans e⟩
theorem gfill_all (k : Nat) (m : Mat) : ∀ d a o, a + d = 4 → GFill m a 0 o → G2 (k + 1 + 6 * d) a m o = some (tup17 (outOf m) 0)
  | 0, a, o, h, F => by
    obtain rfl : a = 4 := by omega
    rw [show k + 1 + 6 * 0 = k + 1 from rfl, G2_end]
    congr 1
    exact tup17_congr (fun i j hi hj => by rw [F i j hi hj, if_pos (by omega)]) 0
  | d + 1, a, o, h, F => by
    obtain ⟨o1, F1, e1⟩ := gfill_row (k + 1 + 6 * d) (show a < 4 by omega) m 4 0 o rfl F
    rw [show k + 1 + 6 * (d + 1) = (k + 1 + 6 * d + 1 + 4) + 1 by omega, G2_step _ (by omega), e1]
    exact gfill_all k m d (a + 1) o1 (by omega) F1
def T0 (k : Nat) (sts : List S57) (i : Nat) (m o : Mat) := graph_Of.l0 k sts (sts.length : Int) (i : Int) (m 0 0) (m 0 1) (m 0 2) (m 0 3) (m 1 0) (m 1 1) (m 1 2) (m 1 3) (m 2 0) (m 2 1) (m 2 2) (m 2 3) (m 3 0) (m 3 1) (m 3 2) (m 3 3) (o 0 0) (o 0 1) (o 0 2) (o 0 3) (o 1 0) (o 1 1) (o 1 2) (o 1 3) (o 2 0) (o 2 1) (o 2 2) (o 2 3) (o 3 0) (o 3 1) (o 3 2) (o 3 3)
def T1 (k : Nat) (sts : List S57) (i : Nat) (ls : List S59) (j : Nat) (m o : Mat) (r s g : Int) (l3 : List S59) := graph_Of.l1 k sts (sts.length : Int) (i : Int) ls (ls.length : Int) (j : Int) (m 0 0) (m 0 1) (m 0 2) (m 0 3) (m 1 0) (m 1 1) (m 1 2) (m 1 3) (m 2 0) (m 2 1) (m 2 2) (m 2 3) (m 3 0) (m 3 1) (m 3 2) (m 3 3) (o 0 0) (o 0 1) (o 0 2) (o 0 3) (o 1 0) (o 1 1) (o 1 2) (o 1 3) (o 2 0) (o 2 1) (o 2 2) (o 2 3) (o 3 0) (o 3 1) (o 3 2) (o 3 3) r s g l3
theorem T1_all {sts : List S57} {i : Nat} (hi : i < sts.length) (hn : sts.length ≤ 9223372036854775807) {ls : List S59} (hl : ls.length ≤ 4) {r s g : Int} (hr : 1 ≤ r ∧ r ≤ 4) (hx : ∀ x ∈ ls, 1 ≤ x.f0 ∧ x.f0 ≤ 4) (l3 : List S59) (o : Mat) (k : Nat) :
    ∀ d j m, j + d = ls.length → T1 (k + 1 + d) sts i ls j m o r s g l3 = T0 k sts (i + 1) (toldL r (ls.drop j) m) o
  | 0, j, m, h => by
    unfold T1 T0
    simp only [graph_Of.l1]
    rw [if_neg (by omega), List.drop_of_length_le (by omega), show wrap64 ((i : Int) + 1) = ((i + 1 : Nat) : Int) by rw [wrap_id (by omega) (by omega)]; omega]
    rfl
  | d + 1, j, m, h => by
    have hj : j < ls.length := by omega
    have hm := hx _ (by rw [rdL_at hj]; exact List.getElem_mem hj : rd_T59 ls (j : Int) ∈ ls)
    have ih := T1_all (s := s) (g := g) hi hn hl hr hx l3 o k d (j + 1) (upd2 m (r - 1).toNat ((rd_T59 ls (j : Int)).f0 - 1).toNat (rd_T59 ls (j : Int)).f1) (by omega)
    rw [dropL_at hj]
    refine Eq.trans ?_ ih
    unfold T1
    rw [show k + 1 + (d + 1) = (k + 1 + d) + 1 from rfl]
    simp only [graph_Of.l1]
    generalize rd_T59 ls (j : Int) = x at hm ⊢
    obtain ⟨a, ha, ea⟩ : ∃ a : Nat, a < 4 ∧ wrap64 (r - 1) = (a : Int) := ⟨(r - 1).toNat, by omega, by rw [wrap_id (by omega) (by omega)]; omega⟩
    obtain ⟨b, hb, eb⟩ : ∃ b : Nat, b < 4 ∧ wrap64 (x.f0 - 1) = (b : Int) := ⟨(x.f0 - 1).toNat, by omega, by rw [wrap_id (by omega) (by omega)]; omega⟩
    have e1 : (r - 1).toNat = a := by rw [wrap_id (by omega) (by omega)] at ea; omega
    have e2 : (x.f0 - 1).toNat = b := by rw [wrap_id (by omega) (by omega)] at eb; omega
    rw [ea, eb, e1, e2, if_pos (by omega), if_pos (show 0 ≤ (j : Int) by omega), if_pos (by omega), if_pos (show 0 ≤ (a : Int) by omega), if_pos (show (a : Int) < 4 by omega), if_pos (show 0 ≤ (b : Int) by omega), if_pos (show (b : Int) < 4 by omega),
      show wrap64 ((j : Int) + 1) = ((j + 1 : Nat) : Int) by rw [wrap_id (by omega) (by omega)]; omega]
    obtain ⟨u1, u2, u3, u4, u5, u6, u7, u8, u9, u10, u11, u12, u13, u14, u15, u16⟩ := ups m a b x.f1
    rw [u1, u2, u3, u4, u5, u6, u7, u8, u9, u10, u11, u12, u13, u14, u15, u16]
theorem T0_all {sts : List S57} (hn : sts.length ≤ 9223372036854775807) (hok : ∀ x ∈ sts, UsOk x) : ∀ d i k m, i + d = sts.length → 40 + 7 * d ≤ k → T0 k sts i m (fun _ _ => 0) = some (tup17 (outOf (toldA (sts.drop i) m)) 0)
  | 0, i, k, m, h, hk => by
    obtain ⟨k, rfl⟩ : ∃ q, k = q + 26 := ⟨k - 26, by omega⟩
    rw [List.drop_of_length_le (by omega)]
    unfold T0
    simp only [graph_Of.l0]
    rw [if_neg (by omega)]
    show G2 (k + 1 + 6 * 4) 0 m (fun _ _ => 0) = _
    exact gfill_all k m 4 0 (fun _ _ => 0) rfl (fun i j hi hj => by rw [if_neg (by omega)])
  | d + 1, i, k, m, h, hk => by
    have hi : i < sts.length := by omega
    have hx := hok _ (rdU_mem hi)
    have hl := usOk_len hx
    rw [dropU_at hi]
    obtain ⟨q, hq⟩ : ∃ q, k = q + 1 + (rd_T57 sts (i : Int)).f3.length + 1 := ⟨k - 2 - (rd_T57 sts (i : Int)).f3.length, by omega⟩
    subst hq
    have ih := T0_all hn hok d (i + 1) q (toldL (rd_T57 sts (i : Int)).f0 (rd_T57 sts (i : Int)).f3 m) (by omega) (by omega)
    refine Eq.trans ?_ ih
    have h1 := T1_all (s := (rd_T57 sts (i : Int)).f1) (g := (rd_T57 sts (i : Int)).f2) hi hn hl ⟨hx.1, hx.2.1⟩ (fun y hy => ⟨(links_range _ _ hx.2.2.2.2.2.2 y hy).1, (links_range _ _ hx.2.2.2.2.2.2 y hy).2.1⟩) (rd_T57 sts (i : Int)).f3 (fun _ _ => 0) q (rd_T57 sts (i : Int)).f3.length 0 m (by omega)
    rw [List.drop_zero] at h1
    refine Eq.trans ?_ h1
    unfold T0 T1
    simp only [graph_Of.l0]
    rw [if_pos (by omega), if_pos (by omega), if_pos (by omega)]
    rfl
/-- What Of answers. -/
def ofAns (l : List S57) : R17 := if stOk l = true then tup17 (outOf (toldA l (fun _ _ => 0))) 0 else tup17 (fun _ _ => 0) 2000
theorem Of_f {l : List S57} {M : Nat} (hn : l.length ≤ 9223372036854775807) (hM : ∀ x ∈ l, x.f3.length < M) (hM2 : M ≤ 9223372036854775807) {k : Nat} (hk : l.length + M < k) (h100 : 100 ≤ k) : graph_Of.f k l = some (ofAns l) := by
  unfold graph_Of.f ofAns
  rw [store_May_f hn hM hM2 hk]
  simp only [Option.bind_some]
  by_cases h : stOk l = true
  · rw [if_pos h, if_pos h]
    have h1 : upd 0 l = true := by unfold stOk at h; revert h; cases upd 0 l <;> simp
    have h4 := upd_len h1
    have h2 := T0_all hn (upd_ok l 0 h1) l.length 0 k (fun _ _ => 0) (by omega) (by omega)
    rw [List.drop_zero] at h2
    exact h2
  · rw [if_neg h, if_neg h]
    rfl
end Go.Proofs.Ytjbejbehbjhecaa.L20
namespace Go.Proofs.Ytjbejbehbjhecaa.L20
open Go.RowKit Go.Proofs.YtjbejbehbjhecaaW.PrintWords Go.Proofs.YtjbejbehbjhecaaW.PrintMore Go.Proofs.Ytjbejbehbjhecaa.Base Go.Proofs.Ytjbejbehbjhecaa.Q20
set_option linter.unusedVariables false
set_option maxRecDepth 100000
theorem awake_ok {k : Nat} (hk : 100 ≤ k) : watchwordlaw20_awake.f k = some true :=
  at_rounds (g := fun k => watchwordlaw20_awake.f k) watchwordlaw20_awake.mono hk (by decide +kernel)
theorem num_ok : watchwordlaw0_Num.f 0 = some 0 := by decide +kernel
theorem num_bad : watchwordlaw0_Num.f 2000 = some 2000 := by decide +kernel
def lnk : List S59 → Int → Int → Int
  | [], _, d => d
  | x :: l, t, d => lnk l t (if x.f0 = t then x.f1 else d)
def lkA : List S57 → Int → Int → Int → Int
  | [], _, _, d => d
  | a :: l, r, t, d => lkA l r t (if a.f0 = r then lnk a.f3 t d else d)
theorem toldL_at {r : Int} (hr : 1 ≤ r) : ∀ (ls : List S59) (hx : ∀ x ∈ ls, 1 ≤ x.f0) (m : Mat) (i j : Nat), toldL r ls m i j = if (i : Int) + 1 = r then lnk ls ((j : Int) + 1) (m i j) else m i j
  | [], _, m, i, j => by unfold toldL lnk; split <;> rfl
  | x :: l, hx, m, i, j => by
    have h1 := hx x (List.mem_cons_self ..)
    unfold toldL
    rw [toldL_at hr l (fun y hy => hx y (List.mem_cons_of_mem _ hy))]
    by_cases h : (i : Int) + 1 = r
    · rw [if_pos h, if_pos h]
      show _ = lnk l _ _
      congr 1
      unfold upd2
      by_cases h2 : x.f0 = (j : Int) + 1
      · rw [if_pos (by omega), if_pos h2]
      · rw [if_neg (by omega), if_neg h2]
    · rw [if_neg h, if_neg h]
      unfold upd2
      rw [if_neg (by omega)]
theorem lnk_none {t : Int} : ∀ (ls : List S59) (d : Int), (∀ x ∈ ls, x.f0 ≠ t) → lnk ls t d = d
  | [], _, _ => rfl
  | x :: l, d, h => by
    unfold lnk
    rw [if_neg (h x (List.mem_cons_self ..))]
    exact lnk_none l d (fun y hy => h y (List.mem_cons_of_mem _ hy))
theorem links_gt {rt : Int} : ∀ (l : List S59) (p : Int), links rt p l = true → ∀ z ∈ l, p < z.f0
  | [], _, _, z, hz => by cases hz
  | y :: l, p, h, z, hz => by
    unfold links at h
    by_cases hc : LinkOk rt y ∧ p < y.f0
    · rw [if_pos hc] at h
      rcases List.mem_cons.mp hz with rfl | hz
      · exact hc.2
      · have := links_gt l y.f0 h z hz; omega
    · rw [if_neg hc] at h; cases h
theorem lnk_at {rt : Int} : ∀ (l : List S59) (p d : Int), links rt p l = true → ∀ x ∈ l, lnk l x.f0 d = x.f1
  | [], _, _, _, x, hx => by cases hx
  | y :: l, p, d, h, x, hx => by
    unfold links at h
    by_cases hc : LinkOk rt y ∧ p < y.f0
    · rw [if_pos hc] at h
      unfold lnk
      rcases List.mem_cons.mp hx with rfl | hx
      · rw [if_pos rfl]
        exact lnk_none l _ (fun z hz => by have := links_gt l x.f0 h z hz; omega)
      · exact lnk_at l y.f0 _ h x hx
    · rw [if_neg hc] at h; cases h
theorem upd_gt : ∀ (l : List S57) (p : Int), upd p l = true → ∀ z ∈ l, p < z.f0
  | [], _, _, z, hz => by cases hz
  | y :: l, p, h, z, hz => by
    unfold upd at h
    by_cases hc : UsOk y ∧ p < y.f0
    · rw [if_pos hc] at h
      rcases List.mem_cons.mp hz with rfl | hz
      · exact hc.2
      · have := upd_gt l y.f0 h z hz; omega
    · rw [if_neg hc] at h; cases h
theorem lkA_none {r t : Int} : ∀ (l : List S57) (d : Int), (∀ a ∈ l, a.f0 ≠ r) → lkA l r t d = d
  | [], _, _ => rfl
  | a :: l, d, h => by
    unfold lkA
    rw [if_neg (h a (List.mem_cons_self ..))]
    exact lkA_none l d (fun y hy => h y (List.mem_cons_of_mem _ hy))
theorem lkA_at {t : Int} : ∀ (l : List S57) (p d : Int), upd p l = true → ∀ a ∈ l, lkA l a.f0 t d = lnk a.f3 t d
  | [], _, _, _, a, ha => by cases ha
  | y :: l, p, d, h, a, ha => by
    unfold upd at h
    by_cases hc : UsOk y ∧ p < y.f0
    · rw [if_pos hc] at h
      unfold lkA
      rcases List.mem_cons.mp ha with rfl | ha
      · rw [if_pos rfl]
        exact lkA_none l _ (fun z hz => by have := upd_gt l a.f0 h z hz; omega)
      · have h2 := upd_gt l y.f0 h a ha
        rw [if_neg (by omega)]
        exact lkA_at l y.f0 d h a ha
    · rw [if_neg hc] at h; cases h
theorem usOk_links {x : S57} (h : UsOk x) : links x.f0 0 x.f3 = true := h.2.2.2.2.2.2
theorem toldA_at : ∀ (l : List S57) (hok : ∀ x ∈ l, UsOk x) (m : Mat) (i j : Nat), toldA l m i j = lkA l ((i : Int) + 1) ((j : Int) + 1) (m i j)
  | [], _, m, i, j => rfl
  | a :: l, hok, m, i, j => by
    have h1 := hok a (List.mem_cons_self ..)
    unfold toldA lkA
    rw [toldA_at l (fun y hy => hok y (List.mem_cons_of_mem _ hy)), toldL_at h1.1 _ (fun x hx => (links_range _ _ (usOk_links h1) x hx).1)]
    congr 1
    by_cases h : (i : Int) + 1 = a.f0
    · rw [if_pos h, if_pos h.symm]
    · rw [if_neg h, if_neg (fun e => h e.symm)]
theorem told_link {l : List S57} (h : upd 0 l = true) {a : S57} (ha : a ∈ l) {x : S59} (hx : x ∈ a.f3) (m : Mat) {i j : Nat} (hi : (i : Int) + 1 = a.f0) (hj : (j : Int) + 1 = x.f0) : toldA l m i j = x.f1 := by
  rw [toldA_at l (upd_ok l 0 h), hi, hj, lkA_at l 0 _ h a ha]
  exact lnk_at _ 0 _ (usOk_links (upd_ok l 0 h a ha)) x hx
theorem toldL_ok {r : Int} (hr : 1 ≤ r ∧ r ≤ 4) : ∀ (ls : List S59) (hx : ∀ x ∈ ls, LinkOk r x) (m : Mat), CostOk m → CostOk (toldL r ls m)
  | [], _, m, C => C
  | x :: l, hx, m, C => by
    have h1 := hx x (List.mem_cons_self ..)
    refine toldL_ok hr l (fun y hy => hx y (List.mem_cons_of_mem _ hy)) _ ⟨fun i j hi hj => ?_, fun i hi => ?_⟩
    · unfold upd2; split
      · exact ⟨by have := h1.2.2.2.1; omega, h1.2.2.2.2⟩
      · exact C.range i j hi hj
    · unfold upd2; rw [if_neg]
      · exact C.diag i hi
      · rintro ⟨e1, e2⟩
        have := h1.1; have := h1.2.2.1; omega
theorem toldA_ok : ∀ (l : List S57) (hok : ∀ x ∈ l, UsOk x) (m : Mat), CostOk m → CostOk (toldA l m)
  | [], _, m, C => C
  | a :: l, hok, m, C => by
    have h1 := hok a (List.mem_cons_self ..)
    exact toldA_ok l (fun y hy => hok y (List.mem_cons_of_mem _ hy)) _ (toldL_ok ⟨h1.1, h1.2.1⟩ _ (links_range _ _ (usOk_links h1)) m C)
theorem outOf_ok {m : Mat} (C : CostOk m) : CostOk (outOf m) :=
  ⟨fun i j hi hj => by unfold outOf; have := C.range i j hi hj; split <;> omega, fun i hi => by unfold outOf; rw [C.diag i hi]; simp⟩
theorem zero_ok : CostOk (fun _ _ => 0) := ⟨fun _ _ _ _ => by omega, fun _ _ => rfl⟩
end Go.Proofs.Ytjbejbehbjhecaa.L20
namespace Go.Proofs.Ytjbejbehbjhecaa.Opn
open Go.RowKit Go.Proofs.YtjbejbehbjhecaaW.PrintWords Go.Proofs.YtjbejbehbjhecaaW.PrintLast Go.Proofs.YtjbejbehbjhecaaW.PrintMore
open Go.Joins Go.ChangeShapes Go.WideShapes Go.Deep
set_option linter.unusedVariables false

/-- Whatever reads as_ data of type t, within reach, is told by the kind d; R is known of it. -/
def Opn {α : Type} (P : Program) (t : TypeId) (d : Kd α) (R : α → Prop) : Prop :=
  ∀ {H : Type} {enc : TypeId × Value → H} {w : World} {base : Nat} {spare : Nat → Bool} {held : Bool} {fuel : Nat} {cs : List Value} {x : DataW H × List MemPlace},
    DataW.trod enc P w base spare held fuel t cs = some x → (∀ n ∈ x.1.weights P t, n ≤ reachBytes) → ∃ a, d.K w a cs ∧ R a
theorem opn_int {P : Program} {t : TypeId} {k : IntKind} (ht : P.underlying t = some (.int k)) : Opn P t (Kd.int k) (fun a => (Lit.int k a).wf = true) := by
  intro H enc w base spare held fuel cs x h _
  obtain ⟨a, rfl, rfl, wa⟩ := DataW.trod_int ht h
  exact ⟨a, rfl, wa⟩
theorem opn_string {P : Program} {t : TypeId} (ht : P.underlying t = some .string) : Opn P t Kd.string (fun s => s.size ≤ 140737488351232) := by
  intro H enc w base spare held fuel cs x h hw
  obtain ⟨s, rfl, rfl, hs⟩ := DataW.trod_string ht h
  refine ⟨s, rfl, ?_⟩
  have := hw s.data.toList.length (by simp [DataW.weights])
  rw [Array.length_toList] at this
  exact this
theorem cells_at {w : World} {base : Nat} {a : Addr} {n : Nat} {cs : List Value} (h : w.cells? base a n = some cs) : ∀ i u, cs[i]? = some u → w.cell? (a.add i) = some u := by
  obtain ⟨_, hl, hat⟩ := World.cells?_some h
  intro i u hu
  have hi : i < n := by have := (List.getElem?_eq_some_iff.1 hu).1; omega
  rw [hat i hi]; exact hu
theorem opn_slice {α : Type} {P : Program} {t e : TypeId} {d : Kd α} {R : α → Prop} {B : Nat} (ht : P.underlying t = some (.slice e)) (hc : P.cellsOf e = d.sz) (hB : P.bytesOf e = B) (ho : Opn P e d R) :
    Opn P t (Kd.slice e d) (fun l => l.length * B ≤ 140737488351232 ∧ l.length ≤ maxLen ∧ ∀ a ∈ l, R a) := by
  intro H enc w base spare held fuel cs x h hw
  rcases open_slice ht h with ⟨rfl, rfl⟩ | ⟨ad, len, cap, m, n, D, Pl, rfl, hb, hl, hm, hmm, rfl, hi⟩
  · exact ⟨[], ⟨none, 0, rfl, Nat.le_refl _, rfl, by simp, fun h => absurd h (by simp)⟩, by simp, by simp [maxLen], fun a ha => by cases ha⟩
  · have hlm : len ≤ m := by rw [hmm]; split <;> omega
    have hwt : ∀ i, i < len → ∀ n ∈ (D i).weights P e, n ≤ reachBytes := by
      intro i hi' n hn
      refine hw n ?_
      simp only [DataW.weights, ht, List.mem_cons, List.mem_append]
      refine Or.inr (Or.inl ?_)
      have key : ∀ (l : List (DataW H)) (y : DataW H), y ∈ l → ∀ n ∈ y.weights P e, n ∈ DataW.weightsAll P e l := by
        intro l
        induction l with
        | nil => intro y hy; cases hy
        | cons z l ih =>
          intro y hy n hn
          simp only [DataW.weightsAll, List.mem_append]
          rcases List.mem_cons.mp hy with rfl | hy
          · exact Or.inl hn
          · exact Or.inr (ih y hy n hn)
      exact key _ (D i) (List.mem_map.mpr ⟨i, by simpa using hi', rfl⟩) n hn
    have hex : ∀ i, i < len → ∃ a cs', d.K w a cs' ∧ R a ∧ w.cells? base (ad.add (i * P.cellsOf e)) (P.cellsOf e) = some cs' := by
      intro i hi'
      obtain ⟨cs', h1, h2⟩ := hi i (by omega)
      obtain ⟨a, hK, hR⟩ := ho h2 (hwt i hi')
      exact ⟨a, cs', hK, hR, h1⟩
    have hw0 : len * B ≤ reachBytes := by
      have := hw ((((List.range len).map D).length + ((List.range (m - len)).map fun j => D (len + j)).length) * P.bytesOf e) (by simp [DataW.weights, ht])
      rw [hB] at this
      simp only [List.length_map, List.length_range] at this
      exact Nat.le_trans (Nat.mul_le_mul_right _ (by omega)) this
    obtain ⟨l, hll, hl2⟩ : ∃ l : List α, l.length = len ∧ ∀ i a, l[i]? = some a → ∃ cs', d.K w a cs' ∧ R a ∧ w.cells? base (ad.add (i * P.cellsOf e)) (P.cellsOf e) = some cs' := by
      clear hw0 hwt hw hlm hmm hm hl hi h
      induction len with
      | zero => exact ⟨[], rfl, fun i a h => by simp at h⟩
      | succ k ih =>
        obtain ⟨l, hll, hl2⟩ := ih (fun i hi' => hex i (by omega))
        obtain ⟨a, cs', h1, h2, h3⟩ := hex k (by omega)
        refine ⟨l ++ [a], by simp [hll], fun i b hb => ?_⟩
        by_cases hik : i < l.length
        · rw [List.getElem?_append_left hik] at hb
          exact hl2 i b hb
        · have hlt := (List.getElem?_eq_some_iff.1 hb).1
          rw [List.length_append, List.length_singleton] at hlt
          have : i = l.length := by omega
          subst this
          rw [List.getElem?_append_right (Nat.le_refl _)] at hb
          simp at hb
          subst hb
          rw [hll]
          exact ⟨cs', h1, h2, h3⟩
    have hmax : len ≤ maxLen := Nat.le_trans hl hm
    refine ⟨l, ⟨some ad, cap, by rw [hll], by omega, ⟨rfl, by rw [hll]; unfold maxLen at hmax; omega, fun _ => ⟨ad, rfl, fun j p hj => ?_⟩⟩⟩, by rw [hll]; exact hw0, by rw [hll]; exact hmax, fun a ha => ?_⟩
    · obtain ⟨cs', h1, _, h3⟩ := hl2 j p hj
      refine ⟨cs', d.K_len h1, h1, fun i u hu => ?_⟩
      have := cells_at h3 i u hu
      rw [Go.Deep.add_add, hc] at this
      exact this
    · obtain ⟨i, hi', rfl⟩ := List.mem_iff_getElem.mp ha
      obtain ⟨_, _, hR, _⟩ := hl2 i _ (List.getElem?_eq_getElem hi')
      exact hR
theorem wt_field {H : Type} {P : Program} {t f : TypeId} {fs : Array Field} {parts : List (DataW H)} {y : DataW H} {j : Nat} (ht : P.underlying t = some (.struct fs)) (hw : ∀ n ∈ (DataW.agg parts).weights P t, n ≤ reachBytes)
    (hf : (fs.toList.map (·.type))[j]? = some f) (hy : parts[j]? = some y) : ∀ n ∈ y.weights P f, n ≤ reachBytes := by
  intro n hn
  refine hw n ?_
  simp only [DataW.weights, ht]
  exact DataW.weights_mem_each hf hy n hn
theorem wt_arg {H : Type} {P : Program} {ts : List TypeId} {ds : List (DataW H)} {j : Nat} {t : TypeId} {d : DataW H} (h : (DataW.weightsEach P ts ds).all (· ≤ reachBytes) = true) (ht : ts[j]? = some t) (hd : ds[j]? = some d) : ∀ n ∈ d.weights P t, n ≤ reachBytes := by
  intro n hn
  have := List.all_eq_true.1 h _ (DataW.weights_mem_each ht hd n hn)
  simpa using this
section
variable {H : Type} {enc : TypeId × Value → H} {P : Program} {w : World} {base : Nat} {spare : Nat → Bool} {held : Bool}
theorem open_agg5 {r : Reach} {b0 : Nat} {t : TypeId} {f0 f1 f2 f3 f4 : Field} {v : Value} {d : DataW H} {p : List MemPlace} (hs : P.underlying t = some (.struct #[f0, f1, f2, f3, f4])) (hone : oneCellFields P #[f0, f1, f2, f3, f4] = true) (hC : P.cellsOf t = 5)
    (hv : Value.okWide P w r b0 t v) (h : DataW.Trod enc P w base spare held t v d p) :
    ∃ (v0 v1 v2 v3 v4 : Value) (y0 y1 y2 y3 y4 : DataW H × List MemPlace) (n : Nat), v = .agg #[v0, v1, v2, v3, v4] ∧ d = .agg [y0.1, y1.1, y2.1, y3.1, y4.1] ∧ p = y0.2 ++ (y1.2 ++ (y2.2 ++ (y3.2 ++ y4.2))) ∧
      DataW.trod enc P w base spare held n f0.type [v0] = some y0 ∧ DataW.trod enc P w base spare held n f1.type [v1] = some y1 ∧ DataW.trod enc P w base spare held n f2.type [v2] = some y2 ∧ DataW.trod enc P w base spare held n f3.type [v3] = some y3 ∧ DataW.trod enc P w base spare held n f4.type [v4] = some y4 := by
  obtain ⟨cs, rfl, hsz⟩ := okWide_struct hs hv
  obtain ⟨l⟩ := cs
  match l, hsz.trans hC with
  | [c0, c1, c2, c3, c4], _ =>
    obtain ⟨fuel, hf⟩ := h
    obtain ⟨xs, n, _, hx, _, hlen, hg⟩ := DataW.trod_struct hs hf
    obtain ⟨o0, k0⟩ := hone_of hone 0 f0 rfl
    obtain ⟨o1, k1⟩ := hone_of hone 1 f1 rfl
    obtain ⟨o2, k2⟩ := hone_of hone 2 f2 rfl
    obtain ⟨o3, k3⟩ := hone_of hone 3 f3 rfl
    obtain ⟨o4, k4⟩ := hone_of hone 4 f4 rfl
    match xs, hlen with
    | [y0, y1, y2, y3, y4], _ =>
      simp only [Prod.mk.injEq] at hx
      exact ⟨c0, c1, c2, c3, c4, y0, y1, y2, y3, y4, n, rfl, by simpa using hx.1, by simpa using hx.2, by simpa [Value.cells, o0, k0] using hg 0 f0 rfl, by simpa [Value.cells, o1, k1] using hg 1 f1 rfl, by simpa [Value.cells, o2, k2] using hg 2 f2 rfl, by simpa [Value.cells, o3, k3] using hg 3 f3 rfl, by simpa [Value.cells, o4, k4] using hg 4 f4 rfl⟩
theorem open_agg6 {r : Reach} {b0 : Nat} {t : TypeId} {f0 f1 f2 f3 f4 f5 : Field} {v : Value} {d : DataW H} {p : List MemPlace} (hs : P.underlying t = some (.struct #[f0, f1, f2, f3, f4, f5])) (hone : oneCellFields P #[f0, f1, f2, f3, f4, f5] = true) (hC : P.cellsOf t = 6)
    (hv : Value.okWide P w r b0 t v) (h : DataW.Trod enc P w base spare held t v d p) :
    ∃ (v0 v1 v2 v3 v4 v5 : Value) (y0 y1 y2 y3 y4 y5 : DataW H × List MemPlace) (n : Nat), v = .agg #[v0, v1, v2, v3, v4, v5] ∧ d = .agg [y0.1, y1.1, y2.1, y3.1, y4.1, y5.1] ∧ p = y0.2 ++ (y1.2 ++ (y2.2 ++ (y3.2 ++ (y4.2 ++ y5.2)))) ∧
      DataW.trod enc P w base spare held n f0.type [v0] = some y0 ∧ DataW.trod enc P w base spare held n f1.type [v1] = some y1 ∧ DataW.trod enc P w base spare held n f2.type [v2] = some y2 ∧ DataW.trod enc P w base spare held n f3.type [v3] = some y3 ∧ DataW.trod enc P w base spare held n f4.type [v4] = some y4 ∧ DataW.trod enc P w base spare held n f5.type [v5] = some y5 := by
  obtain ⟨cs, rfl, hsz⟩ := okWide_struct hs hv
  obtain ⟨l⟩ := cs
  match l, hsz.trans hC with
  | [c0, c1, c2, c3, c4, c5], _ =>
    obtain ⟨fuel, hf⟩ := h
    obtain ⟨xs, n, _, hx, _, hlen, hg⟩ := DataW.trod_struct hs hf
    obtain ⟨o0, k0⟩ := hone_of hone 0 f0 rfl
    obtain ⟨o1, k1⟩ := hone_of hone 1 f1 rfl
    obtain ⟨o2, k2⟩ := hone_of hone 2 f2 rfl
    obtain ⟨o3, k3⟩ := hone_of hone 3 f3 rfl
    obtain ⟨o4, k4⟩ := hone_of hone 4 f4 rfl
    obtain ⟨o5, k5⟩ := hone_of hone 5 f5 rfl
    match xs, hlen with
    | [y0, y1, y2, y3, y4, y5], _ =>
      simp only [Prod.mk.injEq] at hx
      exact ⟨c0, c1, c2, c3, c4, c5, y0, y1, y2, y3, y4, y5, n, rfl, by simpa using hx.1, by simpa using hx.2, by simpa [Value.cells, o0, k0] using hg 0 f0 rfl, by simpa [Value.cells, o1, k1] using hg 1 f1 rfl, by simpa [Value.cells, o2, k2] using hg 2 f2 rfl, by simpa [Value.cells, o3, k3] using hg 3 f3 rfl, by simpa [Value.cells, o4, k4] using hg 4 f4 rfl, by simpa [Value.cells, o5, k5] using hg 5 f5 rfl⟩
end

end Go.Proofs.Ytjbejbehbjhecaa.Opn
namespace Go.Proofs.Ytjbejbehbjhecaa.O20
open Go.RowKit Go.Proofs.YtjbejbehbjhecaaW.PrintWords Go.Proofs.YtjbejbehbjhecaaW.PrintLast Go.Proofs.YtjbejbehbjhecaaW.PrintMore Go.Proofs.Ytjbejbehbjhecaa.Opn Go.Proofs.Ytjbejbehbjhecaa.Q20
open Go.Joins Go.ChangeShapes Go.WideShapes Go.Deep
set_option linter.unusedVariables false

def R59 (x : S59) : Prop := (Lit.int .i64 x.f0).wf = true ∧ (Lit.int .i64 x.f1).wf = true
set_option maxRecDepth 100000 in
theorem opn59 : Opn Try.prog 59 k59 R59 := by
  intro H enc w base spare held fuel cs x h hw
  obtain ⟨xs, n, _, rfl, hl, hlen, hf⟩ := DataW.trod_struct Try.underlying59 h
  have hl' : cs.length = 2 := hl.trans (by kernel_rfl)
  match cs, hl', xs, hlen with
  | [c0, c1], _, [y0, y1], _ =>
    have g0 : DataW.trod enc Try.prog w base spare held n 3 [c0] = some y0 := by
      have hk : Try.prog.cellsOf 3 = 1 := by kernel_rfl
      have z : DataW.trod enc Try.prog w base spare held n 3 ((([c0, c1] : List Value).drop 0).take (Try.prog.cellsOf 3)) = some y0 := hf 0 _ rfl
      rw [hk] at z
      exact z
    obtain ⟨a0, e0, r0⟩ := (opn_int Try.underlying3) g0 (wt_field (j := 0) Try.underlying59 hw rfl rfl)
    have g1 : DataW.trod enc Try.prog w base spare held n 3 [c1] = some y1 := by
      have hk : Try.prog.cellsOf 3 = 1 := by kernel_rfl
      have z : DataW.trod enc Try.prog w base spare held n 3 ((([c0, c1] : List Value).drop 1).take (Try.prog.cellsOf 3)) = some y1 := hf 1 _ rfl
      rw [hk] at z
      exact z
    obtain ⟨a1, e1, r1⟩ := (opn_int Try.underlying3) g1 (wt_field (j := 1) Try.underlying59 hw rfl rfl)
    exact ⟨⟨a0, a1⟩, ⟨[c0], [c1], rfl, e0, e1⟩, ⟨r0, r1⟩⟩
def R57 (x : S57) : Prop := (Lit.int .i64 x.f0).wf = true ∧ (Lit.int .i64 x.f1).wf = true ∧ (Lit.int .i64 x.f2).wf = true ∧ (x.f3.length * 16 ≤ 140737488351232 ∧ x.f3.length ≤ maxLen ∧ ∀ y ∈ x.f3, R59 y)
set_option maxRecDepth 100000 in
theorem opn57 : Opn Try.prog 57 k57 R57 := by
  intro H enc w base spare held fuel cs x h hw
  obtain ⟨xs, n, _, rfl, hl, hlen, hf⟩ := DataW.trod_struct Try.underlying57 h
  have hl' : cs.length = 4 := hl.trans (by kernel_rfl)
  match cs, hl', xs, hlen with
  | [c0, c1, c2, c3], _, [y0, y1, y2, y3], _ =>
    have g0 : DataW.trod enc Try.prog w base spare held n 3 [c0] = some y0 := by
      have hk : Try.prog.cellsOf 3 = 1 := by kernel_rfl
      have z : DataW.trod enc Try.prog w base spare held n 3 ((([c0, c1, c2, c3] : List Value).drop 0).take (Try.prog.cellsOf 3)) = some y0 := hf 0 _ rfl
      rw [hk] at z
      exact z
    obtain ⟨a0, e0, r0⟩ := (opn_int Try.underlying3) g0 (wt_field (j := 0) Try.underlying57 hw rfl rfl)
    have g1 : DataW.trod enc Try.prog w base spare held n 3 [c1] = some y1 := by
      have hk : Try.prog.cellsOf 3 = 1 := by kernel_rfl
      have z : DataW.trod enc Try.prog w base spare held n 3 ((([c0, c1, c2, c3] : List Value).drop 1).take (Try.prog.cellsOf 3)) = some y1 := hf 1 _ rfl
      rw [hk] at z
      exact z
    obtain ⟨a1, e1, r1⟩ := (opn_int Try.underlying3) g1 (wt_field (j := 1) Try.underlying57 hw rfl rfl)
    have g2 : DataW.trod enc Try.prog w base spare held n 3 [c2] = some y2 := by
      have hk : Try.prog.cellsOf 3 = 1 := by kernel_rfl
      have z : DataW.trod enc Try.prog w base spare held n 3 ((([c0, c1, c2, c3] : List Value).drop 2).take (Try.prog.cellsOf 3)) = some y2 := hf 2 _ rfl
      rw [hk] at z
      exact z
    obtain ⟨a2, e2, r2⟩ := (opn_int Try.underlying3) g2 (wt_field (j := 2) Try.underlying57 hw rfl rfl)
    have g3 : DataW.trod enc Try.prog w base spare held n 55 [c3] = some y3 := by
      have hk : Try.prog.cellsOf 55 = 1 := by kernel_rfl
      have z : DataW.trod enc Try.prog w base spare held n 55 ((([c0, c1, c2, c3] : List Value).drop 3).take (Try.prog.cellsOf 55)) = some y3 := hf 3 _ rfl
      rw [hk] at z
      exact z
    obtain ⟨a3, e3, r3⟩ := (opn_slice (d := k59) (B := 16) Try.underlying55 (by kernel_rfl) (by kernel_rfl) opn59) g3 (wt_field (j := 3) Try.underlying57 hw rfl rfl)
    exact ⟨⟨a0, a1, a2, a3⟩, ⟨[c0], [c1, c2, c3], rfl, e0, ⟨[c1], [c2, c3], rfl, e1, ⟨[c2], [c3], rfl, e2, e3⟩⟩⟩, ⟨r0, r1, r2, r3⟩⟩

end Go.Proofs.Ytjbejbehbjhecaa.O20
