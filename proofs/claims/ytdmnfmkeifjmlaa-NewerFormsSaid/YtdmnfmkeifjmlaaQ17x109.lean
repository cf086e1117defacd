/- Written by a program of this session out of the print of the loaded functions: each Go function as a plain function, and that its call comes to it; for a law, the row out of its plain statement. -/
import Derived.Test.YtdmnfmkeifjmlaaQ17x0
import Derived.Test.YtdmnfmkeifjmlaaQ17x117
import Derived.Test.YtdmnfmkeifjmlaaQ17x124
import Derived.Test.YtdmnfmkeifjmlaaQ17x126
namespace Go.Proofs.Ytdmnfmkeifjmlaa.Q17
open Go.RowKit Go.Proofs.YtdmnfmkeifjmlaaW.PrintWords Go.Proofs.YtdmnfmkeifjmlaaW.PrintLast Go.Proofs.YtdmnfmkeifjmlaaW.PrintMore
attribute [local go_sem] max2_int min2_int max_two min_two max_three min_three max_four min_four   -- for this text's walks alone
set_option linter.unusedVariables false
set_option linter.unusedSimpArgs false

/-! ### watchwordlaw17_NewerForms: function 9 -/
def watchwordlaw17_NewerForms.j0 : Nat → Int → Int → Int → Int → Int → Int → Int → Int → Option (Bool)
  | 0, _, _, _, _, _, _, _, _ => none
  | k + 1, x181000, x181001, x181002, x181003, x182000, x182001, x182002, x182003 => (newer_Compare.f k x181000 x181001 x181002 x181003 x182000 x182001 x182002 x182003).bind fun bt182 => ((newer_Compare.f k x182000 x182001 x182002 x182003 x181000 x181001 x181002 x181003).bind fun bt184 => (if bt182.1 = 0 then (if bt184.1 = 0 then ((watchwordlaw0_Num.f bt182.2).bind fun t186 => (if t186 = 1700 then ((watchwordlaw0_Num.f bt184.2).bind fun t187 => (some (t187 == 1700))) else (some false))) else (some false)) else (some false)))
def watchwordlaw17_NewerForms.f (k : Nat) (a0 : Int) (a1 : Int) : Option (Bool) := (watchwordlaw17_awake.f k).bind fun t179 => (if t179 = true then (if (Int.tmod (IntKind.u64.wrap (a0)) 6) = 0 then (watchwordlaw17_NewerForms.j0 k 2 5 3 7 3 5 3 7) else (if (Int.tmod (IntKind.u64.wrap (a0)) 6) = 1 then (watchwordlaw17_NewerForms.j0 k 2 5 3 7 2 (wrap64 (1 - (wrap64 (1 + (Go.bits .and .i64 a1 1023))))) 3 7) else (if (Int.tmod (IntKind.u64.wrap (a0)) 6) = 2 then (watchwordlaw17_NewerForms.j0 k 2 5 3 7 2 5 (wrap64 (60 + (wrap64 (1 + (Go.bits .and .i64 a1 1023))))) 7) else (if (Int.tmod (IntKind.u64.wrap (a0)) 6) = 3 then (watchwordlaw17_NewerForms.j0 k 2 5 3 7 2 5 3 (wrap64 (-(wrap64 (1 + (Go.bits .and .i64 a1 1023)))))) else (if (Int.tmod (IntKind.u64.wrap (a0)) 6) = 4 then (watchwordlaw17_NewerForms.j0 k 2 5 3 7 (wrap64 (4 + (wrap64 (1 + (Go.bits .and .i64 a1 1023))))) 5 3 7) else (watchwordlaw17_NewerForms.j0 k 2 5 3 7 2 5 3 (wrap64 (65535 + (wrap64 (1 + (Go.bits .and .i64 a1 1023))))))))))) else (some false))
theorem watchwordlaw17_NewerForms.mono_l : ∀ k, (∀ y0 y1 y2 y3 y4 y5 y6 y7, LeO (watchwordlaw17_NewerForms.j0 k y0 y1 y2 y3 y4 y5 y6 y7) (watchwordlaw17_NewerForms.j0 (k + 1) y0 y1 y2 y3 y4 y5 y6 y7))
  | 0 => fun _ _ _ _ _ _ _ _ r h => by simp [watchwordlaw17_NewerForms.j0] at h
  | k + 1 => by
    have ih0 := watchwordlaw17_NewerForms.mono_l k
    · intro y0 y1 y2 y3 y4 y5 y6 y7
      unfold watchwordlaw17_NewerForms.j0
      repeat' first
      | (with_reducible exact ih0 _ _ _ _ _ _ _ _)
      | (with_reducible exact newer_Compare.mono _ _ _ _ _ _ _ _ _)
      | (with_reducible exact watchwordlaw17_awake.mono _)
      | (with_reducible exact LeO.refl _)
      | (with_reducible exact LeO.none _)
      | (with_reducible refine LeO.ite ?_ ?_)
      | (with_reducible refine LeO.bind ?_ (fun _ => ?_))
      | exact ih0 _ _ _ _ _ _ _ _
      | exact newer_Compare.mono _ _ _ _ _ _ _ _ _
      | exact watchwordlaw17_awake.mono _
      | exact LeO.none _
      | refine LeO.ite ?_ ?_
      | refine LeO.bind ?_ (fun _ => ?_)
theorem watchwordlaw17_NewerForms.mono : ∀ a0 a1 k, LeO (watchwordlaw17_NewerForms.f k a0 a1) (watchwordlaw17_NewerForms.f (k + 1) a0 a1) := by
  intro a0 a1 k
  have ih0 := watchwordlaw17_NewerForms.mono_l k
  unfold watchwordlaw17_NewerForms.f
  repeat' first
      | (with_reducible exact ih0 _ _ _ _ _ _ _ _)
      | (with_reducible exact newer_Compare.mono _ _ _ _ _ _ _ _ _)
      | (with_reducible exact watchwordlaw17_awake.mono _)
      | (with_reducible exact LeO.refl _)
      | (with_reducible exact LeO.none _)
      | (with_reducible refine LeO.ite ?_ ?_)
      | (with_reducible refine LeO.bind ?_ (fun _ => ?_))
      | exact ih0 _ _ _ _ _ _ _ _
      | exact newer_Compare.mono _ _ _ _ _ _ _ _ _
      | exact watchwordlaw17_awake.mono _
      | exact LeO.none _
      | refine LeO.ite ?_ ?_
      | refine LeO.bind ?_ (fun _ => ?_)
set_option maxHeartbeats 8000000 in
set_option maxRecDepth 100000 in
theorem watchwordlaw17_NewerForms.calls (k : Nat) (a0 : Int) (a1 : Int) (r : Bool) (w : World) (h : watchwordlaw17_NewerForms.f k a0 a1 = some r) (hT : r = true) :
    Calls Try.prog 9 #[.int .i64 a0, .int .i64 a1] w fun e w' => e = .returned (.bool r) ∧ Below w.heap.size w w' := by
  have hu40 := Try.underlying40
  have HB := Aside0.mk (Below.refl w.heap.size w)
  have HT := Aside0.mk hT
  clear hT
  have H : ((watchwordlaw17_awake.f k).bind fun t179 => (if t179 = true then (if (Int.tmod (IntKind.u64.wrap (a0)) 6) = 0 then (watchwordlaw17_NewerForms.j0 k 2 5 3 7 3 5 3 7) else (if (Int.tmod (IntKind.u64.wrap (a0)) 6) = 1 then (watchwordlaw17_NewerForms.j0 k 2 5 3 7 2 (wrap64 (1 - (wrap64 (1 + (Go.bits .and .i64 a1 1023))))) 3 7) else (if (Int.tmod (IntKind.u64.wrap (a0)) 6) = 2 then (watchwordlaw17_NewerForms.j0 k 2 5 3 7 2 5 (wrap64 (60 + (wrap64 (1 + (Go.bits .and .i64 a1 1023))))) 7) else (if (Int.tmod (IntKind.u64.wrap (a0)) 6) = 3 then (watchwordlaw17_NewerForms.j0 k 2 5 3 7 2 5 3 (wrap64 (-(wrap64 (1 + (Go.bits .and .i64 a1 1023)))))) else (if (Int.tmod (IntKind.u64.wrap (a0)) 6) = 4 then (watchwordlaw17_NewerForms.j0 k 2 5 3 7 (wrap64 (4 + (wrap64 (1 + (Go.bits .and .i64 a1 1023))))) 5 3 7) else (watchwordlaw17_NewerForms.j0 k 2 5 3 7 2 5 3 (wrap64 (65535 + (wrap64 (1 + (Go.bits .and .i64 a1 1023))))))))))) else (some false))) = some r := h
  clear h
  replace H := Option.bind_eq_some_iff.mp H
  obtain ⟨t179, A30, H⟩ := H
  replace H : (if t179 = true then (if (Int.tmod (IntKind.u64.wrap (a0)) 6) = 0 then (watchwordlaw17_NewerForms.j0 k 2 5 3 7 3 5 3 7) else (if (Int.tmod (IntKind.u64.wrap (a0)) 6) = 1 then (watchwordlaw17_NewerForms.j0 k 2 5 3 7 2 (wrap64 (1 - (wrap64 (1 + (Go.bits .and .i64 a1 1023))))) 3 7) else (if (Int.tmod (IntKind.u64.wrap (a0)) 6) = 2 then (watchwordlaw17_NewerForms.j0 k 2 5 3 7 2 5 (wrap64 (60 + (wrap64 (1 + (Go.bits .and .i64 a1 1023))))) 7) else (if (Int.tmod (IntKind.u64.wrap (a0)) 6) = 3 then (watchwordlaw17_NewerForms.j0 k 2 5 3 7 2 5 3 (wrap64 (-(wrap64 (1 + (Go.bits .and .i64 a1 1023)))))) else (if (Int.tmod (IntKind.u64.wrap (a0)) 6) = 4 then (watchwordlaw17_NewerForms.j0 k 2 5 3 7 (wrap64 (4 + (wrap64 (1 + (Go.bits .and .i64 a1 1023))))) 5 3 7) else (watchwordlaw17_NewerForms.j0 k 2 5 3 7 2 5 3 (wrap64 (65535 + (wrap64 (1 + (Go.bits .and .i64 a1 1023))))))))))) else (some false)) = some r := H
  have A3 := Aside0.mk A30
  clear A30
  by_cases c4 : t179 = true
  · subst c4
    have H1 : (if (Int.tmod (IntKind.u64.wrap (a0)) 6) = 0 then (watchwordlaw17_NewerForms.j0 k 2 5 3 7 3 5 3 7) else (if (Int.tmod (IntKind.u64.wrap (a0)) 6) = 1 then (watchwordlaw17_NewerForms.j0 k 2 5 3 7 2 (wrap64 (1 - (wrap64 (1 + (Go.bits .and .i64 a1 1023))))) 3 7) else (if (Int.tmod (IntKind.u64.wrap (a0)) 6) = 2 then (watchwordlaw17_NewerForms.j0 k 2 5 3 7 2 5 (wrap64 (60 + (wrap64 (1 + (Go.bits .and .i64 a1 1023))))) 7) else (if (Int.tmod (IntKind.u64.wrap (a0)) 6) = 3 then (watchwordlaw17_NewerForms.j0 k 2 5 3 7 2 5 3 (wrap64 (-(wrap64 (1 + (Go.bits .and .i64 a1 1023)))))) else (if (Int.tmod (IntKind.u64.wrap (a0)) 6) = 4 then (watchwordlaw17_NewerForms.j0 k 2 5 3 7 (wrap64 (4 + (wrap64 (1 + (Go.bits .and .i64 a1 1023))))) 5 3 7) else (watchwordlaw17_NewerForms.j0 k 2 5 3 7 2 5 3 (wrap64 (65535 + (wrap64 (1 + (Go.bits .and .i64 a1 1023))))))))))) = some r := by rw [if_pos rfl] at H; exact H
    clear H
    have H := H1
    clear H1
    have HC5 := Aside0.mk H
    clear H
    go_enter Try.func9, Try.ntmps9
    go_upto_block 0 with (first | ((with_reducible refine gate_callee (f := 26) rfl ?_); refine goesL_ (some 12) rfl rfl Try.func26 (by kernel_rfl) rfl #[] rfl (by (try simp only [List.map_toArray, List.map_cons, List.map_nil]); first | done | rfl | (simp only [List.length_drop, List.length_take]; rfl)) ?_; (with_reducible refine (watchwordlaw17_awake.calls k  true _ A3.out (by first | rfl | exact HT.out)).mono ?_); rintro e w6 ⟨rfl, hb⟩; refine ⟨_, rfl, ?_⟩; have n0_ := Aside0.mk (below_step (by repeat (first | (with_reducible first | exact HB.out | apply below_alloc | apply pw_below_drewN | apply below_drew1) | exact HB.out)) hb); clear HB; have HB := n0_; clear n0_; (try clear hb); (try clear hb2); (try clear hk); (try clear hi)) | ((with_reducible refine gate_dst (N := 6) rfl ?_); refine box_event ?hg (N := 6) ?hd (cs := #[.int .i64 0, .int .i64 0, .int .i64 0, .int .i64 0]) (t := 40) ?hr ?_; (case hd => rfl); (case hg => rfl); (case hr => first | (go_simp; done) | (go_simp; rfl)); intro gb180 hg w7 hbox hb; have n0_ := Aside0.mk (below_step (by repeat (first | (with_reducible first | exact HB.out | apply below_alloc | apply pw_below_drewN | apply below_drew1) | exact HB.out)) hb); have n1_ := Aside0.mk (hbox); have n2_ := Aside0.mk ((by rw [hg]; exact (below_size (by repeat (first | (with_reducible first | exact HB.out | apply below_alloc | apply pw_below_drewN | apply below_drew1) | exact HB.out))) : w.heap.size ≤ gb180)); have n3_ := Aside0.mk ((by rw [hg]; exact (below_size (by repeat (first | (with_reducible first | exact HB.out | apply below_alloc | apply pw_below_drewN | apply below_drew1) | exact HB.out))) : w.heap.size ≤ gb180)); clear HB; have HB := n0_; have BK180 := n1_; have GW180 := n2_; have GE180 := n3_; clear n0_ n1_ n2_ n3_; clear hb hbox hg; have hcz8_0 : w7.cell? ⟨gb180, 0, none⟩ = some (.int .i64 0) := (blk_cell BK180.out 0).trans rfl; have hcz8_1 : w7.cell? ⟨gb180, 1, none⟩ = some (.int .i64 0) := (blk_cell BK180.out 1).trans rfl; have hcz8_2 : w7.cell? ⟨gb180, 2, none⟩ = some (.int .i64 0) := (blk_cell BK180.out 2).trans rfl; have hcz8_3 : w7.cell? ⟨gb180, 3, none⟩ = some (.int .i64 0) := (blk_cell BK180.out 3).trans rfl; have hfz8_0 := blk_frozen BK180.out 0; have hfz8_1 := blk_frozen BK180.out 1; have hfz8_2 := blk_frozen BK180.out 2; have hfz8_3 := blk_frozen BK180.out 3) | ((with_reducible refine gate_dst (N := 7) rfl ?_); refine box_event ?hg (N := 7) ?hd (cs := #[.int .i64 0, .int .i64 0, .int .i64 0, .int .i64 0]) (t := 40) ?hr ?_; (case hd => rfl); (case hg => rfl); (case hr => first | (go_simp; done) | (go_simp; rfl)); intro gb181 hg w9 hbox hb; have n0_ := Aside0.mk (blk_below (g := gb180) (o := .cells #[.int .i64 2, .int .i64 5, .int .i64 3, .int .i64 7] 40 (0, 0)) (by (with_reducible repeat (first | refine blk_drewN ?_ _ | refine blk_drew ?_ | refine blk_alloc ?_ _)); refine blk_put (cs := #[.int .i64 2, .int .i64 5, .int .i64 3, .int .i64 0]) ?_ 3 _ rfl; (with_reducible repeat (first | refine blk_drewN ?_ _ | refine blk_drew ?_ | refine blk_alloc ?_ _)); refine blk_put (cs := #[.int .i64 2, .int .i64 5, .int .i64 0, .int .i64 0]) ?_ 2 _ rfl; (with_reducible repeat (first | refine blk_drewN ?_ _ | refine blk_drew ?_ | refine blk_alloc ?_ _)); refine blk_put (cs := #[.int .i64 2, .int .i64 0, .int .i64 0, .int .i64 0]) ?_ 1 _ rfl; (with_reducible repeat (first | refine blk_drewN ?_ _ | refine blk_drew ?_ | refine blk_alloc ?_ _)); refine blk_put (cs := #[.int .i64 0, .int .i64 0, .int .i64 0, .int .i64 0]) ?_ 0 _ rfl; (with_reducible repeat (first | refine blk_drewN ?_ _ | refine blk_drew ?_ | refine blk_alloc ?_ _)); exact BK180.out) hb); have n1_ := Aside0.mk (below_step (by repeat (first | (with_reducible first | exact HB.out | apply below_alloc | apply pw_below_drewN | apply below_drew1 | refine below_set ?_ GE180.out) | exact HB.out)) hb); have n2_ := Aside0.mk (hbox); have n3_ := Aside0.mk ((by rw [hg]; exact (below_size (by repeat (first | (with_reducible first | exact HB.out | apply below_alloc | apply pw_below_drewN | apply below_drew1 | refine below_set ?_ GE180.out) | exact HB.out))) : w.heap.size ≤ gb181)); have n4_ := Aside0.mk ((by rw [hg]; exact (below_size (by repeat (first | (with_reducible first | exact HB.out | apply below_alloc | apply pw_below_drewN | apply below_drew1 | refine below_set ?_ GE180.out) | exact HB.out))) : w.heap.size ≤ gb181)); have n5_ := Aside0.mk ((by rw [hg]; exact Nat.ne_of_lt (blk_lt (g := gb180) (o := .cells #[.int .i64 2, .int .i64 5, .int .i64 3, .int .i64 7] 40 (0, 0)) (by (with_reducible repeat (first | refine blk_drewN ?_ _ | refine blk_drew ?_ | refine blk_alloc ?_ _)); refine blk_put (cs := #[.int .i64 2, .int .i64 5, .int .i64 3, .int .i64 0]) ?_ 3 _ rfl; (with_reducible repeat (first | refine blk_drewN ?_ _ | refine blk_drew ?_ | refine blk_alloc ?_ _)); refine blk_put (cs := #[.int .i64 2, .int .i64 5, .int .i64 0, .int .i64 0]) ?_ 2 _ rfl; (with_reducible repeat (first | refine blk_drewN ?_ _ | refine blk_drew ?_ | refine blk_alloc ?_ _)); refine blk_put (cs := #[.int .i64 2, .int .i64 0, .int .i64 0, .int .i64 0]) ?_ 1 _ rfl; (with_reducible repeat (first | refine blk_drewN ?_ _ | refine blk_drew ?_ | refine blk_alloc ?_ _)); refine blk_put (cs := #[.int .i64 0, .int .i64 0, .int .i64 0, .int .i64 0]) ?_ 0 _ rfl; (with_reducible repeat (first | refine blk_drewN ?_ _ | refine blk_drew ?_ | refine blk_alloc ?_ _)); exact BK180.out)) : gb180 ≠ gb181)); have n6_ := Aside0.mk ((by rw [hg]; exact Nat.ne_of_gt (blk_lt (g := gb180) (o := .cells #[.int .i64 2, .int .i64 5, .int .i64 3, .int .i64 7] 40 (0, 0)) (by (with_reducible repeat (first | refine blk_drewN ?_ _ | refine blk_drew ?_ | refine blk_alloc ?_ _)); refine blk_put (cs := #[.int .i64 2, .int .i64 5, .int .i64 3, .int .i64 0]) ?_ 3 _ rfl; (with_reducible repeat (first | refine blk_drewN ?_ _ | refine blk_drew ?_ | refine blk_alloc ?_ _)); refine blk_put (cs := #[.int .i64 2, .int .i64 5, .int .i64 0, .int .i64 0]) ?_ 2 _ rfl; (with_reducible repeat (first | refine blk_drewN ?_ _ | refine blk_drew ?_ | refine blk_alloc ?_ _)); refine blk_put (cs := #[.int .i64 2, .int .i64 0, .int .i64 0, .int .i64 0]) ?_ 1 _ rfl; (with_reducible repeat (first | refine blk_drewN ?_ _ | refine blk_drew ?_ | refine blk_alloc ?_ _)); refine blk_put (cs := #[.int .i64 0, .int .i64 0, .int .i64 0, .int .i64 0]) ?_ 0 _ rfl; (with_reducible repeat (first | refine blk_drewN ?_ _ | refine blk_drew ?_ | refine blk_alloc ?_ _)); exact BK180.out)) : gb181 ≠ gb180)); clear BK180; clear HB; have BK180 := n0_; have HB := n1_; have BK181 := n2_; have GW181 := n3_; have GE181 := n4_; have NB180_181 := n5_; have NB181_180 := n6_; clear n0_ n1_ n2_ n3_ n4_ n5_ n6_; clear hb hbox hg; have hnb10 := NB181_180.out; have hnc10 := NB180_181.out; have hcz11_0 : w9.cell? ⟨gb181, 0, none⟩ = some (.int .i64 0) := (blk_cell BK181.out 0).trans rfl; have hcz11_1 : w9.cell? ⟨gb181, 1, none⟩ = some (.int .i64 0) := (blk_cell BK181.out 1).trans rfl; have hcz11_2 : w9.cell? ⟨gb181, 2, none⟩ = some (.int .i64 0) := (blk_cell BK181.out 2).trans rfl; have hcz11_3 : w9.cell? ⟨gb181, 3, none⟩ = some (.int .i64 0) := (blk_cell BK181.out 3).trans rfl; have hfz11_0 := blk_frozen BK181.out 0; have hfz11_1 := blk_frozen BK181.out 1; have hfz11_2 := blk_frozen BK181.out 2; have hfz11_3 := blk_frozen BK181.out 3))
    (try simp only [Act.put, List.setIfInBounds_toArray, List.set_cons_zero, List.set_cons_succ])
    go_cut [] (fun wc => ∃ (kq : Nat) (x182000_4 : Int) (x182001_4 : Int) (x182002_4 : Int) (x182003_4 : Int), Aside0 (watchwordlaw17_NewerForms.j0 kq 2 5 3 7 x182000_4 x182001_4 x182002_4 x182003_4 = some r) ∧ Aside0 (kq ≤ k) ∧ Aside0 (wc.heap[gb180]? = some (.cells #[.int .i64 2, .int .i64 5, .int .i64 3, .int .i64 7] 40 (0, 0))) ∧ Aside0 (wc.heap[gb181]? = some (.cells #[.int .i64 x182000_4, .int .i64 x182001_4, .int .i64 x182002_4, .int .i64 x182003_4] 40 (0, 0))) ∧ Aside0 (Below w.heap.size w wc))
    case first =>
      have H := HC5.out
      clear HC5
      by_cases c12 : (Int.tmod (IntKind.u64.wrap (a0)) 6) = 0
      · rw [if_pos c12] at H
        have c12b0 : ((Int.tmod (IntKind.u64.wrap (a0)) 6) == 0) = true := beq_iff_eq.mpr c12
        have c12b1 : ((Int.tmod (IntKind.u64.wrap (a0)) 6) != 0) = false := bne_eq_false_iff_eq.mpr c12
        clear c12
        (first | rw [c12b0] | (simp only [i64_w, i32_w]; rw [c12b0]) | skip)
        have H' := Aside0.mk H
        clear H
        have hnb13 := NB181_180.out
        have hnc13 := NB180_181.out
        have hcz14_0 : w9.cell? ⟨gb181, 0, none⟩ = some (.int .i64 0) := (blk_cell BK181.out 0).trans rfl
        have hcz14_1 : w9.cell? ⟨gb181, 1, none⟩ = some (.int .i64 0) := (blk_cell BK181.out 1).trans rfl
        have hcz14_2 : w9.cell? ⟨gb181, 2, none⟩ = some (.int .i64 0) := (blk_cell BK181.out 2).trans rfl
        have hcz14_3 : w9.cell? ⟨gb181, 3, none⟩ = some (.int .i64 0) := (blk_cell BK181.out 3).trans rfl
        have hfz14_0 := blk_frozen BK181.out 0
        have hfz14_1 := blk_frozen BK181.out 1
        have hfz14_2 := blk_frozen BK181.out 2
        have hfz14_3 := blk_frozen BK181.out 3
        go_wp2
        go_meet
        case rel => exact ⟨_, (3), (5), (3), (7), H', ⟨by first | omega | exact Nat.le_refl _⟩, ⟨by (with_reducible repeat (first | refine blk_drewN ?_ _ | refine blk_drew ?_ | refine blk_alloc ?_ _)); refine blk_far ?_ NB180_181.out _; (with_reducible repeat (first | refine blk_drewN ?_ _ | refine blk_drew ?_ | refine blk_alloc ?_ _)); refine blk_far ?_ NB180_181.out _; (with_reducible repeat (first | refine blk_drewN ?_ _ | refine blk_drew ?_ | refine blk_alloc ?_ _)); refine blk_far ?_ NB180_181.out _; (with_reducible repeat (first | refine blk_drewN ?_ _ | refine blk_drew ?_ | refine blk_alloc ?_ _)); refine blk_far ?_ NB180_181.out _; (with_reducible repeat (first | refine blk_drewN ?_ _ | refine blk_drew ?_ | refine blk_alloc ?_ _)); refine blk_far ?_ NB180_181.out _; (with_reducible repeat (first | refine blk_drewN ?_ _ | refine blk_drew ?_ | refine blk_alloc ?_ _)); exact BK180.out⟩, ⟨by (with_reducible repeat (first | refine blk_drewN ?_ _ | refine blk_drew ?_ | refine blk_alloc ?_ _)); refine blk_put (cs := #[.int .i64 2, .int .i64 5, .int .i64 3, .int .i64 7]) ?_ 0 _ rfl; (with_reducible repeat (first | refine blk_drewN ?_ _ | refine blk_drew ?_ | refine blk_alloc ?_ _)); refine blk_put (cs := #[.int .i64 2, .int .i64 5, .int .i64 3, .int .i64 0]) ?_ 3 _ rfl; (with_reducible repeat (first | refine blk_drewN ?_ _ | refine blk_drew ?_ | refine blk_alloc ?_ _)); refine blk_put (cs := #[.int .i64 2, .int .i64 5, .int .i64 0, .int .i64 0]) ?_ 2 _ rfl; (with_reducible repeat (first | refine blk_drewN ?_ _ | refine blk_drew ?_ | refine blk_alloc ?_ _)); refine blk_put (cs := #[.int .i64 2, .int .i64 0, .int .i64 0, .int .i64 0]) ?_ 1 _ rfl; (with_reducible repeat (first | refine blk_drewN ?_ _ | refine blk_drew ?_ | refine blk_alloc ?_ _)); refine blk_put (cs := #[.int .i64 0, .int .i64 0, .int .i64 0, .int .i64 0]) ?_ 0 _ rfl; (with_reducible repeat (first | refine blk_drewN ?_ _ | refine blk_drew ?_ | refine blk_alloc ?_ _)); exact BK181.out⟩, ⟨by repeat (first | (with_reducible first | exact HB.out | apply below_alloc | apply pw_below_drewN | apply below_drew1 | refine below_set ?_ GE180.out | refine below_set ?_ GE181.out) | exact HB.out)⟩⟩
      · rw [if_neg c12] at H
        have c12b0 : ((Int.tmod (IntKind.u64.wrap (a0)) 6) == 0) = false := beq_eq_false_iff_ne.mpr c12
        have c12b1 : ((Int.tmod (IntKind.u64.wrap (a0)) 6) != 0) = true := bne_iff_ne.mpr c12
        (first | rw [c12b0] | (simp only [i64_w, i32_w]; rw [c12b0]) | skip)
        by_cases c15 : (Int.tmod (IntKind.u64.wrap (a0)) 6) = 1
        · rw [if_pos c15] at H
          have c15b0 : ((Int.tmod (IntKind.u64.wrap (a0)) 6) == 1) = true := beq_iff_eq.mpr c15
          have c15b1 : ((Int.tmod (IntKind.u64.wrap (a0)) 6) != 1) = false := bne_eq_false_iff_eq.mpr c15
          clear c15
          have H' := Aside0.mk H
          clear H
          have hnb16 := NB181_180.out
          have hnc16 := NB180_181.out
          have hcz17_0 : w9.cell? ⟨gb181, 0, none⟩ = some (.int .i64 0) := (blk_cell BK181.out 0).trans rfl
          have hcz17_1 : w9.cell? ⟨gb181, 1, none⟩ = some (.int .i64 0) := (blk_cell BK181.out 1).trans rfl
          have hcz17_2 : w9.cell? ⟨gb181, 2, none⟩ = some (.int .i64 0) := (blk_cell BK181.out 2).trans rfl
          have hcz17_3 : w9.cell? ⟨gb181, 3, none⟩ = some (.int .i64 0) := (blk_cell BK181.out 3).trans rfl
          have hfz17_0 := blk_frozen BK181.out 0
          have hfz17_1 := blk_frozen BK181.out 1
          have hfz17_2 := blk_frozen BK181.out 2
          have hfz17_3 := blk_frozen BK181.out 3
          go_wp2
          go_meet
          case rel => exact ⟨_, (2), (wrap64 (1 - (wrap64 (1 + (Go.bits .and .i64 a1 1023))))), (3), (7), H', ⟨by first | omega | exact Nat.le_refl _⟩, ⟨by (with_reducible repeat (first | refine blk_drewN ?_ _ | refine blk_drew ?_ | refine blk_alloc ?_ _)); refine blk_far ?_ NB180_181.out _; (with_reducible repeat (first | refine blk_drewN ?_ _ | refine blk_drew ?_ | refine blk_alloc ?_ _)); refine blk_far ?_ NB180_181.out _; (with_reducible repeat (first | refine blk_drewN ?_ _ | refine blk_drew ?_ | refine blk_alloc ?_ _)); refine blk_far ?_ NB180_181.out _; (with_reducible repeat (first | refine blk_drewN ?_ _ | refine blk_drew ?_ | refine blk_alloc ?_ _)); refine blk_far ?_ NB180_181.out _; (with_reducible repeat (first | refine blk_drewN ?_ _ | refine blk_drew ?_ | refine blk_alloc ?_ _)); refine blk_far ?_ NB180_181.out _; (with_reducible repeat (first | refine blk_drewN ?_ _ | refine blk_drew ?_ | refine blk_alloc ?_ _)); exact BK180.out⟩, ⟨by (with_reducible repeat (first | refine blk_drewN ?_ _ | refine blk_drew ?_ | refine blk_alloc ?_ _)); refine blk_put (cs := #[.int .i64 2, .int .i64 5, .int .i64 3, .int .i64 7]) ?_ 1 _ rfl; (with_reducible repeat (first | refine blk_drewN ?_ _ | refine blk_drew ?_ | refine blk_alloc ?_ _)); refine blk_put (cs := #[.int .i64 2, .int .i64 5, .int .i64 3, .int .i64 0]) ?_ 3 _ rfl; (with_reducible repeat (first | refine blk_drewN ?_ _ | refine blk_drew ?_ | refine blk_alloc ?_ _)); refine blk_put (cs := #[.int .i64 2, .int .i64 5, .int .i64 0, .int .i64 0]) ?_ 2 _ rfl; (with_reducible repeat (first | refine blk_drewN ?_ _ | refine blk_drew ?_ | refine blk_alloc ?_ _)); refine blk_put (cs := #[.int .i64 2, .int .i64 0, .int .i64 0, .int .i64 0]) ?_ 1 _ rfl; (with_reducible repeat (first | refine blk_drewN ?_ _ | refine blk_drew ?_ | refine blk_alloc ?_ _)); refine blk_put (cs := #[.int .i64 0, .int .i64 0, .int .i64 0, .int .i64 0]) ?_ 0 _ rfl; (with_reducible repeat (first | refine blk_drewN ?_ _ | refine blk_drew ?_ | refine blk_alloc ?_ _)); exact BK181.out⟩, ⟨by repeat (first | (with_reducible first | exact HB.out | apply below_alloc | apply pw_below_drewN | apply below_drew1 | refine below_set ?_ GE180.out | refine below_set ?_ GE181.out) | exact HB.out)⟩⟩
        · rw [if_neg c15] at H
          have c15b0 : ((Int.tmod (IntKind.u64.wrap (a0)) 6) == 1) = false := beq_eq_false_iff_ne.mpr c15
          have c15b1 : ((Int.tmod (IntKind.u64.wrap (a0)) 6) != 1) = true := bne_iff_ne.mpr c15
          by_cases c18 : (Int.tmod (IntKind.u64.wrap (a0)) 6) = 2
          · rw [if_pos c18] at H
            have c18b0 : ((Int.tmod (IntKind.u64.wrap (a0)) 6) == 2) = true := beq_iff_eq.mpr c18
            have c18b1 : ((Int.tmod (IntKind.u64.wrap (a0)) 6) != 2) = false := bne_eq_false_iff_eq.mpr c18
            clear c18
            have H' := Aside0.mk H
            clear H
            have hnb19 := NB181_180.out
            have hnc19 := NB180_181.out
            have hcz20_0 : w9.cell? ⟨gb181, 0, none⟩ = some (.int .i64 0) := (blk_cell BK181.out 0).trans rfl
            have hcz20_1 : w9.cell? ⟨gb181, 1, none⟩ = some (.int .i64 0) := (blk_cell BK181.out 1).trans rfl
            have hcz20_2 : w9.cell? ⟨gb181, 2, none⟩ = some (.int .i64 0) := (blk_cell BK181.out 2).trans rfl
            have hcz20_3 : w9.cell? ⟨gb181, 3, none⟩ = some (.int .i64 0) := (blk_cell BK181.out 3).trans rfl
            have hfz20_0 := blk_frozen BK181.out 0
            have hfz20_1 := blk_frozen BK181.out 1
            have hfz20_2 := blk_frozen BK181.out 2
            have hfz20_3 := blk_frozen BK181.out 3
            go_wp2
            go_meet
            case rel => exact ⟨_, (2), (5), (wrap64 (60 + (wrap64 (1 + (Go.bits .and .i64 a1 1023))))), (7), H', ⟨by first | omega | exact Nat.le_refl _⟩, ⟨by (with_reducible repeat (first | refine blk_drewN ?_ _ | refine blk_drew ?_ | refine blk_alloc ?_ _)); refine blk_far ?_ NB180_181.out _; (with_reducible repeat (first | refine blk_drewN ?_ _ | refine blk_drew ?_ | refine blk_alloc ?_ _)); refine blk_far ?_ NB180_181.out _; (with_reducible repeat (first | refine blk_drewN ?_ _ | refine blk_drew ?_ | refine blk_alloc ?_ _)); refine blk_far ?_ NB180_181.out _; (with_reducible repeat (first | refine blk_drewN ?_ _ | refine blk_drew ?_ | refine blk_alloc ?_ _)); refine blk_far ?_ NB180_181.out _; (with_reducible repeat (first | refine blk_drewN ?_ _ | refine blk_drew ?_ | refine blk_alloc ?_ _)); refine blk_far ?_ NB180_181.out _; (with_reducible repeat (first | refine blk_drewN ?_ _ | refine blk_drew ?_ | refine blk_alloc ?_ _)); exact BK180.out⟩, ⟨by (with_reducible repeat (first | refine blk_drewN ?_ _ | refine blk_drew ?_ | refine blk_alloc ?_ _)); refine blk_put (cs := #[.int .i64 2, .int .i64 5, .int .i64 3, .int .i64 7]) ?_ 2 _ rfl; (with_reducible repeat (first | refine blk_drewN ?_ _ | refine blk_drew ?_ | refine blk_alloc ?_ _)); refine blk_put (cs := #[.int .i64 2, .int .i64 5, .int .i64 3, .int .i64 0]) ?_ 3 _ rfl; (with_reducible repeat (first | refine blk_drewN ?_ _ | refine blk_drew ?_ | refine blk_alloc ?_ _)); refine blk_put (cs := #[.int .i64 2, .int .i64 5, .int .i64 0, .int .i64 0]) ?_ 2 _ rfl; (with_reducible repeat (first | refine blk_drewN ?_ _ | refine blk_drew ?_ | refine blk_alloc ?_ _)); refine blk_put (cs := #[.int .i64 2, .int .i64 0, .int .i64 0, .int .i64 0]) ?_ 1 _ rfl; (with_reducible repeat (first | refine blk_drewN ?_ _ | refine blk_drew ?_ | refine blk_alloc ?_ _)); refine blk_put (cs := #[.int .i64 0, .int .i64 0, .int .i64 0, .int .i64 0]) ?_ 0 _ rfl; (with_reducible repeat (first | refine blk_drewN ?_ _ | refine blk_drew ?_ | refine blk_alloc ?_ _)); exact BK181.out⟩, ⟨by repeat (first | (with_reducible first | exact HB.out | apply below_alloc | apply pw_below_drewN | apply below_drew1 | refine below_set ?_ GE180.out | refine below_set ?_ GE181.out) | exact HB.out)⟩⟩
          · rw [if_neg c18] at H
            have c18b0 : ((Int.tmod (IntKind.u64.wrap (a0)) 6) == 2) = false := beq_eq_false_iff_ne.mpr c18
            have c18b1 : ((Int.tmod (IntKind.u64.wrap (a0)) 6) != 2) = true := bne_iff_ne.mpr c18
            by_cases c21 : (Int.tmod (IntKind.u64.wrap (a0)) 6) = 3
            · rw [if_pos c21] at H
              have c21b0 : ((Int.tmod (IntKind.u64.wrap (a0)) 6) == 3) = true := beq_iff_eq.mpr c21
              have c21b1 : ((Int.tmod (IntKind.u64.wrap (a0)) 6) != 3) = false := bne_eq_false_iff_eq.mpr c21
              clear c21
              have H' := Aside0.mk H
              clear H
              have hnb22 := NB181_180.out
              have hnc22 := NB180_181.out
              have hcz23_0 : w9.cell? ⟨gb181, 0, none⟩ = some (.int .i64 0) := (blk_cell BK181.out 0).trans rfl
              have hcz23_1 : w9.cell? ⟨gb181, 1, none⟩ = some (.int .i64 0) := (blk_cell BK181.out 1).trans rfl
              have hcz23_2 : w9.cell? ⟨gb181, 2, none⟩ = some (.int .i64 0) := (blk_cell BK181.out 2).trans rfl
              have hcz23_3 : w9.cell? ⟨gb181, 3, none⟩ = some (.int .i64 0) := (blk_cell BK181.out 3).trans rfl
              have hfz23_0 := blk_frozen BK181.out 0
              have hfz23_1 := blk_frozen BK181.out 1
              have hfz23_2 := blk_frozen BK181.out 2
              have hfz23_3 := blk_frozen BK181.out 3
              go_wp2
              go_meet
              case rel => exact ⟨_, (2), (5), (3), (wrap64 (-(wrap64 (1 + (Go.bits .and .i64 a1 1023))))), H', ⟨by first | omega | exact Nat.le_refl _⟩, ⟨by (with_reducible repeat (first | refine blk_drewN ?_ _ | refine blk_drew ?_ | refine blk_alloc ?_ _)); refine blk_far ?_ NB180_181.out _; (with_reducible repeat (first | refine blk_drewN ?_ _ | refine blk_drew ?_ | refine blk_alloc ?_ _)); refine blk_far ?_ NB180_181.out _; (with_reducible repeat (first | refine blk_drewN ?_ _ | refine blk_drew ?_ | refine blk_alloc ?_ _)); refine blk_far ?_ NB180_181.out _; (with_reducible repeat (first | refine blk_drewN ?_ _ | refine blk_drew ?_ | refine blk_alloc ?_ _)); refine blk_far ?_ NB180_181.out _; (with_reducible repeat (first | refine blk_drewN ?_ _ | refine blk_drew ?_ | refine blk_alloc ?_ _)); refine blk_far ?_ NB180_181.out _; (with_reducible repeat (first | refine blk_drewN ?_ _ | refine blk_drew ?_ | refine blk_alloc ?_ _)); exact BK180.out⟩, ⟨by (with_reducible repeat (first | refine blk_drewN ?_ _ | refine blk_drew ?_ | refine blk_alloc ?_ _)); refine blk_put (cs := #[.int .i64 2, .int .i64 5, .int .i64 3, .int .i64 7]) ?_ 3 _ rfl; (with_reducible repeat (first | refine blk_drewN ?_ _ | refine blk_drew ?_ | refine blk_alloc ?_ _)); refine blk_put (cs := #[.int .i64 2, .int .i64 5, .int .i64 3, .int .i64 0]) ?_ 3 _ rfl; (with_reducible repeat (first | refine blk_drewN ?_ _ | refine blk_drew ?_ | refine blk_alloc ?_ _)); refine blk_put (cs := #[.int .i64 2, .int .i64 5, .int .i64 0, .int .i64 0]) ?_ 2 _ rfl; (with_reducible repeat (first | refine blk_drewN ?_ _ | refine blk_drew ?_ | refine blk_alloc ?_ _)); refine blk_put (cs := #[.int .i64 2, .int .i64 0, .int .i64 0, .int .i64 0]) ?_ 1 _ rfl; (with_reducible repeat (first | refine blk_drewN ?_ _ | refine blk_drew ?_ | refine blk_alloc ?_ _)); refine blk_put (cs := #[.int .i64 0, .int .i64 0, .int .i64 0, .int .i64 0]) ?_ 0 _ rfl; (with_reducible repeat (first | refine blk_drewN ?_ _ | refine blk_drew ?_ | refine blk_alloc ?_ _)); exact BK181.out⟩, ⟨by repeat (first | (with_reducible first | exact HB.out | apply below_alloc | apply pw_below_drewN | apply below_drew1 | refine below_set ?_ GE180.out | refine below_set ?_ GE181.out) | exact HB.out)⟩⟩
            · rw [if_neg c21] at H
              have c21b0 : ((Int.tmod (IntKind.u64.wrap (a0)) 6) == 3) = false := beq_eq_false_iff_ne.mpr c21
              have c21b1 : ((Int.tmod (IntKind.u64.wrap (a0)) 6) != 3) = true := bne_iff_ne.mpr c21
              by_cases c24 : (Int.tmod (IntKind.u64.wrap (a0)) 6) = 4
              · rw [if_pos c24] at H
                have c24b0 : ((Int.tmod (IntKind.u64.wrap (a0)) 6) == 4) = true := beq_iff_eq.mpr c24
                have c24b1 : ((Int.tmod (IntKind.u64.wrap (a0)) 6) != 4) = false := bne_eq_false_iff_eq.mpr c24
                clear c24
                have H' := Aside0.mk H
                clear H
                have hnb25 := NB181_180.out
                have hnc25 := NB180_181.out
                have hcz26_0 : w9.cell? ⟨gb181, 0, none⟩ = some (.int .i64 0) := (blk_cell BK181.out 0).trans rfl
                have hcz26_1 : w9.cell? ⟨gb181, 1, none⟩ = some (.int .i64 0) := (blk_cell BK181.out 1).trans rfl
                have hcz26_2 : w9.cell? ⟨gb181, 2, none⟩ = some (.int .i64 0) := (blk_cell BK181.out 2).trans rfl
                have hcz26_3 : w9.cell? ⟨gb181, 3, none⟩ = some (.int .i64 0) := (blk_cell BK181.out 3).trans rfl
                have hfz26_0 := blk_frozen BK181.out 0
                have hfz26_1 := blk_frozen BK181.out 1
                have hfz26_2 := blk_frozen BK181.out 2
                have hfz26_3 := blk_frozen BK181.out 3
                go_wp2
                go_meet
                case rel => exact ⟨_, (wrap64 (4 + (wrap64 (1 + (Go.bits .and .i64 a1 1023))))), (5), (3), (7), H', ⟨by first | omega | exact Nat.le_refl _⟩, ⟨by (with_reducible repeat (first | refine blk_drewN ?_ _ | refine blk_drew ?_ | refine blk_alloc ?_ _)); refine blk_far ?_ NB180_181.out _; (with_reducible repeat (first | refine blk_drewN ?_ _ | refine blk_drew ?_ | refine blk_alloc ?_ _)); refine blk_far ?_ NB180_181.out _; (with_reducible repeat (first | refine blk_drewN ?_ _ | refine blk_drew ?_ | refine blk_alloc ?_ _)); refine blk_far ?_ NB180_181.out _; (with_reducible repeat (first | refine blk_drewN ?_ _ | refine blk_drew ?_ | refine blk_alloc ?_ _)); refine blk_far ?_ NB180_181.out _; (with_reducible repeat (first | refine blk_drewN ?_ _ | refine blk_drew ?_ | refine blk_alloc ?_ _)); refine blk_far ?_ NB180_181.out _; (with_reducible repeat (first | refine blk_drewN ?_ _ | refine blk_drew ?_ | refine blk_alloc ?_ _)); exact BK180.out⟩, ⟨by (with_reducible repeat (first | refine blk_drewN ?_ _ | refine blk_drew ?_ | refine blk_alloc ?_ _)); refine blk_put (cs := #[.int .i64 2, .int .i64 5, .int .i64 3, .int .i64 7]) ?_ 0 _ rfl; (with_reducible repeat (first | refine blk_drewN ?_ _ | refine blk_drew ?_ | refine blk_alloc ?_ _)); refine blk_put (cs := #[.int .i64 2, .int .i64 5, .int .i64 3, .int .i64 0]) ?_ 3 _ rfl; (with_reducible repeat (first | refine blk_drewN ?_ _ | refine blk_drew ?_ | refine blk_alloc ?_ _)); refine blk_put (cs := #[.int .i64 2, .int .i64 5, .int .i64 0, .int .i64 0]) ?_ 2 _ rfl; (with_reducible repeat (first | refine blk_drewN ?_ _ | refine blk_drew ?_ | refine blk_alloc ?_ _)); refine blk_put (cs := #[.int .i64 2, .int .i64 0, .int .i64 0, .int .i64 0]) ?_ 1 _ rfl; (with_reducible repeat (first | refine blk_drewN ?_ _ | refine blk_drew ?_ | refine blk_alloc ?_ _)); refine blk_put (cs := #[.int .i64 0, .int .i64 0, .int .i64 0, .int .i64 0]) ?_ 0 _ rfl; (with_reducible repeat (first | refine blk_drewN ?_ _ | refine blk_drew ?_ | refine blk_alloc ?_ _)); exact BK181.out⟩, ⟨by repeat (first | (with_reducible first | exact HB.out | apply below_alloc | apply pw_below_drewN | apply below_drew1 | refine below_set ?_ GE180.out | refine below_set ?_ GE181.out) | exact HB.out)⟩⟩
              · rw [if_neg c24] at H
                have c24b0 : ((Int.tmod (IntKind.u64.wrap (a0)) 6) == 4) = false := beq_eq_false_iff_ne.mpr c24
                have c24b1 : ((Int.tmod (IntKind.u64.wrap (a0)) 6) != 4) = true := bne_iff_ne.mpr c24
                have H' := Aside0.mk H
                clear H
                have hnb27 := NB181_180.out
                have hnc27 := NB180_181.out
                have hcz28_0 : w9.cell? ⟨gb181, 0, none⟩ = some (.int .i64 0) := (blk_cell BK181.out 0).trans rfl
                have hcz28_1 : w9.cell? ⟨gb181, 1, none⟩ = some (.int .i64 0) := (blk_cell BK181.out 1).trans rfl
                have hcz28_2 : w9.cell? ⟨gb181, 2, none⟩ = some (.int .i64 0) := (blk_cell BK181.out 2).trans rfl
                have hcz28_3 : w9.cell? ⟨gb181, 3, none⟩ = some (.int .i64 0) := (blk_cell BK181.out 3).trans rfl
                have hfz28_0 := blk_frozen BK181.out 0
                have hfz28_1 := blk_frozen BK181.out 1
                have hfz28_2 := blk_frozen BK181.out 2
                have hfz28_3 := blk_frozen BK181.out 3
                go_wp2
                go_meet
                case rel => exact ⟨_, (2), (5), (3), (wrap64 (65535 + (wrap64 (1 + (Go.bits .and .i64 a1 1023))))), H', ⟨by first | omega | exact Nat.le_refl _⟩, ⟨by (with_reducible repeat (first | refine blk_drewN ?_ _ | refine blk_drew ?_ | refine blk_alloc ?_ _)); refine blk_far ?_ NB180_181.out _; (with_reducible repeat (first | refine blk_drewN ?_ _ | refine blk_drew ?_ | refine blk_alloc ?_ _)); refine blk_far ?_ NB180_181.out _; (with_reducible repeat (first | refine blk_drewN ?_ _ | refine blk_drew ?_ | refine blk_alloc ?_ _)); refine blk_far ?_ NB180_181.out _; (with_reducible repeat (first | refine blk_drewN ?_ _ | refine blk_drew ?_ | refine blk_alloc ?_ _)); refine blk_far ?_ NB180_181.out _; (with_reducible repeat (first | refine blk_drewN ?_ _ | refine blk_drew ?_ | refine blk_alloc ?_ _)); refine blk_far ?_ NB180_181.out _; (with_reducible repeat (first | refine blk_drewN ?_ _ | refine blk_drew ?_ | refine blk_alloc ?_ _)); exact BK180.out⟩, ⟨by (with_reducible repeat (first | refine blk_drewN ?_ _ | refine blk_drew ?_ | refine blk_alloc ?_ _)); refine blk_put (cs := #[.int .i64 2, .int .i64 5, .int .i64 3, .int .i64 7]) ?_ 3 _ rfl; (with_reducible repeat (first | refine blk_drewN ?_ _ | refine blk_drew ?_ | refine blk_alloc ?_ _)); refine blk_put (cs := #[.int .i64 2, .int .i64 5, .int .i64 3, .int .i64 0]) ?_ 3 _ rfl; (with_reducible repeat (first | refine blk_drewN ?_ _ | refine blk_drew ?_ | refine blk_alloc ?_ _)); refine blk_put (cs := #[.int .i64 2, .int .i64 5, .int .i64 0, .int .i64 0]) ?_ 2 _ rfl; (with_reducible repeat (first | refine blk_drewN ?_ _ | refine blk_drew ?_ | refine blk_alloc ?_ _)); refine blk_put (cs := #[.int .i64 2, .int .i64 0, .int .i64 0, .int .i64 0]) ?_ 1 _ rfl; (with_reducible repeat (first | refine blk_drewN ?_ _ | refine blk_drew ?_ | refine blk_alloc ?_ _)); refine blk_put (cs := #[.int .i64 0, .int .i64 0, .int .i64 0, .int .i64 0]) ?_ 0 _ rfl; (with_reducible repeat (first | refine blk_drewN ?_ _ | refine blk_drew ?_ | refine blk_alloc ?_ _)); exact BK181.out⟩, ⟨by repeat (first | (with_reducible first | exact HB.out | apply below_alloc | apply pw_below_drewN | apply below_drew1 | refine below_set ?_ GE180.out | refine below_set ?_ GE181.out) | exact HB.out)⟩⟩
    case rest =>
      clear HC5
      try clear c1
      try clear c2
      try clear p2
      try clear c4
      try clear p6
      try clear c9
      try clear c10
      try clear c12
      try clear c12b0
      try clear c12b1
      try clear c13
      try clear c15
      try clear c15b0
      try clear c15b1
      try clear c16
      try clear c18
      try clear c18b0
      try clear c18b1
      try clear c19
      try clear c21
      try clear c21b0
      try clear c21b1
      try clear c22
      try clear c24
      try clear c24b0
      try clear c24b1
      try clear c25
      try clear c26
      try clear c27
      try clear hcz11_0
      try clear hcz11_1
      try clear hcz11_2
      try clear hcz11_3
      try clear hcz14_0
      try clear hcz14_1
      try clear hcz14_2
      try clear hcz14_3
      try clear hcz17_0
      try clear hcz17_1
      try clear hcz17_2
      try clear hcz17_3
      try clear hcz20_0
      try clear hcz20_1
      try clear hcz20_2
      try clear hcz20_3
      try clear hcz23_0
      try clear hcz23_1
      try clear hcz23_2
      try clear hcz23_3
      try clear hcz26_0
      try clear hcz26_1
      try clear hcz26_2
      try clear hcz26_3
      try clear hcz28_0
      try clear hcz28_1
      try clear hcz28_2
      try clear hcz28_3
      try clear hcz8_0
      try clear hcz8_1
      try clear hcz8_2
      try clear hcz8_3
      try clear hfz11_0
      try clear hfz11_1
      try clear hfz11_2
      try clear hfz11_3
      try clear hfz14_0
      try clear hfz14_1
      try clear hfz14_2
      try clear hfz14_3
      try clear hfz17_0
      try clear hfz17_1
      try clear hfz17_2
      try clear hfz17_3
      try clear hfz20_0
      try clear hfz20_1
      try clear hfz20_2
      try clear hfz20_3
      try clear hfz23_0
      try clear hfz23_1
      try clear hfz23_2
      try clear hfz23_3
      try clear hfz26_0
      try clear hfz26_1
      try clear hfz26_2
      try clear hfz26_3
      try clear hfz28_0
      try clear hfz28_1
      try clear hfz28_2
      try clear hfz28_3
      try clear hfz8_0
      try clear hfz8_1
      try clear hfz8_2
      try clear hfz8_3
      obtain ⟨kq, x182000_4, x182001_4, x182002_4, x182003_4, HA, HJ4, BK180, BK181, HB⟩ := hcut
      cases kq with
      | zero => exact absurd HA.out (by simp [watchwordlaw17_NewerForms.j0])
      | succ kj4 =>
        have H := HA.out
        clear HA
        simp only [watchwordlaw17_NewerForms.j0] at H
        replace H := Option.bind_eq_some_iff.mp H
        obtain ⟨⟨t182, t183⟩, A290, H⟩ := H
        replace H : ((newer_Compare.f kj4 x182000_4 x182001_4 x182002_4 x182003_4 2 5 3 7).bind fun bt184 => (if t182 = 0 then (if bt184.1 = 0 then ((watchwordlaw0_Num.f t183).bind fun t186 => (if t186 = 1700 then ((watchwordlaw0_Num.f bt184.2).bind fun t187 => (some (t187 == 1700))) else (some false))) else (some false)) else (some false))) = some r := H
        have A29 := Aside0.mk A290
        clear A290
        replace H := Option.bind_eq_some_iff.mp H
        obtain ⟨⟨t184, t185⟩, A300, H⟩ := H
        replace H : (if t182 = 0 then (if t184 = 0 then ((watchwordlaw0_Num.f t183).bind fun t186 => (if t186 = 1700 then ((watchwordlaw0_Num.f t185).bind fun t187 => (some (t187 == 1700))) else (some false))) else (some false)) else (some false)) = some r := H
        have A30 := Aside0.mk A300
        clear A300
        by_cases c31 : t182 = 0
        · rw [if_pos c31] at H
          have c31b0 : (t182 == 0) = true := beq_iff_eq.mpr c31
          have c31b1 : (t182 != 0) = false := bne_eq_false_iff_eq.mpr c31
          clear c31
          by_cases c32 : t184 = 0
          · rw [if_pos c32] at H
            have c32b0 : (t184 == 0) = true := beq_iff_eq.mpr c32
            have c32b1 : (t184 != 0) = false := bne_eq_false_iff_eq.mpr c32
            clear c32
            replace H := Option.bind_eq_some_iff.mp H
            obtain ⟨t186, A330, H⟩ := H
            replace H : (if t186 = 1700 then ((watchwordlaw0_Num.f t185).bind fun t187 => (some (t187 == 1700))) else (some false)) = some r := H
            have A33 := Aside0.mk A330
            clear A330
            by_cases c34 : t186 = 1700
            · rw [if_pos c34] at H
              have c34b0 : (t186 == 1700) = true := beq_iff_eq.mpr c34
              have c34b1 : (t186 != 1700) = false := bne_eq_false_iff_eq.mpr c34
              clear c34
              replace H := Option.bind_eq_some_iff.mp H
              obtain ⟨t187, A350, H⟩ := H
              replace H : (some (t187 == 1700)) = some r := H
              have A35 := Aside0.mk A350
              clear A350
              obtain rfl := Option.some.inj H
              have hnb36 := NB180_181.out
              have hnc36 := NB181_180.out
              have hcz37_0 : wc.cell? ⟨gb180, 0, none⟩ = some (.int .i64 2) := (blk_cell BK180.out 0).trans rfl
              have hcz37_1 : wc.cell? ⟨gb180, 1, none⟩ = some (.int .i64 5) := (blk_cell BK180.out 1).trans rfl
              have hcz37_2 : wc.cell? ⟨gb180, 2, none⟩ = some (.int .i64 3) := (blk_cell BK180.out 2).trans rfl
              have hcz37_3 : wc.cell? ⟨gb180, 3, none⟩ = some (.int .i64 7) := (blk_cell BK180.out 3).trans rfl
              have hfz37_0 := blk_frozen BK180.out 0
              have hfz37_1 := blk_frozen BK180.out 1
              have hfz37_2 := blk_frozen BK180.out 2
              have hfz37_3 := blk_frozen BK180.out 3
              have hcz38_0 : wc.cell? ⟨gb181, 0, none⟩ = some (.int .i64 x182000_4) := (blk_cell BK181.out 0).trans rfl
              have hcz38_1 : wc.cell? ⟨gb181, 1, none⟩ = some (.int .i64 x182001_4) := (blk_cell BK181.out 1).trans rfl
              have hcz38_2 : wc.cell? ⟨gb181, 2, none⟩ = some (.int .i64 x182002_4) := (blk_cell BK181.out 2).trans rfl
              have hcz38_3 : wc.cell? ⟨gb181, 3, none⟩ = some (.int .i64 x182003_4) := (blk_cell BK181.out 3).trans rfl
              have hfz38_0 := blk_frozen BK181.out 0
              have hfz38_1 := blk_frozen BK181.out 1
              have hfz38_2 := blk_frozen BK181.out 2
              have hfz38_3 := blk_frozen BK181.out 3
              go_wp2_with (first | ((with_reducible refine gate_callee (f := 24) rfl ?_); refine goesL_ (some 51) rfl rfl Try.func24 (by kernel_rfl) rfl #[.agg #[.int .i64 2, .int .i64 5, .int .i64 3, .int .i64 7], .agg #[.int .i64 x182000_4, .int .i64 x182001_4, .int .i64 x182002_4, .int .i64 x182003_4]] rfl (by (try simp only [List.map_toArray, List.map_cons, List.map_nil]); first | done | rfl | (simp only [List.length_drop, List.length_take]; rfl)) ?_; (with_reducible refine (newer_Compare.calls kj4 2 5 3 7 x182000_4 x182001_4 x182002_4 x182003_4 t182 t183 _ A29.out).mono ?_); rintro e w39 ⟨rfl, hb⟩; refine ⟨_, rfl, ?_⟩; have n0_ := Aside0.mk (blk_below (g := gb180) (o := .cells #[.int .i64 2, .int .i64 5, .int .i64 3, .int .i64 7] 40 (0, 0)) (by (with_reducible repeat (first | refine blk_drewN ?_ _ | refine blk_drew ?_ | refine blk_alloc ?_ _)); exact BK180.out) hb); have n1_ := Aside0.mk (blk_below (g := gb181) (o := .cells #[.int .i64 x182000_4, .int .i64 x182001_4, .int .i64 x182002_4, .int .i64 x182003_4] 40 (0, 0)) (by (with_reducible repeat (first | refine blk_drewN ?_ _ | refine blk_drew ?_ | refine blk_alloc ?_ _)); exact BK181.out) hb); have n2_ := Aside0.mk (below_step (by repeat (first | (with_reducible first | exact HB.out | apply below_alloc | apply pw_below_drewN | apply below_drew1 | refine below_set ?_ GE180.out | refine below_set ?_ GE181.out) | exact HB.out)) hb); clear BK180; clear BK181; clear HB; have BK180 := n0_; have BK181 := n1_; have HB := n2_; clear n0_ n1_ n2_; (try clear hb); (try clear hb2); (try clear hk); (try clear hi); have hcz40_0 : w39.cell? ⟨gb181, 0, none⟩ = some (.int .i64 x182000_4) := (blk_cell BK181.out 0).trans rfl; have hcz40_1 : w39.cell? ⟨gb181, 1, none⟩ = some (.int .i64 x182001_4) := (blk_cell BK181.out 1).trans rfl; have hcz40_2 : w39.cell? ⟨gb181, 2, none⟩ = some (.int .i64 x182002_4) := (blk_cell BK181.out 2).trans rfl; have hcz40_3 : w39.cell? ⟨gb181, 3, none⟩ = some (.int .i64 x182003_4) := (blk_cell BK181.out 3).trans rfl; have hfz40_0 := blk_frozen BK181.out 0; have hfz40_1 := blk_frozen BK181.out 1; have hfz40_2 := blk_frozen BK181.out 2; have hfz40_3 := blk_frozen BK181.out 3; have hcz41_0 : w39.cell? ⟨gb180, 0, none⟩ = some (.int .i64 2) := (blk_cell BK180.out 0).trans rfl; have hcz41_1 : w39.cell? ⟨gb180, 1, none⟩ = some (.int .i64 5) := (blk_cell BK180.out 1).trans rfl; have hcz41_2 : w39.cell? ⟨gb180, 2, none⟩ = some (.int .i64 3) := (blk_cell BK180.out 2).trans rfl; have hcz41_3 : w39.cell? ⟨gb180, 3, none⟩ = some (.int .i64 7) := (blk_cell BK180.out 3).trans rfl; have hfz41_0 := blk_frozen BK180.out 0; have hfz41_1 := blk_frozen BK180.out 1; have hfz41_2 := blk_frozen BK180.out 2; have hfz41_3 := blk_frozen BK180.out 3) | ((with_reducible refine gate_callee (f := 24) rfl ?_); refine goesL_ (some 57) rfl rfl Try.func24 (by kernel_rfl) rfl #[.agg #[.int .i64 x182000_4, .int .i64 x182001_4, .int .i64 x182002_4, .int .i64 x182003_4], .agg #[.int .i64 2, .int .i64 5, .int .i64 3, .int .i64 7]] rfl (by (try simp only [List.map_toArray, List.map_cons, List.map_nil]); first | done | rfl | (simp only [List.length_drop, List.length_take]; rfl)) ?_; (with_reducible refine (newer_Compare.calls kj4 x182000_4 x182001_4 x182002_4 x182003_4 2 5 3 7 t184 t185 _ A30.out).mono ?_); rintro e w42 ⟨rfl, hb⟩; refine ⟨_, rfl, ?_⟩; have n0_ := Aside0.mk (blk_below (g := gb180) (o := .cells #[.int .i64 2, .int .i64 5, .int .i64 3, .int .i64 7] 40 (0, 0)) (by (with_reducible repeat (first | refine blk_drewN ?_ _ | refine blk_drew ?_ | refine blk_alloc ?_ _)); exact BK180.out) hb); have n1_ := Aside0.mk (blk_below (g := gb181) (o := .cells #[.int .i64 x182000_4, .int .i64 x182001_4, .int .i64 x182002_4, .int .i64 x182003_4] 40 (0, 0)) (by (with_reducible repeat (first | refine blk_drewN ?_ _ | refine blk_drew ?_ | refine blk_alloc ?_ _)); exact BK181.out) hb); have n2_ := Aside0.mk (below_step (by repeat (first | (with_reducible first | exact HB.out | apply below_alloc | apply pw_below_drewN | apply below_drew1 | refine below_set ?_ GE180.out | refine below_set ?_ GE181.out) | exact HB.out)) hb); clear BK180; clear BK181; clear HB; have BK180 := n0_; have BK181 := n1_; have HB := n2_; clear n0_ n1_ n2_; (try clear hb); (try clear hb2); (try clear hk); (try clear hi)) | (go_at_call 17; (with_reducible refine (watchwordlaw0_Num.calls t183 t186 _ A33.out).mono ?_); rintro e w' ⟨rfl, ⟨nd, rfl⟩⟩) | (go_at_call 17; (with_reducible refine (watchwordlaw0_Num.calls t185 t187 _ A35.out).mono ?_); rintro e w' ⟨rfl, ⟨nd, rfl⟩⟩))
              go_ret
              exact ⟨by first | rfl | (simp [errW_none, errW_some] <;> rfl) | (simp [*, errW_none, errW_some] <;> rfl), by repeat (first | (with_reducible first | exact HB.out | apply below_alloc | apply pw_below_drewN | apply below_drew1 | refine below_set ?_ GE180.out | refine below_set ?_ GE181.out) | exact HB.out)⟩
            · rw [if_neg c34] at H
              have c34b0 : (t186 == 1700) = false := beq_eq_false_iff_ne.mpr c34
              have c34b1 : (t186 != 1700) = true := bne_iff_ne.mpr c34
              exact absurd (Option.some.inj H) (by rw [HT.out]; decide)
          · rw [if_neg c32] at H
            have c32b0 : (t184 == 0) = false := beq_eq_false_iff_ne.mpr c32
            have c32b1 : (t184 != 0) = true := bne_iff_ne.mpr c32
            exact absurd (Option.some.inj H) (by rw [HT.out]; decide)
        · rw [if_neg c31] at H
          have c31b0 : (t182 == 0) = false := beq_eq_false_iff_ne.mpr c31
          have c31b1 : (t182 != 0) = true := bne_iff_ne.mpr c31
          exact absurd (Option.some.inj H) (by rw [HT.out]; decide)
  · replace c4 := Bool.eq_false_iff.mpr c4
    subst c4
    have H1 : (some false) = some r := by rw [if_neg (show ¬ (false = true) by decide)] at H; exact H
    clear H
    have H := H1
    clear H1
    exact absurd (Option.some.inj H) (by rw [HT.out]; decide)

/-- THE ONE PURE STATEMENT of watchwordlaw17_NewerForms: yours. -/
def watchwordlaw17_NewerForms.Pure : Prop := ∀ (a0 : Int) (a1 : Int), (Lit.int .i64 a0).wf = true → (Lit.int .i64 a1).wf = true → ∃ k, watchwordlaw17_NewerForms.f k a0 a1 = some true
theorem watchwordlaw17_NewerForms.walk (P : watchwordlaw17_NewerForms.Pure) (a0 : Int) (a1 : Int) (w : World) (w0 : (Lit.int .i64 a0).wf = true) (w1 : (Lit.int .i64 a1).wf = true) :
    Calls Try.prog 9 #[.int .i64 a0, .int .i64 a1] w fun e w' => e = .returned (.bool true) ∧ Below w.heap.size w w' := by
  obtain ⟨k, h⟩ := P a0 a1 w0 w1
  refine (watchwordlaw17_NewerForms.calls k a0 a1 true w h rfl).mono ?_
  rintro e w' ⟨rfl, hd⟩
  exact ⟨rfl, hd⟩

end Go.Proofs.Ytdmnfmkeifjmlaa.Q17
